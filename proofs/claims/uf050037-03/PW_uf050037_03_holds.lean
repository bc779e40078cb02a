import PyProof.Rows.All
import Wide.All
import Wide.FinOn
import Open.Line
import PyProof.P3In
import PyProof.NeData
import PyProof.CompFree
import PyProof.DictRoadsH
import PyProof.DictWalks
import PyProof.Rows.SortShell
import PyProof.Rows.RuleB_xor
import PyProof.Rows.RuleB_small
import PyProof.Rows.RuleB_floordiv
import PyProof.Rows.RuleB_mod
import PyProof.Rows.RuleB_mul
import PyProof.Rows.IntRules
import PyProof.Rows.RuleC_int
import PyProof.Rows.RuleU_int
import PyProof.ListOps
import PyProof.Cells
import PyProof.Calls
import PyProof.SliceMore
import PyProof.TupleOfSeq
import PyProof.ListCopy
import PyProof.DictStraight
import PyProof.Rows.StrTemp
import PyProof.TupleOps
import PyProof.ListIndexNeg
import PyProof.Rules3
import PyProof.SliceList
import PyProof.Rows.TupSub
import PyProof.ForRange
import PyProof.Rows.DictMade
import PyProof.WalkInts
import PyProof.SeqI3
import PyProof.SumWalkG
import PyProof.WalksMore
import PyProof.IsiPairs
import PyProof.IsiHeapPairs
import PyProof.ListRange
import PyProof.Rows.SortWalk
import PyProof.IsiNone
import PyProof.ForAppend
import PyProof.CallRoads
import PyProof.MeetsSeq
import PyProof.AutoSeq1
import PyProof.ForAny
import PyProof.Raises
import PySem.Challenge.RW_uf050037_03
set_option Elab.async false
set_option autoImplicit false

namespace Mine
open PySem

inductive Mode where
  | sh | top | deep
  deriving DecidableEq

/-- values of the evaluator: plain data; the two kinds of dict that the programs fill (each value True); an own instance by its fields -/
inductive V where
  | d (x : PyData)
  | dic0
  | dicI (ks : List Int)
  | dicT (ks : List (List Int))
  | inst (fs : List (String × PyData))

inductive Out (α : Type) where
  | ok (a : α)
  | exc (c : String)
  | bad

namespace Out
noncomputable def bind {α β : Type} : Out α → (α → Out β) → Out β
  | .ok a, f => f a
  | .exc c, _ => .exc c
  | .bad, _ => .bad
@[simp] theorem ok_bind {α β : Type} (a : α) (f : α → Out β) : (Out.ok a).bind f = f a := rfl
@[simp] theorem exc_bind {α β : Type} (c : String) (f : α → Out β) : (Out.exc c : Out α).bind f = .exc c := rfl
@[simp] theorem bad_bind {α β : Type} (f : α → Out β) : (Out.bad : Out α).bind f = .bad := rfl
/-- what raises within a comprehension is not served -/
noncomputable def calm {α : Type} : Out α → Out α
  | .ok a => .ok a
  | _ => .bad
@[simp] theorem calm_ok {α : Type} (a : α) : (Out.ok a).calm = .ok a := rfl
theorem bind_ok {α β : Type} {o : Out α} {f : α → Out β} {b : β} (h : o.bind f = .ok b) : ∃ a, o = .ok a ∧ f a = .ok b := by
  cases o with
  | ok a => exact ⟨a, rfl, h⟩
  | exc c => cases h
  | bad => cases h
end Out

inductive BOp where
  | add | sub | mul | fdiv | mod | pow | xor
  deriving DecidableEq
inductive COp where
  | eq | ne | lt | le | gt | ge | isin | notin | is | isnot
  deriving DecidableEq
inductive B1 where
  | len | list | tuple | sorted | max | sum
  deriving DecidableEq
inductive B2 where
  | max | min
  deriving DecidableEq

mutual
inductive E where
  | name (x : String)
  | int (i : Int)
  | str (s : String)
  | bool (b : Bool)
  | none
  | bin (o : BOp) (a b : E)
  | neg (a : E)
  | not (a : E)
  | cmp (o : COp) (a b : E)
  | and (a b : E)
  | or (a b : E)
  | list (es : Es)
  | tup (es : Es)
  | dict
  | comp (elt : E) (x : String) (it : It)
  | compif (elt : E) (x : String) (it : It) (c : E)
  | sub (a i : E)
  | slo (a lo : E)
  | shi (a hi : E)
  | rev (a : E)
  | attr (a : E) (n : String)
  | bi1 (f : B1) (a : E)
  | bi2 (f : B2) (a b : E)
  | listR (n : E)
  | isi (a : E) (t : String)
  | call (f : String) (es : Es)
  | meth (a : E) (m : String) (es : Es)
inductive Es where
  | nil
  | cons (e : E) (es : Es)
inductive It where
  | e (a : E)
  | r1 (n : E)
  | r2 (a b : E)
end

abbrev St := String → Option (V × Mode)
abbrev Calls := String → Option (List V → Out (V × Mode))

noncomputable def upd (σ : St) (x : String) (v : V × Mode) : St := fun y => if y = x then some v else σ y

noncomputable def sx : PyData → Bool
  | .none | .bool _ | .int _ | .str _ => true
  | .list _ | .tuple _ | .dict _ => false
noncomputable def scal : V → Bool
  | .d x => sx x
  | _ => false
noncomputable def mk (v : V) : V × Mode := (v, if scal v then .deep else .sh)
noncomputable def fresh (xs : List PyData) : Mode := if xs.all sx then .deep else .top
noncomputable def lim : Nat := 1000000

noncomputable def okc (d : PyData) : Bool := d.canLay0 && decide (d.depth ≤ 64)

noncomputable def sI (i : Int) : V × Mode := (.d (.int i), .deep)
noncomputable def sB (b : Bool) : V × Mode := (.d (.bool b), .deep)

noncomputable def keyI : PyData → Option Int
  | .int i => some i
  | _ => none
noncomputable def intsOf : List PyData → Option (List Int)
  | [] => some []
  | .int i :: r => (intsOf r).map (i :: ·)
  | _ :: _ => none
noncomputable def keyT : PyData → Option (List Int)
  | .tuple xs => intsOf xs
  | _ => none

/-- the parts of a value that must be of a kind -/
noncomputable def optO {α β : Type} (o : Option α) (f : α → Out β) : Out β := match o with
  | some a => f a
  | none => .bad
theorem optO_ok {α β : Type} {o : Option α} {f : α → Out β} {r : β} (h : optO o f = .ok r) : ∃ a, o = some a ∧ f a = .ok r := by
  cases o with
  | some a => exact ⟨a, rfl, h⟩
  | none => cases h
/-- what never raises -/
def NE {α : Type} (o : Out α) : Prop := ∀ c, o ≠ .exc c
theorem NE.ok {α : Type} {a : α} : NE (Out.ok a) := fun _ h => by cases h
theorem NE.bad {α : Type} : NE (Out.bad : Out α) := fun _ h => by cases h
theorem NE.opt {α β : Type} {o : Option α} {f : α → Out β} (h : ∀ a, NE (f a)) : NE (optO o f) := by
  cases o with
  | some a => exact h a
  | none => exact .bad
theorem NE.ite {α : Type} {c : Prop} [Decidable c] {a b : Out α} (ha : NE a) (hb : NE b) : NE (if c then a else b) := by
  by_cases h : c
  · rw [if_pos h]; exact ha
  · rw [if_neg h]; exact hb
theorem NE.bind {α β : Type} {o : Out α} {f : α → Out β} (ho : NE o) (h : ∀ a, NE (f a)) : NE (o.bind f) := by
  cases o with
  | ok a => exact h a
  | exc c => exact absurd rfl (ho c)
  | bad => exact .bad
noncomputable def asL : PyData → Option (List PyData)
  | .list xs => some xs
  | _ => none
noncomputable def asD : V → Option PyData
  | .d x => some x
  | _ => none
noncomputable def isN : PyData → Bool
  | .none => true
  | _ => false
theorem keyI_inv {x : PyData} {i : Int} (h : keyI x = some i) : x = .int i := by cases x <;> cases h; rfl
theorem asL_inv {x : PyData} {i : List PyData} (h : asL x = some i) : x = .list i := by cases x <;> cases h; rfl
theorem asD_inv {x : V} {i : PyData} (h : asD x = some i) : x = .d i := by cases x <;> cases h; rfl
theorem isN_inv {x : PyData} (h : isN x = true) : x = .none := by cases x <;> first | rfl | cases h
noncomputable def i2 {β : Type} (x y : PyData) (f : Int → Int → Out β) : Out β := optO (keyI x) fun a => optO (keyI y) fun b => f a b
theorem i2_ok {β : Type} {x y : PyData} {f : Int → Int → Out β} {r : β} (h : i2 x y f = .ok r) : ∃ a b, x = .int a ∧ y = .int b ∧ f a b = .ok r := by
  obtain ⟨a, h1, h⟩ := optO_ok h
  obtain ⟨b, h2, h⟩ := optO_ok h
  exact ⟨a, b, keyI_inv h1, keyI_inv h2, h⟩
noncomputable def d2 {β : Type} (x y : V) (f : PyData → PyData → Out β) : Out β := optO (asD x) fun a => optO (asD y) fun b => f a b
theorem d2_ok {β : Type} {x y : V} {f : PyData → PyData → Out β} {r : β} (h : d2 x y f = .ok r) : ∃ a b, x = .d a ∧ y = .d b ∧ f a b = .ok r := by
  obtain ⟨a, h1, h⟩ := optO_ok h
  obtain ⟨b, h2, h⟩ := optO_ok h
  exact ⟨a, b, asD_inv h1, asD_inv h2, h⟩

noncomputable def addV (x y : PyData) : Out (V × Mode) := match asL x with
  | some a => optO (asL y) fun b => if a.length + b.length ≤ lim then .ok (.d (.list (a ++ b)), fresh (a ++ b)) else .bad
  | none => i2 x y fun a b => .ok (sI (a + b))
noncomputable def binV (o : BOp) (x y : PyData) : Out (V × Mode) := match o with
  | .add => addV x y
  | .sub => i2 x y fun a b => .ok (sI (a - b))
  | .mul => i2 x y fun a b => if a.natAbs < 2 ^ 63 ∨ b.natAbs < 2 ^ 63 then .ok (sI (a * b)) else .bad
  | .fdiv => i2 x y fun a b => if b = 0 ∨ 1000000000 ≤ b.natAbs then .bad else .ok (sI (a.fdiv b))
  | .mod => i2 x y fun a b => if b = 0 then .bad else .ok (sI (a.fmod b))
  | .pow => i2 x y fun a b => if 0 ≤ b ∧ b ≤ 1000 ∧ a.natAbs < 2 ^ 63 then .ok (sI (a ^ b.toNat)) else .bad
  | .xor => i2 x y fun a b => .ok (sI (Builtin.bitXor a b))
theorem binV_ne {o : BOp} {x y : PyData} : NE (binV o x y) := by
  have h : ∀ (f : Int → Int → Out (V × Mode)), (∀ a b, NE (f a b)) → NE (i2 x y f) := fun f hf => .opt fun a => .opt fun b => hf a b
  cases o with
  | add =>
    show NE (addV x y)
    unfold addV
    cases asL x with
    | some a => exact .opt fun b => .ite .ok .bad
    | none => exact h _ fun _ _ => .ok
  | sub => exact h _ fun _ _ => .ok
  | mul => exact h _ fun _ _ => .ite .ok .bad
  | fdiv => exact h _ fun _ _ => .ite .bad .ok
  | mod => exact h _ fun _ _ => .ite .bad .ok
  | pow => exact h _ fun _ _ => .ite .ok .bad
  | xor => exact h _ fun _ _ => .ok

noncomputable def inV (k : PyData) (c : V) : Out Bool := match c with
  | .d x => optO (asL x) fun xs => if okc k && okc (.list xs) then .ok (xs.any fun y => PyData.eqv y k) else .bad
  | .dicI ks => optO (keyI k) fun i => .ok (decide (i ∈ ks))
  | .dicT ks => optO (keyT k) fun i => .ok (decide (i ∈ ks))
  | .dic0 => if (keyI k).isSome || (keyT k).isSome then .ok false else .bad
  | .inst _ => .bad
theorem inV_ne {k : PyData} {c : V} : NE (inV k c) := by
  cases c with
  | d x => exact .opt fun _ => .ite .ok .bad
  | dicI ks => exact .opt fun _ => .ok
  | dicT ks => exact .opt fun _ => .ok
  | dic0 => exact .ite .ok .bad
  | inst _ => exact .bad

noncomputable def cmpV (o : COp) (x y : V) : Out Bool := match o with
  | .eq => d2 x y fun a b => if okc a && okc b then .ok (PyData.eqv a b) else .bad
  | .ne => d2 x y fun a b => if okc a && okc b then .ok (!PyData.eqv a b) else .bad
  | .lt => d2 x y fun a b => i2 a b fun a b => .ok (decide (a < b))
  | .le => d2 x y fun a b => i2 a b fun a b => .ok (decide (a ≤ b))
  | .gt => d2 x y fun a b => i2 a b fun a b => .ok (decide (b < a))
  | .ge => d2 x y fun a b => i2 a b fun a b => .ok (decide (b ≤ a))
  | .isin => optO (asD x) fun k => inV k y
  | .notin => d2 x y fun k c => (inV k (.d c)).bind fun b => .ok (!b)
  | .is => d2 x y fun a b => if isN b then .ok (isN a) else .bad
  | .isnot => d2 x y fun a b => if isN b then .ok (!isN a) else .bad
theorem cmpV_ne {o : COp} {x y : V} : NE (cmpV o x y) := by
  have h : ∀ (f : PyData → PyData → Out Bool), (∀ a b, NE (f a b)) → NE (d2 x y f) := fun f hf => .opt fun a => .opt fun b => hf a b
  cases o with
  | eq => exact h _ fun _ _ => .ite .ok .bad
  | ne => exact h _ fun _ _ => .ite .ok .bad
  | isin => exact .opt fun _ => inV_ne
  | notin => exact h _ fun _ _ => .bind inV_ne fun _ => .ok
  | is => exact h _ fun _ _ => .ite .ok .bad
  | isnot => exact h _ fun _ _ => .ite .ok .bad
  | _ => exact h _ fun _ _ => .opt fun _ => .opt fun _ => .ok

noncomputable def seqIdx (i : Int) (n : Nat) : Option Nat := if 0 ≤ i then (if i < n then some i.toNat else none) else (if -(n : Int) ≤ i then some (i + n).toNat else none)

noncomputable def asT : PyData → Option (List PyData)
  | .tuple xs => some xs
  | _ => none
theorem asT_inv {x : PyData} {i : List PyData} (h : asT x = some i) : x = .tuple i := by cases x <;> cases h; rfl
/-- an item, by its place -/
noncomputable def elem (x : PyData) (i : Int) : Option PyData := match asL x with
  | some xs => (seqIdx i xs.length).bind fun k => xs[k]?
  | none => match asT x with
    | some xs => (seqIdx i xs.length).bind fun k => xs[k]?
    | none => none
noncomputable def subV (x y : PyData) : Out (V × Mode) := optO (keyI y) fun i => optO (elem x i) fun z => .ok (mk (.d z))
theorem subV_ne {x y : PyData} : NE (subV x y) := .opt fun _ => .opt fun _ => .ok
/-- one more item in the list at the end of a path -/
noncomputable def modP (y : PyData) : List Int → PyData → Option PyData
  | [], d => (asL d).bind fun xs => if xs.length < lim then some (.list (xs ++ [y])) else none
  | k :: p, d => match asL d with
    | some xs => (seqIdx k xs.length).bind fun j => (xs[j]?).bind fun e => (modP y p e).map fun e' => .list (xs.set j e')
    | none => (asT d).bind fun xs => (seqIdx k xs.length).bind fun j => (xs[j]?).bind fun e => (modP y p e).map fun e' => .tuple (xs.set j e')

/-- a slice's bound, not below nought -/
noncomputable def sloV : PyData → PyData → Out (V × Mode)
  | .list xs, .int i => if 0 ≤ i ∧ i < 2 ^ 62 then .ok (.d (.list (xs.drop i.toNat)), fresh (xs.drop i.toNat)) else .bad
  | _, _ => .bad
noncomputable def shiV : PyData → PyData → Out (V × Mode)
  | .list xs, .int i => if 0 ≤ i ∧ i < 2 ^ 62 then .ok (.d (.list (xs.take i.toNat)), fresh (xs.take i.toNat)) else .bad
  | _, _ => .bad
noncomputable def revV : PyData → Out (V × Mode)
  | .list xs => .ok (.d (.list xs.reverse), fresh xs.reverse)
  | _ => .bad

noncomputable def rowsOf : List PyData → Option (List (List Int))
  | [] => some []
  | .list xs :: r => (intsOf xs).bind fun i => (rowsOf r).map (i :: ·)
  | _ :: _ => none
noncomputable def tupsOf : List PyData → Option (List (List Int))
  | [] => some []
  | .tuple xs :: r => (intsOf xs).bind fun i => (tupsOf r).map (i :: ·)
  | _ :: _ => none

/-- rows as Python orders them -/
noncomputable def rowLe : List Int → List Int → Bool
  | [], _ => true
  | _ :: _, [] => false
  | a :: r, b :: t => decide (a < b) || (decide (a = b) && rowLe r t)

noncomputable def ofInts (xs : List Int) : PyData := .list (xs.map .int)
noncomputable def ofTup (xs : List Int) : PyData := .tuple (xs.map .int)
noncomputable def ofRows (t : List (List Int)) : PyData := .list (t.map ofInts)

noncomputable def sortedV (xs : List PyData) : Out (V × Mode) :=
  if xs.length < 64 then
    optO (intsOf xs) fun ns => .ok (.d (ofInts (ns.mergeSort (fun a b => decide (a ≤ b)))), .deep)
  else .bad

noncomputable def maxL : List Int → Option Int
  | [] => none
  | x :: xs => some (xs.foldl (fun a b => if a < b then b else a) x)

noncomputable def b1V (f : B1) (v : V) : Out (V × Mode) := optO (asD v) fun x => match f with
  | .len => (match asT x with
    | some xs => .ok (sI xs.length)
    | none => optO (asL x) fun xs => .ok (sI xs.length))
  | .list => (match asT x with
    | some xs => .ok (.d (.list xs), fresh xs)
    | none => optO (asL x) fun xs => .ok (.d (.list xs), fresh xs))
  | .tuple => optO (asL x) fun xs => .ok (.d (.tuple xs), if xs.all sx then .deep else .sh)
  | .sorted => optO (asL x) fun xs => sortedV xs
  | .max => optO (asL x) fun xs => optO ((intsOf xs).bind maxL) fun i => .ok (sI i)
  | .sum => optO (asL x) fun xs => optO (intsOf xs) fun ns => .ok (sI ns.sum)
theorem b1V_ne {f : B1} {v : V} : NE (b1V f v) := .opt fun x => by
  cases f with
  | len =>
    show NE (match asT x with | some xs => Out.ok (sI xs.length) | none => optO (asL x) fun xs => .ok (sI xs.length))
    cases asT x with
    | some xs => exact .ok
    | none => exact .opt fun _ => .ok
  | list =>
    show NE (match asT x with | some xs => Out.ok (V.d (.list xs), fresh xs) | none => optO (asL x) fun xs => .ok (V.d (.list xs), fresh xs))
    cases asT x with
    | some xs => exact .ok
    | none => exact .opt fun _ => .ok
  | tuple => exact .opt fun _ => .ok
  | sorted => exact .opt fun xs => .ite (.opt fun _ => .ok) .bad
  | max => exact .opt fun _ => .opt fun _ => .ok
  | sum => exact .opt fun _ => .opt fun _ => .ok

noncomputable def b2V (f : B2) (x y : V) : Out (V × Mode) := d2 x y fun x y => i2 x y fun a b => match f with
  | .max => .ok (sI (if a < b then b else a))
  | .min => .ok (sI (if b < a then b else a))
theorem b2V_ne {f : B2} {x y : V} : NE (b2V f x y) := .opt fun _ => .opt fun _ => .opt fun _ => .opt fun _ => by cases f <;> exact .ok

/-- isinstance against a built-in type -/
noncomputable def isiV : V → String → Out Bool
  | .d x, t =>
    if t = "int" then .ok (match x with | .int _ | .bool _ => true | _ => false)
    else if t = "bool" then .ok (match x with | .bool _ => true | _ => false)
    else if t = "list" then .ok (match x with | .list _ => true | _ => false)
    else if t = "tuple" then .ok (match x with | .tuple _ => true | _ => false)
    else if t = "str" then .ok (match x with | .str _ => true | _ => false)
    else .bad
  | _, _ => .bad

noncomputable def truth : V → Out Bool
  | .d (.bool b) => .ok b
  | _ => .bad

noncomputable def attrV : V → String → Out (V × Mode)
  | .inst fs, n => match fs.lookup n with | some x => .ok (mk (.d x)) | none => .bad
  | _, _ => .bad

noncomputable def rangeL (a b : Int) : List PyData := (List.range (b - a).toNat).map fun (k : Nat) => .int (a + k)

noncomputable def rangeV (a b : Int) : Out (List PyData × Mode) :=
  if (b - a).toNat ≤ lim ∧ -(2 ^ 60) ≤ a ∧ a < 2 ^ 60 ∧ -(2 ^ 60) ≤ b ∧ b < 2 ^ 60 then .ok (rangeL a b, .deep) else .bad

noncomputable def compL (f : PyData → Out (Option (V × Mode))) : List PyData → Out (List PyData × Bool)
  | [] => .ok ([], true)
  | x :: xs => (f x).bind fun r => (compL f xs).bind fun q => match r with
    | none => .ok q
    | some (.d y, m) => .ok (y :: q.1, decide (m = .deep) && q.2)
    | some _ => .bad

noncomputable def allD : List (V × Mode) → Option (List PyData)
  | [] => some []
  | (.d x, _) :: r => (allD r).map (x :: ·)
  | _ :: _ => none
noncomputable def allDeep (l : List (V × Mode)) : Bool := l.all fun p => decide (p.2 = .deep)

noncomputable def lstV : V → Option (List PyData)
  | .d (.list xs) => some xs
  | _ => none
theorem lstV_some {v : V} {xs : List PyData} (h : lstV v = some xs) : v = .d (.list xs) := by
  unfold lstV at h
  split at h
  · cases h; rfl
  · cases h
noncomputable def itV (r : V × Mode) : Out (List PyData × Mode) := match lstV r.1 with
  | some xs => .ok (xs, r.2)
  | none => .bad

mutual
noncomputable def ev (C : Calls) : E → St → Out (V × Mode)
  | .name x, σ => match σ x with | some p => .ok (mk p.1) | none => .bad
  | .int i, _ => .ok (sI i)
  | .str s, _ => .ok (.d (.str (Str.ofString s)), .deep)
  | .bool b, _ => .ok (sB b)
  | .none, _ => .ok (.d .none, .deep)
  | .bin o a b, σ => (ev C a σ).bind fun x => (ev C b σ).bind fun y => match x.1, y.1 with | .d x, .d y => binV o x y | _, _ => .bad
  | .neg a, σ => (ev C a σ).bind fun x => match x.1 with | .d (.int i) => .ok (sI (-i)) | _ => .bad
  | .not a, σ => (ev C a σ).bind fun x => (truth x.1).bind fun b => .ok (sB (!b))
  | .cmp o a b, σ => (ev C a σ).bind fun x => (ev C b σ).bind fun y => (cmpV o x.1 y.1).bind fun b => .ok (sB b)
  | .and a b, σ => (ev C a σ).bind fun x => (truth x.1).bind fun t => if t then (ev C b σ).bind fun y => (truth y.1).bind fun u => .ok (sB u) else .ok (sB false)
  | .or a b, σ => (ev C a σ).bind fun x => (truth x.1).bind fun t => if t then .ok (sB true) else (ev C b σ).bind fun y => (truth y.1).bind fun u => .ok (sB u)
  | .list es, σ => (evs C es σ).bind fun l => match allD l with
    | some xs => .ok (.d (.list xs), if allDeep l then .deep else .top)
    | none => .bad
  | .tup es, σ => (evs C es σ).bind fun l => match allD l with
    | some xs => .ok (.d (.tuple xs), if allDeep l then .deep else .sh)
    | none => .bad
  | .dict, _ => .ok (.dic0, .deep)
  | .comp elt x it, σ => (evIt C it σ).bind fun q => (compL (fun y => (ev C elt (upd σ x (mk (.d y)))).bind fun r => .ok (some r)) q.1).calm.bind fun r => .ok (.d (.list r.1), if r.2 then .deep else .top)
  | .compif elt x it c, σ => (evIt C it σ).bind fun q => (compL (fun y => (ev C c (upd σ x (mk (.d y)))).bind fun t => (truth t.1).bind fun b => if b then (ev C elt (upd σ x (mk (.d y)))).bind fun r => .ok (some r) else .ok none) q.1).calm.bind fun r => .ok (.d (.list r.1), if r.2 then .deep else .top)
  | .sub a i, σ => (ev C a σ).bind fun x => (ev C i σ).bind fun y => match x.1, y.1 with | .d x, .d y => subV x y | _, _ => .bad
  | .slo a i, σ => (ev C a σ).bind fun x => (ev C i σ).bind fun y => match x.1, y.1 with | .d x, .d y => sloV x y | _, _ => .bad
  | .shi a i, σ => (ev C a σ).bind fun x => (ev C i σ).bind fun y => match x.1, y.1 with | .d x, .d y => shiV x y | _, _ => .bad
  | .rev a, σ => (ev C a σ).bind fun x => match x.1 with | .d x => revV x | _ => .bad
  | .attr a n, σ => (ev C a σ).bind fun x => attrV x.1 n
  | .bi1 f a, σ => (ev C a σ).bind fun x => b1V f x.1
  | .bi2 f a b, σ => (ev C a σ).bind fun x => (ev C b σ).bind fun y => b2V f x.1 y.1
  | .listR n, σ => (ev C n σ).bind fun x => match x.1 with | .d (.int n) => (rangeV 0 n).bind fun q => .ok (.d (.list q.1), .deep) | _ => .bad
  | .isi a t, σ => (ev C a σ).bind fun x => (isiV x.1 t).bind fun b => .ok (sB b)
  | .call f es, σ => match C f with
    | some g => (evs C es σ).bind fun l => g (l.map (·.1))
    | none => .bad
  | .meth a m es, σ => (ev C a σ).bind fun x => (evs C es σ).bind fun l => match x.1 with
    | .inst fs => (match C ("Rule." ++ m) with | some g => g (.inst fs :: l.map (·.1)) | none => .bad)
    | _ => .bad
noncomputable def evs (C : Calls) : Es → St → Out (List (V × Mode))
  | .nil, _ => .ok []
  | .cons e es, σ => (ev C e σ).bind fun x => (evs C es σ).bind fun l => .ok (x :: l)
noncomputable def evIt (C : Calls) : It → St → Out (List PyData × Mode)
  | .e a, σ => (ev C a σ).bind itV
  | .r1 n, σ => (ev C n σ).bind fun x => match x.1 with | .d (.int n) => rangeV 0 n | _ => .bad
  | .r2 a b, σ => (ev C a σ).bind fun x => (ev C b σ).bind fun y => match x.1, y.1 with | .d (.int a), .d (.int b) => rangeV a b | _, _ => .bad
end

mutual
/-- the names that an expression mentions -/
noncomputable def fv : E → List String
  | .name x => [x]
  | .int _ | .str _ | .bool _ | .none | .dict => []
  | .bin _ a b | .cmp _ a b | .and a b | .or a b | .sub a b | .slo a b | .shi a b | .bi2 _ a b => fv a ++ fv b
  | .neg a | .not a | .rev a | .attr a _ | .bi1 _ a | .isi a _ | .listR a => fv a
  | .list es | .tup es | .call _ es => fvs es
  | .comp elt _ it => fvIt it ++ fv elt
  | .compif elt _ it c => fvIt it ++ (fv c ++ fv elt)
  | .meth a _ es => fv a ++ fvs es
noncomputable def fvs : Es → List String
  | .nil => []
  | .cons e es => fv e ++ fvs es
noncomputable def fvIt : It → List String
  | .e a => fv a
  | .r1 n => fv n
  | .r2 a b => fv a ++ fv b
end

mutual
inductive S where
  | assign (x : String) (e : E)
  | setitem (x : String) (k : E)
  | append (x : String) (e : E)
  | appendAt (x : String) (is : Es) (e : E)
  | insert (x : String) (i e : E)
  | pop (x : String) (i : E)
  | expr (e : E)
  | ret (e : E)
  | retn (x : String)
  | ite (c : E) (a b : Ss)
  | for1 (x : String) (it : It) (b : Ss)
  | whl (c : E) (b : Ss)
  | raise (c : String)
  | bad
inductive Ss where
  | nil
  | cons (s : S) (r : Ss)
end

inductive Flw where
  | next
  | ret (v : V × Mode)

noncomputable def demote (σ : St) (ns : List String) : St := fun y => if y ∈ ns then (σ y).map fun p => mk p.1 else σ y
noncomputable def consume (σ : St) (ns : List String) (m : Mode) : St := if m = .deep then σ else demote σ ns

noncomputable def loopS (f : PyData → St → Out (St × Flw)) : List PyData → St → Out (St × Flw)
  | [], σ => .ok (σ, .next)
  | x :: xs, σ => (f x σ).bind fun r => match r.2 with
    | .next => loopS f xs r.1
    | .ret v => .ok (r.1, .ret v)
noncomputable def whileS (c : St → Out Bool) (f : St → Out (St × Flw)) : Nat → St → Out (St × Flw)
  | 0, _ => .bad
  | n + 1, σ => (c σ).bind fun b => if b then (f σ).bind fun r => match r.2 with
    | .next => whileS c f n r.1
    | .ret v => .ok (r.1, .ret v) else .ok (σ, .next)

/-- one more item in an owned list -/
noncomputable def putV (σ : St) (x : String) (ns : List String) (mx : Mode) (xs : List PyData) (m : Mode) : Out (St × Flw) :=
  if xs.length ≤ lim then
    if m = .deep then .ok (upd σ x (.d (.list xs), mx), .next)
    else if x ∈ ns then .bad else .ok (upd (demote σ ns) x (.d (.list xs), .top), .next)
  else .bad

noncomputable def setV (σ : St) (x : String) : V → PyData → Out (St × Flw)
  | .dic0, k => match keyI k with
    | some i => .ok (upd σ x (.dicI [i], .deep), .next)
    | none => match keyT k with
      | some t => .ok (upd σ x (.dicT [t], .deep), .next)
      | none => .bad
  | .dicI ks, k => match keyI k with
    | some i => if ks.length ≤ lim then .ok (upd σ x (.dicI (if i ∈ ks then ks else ks ++ [i]), .deep), .next) else .bad
    | none => .bad
  | .dicT ks, k => match keyT k with
    | some i => if ks.length ≤ lim then .ok (upd σ x (.dicT (if i ∈ ks then ks else ks ++ [i]), .deep), .next) else .bad
    | none => .bad
  | _, _ => .bad

/-- the places of a path, from the outermost; what stands there -/
noncomputable def evP (C : Calls) (d : PyData) : Es → St → Out (List Int × PyData)
  | .nil, _ => .ok ([], d)
  | .cons i r, σ => (evP C d r σ).bind fun p => (ev C i σ).bind fun q => optO (asD q.1) fun k => optO (keyI k) fun k => optO (elem p.2 k) fun e => .ok (p.1 ++ [k], e)

mutual
noncomputable def ex (C : Calls) : S → St → Out (St × Flw)
  | .assign x e, σ => (ev C e σ).bind fun r => .ok (upd (consume σ (fv e) r.2) x r, .next)
  | .setitem x k, σ => (ev C k σ).bind fun r => match r.1, σ x with
    | .d k, some (v, .deep) => setV σ x v k
    | _, _ => .bad
  | .append x e, σ => (ev C e σ).bind fun r => match r.1, σ x with
    | .d y, some (v, mx) => (match lstV v with
      | some xs => if mx = .sh then .bad else putV σ x (fv e) mx (xs ++ [y]) r.2
      | none => .bad)
    | _, _ => .bad
  | .appendAt x is e, σ => match σ x with
    | some (v, .deep) => optO (asD v) fun d => (evP C d is σ).bind fun p => (ev C e σ).bind fun r => optO (asD r.1) fun y => if sx y then optO (modP y p.1 d) fun d' => .ok (upd σ x (.d d', .deep), .next) else .bad
    | _ => .bad
  | .insert x i e, σ => (ev C i σ).bind fun q => (ev C e σ).bind fun r => match q.1, r.1, σ x with
    | .d (.int i), .d y, some (v, mx) => (match lstV v with
      | some xs => if mx = .sh ∨ i < 0 ∨ (xs.length : Int) < i then .bad else putV σ x (fv e) mx (xs.take i.toNat ++ y :: xs.drop i.toNat) r.2
      | none => .bad)
    | _, _, _ => .bad
  | .pop x i, σ => (ev C i σ).bind fun q => match q.1, σ x with
    | .d (.int i), some (v, mx) => (match lstV v with
      | some xs => if mx = .sh ∨ i < 0 ∨ (xs.length : Int) ≤ i then .bad else .ok (upd σ x (.d (.list (xs.eraseIdx i.toNat)), .top), .next)
      | none => .bad)
    | _, _ => .bad
  | .expr e, σ => (ev C e σ).bind fun r => .ok (consume σ (fv e) r.2, .next)
  | .retn x, σ => match σ x with
    | some r => .ok (σ, .ret r)
    | none => .bad
  | .ret e, σ => (ev C e σ).bind fun r => .ok (σ, .ret r)
  | .ite c a b, σ => (ev C c σ).bind fun r => (truth r.1).bind fun t => if t then exs C a σ else exs C b σ
  | .for1 x it b, σ => (evIt C it σ).bind fun q => loopS (fun y σ => exs C b (upd σ x (mk (.d y)))) q.1 (consume σ (fvIt it) q.2)
  | .whl c b, σ => whileS (fun σ => (ev C c σ).bind fun r => truth r.1) (exs C b) 200 σ
  | .raise c, _ => .exc c
  | .bad, _ => .bad
noncomputable def exs (C : Calls) : Ss → St → Out (St × Flw)
  | .nil, σ => .ok (σ, .next)
  | .cons s r, σ => (ex C s σ).bind fun q => match q.2 with
    | .next => exs C r q.1
    | .ret v => .ok (q.1, .ret v)
end

structure Fn where
  params : List String
  body : Ss

noncomputable def bindP : List String → List V → Option St
  | [], [] => some fun _ => none
  | p :: ps, v :: vs => (bindP ps vs).map fun σ => upd σ p (mk v)
  | _, _ => none

noncomputable def runF (C : Calls) (f : Fn) (vs : List V) : Out (V × Mode) := match bindP f.params vs with
  | some σ => (exs C f.body σ).bind fun r => match r.2 with
    | .ret v => .ok v
    | .next => .ok (.d .none, .deep)
  | none => .bad

noncomputable def mkC (L : List (String × Fn)) : Nat → Calls
  | 0 => fun _ => none
  | n + 1 => fun f => (L.lookup f).map fun fn vs => (runF (mkC L n) fn vs).calm

end Mine

namespace Mine
open PySem PyProof.Rows

/-! the data that a value bears, exactly laid; the addresses are those of the lists within -/
mutual
inductive R (h : Heap) : Value → PyData → List Addr → Prop
  | none : R h .none .none []
  | bool (b : Bool) : R h (.bool b) (.bool b) []
  | int (i : Int) (t : Tok) : R h (.int i t) (.int i) []
  | str (x : Str) (t : Tok) : R h (.str x t) (.str x) []
  | list {a : Addr} {n : Nat} {xs : List PyData} {as : List Addr} {vs : List Value} : h.get? a = some ⟨.type "list", Option.none, .seq vs.toArray n, #[]⟩ → RA h vs xs as → R h (.ref a) (.list xs) (a :: as)
  | tuple {a : Addr} {n : Nat} {xs : List PyData} {as : List Addr} {vs : List Value} : h.get? a = some ⟨.type "tuple", Option.none, .seq vs.toArray n, #[]⟩ → RA h vs xs as → R h (.ref a) (.tuple xs) as
inductive RA (h : Heap) : List Value → List PyData → List Addr → Prop
  | nil : RA h [] [] []
  | cons {v : Value} {vs : List Value} {d : PyData} {ds : List PyData} {as bs : List Addr} : R h v d as → RA h vs ds bs → RA h (v :: vs) (d :: ds) (as ++ bs)
end

/-- by the parts -/
theorem R.ind {h : Heap} {M : Value → PyData → List Addr → Prop} {N : List Value → List PyData → List Addr → Prop} (h1 : M .none .none []) (h2 : ∀ b, M (.bool b) (.bool b) []) (h3 : ∀ i t, M (.int i t) (.int i) []) (h4 : ∀ x t, M (.str x t) (.str x) [])
    (h5 : ∀ {a : Addr} {n : Nat} {xs : List PyData} {as : List Addr} {vs : List Value}, h.get? a = some ⟨.type "list", Option.none, .seq vs.toArray n, #[]⟩ → RA h vs xs as → N vs xs as → M (.ref a) (.list xs) (a :: as))
    (h6 : ∀ {a : Addr} {n : Nat} {xs : List PyData} {as : List Addr} {vs : List Value}, h.get? a = some ⟨.type "tuple", Option.none, .seq vs.toArray n, #[]⟩ → RA h vs xs as → N vs xs as → M (.ref a) (.tuple xs) as)
    (h7 : N [] [] []) (h8 : ∀ {v : Value} {vs : List Value} {d : PyData} {ds : List PyData} {as bs : List Addr}, R h v d as → RA h vs ds bs → M v d as → N vs ds bs → N (v :: vs) (d :: ds) (as ++ bs)) :
    (∀ {v : Value} {d : PyData} {as : List Addr}, R h v d as → M v d as) ∧ (∀ {vs : List Value} {ds : List PyData} {as : List Addr}, RA h vs ds as → N vs ds as) :=
  ⟨fun r => R.rec (motive_1 := fun v d as _ => M v d as) (motive_2 := fun vs ds as _ => N vs ds as) h1 h2 h3 h4 (fun e r i => h5 e r i) (fun e r i => h6 e r i) h7 (fun x r i j => h8 x r i j) r,
    fun r => RA.rec (motive_1 := fun v d as _ => M v d as) (motive_2 := fun vs ds as _ => N vs ds as) h1 h2 h3 h4 (fun e r i => h5 e r i) (fun e r i => h6 e r i) h7 (fun x r i j => h8 x r i j) r⟩
theorem RA.ind {h : Heap} {N : List Value → List PyData → List Addr → Prop} (h7 : N [] [] []) (h8 : ∀ {v : Value} {vs : List Value} {d : PyData} {ds : List PyData} {as bs : List Addr}, R h v d as → RA h vs ds bs → N vs ds bs → N (v :: vs) (d :: ds) (as ++ bs))
    {vs : List Value} {ds : List PyData} {as : List Addr} (r : RA h vs ds as) : N vs ds as :=
  (R.ind (M := fun _ _ _ => True) (N := N) trivial (fun _ => trivial) (fun _ _ => trivial) (fun _ _ => trivial) (fun _ _ _ => trivial) (fun _ _ _ => trivial) h7 fun x r _ j => h8 x r j).2 r

noncomputable def Kps (h h' : Heap) (as : List Addr) : Prop := ∀ b o, (b ∈ as ∨ o.cls = .type "tuple") → (∃ vs n, o.data = .seq vs n) → h.get? b = some o → h'.get? b = some o
theorem R.onB {h h' : Heap} : (∀ {v : Value} {d : PyData} {as : List Addr}, R h v d as → Kps h h' as → R h' v d as) ∧ (∀ {vs : List Value} {ds : List PyData} {as : List Addr}, RA h vs ds as → Kps h h' as → RA h' vs ds as) :=
  R.ind (M := fun v d as => Kps h h' as → R h' v d as) (N := fun vs ds as => Kps h h' as → RA h' vs ds as) (fun _ => .none) (fun b _ => .bool b) (fun i t _ => .int i t) (fun x t _ => .str x t)
    (fun e _ ih k => .list (k _ _ (.inl (.head _)) ⟨_, _, rfl⟩ e) (ih fun b o hb => k b o (hb.imp (.tail _) id))) (fun e _ ih k => .tuple (k _ _ (.inr rfl) ⟨_, _, rfl⟩ e) (ih k))
    (fun _ => .nil) (fun _ _ i j k => .cons (i fun b o hb => k b o (hb.imp (List.mem_append_left _) id)) (j fun b o hb => k b o (hb.imp (List.mem_append_right _) id)))
section
variable {h h' : Heap} {v : Value} {d : PyData} {as : List Addr} {vs : List Value} {ds : List PyData}
theorem R.on2 (r : R h v d as) (k : ∀ b o, (b ∈ as ∨ o.cls = .type "tuple") → (∃ vs n, o.data = .seq vs n) → h.get? b = some o → h'.get? b = some o) : R h' v d as := R.onB.1 r k
theorem RA.on2 (r : RA h vs ds as) (k : ∀ b o, (b ∈ as ∨ o.cls = .type "tuple") → (∃ vs n, o.data = .seq vs n) → h.get? b = some o → h'.get? b = some o) : RA h' vs ds as := R.onB.2 r k
theorem R.on (r : R h v d as) (k : ∀ b o, (b ∈ as ∨ o.cls = .type "tuple") → h.get? b = some o → h'.get? b = some o) : R h' v d as := r.on2 fun b o q _ => k b o q
theorem RA.on (r : RA h vs ds as) (k : ∀ b o, (b ∈ as ∨ o.cls = .type "tuple") → h.get? b = some o → h'.get? b = some o) : RA h' vs ds as := r.on2 fun b o q _ => k b o q
end

/-- places whose writing touches no data of these footprints -/
noncomputable def Off (h : Heap) (as wr : List Addr) : Prop := ∀ b ∈ wr, ∀ o, h.get? b = some o → (∀ vs n, o.data ≠ .seq vs n) ∨ (o.cls ≠ .type "tuple" ∧ b ∉ as)
theorem R.off {h h' : Heap} {v : Value} {d : PyData} {as wr : List Addr} (r : R h v d as) (hw : Off h as wr) (kp : ∀ b o, b ∉ wr → h.get? b = some o → h'.get? b = some o) : R h' v d as :=
  r.on2 fun b o hb ⟨vs, n, e⟩ hg => kp b o (fun hm => (hw b hm o hg).elim (fun q => q vs n e) fun q => hb.elim q.2 q.1) hg
theorem RA.off {h h' : Heap} {vs : List Value} {ds : List PyData} {as wr : List Addr} (r : RA h vs ds as) (hw : Off h as wr) (kp : ∀ b o, b ∉ wr → h.get? b = some o → h'.get? b = some o) : RA h' vs ds as :=
  r.on2 fun b o hb ⟨vs, n, e⟩ hg => kp b o (fun hm => (hw b hm o hg).elim (fun q => q vs n e) fun q => hb.elim q.2 q.1) hg

section
variable {h h' : Heap} {v : Value} {d : PyData} {as : List Addr} {vs : List Value} {ds : List PyData}
theorem R.keep (r : R h v d as) (k : ∀ b o, h.get? b = some o → h'.get? b = some o) : R h' v d as := r.on fun b o _ => k b o
theorem RA.keep (r : RA h vs ds as) (k : ∀ b o, h.get? b = some o → h'.get? b = some o) : RA h' vs ds as := r.on fun b o _ => k b o
end

theorem R.readsB {h : Heap} : (∀ {v : Value} {d : PyData} {as : List Addr}, R h v d as → Reads h v d as) ∧ (∀ {vs : List Value} {ds : List PyData} {as : List Addr}, RA h vs ds as → ReadsAll h vs ds as) :=
  R.ind (M := fun v d as => Reads h v d as) (N := fun vs ds as => ReadsAll h vs ds as) .none (fun b => .bool b) (fun i t => .int i t) (fun x t => .str x t) (fun e _ i => .list e rfl rfl (by simpa using i)) (fun e _ i => .tuple e rfl rfl (by simpa using i)) .nil (fun _ _ i j => .cons i j)
theorem R.reads {h : Heap} {v : Value} {d : PyData} {as : List Addr} (r : R h v d as) : Reads h v d as := R.readsB.1 r
theorem RA.reads {h : Heap} {vs : List Value} {ds : List PyData} {as : List Addr} (r : RA h vs ds as) : ReadsAll h vs ds as := R.readsB.2 r
noncomputable def There (h : Heap) (as : List Addr) : Prop := ∀ a ∈ as, ∃ vs n, h.get? a = some ⟨.type "list", Option.none, .seq vs n, #[]⟩
theorem R.thereB {h : Heap} : (∀ {v : Value} {d : PyData} {as : List Addr}, R h v d as → There h as) ∧ (∀ {vs : List Value} {ds : List PyData} {as : List Addr}, RA h vs ds as → There h as) :=
  R.ind (M := fun _ _ as => There h as) (N := fun _ _ as => There h as) (fun _ ha => nomatch ha) (fun _ _ ha => nomatch ha) (fun _ _ _ ha => nomatch ha) (fun _ _ _ ha => nomatch ha)
    (fun e _ i a ha => (List.mem_cons.mp ha).elim (fun q => q ▸ ⟨_, _, e⟩) (i a)) (fun _ _ i => i) (fun _ ha => nomatch ha) (fun _ _ i j a ha => (List.mem_append.mp ha).elim (i a) (j a))
theorem R.there {h : Heap} {v : Value} {d : PyData} {as : List Addr} (r : R h v d as) : ∀ a ∈ as, ∃ vs n, h.get? a = some ⟨.type "list", Option.none, .seq vs n, #[]⟩ := R.thereB.1 r
theorem RA.there {h : Heap} {vs : List Value} {ds : List PyData} {as : List Addr} (r : RA h vs ds as) : ∀ a ∈ as, ∃ vs n, h.get? a = some ⟨.type "list", Option.none, .seq vs n, #[]⟩ := R.thereB.2 r

theorem R.isInt {h : Heap} {v : Value} {i : Int} {as : List Addr} (r : R h v (.int i) as) : ∃ t, v = .int i t ∧ as = [] := by
  cases r; exact ⟨_, rfl, rfl⟩
theorem R.isBool {h : Heap} {v : Value} {b : Bool} {as : List Addr} (r : R h v (.bool b) as) : v = .bool b ∧ as = [] := by
  cases r; exact ⟨rfl, rfl⟩
theorem R.isNone {h : Heap} {v : Value} {as : List Addr} (r : R h v .none as) : v = .none ∧ as = [] := by
  cases r; exact ⟨rfl, rfl⟩
theorem R.sx_nil {h : Heap} {v : Value} {d : PyData} {as : List Addr} (r : R h v d as) (hs : sx d = true) : as = [] := by
  cases r <;> first | rfl | (simp [sx] at hs)

theorem RA.length {h : Heap} {vs : List Value} {ds : List PyData} {as : List Addr} (r : RA h vs ds as) : vs.length = ds.length :=
  RA.ind (N := fun vs ds _ => vs.length = ds.length) rfl (fun _ _ i => congrArg (· + 1) i) r
theorem RA.append {h : Heap} {vs ws : List Value} {ds es : List PyData} {as bs : List Addr} (r : RA h vs ds as) (q : RA h ws es bs) : RA h (vs ++ ws) (ds ++ es) (as ++ bs) :=
  RA.ind (N := fun vs ds as => RA h (vs ++ ws) (ds ++ es) (as ++ bs)) q (fun x _ i => by rw [List.append_assoc]; exact .cons x i) r
theorem RA.sx_nil {h : Heap} {vs : List Value} {ds : List PyData} {as : List Addr} (r : RA h vs ds as) : ds.all sx = true → as = [] :=
  RA.ind (N := fun _ ds as => ds.all sx = true → as = []) (fun _ => rfl) (fun x _ i hs => by
    obtain ⟨h1, h2⟩ := Bool.and_eq_true_iff.mp (show (sx _ && List.all _ sx) = true from hs)
    rw [x.sx_nil h1, i h2]; rfl) r

/-- the same places of both lists -/
theorem RA.get {h : Heap} {vs : List Value} {ds : List PyData} {as : List Addr} (r : RA h vs ds as) : ∀ {k : Nat} {d : PyData}, ds[k]? = some d → ∃ v bs, vs[k]? = some v ∧ R h v d bs ∧ ∀ b ∈ bs, b ∈ as := by
  have key : ∀ (k : Nat) (d : PyData), ds[k]? = some d → ∃ v bs, vs[k]? = some v ∧ R h v d bs ∧ ∀ b ∈ bs, b ∈ as := by
    refine RA.ind (N := fun vs ds as => ∀ (k : Nat) (d : PyData), ds[k]? = some d → ∃ v bs, vs[k]? = some v ∧ R h v d bs ∧ ∀ b ∈ bs, b ∈ as) (fun k d hk => by cases hk) (fun x _ i k d hk => ?_) r
    cases k with
    | zero => cases hk; exact ⟨_, _, rfl, x, fun b hb => List.mem_append_left _ hb⟩
    | succ k =>
      obtain ⟨v, bs, h1, h2, h3⟩ := i k d hk
      exact ⟨v, bs, h1, h2, fun b hb => List.mem_append_right _ (h3 b hb)⟩
  exact fun {k d} => key k d
theorem RA.get' {h : Heap} {vs : List Value} {ds : List PyData} {as : List Addr} (r : RA h vs ds as) {k : Nat} {v : Value} (hk : vs[k]? = some v) : ∃ d bs, ds[k]? = some d ∧ R h v d bs ∧ ∀ b ∈ bs, b ∈ as := by
  have hl : k < ds.length := by rw [← r.length]; exact (List.getElem?_eq_some_iff.mp hk).1
  obtain ⟨v', bs, h1, h2, h3⟩ := r.get (List.getElem?_eq_getElem hl)
  rw [hk] at h1; cases h1
  exact ⟨_, bs, List.getElem?_eq_getElem hl, h2, h3⟩
theorem RA.take {h : Heap} (n : Nat) {vs : List Value} {ds : List PyData} {as : List Addr} (r : RA h vs ds as) : ∃ bs, RA h (vs.take n) (ds.take n) bs ∧ (∀ b ∈ bs, b ∈ as) := by
  refine RA.ind (N := fun vs ds as => ∀ n, ∃ bs, RA h (vs.take n) (ds.take n) bs ∧ (∀ b ∈ bs, b ∈ as)) (fun n => ⟨[], by rw [List.take_nil, List.take_nil]; exact .nil, fun _ hb => nomatch hb⟩) (fun x _ i n => ?_) r n
  cases n with
  | zero => exact ⟨[], .nil, fun _ hb => nomatch hb⟩
  | succ n =>
    obtain ⟨bs, q, hs⟩ := i n
    exact ⟨_, .cons x q, fun b hb => (List.mem_append.mp hb).elim (List.mem_append_left _) fun hb => List.mem_append_right _ (hs b hb)⟩
theorem RA.drop {h : Heap} (n : Nat) {vs : List Value} {ds : List PyData} {as : List Addr} (r : RA h vs ds as) : ∃ bs, RA h (vs.drop n) (ds.drop n) bs ∧ (∀ b ∈ bs, b ∈ as) := by
  refine RA.ind (N := fun vs ds as => ∀ n, ∃ bs, RA h (vs.drop n) (ds.drop n) bs ∧ (∀ b ∈ bs, b ∈ as)) (fun n => ⟨[], by rw [List.drop_nil, List.drop_nil]; exact .nil, fun _ hb => nomatch hb⟩) (fun x r i n => ?_) r n
  cases n with
  | zero => exact ⟨_, .cons x r, fun _ hb => hb⟩
  | succ n =>
    obtain ⟨bs, q, hs⟩ := i n
    exact ⟨bs, q, fun b hb => List.mem_append_right _ (hs b hb)⟩
theorem RA.reverse {h : Heap} {vs : List Value} {ds : List PyData} {as : List Addr} (r : RA h vs ds as) : ∃ bs, RA h vs.reverse ds.reverse bs ∧ (∀ b ∈ bs, b ∈ as) := by
  refine RA.ind (N := fun vs ds as => ∃ bs, RA h vs.reverse ds.reverse bs ∧ (∀ b ∈ bs, b ∈ as)) ⟨[], .nil, fun _ hb => nomatch hb⟩ (fun {v vs d ds as cs} x r i => ?_) r
  obtain ⟨bs, q, hs⟩ := i
  refine ⟨bs ++ (as ++ []), by rw [List.reverse_cons, List.reverse_cons]; exact q.append (.cons x .nil), fun b hb => ?_⟩
  rcases List.mem_append.mp hb with hb | hb
  · exact List.mem_append_right _ (hs b hb)
  · exact List.mem_append_left _ (by rwa [List.append_nil] at hb)

/-- ints -/
theorem RA.ints {h : Heap} {vs : List Value} {ds : List PyData} {as : List Addr} {ns : List Int} (r : RA h vs ds as) (e : intsOf ds = some ns) : IntsAre vs ns ∧ as = [] ∧ ds = ns.map .int := by
  refine RA.ind (N := fun vs ds as => ∀ ns, intsOf ds = some ns → IntsAre vs ns ∧ as = [] ∧ ds = ns.map .int) (fun ns e => ?_) (fun {v vs d ds as cs} x r i ns e => ?_) r ns e
  · cases e; exact ⟨.nil, rfl, rfl⟩
  · cases x with
    | int j t =>
      obtain ⟨ms, e1, rfl⟩ := Option.map_eq_some_iff.mp (show (intsOf ds).map (j :: ·) = some ns from e)
      obtain ⟨a, rfl, rfl⟩ := i ms e1
      exact ⟨.cons j t a, rfl, rfl⟩
    | _ => cases e
theorem RA.of_ints {h : Heap} : ∀ {vs : List Value} {ns : List Int}, IntsAre vs ns → RA h vs (ns.map .int) []
  | _, _, .nil => .nil
  | _, _, .cons i t r => .cons (as := []) (.int i t) (RA.of_ints r)

mutual
/-- nothing within is too large -/
noncomputable def sz : PyData → Bool
  | .none | .bool _ | .int _ => true
  | .str x => decide (x.length ≤ 2 ^ 22)
  | .list xs | .tuple xs => decide (xs.length ≤ 2 ^ 22) && szs xs
  | .dict _ => false
noncomputable def szs : List PyData → Bool
  | [] => true
  | x :: xs => sz x && szs xs
end
theorem szs_iff {xs : List PyData} : szs xs = true ↔ ∀ x ∈ xs, sz x = true := by
  induction xs with
  | nil => simp [szs]
  | cons x xs ih => simp [szs, ih]
theorem sz_list {xs : List PyData} : sz (.list xs) = true ↔ xs.length ≤ 2 ^ 22 ∧ ∀ x ∈ xs, sz x = true := by simp [sz, szs_iff]
theorem sz_tuple {xs : List PyData} : sz (.tuple xs) = true ↔ xs.length ≤ 2 ^ 22 ∧ ∀ x ∈ xs, sz x = true := by simp [sz, szs_iff]
theorem szs_ints (ns : List Int) : ∀ x ∈ ns.map PyData.int, sz x = true := by
  intro x hx; obtain ⟨i, _, rfl⟩ := List.mem_map.mp hx; rfl

end Mine

namespace Mine
open PySem PyProof.Rows

/-! the match of the own tree with the model's -/
noncomputable def varK (ns : List (Str × NameKind)) (x : String) : Bool := !(Str.ofString x == Str.ofString ".0") && (match ns.lookup (Str.ofString x) with
  | some .local | some .cell | some .free => true
  | _ => false)
noncomputable def glbK (ns : List (Str × NameKind)) (x : String) : Bool := ns.lookup (Str.ofString x) == some .globalImplicit
noncomputable def notDebug (x : String) : Bool := !(Str.ofString x == ("__debug__" : Str)) && !(Str.ofString x == ("__classdict__" : Str))

noncomputable def bOp : BOp → Operator
  | .add => .Add | .sub => .Sub | .mul => .Mult | .fdiv => .FloorDiv | .mod => .Mod | .pow => .Pow | .xor => .BitXor
noncomputable def cOp : COp → CmpOp
  | .eq => .Eq | .ne => .NotEq | .lt => .Lt | .le => .LtE | .gt => .Gt | .ge => .GtE | .isin => .In | .notin => .NotIn | .is => .Is | .isnot => .IsNot
noncomputable def opB (o : BOp) (p : Operator) : Bool := decide (p = bOp o)
noncomputable def opC (o : COp) (p : CmpOp) : Bool := decide (p = cOp o)
noncomputable def b1n : B1 → String
  | .len => "len" | .list => "list" | .tuple => "tuple" | .sorted => "sorted" | .max => "max" | .sum => "sum"
noncomputable def b2n : B2 → String
  | .max => "max" | .min => "min"

noncomputable def relN (outer inner : List (Str × NameKind)) : List (Str × NameKind) :=
  inner.map fun (n, k) => if k == .free && outer.lookup n == some .cell then (n, .cell) else (n, k)

/-- the scope of a comprehension, within another -/
noncomputable def okSc (ns : List (Str × NameKind)) (sc : Scope) (x : String) : Bool :=
  sc.kind == .function && decide ((sc.names.map (·.1)).Nodup) && (sc.names.lookup (Str.ofString x) == some .local || sc.names.lookup (Str.ofString x) == some .cell) &&
  sc.names.all fun p => (p.2 == .local && (p.1 == Str.ofString x || p.1 == Str.ofString ".0")) || p.2 == .globalImplicit || (p.2 == .cell && p.1 == Str.ofString x) || (p.2 == .free && (ns.lookup p.1 == some .cell || ns.lookup p.1 == some .free))

noncomputable def anyO {α : Type} (o : Option α) (f : α → Bool) : Bool := match o with
  | some a => f a
  | none => false
theorem anyO_inv {α : Type} {o : Option α} {f : α → Bool} (h : anyO o f = true) : ∃ a, o = some a ∧ f a = true := by
  cases o with
  | none => cases h
  | some a => exact ⟨a, rfl, h⟩

/-! what an expression is made of -/
structure Pt where
  tag : Nat := 0
  e1 : Expr := default
  e2 : Expr := default
  es : List Expr := []
  st : Str := default
  co : Const := default
  n : Nat := 0
  op : Operator := default
  un : UnaryOp := default
  bo : BoolOp := default
  cs : List CmpOp := []
  ks : List (Option Expr) := []
  gs : List Comprehension := []
  sc : Scope := default
  o1 : Option Expr := none
  o2 : Option Expr := none
  o3 : Option Expr := none
  kw : List Keyword := []
  pos : Pos := default
noncomputable def pt : Expr → Pt
  | .Name x0 x1 => { tag := 1, st := x0, pos := x1 }
  | .Constant x0 x1 x2 => { tag := 2, co := x0, n := x1, pos := x2 }
  | .BinOp x0 x1 x2 x3 => { tag := 3, e1 := x0, op := x1, e2 := x2, pos := x3 }
  | .UnaryOp x0 x1 x2 => { tag := 4, un := x0, e1 := x1, pos := x2 }
  | .Compare x0 x1 x2 x3 => { tag := 5, e1 := x0, cs := x1, es := x2, pos := x3 }
  | .BoolOp x0 x1 x2 => { tag := 6, bo := x0, es := x1, pos := x2 }
  | .List x0 x1 => { tag := 7, es := x0, pos := x1 }
  | .Tuple x0 x1 x2 => { tag := 8, es := x0, n := x1, pos := x2 }
  | .Dict x0 x1 x2 => { tag := 9, ks := x0, es := x1, pos := x2 }
  | .ListComp x0 x1 x2 x3 => { tag := 10, e1 := x0, gs := x1, sc := x2, pos := x3 }
  | .Subscript x0 x1 x2 => { tag := 11, e1 := x0, e2 := x1, pos := x2 }
  | .Slice x0 x1 x2 x3 => { tag := 12, o1 := x0, o2 := x1, o3 := x2, pos := x3 }
  | .Call x0 x1 x2 x3 => { tag := 13, e1 := x0, es := x1, kw := x2, pos := x3 }
  | .Attribute x0 x1 x2 => { tag := 14, e1 := x0, st := x1, pos := x2 }
  | _ => {}
noncomputable def ptB (n : Nat) (p : Pt) : Expr := match n with
  | 1 => .Name p.st p.pos
  | 2 => .Constant p.co p.n p.pos
  | 3 => .BinOp p.e1 p.op p.e2 p.pos
  | 4 => .UnaryOp p.un p.e1 p.pos
  | 5 => .Compare p.e1 p.cs p.es p.pos
  | 6 => .BoolOp p.bo p.es p.pos
  | 7 => .List p.es p.pos
  | 8 => .Tuple p.es p.n p.pos
  | 9 => .Dict p.ks p.es p.pos
  | 10 => .ListComp p.e1 p.gs p.sc p.pos
  | 11 => .Subscript p.e1 p.e2 p.pos
  | 12 => .Slice p.o1 p.o2 p.o3 p.pos
  | 13 => .Call p.e1 p.es p.kw p.pos
  | 14 => .Attribute p.e1 p.st p.pos
  | _ => default
theorem pt_back (e : Expr) : (pt e).tag = 0 ∨ ptB (pt e).tag (pt e) = e := by cases e <;> first | exact .inr rfl | exact .inl rfl
theorem pt_inv {e : Expr} {n : Nat} (hn : n ≠ 0) (h : (pt e).tag = n) : e = ptB n (pt e) := by
  rcases pt_back e with q | q
  · exact absurd (h.symm.trans q) hn
  · rw [h] at q; exact q.symm
noncomputable def ifN {α : Type} (m n : Nat) (a : α) : Option α := if m = n then some a else none
theorem ifN_inv {α : Type} {m n : Nat} {a b : α} (h : ifN m n a = some b) : m = n ∧ a = b := by
  unfold ifN at h
  by_cases q : m = n
  · rw [if_pos q] at h; exact ⟨q, Option.some.inj h⟩
  · rw [if_neg q] at h; cases h
noncomputable def dName (e : Expr) : Option (Str × Pos) := ifN (pt e).tag 1 ((pt e).st, (pt e).pos)
noncomputable def dConst (e : Expr) : Option (Const × Nat × Pos) := ifN (pt e).tag 2 ((pt e).co, (pt e).n, (pt e).pos)
noncomputable def dBin (e : Expr) : Option (Expr × Operator × Expr × Pos) := ifN (pt e).tag 3 ((pt e).e1, (pt e).op, (pt e).e2, (pt e).pos)
noncomputable def dUn (e : Expr) : Option (UnaryOp × Expr × Pos) := ifN (pt e).tag 4 ((pt e).un, (pt e).e1, (pt e).pos)
noncomputable def dCmp (e : Expr) : Option (Expr × List CmpOp × List Expr × Pos) := ifN (pt e).tag 5 ((pt e).e1, (pt e).cs, (pt e).es, (pt e).pos)
noncomputable def dBool (e : Expr) : Option (BoolOp × List Expr × Pos) := ifN (pt e).tag 6 ((pt e).bo, (pt e).es, (pt e).pos)
noncomputable def dList (e : Expr) : Option (List Expr × Pos) := ifN (pt e).tag 7 ((pt e).es, (pt e).pos)
noncomputable def dTup (e : Expr) : Option (List Expr × Nat × Pos) := ifN (pt e).tag 8 ((pt e).es, (pt e).n, (pt e).pos)
noncomputable def dDict (e : Expr) : Option (List (Option Expr) × List Expr × Pos) := ifN (pt e).tag 9 ((pt e).ks, (pt e).es, (pt e).pos)
noncomputable def dLC (e : Expr) : Option (Expr × List Comprehension × Scope × Pos) := ifN (pt e).tag 10 ((pt e).e1, (pt e).gs, (pt e).sc, (pt e).pos)
noncomputable def dSub (e : Expr) : Option (Expr × Expr × Pos) := ifN (pt e).tag 11 ((pt e).e1, (pt e).e2, (pt e).pos)
noncomputable def dSlice (e : Expr) : Option (Option Expr × Option Expr × Option Expr × Pos) := ifN (pt e).tag 12 ((pt e).o1, (pt e).o2, (pt e).o3, (pt e).pos)
noncomputable def dCall (e : Expr) : Option (Expr × List Expr × List Keyword × Pos) := ifN (pt e).tag 13 ((pt e).e1, (pt e).es, (pt e).kw, (pt e).pos)
noncomputable def dAttr (e : Expr) : Option (Expr × Str × Pos) := ifN (pt e).tag 14 ((pt e).e1, (pt e).st, (pt e).pos)
noncomputable def cInt : Const → Option Int
  | .int i => some i
  | _ => none
noncomputable def cStr : Const → Option Str
  | .str i => some i
  | _ => none
noncomputable def cBool : Const → Option Bool
  | .bool i => some i
  | _ => none
noncomputable def cNone : Const → Option Unit
  | .none => some ()
  | _ => none
noncomputable def dOne {α : Type} : List α → Option α
  | [x] => some x
  | _ => none
noncomputable def dTwo {α : Type} : List α → Option (α × α)
  | [x, y] => some (x, y)
  | _ => none
noncomputable def dNil {α : Type} : List α → Option Unit
  | [] => some ()
  | _ => none
noncomputable def dCons {α : Type} : List α → Option (α × List α)
  | x :: y => some (x, y)
  | _ => none

section
variable {e : Expr}
theorem dName_inv {q : Str × Pos} (h : dName e = some q) : e = .Name q.1 q.2 := by
  obtain ⟨h1, rfl⟩ := ifN_inv h
  exact pt_inv (by decide) h1
theorem dConst_inv {q : Const × Nat × Pos} (h : dConst e = some q) : e = .Constant q.1 q.2.1 q.2.2 := by
  obtain ⟨h1, rfl⟩ := ifN_inv h
  exact pt_inv (by decide) h1
theorem dBin_inv {q : Expr × Operator × Expr × Pos} (h : dBin e = some q) : e = .BinOp q.1 q.2.1 q.2.2.1 q.2.2.2 := by
  obtain ⟨h1, rfl⟩ := ifN_inv h
  exact pt_inv (by decide) h1
theorem dUn_inv {q : UnaryOp × Expr × Pos} (h : dUn e = some q) : e = .UnaryOp q.1 q.2.1 q.2.2 := by
  obtain ⟨h1, rfl⟩ := ifN_inv h
  exact pt_inv (by decide) h1
theorem dCmp_inv {q : Expr × List CmpOp × List Expr × Pos} (h : dCmp e = some q) : e = .Compare q.1 q.2.1 q.2.2.1 q.2.2.2 := by
  obtain ⟨h1, rfl⟩ := ifN_inv h
  exact pt_inv (by decide) h1
theorem dBool_inv {q : BoolOp × List Expr × Pos} (h : dBool e = some q) : e = .BoolOp q.1 q.2.1 q.2.2 := by
  obtain ⟨h1, rfl⟩ := ifN_inv h
  exact pt_inv (by decide) h1
theorem dList_inv {q : List Expr × Pos} (h : dList e = some q) : e = .List q.1 q.2 := by
  obtain ⟨h1, rfl⟩ := ifN_inv h
  exact pt_inv (by decide) h1
theorem dTup_inv {q : List Expr × Nat × Pos} (h : dTup e = some q) : e = .Tuple q.1 q.2.1 q.2.2 := by
  obtain ⟨h1, rfl⟩ := ifN_inv h
  exact pt_inv (by decide) h1
theorem dDict_inv {q : List (Option Expr) × List Expr × Pos} (h : dDict e = some q) : e = .Dict q.1 q.2.1 q.2.2 := by
  obtain ⟨h1, rfl⟩ := ifN_inv h
  exact pt_inv (by decide) h1
theorem dLC_inv {q : Expr × List Comprehension × Scope × Pos} (h : dLC e = some q) : e = .ListComp q.1 q.2.1 q.2.2.1 q.2.2.2 := by
  obtain ⟨h1, rfl⟩ := ifN_inv h
  exact pt_inv (by decide) h1
theorem dSub_inv {q : Expr × Expr × Pos} (h : dSub e = some q) : e = .Subscript q.1 q.2.1 q.2.2 := by
  obtain ⟨h1, rfl⟩ := ifN_inv h
  exact pt_inv (by decide) h1
theorem dSlice_inv {q : Option Expr × Option Expr × Option Expr × Pos} (h : dSlice e = some q) : e = .Slice q.1 q.2.1 q.2.2.1 q.2.2.2 := by
  obtain ⟨h1, rfl⟩ := ifN_inv h
  exact pt_inv (by decide) h1
theorem dCall_inv {q : Expr × List Expr × List Keyword × Pos} (h : dCall e = some q) : e = .Call q.1 q.2.1 q.2.2.1 q.2.2.2 := by
  obtain ⟨h1, rfl⟩ := ifN_inv h
  exact pt_inv (by decide) h1
theorem dAttr_inv {q : Expr × Str × Pos} (h : dAttr e = some q) : e = .Attribute q.1 q.2.1 q.2.2 := by
  obtain ⟨h1, rfl⟩ := ifN_inv h
  exact pt_inv (by decide) h1
theorem cInt_inv {c : Const} {q : Int} (h : cInt c = some q) : c = .int q := by cases c <;> cases h; rfl
theorem cStr_inv {c : Const} {q : Str} (h : cStr c = some q) : c = .str q := by cases c <;> cases h; rfl
theorem cBool_inv {c : Const} {q : Bool} (h : cBool c = some q) : c = .bool q := by cases c <;> cases h; rfl
theorem cNone_inv {c : Const} {q : Unit} (h : cNone c = some q) : c = .none := by cases c <;> cases h; rfl
variable {α : Type} {l : List α}
theorem dNil_inv {q : Unit} (h : dNil l = some q) : l = [] := by
  cases l with
  | nil => rfl
  | cons => cases h
theorem dCons_inv {q : α × List α} (h : dCons l = some q) : l = q.1 :: q.2 := by
  cases l with
  | nil => cases h
  | cons => cases h; rfl
theorem dOne_inv {q : α} (h : dOne l = some q) : l = [q] := by
  cases l with
  | nil => cases h
  | cons x l =>
    cases l with
    | nil => cases h; rfl
    | cons => cases h
theorem dTwo_inv {q : α × α} (h : dTwo l = some q) : l = [q.1, q.2] := by
  cases l with
  | nil => cases h
  | cons x l =>
    cases l with
    | nil => cases h
    | cons y l =>
      cases l with
      | nil => cases h; rfl
      | cons => cases h
end

/-- a call of a name, with these arguments: the name, its place, the arguments, the place -/
noncomputable def dFn (e : Expr) : Option (Str × Pos × List Expr × Pos) := (dCall e).bind fun q => (dNil q.2.2.1).bind fun _ => (dName q.1).map fun n => (n.1, n.2, q.2.1, q.2.2.2)
theorem dFn_inv {e : Expr} {q : Str × Pos × List Expr × Pos} (h : dFn e = some q) : e = .Call (.Name q.1 q.2.1) q.2.2.1 [] q.2.2.2 := by
  obtain ⟨c, h1, h⟩ := Option.bind_eq_some_iff.mp h
  obtain ⟨u, h2, h⟩ := Option.bind_eq_some_iff.mp h
  obtain ⟨n, h3, h⟩ := Option.map_eq_some_iff.mp h
  subst h
  rw [dCall_inv h1, dNil_inv h2, dName_inv h3]
/-- a comprehension over one name -/
noncomputable def dComp (e : Expr) : Option (Expr × Str × Pos × Expr × List Expr × Scope × Pos) := (dLC e).bind fun q => (dOne q.2.1).bind fun g => (dName g.target).bind fun n => if g.is_async = 0 then some (q.1, n.1, n.2, g.iter, g.ifs, q.2.2.1, q.2.2.2) else none
theorem dComp_inv {e : Expr} {q : Expr × Str × Pos × Expr × List Expr × Scope × Pos} (h : dComp e = some q) : e = .ListComp q.1 [⟨.Name q.2.1 q.2.2.1, q.2.2.2.1, q.2.2.2.2.1, 0⟩] q.2.2.2.2.2.1 q.2.2.2.2.2.2 := by
  obtain ⟨c, h1, h⟩ := Option.bind_eq_some_iff.mp h
  obtain ⟨⟨gt, gi, gf, ga⟩, h2, h⟩ := Option.bind_eq_some_iff.mp h
  obtain ⟨n, h3, h⟩ := Option.bind_eq_some_iff.mp h
  dsimp only at h h3
  split at h
  · rename_i h4
    cases h
    rw [dLC_inv h1, dOne_inv h2, dName_inv h3, h4]
  · cases h
noncomputable def dSl (e : Expr) : Option (Expr × Option Expr × Option Expr × Option Expr × Pos × Pos) := (dSub e).bind fun q => (dSlice q.2.1).map fun s => (q.1, s.1, s.2.1, s.2.2.1, s.2.2.2, q.2.2)
theorem dSl_inv {e : Expr} {q : Expr × Option Expr × Option Expr × Option Expr × Pos × Pos} (h : dSl e = some q) : e = .Subscript q.1 (.Slice q.2.1 q.2.2.1 q.2.2.2.1 q.2.2.2.2.1) q.2.2.2.2.2 := by
  obtain ⟨c, h1, h⟩ := Option.bind_eq_some_iff.mp h
  obtain ⟨n, h3, h⟩ := Option.map_eq_some_iff.mp h
  subst h
  rw [dSub_inv h1, dSlice_inv h3]

mutual
noncomputable def okE (ns : List (Str × NameKind)) : E → Expr → Bool
  | .name x, ex => anyO (dName ex) fun q => q.1 == Str.ofString x && varK ns x && notDebug x
  | .int i, ex => anyO (dConst ex) fun q => anyO (cInt q.1) fun j => i == j
  | .str s, ex => anyO (dConst ex) fun q => anyO (cStr q.1) fun t => Str.ofString s == t && decide (t.length ≤ 2 ^ 22)
  | .bool b, ex => anyO (dConst ex) fun q => anyO (cBool q.1) fun c => b == c
  | .none, ex => anyO (dConst ex) fun q => (cNone q.1).isSome
  | .bin o a b, ex => anyO (dBin ex) fun q => opB o q.2.1 && okE ns a q.1 && okE ns b q.2.2.1
  | .neg a, ex => anyO (dUn ex) fun q => decide (q.1 = .USub) && okE ns a q.2.1
  | .not a, ex => anyO (dUn ex) fun q => decide (q.1 = .Not) && okE ns a q.2.1
  | .cmp o a b, ex => anyO (dCmp ex) fun q => anyO (dOne q.2.1) fun op => anyO (dOne q.2.2.1) fun r => opC o op && okE ns a q.1 && okE ns b r
  | .and a b, ex => anyO (dBool ex) fun q => decide (q.1 = .And) && anyO (dCons q.2.1) fun v => okE ns a v.1 && (match dOne v.2 with | some u => okE ns b u | none => okA ns b v.2)
  | .or a b, ex => anyO (dBool ex) fun q => decide (q.1 = .Or) && anyO (dCons q.2.1) fun v => okE ns a v.1 && (match dOne v.2 with | some u => okE ns b u | none => okO ns b v.2)
  | .list es, ex => anyO (dList ex) fun q => decide (q.1.length < 1000) && okEs ns es q.1
  | .tup es, ex => anyO (dTup ex) fun q => decide (q.1.length < 1000) && okEs ns es q.1
  | .dict, ex => anyO (dDict ex) fun q => (dNil q.1).isSome && (dNil q.2.1).isSome
  | .comp elt x it, ex => anyO (dComp ex) fun q => anyO (dNil q.2.2.2.2.1) fun _ => q.2.1 == Str.ofString x && okSc ns q.2.2.2.2.2.1 x && okIt ns it q.2.2.2.1 && okE (relN ns q.2.2.2.2.2.1.names) elt q.1
  | .compif elt x it c, ex => anyO (dComp ex) fun q => anyO (dOne q.2.2.2.2.1) fun f => q.2.1 == Str.ofString x && okSc ns q.2.2.2.2.2.1 x && okIt ns it q.2.2.2.1 && okE (relN ns q.2.2.2.2.2.1.names) c f && okE (relN ns q.2.2.2.2.2.1.names) elt q.1
  | .sub a i, ex => anyO (dSub ex) fun q => okE ns a q.1 && okE ns i q.2.1
  | .slo a i, ex => anyO (dSl ex) fun q => anyO q.2.1 fun l => q.2.2.1.isNone && q.2.2.2.1.isNone && (okE ns a q.1 && okE ns i l)
  | .shi a i, ex => anyO (dSl ex) fun q => anyO q.2.2.1 fun l => q.2.1.isNone && q.2.2.2.1.isNone && (okE ns a q.1 && okE ns i l)
  | .rev a, ex => anyO (dSl ex) fun q => anyO q.2.2.2.1 fun l => q.2.1.isNone && q.2.2.1.isNone && (anyO (dUn l) fun u => decide (u.1 = .USub) && anyO (dConst u.2.1) fun c => anyO (cInt c.1) fun i => i == 1 && okE ns a q.1)
  | .attr _ _, _ => false
  | .bi1 f a, ex => anyO (dFn ex) fun q => anyO (dOne q.2.2.1) fun x => q.1 == Str.ofString (b1n f) && glbK ns (b1n f) && okE ns a x
  | .bi2 f a b, ex => anyO (dFn ex) fun q => anyO (dTwo q.2.2.1) fun x => q.1 == Str.ofString (b2n f) && glbK ns (b2n f) && okE ns a x.1 && okE ns b x.2
  | .listR n, ex => anyO (dFn ex) fun q => anyO (dOne q.2.2.1) fun y => anyO (dFn y) fun r => anyO (dOne r.2.2.1) fun x => q.1 == Str.ofString "list" && glbK ns "list" && r.1 == Str.ofString "range" && glbK ns "range" && okE ns n x
  | .isi a t, ex => anyO (dFn ex) fun q => anyO (dTwo q.2.2.1) fun x => anyO (dName x.2) fun c => q.1 == Str.ofString "isinstance" && glbK ns "isinstance" && okE ns a x.1 && c.1 == Str.ofString t && glbK ns t && notDebug t
  | .call f es, ex => anyO (dFn ex) fun q => q.1 == Str.ofString f && glbK ns f && notDebug f && !q.2.2.1.isEmpty && decide (q.2.2.1.length < 20) && okEs ns es q.2.2.1
  | .meth _ _ _, _ => false
termination_by structural e => e
noncomputable def okA (ns : List (Str × NameKind)) : E → List Expr → Bool
  | .and a b, ex => anyO (dCons ex) fun v => okE ns a v.1 && (match dOne v.2 with | some u => okE ns b u | none => okA ns b v.2)
  | _, _ => false
termination_by structural e => e
noncomputable def okO (ns : List (Str × NameKind)) : E → List Expr → Bool
  | .or a b, ex => anyO (dCons ex) fun v => okE ns a v.1 && (match dOne v.2 with | some u => okE ns b u | none => okO ns b v.2)
  | _, _ => false
termination_by structural e => e
noncomputable def okEs (ns : List (Str × NameKind)) : Es → List Expr → Bool
  | .nil, ex => (dNil ex).isSome
  | .cons e es, ex => anyO (dCons ex) fun q => okE ns e q.1 && okEs ns es q.2
termination_by structural e => e
noncomputable def okIt (ns : List (Str × NameKind)) : It → Expr → Bool
  | .e a, x => okE ns a x
  | .r1 n, ex => anyO (dFn ex) fun q => anyO (dOne q.2.2.1) fun x => q.1 == Str.ofString "range" && glbK ns "range" && okE ns n x
  | .r2 a b, ex => anyO (dFn ex) fun q => anyO (dTwo q.2.2.1) fun x => q.1 == Str.ofString "range" && glbK ns "range" && okE ns a x.1 && okE ns b x.2
termination_by structural e => e
end

section
variable {ns : List (Str × NameKind)} {ex : Expr} {a b c : E}
theorem i_name {x : String} (h : okE ns (.name x) ex = true) : (∃ id p, ex = .Name id p ∧ (id == Str.ofString x && varK ns x && notDebug x) = true) ∨ False := by
  obtain ⟨q, e, h⟩ := anyO_inv h
  exact .inl ⟨q.1, q.2, dName_inv e, h⟩
theorem i_int {i : Int} (h : okE ns (.int i) ex = true) : (∃ j k p, ex = .Constant (.int j) k p ∧ (i == j) = true) ∨ False := by
  obtain ⟨q, e, h⟩ := anyO_inv h
  obtain ⟨j, e', h⟩ := anyO_inv h
  exact .inl ⟨j, q.2.1, q.2.2, by rw [dConst_inv e, cInt_inv e'], h⟩
theorem i_str {s : String} (h : okE ns (.str s) ex = true) : (∃ t k p, ex = .Constant (.str t) k p ∧ (Str.ofString s == t && decide (t.length ≤ 2 ^ 22)) = true) ∨ False := by
  obtain ⟨q, e, h⟩ := anyO_inv h
  obtain ⟨j, e', h⟩ := anyO_inv h
  exact .inl ⟨j, q.2.1, q.2.2, by rw [dConst_inv e, cStr_inv e'], h⟩
theorem i_bool {s : Bool} (h : okE ns (.bool s) ex = true) : (∃ t k p, ex = .Constant (.bool t) k p ∧ (s == t) = true) ∨ False := by
  obtain ⟨q, e, h⟩ := anyO_inv h
  obtain ⟨j, e', h⟩ := anyO_inv h
  exact .inl ⟨j, q.2.1, q.2.2, by rw [dConst_inv e, cBool_inv e'], h⟩
theorem i_none (h : okE ns .none ex = true) : (∃ k p, ex = .Constant .none k p ∧ True) ∨ False := by
  obtain ⟨q, e, h⟩ := anyO_inv h
  obtain ⟨j, e'⟩ := Option.isSome_iff_exists.mp h
  exact .inl ⟨q.2.1, q.2.2, by rw [dConst_inv e, cNone_inv e'], trivial⟩
theorem i_bin {o : BOp} (h : okE ns (.bin o a b) ex = true) : (∃ l op r p, ex = .BinOp l op r p ∧ (opB o op && okE ns a l && okE ns b r) = true) ∨ False := by
  obtain ⟨q, e, h⟩ := anyO_inv h
  exact .inl ⟨_, _, _, _, dBin_inv e, h⟩
theorem i_neg (h : okE ns (.neg a) ex = true) : (∃ x p, ex = .UnaryOp .USub x p ∧ okE ns a x = true) ∨ False := by
  obtain ⟨q, e, h⟩ := anyO_inv h
  obtain ⟨h1, h2⟩ := Bool.and_eq_true_iff.mp h
  exact .inl ⟨_, _, by rw [dUn_inv e, of_decide_eq_true h1], h2⟩
theorem i_not (h : okE ns (.not a) ex = true) : (∃ x p, ex = .UnaryOp .Not x p ∧ okE ns a x = true) ∨ False := by
  obtain ⟨q, e, h⟩ := anyO_inv h
  obtain ⟨h1, h2⟩ := Bool.and_eq_true_iff.mp h
  exact .inl ⟨_, _, by rw [dUn_inv e, of_decide_eq_true h1], h2⟩
theorem i_cmp {o : COp} (h : okE ns (.cmp o a b) ex = true) : (∃ l op r p, ex = .Compare l [op] [r] p ∧ (opC o op && okE ns a l && okE ns b r) = true) ∨ False := by
  obtain ⟨q, e, h⟩ := anyO_inv h
  obtain ⟨op, e1, h⟩ := anyO_inv h
  obtain ⟨r, e2, h⟩ := anyO_inv h
  exact .inl ⟨_, op, r, _, by rw [dCmp_inv e, dOne_inv e1, dOne_inv e2], h⟩
noncomputable def okA' (ns : List (Str × NameKind)) (b : E) (vs : List Expr) : Bool := match dOne vs with | some u => okE ns b u | none => okA ns b vs
noncomputable def okO' (ns : List (Str × NameKind)) (b : E) (vs : List Expr) : Bool := match dOne vs with | some u => okE ns b u | none => okO ns b vs
theorem i_and (h : okE ns (.and a b) ex = true) : (∃ v vs p, ex = .BoolOp .And (v :: vs) p ∧ (okE ns a v && okA' ns b vs) = true) ∨ False := by
  obtain ⟨q, e, h⟩ := anyO_inv h
  obtain ⟨h1, h2⟩ := Bool.and_eq_true_iff.mp h
  obtain ⟨v, e1, h⟩ := anyO_inv h2
  exact .inl ⟨_, _, _, by rw [dBool_inv e, of_decide_eq_true h1, dCons_inv e1], h⟩
theorem i_or (h : okE ns (.or a b) ex = true) : (∃ v vs p, ex = .BoolOp .Or (v :: vs) p ∧ (okE ns a v && okO' ns b vs) = true) ∨ False := by
  obtain ⟨q, e, h⟩ := anyO_inv h
  obtain ⟨h1, h2⟩ := Bool.and_eq_true_iff.mp h
  obtain ⟨v, e1, h⟩ := anyO_inv h2
  exact .inl ⟨_, _, _, by rw [dBool_inv e, of_decide_eq_true h1, dCons_inv e1], h⟩
theorem i_A {xs : List Expr} (h : okA ns (.and a b) xs = true) : (∃ v vs, xs = v :: vs ∧ (okE ns a v && okA' ns b vs) = true) ∨ False := by
  obtain ⟨q, e, h⟩ := anyO_inv h
  exact .inl ⟨_, _, dCons_inv e, h⟩
theorem i_O {xs : List Expr} (h : okO ns (.or a b) xs = true) : (∃ v vs, xs = v :: vs ∧ (okE ns a v && okO' ns b vs) = true) ∨ False := by
  obtain ⟨q, e, h⟩ := anyO_inv h
  exact .inl ⟨_, _, dCons_inv e, h⟩
theorem i_list {es : Es} (h : okE ns (.list es) ex = true) : (∃ xs p, ex = .List xs p ∧ (decide (xs.length < 1000) && okEs ns es xs) = true) ∨ False := by
  obtain ⟨q, e, h⟩ := anyO_inv h
  exact .inl ⟨_, _, dList_inv e, h⟩
theorem i_tup {es : Es} (h : okE ns (.tup es) ex = true) : (∃ xs k p, ex = .Tuple xs k p ∧ (decide (xs.length < 1000) && okEs ns es xs) = true) ∨ False := by
  obtain ⟨q, e, h⟩ := anyO_inv h
  exact .inl ⟨_, _, _, dTup_inv e, h⟩
theorem i_dict (h : okE ns .dict ex = true) : (∃ p, ex = .Dict [] [] p ∧ True) ∨ False := by
  obtain ⟨q, e, h⟩ := anyO_inv h
  obtain ⟨h1, h2⟩ := Bool.and_eq_true_iff.mp h
  obtain ⟨_, e1⟩ := Option.isSome_iff_exists.mp h1
  obtain ⟨_, e2⟩ := Option.isSome_iff_exists.mp h2
  exact .inl ⟨_, by rw [dDict_inv e, dNil_inv e1, dNil_inv e2], trivial⟩
theorem i_comp {x : String} {it : It} (h : okE ns (.comp a x it) ex = true) : (∃ e t pt i sc p, ex = .ListComp e [⟨.Name t pt, i, [], 0⟩] sc p ∧ (t == Str.ofString x && okSc ns sc x && okIt ns it i && okE (relN ns sc.names) a e) = true) ∨ False := by
  obtain ⟨q, e, h⟩ := anyO_inv h
  obtain ⟨_, e1, h⟩ := anyO_inv h
  exact .inl ⟨_, _, _, _, _, _, by rw [dComp_inv e, dNil_inv e1], h⟩
theorem i_compif {x : String} {it : It} (h : okE ns (.compif a x it c) ex = true) : (∃ e t pt i f sc p, ex = .ListComp e [⟨.Name t pt, i, [f], 0⟩] sc p ∧ (t == Str.ofString x && okSc ns sc x && okIt ns it i && okE (relN ns sc.names) c f && okE (relN ns sc.names) a e) = true) ∨ False := by
  obtain ⟨q, e, h⟩ := anyO_inv h
  obtain ⟨_, e1, h⟩ := anyO_inv h
  exact .inl ⟨_, _, _, _, _, _, _, by rw [dComp_inv e, dOne_inv e1], h⟩
theorem i_sub (h : okE ns (.sub a b) ex = true) : (∃ v s p, ex = .Subscript v s p ∧ (okE ns a v && okE ns b s) = true) ∨ False := by
  obtain ⟨q, e, h⟩ := anyO_inv h
  exact .inl ⟨_, _, _, dSub_inv e, h⟩
theorem isNone_inv {α : Type} {o : Option α} (h : o.isNone = true) : o = none := by cases o with | none => rfl | some => cases h
theorem i_slo (h : okE ns (.slo a b) ex = true) : (∃ v l p pos, ex = .Subscript v (.Slice (some l) none none p) pos ∧ (okE ns a v && okE ns b l) = true) ∨ False := by
  obtain ⟨q, e, h⟩ := anyO_inv h
  obtain ⟨l, e1, h⟩ := anyO_inv h
  obtain ⟨h1, h2⟩ := Bool.and_eq_true_iff.mp h
  obtain ⟨h3, h4⟩ := Bool.and_eq_true_iff.mp h1
  exact .inl ⟨_, l, _, _, by rw [dSl_inv e, e1, isNone_inv h3, isNone_inv h4], h2⟩
theorem i_shi (h : okE ns (.shi a b) ex = true) : (∃ v l p pos, ex = .Subscript v (.Slice none (some l) none p) pos ∧ (okE ns a v && okE ns b l) = true) ∨ False := by
  obtain ⟨q, e, h⟩ := anyO_inv h
  obtain ⟨l, e1, h⟩ := anyO_inv h
  obtain ⟨h1, h2⟩ := Bool.and_eq_true_iff.mp h
  obtain ⟨h3, h4⟩ := Bool.and_eq_true_iff.mp h1
  exact .inl ⟨_, l, _, _, by rw [dSl_inv e, e1, isNone_inv h3, isNone_inv h4], h2⟩
theorem i_rev (h : okE ns (.rev a) ex = true) : (∃ v i n1 p1 p2 p pos, ex = .Subscript v (.Slice none none (some (.UnaryOp .USub (.Constant (.int i) n1 p1) p2)) p) pos ∧ (i == 1 && okE ns a v) = true) ∨ False := by
  obtain ⟨q, e, h⟩ := anyO_inv h
  obtain ⟨l, e1, h⟩ := anyO_inv h
  obtain ⟨h1, h2⟩ := Bool.and_eq_true_iff.mp h
  obtain ⟨h3, h4⟩ := Bool.and_eq_true_iff.mp h1
  obtain ⟨u, e2, h⟩ := anyO_inv h2
  obtain ⟨h5, h6⟩ := Bool.and_eq_true_iff.mp h
  obtain ⟨c, e3, h⟩ := anyO_inv h6
  obtain ⟨i, e4, h⟩ := anyO_inv h
  exact .inl ⟨_, i, _, _, _, _, _, by rw [dSl_inv e, e1, isNone_inv h3, isNone_inv h4, dUn_inv e2, of_decide_eq_true h5, dConst_inv e3, cInt_inv e4], h⟩
theorem i_bi1 {f : B1} (h : okE ns (.bi1 f a) ex = true) : (∃ id p x pos, ex = .Call (.Name id p) [x] [] pos ∧ (id == Str.ofString (b1n f) && glbK ns (b1n f) && okE ns a x) = true) ∨ False := by
  obtain ⟨q, e, h⟩ := anyO_inv h
  obtain ⟨x, e1, h⟩ := anyO_inv h
  exact .inl ⟨_, _, x, _, by rw [dFn_inv e, dOne_inv e1], h⟩
theorem i_bi2 {f : B2} (h : okE ns (.bi2 f a b) ex = true) : (∃ id p x y pos, ex = .Call (.Name id p) [x, y] [] pos ∧ (id == Str.ofString (b2n f) && glbK ns (b2n f) && okE ns a x && okE ns b y) = true) ∨ False := by
  obtain ⟨q, e, h⟩ := anyO_inv h
  obtain ⟨x, e1, h⟩ := anyO_inv h
  exact .inl ⟨_, _, x.1, x.2, _, by rw [dFn_inv e, dTwo_inv e1], h⟩
theorem i_listR (h : okE ns (.listR a) ex = true) : (∃ id p jd p2 x p3 pos, ex = .Call (.Name id p) [.Call (.Name jd p2) [x] [] p3] [] pos ∧ (id == Str.ofString "list" && glbK ns "list" && jd == Str.ofString "range" && glbK ns "range" && okE ns a x) = true) ∨ False := by
  obtain ⟨q, e, h⟩ := anyO_inv h
  obtain ⟨y, e1, h⟩ := anyO_inv h
  obtain ⟨r, e2, h⟩ := anyO_inv h
  obtain ⟨x, e3, h⟩ := anyO_inv h
  exact .inl ⟨_, _, _, _, x, _, _, by rw [dFn_inv e, dOne_inv e1, dFn_inv e2, dOne_inv e3], h⟩
theorem i_isi {t : String} (h : okE ns (.isi a t) ex = true) : (∃ id p x c pc pos, ex = .Call (.Name id p) [x, .Name c pc] [] pos ∧ (id == Str.ofString "isinstance" && glbK ns "isinstance" && okE ns a x && c == Str.ofString t && glbK ns t && notDebug t) = true) ∨ False := by
  obtain ⟨q, e, h⟩ := anyO_inv h
  obtain ⟨x, e1, h⟩ := anyO_inv h
  obtain ⟨c, e2, h⟩ := anyO_inv h
  exact .inl ⟨_, _, x.1, c.1, c.2, _, by rw [dFn_inv e, dTwo_inv e1, dName_inv e2], h⟩
theorem i_call {f : String} {es : Es} (h : okE ns (.call f es) ex = true) : (∃ id p xs pos, ex = .Call (.Name id p) xs [] pos ∧ (id == Str.ofString f && glbK ns f && notDebug f && !xs.isEmpty && decide (xs.length < 20) && okEs ns es xs) = true) ∨ False := by
  obtain ⟨q, e, h⟩ := anyO_inv h
  exact .inl ⟨_, _, _, _, dFn_inv e, h⟩
theorem i_nil {xs : List Expr} (h : okEs ns .nil xs = true) : (xs = [] ∧ True) ∨ False := by
  obtain ⟨_, e⟩ := Option.isSome_iff_exists.mp (show (dNil xs).isSome = true from h)
  exact .inl ⟨dNil_inv e, trivial⟩
theorem i_cons {es : Es} {xs : List Expr} (h : okEs ns (.cons a es) xs = true) : (∃ x ys, xs = x :: ys ∧ (okE ns a x && okEs ns es ys) = true) ∨ False := by
  obtain ⟨q, e, h⟩ := anyO_inv h
  exact .inl ⟨_, _, dCons_inv e, h⟩
theorem i_r1 (h : okIt ns (.r1 a) ex = true) : (∃ id p x pos, ex = .Call (.Name id p) [x] [] pos ∧ (id == Str.ofString "range" && glbK ns "range" && okE ns a x) = true) ∨ False := by
  obtain ⟨q, e, h⟩ := anyO_inv h
  obtain ⟨x, e1, h⟩ := anyO_inv h
  exact .inl ⟨_, _, x, _, by rw [dFn_inv e, dOne_inv e1], h⟩
theorem i_r2 (h : okIt ns (.r2 a b) ex = true) : (∃ id p x y pos, ex = .Call (.Name id p) [x, y] [] pos ∧ (id == Str.ofString "range" && glbK ns "range" && okE ns a x && okE ns b y) = true) ∨ False := by
  obtain ⟨q, e, h⟩ := anyO_inv h
  obtain ⟨x, e1, h⟩ := anyO_inv h
  exact .inl ⟨_, _, x.1, x.2, _, by rw [dFn_inv e, dTwo_inv e1], h⟩
end

end Mine

namespace Mine
open PySem PyProof.Rows

noncomputable def Room (k : Nat) (A : Around) : Prop := A.handled = none ∧ A.depth + k < recursionLimit ∧ A.units + 100 * k + 200 < cLine

noncomputable def bnames : List String := ["len", "list", "tuple", "sorted", "max", "min", "sum", "range", "isinstance", "int", "bool", "str"]
noncomputable def bval (x : String) : Value := if x ∈ ["list", "tuple", "range", "int", "bool", "str"] then .type x else .builtin x

/-- a function's text -/
structure FnT where
  params : List String
  body : List Stmt
  scope : Scope
structure Fns where
  fn : String → Option (Addr × FnT)
  rule : Option Addr

/-- the function of a text -/
noncomputable def FnAt (h : Heap) (ft : FnT) (a : Addr) : Prop := ∃ o fd, h.get? a = some o ∧ o.data = .func fd ∧ fd.body = .stmts ft.body ∧ fd.scope = ft.scope ∧ fd.globals = mainGlobals ∧ fd.closure = [] ∧ fd.builtins = builtinsNs ∧ h.CodeRec fd.code fd.qualname ∧
  (∀ vals, vals.length = ft.params.length → bindArgs fd ⟨vals, []⟩ = pure ((ft.params.map Str.ofString).zip vals)) ∧ fd.scope.isCoroutine = false ∧ fd.scope.isGenerator = false ∧ fd.scope.kind = .function
theorem FnAt.keep {h h' : Heap} {ft : FnT} {a : Addr} (x : FnAt h ft a) (k : ∀ b o, h.get? b = some o → h'.get? b = some o) : FnAt h' ft a := by
  obtain ⟨o, fd, h1, h2, h3, h4, h5, h6, h7, ⟨c, oc, vs, tq, c1, c2, c3⟩, h9⟩ := x
  exact ⟨o, fd, k _ _ h1, h2, h3, h4, h5, h6, h7, ⟨c, oc, vs, tq, c1, k _ _ c2, c3⟩, h9⟩

/-- what holds of the ground: the names of the top and of the built-ins -/
structure GE (fns : Fns) (h : Heap) : Prop where
  glob : ∃ mg, h.Ns mainGlobals mg ∧ (∀ f p, fns.fn f = some p → mg (Str.ofString f) = some (.ref p.1)) ∧ ∀ x ∈ bnames, mg (Str.ofString x) = none
  funs : ∀ f p, fns.fn f = some p → FnAt h p.2 p.1
  blt : ∃ mb, h.Ns builtinsNs mb ∧ ∀ x ∈ bnames, mb (Str.ofString x) = some (bval x)
  nolim : h.NoLimit
theorem GE.keep {fns : Fns} {h h' : Heap} (G : GE fns h) (k : ∀ b o, h.get? b = some o → h'.get? b = some o) : GE fns h' where
  glob := let ⟨mg, a, b⟩ := G.glob; ⟨mg, a.keeps k, b⟩
  funs := fun f p e => (G.funs f p e).keep k
  blt := let ⟨mb, a, b⟩ := G.blt; ⟨mb, a.keeps k, b⟩
  nolim := let ⟨mc, a, b⟩ := G.nolim; ⟨mc, a.keeps k, b⟩

section
variable (prog : Program) (w : World)
noncomputable def RV (h : Heap) (v : Value) : V → List Addr → Prop
  | .d x, as => R h v x as ∧ sz x = true
  | .dic0, as => ∃ a, v = .ref a ∧ as = [a] ∧ (a == sysModules) = false ∧ h.DictOf (intKind prog w) a [] ∧ h.DictOfH (tupleKind (intKind prog w)) a []
  | .dicI ks, as => ∃ a, v = .ref a ∧ as = [a] ∧ (a == sysModules) = false ∧ h.DictOf (intKind prog w) a (ks.map fun k => (k, .bool true))
  | .dicT ks, as => ∃ a xs, v = .ref a ∧ as = [a] ∧ (a == sysModules) = false ∧ h.DictOfH (tupleKind (intKind prog w)) a xs ∧ xs.map (·.1) = ks ∧ ∀ k ∈ ks, k.length ≤ 2 ^ 22
  | .inst _, _ => False

inductive RVs (h : Heap) : List V → List Value → List Addr → Prop
  | nil : RVs h [] [] []
  | cons {x : V} {xs : List V} {v : Value} {vs : List Value} {as bs : List Addr} : RV prog w h v x as → RVs h xs vs bs → RVs h (x :: xs) (v :: vs) (as ++ bs)
end

inductive VarIs (h : Heap) (env : Env) (x : Str) (v : Value) : Prop
  | loc (m : Str → Option Value) : env.kindOf x = some .local → h.Ns env.locals m → m x = some v → VarIs h env x v
  | cell (c : Addr) : env.kindOf x = some .cell ∨ env.kindOf x = some .free → env.cells.lookup x = some c → h.IsCell c (some v) → VarIs h env x v

structure EnvOk (env : Env) : Prop where
  kind : env.scope.kind = .function
  glob : env.globals = mainGlobals
  blt : env.builtins = builtinsNs
  cells : ∀ n, env.kindOf n = some .cell ∨ env.kindOf n = some .free → ∃ c, env.cells.lookup n = some c

section
variable {prog : Program} {w : World}

theorem HK_keep {h h' : Heap} {a : Addr} {ks : List Int} (x : IsTupleKey (intKind prog w) h ks a) (k : ∀ b o, h.get? b = some o → h'.get? b = some o) : IsTupleKey (intKind prog w) h' ks a :=
  let ⟨o, it, n, a1, r⟩ := x; ⟨o, it, n, k _ _ a1, r⟩
theorem DictOf_keep {h h' : Heap} {a : Addr} {kvs : List (Int × Value)} (x : h.DictOf (intKind prog w) a kvs) (k : ∀ b o, h.get? b = some o → h'.get? b = some o) : h'.DictOf (intKind prog w) a kvs :=
  let ⟨o, es, ep, a1, r⟩ := x; ⟨o, es, ep, k _ _ a1, r⟩
theorem DictOfH_keep {h h' : Heap} {a : Addr} {xs : List (List Int × Addr × Value)} (x : h.DictOfH (tupleKind (intKind prog w)) a xs) (k : ∀ b o, h.get? b = some o → h'.get? b = some o) : h'.DictOfH (tupleKind (intKind prog w)) a xs :=
  let ⟨o, es, ep, a1, a2, a3, a4, a5, a6⟩ := x; ⟨o, es, ep, k _ _ a1, a2, a3, a4, fun y hy => HK_keep (a5 y hy) k, a6⟩
theorem RV.keep {h h' : Heap} {v : Value} {x : V} {as : List Addr} (r : RV prog w h v x as) (k : ∀ b o, h.get? b = some o → h'.get? b = some o) : RV prog w h' v x as := by
  cases x with
  | d x => exact ⟨r.1.keep k, r.2⟩
  | dic0 => obtain ⟨a, h1, h2, h3, h4, h5⟩ := r; exact ⟨a, h1, h2, h3, DictOf_keep h4 k, DictOfH_keep h5 k⟩
  | dicI ks => obtain ⟨a, h1, h2, h3, h4⟩ := r; exact ⟨a, h1, h2, h3, DictOf_keep h4 k⟩
  | dicT ks => obtain ⟨a, xs, h1, h2, h3, h4, h5⟩ := r; exact ⟨a, xs, h1, h2, h3, DictOfH_keep h4 k, h5⟩
  | inst fs => exact r
theorem RVs.keep {h h' : Heap} (k : ∀ b o, h.get? b = some o → h'.get? b = some o) : ∀ {xs : List V} {vs : List Value} {as : List Addr}, RVs prog w h xs vs as → RVs prog w h' xs vs as
  | _, _, _, .nil => .nil
  | _, _, _, .cons r q => .cons (r.keep k) (RVs.keep k q)
theorem VarIs.keep {h h' : Heap} {env : Env} {x : Str} {v : Value} (r : VarIs h env x v) (k : ∀ b o, h.get? b = some o → h'.get? b = some o) : VarIs h' env x v := by
  cases r with
  | loc m a b c => exact .loc m a (b.keeps k) c
  | cell c a b d => exact .cell c a b (d.keeps k)
noncomputable def Kp (s s' : Shared) : Prop := ∃ h' tk, s' = { s with heap := h', toks := tk } ∧ ∀ b o, s.heap.get? b = some o → h'.get? b = some o
theorem Kp.refl (s : Shared) : Kp s s := ⟨s.heap, s.toks, rfl, fun _ _ e => e⟩
theorem Kp.trans {s s₁ s₂ : Shared} (a : Kp s s₁) (b : Kp s₁ s₂) : Kp s s₂ := by
  obtain ⟨h, t, rfl, k⟩ := a
  obtain ⟨h', t', rfl, k'⟩ := b
  exact ⟨h', t', rfl, fun b o e => k' b o (k b o e)⟩
theorem Kp.get {s s₁ : Shared} (a : Kp s s₁) : ∀ b o, s.heap.get? b = some o → s₁.heap.get? b = some o := by
  obtain ⟨h, t, rfl, k⟩ := a; exact k
theorem Kp.toks (s : Shared) (t : Nat) : Kp s { s with toks := t } := ⟨s.heap, t, rfl, fun _ _ e => e⟩
theorem Kp.push (s : Shared) (o : Obj) (t : Nat) : Kp s { s with heap := s.heap.push o, toks := t } := ⟨_, t, rfl, fun _ _ e => Heap.get?_push_of_some _ e⟩
theorem Kp.none {s s₁ : Shared} (a : Kp s s₁) {b : Addr} (e : s₁.heap.get? b = none) : s.heap.get? b = none := by
  cases q : s.heap.get? b with
  | none => rfl
  | some o => rw [a.get b o q] at e; cases e

variable (prog w)
structure Cx (fns : Fns) (k : Nat) (A : Around) (P : Addr → Prop) (h : Heap) (env : Env) (σ : St) : Prop where
  room : Room k A
  eok : EnvOk env
  ge : GE fns h
  vars : ∀ x p, σ x = some p → varK env.scope.names x = true → ∃ v as, VarIs h env (Str.ofString x) v ∧ RV prog w h v p.1 as ∧ ∀ a ∈ as, P a

/-- what an expression leaves -/
inductive EP (P : Addr → Prop) (s : Shared) (r : V × Mode) (v : Value) (s' : Shared) : Prop
  | mk (kp : Kp s s') (as : List Addr) (rv : RV prog w s'.heap v r.1 as) (own : ∀ a ∈ as, P a ∨ s.heap.get? a = none) (top : r.2 = .top → ∃ a bs, as = a :: bs ∧ s.heap.get? a = none ∧ a ∉ bs) (deep : r.2 = .deep → (∀ a ∈ as, s.heap.get? a = none) ∧ as.Nodup) : EP P s r v s'
inductive EPs (P : Addr → Prop) (s : Shared) (l : List (V × Mode)) (vs : List Value) (s' : Shared) : Prop
  | mk (kp : Kp s s') (as : List Addr) (rv : RVs prog w s'.heap (l.map (·.1)) vs as) (own : ∀ a ∈ as, P a ∨ s.heap.get? a = none) (deep : allDeep l = true → (∀ a ∈ as, s.heap.get? a = none) ∧ as.Nodup) : EPs P s l vs s'
variable {prog w}
theorem EP.keeps {P : Addr → Prop} {s s' : Shared} {r : V × Mode} {v : Value} (e : EP prog w P s r v s') : Kp s s' := by cases e; assumption
theorem EPs.keeps {P : Addr → Prop} {s s' : Shared} {l : List (V × Mode)} {vs : List Value} (e : EPs prog w P s l vs s') : Kp s s' := by cases e; assumption

theorem Cx.keep {fns : Fns} {k : Nat} {A : Around} {P : Addr → Prop} {h h' : Heap} {env : Env} {σ : St} (X : Cx prog w fns k A P h env σ) (kp : ∀ b o, h.get? b = some o → h'.get? b = some o) : Cx prog w fns k A P h' env σ where
  room := X.room
  eok := X.eok
  ge := X.ge.keep kp
  vars := fun x p hp hv => let ⟨v, as, a, b, c⟩ := X.vars x p hp hv; ⟨v, as, a.keep kp, b.keep kp, c⟩

/-- a scalar -/
theorem EP.scalar {P : Addr → Prop} {s s' : Shared} {x : PyData} {v : Value} {m : Mode} (k : Kp s s') (r : R s'.heap v x []) (z : sz x = true) (hm : m ≠ .top) : EP prog w P s (.d x, m) v s' :=
  ⟨k, [], ⟨r, z⟩, fun _ h => (nomatch h), fun h => absurd h hm, fun _ => ⟨fun _ h => (nomatch h), .nil⟩⟩
theorem EP.int {P : Addr → Prop} {s s' : Shared} {i : Int} {t : Tok} (k : Kp s s') : EP prog w P s (sI i) (.int i t) s' := .scalar k (.int i t) rfl (by simp)
theorem EP.bool {P : Addr → Prop} {s s' : Shared} {b : Bool} (k : Kp s s') : EP prog w P s (sB b) (.bool b) s' := .scalar k (.bool b) rfl (by simp)
/-- one after another -/
theorem EP.after {P : Addr → Prop} {s s₁ s' : Shared} {r : V × Mode} {v : Value} (k : Kp s s₁) (e : EP prog w P s₁ r v s') : EP prog w P s r v s' := by
  obtain ⟨k', as, a, b, c, d⟩ := e
  exact ⟨k.trans k', as, a, fun x hx => (b x hx).imp id k.none, fun hm => let ⟨a, bs, h1, h2, h3⟩ := c hm; ⟨a, bs, h1, k.none h2, h3⟩, fun hm => ⟨fun x hx => k.none ((d hm).1 x hx), (d hm).2⟩⟩
/-- the value behind a later step -/
theorem EP.later {P : Addr → Prop} {s s₁ s' : Shared} {r : V × Mode} {v : Value} (e : EP prog w P s r v s₁) (k : Kp s₁ s') : EP prog w P s r v s' := by
  obtain ⟨k', as, a, b, c, d⟩ := e
  exact ⟨k'.trans k, as, a.keep k.get, b, c, d⟩

end
end Mine

namespace Mine
open PySem PyProof.Rows

section
variable (prog : Program) (w : World) (fns : Fns) (k : Nat) (C : Calls) (XP : String → Shared → Value → Shared → Prop)

noncomputable def SimE (e : E) : Prop := ∀ {ex : Expr} {A : Around} {env : Env} {σ : St} {P : Addr → Prop} {s : Shared} {Q : Value → Shared → Prop} {Er : Value → Shared → Prop},
  okE env.scope.names e ex = true → Cx prog w fns k A P s.heap env σ → ev C e σ ≠ .bad →
  (∀ r, ev C e σ = .ok r → ∀ v s', EP prog w P s r v s' → Q v s') → (∀ c, ev C e σ = .exc c → ∀ x s', XP c s x s' → Er x s') →
  wpAny (model prog w) A (eval ex env) Q Er s
noncomputable def SimT (e : E) : Prop := ∀ {ex : Expr} {A : Around} {env : Env} {σ : St} {P : Addr → Prop} {s : Shared} {Q : Bool → Shared → Prop} {Er : Value → Shared → Prop},
  okE env.scope.names e ex = true → Cx prog w fns k A P s.heap env σ → ((ev C e σ).bind fun r => truth r.1) ≠ .bad →
  (∀ b, ((ev C e σ).bind fun r => truth r.1) = .ok b → ∀ s', Kp s s' → Q b s') → (∀ c, ev C e σ = .exc c → ∀ x s', XP c s x s' → Er x s') →
  wpAny (model prog w) A (isTrue ex env (eval ex env)) Q Er s
end

theorem bind_ne_bad {α β : Type} {o : Out α} {f : α → Out β} (h : o.bind f ≠ .bad) : o ≠ .bad ∧ ∀ a, o = .ok a → f a ≠ .bad := by
  cases o with
  | ok a => exact ⟨fun e => (by cases e), fun _ e => by cases e; exact h⟩
  | exc c => exact ⟨fun e => (by cases e), fun _ e => by cases e⟩
  | bad => exact absurd rfl h
theorem bind_exc {α β : Type} {o : Out α} {f : α → Out β} {c : String} (h : o.bind f = .exc c) : o = .exc c ∨ ∃ a, o = .ok a ∧ f a = .exc c := by
  cases o with
  | ok a => exact .inr ⟨a, rfl, h⟩
  | exc c => cases h; exact .inl rfl
  | bad => cases h

section
variable {prog : Program} {w : World} {fns : Fns} {k : Nat} {C : Calls} {XP : String → Shared → Value → Shared → Prop}

theorem sim2 (hXP : ∀ c s s₁ x s', Kp s s₁ → XP c s₁ x s' → XP c s x s') {a b : E} (Sa : SimE prog w fns k C XP a) (Sb : SimE prog w fns k C XP b)
    {ea eb : Expr} {A : Around} {env : Env} {σ : St} {P : Addr → Prop} {s : Shared} {G : Value → Value → Shared → Prop} {Er : Value → Shared → Prop}
    (oa : okE env.scope.names a ea = true) (ob : okE env.scope.names b eb = true) (X : Cx prog w fns k A P s.heap env σ)
    (na : ev C a σ ≠ .bad) (nb : ∀ x, ev C a σ = .ok x → ev C b σ ≠ .bad)
    (hE : ∀ c, (ev C a σ = .exc c ∨ ∃ x, ev C a σ = .ok x ∧ ev C b σ = .exc c) → ∀ x s', XP c s x s' → Er x s')
    (hG : ∀ x y, ev C a σ = .ok x → ev C b σ = .ok y → ∀ va vb s₁ s₂, EP prog w P s x va s₁ → EP prog w P s₁ y vb s₂ → G va vb s₂) :
    wpAny (model prog w) A (eval ea env) (fun va s₁ => wpAny (model prog w) A (eval eb env) (fun vb s₂ => G va vb s₂) Er s₁) Er s :=
  Sa oa X na (fun x hx va s₁ Ea => Sb ob (X.keep Ea.keeps.get) (nb x hx) (fun y hy vb s₂ Eb => hG x y hx hy va vb s₁ s₂ Ea Eb)
    fun c hc z s' hz => hE c (.inr ⟨x, hx, hc⟩) z s' (hXP c s s₁ z s' Ea.keeps hz)) fun c hc => hE c (.inl hc)

/-! ## leaves -/
theorem kind_of_varK {env : Env} {x : String} (h : varK env.scope.names x = true) : env.kindOf (Str.ofString x) = some .local ∨ env.kindOf (Str.ofString x) = some .cell ∨ env.kindOf (Str.ofString x) = some .free := by
  unfold varK at h
  unfold Env.kindOf
  replace h := (Bool.and_eq_true_iff.mp h).2
  split at h <;> first | (rename_i e; exact .inl e) | (rename_i e; exact .inr (.inl e)) | (rename_i e; exact .inr (.inr e)) | cases h

theorem wp_var {A : Around} {env : Env} {x : String} {pos : Pos} {v : Value} {s : Shared} {Q : Value → Shared → Prop} {Er : Value → Shared → Prop} (hk : env.scope.kind = .function) (hd : notDebug x = true)
    (hv : VarIs s.heap env (Str.ofString x) v) (h : Q v s) : wpAny (model prog w) A (eval (.Name (Str.ofString x) pos) env) Q Er s := by
  unfold notDebug at hd
  simp only [Bool.and_eq_true, Bool.not_eq_true'] at hd
  cases hv with
  | loc m a b c => exact wpAny_Name (wpAny_loadName_local hk a b c h) hd.1
  | cell c a b d =>
    rcases a with a | a
    · exact wpAny_Name (wpAny_loadName_cell hk a b d h) hd.1
    · exact wpAny_Name (wpAny_loadName_free hk a b d h hd.2) hd.1

theorem mk_ep {P : Addr → Prop} {s : Shared} {v : Value} {x : V} {as : List Addr} (r : RV prog w s.heap v x as) (h : ∀ a ∈ as, P a) : EP prog w P s (mk x) v s := by
  refine ⟨.refl s, as, r, fun a ha => .inl (h a ha), fun hm => ?_, fun hm => ?_⟩
  · unfold mk at hm; dsimp only at hm; split at hm <;> cases hm
  · cases x with
    | d x =>
      unfold mk at hm; dsimp only at hm
      split at hm
      · rename_i hs
        have : as = [] := r.1.sx_nil hs
        subst this
        exact ⟨fun _ h => (nomatch h), .nil⟩
      · cases hm
    | _ => simp [mk, scal] at hm

theorem inv_name {ns : List (Str × NameKind)} {x : String} {ex : Expr} (h : okE ns (.name x) ex = true) : ∃ p, ex = .Name (Str.ofString x) p ∧ varK ns x = true ∧ notDebug x = true := by
  replace h := i_name h
  rcases h with ⟨_, _, rfl, h⟩ | h
  · simp only [Bool.and_eq_true, beq_iff_eq] at h
    obtain ⟨⟨rfl, h2⟩, h3⟩ := h
    exact ⟨_, rfl, h2, h3⟩
  · cases h
theorem sim_name (x : String) : SimE prog w fns k C XP (.name x) := by
  intro ex A env σ P s Q Er ok X nb hQ hE
  obtain ⟨p, rfl, hv, hd⟩ := inv_name ok
  cases hσ : σ x with
  | none => exact absurd (by simp [ev, hσ]) nb
  | some q =>
    obtain ⟨v, as, h1, h2, h3⟩ := X.vars x q hσ hv
    exact wp_var X.eok.kind hd h1 (hQ (mk q.1) (by simp [ev, hσ]) v s (mk_ep h2 h3))

theorem sim_int (i : Int) : SimE prog w fns k C XP (.int i) := by
  intro ex A env σ P s Q Er ok X nb hQ hE
  replace ok := i_int ok
  rcases ok with ⟨_, _, _, rfl, ok⟩ | ok
  · simp only [beq_iff_eq] at ok
    subst ok
    exact wpAny_Constant_int (hQ (sI i) rfl _ _ (.int (.toks s _)))
  · cases ok
theorem sim_str (x : String) : SimE prog w fns k C XP (.str x) := by
  intro ex A env σ P s Q Er ok X nb hQ hE
  replace ok := i_str ok
  rcases ok with ⟨_, _, _, rfl, ok⟩ | ok
  · simp only [Bool.and_eq_true, beq_iff_eq, decide_eq_true_eq] at ok
    obtain ⟨rfl, hx⟩ := ok
    exact wpAny_Constant_str (hQ (.d (.str (Str.ofString x)), .deep) rfl _ _ (.scalar (.toks s _) (.str _ _) (by simpa [sz] using hx) (by simp)))
  · cases ok
theorem sim_bool (b : Bool) : SimE prog w fns k C XP (.bool b) := by
  intro ex A env σ P s Q Er ok X nb hQ hE
  replace ok := i_bool ok
  rcases ok with ⟨_, _, _, rfl, ok⟩ | ok
  · simp only [beq_iff_eq] at ok
    subst ok
    exact wpAny_Constant_bool (hQ (sB b) rfl _ _ (.bool (.refl s)))
  · cases ok
theorem sim_none : SimE prog w fns k C XP .none := by
  intro ex A env σ P s Q Er ok X nb hQ hE
  replace ok := i_none ok
  rcases ok with ⟨_, _, rfl, ok⟩ | ok
  · exact wpAny_Constant_none (hQ (.d .none, .deep) rfl _ _ (.scalar (.refl s) .none rfl (by simp)))
  · cases ok

theorem new_none (h : Heap) : h.get? h.objs.size = none := Heap.get?_none_of_le (Nat.le_refl _)
theorem not_new {h : Heap} {a : Addr} {o : Obj} (e : h.get? a = some o) : a ≠ h.objs.size := Nat.ne_of_lt (Heap.lt_size e)

/-- a new list whose items stand already -/
theorem EP.newList {P : Addr → Prop} {s : Shared} {xs : List PyData} {vs : List Value} {as : List Addr} {t : Nat} (r : RA s.heap vs xs as) (hl : xs.length ≤ 2 ^ 22) (hz : ∀ x ∈ xs, sz x = true) (ha : ∀ a ∈ as, P a) :
    EP prog w P s (.d (.list xs), fresh xs) (.ref s.heap.objs.size) { s with heap := s.heap.push { cls := .type "list", data := .seq vs.toArray }, toks := t } := by
  refine ⟨.push s _ _, s.heap.objs.size :: as, ⟨.list (Heap.get?_push_size _ rfl) (r.keep fun _ _ e => Heap.get?_push_of_some _ e), sz_list.mpr ⟨hl, hz⟩⟩, ?_, ?_, ?_⟩
  · intro a h
    rcases List.mem_cons.mp h with rfl | h
    · exact .inr (new_none _)
    · exact .inl (ha a h)
  · intro _
    exact ⟨_, _, rfl, new_none _, fun h => let ⟨_, _, e⟩ := r.there _ h; not_new e rfl⟩
  · intro hm
    have hall : xs.all sx = true := by
      unfold fresh at hm; dsimp only at hm; split at hm
      · assumption
      · cases hm
    rw [r.sx_nil hall]
    refine ⟨fun a h => ?_, by simp⟩
    rcases List.mem_cons.mp h with rfl | h
    · exact new_none _
    · cases h

section
variable {va vb : Value} {as bs : List Addr} {A : Around} {P : Addr → Prop} {s : Shared} {Q : Value → Shared → Prop} {Er : Value → Shared → Prop}
theorem bin_addL {xs ys : List PyData} (ra : R s.heap va (.list xs) as) (za : sz (.list xs) = true) (rb : R s.heap vb (.list ys) bs) (zb : sz (.list ys) = true) (ha : ∀ a ∈ as, P a) (hb : ∀ a ∈ bs, P a) (hl : xs.length + ys.length ≤ lim)
    (hQ : ∀ v s', EP prog w P s (.d (.list (xs ++ ys)), fresh (xs ++ ys)) v s' → Q v s') : wpAny (model prog w) A (binaryOp .Add va vb) Q Er s := by
  cases ra with
  | list ea ra =>
  cases rb with
  | list eb rb =>
  unfold lim at hl
  rw [sz_list] at za zb
  have e1 := ra.length
  have e2 := rb.length
  refine PySem.P.add_list ea eb ?_ ?_
  · have := EP.newList (prog := prog) (w := w) (P := P) (t := s.toks) (ra.append rb) (by rw [List.length_append]; omega) (fun z hz => (List.mem_append.mp hz).elim (za.2 z) (zb.2 z)) fun a h => (List.mem_append.mp h).elim (fun h => ha a (.tail _ h)) fun h => hb a (.tail _ h)
    exact hQ _ _ (by simpa using this)
  · rw [List.size_toArray, List.size_toArray, e1, e2]
    unfold sizeLine; omega
theorem bin_mul {a b : Int} {t u : Tok} (h : a.natAbs < 2 ^ 63 ∨ b.natAbs < 2 ^ 63) (hQ : ∀ v s', EP prog w P s (sI (a * b)) v s' → Q v s') : wpAny (model prog w) A (binaryOp .Mult (.int a t) (.int b u)) Q Er s := by
  refine mul_int (hQ _ _ (.int (.toks s _))) ?_
  rcases h with hl | hl
  · exact IntMulOk.of_left (intBits_le_64 (by omega) (by omega))
  · exact IntMulOk.of_right (intBits_le_64 (by omega) (by omega))
theorem bin_fdiv {a b : Int} {t u : Tok} (h : ¬ (b = 0 ∨ 1000000000 ≤ b.natAbs)) (hQ : ∀ v s', EP prog w P s (sI (a.fdiv b)) v s' → Q v s') : wpAny (model prog w) A (binaryOp .FloorDiv (.int a t) (.int b u)) Q Er s :=
  floordiv_int (fun e => h (.inl e)) (hQ _ _ (.int (.toks s _))) (.inl (PyProof.noPylong_small (by omega)))
theorem bin_pow {a b : Int} {t u : Tok} (h : 0 ≤ b ∧ b ≤ 1000 ∧ a.natAbs < 2 ^ 63) (hQ : ∀ v s', EP prog w P s (sI (a ^ b.toNat)) v s' → Q v s') : wpAny (model prog w) A (binaryOp .Pow (.int a t) (.int b u)) Q Er s :=
  pow_int_small h.1 (by omega) (by omega) (hQ _ _ (.int (.toks s _)))

/-- arithmetic; two lists put together -/
theorem bin_step {o : BOp} {op : Operator} {x y : PyData} {r : V × Mode} 
    (ho : opB o op = true) (he : binV o x y = .ok r) (ra : R s.heap va x as) (za : sz x = true) (rb : R s.heap vb y bs) (zb : sz y = true) (ha : ∀ a ∈ as, P a) (hb : ∀ a ∈ bs, P a)
    (hQ : ∀ v s', EP prog w P s r v s' → Q v s') : wpAny (model prog w) A (binaryOp op va vb) Q Er s := by
  cases of_decide_eq_true ho
  cases o with
  | add =>
    replace he : addV x y = .ok r := he
    unfold addV at he
    cases hx : asL x with
    | some xs =>
      rw [hx] at he
      replace he := optO_ok he
      obtain ⟨ys, hy, he⟩ := he
      cases asL_inv hx
      cases asL_inv hy
      clear hx hy
      split at he <;> cases he
      exact bin_addL ra za rb zb ha hb (by assumption) hQ
    | none =>
      rw [hx] at he
      replace he := i2_ok he
      obtain ⟨a, b, rfl, rfl, he⟩ := he
      cases he; obtain ⟨_, rfl, rfl⟩ := ra.isInt; obtain ⟨_, rfl, rfl⟩ := rb.isInt
      exact add_int (hQ _ _ (.int (.toks s _)))
  | sub =>
    replace he := i2_ok he
    obtain ⟨a, b, rfl, rfl, he⟩ := he
    cases he; obtain ⟨_, rfl, rfl⟩ := ra.isInt; obtain ⟨_, rfl, rfl⟩ := rb.isInt
    exact sub_int (hQ _ _ (.int (.toks s _)))
  | mul =>
    replace he := i2_ok he
    obtain ⟨a, b, rfl, rfl, he⟩ := he
    split at he <;> cases he
    obtain ⟨_, rfl, rfl⟩ := ra.isInt; obtain ⟨_, rfl, rfl⟩ := rb.isInt
    exact bin_mul (by assumption) hQ
  | fdiv =>
    replace he := i2_ok he
    obtain ⟨a, b, rfl, rfl, he⟩ := he
    split at he <;> cases he
    obtain ⟨_, rfl, rfl⟩ := ra.isInt; obtain ⟨_, rfl, rfl⟩ := rb.isInt
    exact bin_fdiv (by assumption) hQ
  | mod =>
    replace he := i2_ok he
    obtain ⟨a, b, rfl, rfl, he⟩ := he
    split at he <;> cases he
    obtain ⟨_, rfl, rfl⟩ := ra.isInt; obtain ⟨_, rfl, rfl⟩ := rb.isInt
    exact mod_int' (by assumption) (hQ _ _ (.int (.toks s _)))
  | pow =>
    replace he := i2_ok he
    obtain ⟨a, b, rfl, rfl, he⟩ := he
    split at he <;> cases he
    obtain ⟨_, rfl, rfl⟩ := ra.isInt; obtain ⟨_, rfl, rfl⟩ := rb.isInt
    exact bin_pow (by assumption) hQ
  | xor =>
    replace he := i2_ok he
    obtain ⟨a, b, rfl, rfl, he⟩ := he
    cases he; obtain ⟨_, rfl, rfl⟩ := ra.isInt; obtain ⟨_, rfl, rfl⟩ := rb.isInt
    exact xor_int (hQ _ _ (.int (.toks s _)))
end
end
end Mine

namespace Mine
open PySem PyProof.Rows

section
variable {prog : Program} {w : World} {fns : Fns} {k : Nat} {C : Calls} {XP : String → Shared → Value → Shared → Prop}
variable {va vb : Value} {as bs : List Addr} {A : Around} {P : Addr → Prop} {s : Shared} {Q : Value → Shared → Prop} {Er : Value → Shared → Prop}

theorem Room.units {k : Nat} {A : Around} (h : Room k A) : A.units + 200 < cLine := by obtain ⟨_, _, h⟩ := h; omega

theorem okc_iff {d : PyData} : okc d = true ↔ d.canLay0 = true ∧ d.depth ≤ 64 := by simp [okc]

theorem items_of_ints {vs : List Value} {ns : List Int} (h : IntsAre vs ns) : ItemsAre (intKind prog w) ns vs := by
  induction h with
  | nil => exact .nil
  | cons n t _ ih => exact .cons (intKind_is prog w n t) ih

theorem tupleKey_of {h : Heap} {v : Value} {x : PyData} {as : List Addr} {ks : List Int} (r : R h v x as) (e : keyT x = some ks) : ∃ a, v = .ref a ∧ IsTupleKey (intKind prog w) h ks a := by
  cases r with
  | tuple ea ra =>
    obtain ⟨hi, _, _⟩ := ra.ints e
    exact ⟨_, rfl, _, _, _, ea, rfl, rfl, by simpa using items_of_ints hi⟩
  | _ => cases e

theorem atKey_isSome {K : Type} [DecidableEq K] (xs : List (K × Addr × Value)) (k : K) : (atKey xs k).isSome = decide (k ∈ xs.map (·.1)) := by
  unfold atKey
  rw [Option.isSome_map]
  induction xs with
  | nil => rfl
  | cons x xs ih =>
    by_cases hk : x.1 = k
    · simp [hk]
    · rw [List.find?_cons, show decide (x.1 = k) = false from decide_eq_false hk]
      dsimp only
      rw [ih, List.map_cons]
      simp [List.mem_cons, Ne.symm hk]
theorem valueAt_isSome (ks : List Int) (k : Int) : (valueAt (ks.map fun k => (k, Value.bool true)) k).isSome = decide (k ∈ ks) := by
  unfold valueAt
  rw [Option.isSome_map]
  induction ks with
  | nil => rfl
  | cons x xs ih =>
    by_cases hk : x = k
    · simp [hk]
    · rw [List.map_cons, List.find?_cons]
      simp only [hk, decide_false, List.mem_cons, Ne.symm hk, false_or]
      exact ih

theorem in_step {x : PyData} {c : V} {b : Bool} (hu : A.units + 200 < cLine) (he : inV x c = .ok b) (ra : R s.heap va x as) (rb : RV prog w s.heap vb c bs)
    (hQ : ∀ s', Kp s s' → Q (.bool b) s') : wpAny (model prog w) A (compareOp .In va vb) Q Er s := by
  cases c with
  | d y =>
    replace he := optO_ok he
    obtain ⟨xs, hy, he⟩ := he
    cases asL_inv hy
    split at he <;> cases he
    rename_i h1
    simp only [Bool.and_eq_true, okc_iff] at h1
    obtain ⟨⟨a1, a2⟩, b1, b2⟩ := h1
    simp only [PyData.canLay0, PyData.depth] at b1 b2
    exact SeqAt.in_list_reads rb.1.reads ra.reads b1 a1 (by have := Nat.min_le_left (PyData.depthAll ‹_›) x.depth; omega) (hQ s (.refl s))
  | dicI ks =>
    replace he := optO_ok he
    obtain ⟨i, hi, he⟩ := he
    cases he
    obtain ⟨a, rfl, _, lo, hd⟩ := rb
    cases keyI_inv hi
    obtain ⟨_, rfl, rfl⟩ := ra.isInt
    refine wpAny_in_of (intKind_is prog w _ _) lo hd.mapOf ?_
    rw [valueAt_isSome]
    exact hQ _ (.toks s _)
  | dicT ks =>
    replace he := optO_ok he
    obtain ⟨i, hi, he⟩ := he
    cases he
    obtain ⟨a, xs, rfl, _, lo, hd, rfl, _⟩ := rb
    obtain ⟨a', rfl, hk⟩ := tupleKey_of (prog := prog) (w := w) ra hi
    refine wpAny_in_heap (tupleKind_room_in1 (by omega)) hk lo hd ?_
    rw [atKey_isSome]
    exact Eq.mp (congrArg (fun b => Q (.bool b) _) (decide_eq_decide.mpr Iff.rfl)) (hQ _ (.toks s _))
  | dic0 =>
    replace he : (if (keyI x).isSome || (keyT x).isSome then Out.ok false else .bad) = .ok b := he
    split at he <;> cases he
    rename_i h1
    obtain ⟨a, rfl, _, lo, hd, hd'⟩ := rb
    cases h2 : keyI x with
    | some i =>
      cases keyI_inv h2
      obtain ⟨_, rfl, rfl⟩ := ra.isInt
      exact wpAny_in_of (intKind_is prog w _ _) lo hd.mapOf (hQ _ (.toks s _))
    | none =>
      rw [h2] at h1
      obtain ⟨i, hi⟩ := Option.isSome_iff_exists.mp (by simpa using h1)
      obtain ⟨a', rfl, hk⟩ := tupleKey_of (prog := prog) (w := w) ra hi
      exact wpAny_in_heap (tupleKind_room_in1 (by omega)) hk lo hd' (hQ _ (.toks s _))
  | inst _ => cases he

theorem cmp_step {o : COp} {op : CmpOp} {x y : V} {b : Bool} (hu : A.units + 200 < cLine) (ho : opC o op = true) (he : cmpV o x y = .ok b) (ra : RV prog w s.heap va x as) (rb : RV prog w s.heap vb y bs)
    (hQ : ∀ s', Kp s s' → Q (.bool b) s') : wpAny (model prog w) A (compareOp op va vb) Q Er s := by
  cases of_decide_eq_true ho
  cases o with
  | eq =>
    replace he := d2_ok he
    obtain ⟨x, y, rfl, rfl, he⟩ := he
    split at he <;> cases he
    rename_i h1
    simp only [Bool.and_eq_true, okc_iff] at h1
    obtain ⟨⟨a1, a2⟩, b1, b2⟩ := h1
    exact SeqAt.compareEq_reads ra.1.reads rb.1.reads a1 b1 (by have := Nat.min_le_left x.depth y.depth; omega) (hQ s (.refl s))
  | ne =>
    replace he := d2_ok he
    obtain ⟨x, y, rfl, rfl, he⟩ := he
    split at he <;> cases he
    rename_i h1
    simp only [Bool.and_eq_true, okc_iff] at h1
    obtain ⟨⟨a1, a2⟩, b1, b2⟩ := h1
    exact SeqAt.compareNe_reads ra.1.reads rb.1.reads a1 b1 (by have := Nat.min_le_left x.depth y.depth; omega) (hQ s (.refl s))
  | lt =>
    replace he := d2_ok he
    obtain ⟨x, y, rfl, rfl, he⟩ := he
    replace he := i2_ok he
    obtain ⟨i, j, rfl, rfl, he⟩ := he
    cases he; obtain ⟨_, rfl, rfl⟩ := ra.1.isInt; obtain ⟨_, rfl, rfl⟩ := rb.1.isInt
    exact lt_int (hQ s (.refl s))
  | le =>
    replace he := d2_ok he
    obtain ⟨x, y, rfl, rfl, he⟩ := he
    replace he := i2_ok he
    obtain ⟨i, j, rfl, rfl, he⟩ := he
    cases he; obtain ⟨_, rfl, rfl⟩ := ra.1.isInt; obtain ⟨_, rfl, rfl⟩ := rb.1.isInt
    exact le_int (hQ s (.refl s))
  | gt =>
    replace he := d2_ok he
    obtain ⟨x, y, rfl, rfl, he⟩ := he
    replace he := i2_ok he
    obtain ⟨i, j, rfl, rfl, he⟩ := he
    cases he; obtain ⟨_, rfl, rfl⟩ := ra.1.isInt; obtain ⟨_, rfl, rfl⟩ := rb.1.isInt
    exact gt_int (hQ s (.refl s))
  | ge =>
    replace he := d2_ok he
    obtain ⟨x, y, rfl, rfl, he⟩ := he
    replace he := i2_ok he
    obtain ⟨i, j, rfl, rfl, he⟩ := he
    cases he; obtain ⟨_, rfl, rfl⟩ := ra.1.isInt; obtain ⟨_, rfl, rfl⟩ := rb.1.isInt
    exact ge_int (hQ s (.refl s))
  | isin =>
    replace he := optO_ok he
    obtain ⟨x, hx, he⟩ := he
    cases asD_inv hx
    exact in_step hu he ra.1 rb hQ
  | notin =>
    replace he := d2_ok he
    obtain ⟨kx, y, rfl, rfl, he⟩ := he
    obtain ⟨b', h1, h2⟩ := Out.bind_ok he
    cases h2
    replace h1 := optO_ok h1
    obtain ⟨xs, hy, h1⟩ := h1
    cases asL_inv hy
    split at h1 <;> cases h1
    rename_i h1
    simp only [Bool.and_eq_true, okc_iff] at h1
    obtain ⟨⟨a1, a2⟩, b1, b2⟩ := h1
    simp only [PyData.canLay0, PyData.depth] at b1 b2
    exact SeqAt.notIn_list_reads rb.1.reads ra.1.reads b1 a1 (by have := Nat.min_le_left (PyData.depthAll xs) kx.depth; omega) (hQ s (.refl s))
  | is =>
    replace he := d2_ok he
    obtain ⟨x, y, rfl, rfl, he⟩ := he
    split at he <;> cases he
    cases isN_inv (by assumption)
    obtain ⟨ra, _⟩ := ra; obtain ⟨rfl, rfl⟩ := rb.1.isNone
    refine is_none ?_
    cases ra <;> exact hQ s (.refl s)
  | isnot =>
    replace he := d2_ok he
    obtain ⟨x, y, rfl, rfl, he⟩ := he
    split at he <;> cases he
    cases isN_inv (by assumption)
    obtain ⟨ra, _⟩ := ra; obtain ⟨rfl, rfl⟩ := rb.1.isNone
    refine isNot_none ?_
    cases ra <;> exact hQ s (.refl s)
end
end Mine

namespace Mine
open PySem PyProof.Rows

section
variable {prog : Program} {w : World} {fns : Fns} {k : Nat} {C : Calls} {XP : String → Shared → Value → Shared → Prop}

theorem EP.shift {P : Addr → Prop} {s s₂ s₃ : Shared} {r : V × Mode} {v : Value} (kp : Kp s s₂) (e : EP prog w (fun a => P a ∨ s.heap.get? a = none) s₂ r v s₃) : EP prog w P s r v s₃ := by
  obtain ⟨k', as, a, b, c, d⟩ := e
  refine ⟨kp.trans k', as, a, fun x hx => ?_, fun hm => let ⟨a, bs, h1, h2, h3⟩ := c hm; ⟨a, bs, h1, kp.none h2, h3⟩, fun hm => ⟨fun x hx => kp.none ((d hm).1 x hx), (d hm).2⟩⟩
  rcases b x hx with h | h
  · exact h
  · exact .inr (kp.none h)

/-- two parts, then a step upon their values -/
theorem sim2s (hXP : ∀ c s s₁ x s', Kp s s₁ → XP c s₁ x s' → XP c s x s') {a b : E} (Sa : SimE prog w fns k C XP a) (Sb : SimE prog w fns k C XP b)
    {ea eb : Expr} {A : Around} {env : Env} {σ : St} {P : Addr → Prop} {s : Shared} {Er : Value → Shared → Prop} {G : Value → Value → Shared → Prop} {f : V → V → Out (V × Mode)}
    (oa : okE env.scope.names a ea = true) (ob : okE env.scope.names b eb = true) (X : Cx prog w fns k A P s.heap env σ)
    (nb : ((ev C a σ).bind fun x => (ev C b σ).bind fun y => f x.1 y.1) ≠ .bad)
    (hE : ∀ c, ((ev C a σ).bind fun x => (ev C b σ).bind fun y => f x.1 y.1) = .exc c → ∀ x s', XP c s x s' → Er x s') (hf : ∀ x y c, f x y ≠ .exc c)
    (hG : ∀ x y r, ((ev C a σ).bind fun x => (ev C b σ).bind fun y => f x.1 y.1) = .ok r → f x y = .ok r → ∀ va vb s₂ as bs, Kp s s₂ → RV prog w s₂.heap va x as → RV prog w s₂.heap vb y bs →
      (∀ a ∈ as, P a ∨ s.heap.get? a = none) → (∀ a ∈ bs, P a ∨ s.heap.get? a = none) → G va vb s₂) :
    wpAny (model prog w) A (eval ea env) (fun va s₁ => wpAny (model prog w) A (eval eb env) (fun vb s₂ => G va vb s₂) Er s₁) Er s := by
  obtain ⟨n1, n2⟩ := bind_ne_bad nb
  refine sim2 hXP Sa Sb oa ob X n1 (fun x hx => (bind_ne_bad (n2 x hx)).1) (fun c hc => hE c ?_) fun x y hx hy va vb s₁ s₂ Ea Eb => ?_
  · rcases hc with hc | ⟨x, hx, hc⟩
    · rw [hc]; rfl
    · rw [hx, Out.ok_bind, hc]; rfl
  · have h1 := (bind_ne_bad (n2 x hx)).2 y hy
    cases hr : f x.1 y.1 with
    | bad => exact absurd hr h1
    | exc c => exact absurd hr (hf _ _ _)
    | ok r =>
      obtain ⟨ka, as, ra, ha, _⟩ := Ea
      obtain ⟨kb, bs, rb, hb, _⟩ := Eb
      exact hG x.1 y.1 r (by rw [hx, Out.ok_bind, hy, Out.ok_bind]; exact hr) hr va vb s₂ as bs (ka.trans kb) (ra.keep kb.get) rb ha fun z hz => (hb z hz).imp id ka.none

theorem binV_exc {o : BOp} {x y : PyData} {c : String} : binV o x y ≠ .exc c := binV_ne c
theorem cmpV_exc {o : COp} {x y : V} {c : String} : cmpV o x y ≠ .exc c := cmpV_ne c

theorem inv_bin {ns : List (Str × NameKind)} {o : BOp} {a b : E} {ex : Expr} (h : okE ns (.bin o a b) ex = true) : ∃ l op r p, ex = .BinOp l op r p ∧ opB o op = true ∧ okE ns a l = true ∧ okE ns b r = true := by
  replace h := i_bin h
  rcases h with ⟨_, _, _, _, rfl, h⟩ | h
  · simp only [Bool.and_eq_true] at h
    exact ⟨_, _, _, _, rfl, h.1.1, h.1.2, h.2⟩
  · cases h

theorem sim_bin (hXP : ∀ c s s₁ x s', Kp s s₁ → XP c s₁ x s' → XP c s x s') {o : BOp} {a b : E} (Sa : SimE prog w fns k C XP a) (Sb : SimE prog w fns k C XP b) : SimE prog w fns k C XP (.bin o a b) := by
  intro ex A env σ P s Q Er ok X nb hQ hE
  obtain ⟨l, op, r, p, rfl, ho, oa, ob⟩ := inv_bin ok
  simp only [ev] at nb hQ hE
  refine wpAny_BinOp (sim2s hXP Sa Sb (f := fun x y => match x, y with | .d x, .d y => binV o x y | _, _ => .bad) oa ob X nb hE (fun x y c => ?_) fun x y r hr hf va vb s₂ as bs kp ra rb ha hb => ?_)
  · split
    · exact binV_exc
    · simp
  · split at hf
    · exact bin_step ho hf ra.1 ra.2 rb.1 rb.2 ha hb fun v s' e => hQ r hr v s' (.shift kp e)
    · cases hf

theorem inv_cmp {ns : List (Str × NameKind)} {o : COp} {a b : E} {ex : Expr} (h : okE ns (.cmp o a b) ex = true) : ∃ l op r p, ex = .Compare l [op] [r] p ∧ opC o op = true ∧ okE ns a l = true ∧ okE ns b r = true := by
  replace h := i_cmp h
  rcases h with ⟨_, _, _, _, rfl, h⟩ | h
  · simp only [Bool.and_eq_true] at h
    exact ⟨_, _, _, _, rfl, h.1.1, h.1.2, h.2⟩
  · cases h
theorem okE_set {ns : List (Str × NameKind)} {e : E} {es : List Expr} {n : Nat} {p : Pos} : okE ns e (.Set es n p) = false := by cases e <;> rfl
theorem marks_of {ns : List (Str × NameKind)} {e : E} {op : CmpOp} {x : Expr} (h : okE ns e x = true) : behindInMarks op x = false := by
  cases x <;> first | rfl | (rw [okE_set] at h; cases h)

theorem sim_cmp (hXP : ∀ c s s₁ x s', Kp s s₁ → XP c s₁ x s' → XP c s x s') {o : COp} {a b : E} (Sa : SimE prog w fns k C XP a) (Sb : SimE prog w fns k C XP b) : SimE prog w fns k C XP (.cmp o a b) := by
  intro ex A env σ P s Q Er ok X nb hQ hE
  obtain ⟨l, op, r, p, rfl, ho, oa, ob⟩ := inv_cmp ok
  simp only [ev] at nb hQ hE
  refine wpAny_Compare1 (sim2s hXP Sa Sb (f := fun x y => (cmpV o x y).bind fun b => .ok (sB b)) oa ob X nb hE (fun x y c h => ?_) fun x y r hr hf va vb s₂ as bs kp ra rb ha hb => ?_) (marks_of ob)
  · rcases bind_exc h with h | ⟨_, _, h⟩
    · exact cmpV_exc h
    · cases h
  · obtain ⟨t, h1, h2⟩ := Out.bind_ok hf
    cases h2
    exact cmp_step X.room.units ho h1 ra rb fun s' e => hQ _ hr _ s' (.bool (kp.trans e))
theorem simT_cmp (hXP : ∀ c s s₁ x s', Kp s s₁ → XP c s₁ x s' → XP c s x s') {o : COp} {a b : E} (Sa : SimE prog w fns k C XP a) (Sb : SimE prog w fns k C XP b) : SimT prog w fns k C XP (.cmp o a b) := by
  intro ex A env σ P s Q Er ok X nb hQ hE
  obtain ⟨l, op, r, p, rfl, ho, oa, ob⟩ := inv_cmp ok
  have nb' := (bind_ne_bad nb).1
  have hQ' : ∀ r, ev C (.cmp o a b) σ = .ok r → ∀ b, truth r.1 = .ok b → ∀ s', Kp s s' → Q b s' := fun r hr t ht => hQ t (by rw [hr]; exact ht)
  simp only [ev] at nb' hQ' hE
  refine wpAny_isTrue_Compare1 (sim2s hXP Sa Sb (f := fun x y => (cmpV o x y).bind fun b => .ok (sB b)) oa ob X nb' hE (fun x y c h => ?_) fun x y r hr hf va vb s₂ as bs kp ra rb ha hb => ?_) (marks_of ob)
  · rcases bind_exc h with h | ⟨_, _, h⟩
    · exact cmpV_exc h
    · cases h
  · obtain ⟨t, h1, h2⟩ := Out.bind_ok hf
    cases h2
    exact cmp_step X.room.units ho h1 ra rb fun s' e => wpAny_truthy_bool (hQ' _ hr _ rfl s' (kp.trans e))

/-- one part -/
theorem sim_neg {a : E} (Sa : SimE prog w fns k C XP a) : SimE prog w fns k C XP (.neg a) := by
  intro ex A env σ P s Q Er ok X nb hQ hE
  replace ok := i_neg ok
  rcases ok with ⟨_, _, rfl, ok⟩ | ok
  · simp only [ev] at nb hQ hE
    obtain ⟨n1, n2⟩ := bind_ne_bad nb
    refine wpAny_UnaryOp (Sa ok X n1 (fun x hx va s₁ Ea => ?_) fun c hc => hE c (by rw [hc]; rfl))
    have n3 := n2 x hx
    obtain ⟨ka, as, ra, _⟩ := Ea
    obtain ⟨x, m⟩ := x
    dsimp only at n3 ra
    split at n3
    · obtain ⟨_, rfl, rfl⟩ := ra.1.isInt
      exact neg_int (hQ _ (by rw [hx]; rfl) _ _ (.int (ka.trans (.toks s₁ _))))
    · exact absurd rfl n3
  · cases ok

/-- the truth of what is no comparison, negation or chain -/
theorem simT_plain {e : E} (S : SimE prog w fns k C XP e) (hp : ∀ ns ex env (t : Sem Value), okE ns e ex = true → isTrue ex env t = (do let v ← t; standAt ex.pos; holding [v] (truthy v))) : SimT prog w fns k C XP e := by
  intro ex A env σ P s Q Er ok X nb hQ hE
  refine wpAny_isTrue_value (S ok X (bind_ne_bad nb).1 (fun r hr v s' E => ?_) hE) (hp _ _ _ _ ok)
  have n2 := (bind_ne_bad nb).2 r hr
  obtain ⟨x, m⟩ := r
  dsimp only at n2
  unfold truth at n2
  split at n2
  · obtain ⟨ke, as, ⟨re, _⟩, _⟩ := E
    obtain ⟨rfl, rfl⟩ := re.isBool
    exact wpAny_truthy_bool (hQ _ (by rw [hr]; rfl) _ ke)
  · exact absurd rfl n2

theorem inv_not {ns : List (Str × NameKind)} {a : E} {ex : Expr} (h : okE ns (.not a) ex = true) : ∃ x p, ex = .UnaryOp .Not x p ∧ okE ns a x = true := by
  replace h := i_not h
  rcases h with ⟨_, _, rfl, h⟩ | h
  · exact ⟨_, _, rfl, h⟩
  · cases h
theorem sim_not {a : E} (Sa : SimE prog w fns k C XP a) : SimE prog w fns k C XP (.not a) := by
  intro ex A env σ P s Q Er ok X nb hQ hE
  obtain ⟨x, p, rfl, oa⟩ := inv_not ok
  simp only [ev] at nb hQ hE
  obtain ⟨n1, n2⟩ := bind_ne_bad nb
  refine wpAny_UnaryOp (Sa oa X n1 (fun x hx va s₁ Ea => ?_) fun c hc => hE c (by rw [hc]; rfl))
  have n3 := (bind_ne_bad (n2 x hx)).1
  obtain ⟨ka, as, ra, _⟩ := Ea
  obtain ⟨x, m⟩ := x
  dsimp only at n3 ra
  unfold truth at n3
  split at n3
  · obtain ⟨rfl, rfl⟩ := ra.1.isBool
    exact not_value (wpAny_truthy_bool (hQ _ (by rw [hx]; rfl) _ _ (.bool ka)))
  · exact absurd rfl n3
theorem simT_not {a : E} (Sa : SimT prog w fns k C XP a) : SimT prog w fns k C XP (.not a) := by
  intro ex A env σ P s Q Er ok X nb hQ hE
  obtain ⟨x, p, rfl, oa⟩ := inv_not ok
  have e : ((ev C (.not a) σ).bind fun r => truth r.1) = ((ev C a σ).bind fun r => truth r.1).bind fun b => .ok (!b) := by
    simp only [ev]
    cases ev C a σ with
    | ok r => simp only [Out.ok_bind]; cases truth r.1 <;> rfl
    | exc c => rfl
    | bad => rfl
  rw [e] at nb hQ
  refine wpAny_isTrue_Not (Sa oa X (bind_ne_bad nb).1 (fun b hb s' kp => hQ (!b) (by rw [hb]; rfl) s' kp) fun c hc => hE c (by simp only [ev]; rw [hc]; rfl))
end
end Mine

namespace Mine
open PySem PyProof.Rows


section
variable (prog : Program) (w : World) (fns : Fns) (k : Nat) (C : Calls) (XP : String → Shared → Value → Shared → Prop)
noncomputable def SimA (e : E) : Prop := ∀ {vs : List Expr} {pos : Pos} {A : Around} {env : Env} {σ : St} {P : Addr → Prop} {s : Shared} {Q : Value → Shared → Prop} {Er : Value → Shared → Prop},
  okA' env.scope.names e vs = true → Cx prog w fns k A P s.heap env σ → ((ev C e σ).bind fun r => truth r.1) ≠ .bad →
  (∀ b, ((ev C e σ).bind fun r => truth r.1) = .ok b → ∀ s', Kp s s' → Q (.bool b) s') → (∀ c, ev C e σ = .exc c → ∀ x s', XP c s x s' → Er x s') →
  wpAny (model prog w) A (boolOp pos .And (evalEach vs env)) Q Er s
noncomputable def SimTA (e : E) : Prop := ∀ {vs : List Expr} {A : Around} {env : Env} {σ : St} {P : Addr → Prop} {s : Shared} {Q : Bool → Shared → Prop} {Er : Value → Shared → Prop},
  okA' env.scope.names e vs = true → Cx prog w fns k A P s.heap env σ → ((ev C e σ).bind fun r => truth r.1) ≠ .bad →
  (∀ b, ((ev C e σ).bind fun r => truth r.1) = .ok b → ∀ s', Kp s s' → Q b s') → (∀ c, ev C e σ = .exc c → ∀ x s', XP c s x s' → Er x s') →
  wpAny (model prog w) A (allTrue .And vs env) Q Er s
noncomputable def SimO (e : E) : Prop := ∀ {vs : List Expr} {pos : Pos} {A : Around} {env : Env} {σ : St} {P : Addr → Prop} {s : Shared} {Q : Value → Shared → Prop} {Er : Value → Shared → Prop},
  okO' env.scope.names e vs = true → Cx prog w fns k A P s.heap env σ → ((ev C e σ).bind fun r => truth r.1) ≠ .bad →
  (∀ b, ((ev C e σ).bind fun r => truth r.1) = .ok b → ∀ s', Kp s s' → Q (.bool b) s') → (∀ c, ev C e σ = .exc c → ∀ x s', XP c s x s' → Er x s') →
  wpAny (model prog w) A (boolOp pos .Or (evalEach vs env)) Q Er s
noncomputable def SimTO (e : E) : Prop := ∀ {vs : List Expr} {A : Around} {env : Env} {σ : St} {P : Addr → Prop} {s : Shared} {Q : Bool → Shared → Prop} {Er : Value → Shared → Prop},
  okO' env.scope.names e vs = true → Cx prog w fns k A P s.heap env σ → ((ev C e σ).bind fun r => truth r.1) ≠ .bad →
  (∀ b, ((ev C e σ).bind fun r => truth r.1) = .ok b → ∀ s', Kp s s' → Q b s') → (∀ c, ev C e σ = .exc c → ∀ x s', XP c s x s' → Er x s') →
  wpAny (model prog w) A (allTrue .Or vs env) Q Er s
end

section
variable {prog : Program} {w : World} {fns : Fns} {k : Nat} {C : Calls} {XP : String → Shared → Value → Shared → Prop}

/-- a truth value of an expression that is walked as a value -/
theorem bool_val {P : Addr → Prop} {s s' : Shared} {r : V × Mode} {v : Value} {t : Bool} (E : EP prog w P s r v s') (h : truth r.1 = .ok t) : v = .bool t ∧ Kp s s' := by
  obtain ⟨x, m⟩ := r
  dsimp only at h
  unfold truth at h
  split at h
  · cases h
    obtain ⟨ke, as, ⟨re, _⟩, _⟩ := E
    cases re
    exact ⟨rfl, ke⟩
  · cases h
theorem truth_exc {v : V} {c : String} : truth v ≠ .exc c := by unfold truth; split <;> simp
theorem simV {e : E} (S : SimE prog w fns k C XP e) {ex : Expr} {A : Around} {env : Env} {σ : St} {P : Addr → Prop} {s : Shared} {Q : Value → Shared → Prop} {Er : Value → Shared → Prop}
    (ok : okE env.scope.names e ex = true) (X : Cx prog w fns k A P s.heap env σ) (nb : ((ev C e σ).bind fun r => truth r.1) ≠ .bad)
    (hQ : ∀ b, ((ev C e σ).bind fun r => truth r.1) = .ok b → ∀ s', Kp s s' → Q (.bool b) s') (hE : ∀ c, ev C e σ = .exc c → ∀ x s', XP c s x s' → Er x s') : wpAny (model prog w) A (eval ex env) Q Er s := by
  obtain ⟨n1, n2⟩ := bind_ne_bad nb
  refine S ok X n1 (fun r hr v s' E => ?_) hE
  cases ht : truth r.1 with
  | bad => exact absurd ht (n2 r hr)
  | exc c => exact absurd ht truth_exc
  | ok t =>
    obtain ⟨rfl, kp⟩ := bool_val E ht
    exact hQ t (by rw [hr]; exact ht) s' kp

theorem boolOp_one {M : Model} {A : Around} {pos : Pos} {op : BoolOp} {x : Sem Value} {Q : Value → Shared → Prop} {E : Value → Shared → Prop} {s : Shared} (h : wpAny M A x Q E s) : wpAny M A (boolOp pos op [x]) Q E s := h
theorem boolOp_and {M : Model} {A : Around} {pos : Pos} {x y : Sem Value} {r : List (Sem Value)} {Q : Value → Shared → Prop} {E : Value → Shared → Prop} {s : Shared}
    (h : wpAny M A x (fun v s₁ => wpAny M A (truthy v) (fun t s₂ => if t then wpAny M A (boolOp pos .And (y :: r)) Q E s₂ else Q v s₂) E s₁) E s) : wpAny M A (boolOp pos .And (x :: y :: r)) Q E s := by
  rw [boolOp]
  · refine wpAny_bind (wpAny_mono h (fun v s₁ h₁ => wpAny_bind (wpAny_standAt (wpAny_bind (wpAny_holding (wpAny_mono h₁ (fun t s₂ h₂ => ?_) fun _ _ e => e))))) fun _ _ e => e)
    cases t with
    | false => exact wpAny_pure h₂
    | true => exact h₂
  · simp
theorem boolOp_or {M : Model} {A : Around} {pos : Pos} {x y : Sem Value} {r : List (Sem Value)} {Q : Value → Shared → Prop} {E : Value → Shared → Prop} {s : Shared}
    (h : wpAny M A x (fun v s₁ => wpAny M A (truthy v) (fun t s₂ => if t then Q v s₂ else wpAny M A (boolOp pos .Or (y :: r)) Q E s₂) E s₁) E s) : wpAny M A (boolOp pos .Or (x :: y :: r)) Q E s := by
  rw [boolOp]
  · refine wpAny_bind (wpAny_mono h (fun v s₁ h₁ => wpAny_bind (wpAny_standAt (wpAny_bind (wpAny_holding (wpAny_mono h₁ (fun t s₂ h₂ => ?_) fun _ _ e => e))))) fun _ _ e => e)
    cases t with
    | false => exact h₂
    | true => exact wpAny_pure h₂
  · simp

theorem okA'_inv {ns : List (Str × NameKind)} {b : E} {vs : List Expr} (h : okA' ns b vs = true) : (∃ u, vs = [u] ∧ okE ns b u = true) ∨ okA ns b vs = true := by
  unfold okA' at h
  cases e : dOne vs with
  | some u => rw [e] at h; exact .inl ⟨u, dOne_inv e, h⟩
  | none => rw [e] at h; exact .inr h
theorem okA'_ne {ns : List (Str × NameKind)} {b : E} {vs : List Expr} (h : okA' ns b vs = true) : ∃ y r, vs = y :: r := by
  cases vs with
  | nil => cases b <;> exact Bool.noConfusion (show false = true from h)
  | cons y r => exact ⟨y, r, rfl⟩
theorem okO'_inv {ns : List (Str × NameKind)} {b : E} {vs : List Expr} (h : okO' ns b vs = true) : (∃ u, vs = [u] ∧ okE ns b u = true) ∨ okO ns b vs = true := by
  unfold okO' at h
  cases e : dOne vs with
  | some u => rw [e] at h; exact .inl ⟨u, dOne_inv e, h⟩
  | none => rw [e] at h; exact .inr h
theorem okO'_ne {ns : List (Str × NameKind)} {b : E} {vs : List Expr} (h : okO' ns b vs = true) : ∃ y r, vs = y :: r := by
  cases vs with
  | nil => cases b <;> exact Bool.noConfusion (show false = true from h)
  | cons y r => exact ⟨y, r, rfl⟩

theorem and_truth (a b : E) (σ : St) : ((ev C (.and a b) σ).bind fun r => truth r.1) = ((ev C a σ).bind fun r => truth r.1).bind fun t => if t then (ev C b σ).bind fun r => truth r.1 else .ok false := by
  simp only [ev]
  cases ev C a σ with
  | ok r =>
    simp only [Out.ok_bind]
    cases truth r.1 with
    | ok t =>
      cases t with
      | false => rfl
      | true =>
        simp only [Out.ok_bind, if_true]
        cases ev C b σ with
        | ok q => simp only [Out.ok_bind]; cases truth q.1 <;> rfl
        | exc c => rfl
        | bad => rfl
    | exc c => rfl
    | bad => rfl
  | exc c => rfl
  | bad => rfl
theorem or_truth (a b : E) (σ : St) : ((ev C (.or a b) σ).bind fun r => truth r.1) = ((ev C a σ).bind fun r => truth r.1).bind fun t => if t then .ok true else (ev C b σ).bind fun r => truth r.1 := by
  simp only [ev]
  cases ev C a σ with
  | ok r =>
    simp only [Out.ok_bind]
    cases truth r.1 with
    | ok t =>
      cases t with
      | true => rfl
      | false =>
        simp only [Out.ok_bind, Bool.false_eq_true, if_false]
        cases ev C b σ with
        | ok q => simp only [Out.ok_bind]; cases truth q.1 <;> rfl
        | exc c => rfl
        | bad => rfl
    | exc c => rfl
    | bad => rfl
  | exc c => rfl
  | bad => rfl
/-- what a chain gives is a truth value -/
theorem and_val {a b : E} {σ : St} {r : V × Mode} (h : ev C (.and a b) σ = .ok r) : ∃ t, r = sB t := by
  simp only [ev] at h
  obtain ⟨x, _, h⟩ := Out.bind_ok h
  obtain ⟨t, _, h⟩ := Out.bind_ok h
  cases t with
  | false => exact ⟨false, by simpa using h.symm⟩
  | true =>
    simp only [if_true] at h
    obtain ⟨y, _, h⟩ := Out.bind_ok h
    obtain ⟨u, _, h⟩ := Out.bind_ok h
    cases h; exact ⟨u, rfl⟩
theorem or_val {a b : E} {σ : St} {r : V × Mode} (h : ev C (.or a b) σ = .ok r) : ∃ t, r = sB t := by
  simp only [ev] at h
  obtain ⟨x, _, h⟩ := Out.bind_ok h
  obtain ⟨t, _, h⟩ := Out.bind_ok h
  cases t with
  | true => exact ⟨true, by simpa using h.symm⟩
  | false =>
    simp only [Bool.false_eq_true, if_false] at h
    obtain ⟨y, _, h⟩ := Out.bind_ok h
    obtain ⟨u, _, h⟩ := Out.bind_ok h
    cases h; exact ⟨u, rfl⟩
theorem bind_truth_exc {o : Out (V × Mode)} {c : String} (h : (o.bind fun r => truth r.1) = .exc c) : o = .exc c := by
  rcases bind_exc h with h | ⟨_, _, h⟩
  · exact h
  · exact absurd h truth_exc
theorem and_exc {a b : E} {σ : St} {c : String} (h : ((ev C (.and a b) σ).bind fun r => truth r.1) = .exc c) : ev C (.and a b) σ = .exc c := bind_truth_exc h

section
variable (hXP : ∀ c s s₁ x s', Kp s s₁ → XP c s₁ x s' → XP c s x s')
include hXP

theorem andL {a b : E} (Sa : SimE prog w fns k C XP a) (Ab : SimA prog w fns k C XP b) {v : Expr} {vs : List Expr} {pos : Pos} {A : Around} {env : Env} {σ : St} {P : Addr → Prop} {s : Shared} {Q : Value → Shared → Prop} {Er : Value → Shared → Prop}
    (oa : okE env.scope.names a v = true) (ob : okA' env.scope.names b vs = true) (X : Cx prog w fns k A P s.heap env σ) (nb : ((ev C (.and a b) σ).bind fun r => truth r.1) ≠ .bad)
    (hQ : ∀ t, ((ev C (.and a b) σ).bind fun r => truth r.1) = .ok t → ∀ s', Kp s s' → Q (.bool t) s') (hE : ∀ c, ev C (.and a b) σ = .exc c → ∀ x s', XP c s x s' → Er x s') :
    wpAny (model prog w) A (boolOp pos .And (evalEach (v :: vs) env)) Q Er s := by
  obtain ⟨y, r, rfl⟩ := okA'_ne ob
  have hE' : ∀ c, ((ev C (.and a b) σ).bind fun r => truth r.1) = .exc c → ∀ x s', XP c s x s' → Er x s' := fun c h => hE c (bind_truth_exc h)
  rw [and_truth] at nb hQ hE'
  obtain ⟨n1, n2⟩ := bind_ne_bad nb
  refine boolOp_and (simV Sa oa X n1 (fun t ht s₁ k₁ => wpAny_truthy_bool ?_) fun c hc => hE' c (by rw [hc]; rfl))
  cases t with
  | false => exact hQ false (by rw [ht]; rfl) s₁ k₁
  | true =>
    have n3 := n2 true ht
    simp only [if_true] at n3 ⊢
    refine Ab ob (X.keep k₁.get) n3 (fun t ht' s₂ k₂ => hQ t (by rw [ht]; simpa using ht') s₂ (k₁.trans k₂)) fun c hc x s' hx => hE' c (by rw [ht]; simp [hc]) x s' (hXP c s s₁ x s' k₁ hx)
theorem orL {a b : E} (Sa : SimE prog w fns k C XP a) (Ab : SimO prog w fns k C XP b) {v : Expr} {vs : List Expr} {pos : Pos} {A : Around} {env : Env} {σ : St} {P : Addr → Prop} {s : Shared} {Q : Value → Shared → Prop} {Er : Value → Shared → Prop}
    (oa : okE env.scope.names a v = true) (ob : okO' env.scope.names b vs = true) (X : Cx prog w fns k A P s.heap env σ) (nb : ((ev C (.or a b) σ).bind fun r => truth r.1) ≠ .bad)
    (hQ : ∀ t, ((ev C (.or a b) σ).bind fun r => truth r.1) = .ok t → ∀ s', Kp s s' → Q (.bool t) s') (hE : ∀ c, ev C (.or a b) σ = .exc c → ∀ x s', XP c s x s' → Er x s') :
    wpAny (model prog w) A (boolOp pos .Or (evalEach (v :: vs) env)) Q Er s := by
  obtain ⟨y, r, rfl⟩ := okO'_ne ob
  have hE' : ∀ c, ((ev C (.or a b) σ).bind fun r => truth r.1) = .exc c → ∀ x s', XP c s x s' → Er x s' := fun c h => hE c (bind_truth_exc h)
  rw [or_truth] at nb hQ hE'
  obtain ⟨n1, n2⟩ := bind_ne_bad nb
  refine boolOp_or (simV Sa oa X n1 (fun t ht s₁ k₁ => wpAny_truthy_bool ?_) fun c hc => hE' c (by rw [hc]; rfl))
  cases t with
  | true => exact hQ true (by rw [ht]; rfl) s₁ k₁
  | false =>
    have n3 := n2 false ht
    simp only [Bool.false_eq_true, if_false] at n3 ⊢
    refine Ab ob (X.keep k₁.get) n3 (fun t ht' s₂ k₂ => hQ t (by rw [ht]; simpa using ht') s₂ (k₁.trans k₂)) fun c hc x s' hx => hE' c (by rw [ht]; simp [hc]) x s' (hXP c s s₁ x s' k₁ hx)
theorem andTL {a b : E} (Sa : SimT prog w fns k C XP a) (Ab : SimTA prog w fns k C XP b) {v : Expr} {vs : List Expr} {A : Around} {env : Env} {σ : St} {P : Addr → Prop} {s : Shared} {Q : Bool → Shared → Prop} {Er : Value → Shared → Prop}
    (oa : okE env.scope.names a v = true) (ob : okA' env.scope.names b vs = true) (X : Cx prog w fns k A P s.heap env σ) (nb : ((ev C (.and a b) σ).bind fun r => truth r.1) ≠ .bad)
    (hQ : ∀ t, ((ev C (.and a b) σ).bind fun r => truth r.1) = .ok t → ∀ s', Kp s s' → Q t s') (hE : ∀ c, ev C (.and a b) σ = .exc c → ∀ x s', XP c s x s' → Er x s') :
    wpAny (model prog w) A (allTrue .And (v :: vs) env) Q Er s := by
  have hE' : ∀ c, ((ev C (.and a b) σ).bind fun r => truth r.1) = .exc c → ∀ x s', XP c s x s' → Er x s' := fun c h => hE c (bind_truth_exc h)
  rw [and_truth] at nb hQ hE'
  obtain ⟨n1, n2⟩ := bind_ne_bad nb
  refine wpAny_allTrue_And_cons (Sa oa X n1 (fun t ht s₁ k₁ => ?_) fun c hc => hE' c (by rw [hc]; rfl))
  cases t with
  | false => exact hQ false (by rw [ht]; rfl) s₁ k₁
  | true =>
    have n3 := n2 true ht
    simp only [if_true] at n3 ⊢
    refine Ab ob (X.keep k₁.get) n3 (fun t ht' s₂ k₂ => hQ t (by rw [ht]; simpa using ht') s₂ (k₁.trans k₂)) fun c hc x s' hx => hE' c (by rw [ht]; simp [hc]) x s' (hXP c s s₁ x s' k₁ hx)
theorem orTL {a b : E} (Sa : SimT prog w fns k C XP a) (Ab : SimTO prog w fns k C XP b) {v : Expr} {vs : List Expr} {A : Around} {env : Env} {σ : St} {P : Addr → Prop} {s : Shared} {Q : Bool → Shared → Prop} {Er : Value → Shared → Prop}
    (oa : okE env.scope.names a v = true) (ob : okO' env.scope.names b vs = true) (X : Cx prog w fns k A P s.heap env σ) (nb : ((ev C (.or a b) σ).bind fun r => truth r.1) ≠ .bad)
    (hQ : ∀ t, ((ev C (.or a b) σ).bind fun r => truth r.1) = .ok t → ∀ s', Kp s s' → Q t s') (hE : ∀ c, ev C (.or a b) σ = .exc c → ∀ x s', XP c s x s' → Er x s') :
    wpAny (model prog w) A (allTrue .Or (v :: vs) env) Q Er s := by
  have hE' : ∀ c, ((ev C (.or a b) σ).bind fun r => truth r.1) = .exc c → ∀ x s', XP c s x s' → Er x s' := fun c h => hE c (bind_truth_exc h)
  rw [or_truth] at nb hQ hE'
  obtain ⟨n1, n2⟩ := bind_ne_bad nb
  refine wpAny_allTrue_Or_cons (Sa oa X n1 (fun t ht s₁ k₁ => ?_) fun c hc => hE' c (by rw [hc]; rfl))
  cases t with
  | true => exact hQ true (by rw [ht]; rfl) s₁ k₁
  | false =>
    have n3 := n2 false ht
    simp only [Bool.false_eq_true, if_false] at n3 ⊢
    refine Ab ob (X.keep k₁.get) n3 (fun t ht' s₂ k₂ => hQ t (by rw [ht]; simpa using ht') s₂ (k₁.trans k₂)) fun c hc x s' hx => hE' c (by rw [ht]; simp [hc]) x s' (hXP c s s₁ x s' k₁ hx)

theorem inv_and {ns : List (Str × NameKind)} {a b : E} {ex : Expr} (h : okE ns (.and a b) ex = true) : ∃ v vs p, ex = .BoolOp .And (v :: vs) p ∧ okE ns a v = true ∧ okA' ns b vs = true := by
  replace h := i_and h
  rcases h with ⟨_, _, _, rfl, h⟩ | h
  · simp only [Bool.and_eq_true] at h
    exact ⟨_, _, _, rfl, h.1, h.2⟩
  · cases h
theorem inv_or {ns : List (Str × NameKind)} {a b : E} {ex : Expr} (h : okE ns (.or a b) ex = true) : ∃ v vs p, ex = .BoolOp .Or (v :: vs) p ∧ okE ns a v = true ∧ okO' ns b vs = true := by
  replace h := i_or h
  rcases h with ⟨_, _, _, rfl, h⟩ | h
  · simp only [Bool.and_eq_true] at h
    exact ⟨_, _, _, rfl, h.1, h.2⟩
  · cases h
theorem sim_and {a b : E} (Sa : SimE prog w fns k C XP a) (Ab : SimA prog w fns k C XP b) : SimE prog w fns k C XP (.and a b) := by
  intro ex A env σ P s Q Er ok X nb hQ hE
  obtain ⟨v, vs, p, rfl, oa, ob⟩ := inv_and hXP ok
  rw [arm_eval_BoolOp]
  refine andL hXP Sa Ab oa ob X (fun h => ?_) (fun t ht s' kp => ?_) hE
  · cases e : ev C (.and a b) σ with
    | ok r => rw [e] at h; obtain ⟨t, rfl⟩ := and_val e; cases h
    | exc c => rw [e] at h; cases h
    | bad => exact nb e
  · obtain ⟨r, hr, ht⟩ := Out.bind_ok ht
    obtain ⟨u, rfl⟩ := and_val hr
    cases ht
    exact hQ _ hr _ s' (.bool kp)
theorem sim_or {a b : E} (Sa : SimE prog w fns k C XP a) (Ab : SimO prog w fns k C XP b) : SimE prog w fns k C XP (.or a b) := by
  intro ex A env σ P s Q Er ok X nb hQ hE
  obtain ⟨v, vs, p, rfl, oa, ob⟩ := inv_or hXP ok
  rw [arm_eval_BoolOp]
  refine orL hXP Sa Ab oa ob X (fun h => ?_) (fun t ht s' kp => ?_) hE
  · cases e : ev C (.or a b) σ with
    | ok r => rw [e] at h; obtain ⟨t, rfl⟩ := or_val e; cases h
    | exc c => rw [e] at h; cases h
    | bad => exact nb e
  · obtain ⟨r, hr, ht⟩ := Out.bind_ok ht
    obtain ⟨u, rfl⟩ := or_val hr
    cases ht
    exact hQ _ hr _ s' (.bool kp)
theorem simT_and {a b : E} (Sa : SimT prog w fns k C XP a) (Ab : SimTA prog w fns k C XP b) : SimT prog w fns k C XP (.and a b) := by
  intro ex A env σ P s Q Er ok X nb hQ hE
  obtain ⟨v, vs, p, rfl, oa, ob⟩ := inv_and hXP ok
  exact wpAny_isTrue_BoolOp (andTL hXP Sa Ab oa ob X nb hQ hE)
theorem simT_or {a b : E} (Sa : SimT prog w fns k C XP a) (Ab : SimTO prog w fns k C XP b) : SimT prog w fns k C XP (.or a b) := by
  intro ex A env σ P s Q Er ok X nb hQ hE
  obtain ⟨v, vs, p, rfl, oa, ob⟩ := inv_or hXP ok
  exact wpAny_isTrue_BoolOp (orTL hXP Sa Ab oa ob X nb hQ hE)
end

/-- the last of a chain -/
theorem simA_one {e : E} (S : SimE prog w fns k C XP e) (h : ∀ {vs : List Expr} {pos : Pos} {A : Around} {env : Env} {σ : St} {P : Addr → Prop} {s : Shared} {Q : Value → Shared → Prop} {Er : Value → Shared → Prop},
    okA env.scope.names e vs = true → Cx prog w fns k A P s.heap env σ → ((ev C e σ).bind fun r => truth r.1) ≠ .bad →
    (∀ b, ((ev C e σ).bind fun r => truth r.1) = .ok b → ∀ s', Kp s s' → Q (.bool b) s') → (∀ c, ev C e σ = .exc c → ∀ x s', XP c s x s' → Er x s') → wpAny (model prog w) A (boolOp pos .And (evalEach vs env)) Q Er s) : SimA prog w fns k C XP e := by
  intro vs pos A env σ P s Q Er ok X nb hQ hE
  replace ok := okA'_inv ok
  rcases ok with ⟨_, rfl, ok⟩ | ok
  · exact boolOp_one (simV S ok X nb hQ hE)
  · exact h ok X nb hQ hE
theorem simO_one {e : E} (S : SimE prog w fns k C XP e) (h : ∀ {vs : List Expr} {pos : Pos} {A : Around} {env : Env} {σ : St} {P : Addr → Prop} {s : Shared} {Q : Value → Shared → Prop} {Er : Value → Shared → Prop},
    okO env.scope.names e vs = true → Cx prog w fns k A P s.heap env σ → ((ev C e σ).bind fun r => truth r.1) ≠ .bad →
    (∀ b, ((ev C e σ).bind fun r => truth r.1) = .ok b → ∀ s', Kp s s' → Q (.bool b) s') → (∀ c, ev C e σ = .exc c → ∀ x s', XP c s x s' → Er x s') → wpAny (model prog w) A (boolOp pos .Or (evalEach vs env)) Q Er s) : SimO prog w fns k C XP e := by
  intro vs pos A env σ P s Q Er ok X nb hQ hE
  replace ok := okO'_inv ok
  rcases ok with ⟨_, rfl, ok⟩ | ok
  · exact boolOp_one (simV S ok X nb hQ hE)
  · exact h ok X nb hQ hE
theorem simTA_one {e : E} (S : SimT prog w fns k C XP e) (h : ∀ {vs : List Expr} {A : Around} {env : Env} {σ : St} {P : Addr → Prop} {s : Shared} {Q : Bool → Shared → Prop} {Er : Value → Shared → Prop},
    okA env.scope.names e vs = true → Cx prog w fns k A P s.heap env σ → ((ev C e σ).bind fun r => truth r.1) ≠ .bad →
    (∀ b, ((ev C e σ).bind fun r => truth r.1) = .ok b → ∀ s', Kp s s' → Q b s') → (∀ c, ev C e σ = .exc c → ∀ x s', XP c s x s' → Er x s') → wpAny (model prog w) A (allTrue .And vs env) Q Er s) : SimTA prog w fns k C XP e := by
  intro vs A env σ P s Q Er ok X nb hQ hE
  replace ok := okA'_inv ok
  rcases ok with ⟨_, rfl, ok⟩ | ok
  · refine wpAny_allTrue_And_cons (S ok X nb (fun t ht s' kp => ?_) hE)
    cases t with
    | false => exact hQ _ ht s' kp
    | true => exact wpAny_allTrue_And_nil (hQ _ ht s' kp)
  · exact h ok X nb hQ hE
theorem simTO_one {e : E} (S : SimT prog w fns k C XP e) (h : ∀ {vs : List Expr} {A : Around} {env : Env} {σ : St} {P : Addr → Prop} {s : Shared} {Q : Bool → Shared → Prop} {Er : Value → Shared → Prop},
    okO env.scope.names e vs = true → Cx prog w fns k A P s.heap env σ → ((ev C e σ).bind fun r => truth r.1) ≠ .bad →
    (∀ b, ((ev C e σ).bind fun r => truth r.1) = .ok b → ∀ s', Kp s s' → Q b s') → (∀ c, ev C e σ = .exc c → ∀ x s', XP c s x s' → Er x s') → wpAny (model prog w) A (allTrue .Or vs env) Q Er s) : SimTO prog w fns k C XP e := by
  intro vs A env σ P s Q Er ok X nb hQ hE
  replace ok := okO'_inv ok
  rcases ok with ⟨_, rfl, ok⟩ | ok
  · refine wpAny_allTrue_Or_cons (S ok X nb (fun t ht s' kp => ?_) hE)
    cases t with
    | false => exact wpAny_allTrue_Or_nil (hQ _ ht s' kp)
    | true => exact hQ _ ht s' kp
  · exact h ok X nb hQ hE
end
end Mine

namespace Mine
open PySem PyProof.Rows

section
variable {prog : Program} {w : World} {fns : Fns} {k : Nat} {C : Calls} {XP : String → Shared → Value → Shared → Prop}

/-- a list that is new -/
theorem EP.aList {P : Addr → Prop} {s s' : Shared} {a : Addr} {n : Nat} {xs : List PyData} {vs : List Value} {as : List Addr} (kp : Kp s s') (hn : s.heap.get? a = none)
    (ha : s'.heap.get? a = some ⟨.type "list", none, .seq vs.toArray n, #[]⟩) (r : RA s'.heap vs xs as) (hl : xs.length ≤ 2 ^ 22) (hz : ∀ x ∈ xs, sz x = true) (hP : ∀ b ∈ as, P b ∧ b ≠ a) :
    EP prog w P s (.d (.list xs), fresh xs) (.ref a) s' := by
  refine ⟨kp, a :: as, ⟨.list ha r, sz_list.mpr ⟨hl, hz⟩⟩, ?_, ?_, ?_⟩
  · intro b h
    rcases List.mem_cons.mp h with rfl | h
    · exact .inr hn
    · exact .inl (hP b h).1
  · intro _
    exact ⟨_, _, rfl, hn, fun h => (hP a h).2 rfl⟩
  · intro hm
    have hall : xs.all sx = true := by
      unfold fresh at hm; dsimp only at hm; split at hm
      · assumption
      · cases hm
    rw [r.sx_nil hall]
    refine ⟨fun b h => ?_, by simp⟩
    rcases List.mem_cons.mp h with rfl | h
    · exact hn
    · cases h

theorem R.isList {h : Heap} {v : Value} {xs : List PyData} {as : List Addr} (r : R h v (.list xs) as) : ∃ a vs n bs, v = .ref a ∧ h.get? a = some ⟨.type "list", Option.none, .seq vs.toArray n, #[]⟩ ∧ RA h vs xs bs ∧ as = a :: bs := by
  cases r with
  | list e r => exact ⟨_, _, _, _, rfl, e, r, rfl⟩
theorem R.isTup {h : Heap} {v : Value} {xs : List PyData} {as : List Addr} (r : R h v (.tuple xs) as) : ∃ a vs n, v = .ref a ∧ h.get? a = some ⟨.type "tuple", Option.none, .seq vs.toArray n, #[]⟩ ∧ RA h vs xs as := by
  cases r with
  | tuple e r => exact ⟨_, _, _, rfl, e, r⟩
theorem isL {h : Heap} {a : Addr} {vs : List Value} {n : Nat} (e : h.get? a = some ⟨.type "list", none, .seq vs.toArray n, #[]⟩) : h.IsList a vs.toArray := ⟨_, e, rfl, n, rfl⟩

theorem okE_slice {ns : List (Str × NameKind)} {e : E} {a b c : Option Expr} {p : Pos} : okE ns e (.Slice a b c p) = false := by cases e <;> rfl
theorem okE_starred {ns : List (Str × NameKind)} {e : E} {a : Expr} {p : Pos} : okE ns e (.Starred a p) = false := by cases e <;> rfl
theorem subscripted_plain {ns : List (Str × NameKind)} {e : E} {x : Expr} (h : okE ns e x = true) (o i : Value) : subscripted x false o i = operate [o, i] (getItem o i) := by
  cases x <;> first | rfl | (rw [okE_slice] at h; cases h)
theorem star_plain {ns : List (Str × NameKind)} {e : E} {x : Expr} (h : okE ns e x = true) (rest : List Expr) (env : Env) : starEach (x :: rest) env = (false, eval x env) :: starEach rest env := by
  cases x <;> first | rfl | (rw [okE_starred] at h; cases h)

section
variable {va vb : Value} {as bs : List Addr} {A : Around} {P : Addr → Prop} {s : Shared} {Q : Value → Shared → Prop} {Er : Value → Shared → Prop}
theorem mk_of {y : PyData} {v : Value} (r : R s.heap v y bs) (z : sz y = true) (h : ∀ b ∈ bs, P b) : EP prog w P s (mk (.d y)) v s := mk_ep (x := .d y) ⟨r, z⟩ h
/-- an item of a value -/
def ItemV (h : Heap) (v : Value) (i : Int) (u : Value) : Prop := ∃ (a : Addr) (T : String) (vs : List Value) (n k : Nat), v = .ref a ∧ h.get? a = some ⟨.type T, none, .seq vs.toArray n, #[]⟩ ∧ seqIdx i vs.length = some k ∧ vs[k]? = some u
theorem seqIdx_range {i : Int} {n k : Nat} (h : seqIdx i n = some k) : (0 ≤ i ∧ i < n ∧ k = i.toNat) ∨ (i < 0 ∧ -(n : Int) ≤ i ∧ k = (i + n).toNat) := by
  unfold seqIdx at h
  by_cases h0 : 0 ≤ i
  · rw [if_pos h0] at h
    by_cases h1 : i < n
    · rw [if_pos h1] at h; exact .inl ⟨h0, h1, (Option.some.inj h).symm⟩
    · rw [if_neg h1] at h; cases h
  · rw [if_neg h0] at h
    by_cases h1 : -(n : Int) ≤ i
    · rw [if_pos h1] at h; exact .inr ⟨by omega, h1, (Option.some.inj h).symm⟩
    · rw [if_neg h1] at h; cases h
theorem sub_list {value slice : Expr} {a : Addr} {vs : List Value} {n k : Nat} {i : Int} {t : Tok} {v : Value} (hs : ∀ o i, subscripted slice false o i = operate [o, i] (getItem o i)) (ea : s.heap.get? a = some ⟨.type "list", none, .seq vs.toArray n, #[]⟩) (hl : vs.length ≤ 2 ^ 22)
    (hk : seqIdx i vs.length = some k) (hv : vs[k]? = some v) (hQ : Q v s) : wpAny (model prog w) A (subscriptTail value slice (.ref a) (.int i t)) Q Er s := by
  rcases seqIdx_range hk with ⟨h0, h1, rfl⟩ | ⟨h0, h1, rfl⟩
  · exact tail_any (isL ea).typeIs slot_list_getitem.lookup (wpAny_getItem_list (isL ea) h0 (by omega) (by simpa using hv) hQ) (hs _ _)
  · refine tail_any (isL ea).typeIs slot_list_getitem.lookup (wpAny_getItem_list_neg (isL ea) h0 (by rw [List.size_toArray]; exact h1) (by omega) ?_ hQ) (hs _ _)
    rw [List.size_toArray]
    simpa using hv
theorem sub_tup {value slice : Expr} {a : Addr} {vs : List Value} {n k : Nat} {i : Int} {t : Tok} {v : Value} (hs : ∀ o i, subscripted slice false o i = operate [o, i] (getItem o i)) (ea : s.heap.get? a = some ⟨.type "tuple", none, .seq vs.toArray n, #[]⟩) (hl : vs.length ≤ 2 ^ 22)
    (hk : seqIdx i vs.length = some k) (hv : vs[k]? = some v) (hQ : Q v s) : wpAny (model prog w) A (subscriptTail value slice (.ref a) (.int i t)) Q Er s := by
  have hj : seqIndex? i (vs.toArray).size = some k := by
    rw [List.size_toArray]
    rcases seqIdx_range hk with ⟨h0, h1, rfl⟩ | ⟨h0, h1, rfl⟩
    · have h3 : ¬ i < 0 := by omega
      simp [seqIndex?, h3, h0, h1]
    · exact seqIndex_neg h0 h1
  have hb : -(2 ^ 22) ≤ i ∧ i < 2 ^ 22 := by rcases seqIdx_range hk with ⟨h0, h1, _⟩ | ⟨h0, h1, _⟩ <;> omega
  exact tail_any ⟨_, ea, rfl⟩ slot_tuple_getitem.lookup (PySem.P.getItem_tuple ea (by omega) (by omega) hj (by simpa using hv) hQ) (hs _ _)
theorem sub_item {value slice : Expr} {x y : PyData} {i : Int} {t : Tok} (hs : ∀ o i, subscripted slice false o i = operate [o, i] (getItem o i)) (he : elem x i = some y) (ra : R s.heap va x as) (za : sz x = true)
    (hQ : ∀ v ds, ItemV s.heap va i v → R s.heap v y ds → sz y = true → (∀ b ∈ ds, b ∈ as) → Q v s) : wpAny (model prog w) A (subscriptTail value slice va (.int i t)) Q Er s := by
  unfold elem at he
  cases hx : asL x with
  | some xs =>
    rw [hx] at he
    cases asL_inv hx
    obtain ⟨k, hk, hy⟩ := Option.bind_eq_some_iff.mp he
    obtain ⟨a, vs, n, cs, rfl, ea, ra', rfl⟩ := ra.isList
    obtain ⟨v, ds, hv, rv, hd⟩ := ra'.get hy
    have hz := sz_list.mp za
    have hl := ra'.length
    rw [← hl] at hk hz
    exact sub_list hs ea hz.1 hk hv (hQ v ds ⟨a, _, vs, n, k, rfl, ea, hk, hv⟩ rv (hz.2 y (List.mem_of_getElem? hy)) fun b hb => .tail _ (hd b hb))
  | none =>
    rw [hx] at he
    cases ht : asT x with
    | none => rw [ht] at he; cases he
    | some xs =>
      rw [ht] at he
      cases asT_inv ht
      obtain ⟨k, hk, hy⟩ := Option.bind_eq_some_iff.mp he
      obtain ⟨a, vs, n, rfl, ea, ra'⟩ := ra.isTup
      obtain ⟨v, ds, hv, rv, hd⟩ := ra'.get hy
      have hz := sz_tuple.mp za
      have hl := ra'.length
      rw [← hl] at hk hz
      exact sub_tup hs ea hz.1 hk hv (hQ v ds ⟨a, _, vs, n, k, rfl, ea, hk, hv⟩ rv (hz.2 y (List.mem_of_getElem? hy)) hd)
theorem sub_step {value slice : Expr} {x i : PyData} {r : V × Mode} (hs : ∀ o i, subscripted slice false o i = operate [o, i] (getItem o i)) (he : subV x i = .ok r) (ra : R s.heap va x as) (za : sz x = true) (rb : R s.heap vb i bs) (ha : ∀ a ∈ as, P a)
    (hQ : ∀ v s', EP prog w P s r v s' → Q v s') : wpAny (model prog w) A (subscriptTail value slice va vb) Q Er s := by
  obtain ⟨k, hk, he⟩ := optO_ok he
  obtain ⟨y, hy, he⟩ := optO_ok he
  cases he
  cases keyI_inv hk
  obtain ⟨_, rfl, rfl⟩ := rb.isInt
  exact sub_item hs hy ra za fun v ds _ rv z hd => hQ v s (mk_of rv z fun b hb => ha b (hd b hb))
end

theorem subV_exc {x y : PyData} {c : String} : subV x y ≠ .exc c := subV_ne c
theorem sim_sub (hXP : ∀ c s s₁ x s', Kp s s₁ → XP c s₁ x s' → XP c s x s') {a b : E} (Sa : SimE prog w fns k C XP a) (Sb : SimE prog w fns k C XP b) : SimE prog w fns k C XP (.sub a b) := by
  intro ex A env σ P s Q Er ok X nb hQ hE
  replace ok := i_sub ok
  rcases ok with ⟨_, _, _, rfl, ok⟩ | ok
  · simp only [Bool.and_eq_true] at ok
    simp only [ev] at nb hQ hE
    refine Subscript_ (sim2s hXP Sa Sb (f := fun x y => match x, y with | .d x, .d y => subV x y | _, _ => .bad) ok.1 ok.2 X nb hE (fun x y c => ?_) fun x y r hr hf va vb s₂ as bs kp ra rb ha hb => ?_)
    · split
      · exact subV_exc
      · simp
    · split at hf
      · exact sub_step (subscripted_plain ok.2) hf ra.1 ra.2 rb.1 ha fun v s' e => hQ r hr v s' (.shift kp e)
      · cases hf
  · cases ok

/-! slices -/
theorem evalPart_some_ {M : Model} {A : Around} {env : Env} {e : Expr} {Q : Value → Shared → Prop} {E : Value → Shared → Prop} {s : Shared} (h : wpAny M A (eval e env) Q E s) : wpAny M A (evalPart (some e) env) Q E s := by rw [evalPart_some]; exact h
theorem evalPart_none_ {M : Model} {A : Around} {env : Env} {Q : Value → Shared → Prop} {E : Value → Shared → Prop} {s : Shared} (h : Q .none s) : wpAny M A (evalPart none env) Q E s := by rw [evalPart_none]; exact wpAny_pure h

section
variable {va vl vu vt : Value} {as bs : List Addr} {A : Around} {P : Addr → Prop} {s : Shared} {Q : Value → Shared → Prop} {Er : Value → Shared → Prop}
theorem slice_step {value slice : Expr} {xs ys : List PyData} {lo hi st : Option Int} (hs : ∃ ops : Value → Value → List Value, ∀ o i, subscripted slice false o i = operate (ops o i) (getItem o i)) (ra : R s.heap va (.list xs) as) (za : sz (.list xs) = true) (ha : ∀ a ∈ as, P a)
    (pl : IsPart vl lo) (pu : IsPart vu hi) (pt : IsPart vt st) (h0 : st ≠ some 0) (hy : ∀ vs cs, RA s.heap vs xs cs → ∃ ws ds, slicePick vs.toArray lo hi st = ws.toArray ∧ RA s.heap ws ys ds ∧ ∀ b ∈ ds, b ∈ cs) (hz : ∀ y ∈ ys, sz y = true) (hl : ys.length ≤ 2 ^ 22)
    (hQ : ∀ v s', EP prog w P s (.d (.list ys), fresh ys) v s' → Q v s') :
    wpAny (model prog w) A (subscriptTail value slice va (.ref s.heap.objs.size)) Q Er { s with heap := s.heap.push { cls := .type "slice", data := .fields #[vl, vu, vt] } } := by
  obtain ⟨a, vs, n, cs, rfl, ea, ra', rfl⟩ := ra.isList
  obtain ⟨ws, ds, e1, rw', hd⟩ := hy vs cs ra'
  obtain ⟨ops, hs⟩ := hs
  have hlen := (sz_list.mp za).1
  have e2 := ra'.length
  refine tail_any ((isL ea).push _).typeIs slot_list_getitem.lookup (wpAny_getItem_list_slice ((isL ea).push _) (Heap.IsSliceOf.new ..) pl pu pt h0 ?_ (by rw [List.size_toArray]; unfold sizeLine; omega)) (hs _ _)
  rw [e1]
  refine hQ _ _ (EP.aList (n := 0) (as := ds) ((Kp.push s _ s.toks).trans (Kp.push _ _ s.toks)) ?_ (Heap.get?_push_size _ rfl) ((rw'.keep fun _ _ e => Heap.get?_push_of_some _ e).keep fun _ _ e => Heap.get?_push_of_some _ e) hl hz fun b hb => ⟨ha b (.tail _ (hd b hb)), ?_⟩)
  · exact Heap.get?_none_of_le (by simp)
  · obtain ⟨_, _, e⟩ := rw'.there b hb
    have h1 := Heap.lt_size e
    intro q
    have h2 : b = s.heap.objs.size + 1 := q.trans (Heap.size_push ..)
    rw [h2] at h1
    exact Nat.not_lt.mpr (Nat.le_succ _) h1
end

theorem sloV_exc {x y : PyData} {c : String} : sloV x y ≠ .exc c := by unfold sloV; split <;> (try split) <;> simp
theorem shiV_exc {x y : PyData} {c : String} : shiV x y ≠ .exc c := by unfold shiV; split <;> (try split) <;> simp

theorem sim_slo (hXP : ∀ c s s₁ x s', Kp s s₁ → XP c s₁ x s' → XP c s x s') {a b : E} (Sa : SimE prog w fns k C XP a) (Sb : SimE prog w fns k C XP b) : SimE prog w fns k C XP (.slo a b) := by
  intro ex A env σ P s Q Er ok X nb hQ hE
  replace ok := i_slo ok
  rcases ok with ⟨_, _, _, _, rfl, ok⟩ | ok
  · rename_i v l p pos
    simp only [Bool.and_eq_true] at ok
    simp only [ev] at nb hQ hE
    have main := sim2s hXP Sa Sb (f := fun x y => match x, y with | .d x, .d y => sloV x y | _, _ => .bad) (G := fun va vb s₂ => wpAny (model prog w) A (subscriptTail v (.Slice (some l) none none p) va (.ref s₂.heap.objs.size)) Q Er
        { s₂ with heap := s₂.heap.push { cls := .type "slice", data := .fields #[vb, .none, .none] } }) ok.1 ok.2 X nb hE (fun x y c => by split; exact sloV_exc; simp) fun x y r hr hf va vb s₂ as bs kp ra rb ha hb => by
      split at hf
      · unfold sloV at hf
        split at hf
        · split at hf <;> cases hf
          rename_i xs i hi
          obtain ⟨rb, _⟩ := rb
          obtain ⟨_, rfl, rfl⟩ := rb.isInt
          refine slice_step (lo := some i) (hi := none) (st := none) ⟨fun o i => [i, o], fun _ _ => rfl⟩ ra.1 ra.2 ha (.int _ _) .none .none (by simp) (fun vs cs r => ?_) (fun y hy => (sz_list.mp ra.2).2 y (List.mem_of_mem_drop hy)) (by have := (sz_list.mp ra.2).1; rw [List.length_drop]; omega) fun v s' e => hQ _ hr v s' (.shift kp e)
          obtain ⟨ds, rd, hd⟩ := r.drop i.toNat
          refine ⟨_, ds, ?_, rd, hd⟩
          have := slicePick_from' vs.toArray i.toNat
          rw [Int.toNat_of_nonneg hi.1] at this
          exact this
        · cases hf
      · cases hf
    exact Subscript_ (wpAny_mono main (fun o s₁ h₁ => wpAny_Slice (evalPart_some_ (wpAny_mono h₁ (fun vb s₂ h₂ => evalPart_none_ (evalPart_none_ h₂)) fun _ _ e => e))) fun _ _ e => e)
  · cases ok
theorem sim_shi (hXP : ∀ c s s₁ x s', Kp s s₁ → XP c s₁ x s' → XP c s x s') {a b : E} (Sa : SimE prog w fns k C XP a) (Sb : SimE prog w fns k C XP b) : SimE prog w fns k C XP (.shi a b) := by
  intro ex A env σ P s Q Er ok X nb hQ hE
  replace ok := i_shi ok
  rcases ok with ⟨_, _, _, _, rfl, ok⟩ | ok
  · rename_i v l p pos
    simp only [Bool.and_eq_true] at ok
    simp only [ev] at nb hQ hE
    have main := sim2s hXP Sa Sb (f := fun x y => match x, y with | .d x, .d y => shiV x y | _, _ => .bad) (G := fun va vb s₂ => wpAny (model prog w) A (subscriptTail v (.Slice none (some l) none p) va (.ref s₂.heap.objs.size)) Q Er
        { s₂ with heap := s₂.heap.push { cls := .type "slice", data := .fields #[.none, vb, .none] } }) ok.1 ok.2 X nb hE (fun x y c => by split; exact shiV_exc; simp) fun x y r hr hf va vb s₂ as bs kp ra rb ha hb => by
      split at hf
      · unfold shiV at hf
        split at hf
        · split at hf <;> cases hf
          rename_i xs i hi
          obtain ⟨rb, _⟩ := rb
          obtain ⟨_, rfl, rfl⟩ := rb.isInt
          refine slice_step (lo := none) (hi := some i) (st := none) ⟨fun o i => [i, o], fun _ _ => rfl⟩ ra.1 ra.2 ha .none (.int _ _) .none (by simp) (fun vs cs r => ?_) (fun y hy => (sz_list.mp ra.2).2 y (List.mem_of_mem_take hy)) (by have := (sz_list.mp ra.2).1; rw [List.length_take]; omega) fun v s' e => hQ _ hr v s' (.shift kp e)
          obtain ⟨ds, rd, hd⟩ := r.take i.toNat
          refine ⟨_, ds, ?_, rd, hd⟩
          have := slicePick_upto' vs.toArray i.toNat
          rw [Int.toNat_of_nonneg hi.1] at this
          exact this
        · cases hf
      · cases hf
    exact Subscript_ (wpAny_mono main (fun o s₁ h₁ => wpAny_Slice (evalPart_none_ (evalPart_some_ (wpAny_mono h₁ (fun vb s₂ h₂ => evalPart_none_ h₂) fun _ _ e => e)))) fun _ _ e => e)
  · cases ok
theorem all_pick : ∀ l : List Value, (List.range l.length).filterMap (l[·]?) = l
  | [] => rfl
  | x :: l => by
    rw [List.length_cons, List.range_succ_eq_map, List.filterMap_cons, List.filterMap_map]
    exact congrArg (x :: ·) (all_pick l)
theorem fm_congr {α β : Type} {f g : α → Option β} : ∀ {l : List α}, (∀ x ∈ l, f x = g x) → l.filterMap f = l.filterMap g
  | [], _ => rfl
  | x :: l, h => by rw [List.filterMap_cons, List.filterMap_cons, h x (.head _), fm_congr fun y hy => h y (.tail _ hy)]
/-- a list from behind -/
theorem rev_pick (l : List Value) : slicePick l.toArray none none (some (-1)) = l.reverse.toArray := by
  have e1 : sliceRange ((l.length : Int) - 1) (-1) (-1) = (List.range l.length).map fun (k : Nat) => ((l.length : Int) - 1 + -1 * (k : Int)).toNat := by
    unfold sliceRange
    dsimp only
    congr 2
    rw [if_neg (by decide)]
    by_cases h : (l.length : Int) - 1 > -1
    · rw [if_pos h, show (- -1 : Int) = 1 by decide, Int.ediv_one]; omega
    · rw [if_neg h]; omega
  have e2 : slicePick l.toArray none none (some (-1)) = ((sliceRange ((l.length : Int) - 1) (-1) (-1)).filterMap (l.toArray[·]?)).toArray := rfl
  rw [e2, e1, List.filterMap_map]
  congr 1
  have e3 := all_pick l.reverse
  rw [List.length_reverse] at e3
  rw [← e3]
  refine fm_congr fun k hk => ?_
  have hk := List.mem_range.mp hk
  show l.toArray[((l.length : Int) - 1 + -1 * (k : Int)).toNat]? = _
  rw [List.getElem?_toArray, List.getElem?_reverse hk]
  congr 1
  omega
theorem sim_rev {a : E} (Sa : SimE prog w fns k C XP a) : SimE prog w fns k C XP (.rev a) := by
  intro ex A env σ P s Q Er ok X nb hQ hE
  replace ok := i_rev ok
  rcases ok with ⟨_, _, _, _, _, _, _, rfl, ok⟩ | ok
  · rename_i v i n1 p1 p2 p pos
    simp only [Bool.and_eq_true, beq_iff_eq] at ok
    obtain ⟨rfl, oa⟩ := ok
    simp only [ev] at nb hQ hE
    obtain ⟨n1, n2⟩ := bind_ne_bad nb
    refine Subscript_ (Sa oa X n1 (fun x hx va s₁ Ea => ?_) fun c hc => hE c (by rw [hc]; rfl))
    have n3 := n2 x hx
    obtain ⟨ka, as, ra, ha, ht, hdx⟩ := Ea
    clear ht hdx
    obtain ⟨x, m⟩ := x
    dsimp only at n3 ra
    split at n3
    · unfold revV at n3
      split at n3
      · rename_i xs
        refine wpAny_Slice (evalPart_none_ (evalPart_none_ (evalPart_some_ (wpAny_UnaryOp (wpAny_Constant_int (neg_int ?_))))))
        refine slice_step (s := { s₁ with toks := s₁.toks + 1 + 1 }) (P := fun a => P a ∨ s.heap.get? a = none) (ys := xs.reverse) (lo := none) (hi := none) (st := some (-1)) ⟨fun o i => [o, i], fun _ _ => rfl⟩ ra.1 ra.2 ha .none .none (.int _ _) (by simp) (fun vs cs r => ?_) (fun y hy => (sz_list.mp ra.2).2 y (by simpa using hy)) (by simpa using (sz_list.mp ra.2).1) fun v s' e => hQ _ (by rw [hx]; rfl) v s' (.shift (ka.trans (.toks s₁ _)) e)
        obtain ⟨ds, rd, hd⟩ := r.reverse
        exact ⟨_, ds, rev_pick vs, rd, hd⟩
      · exact absurd rfl n3
    · exact absurd rfl n3
  · cases ok
end
end Mine

namespace Mine
open PySem PyProof.Rows

section
variable (prog : Program) (w : World) (fns : Fns) (k : Nat) (C : Calls) (XP : String → Shared → Value → Shared → Prop)
noncomputable def SimEs (es : Es) : Prop := ∀ {xs : List Expr} {pos : Pos} {A : Around} {env : Env} {σ : St} {P : Addr → Prop} {s : Shared} {Q : List Value → Shared → Prop} {Er : Value → Shared → Prop},
  okEs env.scope.names es xs = true → Cx prog w fns k A P s.heap env σ → evs C es σ ≠ .bad →
  (∀ l, evs C es σ = .ok l → ∀ vs s', EPs prog w P s l vs s' → Q vs s') → (∀ c, evs C es σ = .exc c → ∀ x s', XP c s x s' → Er x s') →
  wpAny (model prog w) A (spliced (backTo pos (starEach xs env))) Q Er s
end

section
variable {prog : Program} {w : World} {fns : Fns} {k : Nat} {C : Calls} {XP : String → Shared → Value → Shared → Prop}

theorem simEs_nil : SimEs prog w fns k C XP .nil := by
  intro xs pos A env σ P s Q Er ok X nb hQ hE
  replace ok := i_nil ok
  rcases ok with ⟨rfl, ok⟩ | ok
  · exact wpAny_items_nil (hQ [] rfl [] s ⟨.refl s, [], .nil, fun _ h => (nomatch h), fun _ => ⟨fun _ h => (nomatch h), .nil⟩⟩)
  · cases ok

theorem RV.there {h : Heap} {v : Value} {x : V} {as : List Addr} (r : RV prog w h v x as) : ∀ a ∈ as, ∃ o, h.get? a = some o := by
  intro a ha
  cases x with
  | d x => obtain ⟨_, _, e⟩ := r.1.there a ha; exact ⟨_, e⟩
  | dic0 => obtain ⟨b, _, rfl, _, ⟨o, _, _, e, _⟩, _⟩ := r; rw [List.mem_singleton.mp ha]; exact ⟨o, e⟩
  | dicI ks => obtain ⟨b, _, rfl, _, ⟨o, _, _, e, _⟩⟩ := r; rw [List.mem_singleton.mp ha]; exact ⟨o, e⟩
  | dicT ks => obtain ⟨b, _, _, rfl, _, ⟨o, _, _, e, _⟩, _⟩ := r; rw [List.mem_singleton.mp ha]; exact ⟨o, e⟩
  | inst fs => exact r.elim
theorem RVs.there {h : Heap} : ∀ {xs : List V} {vs : List Value} {as : List Addr}, RVs prog w h xs vs as → ∀ a ∈ as, ∃ o, h.get? a = some o
  | _, _, _, .nil, _, ha => nomatch ha
  | _, _, _, .cons r q, a, ha => (List.mem_append.mp ha).elim (r.there a) (RVs.there q a)
theorem RVs.length {h : Heap} : ∀ {xs : List V} {vs : List Value} {as : List Addr}, RVs prog w h xs vs as → vs.length = xs.length
  | _, _, _, .nil => rfl
  | _, _, _, .cons _ q => by rw [List.length_cons, List.length_cons, RVs.length q]

theorem simEs_cons (hXP : ∀ c s s₁ x s', Kp s s₁ → XP c s₁ x s' → XP c s x s') {e : E} {es : Es} (S : SimE prog w fns k C XP e) (Ss : SimEs prog w fns k C XP es) : SimEs prog w fns k C XP (.cons e es) := by
  intro xs pos A env σ P s Q Er ok X nb hQ hE
  replace ok := i_cons ok
  rcases ok with ⟨_, _, rfl, ok⟩ | ok
  · rename_i x xs
    simp only [Bool.and_eq_true] at ok
    simp only [evs] at nb hQ hE
    obtain ⟨n1, n2⟩ := bind_ne_bad nb
    refine wpAny_items_cons (S ok.1 X n1 (fun r hr v s₁ Ea => ?_) fun c hc => hE c (by rw [hc]; rfl)) (star_plain ok.1 xs env)
    obtain ⟨n3, _⟩ := bind_ne_bad (n2 r hr)
    refine Ss ok.2 (X.keep Ea.keeps.get) n3 (fun l hl vs s₂ Eb => ?_) fun c hc z s' hz => hE c (by rw [hr, Out.ok_bind, hc]; rfl) z s' (hXP c s s₁ z s' Ea.keeps hz)
    obtain ⟨ka, as, ra, ha, _, hd⟩ := Ea
    obtain ⟨kb, bs, rb, hb, hd'⟩ := Eb
    refine hQ (r :: l) (by rw [hr, Out.ok_bind, hl]; rfl) (v :: vs) s₂ ⟨ka.trans kb, as ++ bs, .cons (ra.keep kb.get) rb, fun a h => (List.mem_append.mp h).elim (ha a) fun h => (hb a h).imp id ka.none, fun hm => ?_⟩
    simp only [allDeep, List.all_cons, Bool.and_eq_true, decide_eq_true_eq] at hm
    have d1 := hd hm.1
    have d2 := hd' hm.2
    refine ⟨fun a h => (List.mem_append.mp h).elim (d1.1 a) fun h => ka.none (d2.1 a h), List.nodup_append.mpr ⟨d1.2, d2.2, fun a h1 b h2 e => ?_⟩⟩
    subst e
    obtain ⟨o, ho⟩ := ra.there a h1
    rw [d2.1 a h2] at ho; cases ho
  · cases ok

theorem rvs_ra {h : Heap} : ∀ {l : List (V × Mode)} {ds : List PyData} {vs : List Value} {as : List Addr}, allD l = some ds → RVs prog w h (l.map (·.1)) vs as → RA h vs ds as ∧ ∀ x ∈ ds, sz x = true
  | [], ds, _, _, e, r => by
    cases r; simp [allD] at e; subst e
    exact ⟨.nil, fun _ h => nomatch h⟩
  | (.d x, m) :: l, ds, _, _, e, r => by
    simp only [allD, Option.map_eq_some_iff] at e
    obtain ⟨es, e, rfl⟩ := e
    cases r with
    | cons r q =>
      obtain ⟨a, b⟩ := rvs_ra e q
      exact ⟨.cons r.1 a, fun y hy => (List.mem_cons.mp hy).elim (fun q => q ▸ r.2) (b y)⟩
  | (.dic0, m) :: l, ds, _, _, e, r => by simp [allD] at e
  | (.dicI _, m) :: l, ds, _, _, e, r => by simp [allD] at e
  | (.dicT _, m) :: l, ds, _, _, e, r => by simp [allD] at e
  | (.inst _, m) :: l, ds, _, _, e, r => by simp [allD] at e
theorem allD_length : ∀ {l : List (V × Mode)} {ds : List PyData}, allD l = some ds → ds.length = l.length
  | [], ds, e => by simp [allD] at e; subst e; rfl
  | (.d x, m) :: l, ds, e => by
    simp only [allD, Option.map_eq_some_iff] at e
    obtain ⟨es, e, rfl⟩ := e
    rw [List.length_cons, List.length_cons, allD_length e]
  | (.dic0, m) :: l, ds, e => by simp [allD] at e
  | (.dicI _, m) :: l, ds, e => by simp [allD] at e
  | (.dicT _, m) :: l, ds, e => by simp [allD] at e
  | (.inst _, m) :: l, ds, e => by simp [allD] at e
theorem evs_length : ∀ {es : Es} {ns : List (Str × NameKind)} {xs : List Expr} {σ : St} {l : List (V × Mode)}, okEs ns es xs = true → evs C es σ = .ok l → l.length = xs.length
  | .nil, ns, xs, σ, l, ok, e => by
    replace ok := i_nil ok
    rcases ok with ⟨rfl, ok⟩ | ok
    · simp only [evs] at e; cases e; rfl
    · cases ok
  | .cons a es, ns, xs, σ, l, ok, e => by
    replace ok := i_cons ok
    rcases ok with ⟨_, _, rfl, ok⟩ | ok
    · simp only [Bool.and_eq_true] at ok
      simp only [evs] at e
      obtain ⟨x, _, e⟩ := Out.bind_ok e
      obtain ⟨l', e', e⟩ := Out.bind_ok e
      cases e
      rw [List.length_cons, List.length_cons, evs_length ok.2 e']
    · cases ok

theorem sim_list {es : Es} (Ss : SimEs prog w fns k C XP es) : SimE prog w fns k C XP (.list es) := by
  intro ex A env σ P s Q Er ok X nb hQ hE
  replace ok := i_list ok
  rcases ok with ⟨_, _, rfl, ok⟩ | ok
  · simp only [Bool.and_eq_true, decide_eq_true_eq] at ok
    simp only [ev] at nb hQ hE
    obtain ⟨n1, n2⟩ := bind_ne_bad nb
    refine wpAny_List (Ss ok.2 X n1 (fun l hl vs s₁ Ea => ?_) fun c hc => hE c (by rw [hc]; rfl))
    have n3 := n2 l hl
    split at n3
    · rename_i ds hds
      obtain ⟨ka, as, ra, ha, hd⟩ := Ea
      obtain ⟨r, z⟩ := rvs_ra hds ra
      have e1 := ra.length
      rw [List.length_map] at e1
      have e2 := evs_length ok.2 hl
      have e3 := allD_length hds
      refine ⟨by unfold sizeLine; omega, hQ (.d (.list ds), if allDeep l then .deep else .top) (by rw [hl, Out.ok_bind, hds]) _ _ ⟨ka.trans (.push s₁ _ _), s₁.heap.objs.size :: as, ⟨.list (Heap.get?_push_size _ rfl) (r.keep fun _ _ e => Heap.get?_push_of_some _ e), sz_list.mpr ⟨by omega, z⟩⟩, ?_, ?_, ?_⟩⟩
      · intro a h
        rcases List.mem_cons.mp h with rfl | h
        · exact .inr (ka.none (new_none _))
        · exact ha a h
      · intro _
        exact ⟨_, _, rfl, ka.none (new_none _), fun h => let ⟨_, _, e⟩ := r.there _ h; not_new e rfl⟩
      · intro hm
        have hall : allDeep l = true := by
          dsimp only at hm
          split at hm
          · assumption
          · cases hm
        refine ⟨fun a h => ?_, List.nodup_cons.mpr ⟨fun h => let ⟨_, _, e⟩ := r.there _ h; not_new e rfl, (hd hall).2⟩⟩
        rcases List.mem_cons.mp h with rfl | h
        · exact ka.none (new_none _)
        · exact (hd hall).1 a h
    · exact absurd rfl n3
  · cases ok
theorem sim_tup {es : Es} (Ss : SimEs prog w fns k C XP es) : SimE prog w fns k C XP (.tup es) := by
  intro ex A env σ P s Q Er ok X nb hQ hE
  replace ok := i_tup ok
  rcases ok with ⟨_, _, _, rfl, ok⟩ | ok
  · simp only [Bool.and_eq_true, decide_eq_true_eq] at ok
    simp only [ev] at nb hQ hE
    obtain ⟨n1, n2⟩ := bind_ne_bad nb
    refine wpAny_Tuple (Ss ok.2 X n1 (fun l hl vs s₁ Ea => ?_) fun c hc => hE c (by rw [hc]; rfl))
    have n3 := n2 l hl
    split at n3
    · rename_i ds hds
      obtain ⟨ka, as, ra, ha, hd⟩ := Ea
      obtain ⟨r, z⟩ := rvs_ra hds ra
      have e1 := ra.length
      rw [List.length_map] at e1
      have e2 := evs_length ok.2 hl
      have e3 := allD_length hds
      refine ⟨by unfold sizeLine; omega, hQ (.d (.tuple ds), if allDeep l then .deep else .sh) (by rw [hl, Out.ok_bind, hds]) _ _ ⟨ka.trans (.push s₁ _ _), as, ⟨.tuple (Heap.get?_push_size _ rfl) (r.keep fun _ _ e => Heap.get?_push_of_some _ e), sz_tuple.mpr ⟨by omega, z⟩⟩, ha, ?_, ?_⟩⟩
      · intro hm
        dsimp only at hm
        split at hm <;> cases hm
      · intro hm
        have hall : allDeep l = true := by
          dsimp only at hm
          split at hm
          · assumption
          · cases hm
        exact hd hall
    · exact absurd rfl n3
  · cases ok

theorem sim_dict : SimE prog w fns k C XP .dict := by
  intro ex A env σ P s Q Er ok X nb hQ hE
  replace ok := i_dict ok
  rcases ok with ⟨_, rfl, ok⟩ | ok
  · have hlo := modules_low X.ge.nolim
    refine wpAny_Dict_empty (hQ (.dic0, .deep) rfl _ _ ⟨.push s _ _, [s.heap.objs.size], ⟨_, rfl, rfl, beq_eq_false_iff_ne.mpr (Nat.ne_of_gt hlo), Heap.DictOf.new _, ?_⟩, fun a h => .inr ?_, fun h => (by cases h), fun _ => ⟨fun a h => ?_, by simp⟩⟩)
    · exact ⟨_, #[], 0, Heap.get?_push_size _ rfl, ⟨rfl, rfl, rfl⟩, rfl, rfl, fun _ h => (nomatch h), .nil⟩
    · rw [List.mem_singleton.mp h]; exact new_none _
    · rw [List.mem_singleton.mp h]; exact new_none _
  · cases ok
end
end Mine

namespace Mine
open PySem PyProof.Rows

/-- rows that are ordered alike and hold the same are the same -/
theorem eq_of_sorted {α : Type} {r : α → α → Prop} (anti : ∀ a b, r a b → r b a → a = b) : ∀ {l l' : List α}, l.Perm l' → l.Pairwise r → l'.Pairwise r → l = l'
  | [], l', p, _, _ => by rw [p.nil_eq]
  | a :: l, [], p, _, _ => by cases p.eq_nil
  | a :: l, b :: l', p, h, h' => by
    obtain ⟨h1, h2⟩ := List.pairwise_cons.mp h
    obtain ⟨h3, h4⟩ := List.pairwise_cons.mp h'
    have e : a = b := by
      rcases List.mem_cons.mp (p.mem_iff.mp (List.mem_cons_self (a := a) (l := l))) with e | e
      · exact e
      · rcases List.mem_cons.mp (p.mem_iff.mpr (List.mem_cons_self (a := b) (l := l'))) with e' | e'
        · exact e'.symm
        · exact anti a b (h1 b e') (h3 a e)
    subst e
    rw [eq_of_sorted anti ((List.perm_cons a).mp p) h2 h4]
theorem sortI_pairwise (ns : List Int) : (ns.mergeSort (fun a b => decide (a ≤ b))).Pairwise (· ≤ ·) := by
  have := List.pairwise_mergeSort (le := fun a b : Int => decide (a ≤ b)) (fun a b c h1 h2 => by simp at *; omega) (fun a b => by simp; omega) ns
  exact this.imp (by intro a b h; simpa using h)
theorem maxL_spec : ∀ {xs : List Int} {m : Int}, maxL xs = some m → m ∈ xs ∧ ∀ x ∈ xs, x ≤ m
  | [], _, h => by simp [maxL] at h
  | x :: xs, m, h => by
    simp only [maxL, Option.some.injEq] at h
    have key : ∀ (l : List Int) (a : Int), (l.foldl (fun a b => if a < b then b else a) a = a ∨ l.foldl (fun a b => if a < b then b else a) a ∈ l) ∧ a ≤ l.foldl (fun a b => if a < b then b else a) a ∧ ∀ y ∈ l, y ≤ l.foldl (fun a b => if a < b then b else a) a := by
      intro l
      induction l with
      | nil => intro a; simp
      | cons b l ih =>
        intro a
        rw [List.foldl_cons]
        obtain ⟨h1, h2, h3⟩ := ih (if a < b then b else a)
        refine ⟨?_, ?_, fun y hy => ?_⟩
        · rcases h1 with h1 | h1
          · rw [h1]; split <;> simp
          · exact .inr (.tail _ h1)
        · split at h2 <;> rename_i hc <;> simp only [hc, if_true, if_false] <;> omega
        · rcases List.mem_cons.mp hy with rfl | hy
          · split at h2 <;> rename_i hc <;> simp only [hc, if_true, if_false] <;> omega
          · exact h3 y hy
    obtain ⟨h1, h2, h3⟩ := key xs x
    rw [h] at h1 h2 h3
    exact ⟨h1.elim (fun e => e ▸ .head _) (.tail _), fun y hy => (List.mem_cons.mp hy).elim (fun e => e ▸ h2) (h3 y)⟩

section
variable {prog : Program} {w : World} {fns : Fns} {k : Nat} {C : Calls} {XP : String → Shared → Value → Shared → Prop}

theorem kind_glb {env : Env} {x : String} (h : glbK env.scope.names x = true) : env.kindOf (Str.ofString x) = some .globalImplicit := by
  unfold glbK at h
  exact beq_iff_eq.mp h
theorem nd {x : String} (h : notDebug x = true) : (Str.ofString x == ("__debug__" : Str)) = false := by
  unfold notDebug at h
  simp only [Bool.and_eq_true, Bool.not_eq_true'] at h
  exact h.1

section
variable {A : Around} {env : Env} {s : Shared} {Q : Value → Shared → Prop} {Er : Value → Shared → Prop} {p pos : Pos}
theorem wp_callN {id : String} {args : List Expr} (eok : EnvOk env) (ge : GE fns s.heap) (hm : id ∈ bnames) (hg : glbK env.scope.names id = true) (hd : (Str.ofString id == ("__debug__" : Str)) = false)
    (h : wpAny (model prog w) A (callWith pos (bval id) [] (backTo pos (starEach args env)) []) Q Er s) : wpAny (model prog w) A (eval (.Call (.Name (Str.ofString id) p) args [] pos) env) Q Er s := by
  obtain ⟨mg, g1, _, g3⟩ := ge.glob
  obtain ⟨mb, b1, b2⟩ := ge.blt
  exact wpAny_Call_NameR (Calls.Name_function_global eok.kind (kind_glb hg) (Calls.loadGlobal_builtin (eok.glob ▸ g1) (g3 id hm) (eok.blt ▸ b1) (b2 id hm) h) hd)
theorem wp_callB {id : String} {x : Expr} {xs : List Expr} {e : E} (ns : List (Str × NameKind)) (hx : okE ns e x = true) (ha : (backTo pos (starEach xs env)).any (·.1) = false)
    (h : wpAny (model prog w) A (spliced (backTo pos (starEach (x :: xs) env))) (fun vs s₁ => wpAny (model prog w) A (call (.builtin id) vs) Q Er s₁) Er s) : wpAny (model prog w) A (callWith pos (.builtin id) [] (backTo pos (starEach (x :: xs) env)) []) Q Er s := by
  rw [star_plain hx] at h ⊢
  exact Calls.callWith_builtin ha (Calls.evalArgs_plain (wpAny_mono h (fun vs s₁ h₁ => h₁) fun _ _ e => e))
theorem wp_callT {T : String} {x : Expr} {xs : List Expr} {e : E} (ns : List (Str × NameKind)) (hx : okE ns e x = true) (ha : (backTo pos (starEach xs env)).any (·.1) = false)
    (h : wpAny (model prog w) A (spliced (backTo pos (starEach (x :: xs) env))) (fun vs s₁ => wpAny (model prog w) A (call (.type T) vs) Q Er s₁) Er s) : wpAny (model prog w) A (callWith pos (.type T) [] (backTo pos (starEach (x :: xs) env)) []) Q Er s := by
  rw [star_plain hx] at h ⊢
  exact PySem.callWith_type ha (Calls.evalArgs_plain (wpAny_mono h (fun vs s₁ h₁ => h₁) fun _ _ e => e))
theorem wp_one {x : Expr} {e : E} (ns : List (Str × NameKind)) (hx : okE ns e x = true) {G : List Value → Shared → Prop} (h : wpAny (model prog w) A (eval x env) (fun v s₁ => G [v] s₁) Er s) : wpAny (model prog w) A (spliced (backTo pos (starEach [x] env))) G Er s :=
  wpAny_items_cons (wpAny_mono h (fun _ _ h₁ => wpAny_items_nil h₁) fun _ _ e => e) (star_plain hx [] env)
end

/-! ## built-in calls of one argument -/
section
variable {va : Value} {as : List Addr} {A : Around} {P : Addr → Prop} {s : Shared} {Q : Value → Shared → Prop} {Er : Value → Shared → Prop}

theorem len_step {x : V} {r : V × Mode} (he : b1V .len x = .ok r) (ra : RV prog w s.heap va x as) (hQ : ∀ v s', EP prog w P s r v s' → Q v s') : wpAny (model prog w) A (call (.builtin "len") [va]) Q Er s := by
  replace he := optO_ok he
  obtain ⟨y, hy, he⟩ := he
  cases asD_inv hy
  cases ht : asT y with
  | none =>
    simp only [ht] at he
    replace he := optO_ok he
    obtain ⟨xs, hx, he⟩ := he
    cases asL_inv hx
    cases he
    obtain ⟨a, vs, n, cs, rfl, ea, ra', rfl⟩ := ra.1.isList
    have hl := ra'.length
    have hz := (sz_list.mp ra.2).1
    refine Calls.call_len_list (isL ea) (by rw [List.size_toArray]; omega) (hQ _ _ ?_)
    rw [List.size_toArray, hl]
    exact .int (.toks s _)
  | some xs =>
    simp only [ht] at he
    cases he
    cases asT_inv ht
    obtain ⟨a, vs, n, rfl, ea, ra'⟩ := ra.1.isTup
    have hl := ra'.length
    have hz := (sz_tuple.mp ra.2).1
    refine PySem.P.len_tuple ea (by rw [List.size_toArray]; omega) (hQ _ _ ?_)
    rw [List.size_toArray, hl]
    exact .int (.toks s _)

theorem copy_step {xs : List PyData} {T : String} {a : Addr} {vs : List Value} {n : Nat} {cs : List Addr} (hT : T = "list" ∨ T = "tuple") (ea : s.heap.get? a = some ⟨.type T, none, .seq vs.toArray n, #[]⟩) (ra : RA s.heap vs xs cs) (hl : xs.length ≤ 2 ^ 22)
    (hz : ∀ x ∈ xs, sz x = true) (ha : ∀ b ∈ cs, P b) (hQ : ∀ v s', EP prog w P s (.d (.list xs), fresh xs) v s' → Q v s') : wpAny (model prog w) A (call (.type "list") [.ref a]) Q Er s := by
  have e := ra.length
  refine call_list_seq a hT ea rfl rfl (fun h' c' kp hn => hQ _ _ ?_) (by rw [List.size_toArray]; unfold sizeLine; omega)
  have kp' : Kp s { s with heap := h' } := ⟨h', s.toks, rfl, kp⟩
  refine EP.aList kp' (new_none _) hn (ra.keep kp) hl hz fun b hb => ⟨ha b hb, ?_⟩
  obtain ⟨_, _, e⟩ := ra.there b hb
  exact not_new e

theorem tup_step {xs : List PyData} (ra : R s.heap va (.list xs) as) (za : sz (.list xs) = true) (ha : ∀ b ∈ as, P b) (hQ : ∀ v s', EP prog w P s (.d (.tuple xs), if xs.all sx then .deep else .sh) v s' → Q v s') : wpAny (model prog w) A (call (.type "tuple") [va]) Q Er s := by
  obtain ⟨a, vs, n, cs, rfl, ea, ra', rfl⟩ := ra.isList
  have e := ra'.length
  have hz := sz_list.mp za
  refine call_tuple_list (isL ea) (fun h' kp => hQ _ _ ?_) (by rw [List.size_toArray]; unfold sizeLine; omega)
  have kp' : Kp s { s with heap := h'.push { cls := .type "tuple", data := .seq vs.toArray } } := ⟨_, s.toks, rfl, fun b o q => Heap.get?_push_of_some _ (kp b o q)⟩
  refine ⟨kp', cs, ⟨.tuple (Heap.get?_push_size _ rfl) ((ra'.keep kp).keep fun _ _ e => Heap.get?_push_of_some _ e), sz_tuple.mpr hz⟩, fun b hb => .inl (ha b (.tail _ hb)), fun hm => ?_, fun hm => ?_⟩
  · dsimp only at hm; split at hm <;> cases hm
  · have hall : xs.all sx = true := by
      dsimp only at hm
      split at hm
      · assumption
      · cases hm
    rw [ra'.sx_nil hall]
    exact ⟨fun _ h => (nomatch h), .nil⟩

theorem sortI_step {xs : List PyData} {ns : List Int} (ra : R s.heap va (.list xs) as) (hi : intsOf xs = some ns) (h64 : xs.length < 64) (hQ : ∀ v s', EP prog w P s (.d (ofInts (ns.mergeSort (fun a b => decide (a ≤ b)))), .deep) v s' → Q v s') :
    wpAny (model prog w) A (call (.builtin "sorted") [va]) Q Er s := by
  obtain ⟨a, vs, n, cs, rfl, ea, ra', rfl⟩ := ra.isList
  have e := ra'.length
  obtain ⟨hI, rfl, rfl⟩ := ra'.ints hi
  rw [List.length_map] at e h64
  refine sorted_ints (isL ea) hI (by omega) fun out ns' h1 h2 h3 => hQ _ _ ?_
  have e' : ns' = ns.mergeSort (fun a b => decide (a ≤ b)) := eq_of_sorted (fun a b h h' => Int.le_antisymm h h') (h2.trans (List.mergeSort_perm ns _).symm) h3 (sortI_pairwise ns)
  subst e'
  obtain ⟨e, he⟩ := sortedAll_at s.heap vs out
  have hl := List.length_mergeSort (le := fun a b : Int => decide (a ≤ b)) ns
  have ep : EP prog w P s (.d (.list ((ns.mergeSort (fun a b => decide (a ≤ b))).map .int)), fresh ((ns.mergeSort (fun a b => decide (a ≤ b))).map .int)) (.ref (s.heap.objs.size + 1)) { s with heap := sortedAll s.heap vs out } :=
    EP.aList (vs := out.toList) (n := e) (as := []) ⟨_, s.toks, rfl, fun _ _ q => sortedAll_old q⟩ (Heap.get?_none_of_le (Nat.le_succ _)) (by simpa [seqObj] using he) (RA.of_ints h1) (by rw [List.length_map, hl]; omega) (szs_ints _) fun _ h => (nomatch h)
  have ef : fresh ((ns.mergeSort (fun a b => decide (a ≤ b))).map .int) = .deep := by
    unfold fresh
    rw [if_pos]
    rw [List.all_map, List.all_eq_true]
    intro _ _; rfl
  rw [ef] at ep
  exact ep
end
end
end Mine

namespace Mine
open PySem PyProof.Rows

section
variable (prog : Program) (w : World)
/-- an iterator over data: what a walk gives, item by item -/
structure ItP (A : Around) (P : Addr → Prop) (s : Shared) (ds : List PyData) (m : Mode) (it : Value) (s' : Shared) : Prop where
  keeps : Kp s s'
  walk : ∃ (I : Addr) (fp wr : List Addr) (Pw : Nat → Value → Prop) (St : Nat → Heap → Prop) (F : List Addr), it = .ref I ∧ Walks prog w A I fp wr ds.length Pw St ∧ St 0 s'.heap ∧
    (∀ b ∈ wr, s.heap.get? b = none ∧ b ∉ F ∧ ∀ i h, St i h → ∃ o, h.get? b = some o ∧ ∃ fs, o.data = .fields fs) ∧ (∀ b ∈ fp, b ∈ wr ∨ b ∈ F) ∧ (∀ i v, Pw i v → ∀ d, ds[i]? = some d → ∃ bs, R s'.heap v d bs ∧ ∀ b ∈ bs, b ∈ F) ∧
    (∀ b ∈ F, ∃ vs n, s'.heap.get? b = some ⟨.type "list", none, .seq vs n, #[]⟩) ∧ (∀ a ∈ F, P a ∨ s.heap.get? a = none) ∧ (m = .deep → ∀ a ∈ F, s.heap.get? a = none)
  small : ds.length ≤ 2 ^ 22 ∧ ∀ d ∈ ds, sz d = true

variable (fns : Fns) (k : Nat) (C : Calls) (XP : String → Shared → Value → Shared → Prop)
noncomputable def SimIt (it : It) : Prop := ∀ {ex : Expr} {A : Around} {env : Env} {σ : St} {P : Addr → Prop} {s : Shared} {Q : Value → Shared → Prop} {Er : Value → Shared → Prop},
  okIt env.scope.names it ex = true → Cx prog w fns k A P s.heap env σ → evIt C it σ ≠ .bad →
  (∀ q, evIt C it σ = .ok q → ∀ i s', ItP prog w A P s q.1 q.2 i s' → Q i s') → (∀ c, evIt C it σ = .exc c → ∀ x s', XP c s x s' → Er x s') →
  wpAny (model prog w) A (eval ex env) (fun x s₁ => wpAny (model prog w) A (pyIter x) Q Er s₁) Er s
end

section
variable {prog : Program} {w : World} {fns : Fns} {k : Nat} {C : Calls} {XP : String → Shared → Value → Shared → Prop}

theorem iter_list {A : Around} {P : Addr → Prop} {s₀ s : Shared} {Q : Value → Shared → Prop} {Er : Value → Shared → Prop} {va : Value} {as : List Addr} {xs : List PyData} {m : Mode} (k₀ : Kp s₀ s) (hh : A.handled = none) (ra : R s.heap va (.list xs) as) (za : sz (.list xs) = true)
    (ha : ∀ a ∈ as, P a ∨ s₀.heap.get? a = none) (hm : m = .deep → ∀ a ∈ as, s₀.heap.get? a = none) (hQ : ∀ it s', ItP prog w A P s₀ xs m it s' → Q it s') : wpAny (model prog w) A (pyIter va) Q Er s := by
  obtain ⟨a, vs, n, cs, rfl, ea, ra', rfl⟩ := ra.isList
  refine wpAny_pyIter_list (isL ea) (hQ _ _ ⟨k₀.trans (.push s _ _), ⟨s.heap.objs.size, [s.heap.objs.size, a], [s.heap.objs.size], (fun i v => vs.toArray[i]? = some v), (fun i h => h.IsListIter s.heap.objs.size a i ∧ h.IsList a vs.toArray), a :: cs, rfl, ?_, ⟨⟨_, Heap.get?_push_size _ rfl, rfl, rfl⟩, (isL ea).push _⟩, ?_, ?_, ?_, ?_, ha, hm⟩, sz_list.mp za⟩)
  · have := Walks.list (prog := prog) (w := w) (A := A) hh s.heap.objs.size a (not_new ea) vs.toArray
    have e : vs.toArray.size = xs.length := by rw [List.size_toArray, ra'.length]
    rw [e] at this
    exact this
  · intro b hb
    rw [List.mem_singleton.mp hb]
    refine ⟨k₀.none (new_none _), fun h => ?_, fun i h hst => ?_⟩
    · obtain ⟨_, _, e⟩ := ra.there _ h
      exact not_new e rfl
    · obtain ⟨o, e1, _, e2⟩ := hst.1
      exact ⟨o, e1, _, e2⟩
  · intro b hb
    rcases List.mem_cons.mp hb with rfl | hb
    · exact .inl (.head _)
    · rw [List.mem_singleton.mp hb]; exact .inr (.head _)
  · intro i v hv d hd
    obtain ⟨d', bs, h1, h2, h3⟩ := ra'.get' (by simpa using hv)
    rw [hd] at h1; cases h1
    exact ⟨bs, h2.keep fun _ _ e => Heap.get?_push_of_some _ e, fun b hb => .tail _ (h3 b hb)⟩
  · intro b hb
    obtain ⟨vs', n', e⟩ := ra.there b hb
    exact ⟨vs', n', Heap.get?_push_of_some _ e⟩

theorem rangeL_get {a b : Int} {i : Nat} {d : PyData} (h : (rangeL a b)[i]? = some d) : d = .int (a + i) := by
  unfold rangeL at h
  rw [List.getElem?_map] at h
  obtain ⟨j, hj, rfl⟩ := Option.map_eq_some_iff.mp h
  have : j = i := by
    have h1 := (List.getElem?_eq_some_iff.mp hj)
    obtain ⟨h2, h3⟩ := h1
    rw [List.getElem_range] at h3
    exact h3.symm
  rw [this]
theorem rangeL_length (a b : Int) : (rangeL a b).length = (b - a).toNat := by simp [rangeL]
theorem rangeL_sz (a b : Int) : ∀ d ∈ rangeL a b, sz d = true := by
  intro d hd
  unfold rangeL at hd
  obtain ⟨j, _, rfl⟩ := List.mem_map.mp hd
  rfl

theorem iter_range {A : Around} {P : Addr → Prop} {s₀ s : Shared} {Q : Value → Shared → Prop} {Er : Value → Shared → Prop} {r : Addr} {a b : Int} {t u v : Tok} (k₀ : Kp s₀ s) (hh : A.handled = none) (hr : IsRange s.heap r a b 1 t u v)
    (hn : (b - a).toNat ≤ lim) (ha : -(2 ^ 60) ≤ a ∧ a < 2 ^ 60 ∧ -(2 ^ 60) ≤ b ∧ b < 2 ^ 60) (hQ : ∀ it s', ItP prog w A P s₀ (rangeL a b) .deep it s' → Q it s') : wpAny (model prog w) A (pyIter (.ref r)) Q Er s := by
  have hsz : Builtin.Range.rangeSize a b 1 = ((b - a).toNat : Int) := by rw [rangeSize_one]; split <;> omega
  refine wpAny_pyIter_range hr (small_one (by omega) (by omega) (by omega) (by omega)) (hQ _ _ ⟨k₀.trans (.push s _ _), ⟨s.heap.objs.size, [s.heap.objs.size], [s.heap.objs.size], (fun i v => ∃ t, v = .int (a + i * 1) t), (fun i h => IsRangeIter h s.heap.objs.size (a + (i : Nat) * 1) (((b - a).toNat : Int) - (i : Nat)) 1), [], rfl, ?_, ?_, ?_, fun b hb => .inl hb, ?_, fun _ h => (nomatch h), fun _ h => (nomatch h), fun _ _ h => (nomatch h)⟩, ⟨by rw [rangeL_length]; unfold lim at hn; omega, rangeL_sz a b⟩⟩)
  · have := Walks.range (prog := prog) (w := w) (A := A) hh s.heap.objs.size a 1 (b - a).toNat
    rw [rangeL_length]
    exact this
  · have e1 : (a + ((0 : Nat) : Int) * 1) = a := by simp
    have e2 : (((b - a).toNat : Int) - ((0 : Nat) : Int)) = Builtin.Range.rangeSize a b 1 := by rw [hsz]; simp
    show IsRangeIter _ _ (a + ((0 : Nat) : Int) * 1) (((b - a).toNat : Int) - ((0 : Nat) : Int)) 1
    rw [e1, e2]
    exact Heap.get?_push_size _ rfl
  · intro b hb
    rw [List.mem_singleton.mp hb]
    exact ⟨k₀.none (new_none _), fun h => (nomatch h), fun i h hst => ⟨_, hst, _, rfl⟩⟩
  · rintro i v ⟨t, rfl⟩ d hd
    rw [rangeL_get hd]
    exact ⟨[], by simpa using R.int (a + i) t, fun _ h => (nomatch h)⟩

theorem simIt_e {a : E} (Sa : SimE prog w fns k C XP a) : SimIt prog w fns k C XP (.e a) := by
  intro ex A env σ P s Q Er ok X nb hQ hE
  replace ok : okE env.scope.names a ex = true := ok
  simp only [evIt] at nb hQ hE
  obtain ⟨n1, n2⟩ := bind_ne_bad nb
  refine Sa ok X n1 (fun r hr v s₁ Ea => ?_) fun c hc => hE c (by rw [hc]; rfl)
  have n3 := n2 r hr
  obtain ⟨x, m⟩ := r
  obtain ⟨ka, as, ra, ha, ht, hd⟩ := Ea
  unfold itV at n3
  dsimp only at n3 ra hd
  split at n3
  · rename_i xs hx
    cases lstV_some hx
    exact iter_list (m := m) ka X.room.1 ra.1 ra.2 ha (fun hm => (hd hm).1) fun it s' I => hQ (xs, m) (by rw [hr]; rfl) it s' I
  · exact absurd rfl n3

theorem rangeV_ok {a b : Int} {q : List PyData × Mode} (h : rangeV a b = .ok q) : q = (rangeL a b, .deep) ∧ (b - a).toNat ≤ lim ∧ -(2 ^ 60) ≤ a ∧ a < 2 ^ 60 ∧ -(2 ^ 60) ≤ b ∧ b < 2 ^ 60 := by
  unfold rangeV at h
  split at h
  · rename_i hc; cases h; exact ⟨rfl, hc⟩
  · cases h
theorem rangeV_exc {a b : Int} {c : String} : rangeV a b ≠ .exc c := by unfold rangeV; split <;> simp

theorem simIt_r1 {n : E} (Sn : SimE prog w fns k C XP n) : SimIt prog w fns k C XP (.r1 n) := by
  intro ex A env σ P s Q Er ok X nb hQ hE
  replace ok := i_r1 ok
  rcases ok with ⟨_, _, _, _, rfl, ok⟩ | ok
  · simp only [Bool.and_eq_true, beq_iff_eq] at ok
    obtain ⟨⟨rfl, hg⟩, on⟩ := ok
    simp only [evIt] at nb hQ hE
    obtain ⟨n1, n2⟩ := bind_ne_bad nb
    refine wp_callN X.eok X.ge (by decide) hg (by decide) (wp_callT (T := "range") _ on rfl (wp_one _ on (Sn on X n1 (fun r hr v s₁ Ea => ?_) fun c hc => hE c (by rw [hc]; rfl))))
    have n3 := n2 r hr
    obtain ⟨x, m⟩ := r
    obtain ⟨ka, as, ra, hx1, hx2, hx3⟩ := Ea
    clear hx1 hx2 hx3
    dsimp only at n3 ra
    split at n3
    · rename_i i
      cases hq : rangeV 0 i with
      | bad => exact absurd hq n3
      | exc c => exact absurd hq rangeV_exc
      | ok q =>
        obtain ⟨rfl, h1, h2⟩ := rangeV_ok hq
        obtain ⟨_, rfl, rfl⟩ := ra.1.isInt
        exact call_range_1 (iter_range (ka.trans (.push s₁ _ _)) X.room.1 (IsRange.new ..) h1 h2 fun it s' I => hQ _ (by rw [hr]; exact hq) it s' I)
    · exact absurd rfl n3
  · cases ok
theorem simIt_r2 (hXP : ∀ c s s₁ x s', Kp s s₁ → XP c s₁ x s' → XP c s x s') {a b : E} (Sa : SimE prog w fns k C XP a) (Sb : SimE prog w fns k C XP b) : SimIt prog w fns k C XP (.r2 a b) := by
  intro ex A env σ P s Q Er ok X nb hQ hE
  replace ok := i_r2 ok
  rcases ok with ⟨_, _, _, _, _, rfl, ok⟩ | ok
  · simp only [Bool.and_eq_true, beq_iff_eq] at ok
    obtain ⟨⟨⟨rfl, hg⟩, oa⟩, ob⟩ := ok
    simp only [evIt] at nb hQ hE
    obtain ⟨n1, n2⟩ := bind_ne_bad nb
    refine wp_callN X.eok X.ge (by decide) hg (by decide) (wp_callT (T := "range") _ oa (by rw [star_plain ob]; rfl) (wpAny_items_cons ?_ (star_plain oa _ env)))
    refine Sa oa X n1 (fun x hx va s₁ Ea => ?_) fun c hc => hE c (by rw [hc]; rfl)
    obtain ⟨n3, n4⟩ := bind_ne_bad (n2 x hx)
    refine wp_one _ ob (Sb ob (X.keep Ea.keeps.get) n3 (fun y hy vb s₂ Eb => ?_) fun c hc z s' hz => hE c (by rw [hx, Out.ok_bind, hc]; rfl) z s' (hXP c s s₁ z s' Ea.keeps hz))
    have n5 := n4 y hy
    obtain ⟨x, mx⟩ := x
    obtain ⟨y, my⟩ := y
    obtain ⟨ka, as, ra, hx1, hx2, hx3⟩ := Ea
    obtain ⟨kb, bs, rb, hx4, hx5, hx6⟩ := Eb
    clear hx1 hx2 hx3 hx4 hx5 hx6
    dsimp only at n5 ra rb
    split at n5
    · rename_i i j
      cases hq : rangeV i j with
      | bad => exact absurd hq n5
      | exc c => exact absurd hq rangeV_exc
      | ok q =>
        obtain ⟨rfl, h1, h2⟩ := rangeV_ok hq
        obtain ⟨ra, _⟩ := ra
        obtain ⟨rb, _⟩ := rb
        cases ra; cases rb
        exact call_range_2 (iter_range ((ka.trans kb).trans (.push s₂ _ _)) X.room.1 (IsRange.new ..) h1 h2 fun it s' I => hQ _ (by rw [hx, Out.ok_bind, hy]; exact hq) it s' I)
    · exact absurd rfl n5
  · cases ok
end
end Mine

namespace Mine
open PySem PyProof.Rows

theorem ofString_inj {x y : String} (h : Str.ofString x = Str.ofString y) : x = y := by
  rw [Str.ofString_eq_toList, Str.ofString_eq_toList] at h
  have h1 : (x.toList.map Char.toNat).toArray = (y.toList.map Char.toNat).toArray := by injection h
  have h2 : x.toList.map Char.toNat = y.toList.map Char.toNat := by simpa using h1
  have h3 : x.toList = y.toList := by
    have inj : ∀ a b : Char, a.toNat = b.toNat → a = b := fun a b e => Char.ext (UInt32.toNat_inj.mp e)
    generalize x.toList = l at h2
    generalize y.toList = m at h2
    induction l generalizing m with
    | nil => cases m with
      | nil => rfl
      | cons b m => simp at h2
    | cons a l ih => cases m with
      | nil => simp at h2
      | cons b m =>
        simp only [List.map_cons, List.cons.injEq] at h2
        rw [inj a b h2.1, ih m h2.2]
  exact String.toList_inj.mp h3

section
variable {prog : Program} {w : World} {fns : Fns} {k : Nat} {C : Calls} {XP : String → Shared → Value → Shared → Prop}

/-- the cells that a comprehension takes along -/
theorem closure_ok {scope : Scope} {env : Env} (hf : ∀ p ∈ scope.names, p.2 = .free → ∃ c, env.cells.lookup p.1 = some c) :
    ∃ cl, closureFor scope env = pure cl ∧ ∀ n, (n, NameKind.free) ∈ scope.names → cl.lookup n = env.cells.lookup n := by
  suffices H : ∀ (names : List (Str × NameKind)) (acc : List (Str × Addr)), (∀ p ∈ names, p.2 = .free → ∃ c, env.cells.lookup p.1 = some c) → (∀ n c, acc.lookup n = some c → env.cells.lookup n = some c) →
      ∃ cl, (forIn names acc (fun (x : Str × NameKind) (cs : List (Str × Addr)) => (if (x.2 == NameKind.free) = true then (do let c ← cellOf env x.1; pure (ForInStep.yield ((x.1, c) :: cs))) else pure (ForInStep.yield cs) : Sem (ForInStep (List (Str × Addr)))))) = pure cl ∧
        (∀ n c, cl.lookup n = some c → env.cells.lookup n = some c) ∧ (∀ n, (n, NameKind.free) ∈ names ∨ (acc.lookup n).isSome → (cl.lookup n).isSome) by
    obtain ⟨cl, h1, h2, h3⟩ := H scope.names [] hf (fun n c h => by simp at h)
    refine ⟨cl, ?_, fun n hn => ?_⟩
    · unfold closureFor
      have e : (forIn scope.names ([] : List (Str × Addr)) fun (x : Str × NameKind) (r : List (Str × Addr)) => match x with
          | (name, kind) => if (kind == NameKind.free) = true then (do let c ← cellOf env name; pure (ForInStep.yield ((name, c) :: r))) else (pure (ForInStep.yield r) : Sem (ForInStep (List (Str × Addr))))) = pure cl := h1
      exact congrArg (fun t : Sem (List (Str × Addr)) => t >>= fun q => pure q) e
    · obtain ⟨c, hc⟩ := Option.isSome_iff_exists.mp (h3 n (.inl hn))
      rw [hc, h2 n c hc]
  intro names
  induction names with
  | nil => intro acc _ ha; exact ⟨acc, rfl, ha, fun n hn => hn.elim (fun h => nomatch h) id⟩
  | cons p r ih =>
    intro acc hf ha
    obtain ⟨n, kd⟩ := p
    by_cases hk : kd = .free
    · subst hk
      obtain ⟨c, hc⟩ := hf (n, .free) (.head _) rfl
      obtain ⟨cl, h1, h2, h3⟩ := ih ((n, c) :: acc) (fun p hp => hf p (.tail _ hp)) (fun m d h => by
        rw [List.lookup_cons] at h
        split at h
        · rename_i e; cases h; rw [beq_iff_eq.mp e]; exact hc
        · exact ha m d h)
      refine ⟨cl, ?_, h2, fun m hm => h3 m ?_⟩
      · rw [List.forIn_cons, ← h1]
        simp only [beq_self_eq_true, if_true, cellOf, hc]
        rfl
      · rcases hm with hm | hm
        · rcases List.mem_cons.mp hm with e | hm
          · cases e; right; simp
          · exact .inl hm
        · right
          rw [List.lookup_cons]
          split
          · rfl
          · exact hm
    · obtain ⟨cl, h1, h2, h3⟩ := ih acc (fun p hp => hf p (.tail _ hp)) ha
      refine ⟨cl, ?_, h2, fun m hm => h3 m (hm.imp (fun hm => ?_) id)⟩
      · rw [List.forIn_cons, ← h1]
        have : (kd == NameKind.free) = false := by simpa using hk
        simp only [this, Bool.false_eq_true, if_false]
        rfl
      · rcases List.mem_cons.mp hm with e | hm
        · cases e; exact absurd rfl hk
        · exact hm

theorem cells_one {X : Str} : ∀ (names : List (Str × NameKind)) (h : Heap) (acc : List (Str × Addr)), (∀ p ∈ names, p.2 = .cell → p.1 = X) → (names.map (·.1)).Nodup →
    (∀ m, m ≠ X → (cellsFrom h.objs.size names acc).lookup m = acc.lookup m) ∧
    (names.lookup X = some .cell → ∃ c, (cellsFrom h.objs.size names acc).lookup X = some c ∧ (pushCells h names).IsCell c none ∧ h.objs.size ≤ c) ∧ (names.lookup X ≠ some .cell → cellsFrom h.objs.size names acc = acc)
  | [], h, acc, _, _ => ⟨fun _ _ => rfl, fun e => (by cases e), fun _ => rfl⟩
  | (n, kd) :: r, h, acc, hc, hn => by
    rw [List.map_cons, List.nodup_cons] at hn
    unfold cellsFrom pushCells
    by_cases hk : kd = .cell
    · subst hk
      have e : n = X := hc (n, .cell) (.head _) rfl
      subst e
      have hr : ∀ p ∈ r, p.2 ≠ .cell := fun p hp e => hn.1 (List.mem_map.mpr ⟨p, hp, hc p (.tail _ hp) e⟩)
      have hl : r.lookup n ≠ some .cell := fun e => hr _ (mem_of_lookup e) rfl
      simp only [beq_self_eq_true, if_true]
      have ih := cells_one (X := n) r (h.push { cls := .type "cell", data := .cell none }) ((n, h.objs.size) :: acc) (fun p hp e => absurd e (hr p hp)) hn.2
      rw [Heap.size_push] at ih
      rw [ih.2.2 hl]
      refine ⟨fun m hm => ?_, fun _ => ⟨h.objs.size, by simp, ⟨_, pushCells_keeps r _ _ _ (Heap.get?_push_size _ rfl), rfl⟩, Nat.le_refl _⟩, fun hh => ?_⟩
      · rw [List.lookup_cons]
        have : (m == n) = false := by simpa using hm
        rw [this]
      · exact absurd (by simp) hh
    · have hb : (kd == NameKind.cell) = false := by simpa using hk
      simp only [hb, Bool.false_eq_true, if_false]
      obtain ⟨h1, h2, h3⟩ := cells_one r h acc (fun p hp => hc p (.tail _ hp)) hn.2
      have e : ((n, kd) :: r).lookup X = some .cell ↔ r.lookup X = some .cell := by
        rw [List.lookup_cons]
        by_cases hx : X = n
        · subst hx
          simp only [beq_self_eq_true]
          constructor
          · intro e; cases e; exact absurd rfl hk
          · intro e; exact absurd (List.mem_map.mpr ⟨_, mem_of_lookup e, rfl⟩) hn.1
        · have : (X == n) = false := by simpa using hx
          rw [this]
      exact ⟨h1, fun q => h2 (e.mp q), fun q => h3 fun z => q (e.mpr z)⟩

/-- the block of a comprehension -/
theorem newComp {A : Around} {env : Env} {scope : Scope} {cl : List (Str × Addr)} {s : Shared} {Q : Env → Shared → Prop} {Er : Value → Shared → Prop}
    (h : ∀ h', h' = pushCells (s.heap.push { cls := .type "dict", data := .dict #[] }) scope.names → Q { scope, locals := s.heap.objs.size, globals := env.globals, cells := cellsFrom (s.heap.objs.size + 1) scope.names cl, qual := env.qual, func := none, code := env.code, frame := env.frame, builtins := env.builtins } { s with heap := h' }) :
    wpAny (model prog w) A (newFunctionEnv scope env.globals cl [] env.qual none .none (some env)) Q Er s := by
  simp only [newFunctionEnv, Option.isSome_some, if_true]
  refine wpAny_bind (wpAny_alloc ?_)
  refine wpAny_bind (wpAny_layCells _ (fun name kind cells => by cases hkc : kind == NameKind.cell <;> simp) _ _ _ _ ?_)
  rw [show ({ s with heap := s.heap.push { cls := .type "dict", data := .dict #[] } } : Shared).heap.objs.size = s.heap.objs.size + 1 from Heap.size_push ..]
  exact wpAny_bind (wpAny_pure (wpAny_pure (h _ rfl)))
end
end Mine

namespace Mine
open PySem PyProof.Rows

section
variable {prog : Program} {w : World} {fns : Fns} {k : Nat} {C : Calls} {XP : String → Shared → Value → Shared → Prop}

theorem okSc_iff {ns : List (Str × NameKind)} {sc : Scope} {x : String} (h : okSc ns sc x = true) : sc.kind = .function ∧ (sc.names.map (·.1)).Nodup ∧ (sc.names.lookup (Str.ofString x) = some .local ∨ sc.names.lookup (Str.ofString x) = some .cell) ∧
    ∀ p ∈ sc.names, (p.2 = .local ∧ (p.1 = Str.ofString x ∨ p.1 = Str.ofString ".0")) ∨ p.2 = .globalImplicit ∨ (p.2 = .cell ∧ p.1 = Str.ofString x) ∨ (p.2 = .free ∧ (ns.lookup p.1 = some .cell ∨ ns.lookup p.1 = some .free)) := by
  unfold okSc at h
  simp only [Bool.and_eq_true, beq_iff_eq, decide_eq_true_eq, Bool.or_eq_true, List.all_eq_true] at h
  obtain ⟨⟨⟨h1, h2⟩, h3⟩, h4⟩ := h
  refine ⟨h1, h2, h3, fun p hp => ?_⟩
  rcases h4 p hp with ((h | h) | h) | h
  · exact .inl h
  · exact .inr (.inl h)
  · exact .inr (.inr (.inl h))
  · exact .inr (.inr (.inr h))

theorem lookup_mem {α : Type} {l : List (Str × α)} {n : Str} {c : α} (hn : (l.map (·.1)).Nodup) (h : (n, c) ∈ l) : l.lookup n = some c := by
  induction l with
  | nil => cases h
  | cons p r ih =>
    rw [List.map_cons, List.nodup_cons] at hn
    rw [List.lookup_cons]
    rcases List.mem_cons.mp h with e | h
    · cases e; simp
    · have : (n == p.1) = false := beq_eq_false_iff_ne.mpr fun e => hn.1 (e ▸ List.mem_map.mpr ⟨_, h, rfl⟩)
      rw [this]
      exact ih hn.2 h

theorem relN_lookup {outer : List (Str × NameKind)} : ∀ {inner : List (Str × NameKind)} {n : Str}, (relN outer inner).lookup n = (inner.lookup n).map fun kd => if kd == .free && outer.lookup n == some .cell then .cell else kd
  | [], n => rfl
  | (m, kd) :: r, n => by
    have ih := @relN_lookup outer r n
    unfold relN at ih ⊢
    rw [List.map_cons, List.lookup_cons, List.lookup_cons]
    by_cases e : n = m
    · subst e
      by_cases hc : (kd == NameKind.free && outer.lookup n == some .cell) = true
      · rw [if_pos hc]; simp only [beq_self_eq_true, Option.map_some]; rw [if_pos hc]
      · rw [if_neg hc]; simp only [beq_self_eq_true, Option.map_some]; rw [if_neg hc]
    · have e' : (n == m) = false := by simpa using e
      have e'' : (n == (if (kd == NameKind.free && outer.lookup m == some .cell) = true then (m, NameKind.cell) else (m, kd)).1) = false := by split <;> exact e'
      simp only [e', e'']
      exact ih

theorem relabel_names {scope : Scope} {env : Env} (hk : env.scope.kind = .function) : (relabel scope env).names = relN env.scope.names scope.names := by
  unfold relabel relN Env.kindOf
  simp [hk]

theorem compL_cons {f : PyData → Out (Option (V × Mode))} {d : PyData} {ds : List PyData} {q : List PyData × Bool} (h : compL f (d :: ds) = .ok q) :
    ∃ r q', f d = .ok r ∧ compL f ds = .ok q' ∧ ((r = none ∧ q = q') ∨ ∃ y m, r = some (.d y, m) ∧ q = (y :: q'.1, decide (m = .deep) && q'.2)) := by
  simp only [compL] at h
  obtain ⟨r, h1, h⟩ := Out.bind_ok h
  obtain ⟨q', h2, h⟩ := Out.bind_ok h
  refine ⟨r, q', h1, h2, ?_⟩
  split at h
  · cases h; exact .inl ⟨rfl, rfl⟩
  · cases h; exact .inr ⟨_, _, rfl, rfl⟩
  · cases h

/-- the surroundings of a comprehension's parts -/
theorem comp_cx {x : String} {sc : Scope} {A : Around} {env cenv : Env} {σ : St} {P P' : Addr → Prop} {h h' : Heap} {d : PyData} {v : Value} {as : List Addr}
    (hsc : okSc env.scope.names sc x = true) (hN : cenv.scope.names = relN env.scope.names sc.names) (hk : cenv.scope.kind = .function) (hg : cenv.globals = env.globals) (hb : cenv.builtins = env.builtins)
    (hc : ∀ n, (n, NameKind.free) ∈ sc.names → cenv.cells.lookup n = env.cells.lookup n) (hx : sc.names.lookup (Str.ofString x) = some .cell → ∃ c, cenv.cells.lookup (Str.ofString x) = some c)
    (X : Cx prog w fns k A P h env σ) (kp : ∀ b o, h.get? b = some o → h'.get? b = some o) (hv : VarIs h' cenv (Str.ofString x) v) (hr : R h' v d as) (hz : sz d = true) (has : ∀ a ∈ as, P' a) (hP : ∀ a, P a → (∃ o, h.get? a = some o) → P' a) :
    Cx prog w fns k A P' h' cenv (upd σ x (mk (.d d))) := by
  obtain ⟨_, hnd, htg, hnames⟩ := okSc_iff hsc
  have hkd : ∀ n, cenv.kindOf n = (sc.names.lookup n).map fun kd => if kd == .free && env.scope.names.lookup n == some .cell then .cell else kd := fun n => by
    show cenv.scope.names.lookup n = _
    rw [hN]; exact relN_lookup
  refine ⟨X.room, ⟨hk, hg.trans X.eok.glob, hb.trans X.eok.blt, fun n hn => ?_⟩, X.ge.keep kp, fun y p hp hvk => ?_⟩
  · rw [hkd] at hn
    cases e : sc.names.lookup n with
    | none => rw [e] at hn; simp at hn
    | some kd =>
      have hm := mem_of_lookup e
      rcases hnames _ hm with h1 | h1 | h1 | h1
      · rw [e, show kd = _ from h1.1] at hn; simp at hn
      · dsimp only at h1; rw [e, h1] at hn; simp at hn
      · obtain ⟨h1, h2⟩ := h1
        dsimp only at h1 h2
        subst h2
        exact hx (by rw [e, h1])
      · obtain ⟨h1, h2⟩ := h1
        dsimp only at h1 h2
        subst h1
        obtain ⟨c, hcc⟩ := X.eok.cells n h2
        exact ⟨c, by rw [hc n hm, hcc]⟩
  · unfold upd at hp
    by_cases hy : y = x
    · subst hy
      rw [if_pos rfl] at hp
      cases hp
      exact ⟨v, as, hv, ⟨hr, hz⟩, has⟩
    · rw [if_neg hy] at hp
      have hk' := kind_of_varK hvk
      rw [hkd] at hk'
      have hdot : Str.ofString y ≠ Str.ofString ".0" := by
        unfold varK at hvk
        intro e
        rw [e] at hvk
        simp at hvk
      cases e : sc.names.lookup (Str.ofString y) with
      | none => rw [e] at hk'; simp at hk'
      | some kd =>
        have hm := mem_of_lookup e
        rcases hnames _ hm with h1 | h1 | h1 | h1
        · exact absurd h1.2 (by
            rintro (h2 | h2)
            · exact hy (ofString_inj h2)
            · exact hdot h2)
        · dsimp only at h1; rw [e, h1] at hk'; simp at hk'
        · exact absurd (ofString_inj h1.2) hy
        · obtain ⟨h1, h2⟩ := h1
          dsimp only at h1 h2
          subst h1
          have hvo : varK env.scope.names y = true := by
            unfold varK
            rw [Bool.and_eq_true]
            refine ⟨by simpa using hdot, ?_⟩
            rcases h2 with h2 | h2 <;> rw [h2]
          obtain ⟨v', as', a1, a2, a3⟩ := X.vars y p hp hvo
          refine ⟨v', as', ?_, a2.keep kp, fun a ha => hP a (a3 a ha) (a2.there a ha)⟩
          cases a1 with
          | loc m b1 b2 b3 => exact absurd b1 (by unfold Env.kindOf; rcases h2 with h2 | h2 <;> rw [h2] <;> simp)
          | cell c b1 b2 b3 =>
            refine .cell c ?_ (by rw [hc _ hm, b2]) (b3.keeps kp)
            rw [hkd, e]
            rcases h2 with h2 | h2 <;> rw [h2] <;> simp

/-- the place of a comprehension's name -/
noncomputable def Tgt (cenv : Env) (X : Str) (T : Addr) (h : Heap) : Prop :=
  (∃ m, h.Ns cenv.locals m) ∧ ((cenv.kindOf X = some .local ∧ T = cenv.locals) ∨ (cenv.kindOf X = some .cell ∧ cenv.cells.lookup X = some T ∧ T ≠ cenv.locals ∧ ∃ v₀, h.IsCell T v₀))

theorem Tgt.at {cenv : Env} {X : Str} {T : Addr} {h h' : Heap} (t : Tgt cenv X T h) (k1 : ∀ o, h.get? T = some o → h'.get? T = some o) (k2 : ∀ o, h.get? cenv.locals = some o → h'.get? cenv.locals = some o) : Tgt cenv X T h' := by
  obtain ⟨⟨m, hm⟩, t⟩ := t
  refine ⟨⟨m, hm.at' k2⟩, t.imp id fun t => ?_⟩
  obtain ⟨a, b, c, v₀, o, e, d⟩ := t
  exact ⟨a, b, c, v₀, o, k1 _ e, d⟩
theorem Tgt.noseq {cenv : Env} {X : Str} {T : Addr} {h : Heap} (t : Tgt cenv X T h) (o : Obj) (e : h.get? T = some o) (vs : Array Value) (n : Nat) : o.data ≠ .seq vs n := by
  obtain ⟨⟨m, o', es, ep, e', hd, _⟩, t⟩ := t
  intro q
  rcases t with t | t
  · rw [t.2, e'] at e; cases e; rw [hd] at q; cases q
  · obtain ⟨_, _, _, v₀, o'', e'', hd'⟩ := t
    rw [e''] at e; cases e; rw [hd'] at q; cases q

theorem tgt_store {A : Around} {cenv : Env} {X : Str} {px : Pos} {T : Addr} {v : Value} {s : Shared} {Q : Unit → Shared → Prop} {Er : Value → Shared → Prop} (hk : cenv.scope.kind = .function) (t : Tgt cenv X T s.heap)
    (h : ∀ h' tk, Heap.SameBut T s.heap h' → Tgt cenv X T h' → VarIs h' cenv X v → Q () { s with heap := h', toks := tk }) : wpAny (model prog w) A (assign (.Name X px) cenv v) Q Er s := by
  obtain ⟨⟨m, hm⟩, t⟩ := t
  rcases t with ⟨t1, rfl⟩ | ⟨t1, t2, t3, v₀, t4⟩
  · exact wpAny_assign_Name (wpAny_storeName_local t1 hm (fun h' hn hs => h h' _ hs ⟨⟨_, hn⟩, .inl ⟨t1, rfl⟩⟩ (.loc _ t1 hn (by simp))) (by rw [hk]; rfl))
  · exact wpAny_assign_Name (wpAny_storeName_cell hk t1 t2 t4 fun h' hn hs => h h' s.toks hs ⟨⟨m, hm.sameBut hs (Ne.symm t3)⟩, .inr ⟨t1, t2, t3, _, hn⟩⟩ (.cell T (.inl t1) t2 hn))

set_option maxHeartbeats 2000000 in
theorem comp_loop {f : PyData → Out (Option (V × Mode))} {x : String} {px : Pos} {elt iter : Expr} {ifs : List Expr} {sc : Scope} {pos : Pos} {A : Around} {cenv : Env} {P : Addr → Prop} {s s₃ : Shared} {Rr : Result → Shared → Prop}
    {ds : List PyData} {res : List PyData × Bool} {I D T : Addr} {fp wr F : List Addr} {Pw : Nat → Value → Prop} {St : Nat → Heap → Prop}
    (W : Walks prog w A I fp wr ds.length Pw St) (hst : St 0 s₃.heap) (hk : cenv.scope.kind = .function) (ks : ∀ b o, s.heap.get? b = some o → s₃.heap.get? b = some o)
    (hwr : ∀ b ∈ wr, s.heap.get? b = none ∧ b ∉ F ∧ ∀ i h, St i h → ∃ o, h.get? b = some o ∧ ∃ fs, o.data = .fields fs) (hfp : ∀ b ∈ fp, b ∈ wr ∨ b ∈ F)
    (hPw : ∀ i v, Pw i v → ∀ d, ds[i]? = some d → ∃ bs, R s₃.heap v d bs ∧ ∀ b ∈ bs, b ∈ F) (hFP : ∀ a ∈ F, P a ∨ s.heap.get? a = none) 
    (hFo : ∀ b ∈ F, b ≠ D ∧ b ≠ T ∧ b ≠ cenv.locals) (hwo : ∀ b ∈ wr, b ≠ D ∧ b ≠ T ∧ b ≠ cenv.locals) (hDT : D ≠ T) (hDL : D ≠ cenv.locals) (fD : s.heap.get? D = none) (fT : s.heap.get? T = none)
    (hsm : ds.length ≤ 2 ^ 22 ∧ ∀ d ∈ ds, sz d = true) (hres : compL f ds = .ok res) (hD : s₃.heap.PlainList D #[]) (hT : Tgt cenv (Str.ofString x) T s₃.heap)
    (step : ∀ d r, f d = .ok r → sz d = true → ∀ {s₄ : Shared} {Q₁ : Shared → Prop} {Q₂ : Value → Shared → Prop} {Er' : Value → Shared → Prop} (v : Value) (bs : List Addr), VarIs s₄.heap cenv (Str.ofString x) v → R s₄.heap v d bs → (∀ b ∈ bs, (P b ∨ s.heap.get? b = none) ∧ b ≠ D) → (∀ b o, s.heap.get? b = some o → s₄.heap.get? b = some o) →
      (r = none → ∀ s₅, Kp s₄ s₅ → Q₁ s₅) → (∀ y, r = some y → ∀ u s₅, EP prog w (fun b => (P b ∨ s.heap.get? b = none) ∧ b ≠ D) s₄ y u s₅ → Q₂ u s₅) →
      wpAny (model prog w) A (forIn ifs true fun c r => if r = true then do let ok ← isTrue c cenv (eval c cenv); pure (ForInStep.yield ok) else pure (ForInStep.yield r)) (fun ok s₅ => if ok = true then wpAny (model prog w) A (eval elt cenv) Q₂ Er' s₅ else Q₁ s₅) Er' s₄)
    (hR : ∀ h tk vs as, h.PlainList D vs.toArray → RA h vs res.1 as → (∀ y ∈ res.1, sz y = true) → res.1.length ≤ 2 ^ 22 → (∀ a ∈ as, a ≠ D ∧ (P a ∨ s.heap.get? a = none)) → (res.2 = true → (∀ a ∈ as, s.heap.get? a = none) ∧ as.Nodup) → (∃ m, h.Ns cenv.locals m) →
      (∀ b o, s.heap.get? b = some o → h.get? b = some o) → Rr (.ok .next) { s₃ with heap := h, toks := tk }) :
    codeAny (model prog w) A (.compLoop (.ListComp elt [⟨.Name (Str.ofString x) px, iter, ifs, 0⟩] sc pos) 0 (.ref I) (.ref D) cenv) Rr s₃ := by
  have offw : ∀ i h as, St i h → Off h as wr := fun i h as hs b hb o e => by
    obtain ⟨o', e', fs, q⟩ := (hwr b hb).2.2 i h hs
    rw [e] at e'; cases e'; exact .inl fun vs n q' => by rw [q] at q'; cases q'
  have offT : ∀ h as, Tgt cenv (Str.ofString x) T h → Off h as [T] := fun h as t b hb o e => by
    rw [List.mem_singleton.mp hb] at e
    exact .inl (t.noseq o e)
  have offD : ∀ h as vs, Heap.PlainList h D vs → (∀ a ∈ as, a ≠ D) → Off h as [D] := fun h as vs t hn b hb o e => by
    rw [List.mem_singleton.mp hb] at e ⊢
    obtain ⟨n, t⟩ := t
    rw [t] at e; cases e
    exact .inr ⟨by simp, fun hm => hn D hm rfl⟩
  have offW : ∀ as, (∀ a ∈ as, a ∈ F) → Off s₃.heap as (D :: T :: wr) := fun as ha b hb => by
    rcases List.mem_cons.mp hb with rfl | hb
    · exact offD _ as _ hD (fun a h => (hFo a (ha a h)).1) _ (.head _)
    rcases List.mem_cons.mp hb with rfl | hb
    · exact offT _ as hT _ (.head _)
    · exact offw 0 _ as hst b hb
  refine codeAny_compLoop_tests
    (fun n s' => ∃ (h : Heap) (tk : Nat) (j : Nat) (vs : List Value) (ys : List PyData) (as : List Addr) (zs : List PyData) (dp b' : Bool), s' = { s₃ with heap := h, toks := tk } ∧ St j h ∧ j ≤ ds.length ∧ n = ds.length + 1 - j ∧ h.PlainList D vs.toArray ∧ RA h vs ys as ∧ (∀ y ∈ ys, sz y = true) ∧ ys.length ≤ j ∧
      (∀ a ∈ as, a ≠ D ∧ (P a ∨ s.heap.get? a = none)) ∧ (dp = true → (∀ a ∈ as, s.heap.get? a = none) ∧ as.Nodup) ∧ Tgt cenv (Str.ofString x) T h ∧ (∀ b o, b ∉ D :: T :: wr → s₃.heap.get? b = some o → h.get? b = some o) ∧
      compL f (ds.drop j) = .ok (zs, b') ∧ res = (ys ++ zs, dp && b')) ?_ (ds.length + 1)
    ⟨s₃.heap, s₃.toks, 0, [], [], [], res.1, true, res.2, rfl, hst, Nat.zero_le _, rfl, hD, .nil, fun _ h => (nomatch h), Nat.le_refl _, fun _ h => (nomatch h), fun _ => ⟨fun _ h => (nomatch h), .nil⟩, hT, fun _ _ _ e => e, by simpa using hres, by simp⟩
  rintro n s' ⟨h, tk, j, vs, ys, as, zs, dp, b', rfl, hst', hj, rfl, hD', hra, hys, hyl, has, hdp, hT', hkp, hcl, hrs⟩
  have hDw : D ∉ wr := fun h => (hwo D h).1 rfl
  have hTw : T ∉ wr := fun h => (hwo T h).2.1 rfl
  have hLw : cenv.locals ∉ wr := fun h => (hwo _ h).2.2 rfl
  have kps : ∀ b o, s.heap.get? b = some o → h.get? b = some o := fun b o e => hkp b o (fun hb => by
    rcases List.mem_cons.mp hb with rfl | hb
    · rw [fD] at e; cases e
    rcases List.mem_cons.mp hb with rfl | hb
    · rw [fT] at e; cases e
    · rw [(hwr b hb).1] at e; cases e) (ks b o e)
  by_cases hlt : j < ds.length
  · obtain ⟨d, hd⟩ : ∃ d, ds[j]? = some d := ⟨_, List.getElem?_eq_getElem hlt⟩
    have hdd : ds.drop j = d :: ds.drop (j + 1) := by
      rw [List.drop_eq_getElem_cons hlt]
      rw [List.getElem?_eq_getElem hlt] at hd
      cases hd; rfl
    rw [hdd] at hcl
    obtain ⟨r, q', hf, hq, hcase⟩ := compL_cons hcl
    refine W.item j _ _ _ hlt hst' fun v h₁ tk₁ hPv hst₁ hk₁ => ?_
    have hk₁' : ∀ b o, b ∉ wr → h.get? b = some o → h₁.get? b = some o := hk₁
    refine tgt_store hk (hT'.at (fun o e => hk₁' _ o hTw e) fun o e => hk₁' _ o hLw e) fun h₂ tk₂ hs₂ hT₂ hv₂ => ?_
    have hs₂' : ∀ b o, b ∉ [T] → h₁.get? b = some o → h₂.get? b = some o := fun b o hb e => hs₂.extBut b o (fun q => hb (by simp [q])) e
    have hst₂ : St (j + 1) h₂ := W.frame _ _ _ hst₁ fun b hb o e => hs₂' b o (fun q => by
      rw [List.mem_singleton.mp q] at hb
      rcases hfp _ hb with hb | hb
      · exact hTw hb
      · exact (hFo _ hb).2.1 rfl) e
    have hra₂ : RA h₂ vs ys as := (hra.off (offw j h as hst') hk₁').off (offT h₁ as (hT'.at (fun o e => hk₁' _ o hTw e) fun o e => hk₁' _ o hLw e)) hs₂'
    have hkp₂ : ∀ b o, b ∉ D :: T :: wr → s₃.heap.get? b = some o → h₂.get? b = some o := fun b o hb e => hs₂' b o (fun q => hb (by rw [List.mem_singleton.mp q]; simp)) (hk₁' b o (fun q => hb (by simp [q])) (hkp b o hb e))
    obtain ⟨bs, hrv, hbs⟩ := hPw j v hPv d hd
    have hrv₂ : R h₂ v d bs := hrv.off (offW bs hbs) hkp₂
    have kps₂ : ∀ b o, s.heap.get? b = some o → h₂.get? b = some o := fun b o e => hs₂' b o (fun q => by rw [List.mem_singleton.mp q, fT] at e; cases e) (hk₁' b o (fun q => by rw [(hwr b q).1] at e; cases e) (kps b o e))
    have hD₂ : h₂.PlainList D vs.toArray := (hD'.at fun o e => hk₁' _ o hDw e).at fun o e => hs₂' _ o (by simpa using hDT) e
    have hzd : sz d = true := hsm.2 d (List.mem_of_getElem? hd)
    refine step d r hf hzd (s₄ := { s₃ with heap := h₂, toks := tk₂ }) v bs hv₂ hrv₂ (fun b hb => ⟨hFP b (hbs b hb), (hFo b (hbs b hb)).1⟩) kps₂ (fun hr s₅ k₅ => ?_) fun y hy u s₅ E₅ => ?_
    · subst hr
      obtain ⟨h₅, tk₅, rfl, hk₅⟩ := k₅
      rcases hcase with ⟨_, hcase⟩ | ⟨_, _, hcase, _⟩
      · subst hcase
        refine ⟨ds.length + 1 - (j + 1), by omega, h₅, tk₅, j + 1, vs, ys, as, zs, dp, b', rfl, W.frame _ _ _ hst₂ fun b _ o e => hk₅ b o e, hlt, rfl, hD₂.at fun o e => hk₅ _ o e, hra₂.keep hk₅, hys, by omega, has, hdp, hT₂.at (fun o e => hk₅ _ o e) fun o e => hk₅ _ o e, fun b o hb e => hk₅ b o (hkp₂ b o hb e), hq, hrs⟩
      · cases hcase
    · obtain ⟨⟨h₅, tk₅, rfl, hk₅⟩, bs', hrv₅, hb1, hb2, hb3⟩ := E₅
      dsimp only at hk₅ hrv₅ hb1 hb2 hb3
      rcases hcase with ⟨hcase, _⟩ | ⟨z, m, hcase, hq2⟩
      · rw [hy] at hcase; cases hcase
      · rw [hy] at hcase; cases hcase
        obtain ⟨hrv₅, hz₅⟩ := hrv₅
        have hD₅ : h₅.PlainList D vs.toArray := hD₂.at fun o e => hk₅ _ o e
        have hbD : ∀ a ∈ bs', a ≠ D := fun a ha q => by
          rcases hb1 a ha with h | h
          · exact h.2 q
          · obtain ⟨n, e⟩ := hD₂
            rw [q, e] at h; cases h
        have hra₅ := (hra₂.keep hk₅).append (.cons hrv₅ .nil)
        have hl : vs.length = ys.length := hra.length
        refine wpAny_list_append_plain (hsz := by rw [List.size_toArray, hl]; unfold sizeLine; omega) hD₅ fun h₆ hl₆ hs₆ => ?_
        have hs₆' : ∀ b o, b ∉ [D] → h₅.get? b = some o → h₆.get? b = some o := fun b o hb e => hs₆.extBut b o (fun q => hb (by simp [q])) e
        have hne : ∀ a ∈ as ++ (bs' ++ []), a ≠ D := fun a ha => by
          rcases List.mem_append.mp ha with ha | ha
          · exact (has a ha).1
          · exact hbD a (by simpa using ha)
        cases hq2
        refine ⟨ds.length + 1 - (j + 1), by omega, h₆, tk₅, j + 1, vs ++ [u], ys ++ [z], as ++ (bs' ++ []), q'.1, dp && decide (m = .deep), q'.2, rfl, ?_, hlt, rfl, ?_, hra₅.off (offD h₅ _ _ hD₅ hne) hs₆', ?_, ?_, ?_, ?_, ?_, ?_, ?_, ?_⟩
        · refine W.frame _ _ _ hst₂ fun b hb o e => hs₆' b o (fun q => ?_) (hk₅ b o e)
          rw [List.mem_singleton.mp q] at hb
          rcases hfp _ hb with hb | hb
          · exact hDw hb
          · exact (hFo _ hb).1 rfl
        · simpa using hl₆
        · intro y hy'
          rcases List.mem_append.mp hy' with h | h
          · exact hys y h
          · rw [List.mem_singleton.mp h]; exact hz₅
        · rw [List.length_append, List.length_singleton]; omega
        · intro a ha
          refine ⟨hne a ha, ?_⟩
          rcases List.mem_append.mp ha with ha | ha
          · exact (has a ha).2
          · rcases hb1 a (by simpa using ha) with h | h
            · exact h.1
            · right
              cases e : s.heap.get? a with
              | none => rfl
              | some o => rw [kps₂ a o e] at h; cases h
        · intro hdm
          simp only [Bool.and_eq_true, decide_eq_true_eq] at hdm
          obtain ⟨hd1, hd2⟩ := hdm
          obtain ⟨g1, g2⟩ := hdp hd1
          obtain ⟨g3, g4⟩ := hb3 hd2
          refine ⟨fun a ha => ?_, ?_⟩
          · rcases List.mem_append.mp ha with ha | ha
            · exact g1 a ha
            · have h := g3 a (by simpa using ha)
              cases e : s.heap.get? a with
              | none => rfl
              | some o => rw [kps₂ a o e] at h; cases h
          · rw [List.append_nil, List.nodup_append]
            refine ⟨g2, g4, fun a ha b hb q => ?_⟩
            subst q
            obtain ⟨_, _, e⟩ := hra₂.there a ha
            rw [g3 a hb] at e; cases e
        · exact (hT₂.at (fun o e => hk₅ _ o e) fun o e => hk₅ _ o e).at (fun o e => hs₆' _ o (by simpa using Ne.symm hDT) e) fun o e => hs₆' _ o (by simpa using Ne.symm hDL) e
        · exact fun b o hb e => hs₆' b o (fun q => hb (by rw [List.mem_singleton.mp q]; simp)) (hk₅ b o (hkp₂ b o hb e))
        · exact hq
        · rw [hrs]; simp [Bool.and_assoc]
  · have hjl : j = ds.length := by omega
    subst hjl
    rw [List.drop_length] at hcl
    cases hcl
    refine W.done _ _ _ hst' fun h₁ tk₁ hk₁ => ?_
    have hk₁' : ∀ b o, b ∉ wr → h.get? b = some o → h₁.get? b = some o := hk₁
    have e1 : res = (ys, dp) := by rw [hrs]; simp
    subst e1
    refine hR h₁ tk₁ vs as (hD'.at fun o e => hk₁' _ o hDw e) (hra.off (offw _ h as hst') hk₁') hys (Nat.le_trans hyl hsm.1) has hdp ((hT'.at (fun o e => hk₁' _ o hTw e) fun o e => hk₁' _ o hLw e).1) fun b o e => hk₁' b o (fun q => by rw [(hwr b q).1] at e; cases e) (kps b o e)

end
end Mine

namespace Mine
open PySem PyProof.Rows

section
variable {prog : Program} {w : World} {fns : Fns} {k : Nat} {C : Calls} {XP : String → Shared → Value → Shared → Prop}

theorem fset {ns : List (Str × NameKind)} {it : It} {ex : Expr} (ok : okIt ns it ex = true) (env : Env) (v : Value) : foldedSetIterable ex env v = pure v := by
  cases ex with
  | Set es p =>
    cases it with
    | e a => exfalso; cases a <;> exact Bool.noConfusion (show false = true from ok)
    | r1 n => exact Bool.noConfusion (show false = true from ok)
    | r2 a b => exact Bool.noConfusion (show false = true from ok)
  | _ => rfl

set_option maxHeartbeats 1000000 in
theorem comp_coreG {RR : Value → Addr → Result → Shared → Prop} {f : PyData → Out (Option (V × Mode))} {x : String} {px : Pos} {elt iter : Expr} {ifs : List Expr} {sc : Scope} {pos : Pos} {A : Around} {env : Env} {σ : St} {P : Addr → Prop} {s : Shared} {Er : Value → Shared → Prop}
    {ds : List PyData} {res : List PyData × Bool} (hsc : okSc env.scope.names sc x = true) (X : Cx prog w fns k A P s.heap env σ) (hres : compL f ds = .ok res)
    (step : ∀ d r, f d = .ok r → ∀ {cenv : Env} {s₃ : Shared} {P' : Addr → Prop} {Q₁ : Shared → Prop} {Q₂ : Value → Shared → Prop} {Er' : Value → Shared → Prop}, cenv.scope.names = relN env.scope.names sc.names → Cx prog w fns k A P' s₃.heap cenv (upd σ x (mk (.d d))) →
      (r = none → ∀ s₄, Kp s₃ s₄ → Q₁ s₄) → (∀ y, r = some y → ∀ v s₄, EP prog w P' s₃ y v s₄ → Q₂ v s₄) →
      wpAny (model prog w) A (forIn ifs true fun c r => if r = true then do let ok ← isTrue c cenv (eval c cenv); pure (ForInStep.yield ok) else pure (ForInStep.yield r)) (fun ok s₄ => if ok = true then wpAny (model prog w) A (eval elt cenv) Q₂ Er' s₄ else Q₁ s₄) Er' s₃)
    {m : Mode} {i : Value} {s₂ : Shared} (I : ItP prog w A P s ds m i s₂)
    (hR : ∀ D C h tk m, EP prog w P s (.d (.list res.1), if res.2 then .deep else .top) (.ref D) { s₂ with heap := h, toks := tk } → h.Ns C m → s.heap.get? C = none → RR (.ref D) C (.ok .next) { s₂ with heap := h, toks := tk }) {cl : List (Str × Addr)} (hcl : ∀ n, (n, NameKind.free) ∈ sc.names → cl.lookup n = env.cells.lookup n) :
    wpAny (model prog w) A (newObj (.type "list") (.seq #[]) none) (fun acc s₃ =>
      wpAny (model prog w) A (newFunctionEnv sc env.globals cl [] env.qual none .none (some env)) (fun cenv s₄ =>
        codeAny (model prog w) A (.compStart (.ListComp elt [⟨.Name (Str.ofString x) px, iter, ifs, 0⟩] sc pos) 0 i acc { cenv with scope := relabel sc env }) (RR acc cenv.locals) s₄) Er s₃) Er s₂ := by
  obtain ⟨hk, hnd, htg, hnames⟩ := okSc_iff hsc
  obtain ⟨kp₂, ⟨I, fp, wr, Pw, St, F, rfl, W, hst, hwr, hfp, hPw, hF, hFP, _⟩, hsm⟩ := I
  refine wpAny_newObj_type (newComp fun h₃ eh₃ => ?_)
  have hsz : (s₂.heap.push { cls := .type "list", data := .seq #[] }).objs.size = s₂.heap.objs.size + 1 := Heap.size_push ..
  dsimp only at eh₃ ⊢
  rw [hsz]
  generalize hD : s₂.heap.objs.size = D at *
  obtain ⟨c1, c2, c3⟩ := cells_one (X := Str.ofString x) sc.names ((s₂.heap.push { cls := .type "list", data := .seq #[] }).push { cls := .type "dict", data := .dict #[] }) cl (fun p hp e => by
    rcases hnames p hp with h | h | h | h
    · rw [h.1] at e; cases e
    · rw [h] at e; cases e
    · exact h.2
    · rw [h.1] at e; cases e) hnd
  rw [Heap.size_push, hsz] at c1 c2 c3
  rw [← eh₃] at c2
  have hn₂ : ∀ b o, s₂.heap.get? b = some o → h₃.get? b = some o := fun b o e => by
    rw [eh₃]; exact pushCells_keeps _ _ _ _ (Heap.get?_push_of_some _ (Heap.get?_push_of_some _ e))
  have hD₃ : h₃.PlainList D #[] := ⟨0, by rw [eh₃]; exact pushCells_keeps _ _ _ _ (Heap.get?_push_of_some _ (hD ▸ Heap.get?_push_size _ rfl))⟩
  have hL₃ : h₃.Ns (D + 1) (fun _ => none) := by
    have := Heap.Ns.new (s₂.heap.push { cls := .type "list", data := .seq #[] }) (.type "dict")
    rw [hsz] at this
    rw [eh₃]
    exact this.keeps (pushCells_keeps _ _)
  have old : ∀ b, (∃ o, s₂.heap.get? b = some o) → b < D := fun b ⟨o, e⟩ => hD ▸ Heap.lt_size e
  have fresh' : ∀ b, D ≤ b → s.heap.get? b = none := fun b hb => by
    cases e : s.heap.get? b with
    | none => rfl
    | some o => exact absurd (old b ⟨o, kp₂.get b o e⟩) (Nat.not_lt.mpr hb)
  -- the place of the name
  obtain ⟨T, hT, hTD, hkc⟩ : ∃ T, Tgt { scope := relabel sc env, locals := D + 1, globals := env.globals, cells := cellsFrom (D + 1 + 1) sc.names cl, qual := env.qual, func := none, code := env.code, frame := env.frame, builtins := env.builtins } (Str.ofString x) T h₃ ∧ D + 1 ≤ T ∧
      (sc.names.lookup (Str.ofString x) = some .cell → (cellsFrom (D + 1 + 1) sc.names cl).lookup (Str.ofString x) = some T) := by
    have hkd : (relabel sc env).names.lookup (Str.ofString x) = (sc.names.lookup (Str.ofString x)).map fun kd => if kd == .free && env.scope.names.lookup (Str.ofString x) == some .cell then .cell else kd := by
      rw [relabel_names X.eok.kind]; exact relN_lookup
    rcases htg with ht | ht
    · refine ⟨D + 1, ⟨⟨_, hL₃⟩, .inl ⟨?_, rfl⟩⟩, Nat.le_refl _, fun q => ?_⟩
      · show (relabel sc env).names.lookup _ = _
        rw [hkd, ht]; rfl
      · rw [ht] at q; cases q
    · obtain ⟨c, g1, g2, g3⟩ := c2 ht
      refine ⟨c, ⟨⟨_, hL₃⟩, .inr ⟨?_, g1, ?_, _, g2⟩⟩, Nat.le_of_succ_le g3, fun _ => g1⟩
      · show (relabel sc env).names.lookup _ = _
        rw [hkd, ht]; rfl
      · exact Nat.ne_of_gt g3
  have hst₃ : St 0 h₃ := W.frame _ _ _ hst fun b _ o e => hn₂ b o e
  refine codeAny_compStart_list ?_ ?_
  all_goals
    first
    | (refine W.self 0 _ _ _ hst₃ ?_)
    | skip
  all_goals
    refine comp_loop (s := s) (P := P) (T := T) W hst₃ hk (fun b o e => hn₂ b o (kp₂.get b o e)) hwr hfp (fun i v hv d hd => let ⟨bs, h1, h2⟩ := hPw i v hv d hd; ⟨bs, h1.keep hn₂, h2⟩) hFP (fun b hb => ?_) (fun b hb => ?_) (Nat.ne_of_lt hTD) (Nat.ne_of_lt (Nat.lt_succ_self D)) (fresh' D (Nat.le_refl _)) (fresh' T (Nat.le_of_succ_le hTD)) hsm hres hD₃ hT ?_ ?_
    · obtain ⟨_, _, e⟩ := hF b hb
      have := old b ⟨_, e⟩
      exact ⟨Nat.ne_of_lt this, Nat.ne_of_lt (Nat.lt_of_lt_of_le this (Nat.le_of_succ_le hTD)), Nat.ne_of_lt (Nat.lt_succ_of_lt this)⟩
    · obtain ⟨o, e, _⟩ := (hwr b hb).2.2 0 _ hst
      have := old b ⟨_, e⟩
      exact ⟨Nat.ne_of_lt this, Nat.ne_of_lt (Nat.lt_of_lt_of_le this (Nat.le_of_succ_le hTD)), Nat.ne_of_lt (Nat.lt_succ_of_lt this)⟩
    · intro d r hf hz s₄ Q₁ Q₂ Er' v bs hv hr hbs kps h1 h2
      refine step d r hf (relabel_names X.eok.kind) (comp_cx hsc (relabel_names X.eok.kind) hk rfl rfl (fun n hn => ?_) (fun q => ⟨T, hkc q⟩) X kps hv hr hz hbs fun a ha hex => ⟨.inl ha, fun q => ?_⟩) h1 h2
      · show (cellsFrom (D + 1 + 1) sc.names cl).lookup n = _
        rw [c1 n fun q => ?_, hcl n hn]
        subst q
        have := lookup_mem hnd hn
        rw [this] at htg
        rcases htg with q | q <;> cases q
      · subst q
        obtain ⟨o, e⟩ := hex
        rw [fresh' _ (Nat.le_refl _)] at e; cases e
    · intro h tk vs as hp hra hys hyl has hdp hm hkp
      obtain ⟨m', hm⟩ := hm
      obtain ⟨n, hpl⟩ := hp
      refine hR D (D + 1) h tk m' ?_ hm (fresh' _ (Nat.le_succ D))
      obtain ⟨hh₂, tk₂, rfl, hkk₂⟩ := kp₂
      refine ⟨⟨h, tk, rfl, hkp⟩, D :: as, ⟨.list hpl hra, sz_list.mpr ⟨hyl, hys⟩⟩, ?_, ?_, ?_⟩
      · intro a ha
        rcases List.mem_cons.mp ha with rfl | ha
        · exact .inr (fresh' _ (Nat.le_refl _))
        · exact (has a ha).2
      · exact fun _ => ⟨D, as, rfl, fresh' _ (Nat.le_refl _), fun q => (has D q).1 rfl⟩
      · intro hm'
        dsimp only at hm'
        have hb : res.2 = true := by
          cases e : res.2 with
          | true => rfl
          | false => rw [e] at hm'; cases hm'
        refine ⟨fun a ha => ?_, List.nodup_cons.mpr ⟨fun q => (has D q).1 rfl, (hdp hb).2⟩⟩
        rcases List.mem_cons.mp ha with rfl | ha
        · exact fresh' _ (Nat.le_refl _)
        · exact (hdp hb).1 a ha

/-- the names of a comprehension's block being let go -/
theorem R.sameBut {h h' : Heap} {C : Addr} {m : Str → Option Value} {v : Value} {d : PyData} {as : List Addr} (r : R h v d as) (hm : h.Ns C m) (hs : Heap.SameBut C h h') : R h' v d as := by
  refine r.off (wr := [C]) (fun b hb o e => ?_) fun b o hb e => hs.extBut b o (fun q => hb (by simp [q])) e
  rw [List.mem_singleton.mp hb] at e
  obtain ⟨o', es, ep, e', hd, _⟩ := hm
  rw [e'] at e; cases e
  exact .inl fun vs n q => by rw [hd] at q; cases q
theorem EP.sameBut {P : Addr → Prop} {s s₂ : Shared} {h h' : Heap} {tk : Nat} {C : Addr} {m : Str → Option Value} {d : PyData} {md : Mode} {v : Value} (E : EP prog w P s (.d d, md) v { s₂ with heap := h, toks := tk }) (hm : h.Ns C m) (hC : s.heap.get? C = none) (hs : Heap.SameBut C h h') :
    EP prog w P s (.d d, md) v { s₂ with heap := h', toks := tk } := by
  obtain ⟨⟨hh, tk', e, kp⟩, as, ⟨r, z⟩, r1, r2, r3⟩ := E
  cases s₂; cases s; cases e
  refine ⟨⟨h', tk, rfl, fun b o e => hs.extBut b o (fun q => ?_) (kp b o e)⟩, as, ⟨R.sameBut r hm hs, z⟩, r1, r2, r3⟩
  subst q
  rw [hC] at e; cases e

theorem comp_wrap {x : String} {px : Pos} {elt iter : Expr} {ifs : List Expr} {sc : Scope} {pos : Pos} {A : Around} {env : Env} {σ : St} {P : Addr → Prop} {s : Shared} {Q : Value → Shared → Prop} {Er : Value → Shared → Prop} {h : Heap}
    (hsc : okSc env.scope.names sc x = true) (X : Cx prog w fns k A P h env σ) (hset : ∀ v, foldedSetIterable iter env v = pure v)
    (h : ∀ cl : List (Str × Addr), (∀ n, (n, NameKind.free) ∈ sc.names → cl.lookup n = env.cells.lookup n) → wpAny (model prog w) A (eval iter env) (fun v s₁ => wpAny (model prog w) A (pyIter v) (fun i s₂ => wpAny (model prog w) A (newObj (.type "list") (.seq #[]) none) (fun acc s₃ =>
      wpAny (model prog w) A (newFunctionEnv sc env.globals cl [] env.qual none .none (some env)) (fun cenv s₄ =>
        codeAny (model prog w) A (.compStart (.ListComp elt [⟨.Name (Str.ofString x) px, iter, ifs, 0⟩] sc pos) 0 i acc { cenv with scope := relabel sc env }) (compPost (model prog w) A Er none Q acc cenv.locals) s₄) Er s₃) Er s₂) Er s₁) Er s) :
    wpAny (model prog w) A (eval (.ListComp elt [⟨.Name (Str.ofString x) px, iter, ifs, 0⟩] sc pos) env) Q Er s := by
  obtain ⟨hk, hnd, htg, hnames⟩ := okSc_iff hsc
  obtain ⟨cl, hcl, hclk⟩ := closure_ok (scope := sc) (env := env) (fun p hp e => by
    rcases hnames p hp with h | h | h | h
    · rw [h.1] at e; cases e
    · rw [h] at e; cases e
    · rw [h.1] at e; cases e
    · exact X.eok.cells p.1 h.2)
  rw [eval_ListComp]
  exact wpAny_comprehension_free (use := none) rfl hset hcl hk (fun y hy e => by rw [← e]; exact lookup_mem hnd hy) (h cl hclk)

theorem calm_ne_bad {α : Type} {o : Out α} (h : o.calm ≠ .bad) : ∃ a, o = .ok a := by
  cases o with
  | ok a => exact ⟨a, rfl⟩
  | exc c => exact absurd rfl h
  | bad => exact absurd rfl h

theorem sim_comp {elt : E} {x : String} {it : It} (Si : SimIt prog w fns k C XP it) (Se : SimE prog w fns k C XP elt) : SimE prog w fns k C XP (.comp elt x it) := by
  intro ex A env σ P s Q Er ok X nb hQ hE
  replace ok := i_comp ok
  rcases ok with ⟨_, _, _, _, _, _, rfl, ok⟩ | ok
  · simp only [Bool.and_eq_true, beq_iff_eq] at ok
    obtain ⟨⟨⟨rfl, hsc⟩, oi⟩, oe⟩ := ok
    simp only [ev] at nb hQ hE
    obtain ⟨n1, n2⟩ := bind_ne_bad nb
    refine comp_wrap hsc X (fset oi env) fun cl hcl => Si oi X n1 (fun q hq i s₂ I => ?_) fun c hc => hE c (by rw [hc]; rfl)
    obtain ⟨res, hres⟩ := calm_ne_bad (bind_ne_bad (n2 q hq)).1
    refine comp_coreG (RR := fun acc C => compPost (model prog w) A Er none Q acc C) (ds := q.1) hsc X hres (fun d r hf cenv s₃ P' Q₁ Q₂ Er' hN X' h1 h2 => wpAny_tests_nil ?_) I (fun D C h tk m E hm hC => ⟨m, hm, fun h' hs => hQ _ (by rw [hq, Out.ok_bind, hres]; rfl) _ _ (E.sameBut hm hC hs)⟩) hcl
    rw [if_pos rfl]
    obtain ⟨y, hy, e⟩ := Out.bind_ok hf
    cases e
    refine Se (hN ▸ oe) X' (by rw [hy]; simp) (fun r hr v s' E => h2 r (by rw [hy] at hr; cases hr; rfl) v s' E) fun c hc => by rw [hy] at hc; cases hc
  · cases ok

theorem sim_compif {elt c : E} {x : String} {it : It} (Si : SimIt prog w fns k C XP it) (Se : SimE prog w fns k C XP elt) (Sc : SimT prog w fns k C XP c) : SimE prog w fns k C XP (.compif elt x it c) := by
  intro ex A env σ P s Q Er ok X nb hQ hE
  replace ok := i_compif ok
  rcases ok with ⟨_, _, _, _, _, _, _, rfl, ok⟩ | ok
  · simp only [Bool.and_eq_true, beq_iff_eq] at ok
    obtain ⟨⟨⟨⟨rfl, hsc⟩, oi⟩, oc⟩, oe⟩ := ok
    simp only [ev] at nb hQ hE
    obtain ⟨n1, n2⟩ := bind_ne_bad nb
    refine comp_wrap hsc X (fset oi env) fun cl hcl => Si oi X n1 (fun q hq i s₂ I => ?_) fun c hc => hE c (by rw [hc]; rfl)
    obtain ⟨res, hres⟩ := calm_ne_bad (bind_ne_bad (n2 q hq)).1
    refine comp_coreG (RR := fun acc C => compPost (model prog w) A Er none Q acc C) (ds := q.1) hsc X hres (fun d r hf cenv s₃ P' Q₁ Q₂ Er' hN X' h1 h2 => wpAny_tests_one ?_) I (fun D C h tk m E hm hC => ⟨m, hm, fun h' hs => hQ _ (by rw [hq, Out.ok_bind, hres]; rfl) _ _ (E.sameBut hm hC hs)⟩) hcl
    obtain ⟨t, ht, hf⟩ := Out.bind_ok hf
    obtain ⟨b, hb, hf⟩ := Out.bind_ok hf
    refine Sc (hN ▸ oc) X' (by rw [ht, Out.ok_bind, hb]; simp) (fun b' hb' s₄ k₄ => ?_) fun c hc => by rw [ht] at hc; cases hc
    rw [ht, Out.ok_bind, hb] at hb'
    cases hb'
    cases b with
    | false => cases hf; simpa using h1 rfl s₄ k₄
    | true =>
      rw [if_pos rfl] at hf ⊢
      obtain ⟨y, hy, e⟩ := Out.bind_ok hf
      cases e
      exact Se (hN ▸ oe) (X'.keep k₄.get) (by rw [hy]; simp) (fun r hr v s' E => h2 r (by rw [hy] at hr; cases hr; rfl) v s' (E.after k₄)) fun c hc => by rw [hy] at hc; cases hc
  · cases ok
end
end Mine

namespace Mine
open PySem PyProof.Rows

theorem preSum_take (ns : List Int) : ∀ k, k ≤ ns.length → preSum (fun i => ns[i]?.getD 0) k = (ns.take k).sum
  | 0, _ => by simp [preSum]
  | k + 1, h => by
    rw [preSum, preSum_take ns k (by omega), List.take_add_one, List.sum_append]
    have : ns[k]? = some ns[k] := List.getElem?_eq_getElem (by omega)
    simp [this]
theorem preSum_all (ns : List Int) : preSum (fun i => ns[i]?.getD 0) ns.length = ns.sum := by
  rw [preSum_take ns _ (Nat.le_refl _), List.take_length]

theorem argBest_spec (val : Nat → Int) : ∀ k, argBest (fun i j => decide (val i > val j)) k ≤ k ∧ ∀ j, j ≤ k → val j ≤ val (argBest (fun i j => decide (val i > val j)) k)
  | 0 => ⟨Nat.le_refl _, fun j hj => by have : j = 0 := by omega
                                        subst this; exact Int.le_refl _⟩
  | k + 1 => by
    obtain ⟨h1, h2⟩ := argBest_spec val k
    unfold argBest
    by_cases hc : val (k + 1) > val (argBest (fun i j => decide (val i > val j)) k)
    · rw [if_pos (by simpa using hc)]
      refine ⟨Nat.le_refl _, fun j hj => ?_⟩
      by_cases e : j = k + 1
      · subst e; exact Int.le_refl _
      · have := h2 j (by omega); omega
    · rw [if_neg (by simpa using hc)]
      refine ⟨by omega, fun j hj => ?_⟩
      by_cases e : j = k + 1
      · subst e; omega
      · exact h2 j (by omega)
theorem argBest_maxL {ns : List Int} {m : Int} (h : maxL ns = some m) : ns[argBest (fun i j => decide (ns[i]?.getD 0 > ns[j]?.getD 0)) (ns.length - 1)]?.getD 0 = m := by
  obtain ⟨h1, h2⟩ := argBest_spec (fun i => ns[i]?.getD 0) (ns.length - 1)
  obtain ⟨hm1, hm2⟩ := maxL_spec h
  have hn : 0 < ns.length := List.length_pos_of_mem hm1
  generalize argBest (fun i j => decide (ns[i]?.getD 0 > ns[j]?.getD 0)) (ns.length - 1) = b at *
  have hb : ns[b]? = some ns[b] := List.getElem?_eq_getElem (by omega)
  rw [hb]
  dsimp only [Option.getD_some]
  have le1 := hm2 ns[b] (List.getElem_mem _)
  obtain ⟨j, hj, e⟩ := List.getElem_of_mem hm1
  have le2 := h2 j (by omega)
  rw [hb, List.getElem?_eq_getElem hj, e] at le2
  simp only [Option.getD_some] at le2
  omega

section
variable {prog : Program} {w : World} {fns : Fns} {k : Nat} {C : Calls} {XP : String → Shared → Value → Shared → Prop}
variable {va : Value} {as : List Addr} {A : Around} {P : Addr → Prop} {s : Shared} {Q : Value → Shared → Prop} {Er : Value → Shared → Prop}

theorem ints_at {vs : List Value} {ns : List Int} (h : IntsAre vs ns) : ∀ {i : Nat} {v : Value}, vs[i]? = some v → ∃ t, v = .int (ns[i]?.getD 0) t := by
  induction h with
  | nil => intro i v h; simp at h
  | cons n t _ ih =>
    intro i v h
    cases i with
    | zero => simp at h; exact ⟨t, by simp [← h]⟩
    | succ i => simpa using ih (by simpa using h)

theorem walk_ints {xs : List PyData} {ns : List Int} {G : Value → Shared → Prop} (hh : A.handled = none) (ra : R s.heap va (.list xs) as) (hi : intsOf xs = some ns)
    (hG : ∀ I fp wr Pw St s₂, Walks prog w A I fp wr ns.length Pw St → St 0 s₂.heap → (∀ b ∈ fp, b < s₂.heap.objs.size) → (∀ i v, Pw i v → ∃ t, v = .int (ns[i]?.getD 0) t) → (∀ b ∈ wr, s.heap.get? b = none) → Kp s s₂ → G (.ref I) s₂) :
    wpAny (model prog w) A (pyIter va) G Er s := by
  obtain ⟨a, vs, n, cs, rfl, ea, ra', rfl⟩ := ra.isList
  obtain ⟨hI, rfl, rfl⟩ := ra'.ints hi
  have e : vs.toArray.size = ns.length := by rw [List.size_toArray, ra'.length, List.length_map]
  have W := Walks.list (prog := prog) (w := w) (A := A) hh s.heap.objs.size a (not_new ea) vs.toArray
  rw [e] at W
  refine wpAny_pyIter_list (isL ea) (hG _ _ _ _ _ _ W ⟨⟨_, Heap.get?_push_size _ rfl, rfl, rfl⟩, (isL ea).push _⟩ ?_ ?_ ?_ (.push s _ _))
  · intro b hb
    rw [show _ = s.heap.objs.size + 1 from Heap.size_push ..]
    rcases List.mem_cons.mp hb with rfl | hb
    · exact Nat.lt_succ_self _
    · rw [List.mem_singleton.mp hb]; exact Nat.lt_succ_of_lt (Heap.lt_size ea)
  · intro i v hv
    exact ints_at hI (by simpa using hv)
  · intro b hb
    rw [List.mem_singleton.mp hb]; exact new_none _

theorem Kp.after {s s₂ : Shared} {h' : Heap} {tk : Nat} {wr : List Addr} (kp : Kp s s₂) (hwr : ∀ b ∈ wr, s.heap.get? b = Option.none) (hk : ∀ b o, b ∉ wr → s₂.heap.get? b = some o → h'.get? b = some o) : Kp s { s₂ with heap := h', toks := tk } := by
  obtain ⟨h, t, rfl, k⟩ := kp
  exact ⟨h', tk, rfl, fun b o e => hk b o (fun hb => by rw [hwr b hb] at e; cases e) (k b o e)⟩

theorem sum_step {xs : List PyData} {ns : List Int} (hh : A.handled = none) (ra : R s.heap va (.list xs) as) (hi : intsOf xs = some ns) (hQ : ∀ v s', EP prog w P s (sI ns.sum) v s' → Q v s') : wpAny (model prog w) A (call (.builtin "sum") [va]) Q Er s := by
  refine call_sum_walkG (walk_ints (A := A.in1) hh ra hi fun I fp wr Pw St s₂ W hst hfp hval hwr kp => ⟨I, fp, wr, _, Pw, St, _, rfl, W, hst, hfp, hval, fun h' tk t' hk => ?_⟩)
  rw [preSum_all]
  exact hQ _ _ (.int (kp.after hwr hk))
theorem max_step {xs : List PyData} {ns : List Int} {m : Int} (hh : A.handled = none) (ra : R s.heap va (.list xs) as) (hi : intsOf xs = some ns) (hm : maxL ns = some m) (hQ : ∀ v s', EP prog w P s (sI m) v s' → Q v s') : wpAny (model prog w) A (call (.builtin "max") [va]) Q Er s := by
  refine call_max_walk (walk_ints (A := A.in1) hh ra hi fun I fp wr Pw St s₂ W hst hfp hval hwr kp => ⟨I, fp, wr, _, Pw, St, _, rfl, W, hst, hfp, List.length_pos_of_mem (maxL_spec hm).1, CmpOf.ints_gt _ hval, fun v h' tk hv hk => ?_⟩)
  obtain ⟨t, rfl⟩ := hval _ _ hv
  rw [argBest_maxL hm]
  exact hQ _ _ (.int (kp.after hwr hk))

theorem isi_step {x : PyData} {t : String} {b : Bool} (he : isiV (.d x) t = .ok b) (ra : R s.heap va x as) (hQ : ∀ s', Kp s s' → Q (.bool b) s') : wpAny (model prog w) A (call (.builtin "isinstance") [va, .type t]) Q Er s := by
  have q0 : ∀ c, b = c → Q (.bool c) s := fun c e => e ▸ hQ s (.refl s)
  have q1 : ∀ c, b = c → Q (.bool c) { s with toks := s.toks + 1 } := fun c e => e ▸ hQ _ (.toks s _)
  unfold isiV at he
  dsimp only at he
  split at he
  · subst t
    cases ra with
    | none => cases he; exact IsiPair.NoneType_int (q1 _ rfl)
    | bool c => cases he; exact IsiPair.bool_int (q0 _ rfl)
    | int i u => cases he; exact IsiPair.int_int (q0 _ rfl)
    | str y u => cases he; exact IsiPair.str_int (q1 _ rfl)
    | list e r => cases he; exact IsiPair.list_int e rfl (q1 _ rfl)
    | tuple e r => cases he; exact IsiPair.tuple_int e rfl (q1 _ rfl)
  split at he
  · subst t
    cases ra with
    | none => cases he; exact IsiPair.NoneType_bool (q1 _ rfl)
    | bool c => cases he; exact IsiPair.bool_bool (q0 _ rfl)
    | int i u => cases he; exact IsiPair.int_bool (q1 _ rfl)
    | str y u => cases he; exact IsiPair.str_bool (q1 _ rfl)
    | list e r => cases he; exact IsiPair.list_bool e rfl (q1 _ rfl)
    | tuple e r => cases he; exact IsiPair.tuple_bool e rfl (q1 _ rfl)
  split at he
  · subst t
    cases ra with
    | none => cases he; exact IsiPair.NoneType_list (q1 _ rfl)
    | bool c => cases he; exact IsiPair.bool_list (q1 _ rfl)
    | int i u => cases he; exact IsiPair.int_list (q1 _ rfl)
    | str y u => cases he; exact IsiPair.str_list (q1 _ rfl)
    | list e r => cases he; exact IsiPair.list_list e rfl (q0 _ rfl)
    | tuple e r => cases he; exact IsiPair.tuple_list e rfl (q1 _ rfl)
  split at he
  · subst t
    cases ra with
    | none => cases he; exact IsiPair.NoneType_tuple (q1 _ rfl)
    | bool c => cases he; exact IsiPair.bool_tuple (q1 _ rfl)
    | int i u => cases he; exact IsiPair.int_tuple (q1 _ rfl)
    | str y u => cases he; exact IsiPair.str_tuple (q1 _ rfl)
    | list e r => cases he; exact IsiPair.list_tuple e rfl (q1 _ rfl)
    | tuple e r => cases he; exact IsiPair.tuple_tuple e rfl (q0 _ rfl)
  split at he
  · subst t
    cases ra with
    | none => cases he; exact IsiPair.NoneType_str (q1 _ rfl)
    | bool c => cases he; exact IsiPair.bool_str (q1 _ rfl)
    | int i u => cases he; exact IsiPair.int_str (q1 _ rfl)
    | str y u => cases he; exact IsiPair.str_str (q0 _ rfl)
    | list e r => cases he; exact IsiPair.list_str e rfl (q1 _ rfl)
    | tuple e r => cases he; exact IsiPair.tuple_str e rfl (q1 _ rfl)
  · cases he

theorem two_walk {a b : Int} {t u : Tok} {G : Value → Shared → Prop} (hh : A.handled = none)
    (hG : ∀ I fp wr Pw St s₂, Walks prog w A I fp wr 2 Pw St → St 0 s₂.heap → (∀ b ∈ fp, b < s₂.heap.objs.size) → (∀ i v, Pw i v → ∃ t, v = .int ([a, b][i]?.getD 0) t) → (∀ b ∈ wr, s.heap.get? b = none) → Kp s s₂ → G (.ref I) s₂) :
    wpAny (model prog w) A (pyIter (.ref s.heap.objs.size)) G Er { s with heap := s.heap.push { cls := .type "tuple", data := .seq #[.int a t, .int b u] } } := by
  have ht : (s.heap.push { cls := .type "tuple", data := .seq #[.int a t, .int b u] }).IsTuple s.heap.objs.size #[.int a t, .int b u] := ⟨_, Heap.get?_push_size _ rfl, rfl, 0, rfl⟩
  have hsz : (s.heap.push { cls := .type "tuple", data := .seq #[.int a t, .int b u] }).objs.size = s.heap.objs.size + 1 := Heap.size_push ..
  have W := Walks.tuple (prog := prog) (w := w) (A := A) hh (s.heap.objs.size + 1) s.heap.objs.size (Nat.ne_of_lt (Nat.lt_succ_self _)) #[.int a t, .int b u]
  refine wpAny_pyIter_tuple ht ?_
  dsimp only
  rw [hsz]
  refine hG _ _ _ _ _ _ W ⟨⟨{ cls := .type "tuple_iterator", data := .fields #[.ref s.heap.objs.size, .int 0 0] }, ?_, rfl, rfl⟩, ht.push _⟩ ?_ ?_ ?_ ?_
  · exact hsz ▸ Heap.get?_push_size _ rfl
  · intro b hb
    dsimp only
    rw [Heap.size_push, hsz]
    rcases List.mem_cons.mp hb with rfl | hb
    · exact Nat.lt_succ_self _
    · rw [List.mem_singleton.mp hb]; exact Nat.lt_succ_of_lt (Nat.lt_succ_self _)
  · intro i v hv
    match i, hv with
    | 0, hv => simp at hv; exact ⟨t, by simp [← hv]⟩
    | 1, hv => simp at hv; exact ⟨u, by simp [← hv]⟩
    | i + 2, hv => simp at hv
  · intro b hb
    rw [List.mem_singleton.mp hb]; exact Heap.get?_none_of_le (Nat.le_succ _)
  · exact (Kp.push s _ s.toks).trans (Kp.push _ _ s.toks)

theorem b2_step {f : B2} {a b : Int} {t u : Tok} {r : V × Mode} (hh : A.handled = none) (he : b2V f (.d (.int a)) (.d (.int b)) = .ok r) (hQ : ∀ v s', EP prog w P s r v s' → Q v s') : wpAny (model prog w) A (call (.builtin (b2n f)) [.int a t, .int b u]) Q Er s := by
  cases f with
  | max =>
    cases he
    refine call_max_two (two_walk (A := A.in1) hh fun I fp wr Pw St s₂ W hst hfp hval hwr kp => ⟨I, fp, wr, 2, Pw, St, _, rfl, W, hst, hfp, by omega, CmpOf.ints_gt _ hval, fun v h' tk hv hk => ?_⟩)
    obtain ⟨t, rfl⟩ := hval _ _ hv
    have e : ([a, b][argBest (fun i j => decide ([a, b][i]?.getD 0 > [a, b][j]?.getD 0)) (2 - 1)]?.getD 0) = if a < b then b else a := by
      simp only [argBest, Nat.add_one_sub_one]
      by_cases hc : a < b
      · simp [hc]
      · simp [hc]
    rw [e]
    exact hQ _ _ (.int (kp.after hwr hk))
  | min =>
    cases he
    refine call_min_two (two_walk (A := A.in1) hh fun I fp wr Pw St s₂ W hst hfp hval hwr kp => ⟨I, fp, wr, 2, Pw, St, _, rfl, W, hst, hfp, by omega, CmpOf.ints_lt _ hval, fun v h' tk hv hk => ?_⟩)
    obtain ⟨t, rfl⟩ := hval _ _ hv
    have e : ([a, b][argBest (fun i j => decide ([a, b][i]?.getD 0 < [a, b][j]?.getD 0)) (2 - 1)]?.getD 0) = if b < a then b else a := by
      simp only [argBest, Nat.add_one_sub_one]
      by_cases hc : b < a
      · simp [hc]
      · simp [hc]
    rw [e]
    exact hQ _ _ (.int (kp.after hwr hk))
end
end Mine

namespace Mine
open PySem PyProof.Rows

section
variable (prog : Program) (w : World) (fns : Fns) (k : Nat) (C : Calls) (XP : String → Shared → Value → Shared → Prop)
/-- the own functions answer as the evaluator says -/
noncomputable def CallOK : Prop := ∀ f g, C f = some g → ∃ p, fns.fn f = some p ∧ ∀ {A : Around} {P : Addr → Prop} {s : Shared} {Q : Value → Shared → Prop} {Er : Value → Shared → Prop} {xs : List V} {vals : List Value} {as : List Addr},
  Room k A → GE fns s.heap → RVs prog w s.heap xs vals as → (∀ a ∈ as, P a) → g xs ≠ .bad → (∀ r, g xs = .ok r → ∀ v s', EP prog w P s r v s' → Q v s') → (∀ c, g xs = .exc c → ∀ x s', XP c s x s' → Er x s') →
  wpAny (model prog w) A (call (.ref p.1) vals []) Q Er s
end

section
variable {prog : Program} {w : World} {fns : Fns} {k : Nat} {C : Calls} {XP : String → Shared → Value → Shared → Prop}

theorem b1V_exc {f : B1} {x : V} {c : String} : b1V f x ≠ .exc c := b1V_ne c

theorem fresh_ints (ns : List Int) : fresh (ns.map .int) = .deep := by
  unfold fresh
  rw [if_pos]
  rw [List.all_map, List.all_eq_true]
  intro _ _; rfl

theorem b1_list' {β : Type} {v : V} {f : List PyData → Out β} {r : β} (h : (optO (asD v) fun x => optO (asL x) f) = .ok r) : ∃ xs, v = .d (.list xs) ∧ f xs = .ok r := by
  obtain ⟨x, h1, h⟩ := optO_ok h
  obtain ⟨xs, h2, h⟩ := optO_ok h
  exact ⟨xs, by rw [asD_inv h1, asL_inv h2], h⟩
theorem b1_step {f : B1} {x : V} {r : V × Mode} {va : Value} {as : List Addr} {A : Around} {P : Addr → Prop} {s : Shared} {Q : Value → Shared → Prop} {Er : Value → Shared → Prop} (hh : A.handled = none) (he : b1V f x = .ok r) (ra : RV prog w s.heap va x as) (ha : ∀ a ∈ as, P a)
    (hQ : ∀ v s', EP prog w P s r v s' → Q v s') : wpAny (model prog w) A (call (bval (b1n f)) [va]) Q Er s := by
  cases f with
  | len => exact len_step he ra hQ
  | list =>
    replace he := optO_ok he
    obtain ⟨y, hy, he⟩ := he
    cases asD_inv hy
    cases ht : asT y with
    | none =>
      simp only [ht] at he
      replace he := optO_ok he
      obtain ⟨xs, hx, he⟩ := he
      cases asL_inv hx
      cases he
      obtain ⟨a, vs, n, cs, rfl, ea, ra', rfl⟩ := ra.1.isList
      have hz := sz_list.mp ra.2
      exact copy_step (.inl rfl) ea ra' hz.1 hz.2 (fun b hb => ha b (.tail _ hb)) hQ
    | some xs =>
      simp only [ht] at he
      cases he
      cases asT_inv ht
      obtain ⟨a, vs, n, rfl, ea, ra'⟩ := ra.1.isTup
      have hz := sz_tuple.mp ra.2
      exact copy_step (.inr rfl) ea ra' hz.1 hz.2 ha hQ
  | tuple =>
    replace he := b1_list' he
    obtain ⟨xs, rfl, he⟩ := he
    cases he
    exact tup_step ra.1 ra.2 ha hQ
  | sorted =>
    replace he := b1_list' he
    obtain ⟨xs, rfl, he⟩ := he
    unfold sortedV at he
    split at he
    · replace he := optO_ok he
      obtain ⟨ns, hn, he⟩ := he
      cases he
      exact sortI_step ra.1 hn (by assumption) hQ
    · cases he
  | max =>
    replace he := b1_list' he
    obtain ⟨xs, rfl, he⟩ := he
    replace he := optO_ok he
    obtain ⟨i, hi, he⟩ := he
    obtain ⟨ns, hi1, hi2⟩ := Option.bind_eq_some_iff.mp hi
    cases he
    exact max_step hh ra.1 hi1 hi2 hQ
  | sum =>
    replace he := b1_list' he
    obtain ⟨xs, rfl, he⟩ := he
    replace he := optO_ok he
    obtain ⟨ns, hn, he⟩ := he
    cases he
    exact sum_step hh ra.1 hn hQ

theorem b1_mem (f : B1) : b1n f ∈ bnames := by cases f <;> decide
theorem b2_mem (f : B2) : b2n f ∈ bnames := by cases f <;> decide
theorem b1_nd (f : B1) : (Str.ofString (b1n f) == ("__debug__" : Str)) = false := by cases f <;> decide
theorem b2_nd (f : B2) : (Str.ofString (b2n f) == ("__debug__" : Str)) = false := by cases f <;> decide

theorem sim_bi1 {f : B1} {a : E} (Sa : SimE prog w fns k C XP a) : SimE prog w fns k C XP (.bi1 f a) := by
  intro ex A env σ P s Q Er ok X nb hQ hE
  replace ok := i_bi1 ok
  rcases ok with ⟨_, _, _, _, rfl, ok⟩ | ok
  · simp only [Bool.and_eq_true, beq_iff_eq] at ok
    obtain ⟨⟨rfl, hg⟩, oa⟩ := ok
    simp only [ev] at nb hQ hE
    obtain ⟨n1, n2⟩ := bind_ne_bad nb
    have fin : ∀ {B : Value}, B = bval (b1n f) → ∀ {pos : Pos}, wpAny (model prog w) A (spliced (backTo pos (starEach [_] env))) (fun vs s₁ => wpAny (model prog w) A (call B vs) Q Er s₁) Er s := fun {B} hB {pos} => by
      subst hB
      refine wp_one _ oa (Sa oa X n1 (fun r hr v s₁ Ea => ?_) fun c hc => hE c (by rw [hc]; rfl))
      have n3 := n2 r hr
      cases h : b1V f r.1 with
      | bad => exact absurd h n3
      | exc c => exact absurd h b1V_exc
      | ok q =>
        obtain ⟨ka, as, ra, ha, _⟩ := Ea
        exact b1_step (P := fun a => P a ∨ s.heap.get? a = none) X.room.1 h ra ha fun v s' E => hQ q (by rw [hr]; exact h) v s' (E.shift ka)
    refine wp_callN X.eok X.ge (b1_mem f) hg (b1_nd f) ?_
    cases f with
    | list => exact wp_callT (T := "list") _ oa rfl (fin rfl)
    | tuple => exact wp_callT (T := "tuple") _ oa rfl (fin rfl)
    | _ => exact wp_callB _ oa rfl (fin rfl)
  · cases ok

theorem b2V_exc {f : B2} {x y : V} {c : String} : b2V f x y ≠ .exc c := b2V_ne c

theorem sim_bi2 (hXP : ∀ c s s₁ x s', Kp s s₁ → XP c s₁ x s' → XP c s x s') {f : B2} {a b : E} (Sa : SimE prog w fns k C XP a) (Sb : SimE prog w fns k C XP b) : SimE prog w fns k C XP (.bi2 f a b) := by
  intro ex A env σ P s Q Er ok X nb hQ hE
  replace ok := i_bi2 ok
  rcases ok with ⟨_, _, _, _, _, rfl, ok⟩ | ok
  · simp only [Bool.and_eq_true, beq_iff_eq] at ok
    obtain ⟨⟨⟨rfl, hg⟩, oa⟩, ob⟩ := ok
    simp only [ev] at nb hQ hE
    have e : bval (b2n f) = .builtin (b2n f) := by cases f <;> rfl
    refine wp_callN X.eok X.ge (b2_mem f) hg (b2_nd f) ?_
    rw [e]
    refine wp_callB _ oa (by rw [star_plain ob]; rfl) (wpAny_items_cons ?_ (star_plain oa _ env))
    refine wpAny_mono (sim2s hXP (f := b2V f) (G := fun va vb s₂ => wpAny (model prog w) A (call (.builtin (b2n f)) [va, vb]) Q Er s₂) Sa Sb oa ob X nb hE (fun _ _ _ => b2V_exc) fun x y r he hf va vb s₂ as bs kp ra rb ha hb => ?_) (fun va s₁ h => wp_one _ ob h) fun _ _ e => e
    obtain ⟨x, y, rfl, rfl, h1⟩ := d2_ok hf
    obtain ⟨i, j, rfl, rfl, _⟩ := i2_ok h1
    obtain ⟨_, rfl, rfl⟩ := ra.1.isInt
    obtain ⟨_, rfl, rfl⟩ := rb.1.isInt
    exact b2_step (P := fun a => P a ∨ s.heap.get? a = none) X.room.1 hf fun v s' E => hQ r he v s' (E.shift kp)
  · cases ok

theorem star_call {f : Expr} {xs : List Expr} {ks : List Keyword} {p : Pos} (ys : List Expr) (env : Env) : starEach (.Call f xs ks p :: ys) env = (false, eval (.Call f xs ks p) env) :: starEach ys env := rfl

theorem rangeL_ints (n : Int) : ∀ {vs : Array Value} {m : Nat}, ItemsOf (fun i v => ∃ t, v = Value.int (0 + (i : Nat) * 1) t) vs m → ∀ h : Heap, RA h vs.toList ((List.range m).map fun (k : Nat) => PyData.int (0 + k)) [] := by
  intro vs m hi h
  obtain ⟨hs, hv⟩ := hi
  have hI : IntsAre vs.toList ((List.range m).map fun (k : Nat) => (0 + (k : Int))) := by
    have key : ∀ (l : List Value) (b : Nat), (∀ (j : Nat) (v : Value), l[j]? = some v → ∃ t, v = Value.int ((b + j : Nat) : Int) t) → IntsAre l ((List.range' b l.length).map fun (k : Nat) => (k : Int)) := by
      intro l
      induction l with
      | nil => intro b _; exact .nil
      | cons v l ih =>
        intro b hb
        obtain ⟨t, ht⟩ := hb 0 v rfl
        rw [List.length_cons, List.range'_succ, List.map_cons]
        rw [ht]
        refine .cons _ _ (ih (b + 1) fun j u hj => ?_)
        obtain ⟨t', ht'⟩ := hb (j + 1) u (by simpa using hj)
        exact ⟨t', by rw [ht']; congr 1; omega⟩
    have := key vs.toList 0 fun j v hj => by
      obtain ⟨t, ht⟩ := hv j v (by simpa using hj)
      exact ⟨t, by rw [ht]; congr 1; simp⟩
    rw [show vs.toList.length = m by simpa using hs] at this
    simpa [List.range_eq_range'] using this
  have := RA.of_ints (h := h) hI
  rw [List.map_map] at this
  exact this

theorem sim_listR {n : E} (Sn : SimE prog w fns k C XP n) : SimE prog w fns k C XP (.listR n) := by
  intro ex A env σ P s Q Er ok X nb hQ hE
  replace ok := i_listR ok
  rcases ok with ⟨_, _, _, _, _, _, _, rfl, ok⟩ | ok
  · simp only [Bool.and_eq_true, beq_iff_eq] at ok
    obtain ⟨⟨⟨⟨rfl, hg⟩, rfl⟩, hg'⟩, on⟩ := ok
    simp only [ev] at nb hQ hE
    obtain ⟨n1, n2⟩ := bind_ne_bad nb
    refine wp_callN X.eok X.ge (id := "list") (by decide) hg (by decide) ?_
    have bridge : ∀ {pos : Pos} {f : Expr} {xs : List Expr} {p : Pos}, wpAny (model prog w) A (spliced (backTo pos (starEach [.Call f xs [] p] env))) (fun vs s₁ => wpAny (model prog w) A (call (.type "list") vs) Q Er s₁) Er s →
        wpAny (model prog w) A (callWith pos (.type "list") [] (backTo pos (starEach [.Call f xs [] p] env)) []) Q Er s := fun h => by
      rw [star_call] at h ⊢
      exact PySem.callWith_type rfl (Calls.evalArgs_plain (wpAny_mono h (fun vs s₁ h₁ => h₁) fun _ _ e => e))
    refine bridge (wpAny_items_cons ?_ (star_call [] env))
    refine wp_callN X.eok X.ge (id := "range") (by decide) hg' (by decide) (wp_callT (T := "range") _ on rfl (wp_one _ on (Sn on X n1 (fun r hr v s₁ Ea => ?_) fun c hc => hE c (by rw [hc]; rfl))))
    have n3 := n2 r hr
    obtain ⟨x, m⟩ := r
    obtain ⟨ka, as, ra, hx1, hx2, hx3⟩ := Ea
    clear hx1 hx2 hx3
    dsimp only at n3 ra
    split at n3
    · rename_i i
      cases hq : rangeV 0 i with
      | bad => rw [hq] at n3; exact absurd rfl n3
      | exc c => exact absurd hq rangeV_exc
      | ok q =>
        obtain ⟨rfl, h1, h2⟩ := rangeV_ok hq
        obtain ⟨_, rfl, rfl⟩ := ra.1.isInt
        refine call_range_1 (wpAny_items_nil ?_)
        have hsz : Builtin.Range.rangeSize 0 i 1 = ((i - 0).toNat : Int) := by rw [rangeSize_one]; split <;> omega
        unfold lim at h1
        refine call_list_range X.room.1 (IsRange.new ..) (small_one (by omega) (by omega) (by omega) (by omega)) hsz (by omega) fun h' tk acc' c' kp hn hI => ?_
        refine hQ (.d (.list (rangeL 0 i)), .deep) (by rw [hr, Out.ok_bind]; dsimp only; rw [hq]; rfl) _ _ ?_
        have kp' : Kp s₁ { s₁ with heap := h', toks := tk } := ⟨h', tk, rfl, fun b o e => kp b o (Heap.get?_push_of_some _ e)⟩
        have ef : fresh (rangeL 0 i) = .deep := by
          unfold fresh
          rw [if_pos]
          unfold rangeL
          rw [List.all_map, List.all_eq_true]
          intro _ _; rfl
        rw [← ef]
        refine EP.aList (vs := acc'.toList) (n := c') (as := []) (ka.trans kp') (ka.none (Heap.get?_none_of_le ?_)) hn (rangeL_ints i hI h') (by rw [rangeL_length]; omega) (rangeL_sz 0 i) fun _ h => (nomatch h)
        rw [Heap.size_push]; exact Nat.le_succ _
    · exact absurd rfl n3
  · cases ok

theorem isiV_exc {x : V} {t c : String} : isiV x t ≠ .exc c := by
  unfold isiV
  split
  · repeat' split
    all_goals simp
  · simp
theorem isi_name {x : V} {t : String} {b : Bool} (h : isiV x t = .ok b) : t ∈ bnames ∧ bval t = .type t := by
  unfold isiV at h
  split at h
  · split at h
    · subst t; exact ⟨by decide, rfl⟩
    split at h
    · subst t; exact ⟨by decide, rfl⟩
    split at h
    · subst t; exact ⟨by decide, rfl⟩
    split at h
    · subst t; exact ⟨by decide, rfl⟩
    split at h
    · subst t; exact ⟨by decide, rfl⟩
    · cases h
  · cases h

theorem star_name {id : Str} {p : Pos} (xs : List Expr) (env : Env) : starEach (.Name id p :: xs) env = (false, eval (.Name id p) env) :: starEach xs env := rfl

theorem sim_isi {a : E} {t : String} (Sa : SimE prog w fns k C XP a) : SimE prog w fns k C XP (.isi a t) := by
  intro ex A env σ P s Q Er ok X nb hQ hE
  replace ok := i_isi ok
  rcases ok with ⟨_, _, _, _, _, _, rfl, ok⟩ | ok
  · simp only [Bool.and_eq_true, beq_iff_eq] at ok
    obtain ⟨⟨⟨⟨⟨rfl, hg⟩, oa⟩, rfl⟩, hgt⟩, hdt⟩ := ok
    simp only [ev] at nb hQ hE
    obtain ⟨n1, n2⟩ := bind_ne_bad nb
    refine wp_callN X.eok X.ge (id := "isinstance") (by decide) hg (by decide) (wp_callB (id := "isinstance") _ oa rfl (wpAny_items_cons ?_ (star_plain oa _ env)))
    refine Sa oa X n1 (fun x hx va s₁ Ea => ?_) fun c hc => hE c (by rw [hc]; rfl)
    cases h : isiV x.1 t with
    | bad => exact absurd h (bind_ne_bad (n2 x hx)).1
    | exc c => exact absurd h isiV_exc
    | ok b =>
      obtain ⟨hm, hb⟩ := isi_name h
      have ge := X.ge.keep Ea.keeps.get
      obtain ⟨mg, g1, _, g3⟩ := ge.glob
      obtain ⟨mb, b1, b2⟩ := ge.blt
      refine wpAny_items_cons ?_ (star_name [] env)
      refine Calls.Name_function_global X.eok.kind (kind_glb hgt) (Calls.loadGlobal_builtin (X.eok.glob ▸ g1) (g3 t hm) (X.eok.blt ▸ b1) (b2 t hm) ?_) (nd hdt)
      refine wpAny_items_nil ?_
      obtain ⟨x, m⟩ := x
      obtain ⟨ka, as, ra, ha, _⟩ := Ea
      dsimp only at h ra
      cases x with
      | d x =>
        rw [hb]
        exact isi_step h ra.1 fun s' kp => hQ (sB b) (by rw [hx, Out.ok_bind]; dsimp only; rw [h]; rfl) _ _ (.bool (ka.trans kp))
      | _ => simp [isiV] at h
  · cases ok

theorem sim_attr {a : E} {n : String} : SimE prog w fns k C XP (.attr a n) := by
  intro ex A env σ P s Q Er ok X nb hQ hE
  exact Bool.noConfusion (show false = true from ok)
theorem sim_meth {a : E} {n : String} {es : Es} : SimE prog w fns k C XP (.meth a n es) := by
  intro ex A env σ P s Q Er ok X nb hQ hE
  exact Bool.noConfusion (show false = true from ok)

theorem sim_call (hC : CallOK prog w fns k C XP) (hXP : ∀ c s s₁ x s', Kp s s₁ → XP c s₁ x s' → XP c s x s') {f : String} {es : Es} (Ss : SimEs prog w fns k C XP es) : SimE prog w fns k C XP (.call f es) := by
  intro ex A env σ P s Q Er ok X nb hQ hE
  replace ok := i_call ok
  rcases ok with ⟨_, _, _, _, rfl, ok⟩ | ok
  · rename_i id p0 xs pos
    simp only [Bool.and_eq_true, beq_iff_eq] at ok
    obtain ⟨⟨⟨⟨⟨rfl, hg⟩, hd⟩, hne⟩, hl⟩, oes⟩ := ok
    simp only [ev] at nb hQ hE
    split at nb
    · rename_i g hCf
      rw [hCf] at hQ hE
      dsimp only at hQ hE
      obtain ⟨n1, n2⟩ := bind_ne_bad nb
      obtain ⟨q, hq, hcall⟩ := hC f g hCf
      obtain ⟨mg, g1, g2, _⟩ := X.ge.glob
      refine wpAny_Call_NameR (Calls.Name_function_global X.eok.kind (kind_glb hg) (Calls.loadGlobal_global (X.eok.glob ▸ g1) (g2 f q hq) ?_) (nd hd))
      obtain ⟨o, fd, ho, hfd, _⟩ := X.ge.funs f q hq
      refine Calls.callWith_function (o := o) (fd := fd) ?_
      cases xs with
      | nil => simp at hne
      | cons y ys =>
        cases es with
        | nil => exact Bool.noConfusion (show false = true from oes)
        | cons e es =>
          have oy : okE env.scope.names e y = true := by
            exact (Bool.and_eq_true_iff.mp (show (okE env.scope.names e y && okEs env.scope.names es ys) = true from oes)).1
          have hS := Ss (pos := pos) (A := A) (P := P) (s := s) (Er := Er) (Q := fun vs s₁ => (s₁.heap.get? q.1 = some o ∧ o.data = .func fd) ∧ wpAny (model prog w) A (call (.ref q.1) ([] ++ vs) []) Q Er s₁) oes X n1 (fun l hl vs s₁ Es => ?_) fun c hc => hE c (by rw [hc]; rfl)
          · rw [star_plain oy] at hS ⊢
            exact Calls.evalArgs_plain hS
          · obtain ⟨ks, as, rs, ha, _⟩ := Es
            refine ⟨⟨ks.get _ _ ho, hfd⟩, ?_⟩
            rw [List.nil_append]
            exact hcall (P := fun a => P a ∨ s.heap.get? a = none) X.room (X.ge.keep ks.get) rs ha (n2 l hl) (fun r hr v s' E => hQ r (by rw [hl]; exact hr) v s' (E.shift ks)) fun c hc z s' hz => hE c (by rw [hl]; exact hc) z s' (hXP c s s₁ z s' ks hz)
    · exact absurd rfl nb
  · cases ok
/-! ## all expressions -/
noncomputable def plainX : Expr → Bool
  | .UnaryOp .Not _ _ => false
  | .BoolOp _ _ _ => false
  | .IfExp _ _ _ _ => false
  | .Compare _ _ _ _ => false
  | _ => true
theorem isTrue_plain {ex : Expr} (h : plainX ex = true) (env : Env) (t : Sem Value) : isTrue ex env t = (do let v ← t; standAt ex.pos; holding [v] (truthy v)) := by
  cases ex with
  | UnaryOp op x p => cases op <;> first | rfl | cases h
  | _ => first | rfl | cases h
noncomputable def plainE : E → Bool
  | .not _ | .cmp _ _ _ | .and _ _ | .or _ _ => false
  | _ => true
theorem plain_ok {ns : List (Str × NameKind)} {e : E} {ex : Expr} (hp : plainE e = true) (h : okE ns e ex = true) : plainX ex = true := by
  cases ex with
  | UnaryOp op x p =>
    cases e with
    | not _ => cases hp
    | neg a =>
      rcases i_neg h with ⟨_, _, q, _⟩ | q
      · cases q; rfl
      · cases q
    | _ => exact Bool.noConfusion (show false = true from h)
  | BoolOp _ _ _ =>
    cases e with
    | and _ _ => cases hp
    | or _ _ => cases hp
    | _ => exact Bool.noConfusion (show false = true from h)
  | Compare _ _ _ _ =>
    cases e with
    | cmp _ _ _ => cases hp
    | _ => exact Bool.noConfusion (show false = true from h)
  | IfExp _ _ _ _ => cases e <;> exact Bool.noConfusion (show false = true from h)
  | _ => rfl

variable (prog w fns k C XP)
structure SimAll (ee : E) : Prop where
  e : SimE prog w fns k C XP ee
  t : SimT prog w fns k C XP ee
  a : SimA prog w fns k C XP ee
  o : SimO prog w fns k C XP ee
  ta : SimTA prog w fns k C XP ee
  to : SimTO prog w fns k C XP ee
variable {prog w fns k C XP}

noncomputable def notAnd : E → Bool
  | .and _ _ => false
  | _ => true
noncomputable def notOr : E → Bool
  | .or _ _ => false
  | _ => true
theorem okA_false {ns : List (Str × NameKind)} {e : E} {vs : List Expr} (h : notAnd e = true) : okA ns e vs = false := by cases e <;> first | rfl | cases h
theorem okO_false {ns : List (Str × NameKind)} {e : E} {vs : List Expr} (h : notOr e = true) : okO ns e vs = false := by cases e <;> first | rfl | cases h

theorem SimAll.ofET {e : E} (S : SimE prog w fns k C XP e) (T : SimT prog w fns k C XP e) (ha : notAnd e = true) (ho : notOr e = true) : SimAll prog w fns k C XP e where
  e := S
  t := T
  a := simA_one S fun ok => by rw [okA_false ha] at ok; cases ok
  o := simO_one S fun ok => by rw [okO_false ho] at ok; cases ok
  ta := simTA_one T fun ok => by rw [okA_false ha] at ok; cases ok
  to := simTO_one T fun ok => by rw [okO_false ho] at ok; cases ok
theorem SimAll.ofE {e : E} (S : SimE prog w fns k C XP e) (hp : plainE e = true) (ha : notAnd e = true) (ho : notOr e = true) : SimAll prog w fns k C XP e :=
  .ofET S (simT_plain S fun _ _ env t ok => isTrue_plain (plain_ok hp ok) env t) ha ho

section
variable (hC : CallOK prog w fns k C XP) (hXP : ∀ c s s₁ x s', Kp s s₁ → XP c s₁ x s' → XP c s x s')
include hC hXP
mutual
theorem simAll : ∀ e : E, SimAll prog w fns k C XP e
  | .name x => .ofE (sim_name x) rfl rfl rfl
  | .int i => .ofE (sim_int i) rfl rfl rfl
  | .str s => .ofE (sim_str s) rfl rfl rfl
  | .bool b => .ofE (sim_bool b) rfl rfl rfl
  | .none => .ofE sim_none rfl rfl rfl
  | .bin o a b => .ofE (sim_bin hXP (simAll a).e (simAll b).e) rfl rfl rfl
  | .neg a => .ofE (sim_neg (simAll a).e) rfl rfl rfl
  | .not a => .ofET (sim_not (simAll a).e) (simT_not (simAll a).t) rfl rfl
  | .cmp o a b => .ofET (sim_cmp hXP (simAll a).e (simAll b).e) (simT_cmp hXP (simAll a).e (simAll b).e) rfl rfl
  | .and a b =>
    have Sa := simAll a
    have Sb := simAll b
    have S : SimE prog w fns k C XP (.and a b) := sim_and hXP Sa.e Sb.a
    have T : SimT prog w fns k C XP (.and a b) := simT_and hXP Sa.t Sb.ta
    { e := S, t := T, o := simO_one S fun ok => (by rw [okO_false rfl] at ok; cases ok), to := simTO_one T fun ok => (by rw [okO_false rfl] at ok; cases ok),
      a := simA_one S fun {vs} _ _ _ _ _ _ _ _ ok X nb hQ hE => (by
        replace ok := i_A ok
        rcases ok with ⟨_, _, rfl, ok⟩ | ok
        · simp only [Bool.and_eq_true] at ok
          exact andL hXP Sa.e Sb.a ok.1 ok.2 X nb hQ hE
        · cases ok),
      ta := simTA_one T fun {vs} _ _ _ _ _ _ _ ok X nb hQ hE => (by
        replace ok := i_A ok
        rcases ok with ⟨_, _, rfl, ok⟩ | ok
        · simp only [Bool.and_eq_true] at ok
          exact andTL hXP Sa.t Sb.ta ok.1 ok.2 X nb hQ hE
        · cases ok) }
  | .or a b =>
    have Sa := simAll a
    have Sb := simAll b
    have S : SimE prog w fns k C XP (.or a b) := sim_or hXP Sa.e Sb.o
    have T : SimT prog w fns k C XP (.or a b) := simT_or hXP Sa.t Sb.to
    { e := S, t := T, a := simA_one S fun ok => (by rw [okA_false rfl] at ok; cases ok), ta := simTA_one T fun ok => (by rw [okA_false rfl] at ok; cases ok),
      o := simO_one S fun {vs} _ _ _ _ _ _ _ _ ok X nb hQ hE => (by
        replace ok := i_O ok
        rcases ok with ⟨_, _, rfl, ok⟩ | ok
        · simp only [Bool.and_eq_true] at ok
          exact orL hXP Sa.e Sb.o ok.1 ok.2 X nb hQ hE
        · cases ok),
      to := simTO_one T fun {vs} _ _ _ _ _ _ _ ok X nb hQ hE => (by
        replace ok := i_O ok
        rcases ok with ⟨_, _, rfl, ok⟩ | ok
        · simp only [Bool.and_eq_true] at ok
          exact orTL hXP Sa.t Sb.to ok.1 ok.2 X nb hQ hE
        · cases ok) }
  | .list es => .ofE (sim_list (simAlls es)) rfl rfl rfl
  | .tup es => .ofE (sim_tup (simAlls es)) rfl rfl rfl
  | .dict => .ofE sim_dict rfl rfl rfl
  | .comp elt x it => .ofE (sim_comp (simAllIt it) (simAll elt).e) rfl rfl rfl
  | .compif elt x it c => .ofE (sim_compif (simAllIt it) (simAll elt).e (simAll c).t) rfl rfl rfl
  | .sub a i => .ofE (sim_sub hXP (simAll a).e (simAll i).e) rfl rfl rfl
  | .slo a i => .ofE (sim_slo hXP (simAll a).e (simAll i).e) rfl rfl rfl
  | .shi a i => .ofE (sim_shi hXP (simAll a).e (simAll i).e) rfl rfl rfl
  | .rev a => .ofE (sim_rev (simAll a).e) rfl rfl rfl
  | .attr a n => .ofE sim_attr rfl rfl rfl
  | .bi1 f a => .ofE (sim_bi1 (simAll a).e) rfl rfl rfl
  | .bi2 f a b => .ofE (sim_bi2 hXP (simAll a).e (simAll b).e) rfl rfl rfl
  | .listR n => .ofE (sim_listR (simAll n).e) rfl rfl rfl
  | .isi a t => .ofE (sim_isi (simAll a).e) rfl rfl rfl
  | .call f es => .ofE (sim_call hC hXP (simAlls es)) rfl rfl rfl
  | .meth a m es => .ofE sim_meth rfl rfl rfl
termination_by structural e => e
theorem simAlls : ∀ es : Es, SimEs prog w fns k C XP es
  | .nil => simEs_nil
  | .cons e es => simEs_cons hXP (simAll e).e (simAlls es)
termination_by structural es => es
theorem simAllIt : ∀ it : It, SimIt prog w fns k C XP it
  | .e a => simIt_e (simAll a).e
  | .r1 n => simIt_r1 (simAll n).e
  | .r2 a b => simIt_r2 hXP (simAll a).e (simAll b).e
termination_by structural it => it
end
end
end
end Mine

namespace Mine
open PySem PyProof.Rows

/-! ## only the mentioned names matter -/
theorem compL_congr {f g : PyData → Out (Option (V × Mode))} (h : ∀ d, f d = g d) : compL f = compL g := by rw [show f = g from funext h]
theorem upd_agree {σ τ : St} {x : String} {v : V × Mode} {ns : List String} (h : ∀ y ∈ ns, σ y = τ y) : ∀ y ∈ ns, upd σ x v y = upd τ x v y := by
  intro y hy
  unfold upd
  split
  · rfl
  · exact h y hy

mutual
theorem ev_congr (C : Calls) : ∀ (e : E) (σ τ : St), (∀ y ∈ fv e, σ y = τ y) → ev C e σ = ev C e τ
  | .name x, σ, τ, h => by simp only [ev]; rw [h x (by simp [fv])]
  | .int _, _, _, _ => by simp only [ev]
  | .str _, _, _, _ => by simp only [ev]
  | .bool _, _, _, _ => by simp only [ev]
  | .none, _, _, _ => by simp only [ev]
  | .bin o a b, σ, τ, h => by
    simp only [fv, List.mem_append] at h
    simp only [ev]; rw [ev_congr C a σ τ fun y hy => h y (.inl hy), ev_congr C b σ τ fun y hy => h y (.inr hy)]
  | .neg a, σ, τ, h => by simp only [fv] at h; simp only [ev]; rw [ev_congr C a σ τ h]
  | .not a, σ, τ, h => by simp only [fv] at h; simp only [ev]; rw [ev_congr C a σ τ h]
  | .cmp o a b, σ, τ, h => by
    simp only [fv, List.mem_append] at h
    simp only [ev]; rw [ev_congr C a σ τ fun y hy => h y (.inl hy), ev_congr C b σ τ fun y hy => h y (.inr hy)]
  | .and a b, σ, τ, h => by
    simp only [fv, List.mem_append] at h
    simp only [ev]; rw [ev_congr C a σ τ fun y hy => h y (.inl hy), ev_congr C b σ τ fun y hy => h y (.inr hy)]
  | .or a b, σ, τ, h => by
    simp only [fv, List.mem_append] at h
    simp only [ev]; rw [ev_congr C a σ τ fun y hy => h y (.inl hy), ev_congr C b σ τ fun y hy => h y (.inr hy)]
  | .list es, σ, τ, h => by simp only [fv] at h; simp only [ev]; rw [evs_congr C es σ τ h]
  | .tup es, σ, τ, h => by simp only [fv] at h; simp only [ev]; rw [evs_congr C es σ τ h]
  | .dict, _, _, _ => by simp only [ev]
  | .comp elt x it, σ, τ, h => by
    simp only [fv, List.mem_append] at h
    simp only [ev]
    rw [evIt_congr C it σ τ fun y hy => h y (.inl hy)]
    have e : ∀ d, (ev C elt (upd σ x (mk (.d d)))) = ev C elt (upd τ x (mk (.d d))) := fun d => ev_congr C elt _ _ (upd_agree fun y hy => h y (.inr hy))
    simp only [e]
  | .compif elt x it c, σ, τ, h => by
    simp only [fv, List.mem_append] at h
    simp only [ev]
    rw [evIt_congr C it σ τ fun y hy => h y (.inl hy)]
    have e : ∀ d, (ev C elt (upd σ x (mk (.d d)))) = ev C elt (upd τ x (mk (.d d))) := fun d => ev_congr C elt _ _ (upd_agree fun y hy => h y (.inr (.inr hy)))
    have e' : ∀ d, (ev C c (upd σ x (mk (.d d)))) = ev C c (upd τ x (mk (.d d))) := fun d => ev_congr C c _ _ (upd_agree fun y hy => h y (.inr (.inl hy)))
    simp only [e, e']
  | .sub a b, σ, τ, h => by
    simp only [fv, List.mem_append] at h
    simp only [ev]; rw [ev_congr C a σ τ fun y hy => h y (.inl hy), ev_congr C b σ τ fun y hy => h y (.inr hy)]
  | .slo a b, σ, τ, h => by
    simp only [fv, List.mem_append] at h
    simp only [ev]; rw [ev_congr C a σ τ fun y hy => h y (.inl hy), ev_congr C b σ τ fun y hy => h y (.inr hy)]
  | .shi a b, σ, τ, h => by
    simp only [fv, List.mem_append] at h
    simp only [ev]; rw [ev_congr C a σ τ fun y hy => h y (.inl hy), ev_congr C b σ τ fun y hy => h y (.inr hy)]
  | .rev a, σ, τ, h => by simp only [fv] at h; simp only [ev]; rw [ev_congr C a σ τ h]
  | .attr a n, σ, τ, h => by simp only [fv] at h; simp only [ev]; rw [ev_congr C a σ τ h]
  | .bi1 f a, σ, τ, h => by simp only [fv] at h; simp only [ev]; rw [ev_congr C a σ τ h]
  | .bi2 f a b, σ, τ, h => by
    simp only [fv, List.mem_append] at h
    simp only [ev]; rw [ev_congr C a σ τ fun y hy => h y (.inl hy), ev_congr C b σ τ fun y hy => h y (.inr hy)]
  | .listR a, σ, τ, h => by simp only [fv] at h; simp only [ev]; rw [ev_congr C a σ τ h]
  | .isi a t, σ, τ, h => by simp only [fv] at h; simp only [ev]; rw [ev_congr C a σ τ h]
  | .call f es, σ, τ, h => by simp only [fv] at h; simp only [ev]; rw [evs_congr C es σ τ h]
  | .meth a m es, σ, τ, h => by
    simp only [fv, List.mem_append] at h
    simp only [ev]; rw [ev_congr C a σ τ fun y hy => h y (.inl hy), evs_congr C es σ τ fun y hy => h y (.inr hy)]
termination_by structural e => e
theorem evs_congr (C : Calls) : ∀ (es : Es) (σ τ : St), (∀ y ∈ fvs es, σ y = τ y) → evs C es σ = evs C es τ
  | .nil, _, _, _ => by simp only [evs]
  | .cons e es, σ, τ, h => by
    simp only [fvs, List.mem_append] at h
    simp only [evs]; rw [ev_congr C e σ τ fun y hy => h y (.inl hy), evs_congr C es σ τ fun y hy => h y (.inr hy)]
termination_by structural es => es
theorem evIt_congr (C : Calls) : ∀ (it : It) (σ τ : St), (∀ y ∈ fvIt it, σ y = τ y) → evIt C it σ = evIt C it τ
  | .e a, σ, τ, h => by simp only [fvIt] at h; simp only [evIt]; rw [ev_congr C a σ τ h]
  | .r1 a, σ, τ, h => by simp only [fvIt] at h; simp only [evIt]; rw [ev_congr C a σ τ h]
  | .r2 a b, σ, τ, h => by
    simp only [fvIt, List.mem_append] at h
    simp only [evIt]; rw [ev_congr C a σ τ fun y hy => h y (.inl hy), ev_congr C b σ τ fun y hy => h y (.inr hy)]
termination_by structural it => it
end

noncomputable def resσ (σ : St) (ns : List String) : St := fun x => if x ∈ ns then σ x else none
theorem res_agree (σ : St) (ns : List String) : ∀ y ∈ ns, resσ σ ns y = σ y := fun y hy => by unfold resσ; rw [if_pos hy]

/-! ## the frame -/
structure Loc (env : Env) (Z : Addr → Prop) (h : Heap) (vals : String → Option Value) : Prop where
  ns : ∃ m, h.Ns env.locals m ∧ ∀ x v, vals x = some v → env.kindOf (Str.ofString x) = some .local → m (Str.ofString x) = some v
  nz : ¬ Z env.locals
  cell : ∀ n c, env.kindOf n = some .cell → env.cells.lookup n = some c → c ≠ env.locals ∧ ¬ Z c ∧ ∃ v, h.IsCell c v
  cval : ∀ x v c, vals x = some v → env.kindOf (Str.ofString x) = some .cell → env.cells.lookup (Str.ofString x) = some c → h.IsCell c (some v)
  apart : ∀ n n' c, env.cells.lookup n = some c → env.cells.lookup n' = some c → n = n'
  kinds : ∀ x v, vals x = some v → env.kindOf (Str.ofString x) = some .local ∨ env.kindOf (Str.ofString x) = some .cell

noncomputable def updV (vals : String → Option Value) (x : String) (v : Value) : String → Option Value := fun y => if y = x then some v else vals y

/-- a place of the frame: no list and no tuple -/
noncomputable def Spot (env : Env) (h : Heap) (T : Addr) : Prop := (T = env.locals ∧ ∃ m, h.Ns T m) ∨ ∃ v, h.IsCell T v
theorem Spot.noseq {env : Env} {h : Heap} {T : Addr} (t : Spot env h T) (o : Obj) (e : h.get? T = some o) (vs : Array Value) (n : Nat) : o.data ≠ .seq vs n := by
  intro q
  rcases t with ⟨_, m, o', es, ep, e', hd, _⟩ | ⟨v, o', e', hd⟩
  · rw [e'] at e; cases e; rw [hd] at q; cases q
  · rw [e'] at e; cases e; rw [hd] at q; cases q

section
variable {prog : Program} {w : World} {fns : Fns} {k : Nat} {C : Calls} {XP : String → Shared → Value → Shared → Prop}

theorem Loc.keep {env : Env} {Z : Addr → Prop} {h h' : Heap} {vals : String → Option Value} (L : Loc env Z h vals) (kp : ∀ b o, h.get? b = some o → h'.get? b = some o) : Loc env Z h' vals where
  ns := let ⟨m, a, b⟩ := L.ns; ⟨m, a.keeps kp, b⟩
  nz := L.nz
  cell := fun n c a b => let ⟨h1, h2, v, h3⟩ := L.cell n c a b; ⟨h1, h2, v, h3.keeps kp⟩
  cval := fun x v c a b d => (L.cval x v c a b d).keeps kp
  apart := L.apart
  kinds := L.kinds
theorem Loc.var {env : Env} {Z : Addr → Prop} {h : Heap} {vals : String → Option Value} (L : Loc env Z h vals) (eok : EnvOk env) {x : String} {v : Value} (hv : vals x = some v) : VarIs h env (Str.ofString x) v := by
  rcases L.kinds x v hv with hk | hk
  · obtain ⟨m, a, b⟩ := L.ns
    exact .loc m hk a (b x v hv hk)
  · obtain ⟨c, hc⟩ := eok.cells _ (.inl hk)
    exact .cell c (.inl hk) hc (L.cval x v c hv hk hc)

theorem Loc.store {A : Around} {env : Env} {Z : Addr → Prop} {vals : String → Option Value} {s : Shared} {x : String} {v : Value} {Q : Unit → Shared → Prop} {Er : Value → Shared → Prop} (L : Loc env Z s.heap vals) (eok : EnvOk env)
    (hx : env.kindOf (Str.ofString x) = some .local ∨ env.kindOf (Str.ofString x) = some .cell)
    (hQ : ∀ T h' tk, Heap.SameBut T s.heap h' → Spot env s.heap T → ¬ Z T → Loc env Z h' (updV vals x v) → Q () { s with heap := h', toks := tk }) : wpAny (model prog w) A (storeName env (Str.ofString x) v) Q Er s := by
  have inj : ∀ y, Str.ofString y = Str.ofString x → y = x := fun y e => ofString_inj e
  have kinds' : ∀ y u, updV vals x v y = some u → env.kindOf (Str.ofString y) = some .local ∨ env.kindOf (Str.ofString y) = some .cell := fun y u hu => by
    unfold updV at hu
    split at hu
    · rename_i e; subst e; exact hx
    · exact L.kinds y u hu
  obtain ⟨m, hm, hmv⟩ := L.ns
  rcases hx with hk | hk
  · refine wpAny_storeName_local hk hm (fun h' hn hs => hQ env.locals h' _ hs (.inl ⟨rfl, m, hm⟩) L.nz ?_) (by rw [eok.kind]; rfl)
    refine ⟨⟨_, hn, fun y u hu hky => ?_⟩, L.nz, fun n c hkn hc => ?_, fun y u c hu hky hc => ?_, L.apart, kinds'⟩
    · unfold updV at hu
      split at hu
      · rename_i e; subst e; cases hu; simp
      · rename_i e
        rw [if_neg fun q => e (inj y q)]
        exact hmv y u hu hky
    · obtain ⟨h1, h2, u, o, h3, h4⟩ := L.cell n c hkn hc
      exact ⟨h1, h2, u, o, hs.extBut c o h1 h3, h4⟩
    · unfold updV at hu
      split at hu
      · rename_i e; subst e; rw [hk] at hky; cases hky
      · obtain ⟨h1, _⟩ := L.cell _ c hky hc
        obtain ⟨o, h3, h4⟩ := L.cval y u c hu hky hc
        exact ⟨o, hs.extBut c o h1 h3, h4⟩
  · obtain ⟨c₀, hc₀⟩ := eok.cells _ (.inl hk)
    obtain ⟨h1, h2, v₀, h3⟩ := L.cell _ c₀ hk hc₀
    refine wpAny_storeName_cell eok.kind hk hc₀ h3 fun h' hn hs => hQ c₀ h' s.toks hs (.inr ⟨v₀, h3⟩) h2 ?_
    refine ⟨⟨m, hm.sameBut hs (Ne.symm h1), fun y u hu hky => ?_⟩, L.nz, fun n c hkn hc => ?_, fun y u c hu hky hc => ?_, L.apart, kinds'⟩
    · unfold updV at hu
      split at hu
      · rename_i e; subst e; rw [hk] at hky; cases hky
      · exact hmv y u hu hky
    · obtain ⟨g1, g2, u, o, g3, g4⟩ := L.cell n c hkn hc
      by_cases e : c = c₀
      · subst e; exact ⟨g1, g2, _, hn⟩
      · exact ⟨g1, g2, u, o, hs.extBut c o e g3, g4⟩
    · unfold updV at hu
      split at hu
      · rename_i e; subst e; cases hu
        rw [hc₀] at hc; cases hc
        exact hn
      · rename_i e
        obtain ⟨o, g3, g4⟩ := L.cval y u c hu hky hc
        refine ⟨o, hs.extBut c o (fun q => ?_) g3, g4⟩
        subst q
        exact e (inj y (L.apart _ _ c hc hc₀))

/-- a value where a place of the frame is written -/
theorem RV.spot {env : Env} {h h' : Heap} {T : Addr} {v : Value} {x : V} {as : List Addr} (r : RV prog w h v x as) (t : Spot env h T) (hL : ∀ a ∈ as, a ≠ env.locals) (hs : Heap.SameBut T h h') : RV prog w h' v x as := by
  have kp : ∀ b o, b ≠ T → h.get? b = some o → h'.get? b = some o := fun b o hb e => hs.extBut b o hb e
  have dne : ∀ a ∈ as, ∀ o es ep, h.get? a = some o → o.data = .dict es ep → a ≠ T := fun a ha o es ep e hd q => by
    subst q
    rcases t with ⟨t, _⟩ | ⟨v, o', e', hd'⟩
    · exact hL a ha t
    · rw [e'] at e; cases e; rw [hd'] at hd; cases hd
  have key : ∀ ks a, IsTupleKey (intKind prog w) h ks a → IsTupleKey (intKind prog w) h' ks a := fun ks a hk => by
    obtain ⟨o, it, n, a1, a2, a3⟩ := hk
    refine ⟨o, it, n, kp a o (fun q => ?_) a1, a2, a3⟩
    subst q
    exact t.noseq o a1 _ _ a3.1
  cases x with
  | d x => exact ⟨r.1.off (wr := [T]) (fun b hb o e => .inl (by rw [List.mem_singleton.mp hb] at e; exact t.noseq o e)) fun b o hb e => kp b o (fun q => hb (by simp [q])) e, r.2⟩
  | dic0 =>
    obtain ⟨a, h1, h2, h3, ⟨o, es, ep, e, hx, hd, hr⟩, ⟨o', es', ep', e', h4, h5, h6, h7, h8⟩⟩ := r
    subst h2
    have hne := dne a (.head _) o es ep e hd
    exact ⟨a, h1, rfl, h3, ⟨o, es, ep, kp a o hne e, hx, hd, hr⟩, ⟨o', es', ep', kp a o' hne e', h4, h5, h6, fun y hy => key _ _ (h7 y hy), h8⟩⟩
  | dicI ks =>
    obtain ⟨a, h1, h2, h3, ⟨o, es, ep, e, hx, hd, hr⟩⟩ := r
    subst h2
    have hne := dne a (.head _) o es ep e hd
    exact ⟨a, h1, rfl, h3, ⟨o, es, ep, kp a o hne e, hx, hd, hr⟩⟩
  | dicT ks =>
    obtain ⟨a, xs, h1, h2, h3, ⟨o', es', ep', e', h4, h5, h6, h7, h8⟩, h9⟩ := r
    subst h2
    have hne := dne a (.head _) o' es' ep' e' h5
    exact ⟨a, xs, h1, rfl, h3, ⟨o', es', ep', kp a o' hne e', h4, h5, h6, fun y hy => key _ _ (h7 y hy), h8⟩, h9⟩
  | inst fs => exact r.elim
end
end Mine

namespace Mine
open PySem PyProof.Rows

section
variable (prog : Program) (w : World) (fns : Fns) (k : Nat)
/-- how things stand between statements -/
structure SOK (h0 : Heap) (P Z : Addr → Prop) (A : Around) (env : Env) (h : Heap) (σ : St) (vals : String → Option Value) (fp : String → List Addr) : Prop where
  room : Room k A
  eok : EnvOk env
  ge : GE fns h0
  z0 : ∀ b o, h0.get? b = some o → Z b ∧ h.get? b = some o
  zdom : ∀ b, Z b → ∃ o, h.get? b = some o
  loc : Loc env Z h vals
  val : ∀ x p, σ x = some p → varK env.scope.names x = true ∧ ∃ v, vals x = some v ∧ RV prog w h v p.1 (fp x) ∧ ∀ a ∈ fp x, a ≠ env.locals ∧ (P a ∨ h0.get? a = none)
  top : ∀ x p, σ x = some p → p.2 = .top → ∃ a bs, fp x = a :: bs ∧ ¬ Z a ∧ a ∉ bs ∧ ∀ y q, y ≠ x → σ y = some q → a ∉ fp y
  deep : ∀ x p, σ x = some p → p.2 = .deep → (∀ a ∈ fp x, ¬ Z a ∧ ∀ y q, y ≠ x → σ y = some q → a ∉ fp y) ∧ (fp x).Nodup

/-- what stays: the given places, and all tuples -/
noncomputable def Fix (Z : Addr → Prop) (b : Addr) (o : Obj) : Prop := Z b ∨ (o.cls = .type "tuple" ∧ ∃ vs n, o.data = .seq vs n)
noncomputable def Stp (Z : Addr → Prop) (s s' : Shared) : Prop := ∃ h' tk, s' = { s with heap := h', toks := tk } ∧ ∀ b o, Fix Z b o → s.heap.get? b = some o → h'.get? b = some o
noncomputable def RetP (h0 : Heap) (P : Addr → Prop) (r : V × Mode) (v : Value) (s' : Shared) : Prop :=
  ∃ as, RV prog w s'.heap v r.1 as ∧ (∀ a ∈ as, P a ∨ h0.get? a = none) ∧ (r.2 = .top → ∃ a bs, as = a :: bs ∧ h0.get? a = none ∧ a ∉ bs) ∧ (r.2 = .deep → (∀ a ∈ as, h0.get? a = none) ∧ as.Nodup)
end

theorem Stp.refl (Z : Addr → Prop) (s : Shared) : Stp Z s s := ⟨s.heap, s.toks, rfl, fun _ _ _ e => e⟩
theorem Stp.trans {Z : Addr → Prop} {s s₁ s₂ : Shared} (a : Stp Z s s₁) (b : Stp Z s₁ s₂) : Stp Z s s₂ := by
  obtain ⟨h, t, rfl, k⟩ := a
  obtain ⟨h', t', rfl, k'⟩ := b
  exact ⟨h', t', rfl, fun b o z e => k' b o z (k b o z e)⟩
theorem Kp.stp {Z : Addr → Prop} {s s₁ : Shared} (a : Kp s s₁) : Stp Z s s₁ := by
  obtain ⟨h, t, rfl, k⟩ := a
  exact ⟨h, t, rfl, fun b o _ e => k b o e⟩
theorem Stp.mono {Z Z' : Addr → Prop} {s s₁ : Shared} (a : Stp Z' s s₁) (h : ∀ b, Z b → Z' b) : Stp Z s s₁ := by
  obtain ⟨h', t, rfl, k⟩ := a
  exact ⟨h', t, rfl, fun b o z e => k b o (z.imp (h b) id) e⟩

section
variable {prog : Program} {w : World} {fns : Fns} {k : Nat} {C : Calls} {XP : String → Shared → Value → Shared → Prop}
variable {h0 : Heap} {P Z : Addr → Prop} {A : Around} {env : Env} {h h' : Heap} {σ : St} {vals : String → Option Value} {fp : String → List Addr}

theorem SOK.keep (K : SOK prog w fns k h0 P Z A env h σ vals fp) (kp : ∀ b o, h.get? b = some o → h'.get? b = some o) : SOK prog w fns k h0 P Z A env h' σ vals fp where
  room := K.room
  eok := K.eok
  ge := K.ge
  z0 := fun b o e => ⟨(K.z0 b o e).1, kp b o (K.z0 b o e).2⟩
  zdom := fun b hb => let ⟨o, e⟩ := K.zdom b hb; ⟨o, kp b o e⟩
  loc := K.loc.keep kp
  val := fun x p hp => let ⟨a, v, b, c, d⟩ := K.val x p hp; ⟨a, v, b, c.keep kp, d⟩
  top := K.top
  deep := K.deep

theorem mk_deep {v : V} (h : (mk v).2 = .deep) : scal v = true := by
  unfold mk at h; dsimp only at h
  split at h
  · assumption
  · cases h
theorem mk_top {v : V} : (mk v).2 ≠ .top := by
  unfold mk; dsimp only; split <;> simp
theorem RV.scal_nil {v : Value} {x : V} {as : List Addr} (r : RV prog w h v x as) (hs : scal x = true) : as = [] := by
  cases x with
  | d x => exact r.1.sx_nil hs
  | _ => cases hs

theorem demote_some {σ : St} {ns : List String} {x : String} {p : V × Mode} (h : demote σ ns x = some p) : ∃ q, σ x = some q ∧ p.1 = q.1 ∧ ((x ∈ ns ∧ p = mk q.1) ∨ (x ∉ ns ∧ p = q)) := by
  unfold demote at h
  split at h
  · obtain ⟨q, hq, rfl⟩ := Option.map_eq_some_iff.mp h
    exact ⟨q, hq, rfl, .inl ⟨by assumption, rfl⟩⟩
  · exact ⟨p, h, rfl, .inr ⟨by assumption, rfl⟩⟩

theorem SOK.demote (K : SOK prog w fns k h0 P Z A env h σ vals fp) (ns : List String) : SOK prog w fns k h0 P Z A env h (demote σ ns) vals fp where
  room := K.room
  eok := K.eok
  ge := K.ge
  z0 := K.z0
  zdom := K.zdom
  loc := K.loc
  val := fun x p hp => by
    obtain ⟨q, hq, e, _⟩ := demote_some hp
    rw [e]
    exact K.val x q hq
  top := fun x p hp ht => by
    obtain ⟨q, hq, e, hc⟩ := demote_some hp
    rcases hc with ⟨_, rfl⟩ | ⟨_, rfl⟩
    · exact absurd ht mk_top
    · obtain ⟨a, bs, h1, h2, h3, h4⟩ := K.top x p hq ht
      refine ⟨a, bs, h1, h2, h3, fun y r hy hr => ?_⟩
      obtain ⟨r', hr', _⟩ := demote_some hr
      exact h4 y r' hy hr'
  deep := fun x p hp hd => by
    obtain ⟨q, hq, e, hc⟩ := demote_some hp
    rcases hc with ⟨_, rfl⟩ | ⟨_, rfl⟩
    · obtain ⟨_, v, _, hr, _⟩ := K.val x q hq
      rw [hr.scal_nil (mk_deep hd)]
      exact ⟨fun _ h => (nomatch h), .nil⟩
    · obtain ⟨h1, h2⟩ := K.deep x p hq hd
      refine ⟨fun a ha => ⟨(h1 a ha).1, fun y r hy hr => ?_⟩, h2⟩
      obtain ⟨r', hr', _⟩ := demote_some hr
      exact (h1 a ha).2 y r' hy hr'
theorem SOK.consume (K : SOK prog w fns k h0 P Z A env h σ vals fp) (ns : List String) (m : Mode) : SOK prog w fns k h0 P Z A env h (consume σ ns m) vals fp := by
  unfold Mine.consume
  split
  · exact K
  · exact K.demote ns

/-- where an expression's old parts may lie -/
noncomputable def Own (σ : St) (fp : String → List Addr) (ns : List String) (a : Addr) : Prop := ∃ y q, y ∈ ns ∧ σ y = some q ∧ a ∈ fp y

theorem SOK.cx {s : Shared} (K : SOK prog w fns k h0 P Z A env s.heap σ vals fp) (ns : List String) : Cx prog w fns k A (Own σ fp ns) s.heap env (resσ σ ns) where
  room := K.room
  eok := K.eok
  ge := K.ge.keep fun b o e => (K.z0 b o e).2
  vars := fun x p hp _ => by
    unfold resσ at hp
    split at hp
    · obtain ⟨_, v, hv, hr, _⟩ := K.val x p hp
      exact ⟨v, fp x, K.loc.var K.eok hv, hr, fun a ha => ⟨x, p, by assumption, hp, ha⟩⟩
    · cases hp

theorem SOK.eval {s : Shared} {e : E} {exx : Expr} {r : V × Mode} {Q : Value → Shared → Prop} {Er : Value → Shared → Prop} (K : SOK prog w fns k h0 P Z A env s.heap σ vals fp) (S : SimE prog w fns k C XP e) (ok : okE env.scope.names e exx = true) (he : ev C e σ = .ok r)
    (hQ : ∀ v s', EP prog w (Own σ fp (fv e)) s r v s' → Q v s') : wpAny (model prog w) A (eval exx env) Q Er s := by
  have e1 : ev C e (resσ σ (fv e)) = .ok r := by rw [ev_congr C e _ σ (res_agree σ (fv e))]; exact he
  exact S ok (K.cx (fv e)) (by rw [e1]; simp) (fun r' hr v s' E => by rw [e1] at hr; cases hr; exact hQ v s' E) fun c hc => by rw [e1] at hc; cases hc
theorem SOK.evalT {s : Shared} {e : E} {exx : Expr} {b : Bool} {Q : Bool → Shared → Prop} {Er : Value → Shared → Prop} (K : SOK prog w fns k h0 P Z A env s.heap σ vals fp) (S : SimT prog w fns k C XP e) (ok : okE env.scope.names e exx = true) (he : ((ev C e σ).bind fun r => truth r.1) = .ok b)
    (hQ : ∀ s', Kp s s' → Q b s') : wpAny (model prog w) A (isTrue exx env (PySem.eval exx env)) Q Er s := by
  have e1 : ev C e (resσ σ (fv e)) = ev C e σ := ev_congr C e _ σ (res_agree σ (fv e))
  refine S ok (K.cx (fv e)) (by rw [e1, he]; simp) (fun r' hr s' kp => by rw [e1, he] at hr; cases hr; exact hQ s' kp) fun c hc => ?_
  rw [e1] at hc; rw [hc] at he; cases he

theorem SOK.own (K : SOK prog w fns k h0 P Z A env h σ vals fp) {ns : List String} {a : Addr} (ha : Own σ fp ns a) : (∃ o, h.get? a = some o) ∧ a ≠ env.locals ∧ (P a ∨ h0.get? a = none) := by
  obtain ⟨y, q, _, hq, hy⟩ := ha
  obtain ⟨_, v, _, hr, hd⟩ := K.val y q hq
  exact ⟨hr.there a hy, hd a hy⟩

/-- a value is bound to a name -/
theorem SOK.put {s : Shared} {x : String} {v : Value} {r : V × Mode} {as : List Addr} {Q : Unit → Shared → Prop} {Er : Value → Shared → Prop} (K : SOK prog w fns k h0 P Z A env s.heap σ vals fp)
    (hvk : varK env.scope.names x = true) (hk : env.kindOf (Str.ofString x) = some .local ∨ env.kindOf (Str.ofString x) = some .cell)
    (rv : RV prog w s.heap v r.1 as) (ha : ∀ a ∈ as, a ≠ env.locals ∧ (P a ∨ h0.get? a = none))
    (ht : r.2 = .top → ∃ a bs, as = a :: bs ∧ ¬ Z a ∧ a ∉ bs ∧ ∀ y q, y ≠ x → σ y = some q → a ∉ fp y) (hd : r.2 = .deep → (∀ a ∈ as, ¬ Z a ∧ ∀ y q, y ≠ x → σ y = some q → a ∉ fp y) ∧ as.Nodup)
    (hdis : ∀ y q, y ≠ x → σ y = some q → (q.2 = .top → ∀ a bs, fp y = a :: bs → a ∉ as) ∧ (q.2 = .deep → ∀ a ∈ fp y, a ∉ as))
    (hQ : ∀ s', Stp Z s s' → (∀ b o, b ≠ env.locals → (∀ u, o.data ≠ .cell u) → s.heap.get? b = some o → s'.heap.get? b = some o) → SOK prog w fns k h0 P Z A env s'.heap (upd σ x r) (updV vals x v) (fun y => if y = x then as else fp y) → Q () s') : wpAny (model prog w) A (storeName env (Str.ofString x) v) Q Er s := by
  refine K.loc.store K.eok hk fun T h' tk hs hT hZ L => hQ _ ⟨h', tk, rfl, fun b o hb e => hs.extBut b o (fun q => hb.elim (fun hb => hZ (q ▸ hb)) fun hb => hT.noseq o (q ▸ e) _ _ hb.2.choose_spec.choose_spec) e⟩ (fun b o hb hc e => hs.extBut b o (fun q => ?_) e) ?_
  · rcases hT with ⟨hT, _⟩ | ⟨u, o', e', hd'⟩
    · exact hb (q.trans hT)
    · subst q
      rw [e'] at e; cases e
      exact hc u hd'
  have kz : ∀ b o, Z b → s.heap.get? b = some o → h'.get? b = some o := fun b o hb e => hs.extBut b o (fun q => hZ (q ▸ hb)) e
  refine ⟨K.room, K.eok, K.ge, fun b o e => ⟨(K.z0 b o e).1, kz b o (K.z0 b o e).1 (K.z0 b o e).2⟩, fun b hb => let ⟨o, e⟩ := K.zdom b hb; ⟨o, kz b o hb e⟩, L, fun y p hp => ?_, fun y p hp htp => ?_, fun y p hp hdp => ?_⟩
  · unfold upd at hp
    by_cases hy : y = x
    · subst hy
      rw [if_pos rfl] at hp; cases hp
      refine ⟨hvk, v, by simp [updV], ?_, ?_⟩
      · rw [if_pos rfl]; exact rv.spot hT (fun a h => (ha a h).1) hs
      · rw [if_pos rfl]; exact ha
    · rw [if_neg hy] at hp
      obtain ⟨h1, u, h2, h3, h4⟩ := K.val y p hp
      refine ⟨h1, u, by simpa [updV, hy] using h2, ?_, ?_⟩
      · rw [if_neg hy]; exact h3.spot hT (fun a h => (h4 a h).1) hs
      · rw [if_neg hy]; exact h4
  · unfold upd at hp
    by_cases hy : y = x
    · subst hy
      rw [if_pos rfl] at hp; cases hp
      obtain ⟨a, bs, h1, h2, h3, h4⟩ := ht htp
      refine ⟨a, bs, by rw [if_pos rfl]; exact h1, h2, h3, fun z q hz hq => ?_⟩
      unfold upd at hq
      rw [if_neg hz] at hq ⊢
      exact h4 z q hz hq
    · rw [if_neg hy] at hp
      obtain ⟨a, bs, h1, h2, h3, h4⟩ := K.top y p hp htp
      refine ⟨a, bs, by rw [if_neg hy]; exact h1, h2, h3, fun z q hz hq => ?_⟩
      unfold upd at hq
      by_cases hzx : z = x
      · rw [if_pos hzx]
        exact (hdis y p hy hp).1 htp a bs h1
      · rw [if_neg hzx] at hq ⊢
        exact h4 z q hz hq
  · unfold upd at hp
    by_cases hy : y = x
    · subst hy
      rw [if_pos rfl] at hp; cases hp
      obtain ⟨h1, h2⟩ := hd hdp
      rw [if_pos rfl]
      refine ⟨fun a h => ⟨(h1 a h).1, fun z q hz hq => ?_⟩, h2⟩
      unfold upd at hq
      rw [if_neg hz] at hq ⊢
      exact (h1 a h).2 z q hz hq
    · rw [if_neg hy] at hp ⊢
      obtain ⟨h1, h2⟩ := K.deep y p hp hdp
      refine ⟨fun a h => ⟨(h1 a h).1, fun z q hz hq => ?_⟩, h2⟩
      unfold upd at hq
      by_cases hzx : z = x
      · rw [if_pos hzx]
        exact (hdis y p hy hp).2 hdp a h
      · rw [if_neg hzx] at hq ⊢
        exact (h1 a h).2 z q hz hq

/-- what an expression gives is bound to a name -/
theorem SOK.put_ep {s s₁ : Shared} {x : String} {v : Value} {r : V × Mode} {ns : List String} {Q : Unit → Shared → Prop} {Er : Value → Shared → Prop} (K : SOK prog w fns k h0 P Z A env s.heap σ vals fp)
    (hvk : varK env.scope.names x = true) (hk : env.kindOf (Str.ofString x) = some .local ∨ env.kindOf (Str.ofString x) = some .cell) (E : EP prog w (Own σ fp ns) s r v s₁)
    (hQ : ∀ s' as, RV prog w s₁.heap v r.1 as → Stp Z s₁ s' → (∀ b o, b ≠ env.locals → (∀ u, o.data ≠ .cell u) → s₁.heap.get? b = some o → s'.heap.get? b = some o) → SOK prog w fns k h0 P Z A env s'.heap (upd (Mine.consume σ ns r.2) x r) (updV vals x v) (fun y => if y = x then as else fp y) → Q () s') : wpAny (model prog w) A (storeName env (Str.ofString x) v) Q Er s₁ := by
  obtain ⟨kp, as, rv, ha, ht, hd⟩ := E
  have K₁ := (K.keep kp.get).consume ns r.2
  have nz : ∀ a, s.heap.get? a = none → ¬ Z a := fun a e hz => by
    obtain ⟨o, e'⟩ := K.zdom a hz
    rw [e] at e'; cases e'
  have nf : ∀ a, s.heap.get? a = none → ∀ y q, σ y = some q → a ∉ fp y := fun a e y q hq hm => by
    obtain ⟨_, u, _, hr, _⟩ := K.val y q hq
    obtain ⟨o, e'⟩ := hr.there a hm
    rw [e] at e'; cases e'
  have cs : ∀ y q, Mine.consume σ ns r.2 y = some q → ∃ q', σ y = some q' := fun y q hq => by
    unfold Mine.consume at hq
    split at hq
    · exact ⟨q, hq⟩
    · obtain ⟨q', hq', _⟩ := demote_some hq; exact ⟨q', hq'⟩
  obtain ⟨mL, hmL, _⟩ := K.loc.ns
  refine K₁.put hvk hk rv (fun a h => ?_) (fun htop => ?_) (fun hdeep => ?_) (fun y q hy hq => ?_) (fun s' st kk K' => hQ s' as rv st kk K')
  · rcases ha a h with h1 | h1
    · exact (K.own h1).2
    · refine ⟨fun q => ?_, .inr ?_⟩
      · obtain ⟨o, _, _, e, _⟩ := hmL
        rw [← q] at e
        rw [h1] at e; cases e
      · cases e : h0.get? a with
        | none => rfl
        | some o => rw [(K.z0 a o e).2] at h1; cases h1
  · obtain ⟨a, bs, h1, h2, h3⟩ := ht htop
    exact ⟨a, bs, h1, nz a h2, h3, fun y q _ hq => let ⟨q', hq'⟩ := cs y q hq; nf a h2 y q' hq'⟩
  · obtain ⟨h1, h2⟩ := hd hdeep
    exact ⟨fun a h => ⟨nz a (h1 a h), fun y q _ hq => let ⟨q', hq'⟩ := cs y q hq; nf a (h1 a h) y q' hq'⟩, h2⟩
  · have main : ∀ a, (a ∈ as) → (∀ y' q', σ y' = some q' → a ∈ fp y' → y' ≠ y ∨ (y' ∈ ns ∧ r.2 ≠ .deep)) ∨ True := fun _ _ => .inr trivial
    clear main
    by_cases hdp : r.2 = .deep
    · have h1 := (hd hdp).1
      obtain ⟨q', hq'⟩ := cs y q hq
      exact ⟨fun _ a bs e hm => nf a (h1 a hm) y q' hq' (by rw [e]; exact .head _), fun _ a ha' hm => nf a (h1 a hm) y q' hq' ha'⟩
    · have hq2 : Mine.demote σ ns y = some q := by unfold Mine.consume at hq; rwa [if_neg hdp] at hq
      obtain ⟨q', hq', e1, hc⟩ := demote_some hq2
      rcases hc with ⟨_, rfl⟩ | ⟨hn, rfl⟩
      · refine ⟨fun h => absurd h mk_top, fun h a ha' => ?_⟩
        obtain ⟨_, u, _, hr, _⟩ := K.val y q' hq'
        rw [hr.scal_nil (mk_deep h)] at ha'
        cases ha'
      · refine ⟨fun h a bs e hm => ?_, fun h a ha' hm => ?_⟩
        · rcases ha a hm with ⟨z, p, hz, hp, hf⟩ | h1
          · obtain ⟨a', bs', e', _, _, h4⟩ := K.top y q hq' h
            rw [e] at e'; cases e'
            exact h4 z p (fun q => hn (q ▸ hz)) hp hf
          · exact nf a h1 y q hq' (by rw [e]; exact .head _)
        · rcases ha a hm with ⟨z, p, hz, hp, hf⟩ | h1
          · exact ((K.deep y q hq' h).1 a ha').2 z p (fun q => hn (q ▸ hz)) hp hf
          · exact nf a h1 y q hq' ha'

/-- more that stays -/
theorem SOK.freeze (K : SOK prog w fns k h0 P Z A env h σ vals fp) {G : Addr → Prop} (hdom : ∀ b, G b → ∃ o, h.get? b = some o) (hL : ¬ G env.locals) (hc : ∀ n c, env.kindOf n = some .cell → env.cells.lookup n = some c → ¬ G c)
    (ht : ∀ x p, σ x = some p → p.2 = .top → ∀ a bs, fp x = a :: bs → ¬ G a) (hd : ∀ x p, σ x = some p → p.2 = .deep → ∀ a ∈ fp x, ¬ G a) : SOK prog w fns k h0 P (fun b => Z b ∨ G b) A env h σ vals fp where
  room := K.room
  eok := K.eok
  ge := K.ge
  z0 := fun b o e => ⟨.inl (K.z0 b o e).1, (K.z0 b o e).2⟩
  zdom := fun b hb => hb.elim (K.zdom b) (hdom b)
  loc := { K.loc with
    nz := fun q => q.elim K.loc.nz hL
    cell := fun n c a b => by
      obtain ⟨h1, h2, v, o, h3, h4⟩ := K.loc.cell n c a b
      exact ⟨h1, fun q => q.elim h2 (hc n c a b), v, o, h3, h4⟩ }
  val := K.val
  top := fun x p hp hq => by
    obtain ⟨a, bs, h1, h2, h3, h4⟩ := K.top x p hp hq
    exact ⟨a, bs, h1, fun q => q.elim h2 (ht x p hp hq a bs h1), h3, h4⟩
  deep := fun x p hp hq => by
    obtain ⟨h1, h2⟩ := K.deep x p hp hq
    exact ⟨fun a ha => ⟨fun q => q.elim (h1 a ha).1 (hd x p hp hq a ha), (h1 a ha).2⟩, h2⟩
theorem SOK.thaw {Z' : Addr → Prop} (K : SOK prog w fns k h0 P Z' A env h σ vals fp) (hz : ∀ b, Z b → Z' b) (h0z : ∀ b o, h0.get? b = some o → Z b) : SOK prog w fns k h0 P Z A env h σ vals fp where
  room := K.room
  eok := K.eok
  ge := K.ge
  z0 := fun b o e => ⟨h0z b o e, (K.z0 b o e).2⟩
  zdom := fun b hb => K.zdom b (hz b hb)
  loc := { K.loc with
    nz := fun q => K.loc.nz (hz _ q)
    cell := fun n c a b => by
      obtain ⟨h1, h2, h3⟩ := K.loc.cell n c a b
      exact ⟨h1, fun q => h2 (hz _ q), h3⟩ }
  val := K.val
  top := fun x p hp hq => by
    obtain ⟨a, bs, h1, h2, h3, h4⟩ := K.top x p hp hq
    exact ⟨a, bs, h1, fun q => h2 (hz _ q), h3, h4⟩
  deep := fun x p hp hq => by
    obtain ⟨h1, h2⟩ := K.deep x p hp hq
    exact ⟨fun a ha => ⟨fun q => (h1 a ha).1 (hz _ q), (h1 a ha).2⟩, h2⟩
end
end Mine

namespace Mine
open PySem PyProof.Rows

section
variable {prog : Program} {w : World} {fns : Fns} {k : Nat} {C : Calls} {XP : String → Shared → Value → Shared → Prop}
variable {h0 : Heap} {P Z : Addr → Prop} {A : Around} {env : Env} {h h' : Heap} {σ : St} {vals : String → Option Value} {fp : String → List Addr}

/-- a value of another's, where one place is written that is not of it -/
theorem RV.offA {a : Addr} {o : Obj} {v : Value} {x : V} {as : List Addr} (r : RV prog w h v x as) (ho : h.get? a = some o) (hc : o.cls ≠ .type "tuple") (hn : a ∉ as) (hs : Heap.SameBut a h h') : RV prog w h' v x as := by
  have kp : ∀ b o, b ≠ a → h.get? b = some o → h'.get? b = some o := fun b o hb e => hs.extBut b o hb e
  have key : ∀ ks b, IsTupleKey (intKind prog w) h ks b → IsTupleKey (intKind prog w) h' ks b := fun ks b hk => by
    obtain ⟨o', it, n, a1, a2, a3⟩ := hk
    refine ⟨o', it, n, kp b o' (fun q => ?_) a1, a2, a3⟩
    subst q
    rw [ho] at a1; cases a1
    exact hc a2
  cases x with
  | d x => exact ⟨r.1.off (wr := [a]) (fun b hb o' e => .inr (by
      rw [List.mem_singleton.mp hb] at e ⊢
      rw [ho] at e; cases e
      exact ⟨hc, hn⟩)) fun b o hb e => kp b o (fun q => hb (by simp [q])) e, r.2⟩
  | dic0 =>
    obtain ⟨b, h1, h2, h3, ⟨o, es, ep, e, hr⟩, ⟨o', es', ep', e', h4, h5, h6, h7, h8⟩⟩ := r
    subst h2
    have hne : b ≠ a := fun q => hn (by simp [q])
    exact ⟨b, h1, rfl, h3, ⟨o, es, ep, kp b o hne e, hr⟩, ⟨o', es', ep', kp b o' hne e', h4, h5, h6, fun y hy => key _ _ (h7 y hy), h8⟩⟩
  | dicI ks =>
    obtain ⟨b, h1, h2, h3, ⟨o, es, ep, e, hr⟩⟩ := r
    subst h2
    have hne : b ≠ a := fun q => hn (by simp [q])
    exact ⟨b, h1, rfl, h3, ⟨o, es, ep, kp b o hne e, hr⟩⟩
  | dicT ks =>
    obtain ⟨b, xs, h1, h2, h3, ⟨o', es', ep', e', h4, h5, h6, h7, h8⟩, h9⟩ := r
    subst h2
    have hne : b ≠ a := fun q => hn (by simp [q])
    exact ⟨b, xs, h1, rfl, h3, ⟨o', es', ep', kp b o' hne e', h4, h5, h6, fun y hy => key _ _ (h7 y hy), h8⟩, h9⟩
  | inst fs => exact r.elim

theorem Loc.offA {a : Addr} {o : Obj} (L : Loc env Z h vals) (ho : h.get? a = some o) (hc : ∀ v, o.data ≠ .cell v) (hL : a ≠ env.locals) (hs : Heap.SameBut a h h') : Loc env Z h' vals where
  ns := let ⟨m, x, y⟩ := L.ns; ⟨m, x.sameBut hs (Ne.symm hL), y⟩
  nz := L.nz
  cell := fun n c x y => by
    obtain ⟨h1, h2, v, o', h3, h4⟩ := L.cell n c x y
    refine ⟨h1, h2, v, o', hs.extBut c o' (fun q => ?_) h3, h4⟩
    subst q
    rw [ho] at h3; cases h3
    exact hc v h4
  cval := fun x v c p q r => by
    obtain ⟨o', h3, h4⟩ := L.cval x v c p q r
    refine ⟨o', hs.extBut c o' (fun q => ?_) h3, h4⟩
    subst q
    rw [ho] at h3; cases h3
    exact hc _ h4
  apart := L.apart
  kinds := L.kinds

/-- an owned object is written -/
theorem SOK.write {x : String} {p : V × Mode} {a : Addr} {o : Obj} {v' : V} {m' : Mode} {bs' : List Addr} (K : SOK prog w fns k h0 P Z A env h σ vals fp) (hp : σ x = some p) (hval : vals x = some (.ref a)) (ho : h.get? a = some o) (hoc : o.cls ≠ .type "tuple") (hod : ∀ v, o.data ≠ .cell v)
    (hnz : ¬ Z a) (hne : ∀ y q, y ≠ x → σ y = some q → a ∉ fp y) (haL : a ≠ env.locals ∧ (P a ∨ h0.get? a = none)) (hs : Heap.SameBut a h h') (rv : RV prog w h' (.ref a) v' (a :: bs')) (hb : ∀ b ∈ bs', b ≠ env.locals ∧ (P b ∨ h0.get? b = none))
    (ht : m' = .top → a ∉ bs') (hd : m' = .deep → (∀ b ∈ bs', ¬ Z b ∧ ∀ y q, y ≠ x → σ y = some q → b ∉ fp y) ∧ (a :: bs').Nodup)
    (hdis : ∀ y q, y ≠ x → σ y = some q → (q.2 = .top → ∀ b cs, fp y = b :: cs → b ∉ bs') ∧ (q.2 = .deep → ∀ b ∈ fp y, b ∉ bs')) :
    SOK prog w fns k h0 P Z A env h' (upd σ x (v', m')) vals (fun y => if y = x then a :: bs' else fp y) := by
  have kz : ∀ b o, Z b → h.get? b = some o → h'.get? b = some o := fun b o hb e => hs.extBut b o (fun q => hnz (q ▸ hb)) e
  refine ⟨K.room, K.eok, K.ge, fun b o e => ⟨(K.z0 b o e).1, kz b o (K.z0 b o e).1 (K.z0 b o e).2⟩, fun b hb => let ⟨o, e⟩ := K.zdom b hb; ⟨o, kz b o hb e⟩, K.loc.offA ho hod haL.1 hs, fun y q hq => ?_, fun y q hq htp => ?_, fun y q hq hdp => ?_⟩
  · unfold upd at hq
    by_cases hy : y = x
    · subst hy
      rw [if_pos rfl] at hq; cases hq
      rw [if_pos rfl]
      refine ⟨(K.val y p hp).1, .ref a, hval, rv, fun b hb' => ?_⟩
      rcases List.mem_cons.mp hb' with rfl | hb'
      · exact haL
      · exact hb b hb'
    · rw [if_neg hy] at hq ⊢
      obtain ⟨h1, u, h2, h3, h4⟩ := K.val y q hq
      exact ⟨h1, u, h2, h3.offA ho hoc (hne y q hy hq) hs, h4⟩
  · unfold upd at hq
    by_cases hy : y = x
    · subst hy
      rw [if_pos rfl] at hq; cases hq
      rw [if_pos rfl]
      refine ⟨a, bs', rfl, hnz, ht htp, fun z r hz hr => ?_⟩
      unfold upd at hr
      rw [if_neg hz] at hr ⊢
      exact hne z r hz hr
    · rw [if_neg hy] at hq ⊢
      obtain ⟨b, cs, h1, h2, h3, h4⟩ := K.top y q hq htp
      refine ⟨b, cs, h1, h2, h3, fun z r hz hr => ?_⟩
      unfold upd at hr
      by_cases hzx : z = x
      · rw [if_pos hzx]
        intro hm
        rcases List.mem_cons.mp hm with e | hm
        · exact hne y q hy hq (by rw [h1, e]; exact .head _)
        · exact (hdis y q hy hq).1 htp b cs h1 hm
      · rw [if_neg hzx] at hr ⊢
        exact h4 z r hz hr
  · unfold upd at hq
    by_cases hy : y = x
    · subst hy
      rw [if_pos rfl] at hq; cases hq
      rw [if_pos rfl]
      obtain ⟨h1, h2⟩ := hd hdp
      refine ⟨fun b hb' => ?_, h2⟩
      rcases List.mem_cons.mp hb' with rfl | hb'
      · refine ⟨hnz, fun z r hz hr => ?_⟩
        unfold upd at hr
        rw [if_neg hz] at hr ⊢
        exact hne z r hz hr
      · refine ⟨(h1 b hb').1, fun z r hz hr => ?_⟩
        unfold upd at hr
        rw [if_neg hz] at hr ⊢
        exact (h1 b hb').2 z r hz hr
    · rw [if_neg hy] at hq ⊢
      obtain ⟨h1, h2⟩ := K.deep y q hq hdp
      refine ⟨fun b hb' => ⟨(h1 b hb').1, fun z r hz hr => ?_⟩, h2⟩
      unfold upd at hr
      by_cases hzx : z = x
      · rw [if_pos hzx]
        intro hm
        rcases List.mem_cons.mp hm with e | hm
        · exact hne y q hy hq (e ▸ hb')
        · exact (hdis y q hy hq).2 hdp b hb' hm
      · rw [if_neg hzx] at hr ⊢
        exact (h1 b hb').2 z r hz hr

/-- the head of an owned list -/
theorem SOK.head {x : String} {xs : List PyData} {m : Mode} (K : SOK prog w fns k h0 P Z A env h σ vals fp) (hp : σ x = some (.d (.list xs), m)) (hm : m ≠ .sh) :
    ∃ a vs n bs, vals x = some (.ref a) ∧ h.get? a = some ⟨.type "list", none, .seq vs.toArray n, #[]⟩ ∧ RA h vs xs bs ∧ fp x = a :: bs ∧ sz (.list xs) = true ∧ ¬ Z a ∧ a ∉ bs ∧ (∀ y q, y ≠ x → σ y = some q → a ∉ fp y) ∧ (∀ b ∈ a :: bs, b ≠ env.locals ∧ (P b ∨ h0.get? b = none)) ∧
      (m = .deep → (∀ b ∈ bs, ¬ Z b ∧ ∀ y q, y ≠ x → σ y = some q → b ∉ fp y) ∧ bs.Nodup) := by
  obtain ⟨_, v, hv, ⟨hr, hz⟩, hb⟩ := K.val x _ hp
  obtain ⟨a, vs, n, bs, rfl, ea, ra, e⟩ := hr.isList
  refine ⟨a, vs, n, bs, hv, ea, ra, e, hz, ?_⟩
  rw [e] at hb
  cases m with
  | sh => exact absurd rfl hm
  | top =>
    obtain ⟨a', bs', e', h1, h2, h3⟩ := K.top x _ hp rfl
    rw [e] at e'; cases e'
    exact ⟨h1, h2, h3, hb, fun h => (by cases h)⟩
  | deep =>
    obtain ⟨h1, h2⟩ := K.deep x _ hp rfl
    rw [e] at h1 h2
    rw [List.nodup_cons] at h2
    exact ⟨(h1 a (.head _)).1, h2.1, (h1 a (.head _)).2, hb, fun _ => ⟨fun b hb => h1 b (.tail _ hb), h2.2⟩⟩
end
end Mine

namespace Mine
open PySem PyProof.Rows

/-- a name that may be bound -/
noncomputable def bndK (ns : List (Str × NameKind)) (x : String) : Bool := varK ns x && notDebug x && (ns.lookup (Str.ofString x) == some .local || ns.lookup (Str.ofString x) == some .cell)

structure Ps where
  tag : Nat := 0
  e1 : Expr := default
  e2 : Expr := default
  es : List Expr := []
  o1 : Option Expr := none
  s1 : List Stmt := []
  s2 : List Stmt := []
  pos : Pos := default
noncomputable def ps : Stmt → Ps
  | .Assign x0 x1 x2 => { tag := 1, es := x0, e1 := x1, pos := x2 }
  | .Expr x0 x1 => { tag := 2, e1 := x0, pos := x1 }
  | .Return x0 x1 => { tag := 3, o1 := x0, pos := x1 }
  | .If x0 x1 x2 x3 => { tag := 4, e1 := x0, s1 := x1, s2 := x2, pos := x3 }
  | .For x0 x1 x2 x3 x4 => { tag := 5, e1 := x0, e2 := x1, s1 := x2, s2 := x3, pos := x4 }
  | .While x0 x1 x2 x3 => { tag := 6, e1 := x0, s1 := x1, s2 := x2, pos := x3 }
  | _ => {}
noncomputable def psB (n : Nat) (p : Ps) : Stmt := match n with
  | 1 => .Assign p.es p.e1 p.pos
  | 2 => .Expr p.e1 p.pos
  | 3 => .Return p.o1 p.pos
  | 4 => .If p.e1 p.s1 p.s2 p.pos
  | 5 => .For p.e1 p.e2 p.s1 p.s2 p.pos
  | 6 => .While p.e1 p.s1 p.s2 p.pos
  | _ => default
theorem ps_back (e : Stmt) : (ps e).tag = 0 ∨ psB (ps e).tag (ps e) = e := by cases e <;> first | exact .inr rfl | exact .inl rfl
theorem ps_inv {e : Stmt} {n : Nat} (hn : n ≠ 0) (h : (ps e).tag = n) : e = psB n (ps e) := by
  rcases ps_back e with q | q
  · exact absurd (h.symm.trans q) hn
  · rw [h] at q; exact q.symm
noncomputable def sAsg (s : Stmt) : Option (List Expr × Expr × Pos) := ifN (ps s).tag 1 ((ps s).es, (ps s).e1, (ps s).pos)
noncomputable def sExp (s : Stmt) : Option (Expr × Pos) := ifN (ps s).tag 2 ((ps s).e1, (ps s).pos)
noncomputable def sRet (s : Stmt) : Option (Option Expr × Pos) := ifN (ps s).tag 3 ((ps s).o1, (ps s).pos)
noncomputable def sIf (s : Stmt) : Option (Expr × List Stmt × List Stmt × Pos) := ifN (ps s).tag 4 ((ps s).e1, (ps s).s1, (ps s).s2, (ps s).pos)
noncomputable def sFor (s : Stmt) : Option (Expr × Expr × List Stmt × List Stmt × Pos) := ifN (ps s).tag 5 ((ps s).e1, (ps s).e2, (ps s).s1, (ps s).s2, (ps s).pos)
noncomputable def sWhl (s : Stmt) : Option (Expr × List Stmt × List Stmt × Pos) := ifN (ps s).tag 6 ((ps s).e1, (ps s).s1, (ps s).s2, (ps s).pos)
theorem sAsg_inv {s : Stmt} {q : List Expr × Expr × Pos} (h : sAsg s = some q) : s = .Assign q.1 q.2.1 q.2.2 := by
  obtain ⟨h1, rfl⟩ := ifN_inv h
  exact ps_inv (by decide) h1
theorem sExp_inv {s : Stmt} {q : Expr × Pos} (h : sExp s = some q) : s = .Expr q.1 q.2 := by
  obtain ⟨h1, rfl⟩ := ifN_inv h
  exact ps_inv (by decide) h1
theorem sRet_inv {s : Stmt} {q : Option Expr × Pos} (h : sRet s = some q) : s = .Return q.1 q.2 := by
  obtain ⟨h1, rfl⟩ := ifN_inv h
  exact ps_inv (by decide) h1
theorem sIf_inv {s : Stmt} {q : Expr × List Stmt × List Stmt × Pos} (h : sIf s = some q) : s = .If q.1 q.2.1 q.2.2.1 q.2.2.2 := by
  obtain ⟨h1, rfl⟩ := ifN_inv h
  exact ps_inv (by decide) h1
theorem sFor_inv {s : Stmt} {q : Expr × Expr × List Stmt × List Stmt × Pos} (h : sFor s = some q) : s = .For q.1 q.2.1 q.2.2.1 q.2.2.2.1 q.2.2.2.2 := by
  obtain ⟨h1, rfl⟩ := ifN_inv h
  exact ps_inv (by decide) h1
theorem sWhl_inv {s : Stmt} {q : Expr × List Stmt × List Stmt × Pos} (h : sWhl s = some q) : s = .While q.1 q.2.1 q.2.2.1 q.2.2.2 := by
  obtain ⟨h1, rfl⟩ := ifN_inv h
  exact ps_inv (by decide) h1
/-- a method of an expression, called -/
noncomputable def sMth (s : Stmt) : Option (Expr × Str × Pos × List Expr × Pos × Pos) := (sExp s).bind fun q => (dCall q.1).bind fun c => (dNil c.2.2.1).bind fun _ => (dAttr c.1).map fun a => (a.1, a.2.1, a.2.2, c.2.1, c.2.2.2, q.2)
theorem sMth_inv {s : Stmt} {q : Expr × Str × Pos × List Expr × Pos × Pos} (h : sMth s = some q) : s = .Expr (.Call (.Attribute q.1 q.2.1 q.2.2.1) q.2.2.2.1 [] q.2.2.2.2.1) q.2.2.2.2.2 := by
  obtain ⟨c, h1, h⟩ := Option.bind_eq_some_iff.mp h
  obtain ⟨u, h2, h⟩ := Option.bind_eq_some_iff.mp h
  obtain ⟨_, h3, h⟩ := Option.bind_eq_some_iff.mp h
  obtain ⟨n, h4, h⟩ := Option.map_eq_some_iff.mp h
  subst h
  rw [sExp_inv h1, dCall_inv h2, dNil_inv h3, dAttr_inv h4]

/-- the path to an item of a name's value -/
noncomputable def okP (ns : List (Str × NameKind)) (x : String) : Es → Expr → Bool
  | .nil, ex => anyO (dName ex) fun n => n.1 == Str.ofString x && bndK ns x
  | .cons i r, ex => anyO (dSub ex) fun q => okP ns x r q.1 && okE ns i q.2.1

mutual
noncomputable def okS (ns : List (Str × NameKind)) : S → Stmt → Bool
  | .assign x e, st => anyO (sAsg st) fun q => anyO (dOne q.1) fun t => anyO (dName t) fun n => n.1 == Str.ofString x && bndK ns x && okE ns e q.2.1
  | .setitem x e, st => anyO (sAsg st) fun q => anyO (dOne q.1) fun t => anyO (dSub t) fun u => anyO (dName u.1) fun n => anyO (dConst q.2.1) fun c => anyO (cBool c.1) fun b => b && (n.1 == Str.ofString x && bndK ns x && okE ns e u.2.1)
  | .append x e, st => anyO (sMth st) fun q => anyO (dName q.1) fun n => anyO (dOne q.2.2.2.1) fun v => q.2.1 == Str.ofString "append" && (q.2.2.1.endLine == q.2.2.2.2.1.line) && n.1 == Str.ofString x && bndK ns x && okE ns e v
  | .appendAt x is e, st => anyO (sMth st) fun q => anyO (dSub q.1) fun _ => anyO (dOne q.2.2.2.1) fun v => q.2.1 == Str.ofString "append" && (q.2.2.1.endLine == q.2.2.2.2.1.line) && okP ns x is q.1 && okE ns e v
  | .insert x i e, st => anyO (sMth st) fun q => anyO (dName q.1) fun n => anyO (dTwo q.2.2.2.1) fun v => q.2.1 == Str.ofString "insert" && (q.2.2.1.endLine == q.2.2.2.2.1.line) && n.1 == Str.ofString x && bndK ns x && okE ns i v.1 && okE ns e v.2
  | .pop x i, st => anyO (sMth st) fun q => anyO (dName q.1) fun n => anyO (dOne q.2.2.2.1) fun v => q.2.1 == Str.ofString "pop" && (q.2.2.1.endLine == q.2.2.2.2.1.line) && n.1 == Str.ofString x && bndK ns x && okE ns i v
  | .expr e, st => anyO (sExp st) fun q => (dCall q.1).isSome && okE ns e q.1
  | .ret e, st => anyO (sRet st) fun q => anyO q.1 fun v => okE ns e v
  | .retn x, st => anyO (sRet st) fun q => anyO q.1 fun v => anyO (dName v) fun n => n.1 == Str.ofString x && bndK ns x
  | .ite c a b, st => anyO (sIf st) fun q => okE ns c q.1 && okSs ns a q.2.1 && okSs ns b q.2.2.1
  | .for1 x it b, st => anyO (sFor st) fun q => anyO (dNil q.2.2.2.1) fun _ => anyO (dName q.1) fun n => n.1 == Str.ofString x && bndK ns x && okIt ns it q.2.1 && okSs ns b q.2.2.1
  | .whl c b, st => anyO (sWhl st) fun q => anyO (dNil q.2.2.1) fun _ => okE ns c q.1 && okSs ns b q.2.1
  | .raise _, _ => false
  | .bad, _ => false
termination_by structural s => s
noncomputable def okSs (ns : List (Str × NameKind)) : Ss → List Stmt → Bool
  | .nil, st => (dNil st).isSome
  | .cons s r, st => anyO (dCons st) fun q => okS ns s q.1 && okSs ns r q.2
termination_by structural s => s
end

section
variable {ns : List (Str × NameKind)} {st : Stmt} {x : String} {e i c : E} {a b : Ss}
theorem i_sassign (h : okS ns (.assign x e) st = true) : (∃ t pt v p, st = .Assign [.Name t pt] v p ∧ (t == Str.ofString x && bndK ns x && okE ns e v) = true) ∨ False := by
  obtain ⟨q, e1, h⟩ := anyO_inv h
  obtain ⟨t, e2, h⟩ := anyO_inv h
  obtain ⟨n, e3, h⟩ := anyO_inv h
  exact .inl ⟨_, _, _, _, by rw [sAsg_inv e1, dOne_inv e2, dName_inv e3], h⟩
theorem i_ssetitem (h : okS ns (.setitem x e) st = true) : (∃ t pt i p1 k p2 p, st = .Assign [.Subscript (.Name t pt) i p1] (.Constant (.bool true) k p2) p ∧ (t == Str.ofString x && bndK ns x && okE ns e i) = true) ∨ False := by
  obtain ⟨q, e1, h⟩ := anyO_inv h
  obtain ⟨t, e2, h⟩ := anyO_inv h
  obtain ⟨u, e3, h⟩ := anyO_inv h
  obtain ⟨n, e4, h⟩ := anyO_inv h
  obtain ⟨c, e5, h⟩ := anyO_inv h
  obtain ⟨b, e6, h⟩ := anyO_inv h
  obtain ⟨rfl, h⟩ := Bool.and_eq_true_iff.mp h
  exact .inl ⟨_, _, _, _, _, _, _, by rw [sAsg_inv e1, dOne_inv e2, dSub_inv e3, dName_inv e4, dConst_inv e5, cBool_inv e6], h⟩
theorem i_sappend (h : okS ns (.append x e) st = true) : (∃ t pt m ap v pos sp, st = .Expr (.Call (.Attribute (.Name t pt) m ap) [v] [] pos) sp ∧ (m == Str.ofString "append" && (ap.endLine == pos.line) && t == Str.ofString x && bndK ns x && okE ns e v) = true) ∨ False := by
  obtain ⟨q, e1, h⟩ := anyO_inv h
  obtain ⟨n, e2, h⟩ := anyO_inv h
  obtain ⟨v, e3, h⟩ := anyO_inv h
  exact .inl ⟨_, _, _, _, v, _, _, by rw [sMth_inv e1, dName_inv e2, dOne_inv e3], h⟩
theorem i_sappendAt {is : Es} (h : okS ns (.appendAt x is e) st = true) : (∃ y i p m ap v pos sp, st = .Expr (.Call (.Attribute (.Subscript y i p) m ap) [v] [] pos) sp ∧ (m == Str.ofString "append" && (ap.endLine == pos.line) && okP ns x is (.Subscript y i p) && okE ns e v) = true) ∨ False := by
  obtain ⟨q, e1, h⟩ := anyO_inv h
  obtain ⟨n, e2, h⟩ := anyO_inv h
  obtain ⟨v, e3, h⟩ := anyO_inv h
  rw [dSub_inv e2] at h
  exact .inl ⟨_, _, _, _, _, v, _, _, by rw [sMth_inv e1, dSub_inv e2, dOne_inv e3], h⟩
theorem i_spop (h : okS ns (.pop x e) st = true) : (∃ t pt m ap v pos sp, st = .Expr (.Call (.Attribute (.Name t pt) m ap) [v] [] pos) sp ∧ (m == Str.ofString "pop" && (ap.endLine == pos.line) && t == Str.ofString x && bndK ns x && okE ns e v) = true) ∨ False := by
  obtain ⟨q, e1, h⟩ := anyO_inv h
  obtain ⟨n, e2, h⟩ := anyO_inv h
  obtain ⟨v, e3, h⟩ := anyO_inv h
  exact .inl ⟨_, _, _, _, v, _, _, by rw [sMth_inv e1, dName_inv e2, dOne_inv e3], h⟩
theorem i_sinsert (h : okS ns (.insert x i e) st = true) : (∃ t pt m ap u v pos sp, st = .Expr (.Call (.Attribute (.Name t pt) m ap) [u, v] [] pos) sp ∧ (m == Str.ofString "insert" && (ap.endLine == pos.line) && t == Str.ofString x && bndK ns x && okE ns i u && okE ns e v) = true) ∨ False := by
  obtain ⟨q, e1, h⟩ := anyO_inv h
  obtain ⟨n, e2, h⟩ := anyO_inv h
  obtain ⟨v, e3, h⟩ := anyO_inv h
  exact .inl ⟨_, _, _, _, v.1, v.2, _, _, by rw [sMth_inv e1, dName_inv e2, dTwo_inv e3], h⟩
theorem i_sexpr (h : okS ns (.expr e) st = true) : (∃ f xs ks p sp, st = .Expr (.Call f xs ks p) sp ∧ okE ns e (.Call f xs ks p) = true) ∨ False := by
  obtain ⟨q, e1, h⟩ := anyO_inv h
  obtain ⟨h1, h2⟩ := Bool.and_eq_true_iff.mp h
  obtain ⟨c, e2⟩ := Option.isSome_iff_exists.mp h1
  rw [dCall_inv e2] at h2
  exact .inl ⟨_, _, _, _, _, by rw [sExp_inv e1, dCall_inv e2], h2⟩
theorem i_sret (h : okS ns (.ret e) st = true) : (∃ v p, st = .Return (some v) p ∧ okE ns e v = true) ∨ False := by
  obtain ⟨q, e1, h⟩ := anyO_inv h
  obtain ⟨v, e2, h⟩ := anyO_inv h
  exact .inl ⟨v, _, by rw [sRet_inv e1, e2], h⟩
theorem i_sretn (h : okS ns (.retn x) st = true) : (∃ t pt p, st = .Return (some (.Name t pt)) p ∧ (t == Str.ofString x && bndK ns x) = true) ∨ False := by
  obtain ⟨q, e1, h⟩ := anyO_inv h
  obtain ⟨v, e2, h⟩ := anyO_inv h
  obtain ⟨n, e3, h⟩ := anyO_inv h
  exact .inl ⟨_, _, _, by rw [sRet_inv e1, e2, dName_inv e3], h⟩
theorem i_site (h : okS ns (.ite c a b) st = true) : (∃ t u v p, st = .If t u v p ∧ (okE ns c t && okSs ns a u && okSs ns b v) = true) ∨ False := by
  obtain ⟨q, e1, h⟩ := anyO_inv h
  exact .inl ⟨_, _, _, _, sIf_inv e1, h⟩
theorem i_sfor1 {it : It} (h : okS ns (.for1 x it b) st = true) : (∃ t pt i u p, st = .For (.Name t pt) i u [] p ∧ (t == Str.ofString x && bndK ns x && okIt ns it i && okSs ns b u) = true) ∨ False := by
  obtain ⟨q, e1, h⟩ := anyO_inv h
  obtain ⟨_, e2, h⟩ := anyO_inv h
  obtain ⟨n, e3, h⟩ := anyO_inv h
  exact .inl ⟨_, _, _, _, _, by rw [sFor_inv e1, dNil_inv e2, dName_inv e3], h⟩
theorem i_swhl (h : okS ns (.whl c b) st = true) : (∃ t u p, st = .While t u [] p ∧ (okE ns c t && okSs ns b u) = true) ∨ False := by
  obtain ⟨q, e1, h⟩ := anyO_inv h
  obtain ⟨_, e2, h⟩ := anyO_inv h
  exact .inl ⟨_, _, _, by rw [sWhl_inv e1, dNil_inv e2], h⟩
theorem i_snil {l : List Stmt} (h : okSs ns .nil l = true) : (l = [] ∧ True) ∨ False := by
  obtain ⟨_, e⟩ := Option.isSome_iff_exists.mp (show (dNil l).isSome = true from h)
  exact .inl ⟨dNil_inv e, trivial⟩
theorem i_scons {s : S} {l : List Stmt} (h : okSs ns (.cons s a) l = true) : (∃ t u, l = t :: u ∧ (okS ns s t && okSs ns a u) = true) ∨ False := by
  obtain ⟨q, e1, h⟩ := anyO_inv h
  exact .inl ⟨_, _, dCons_inv e1, h⟩
end

section
variable (prog : Program) (w : World) (fns : Fns) (k : Nat) (C : Calls)
noncomputable def SimS (st : S) : Prop := ∀ {stmt : Stmt} {h0 : Heap} {P Z : Addr → Prop} {A : Around} {env : Env} {σ : St} {vals : String → Option Value} {fp : String → List Addr} {s : Shared} {Q : Flow → Shared → Prop} {Er : Value → Shared → Prop} {σ' : St} {fl : Flw},
  okS env.scope.names st stmt = true → SOK prog w fns k h0 P Z A env s.heap σ vals fp → ex C st σ = .ok (σ', fl) →
  (fl = .next → ∀ s' vals' fp', Stp Z s s' → SOK prog w fns k h0 P Z A env s'.heap σ' vals' fp' → Q .next s') → (∀ r, fl = .ret r → ∀ v s', Stp Z s s' → RetP prog w h0 P r v s' → Q (.ret v) s') →
  wpAny (model prog w) A (exec stmt env) Q Er s
noncomputable def SimSs (st : Ss) : Prop := ∀ {stmts : List Stmt} {h0 : Heap} {P Z : Addr → Prop} {A : Around} {env : Env} {σ : St} {vals : String → Option Value} {fp : String → List Addr} {s : Shared} {Q : Flow → Shared → Prop} {Er : Value → Shared → Prop} {σ' : St} {fl : Flw},
  okSs env.scope.names st stmts = true → SOK prog w fns k h0 P Z A env s.heap σ vals fp → exs C st σ = .ok (σ', fl) →
  (fl = .next → ∀ s' vals' fp', Stp Z s s' → SOK prog w fns k h0 P Z A env s'.heap σ' vals' fp' → Q .next s') → (∀ r, fl = .ret r → ∀ v s', Stp Z s s' → RetP prog w h0 P r v s' → Q (.ret v) s') →
  wpAny (model prog w) A (execs stmts env) Q Er s
end

section
variable {prog : Program} {w : World} {fns : Fns} {k : Nat} {C : Calls} {XP : String → Shared → Value → Shared → Prop}

theorem bnd {env : Env} {x : String} (h : bndK env.scope.names x = true) : varK env.scope.names x = true ∧ notDebug x = true ∧ (env.kindOf (Str.ofString x) = some .local ∨ env.kindOf (Str.ofString x) = some .cell) := by
  unfold bndK at h
  simp only [Bool.and_eq_true, Bool.or_eq_true, beq_iff_eq] at h
  exact ⟨h.1.1, h.1.2, h.2⟩

theorem retP_of {h0 : Heap} {P Z : Addr → Prop} {A : Around} {env : Env} {σ : St} {vals : String → Option Value} {fp : String → List Addr} {s s' : Shared} {ns : List String} {r : V × Mode} {v : Value} (K : SOK prog w fns k h0 P Z A env s.heap σ vals fp) (E : EP prog w (Own σ fp ns) s r v s') :
    RetP prog w h0 P r v s' := by
  obtain ⟨kp, as, rv, ha, ht, hd⟩ := E
  have nh : ∀ a, s.heap.get? a = none → h0.get? a = none := fun a e => by
    cases q : h0.get? a with
    | none => rfl
    | some o => rw [(K.z0 a o q).2] at e; cases e
  exact ⟨as, rv, fun a h => (ha a h).elim (fun q => (K.own q).2.2) fun q => .inr (nh a q), fun q => let ⟨a, bs, h1, h2, h3⟩ := ht q; ⟨a, bs, h1, nh a h2, h3⟩, fun q => ⟨fun a h => nh a ((hd q).1 a h), (hd q).2⟩⟩

theorem simS_ret {e : E} (S : SimE prog w fns k C XP e) : SimS prog w fns k C (.ret e) := by
  intro stmt h0 P Z A env σ vals fp s Q Er σ' fl ok K he hN hR
  replace ok := i_sret ok
  rcases ok with ⟨_, _, rfl, ok⟩ | ok
  · simp only [ex] at he
    obtain ⟨r, hr, he⟩ := Out.bind_ok he
    cases he
    exact wpAny_Return_some (K.eval S ok hr fun v s' E => hR r rfl v s' E.keeps.stp (retP_of K E))
  · cases ok

theorem simS_retn {x : String} : SimS prog w fns k C (.retn x) := by
  intro stmt h0 P Z A env σ vals fp s Q Er σ' fl ok K he hN hR
  replace ok := i_sretn ok
  rcases ok with ⟨_, _, _, rfl, ok⟩ | ok
  · simp only [Bool.and_eq_true, beq_iff_eq] at ok
    obtain ⟨rfl, hb⟩ := ok
    obtain ⟨h1, h2, h3⟩ := bnd hb
    simp only [ex] at he
    split at he
    · rename_i r hr
      cases he
      obtain ⟨_, v, hv, hrv, hd⟩ := K.val x r hr
      have nh : ∀ a, ¬ Z a → h0.get? a = none := fun a e => by
        cases q : h0.get? a with
        | none => rfl
        | some o => exact absurd (K.z0 a o q).1 e
      refine wpAny_Return_some (wp_var K.eok.kind h2 (K.loc.var K.eok hv) (hR r rfl v s (.refl Z s) ⟨fp x, hrv, fun a h => (hd a h).2, fun q => ?_, fun q => ?_⟩))
      · obtain ⟨a, bs, e1, e2, e3, _⟩ := K.top x r hr q
        exact ⟨a, bs, e1, nh a e2, e3⟩
      · obtain ⟨e1, e2⟩ := K.deep x r hr q
        exact ⟨fun a h => nh a (e1 a h).1, e2⟩
    · cases he
  · cases ok

theorem simS_ite {c : E} {a b : Ss} (T : SimT prog w fns k C XP c) (Sa : SimSs prog w fns k C a) (Sb : SimSs prog w fns k C b) : SimS prog w fns k C (.ite c a b) := by
  intro stmt h0 P Z A env σ vals fp s Q Er σ' fl ok K he hN hR
  replace ok := i_site ok
  rcases ok with ⟨_, _, _, _, rfl, ok⟩ | ok
  · simp only [Bool.and_eq_true] at ok
    simp only [ex] at he
    obtain ⟨r, hr, he⟩ := Out.bind_ok he
    obtain ⟨t, ht, he⟩ := Out.bind_ok he
    refine wpAny_If (K.evalT T ok.1.1 (b := t) (by rw [hr]; exact ht) fun s₁ kp => ?_)
    have K₁ := K.keep kp.get
    cases t with
    | true =>
      rw [if_pos rfl] at he ⊢
      exact Sa ok.1.2 K₁ he (fun e s' vals' fp' st K' => hN e s' vals' fp' (kp.stp.trans st) K') fun r e v s' st R => hR r e v s' (kp.stp.trans st) R
    | false =>
      simp only [Bool.false_eq_true, if_false] at he ⊢
      exact Sb ok.2 K₁ he (fun e s' vals' fp' st K' => hN e s' vals' fp' (kp.stp.trans st) K') fun r e v s' st R => hR r e v s' (kp.stp.trans st) R
  · cases ok

theorem simSs_nil : SimSs prog w fns k C .nil := by
  intro stmts h0 P Z A env σ vals fp s Q Er σ' fl ok K he hN hR
  replace ok := i_snil ok
  rcases ok with ⟨rfl, ok⟩ | ok
  · simp only [exs] at he
    cases he
    exact wpAny_execs_nil (hN rfl s vals fp (.refl Z s) K)
  · cases ok
theorem simSs_cons {st : S} {r : Ss} (S : SimS prog w fns k C st) (T : SimSs prog w fns k C r) : SimSs prog w fns k C (.cons st r) := by
  intro stmts h0 P Z A env σ vals fp s Q Er σ' fl ok K he hN hR
  replace ok := i_scons ok
  rcases ok with ⟨_, _, rfl, ok⟩ | ok
  · simp only [Bool.and_eq_true] at ok
    simp only [exs] at he
    obtain ⟨⟨σ₁, fl₁⟩, h1, he⟩ := Out.bind_ok he
    dsimp only at he
    refine wpAny_execs_cons (S ok.1 K h1 (fun e s' vals' fp' st K' => ?_) fun q e v s' st R => ?_)
    · subst e
      dsimp only at he ⊢
      exact T ok.2 K' he (fun e s'' vals'' fp'' st' K'' => hN e s'' vals'' fp'' (st.trans st') K'') fun r e v s'' st' R => hR r e v s'' (st.trans st') R
    · subst e
      cases he
      exact hR q rfl v s' st R
  · cases ok

theorem simS_expr {e : E} (S : SimE prog w fns k C XP e) : SimS prog w fns k C (.expr e) := by
  intro stmt h0 P Z A env σ vals fp s Q Er σ' fl ok K he hN hR
  replace ok := i_sexpr ok
  rcases ok with ⟨_, _, _, _, _, rfl, ok⟩ | ok
  · simp only [ex] at he
    obtain ⟨r, hr, he⟩ := Out.bind_ok he
    cases he
    have hi : interactive env = false := by unfold interactive; rw [K.eok.kind]; rfl
    exact wpAny_Expr_any (K.eval S ok hr fun v s' E => hN rfl s' vals fp E.keeps.stp ((K.keep E.keeps.get).consume _ _)) hi
  · cases ok

theorem SOK.same {h0 : Heap} {P Z : Addr → Prop} {A : Around} {env : Env} {h h' : Heap} {σ : St} {vals : String → Option Value} {fp : String → List Addr} {D : Addr} {m : Str → Option Value} (K : SOK prog w fns k h0 P Z A env h σ vals fp) (hm : h.Ns D m) (hZ : ¬ Z D) (hL : D ≠ env.locals) (hf : ∀ y q, σ y = some q → D ∉ fp y)
    (hs : Heap.SameBut D h h') : SOK prog w fns k h0 P Z A env h' σ vals fp := by
  have kz : ∀ b o, Z b → h.get? b = some o → h'.get? b = some o := fun b o hb e => hs.extBut b o (fun q => hZ (q ▸ hb)) e
  have hm' := hm
  obtain ⟨o, es, ep, ho, hd, _⟩ := hm'
  refine ⟨K.room, K.eok, K.ge, fun b o e => ⟨(K.z0 b o e).1, kz b o (K.z0 b o e).1 (K.z0 b o e).2⟩, fun b hb => let ⟨o, e⟩ := K.zdom b hb; ⟨o, kz b o hb e⟩, K.loc.offA ho (fun v q => by rw [hd] at q; cases q) hL hs, fun y q hq => ?_, K.top, K.deep⟩
  obtain ⟨h1, u, h2, h3, h4⟩ := K.val y q hq
  exact ⟨h1, u, h2, h3.spot (env := { env with locals := D }) (.inl ⟨rfl, m, hm⟩) (fun a ha (e : a = D) => hf y q hq (e ▸ ha)) hs, h4⟩

end
end Mine

namespace Mine
open PySem PyProof.Rows

section
variable {prog : Program} {w : World} {fns : Fns} {k : Nat} {C : Calls} {XP : String → Shared → Value → Shared → Prop}

noncomputable def noComp : Expr → Bool
  | .ListComp .. | .SetComp .. | .DictComp .. => false
  | _ => true
theorem swaps_plain {v : Expr} (h : noComp v = true) (t : Option Expr) (l : Nat) (env : Env) : swapsWith v t l env = pure false := by
  cases v <;> first | rfl | cases h
theorem swaps_comp {e : Expr} {gs : List Comprehension} {sc : Scope} {p : Pos} {t : Str} {q : Pos} {l : Nat} {env : Env} : swapsWith (.ListComp e gs sc p) (some (.Name t q)) l env = pure true ∨ swapsWith (.ListComp e gs sc p) (some (.Name t q)) l env = pure false := by
  have e1 : swapsWith (.ListComp e gs sc p) (some (.Name t q)) l env = pure (env.blockKind == .function && env.kindOf t == some .local && q.line == (Expr.ListComp e gs sc p).pos.line && !(sc.names.any fun (n, k) => n == t && (k == .local || k == .cell))) := rfl
  rw [e1]
  generalize (env.blockKind == .function && env.kindOf t == some .local && q.line == (Expr.ListComp e gs sc p).pos.line && !(sc.names.any fun (n, k) => n == t && (k == .local || k == .cell))) = b
  cases b
  · exact .inr rfl
  · exact .inl rfl

noncomputable def isComp : E → Bool
  | .comp _ _ _ | .compif _ _ _ _ => true
  | _ => false
theorem noComp_ok {ns : List (Str × NameKind)} {e : E} {ex : Expr} (hp : isComp e = false) (h : okE ns e ex = true) : noComp ex = true := by
  cases ex with
  | ListComp _ _ _ _ =>
    cases e with
    | comp _ _ _ => cases hp
    | compif _ _ _ _ => cases hp
    | _ => exact Bool.noConfusion (show false = true from h)
  | _ => first | rfl | (cases e <;> exact Bool.noConfusion (show false = true from h))

theorem comp_wrapU {x t : String} {px pt : Pos} {elt iter : Expr} {ifs : List Expr} {sc : Scope} {pos spos : Pos} {A : Around} {env : Env} {σ : St} {P : Addr → Prop} {s : Shared} {Q : Flow → Shared → Prop} {Er : Value → Shared → Prop} {h : Heap}
    (hsc : okSc env.scope.names sc x = true) (X : Cx prog w fns k A P h env σ) (hset : ∀ v, foldedSetIterable iter env v = pure v) (hsw : swapsWith (.ListComp elt [⟨.Name (Str.ofString x) px, iter, ifs, 0⟩] sc pos) (some (.Name (Str.ofString t) pt)) spos.line env = pure true)
    (h : ∀ cl : List (Str × Addr), (∀ n, (n, NameKind.free) ∈ sc.names → cl.lookup n = env.cells.lookup n) → wpAny (model prog w) A (eval iter env) (fun v s₁ => wpAny (model prog w) A (pyIter v) (fun i s₂ => wpAny (model prog w) A (newObj (.type "list") (.seq #[]) none) (fun acc s₃ =>
      wpAny (model prog w) A (newFunctionEnv sc env.globals cl [] env.qual none .none (some env)) (fun cenv s₄ =>
        codeAny (model prog w) A (.compStart (.ListComp elt [⟨.Name (Str.ofString x) px, iter, ifs, 0⟩] sc pos) 0 i acc { cenv with scope := relabel sc env }) (compPost (model prog w) A Er (some (assign (.Name (Str.ofString t) pt) env)) (fun _ s' => Q .next s') acc cenv.locals) s₄) Er s₃) Er s₂) Er s₁) Er s) :
    wpAny (model prog w) A (exec (.Assign [.Name (Str.ofString t) pt] (.ListComp elt [⟨.Name (Str.ofString x) px, iter, ifs, 0⟩] sc pos) spos) env) Q Er s := by
  obtain ⟨hk, hnd, htg, hnames⟩ := okSc_iff hsc
  obtain ⟨cl, hcl, hclk⟩ := closure_ok (scope := sc) (env := env) (fun p hp e => by
    rcases hnames p hp with h | h | h | h
    · rw [h.1] at e; cases e
    · rw [h] at e; cases e
    · rw [h.1] at e; cases e
    · exact X.eok.cells p.1 h.2)
  rw [exec_Assign_Name_used _ _ _ _ hsw]
  refine wpAny_bind (wpAny_standAt (wpAny_bind ?_))
  show wpAny _ A (do let _ ← comprehension (.ListComp elt [⟨.Name (Str.ofString x) px, iter, ifs, 0⟩] sc pos) sc env _ (newList []) false (eval iter env) (some (assign (.Name (Str.ofString t) pt) env))) _ _ s
  exact wpAny_bind (wpAny_mono (wpAny_comprehension_free (use := some (assign (.Name (Str.ofString t) pt) env)) (Q := fun _ s' => Q .next s') rfl hset hcl hk (fun y hy e => by rw [← e]; exact lookup_mem hnd hy) (h cl hclk)) (fun _ s' hq => wpAny_pure (wpAny_pure hq)) fun _ _ e => e)

/-- the end of a comprehension whose list is bound at once -/
theorem comp_end {h0 : Heap} {P Z : Addr → Prop} {A : Around} {env : Env} {σ : St} {vals : String → Option Value} {fp : String → List Addr} {s s₂ : Shared} {Q : Flow → Shared → Prop} {Er : Value → Shared → Prop} {x : String} {px : Pos} {ns : List String} {d : PyData} {md : Mode} {v : Value} {h : Heap} {tk : Nat} {D : Addr} {m : Str → Option Value}
    (K : SOK prog w fns k h0 P Z A env s.heap σ vals fp) (hb : bndK env.scope.names x = true) (E : EP prog w (Own σ fp ns) s (.d d, md) v { s₂ with heap := h, toks := tk }) (hm : h.Ns D m) (hD : s.heap.get? D = none)
    (hN : ∀ s' vals' fp', Stp Z s s' → SOK prog w fns k h0 P Z A env s'.heap (upd (consume σ ns md) x (.d d, md)) vals' fp' → Q .next s') :
    compPost (model prog w) A Er (some (assign (.Name (Str.ofString x) px) env)) (fun _ s' => Q .next s') v D (.ok .next) { s₂ with heap := h, toks := tk } := by
  obtain ⟨h1, h2, h3⟩ := bnd hb
  show wpAny _ A (assign (.Name (Str.ofString x) px) env v) _ _ _
  refine wpAny_assign_Name (K.put_ep h1 h3 E fun s' as rv st kk K' => ?_)
  have dL : D ≠ env.locals := fun q => by
    obtain ⟨m', ⟨o, _, _, e, _⟩, _⟩ := K.loc.ns
    rw [← q] at e
    rw [hD] at e; cases e
  have hmo := hm
  obtain ⟨o, es, ep, ho, hd, hr⟩ := hmo
  have ho' := kk D o dL (fun u q => by rw [hd] at q; cases q) ho
  have hm' : s'.heap.Ns D m := ⟨o, es, ep, ho', hd, hr⟩
  refine ⟨m, hm', fun h' hs => hN _ _ _ ?_ (K'.same hm' (fun hz => ?_) dL (fun y q hq hf => ?_) hs)⟩
  · obtain ⟨h'', tk'', rfl, k''⟩ := E.keeps.stp.trans st
    refine ⟨h', tk'', rfl, fun b o hz e => hs.extBut b o (fun q => ?_) (k'' b o hz e)⟩
    rw [q, hD] at e; cases e
  · obtain ⟨o, e⟩ := K.zdom D hz
    rw [hD] at e; cases e
  · split at hf
    · obtain ⟨_, _, e⟩ := rv.1.there D hf
      rw [ho] at e; cases e; cases hd
    · rename_i hy
      unfold upd at hq
      rw [if_neg hy] at hq
      have : ∃ q', σ y = some q' := by
        unfold consume at hq
        split at hq
        · exact ⟨q, hq⟩
        · obtain ⟨q', hq', _⟩ := demote_some hq; exact ⟨q', hq'⟩
      obtain ⟨q', hq'⟩ := this
      obtain ⟨_, u, _, hr, _⟩ := K.val y q' hq'
      obtain ⟨o, e⟩ := hr.there D hf
      rw [hD] at e; cases e

theorem simS_assign {x : String} {e : E} (S : SimE prog w fns k C XP e) (Sc : (∀ elt y it, e = .comp elt y it → SimIt prog w fns k C XP it ∧ SimE prog w fns k C XP elt) ∧ ∀ elt y it c, e = .compif elt y it c → SimIt prog w fns k C XP it ∧ SimE prog w fns k C XP elt ∧ SimT prog w fns k C XP c) : SimS prog w fns k C (.assign x e) := by
  intro stmt h0 P Z A env σ vals fp s Q Er σ' fl ok K he hN hR
  replace ok := i_sassign ok
  rcases ok with ⟨_, _, _, _, rfl, ok⟩ | ok
  · rename_i t pt v spos
    simp only [Bool.and_eq_true, beq_iff_eq] at ok
    obtain ⟨⟨rfl, hb⟩, oe⟩ := ok
    obtain ⟨h1, h2, h3⟩ := bnd hb
    simp only [ex] at he
    obtain ⟨r, hr, he⟩ := Out.bind_ok he
    cases he
    have plain : swapsWith v (some (.Name (Str.ofString x) pt)) spos.line env = pure false → wpAny (model prog w) A (exec (.Assign [.Name (Str.ofString x) pt] v spos) env) Q Er s := fun hsw => by
      refine wpAny_Assign_Name (K.eval S oe hr fun u s' E => ?_) hsw
      exact K.put_ep h1 h3 E fun s'' as rv st kk K' => hN rfl s'' _ _ (E.keeps.stp.trans st) K'
    cases hc : isComp e with
    | false => exact plain (swaps_plain (noComp_ok hc oe) _ _ _)
    | true =>
      cases e with
      | comp elt y it =>
        obtain ⟨Si, Se⟩ := Sc.1 elt y it rfl
        replace oe := i_comp oe
        rcases oe with ⟨_, _, _, _, _, _, rfl, oe⟩ | oe
        · rename_i ee ty py iter sc pos
          rcases swaps_comp (e := ee) (gs := [⟨.Name ty py, iter, [], 0⟩]) (sc := sc) (p := pos) (t := Str.ofString x) (q := pt) (l := spos.line) (env := env) with hsw | hsw
          · simp only [Bool.and_eq_true, beq_iff_eq] at oe
            obtain ⟨⟨⟨rfl, hsc⟩, oi⟩, oe⟩ := oe
            have X := K.cx (fv (.comp elt y it))
            have e1 : ev C (.comp elt y it) (resσ σ (fv (.comp elt y it))) = .ok r := by rw [ev_congr C _ _ σ (res_agree σ _)]; exact hr
            simp only [ev] at e1
            obtain ⟨q, hq, e1⟩ := Out.bind_ok e1
            obtain ⟨res, hres, e1⟩ := Out.bind_ok e1
            cases e1
            refine comp_wrapU hsc X (fset oi env) hsw fun cl hcl => Si oi X (by rw [hq]; simp) (fun q' hq' i s₂ I => ?_) fun c hc => by rw [hq] at hc; cases hc
            rw [hq] at hq'; cases hq'
            obtain ⟨res', hres'⟩ := calm_ne_bad (by rw [hres]; simp : (compL _ q.1).calm ≠ .bad)
            rw [hres'] at hres; cases hres
            refine comp_coreG (RR := fun acc C => compPost (model prog w) A Er (some (assign (.Name (Str.ofString x) pt) env)) (fun _ s' => Q .next s') acc C) (ds := q.1) hsc X hres' (fun d r hf cenv s₃ P' Q₁ Q₂ Er' hNm X' g1 g2 => wpAny_tests_nil ?_) I (fun D C h tk m E hm hC => comp_end K hb E hm hC fun s' vals' fp' st K' => hN rfl s' vals' fp' st K') hcl
            rw [if_pos rfl]
            obtain ⟨z, hz, e⟩ := Out.bind_ok hf
            cases e
            exact Se (hNm ▸ oe) X' (by rw [hz]; simp) (fun r hr v s' E => g2 r (by rw [hz] at hr; cases hr; rfl) v s' E) fun c hc => by rw [hz] at hc; cases hc
          · exact plain hsw
        · cases oe
      | compif elt y it c =>
        obtain ⟨Si, Se, Sc'⟩ := Sc.2 elt y it c rfl
        replace oe := i_compif oe
        rcases oe with ⟨_, _, _, _, _, _, _, rfl, oe⟩ | oe
        · rename_i ee ty py iter ff sc pos
          rcases swaps_comp (e := ee) (gs := [⟨.Name ty py, iter, [ff], 0⟩]) (sc := sc) (p := pos) (t := Str.ofString x) (q := pt) (l := spos.line) (env := env) with hsw | hsw
          · simp only [Bool.and_eq_true, beq_iff_eq] at oe
            obtain ⟨⟨⟨⟨rfl, hsc⟩, oi⟩, oc⟩, oe⟩ := oe
            have X := K.cx (fv (.compif elt y it c))
            have e1 : ev C (.compif elt y it c) (resσ σ (fv (.compif elt y it c))) = .ok r := by rw [ev_congr C _ _ σ (res_agree σ _)]; exact hr
            simp only [ev] at e1
            obtain ⟨q, hq, e1⟩ := Out.bind_ok e1
            obtain ⟨res, hres, e1⟩ := Out.bind_ok e1
            cases e1
            refine comp_wrapU hsc X (fset oi env) hsw fun cl hcl => Si oi X (by rw [hq]; simp) (fun q' hq' i s₂ I => ?_) fun c hc => by rw [hq] at hc; cases hc
            rw [hq] at hq'; cases hq'
            obtain ⟨res', hres'⟩ := calm_ne_bad (by rw [hres]; simp : (compL _ q.1).calm ≠ .bad)
            rw [hres'] at hres; cases hres
            refine comp_coreG (RR := fun acc C => compPost (model prog w) A Er (some (assign (.Name (Str.ofString x) pt) env)) (fun _ s' => Q .next s') acc C) (ds := q.1) hsc X hres' (fun d r hf cenv s₃ P' Q₁ Q₂ Er' hNm X' g1 g2 => wpAny_tests_one ?_) I (fun D C h tk m E hm hC => comp_end K hb E hm hC fun s' vals' fp' st K' => hN rfl s' vals' fp' st K') hcl
            obtain ⟨t, ht, hf⟩ := Out.bind_ok hf
            obtain ⟨b, hb', hf⟩ := Out.bind_ok hf
            refine Sc' (hNm ▸ oc) X' (by rw [ht, Out.ok_bind, hb']; simp) (fun b'' hb'' s₄ k₄ => ?_) fun c hc => by rw [ht] at hc; cases hc
            rw [ht, Out.ok_bind, hb'] at hb''
            cases hb''
            cases b with
            | false => cases hf; simpa using g1 rfl s₄ k₄
            | true =>
              rw [if_pos rfl] at hf ⊢
              obtain ⟨z, hz, e⟩ := Out.bind_ok hf
              cases e
              exact Se (hNm ▸ oe) (X'.keep k₄.get) (by rw [hz]; simp) (fun r hr v s' E => g2 r (by rw [hz] at hr; cases hr; rfl) v s' (E.after k₄)) fun c hc => by rw [hz] at hc; cases hc
          · exact plain hsw
        · cases oe
      | _ => cases hc
  · cases ok
end
end Mine

namespace Mine
open PySem PyProof.Rows

section
variable {prog : Program} {w : World} {fns : Fns} {k : Nat} {C : Calls} {XP : String → Shared → Value → Shared → Prop}
variable {h0 : Heap} {P Z : Addr → Prop} {A : Around} {env : Env} {σ : St} {vals : String → Option Value} {fp : String → List Addr}

/-- an owned list gets another item -/
theorem SOK.putl {s s₂ : Shared} {h' : Heap} {ns : List String} {x : String} {xs zs : List PyData} {mx m : Mode} {as : List Addr} {σ' : St} {fl : Flw} {a : Addr} {vs vs' : List Value} {n n' : Nat} {bs bs' : List Addr}
    (K : SOK prog w fns k h0 P Z A env s.heap σ vals fp) (kp : Kp s s₂) (ha : ∀ b ∈ as, Own σ fp ns b ∨ s.heap.get? b = none) (hdp : m = .deep → (∀ b ∈ as, s.heap.get? b = none) ∧ as.Nodup)
    (hx : σ x = some (.d (.list xs), mx)) (hput : putV σ x ns mx zs m = .ok (σ', fl)) (hm : mx ≠ .sh)
    (hv : vals x = some (.ref a)) (ea : s.heap.get? a = some ⟨.type "list", none, .seq vs.toArray n, #[]⟩) (hfp : fp x = a :: bs) (hZ : ¬ Z a) (hab : a ∉ bs) (hne : ∀ y q, y ≠ x → σ y = some q → a ∉ fp y) (hP : ∀ b ∈ a :: bs, b ≠ env.locals ∧ (P b ∨ h0.get? b = none))
    (hdx : mx = .deep → (∀ b ∈ bs, ¬ Z b ∧ ∀ y q, y ≠ x → σ y = some q → b ∉ fp y) ∧ bs.Nodup)
    (hs : Heap.SameBut a s₂.heap h') (ea' : h'.get? a = some ⟨.type "list", none, .seq vs'.toArray n', #[]⟩) (rr : RA s₂.heap vs' zs bs') (hz : ∀ z ∈ zs, sz z = true) (hbs : ∀ b ∈ bs', b ∈ bs ∨ b ∈ as) (hnd : (bs ++ as).Nodup → bs'.Nodup) :
    fl = .next ∧ ∃ fp', SOK prog w fns k h0 P Z A env h' σ' vals fp' := by
  have nz : ∀ a, s.heap.get? a = none → ¬ Z a := fun a e hz => by
    obtain ⟨o, e'⟩ := K.zdom a hz
    rw [e] at e'; cases e'
  have nf : ∀ a, s.heap.get? a = none → ∀ y q, σ y = some q → a ∉ fp y := fun a e y q hq hm => by
    obtain ⟨_, u, _, hr, _⟩ := K.val y q hq
    obtain ⟨o, e'⟩ := hr.there a hm
    rw [e] at e'; cases e'
  unfold putV at hput
  split at hput
  · rename_i hlen
    have ea₂ := kp.get _ _ ea
    -- the head is not among the new item's parts
    have main : ∀ (hcase : m = .deep ∨ x ∉ ns), a ∉ as := fun hcase hm => by
      rcases ha a hm with ⟨z, q, hz, hq, hf⟩ | h1
      · rcases hcase with hc | hc
        · have := (hdp hc).1 a hm
          rw [ea] at this; cases this
        · exact hne z q (fun e => hc (e ▸ hz)) hq hf
      · rw [ea] at h1; cases h1
    have rv' : (hcase : m = .deep ∨ x ∉ ns) → RV prog w h' (.ref a) (.d (.list zs)) (a :: bs') := fun hcase => by
      refine ⟨.list ea' (rr.off (wr := [a]) (fun b hb o e => .inr ?_) fun b o hb e => hs.extBut b o (fun q => hb (by simp [q])) e), sz_list.mpr ⟨?_, hz⟩⟩
      · rw [List.mem_singleton.mp hb] at e ⊢
        rw [ea₂] at e; cases e
        exact ⟨by simp, fun hm => (hbs a hm).elim hab (main hcase)⟩
      · unfold lim at hlen; omega
    have pb : ∀ b ∈ bs', b ≠ env.locals ∧ (P b ∨ h0.get? b = none) := fun b hb => by
      rcases hbs b hb with h1 | h1
      · exact hP b (.tail _ h1)
      · rcases ha b h1 with h2 | h2
        · exact (K.own h2).2
        · refine ⟨fun q => ?_, .inr ?_⟩
          · obtain ⟨m', ⟨o, _, _, e, _⟩, _⟩ := K.loc.ns
            rw [← q] at e
            rw [h2] at e; cases e
          · cases e : h0.get? b with
            | none => rfl
            | some o => rw [(K.z0 b o e).2] at h2; cases h2
    have abs : (hcase : m = .deep ∨ x ∉ ns) → a ∉ bs' := fun hcase hm => (hbs a hm).elim hab (main hcase)
    split at hput
    · rename_i hmd
      cases hput
      refine ⟨rfl, _, (K.keep kp.get).write hx hv ea₂ (by simp) (fun _ q => by cases q) hZ hne (hP a (.head _)) hs (rv' (.inl hmd)) pb (fun _ => abs (.inl hmd)) (fun hdeep => ?_) fun y' q hy hq => ?_⟩
      · obtain ⟨g1, g2⟩ := hdx hdeep
        obtain ⟨g3, g4⟩ := hdp hmd
        refine ⟨fun b hb => ?_, List.nodup_cons.mpr ⟨abs (.inl hmd), hnd (List.nodup_append.mpr ⟨g2, g4, fun b hb c hc q => ?_⟩)⟩⟩
        · rcases hbs b hb with h1 | h1
          · exact g1 b h1
          · exact ⟨nz b (g3 b h1), fun y q _ hq => nf b (g3 b h1) y q hq⟩
        · subst q
          exact nf b (g3 b hc) x _ hx (by rw [hfp]; exact .tail _ hb)
      · have g3 := (hdp hmd).1
        refine ⟨fun ht b cs e hm => ?_, fun hd b hb hm => ?_⟩
        · obtain ⟨b', cs', e', _, _, h4⟩ := K.top y' q hq ht
          rw [e] at e'; cases e'
          rcases hbs b hm with h1 | h1
          · exact h4 x _ (Ne.symm hy) hx (by rw [hfp]; exact .tail _ h1)
          · exact nf b (g3 b h1) y' q hq (by rw [e]; exact .head _)
        · rcases hbs b hm with h1 | h1
          · exact ((K.deep y' q hq hd).1 b hb).2 x _ (Ne.symm hy) hx (by rw [hfp]; exact .tail _ h1)
          · exact nf b (g3 b h1) y' q hq hb
    · split at hput
      · cases hput
      · rename_i hmd hxn
        cases hput
        have hx' : Mine.demote σ ns x = some (V.d (.list xs), mx) := by unfold Mine.demote; rw [if_neg hxn]; exact hx
        refine ⟨rfl, _, ((K.keep kp.get).demote ns).write hx' hv ea₂ (by simp) (fun _ q => by cases q) hZ (fun y' q hy hq => ?_) (hP a (.head _)) hs (rv' (.inr hxn)) pb (fun _ => abs (.inr hxn)) (fun hdeep => by cases hdeep) fun y' q hy hq => ?_⟩
        · obtain ⟨q', hq', _⟩ := demote_some hq
          exact hne y' q' hy hq'
        · obtain ⟨q', hq', e1, hc⟩ := demote_some hq
          rcases hc with ⟨_, rfl⟩ | ⟨hn, rfl⟩
          · refine ⟨fun h => absurd h mk_top, fun h b hb => ?_⟩
            obtain ⟨_, u, _, hr, _⟩ := K.val y' q' hq'
            rw [hr.scal_nil (mk_deep h)] at hb
            cases hb
          · refine ⟨fun ht b cs e hm => ?_, fun hd b hb hm => ?_⟩
            · obtain ⟨b', cs', e', _, _, h4⟩ := K.top y' q hq' ht
              rw [e] at e'; cases e'
              rcases hbs b hm with h1 | h1
              · exact h4 x _ (Ne.symm hy) hx (by rw [hfp]; exact .tail _ h1)
              · rcases ha b h1 with ⟨z, p, hz, hp, hf⟩ | h2
                · exact h4 z p (fun q => hn (q ▸ hz)) hp hf
                · exact nf b h2 y' q hq' (by rw [e]; exact .head _)
            · rcases hbs b hm with h1 | h1
              · exact ((K.deep y' q hq' hd).1 b hb).2 x _ (Ne.symm hy) hx (by rw [hfp]; exact .tail _ h1)
              · rcases ha b h1 with ⟨z, p, hz, hp, hf⟩ | h2
                · exact ((K.deep y' q hq' hd).1 b hb).2 z p (fun q => hn (q ▸ hz)) hp hf
                · exact nf b h2 y' q hq' hb
  · cases hput

theorem inter {env : Env} (eok : EnvOk env) : interactive env = false := by unfold interactive; rw [eok.kind]; rfl

theorem simS_append {x : String} {e : E} (S : SimE prog w fns k C XP e) : SimS prog w fns k C (.append x e) := by
  intro stmt h0 P Z A env σ vals fp s Q Er σ' fl ok K he hN hR
  replace ok := i_sappend ok
  rcases ok with ⟨_, _, _, _, _, _, _, rfl, ok⟩ | ok
  · rename_i t pt mm ap v pos spos
    simp only [Bool.and_eq_true, beq_iff_eq] at ok
    obtain ⟨⟨⟨⟨rfl, hl⟩, rfl⟩, hb⟩, oe⟩ := ok
    obtain ⟨h1, h2, h3⟩ := bnd hb
    simp only [ex] at he
    obtain ⟨r, hr, he⟩ := Out.bind_ok he
    obtain ⟨ry, m⟩ := r
    dsimp only at he
    split at he
    · rename_i y vv mx hx0
      split at he
      rotate_left
      · cases he
      rename_i xs hxx
      cases lstV_some hxx
      have hx := hx0
      split at he
      · cases he
      · rename_i hmx
        obtain ⟨a, vs, n, bs, hv, ea, ra, hfp, hz, hZ, hab, hne, hP, hdx⟩ := K.head hx hmx
        refine wpAny_Expr_any (wpAny_Call_append rfl (by rw [star_plain oe]; rfl) (by simpa using hl) (by rw [star_plain oe]; rfl) ?_) (inter K.eok)
        refine wp_var K.eok.kind h2 (K.loc.var K.eok hv) ⟨a, vs.toArray, rfl, ⟨_, n, ea, rfl, rfl, rfl⟩, K.eval S oe hr fun u s₂ E => ?_⟩
        obtain ⟨kp, as, ⟨ru, zu⟩, ha, ht, hd⟩ := E
        have hlen := ra.length
        have hzl := (sz_list.mp hz)
        refine wpAny_list_append_plain (hsz := by rw [List.size_toArray, hlen]; unfold sizeLine; omega) ⟨n, kp.get _ _ ea⟩ fun h' hp hs => ?_
        obtain ⟨n', ep⟩ := hp
        have := K.putl kp ha hd hx he hmx hv ea hfp hZ hab hne hP hdx hs (vs' := vs ++ [u]) (by simpa using ep) ((ra.keep kp.get).append (.cons ru .nil)) (fun z hz' => by
          rcases List.mem_append.mp hz' with h | h
          · exact hzl.2 z h
          · rw [List.mem_singleton.mp h]; exact zu) (fun b hb => by
          rcases List.mem_append.mp hb with h | h
          · exact .inl h
          · exact .inr (by simpa using h)) (fun h => by simpa using h)
        obtain ⟨hfl, fp', K'⟩ := this
        obtain ⟨hh, tk, rfl, kk⟩ := kp
        exact hN hfl _ vals fp' ⟨h', tk, rfl, fun b o hz e => hs.extBut b o (fun q => hz.elim (fun hz => hZ (q ▸ hz)) fun hz => by subst q; rw [ea] at e; cases e; simp at hz) (kk b o e)⟩ K'
    · cases he
  · cases ok

theorem RA.split {h : Heap} {vs : List Value} {xs : List PyData} {bs : List Addr} (r : RA h vs xs bs) (i : Nat) : ∃ b1 b2, bs = b1 ++ b2 ∧ RA h (vs.take i) (xs.take i) b1 ∧ RA h (vs.drop i) (xs.drop i) b2 := by
  induction i generalizing vs xs bs with
  | zero => exact ⟨[], bs, rfl, by simpa using RA.nil, by simpa using r⟩
  | succ i ih =>
    cases r with
    | nil => exact ⟨[], [], rfl, by simpa using RA.nil, by simpa using RA.nil⟩
    | cons x r =>
      obtain ⟨b1, b2, rfl, q1, q2⟩ := ih r
      exact ⟨_ ++ b1, b2, by rw [List.append_assoc], by simpa using RA.cons x q1, by simpa using q2⟩

theorem ins_eq (l : List Value) (k : Nat) (y : Value) : (l.toArray.extract 0 k).push y ++ l.toArray.extract k = (l.take k ++ y :: l.drop k).toArray := by
  apply Array.toList_inj.mp
  simp
  exact List.take_of_length_le (by simp)

theorem simS_insert (hXP : ∀ c s s₁ x s', Kp s s₁ → XP c s₁ x s' → XP c s x s') {x : String} {i e : E} (Si : SimE prog w fns k C XP i) (S : SimE prog w fns k C XP e) : SimS prog w fns k C (.insert x i e) := by
  intro stmt h0 P Z A env σ vals fp s Q Er σ' fl ok K he hN hR
  replace ok := i_sinsert ok
  rcases ok with ⟨_, _, _, _, _, _, _, _, rfl, ok⟩ | ok
  · rename_i t pt mm ap vi v pos spos
    simp only [Bool.and_eq_true, beq_iff_eq] at ok
    obtain ⟨⟨⟨⟨⟨rfl, hl⟩, rfl⟩, hb⟩, oi⟩, oe⟩ := ok
    obtain ⟨h1, h2, h3⟩ := bnd hb
    simp only [ex] at he
    obtain ⟨q, hq, he1⟩ := Out.bind_ok he
    clear he
    obtain ⟨r, hr, he⟩ := Out.bind_ok he1
    clear he1
    obtain ⟨ri, mi⟩ := q
    obtain ⟨ry, m⟩ := r
    dsimp only at he
    split at he
    · rename_i j y vv mx hx0
      split at he
      rotate_left
      · cases he
      rename_i xs hxx
      cases lstV_some hxx
      have hx := hx0
      split at he
      · cases he
      · rename_i hmx
        have hmx' : mx ≠ .sh := fun q => hmx (.inl q)
        have hj0 : 0 ≤ j := by
          apply Int.not_lt.mp
          exact fun q => hmx (.inr (.inl q))
        have hjl : j ≤ xs.length := by
          apply Int.not_lt.mp
          exact fun q => hmx (.inr (.inr q))
        obtain ⟨a, vs, n, bs, hv, ea, ra, hfp, hz, hZ, hab, hne, hP, hdx⟩ := K.head hx hmx'
        have hlen := ra.length
        have hzl := (sz_list.mp hz)
        refine wpAny_Expr_any (wpAny_Call_method (T := "list") (id := "list.insert") rfl (by rw [star_plain oi, star_plain oe]; rfl) (by simpa using hl) F.plainAttrs_list F.slot_list_insert F.type_list_insert ?_) (inter K.eok)
        refine wp_var K.eok.kind h2 (K.loc.var K.eok hv) ⟨⟨_, ea, rfl⟩, fun b hb => ?_, ?_⟩
        · cases hb; exact ⟨_, ea, rfl⟩
        have fin : wpAny (model prog w) A (spliced (backTo pos (starEach [vi, v] env))) (fun ws s₁ => wpAny (model prog w) A (call (.builtin "list.insert") ([.ref a] ++ ws)) (fun _ => Q .next) Er s₁) Er s := by
          refine wpAny_items_cons ?_ (star_plain oi _ env)
          refine K.eval Si oi hq fun vj s₁ Ei => ?_
          refine wp_one _ oe ((K.keep Ei.keeps.get).eval S oe hr fun u s₂ E => ?_)
          obtain ⟨ki, is, ⟨rj, _⟩, _⟩ := Ei
          cases rj
          obtain ⟨kp, as, ⟨ru, zu⟩, ha, ht, hd⟩ := E
          have kk := ki.trans kp
          refine call_meets F.slot_list_insert ⟨_, kk.get _ _ ea, rfl⟩ F.entry_list_insert (F.args_list_insert_3 _ _ _) (AutoSeq1.list_insert_list_int_val_1 a _ n j _ u ?_ ?_) ⟨kk.get _ _ ea, ?_⟩
          · have : Builtin.List.listFitsIndex j = true := by
              unfold Builtin.List.listFitsIndex
              simp
              omega
            simp [this]
          · rw [List.size_toArray, hlen]; unfold sizeLine; omega
          · obtain ⟨b1, b2, hb12, q1, q2⟩ := (ra.keep kk.get).split j.toNat
            have hup := IsL.update (kk.get _ _ ea) (fun xs : Array Value => (xs.extract 0 (if j < 0 then (j + ((xs.size : Nat) : Int)).toNat else min j.toNat xs.size)).push u ++ xs.extract (if j < 0 then (j + ((xs.size : Nat) : Int)).toNat else min j.toNat xs.size))
            have hmin : (if j < 0 then (j + ((vs.toArray.size : Nat) : Int)).toNat else min j.toNat vs.toArray.size) = j.toNat := by
              rw [if_neg (by omega), List.size_toArray, hlen]; omega
            obtain ⟨n', hup'⟩ : ∃ n', IsL (s₂.heap.update a (Obj.mapSeq fun xs : Array Value => (xs.extract 0 (if j < 0 then (j + ((xs.size : Nat) : Int)).toNat else min j.toNat xs.size)).push u ++ xs.extract (if j < 0 then (j + ((xs.size : Nat) : Int)).toNat else min j.toNat xs.size))) a (vs.take j.toNat ++ u :: vs.drop j.toNat).toArray n' := by
              have := hup
              rw [hmin, ins_eq] at this
              exact ⟨_, this⟩
            have := K.putl kk (as := as) (fun b hb => (ha b hb).imp (fun h => h) ki.none) (fun h => ⟨fun b hb => ki.none ((hd h).1 b hb), (hd h).2⟩) hx he hmx' hv ea hfp hZ hab hne hP hdx (Heap.SameBut.update ..) hup' (q1.append (.cons ru q2)) (fun z hz' => by
              rcases List.mem_append.mp hz' with h | h
              · exact hzl.2 z (List.mem_of_mem_take h)
              rcases List.mem_cons.mp h with rfl | h
              · exact zu
              · exact hzl.2 z (List.mem_of_mem_drop h)) (fun b hb => by
              rw [hb12]
              rcases List.mem_append.mp hb with h | h
              · exact .inl (List.mem_append_left _ h)
              rcases List.mem_append.mp h with h | h
              · exact .inr h
              · exact .inl (List.mem_append_right _ h)) (fun h => by
              rw [hb12] at h
              have p : (b1 ++ b2 ++ as).Perm (b1 ++ (as ++ b2)) := by
                rw [List.append_assoc]
                exact List.Perm.append_left b1 List.perm_append_comm
              exact p.nodup_iff.mp h)
            obtain ⟨hfl, fp', K'⟩ := this
            obtain ⟨hh, tk, rfl, kk'⟩ := kk
            exact hN hfl _ vals fp' ⟨_, tk, rfl, fun b o hz e => (Heap.SameBut.update ..).extBut b o (fun q => hz.elim (fun hz => hZ (q ▸ hz)) fun hz => by subst q; rw [ea] at e; cases e; simp at hz) (kk' b o e)⟩ K'
        rw [star_plain oi] at fin ⊢
        exact Calls.callWith_builtin (by rw [star_plain oe]; rfl) (Calls.evalArgs_plain (wpAny_mono fin (fun vs s₁ h₁ => h₁) fun _ _ e => e))
    · cases he
  · cases ok
end
end Mine

namespace Mine
open PySem PyProof.Rows

section
variable {prog : Program} {w : World} {fns : Fns} {k : Nat} {C : Calls} {XP : String → Shared → Value → Shared → Prop}
variable {h0 : Heap} {P Z : Addr → Prop} {A : Around} {env : Env} {σ : St} {vals : String → Option Value} {fp : String → List Addr}

theorem RA.erase {h : Heap} : ∀ {vs : List Value} {xs : List PyData} {bs : List Addr} (i : Nat), RA h vs xs bs → ∃ bs', RA h (vs.eraseIdx i) (xs.eraseIdx i) bs' ∧ ∀ b ∈ bs', b ∈ bs
  | _, _, _, _, .nil => ⟨[], by simpa using RA.nil, fun _ h => (nomatch h)⟩
  | _, _, _, 0, .cons x r => ⟨_, by simpa using r, fun b hb => List.mem_append_right _ hb⟩
  | _, _, _, i + 1, .cons x r => by
    obtain ⟨bs', q, hs⟩ := RA.erase i r
    exact ⟨_, by simpa using RA.cons x q, fun b hb => (List.mem_append.mp hb).elim (List.mem_append_left _) fun h => List.mem_append_right _ (hs b h)⟩

theorem erase_eq (l : List Value) (i : Nat) : l.toArray.eraseIdxIfInBounds i = (l.eraseIdx i).toArray := by
  apply Array.toList_inj.mp
  unfold Array.eraseIdxIfInBounds
  split
  · simp
  · rename_i h
    simp at h
    simp [List.eraseIdx_of_length_le h]

theorem simS_pop {x : String} {i : E} (Si : SimE prog w fns k C XP i) : SimS prog w fns k C (.pop x i) := by
  intro stmt h0 P Z A env σ vals fp s Q Er σ' fl ok K he hN hR
  replace ok := i_spop ok
  rcases ok with ⟨_, _, _, _, _, _, _, rfl, ok⟩ | ok
  · rename_i t pt mm ap vi pos spos
    simp only [Bool.and_eq_true, beq_iff_eq] at ok
    obtain ⟨⟨⟨⟨rfl, hl⟩, rfl⟩, hb⟩, oi⟩ := ok
    obtain ⟨h1, h2, h3⟩ := bnd hb
    simp only [ex] at he
    obtain ⟨q, hq, he1⟩ := Out.bind_ok he
    clear he
    obtain ⟨ri, mi⟩ := q
    dsimp only at he1
    split at he1
    · rename_i j vv mx hx0
      split at he1
      rotate_left
      · cases he1
      rename_i xs hxx
      cases lstV_some hxx
      have hx := hx0
      split at he1
      · cases he1
      · rename_i hmx
        cases he1
        have hmx' : mx ≠ .sh := fun q => hmx (.inl q)
        have hj0 : 0 ≤ j := Int.not_lt.mp fun q => hmx (.inr (.inl q))
        have hjl : j < xs.length := Int.not_le.mp fun q => hmx (.inr (.inr q))
        obtain ⟨a, vs, n, bs, hv, ea, ra, hfp, hz, hZ, hab, hne, hP, hdx⟩ := K.head hx hmx'
        have hlen := ra.length
        have hzl := (sz_list.mp hz)
        refine wpAny_Expr_any (wpAny_Call_method (T := "list") (id := "list.pop") rfl (by rw [star_plain oi]; rfl) (by simpa using hl) F.plainAttrs_list F.slot_list_pop F.type_list_pop ?_) (inter K.eok)
        refine wp_var K.eok.kind h2 (K.loc.var K.eok hv) ⟨⟨_, ea, rfl⟩, fun b hb => ?_, ?_⟩
        · cases hb; exact ⟨_, ea, rfl⟩
        have fin : wpAny (model prog w) A (spliced (backTo pos (starEach [vi] env))) (fun ws s₁ => wpAny (model prog w) A (call (.builtin "list.pop") ([.ref a] ++ ws)) (fun _ => Q .next) Er s₁) Er s := by
          refine wp_one _ oi (K.eval Si oi hq fun vj s₂ Ei => ?_)
          obtain ⟨kk, is, ⟨rj, _⟩, _⟩ := Ei
          cases rj
          have hlt : j.toNat < vs.length := by omega
          refine call_meets F.slot_list_pop ⟨_, kk.get _ _ ea, rfl⟩ F.entry_list_pop (F.args_list_pop_2 _ _) (PySem.MeetsSeq.list_pop_at a vs.toArray n j _ j.toNat vs[j.toNat] ?_ ?_ ?_ ?_) ⟨kk.get _ _ ea, ?_⟩
          · unfold Builtin.List.listFitsIndex
            simp
            omega
          · unfold seqIndex?
            rw [List.size_toArray, hlen]
            simp only [if_neg (Int.not_lt.mpr hj0)]
            simp [hj0, hjl]
          · simp [hlt]
          · rw [List.size_toArray, hlen]; unfold sizeLine; omega
          · obtain ⟨bs', q1, q2⟩ := (ra.keep kk.get).erase j.toNat
            obtain ⟨n', hup⟩ : ∃ n', IsL (s₂.heap.update a (Obj.mapSeq fun xs => xs.eraseIdxIfInBounds j.toNat)) a (vs.eraseIdx j.toNat).toArray n' := by
              have := IsL.update (kk.get _ _ ea) (fun xs : Array Value => xs.eraseIdxIfInBounds j.toNat)
              rw [erase_eq] at this
              exact ⟨_, this⟩
            have hs : Heap.SameBut a s₂.heap (s₂.heap.update a (Obj.mapSeq fun xs => xs.eraseIdxIfInBounds j.toNat)) := Heap.SameBut.update ..
            have hab' : a ∉ bs' := fun h => hab (q2 a h)
            have rv : RV prog w (s₂.heap.update a (Obj.mapSeq fun xs => xs.eraseIdxIfInBounds j.toNat)) (.ref a) (.d (.list (xs.eraseIdx j.toNat))) (a :: bs') := by
              refine ⟨.list hup (q1.off (wr := [a]) (fun b hb o e => .inr ?_) fun b o hb e => hs.extBut b o (fun q => hb (by simp [q])) e), sz_list.mpr ⟨Nat.le_trans (List.length_eraseIdx_le ..) hzl.1, fun z hz => hzl.2 z (List.mem_of_mem_eraseIdx hz)⟩⟩
              rw [List.mem_singleton.mp hb] at e ⊢
              rw [kk.get _ _ ea] at e; cases e
              exact ⟨by simp, hab'⟩
            have K' := (K.keep kk.get).write (m' := .top) hx hv (kk.get _ _ ea) (by simp) (fun _ q => by cases q) hZ hne (hP a (.head _)) hs rv (fun b hb => hP b (.tail _ (q2 b hb))) (fun _ => hab') (fun h => by cases h) fun y' q hy hq => ⟨fun ht b cs e hm => by
              obtain ⟨b', cs', e', _, _, h4⟩ := K.top y' q hq ht
              rw [e] at e'; cases e'
              exact h4 x _ (Ne.symm hy) hx (by rw [hfp]; exact .tail _ (q2 b hm)), fun hd b hb hm => ((K.deep y' q hq hd).1 b hb).2 x _ (Ne.symm hy) hx (by rw [hfp]; exact .tail _ (q2 b hm))⟩
            obtain ⟨hh, tk, rfl, kk'⟩ := kk
            exact hN rfl _ vals _ ⟨_, tk, rfl, fun b o hz e => hs.extBut b o (fun q => hz.elim (fun hz => hZ (q ▸ hz)) fun hz => by subst q; rw [ea] at e; cases e; simp at hz) (kk' b o e)⟩ K'
        rw [star_plain oi] at fin ⊢
        exact Calls.callWith_builtin rfl (Calls.evalArgs_plain (wpAny_mono fin (fun vs s₁ h₁ => h₁) fun _ _ e => e))
    · cases he1
  · cases ok

/-- a dict of a name -/
theorem SOK.dict {x : String} {v : V} {h : Heap} (K : SOK prog w fns k h0 P Z A env h σ vals fp) (hx : σ x = some (v, .deep)) {a : Addr} (hfp : fp x = [a]) :
    ¬ Z a ∧ (∀ y q, y ≠ x → σ y = some q → a ∉ fp y) ∧ a ≠ env.locals ∧ (P a ∨ h0.get? a = none) := by
  obtain ⟨h1, _⟩ := K.deep x _ hx rfl
  obtain ⟨_, u, _, _, h2⟩ := K.val x _ hx
  have hm : a ∈ fp x := by rw [hfp]; exact .head _
  exact ⟨(h1 a hm).1, (h1 a hm).2, h2 a hm⟩

theorem stored_ints (ks : List Int) (i : Int) : stored (ks.map fun k => (k, Value.bool true)) i (.bool true) = (if i ∈ ks then ks else ks ++ [i]).map fun k => (k, .bool true) := by
  unfold stored
  by_cases hi : i ∈ ks
  · rw [if_pos (by simpa using hi), if_pos hi, List.map_map]
    apply List.map_congr_left
    intro a _
    simp only [Function.comp]
    split <;> rfl
  · rw [if_neg (by simpa using hi), if_neg hi, List.map_append]
    rfl
theorem storedH_keys (xs : List (List Int × Addr × Value)) (t : List Int) (a : Addr) (v : Value) : (storedH xs t a v).map (·.1) = if t ∈ xs.map (·.1) then xs.map (·.1) else xs.map (·.1) ++ [t] := by
  unfold storedH
  rw [atKey_isSome]
  by_cases hi : t ∈ xs.map (·.1)
  · rw [if_pos (by simpa using hi), if_pos hi, List.map_map]
    apply List.map_congr_left
    intro y _
    simp only [Function.comp, putAt]
    split <;> rfl
  · rw [if_neg (by simpa using hi), if_neg hi, List.map_append]
    rfl

theorem intsOf_len : ∀ {xs : List PyData} {ns : List Int}, intsOf xs = some ns → ns.length = xs.length
  | [], ns, h => by simp [intsOf] at h; subst h; rfl
  | y :: xs, ns, h => by
    cases y <;> simp only [intsOf] at h <;> try (cases h)
    obtain ⟨ms, e, rfl⟩ := Option.map_eq_some_iff.mp h
    rw [List.length_cons, List.length_cons, intsOf_len e]
theorem keyT_len {x : PyData} {t : List Int} (h : keyT x = some t) (z : sz x = true) : t.length ≤ 2 ^ 22 := by
  cases x <;> simp only [keyT] at h <;> try (cases h)
  rw [intsOf_len h]
  exact (sz_tuple.mp z).1

theorem simS_setitem {x : String} {e : E} (S : SimE prog w fns k C XP e) : SimS prog w fns k C (.setitem x e) := by
  intro stmt h0 P Z A env σ vals fp s Q Er σ' fl ok K he hN hR
  replace ok := i_ssetitem ok
  rcases ok with ⟨_, _, _, _, _, _, _, rfl, ok⟩ | ok
  · rename_i t pt ix ps c1 c2 spos
    simp only [Bool.and_eq_true, beq_iff_eq] at ok
    obtain ⟨⟨rfl, hb⟩, oe⟩ := ok
    obtain ⟨h1, h2, h3⟩ := bnd hb
    simp only [ex] at he
    obtain ⟨r, hr, he1⟩ := Out.bind_ok he
    clear he
    obtain ⟨ri, mi⟩ := r
    dsimp only at he1
    split at he1
    · rename_i kd v hx
      refine wpAny_Assign_Subscript (wpAny_Constant_bool ?_)
      obtain ⟨_, u, hv, hrv, _⟩ := K.val x _ hx
      dsimp only at hrv
      refine wp_var K.eok.kind h2 (K.loc.var K.eok hv) (K.eval S oe hr fun vk s₂ E => ?_)
      obtain ⟨kk, is, ⟨rk, zk⟩, _⟩ := E
      have K₂ := K.keep kk.get
      have hrv₂ := hrv.keep kk.get
      -- the end, for all kinds
      have fin : ∀ {a : Addr} {o : Obj} {v' : V} {h' : Heap} {tk' : Nat}, u = .ref a → fp x = [a] → s₂.heap.get? a = some o → o.ExactDict → (∃ es ep, o.data = .dict es ep) → Heap.SameBut a s₂.heap h' → RV prog w h' (.ref a) v' [a] → σ' = upd σ x (v', .deep) → fl = .next → Q .next { s₂ with heap := h', toks := tk' } := fun {a} {o} {v'} {h'} {tk'} hu hfp ho hox hdd hs rv hσ hfl => by
        subst hu hσ
        obtain ⟨d1, d2, d3, d4⟩ := K.dict hx hfp
        have hoc : o.cls ≠ .type "tuple" := fun q => by
          rw [hox.1] at q; simp at q
        have hod : ∀ v, o.data ≠ .cell v := fun v q => by
          obtain ⟨es, ep, e⟩ := hdd
          rw [e] at q; cases q
        have K' := K₂.write (m' := .deep) (bs' := []) hx hv ho hoc hod d1 d2 ⟨d3, d4⟩ hs rv (fun _ h => (nomatch h)) (fun _ h => (nomatch h)) (fun _ => ⟨fun _ h => (nomatch h), by simp⟩) fun y q hy hq => ⟨fun _ _ _ _ h => (nomatch h), fun _ _ _ h => (nomatch h)⟩
        obtain ⟨hh, tk, rfl, kk'⟩ := kk
        refine hN hfl _ vals _ ⟨h', tk', rfl, fun b o' hz e => hs.extBut b o' (fun q => hz.elim (fun hz => d1 (q ▸ hz)) fun hz => ?_) (kk' b o' e)⟩ K'
        subst q
        rw [kk' _ _ e] at ho; cases ho
        exact hoc hz.1
      cases v with
      | dic0 =>
        obtain ⟨a, rfl, hfp, hsm, hdI, hdT⟩ := hrv₂
        simp only [setV] at he1
        split at he1
        · rename_i i hi
          cases he1
          cases rk <;> cases hi
          have hd' := hdI
          obtain ⟨o, es, ep, ho, hox, hdd, _⟩ := hd'
          refine wpAny_setItem_pairs (intKind_is prog w _ _) hdI (fun h' hm' hs => fin (v' := .dicI [_]) rfl hfp ho hox ⟨_, _, hdd⟩ hs ⟨a, rfl, rfl, hsm, ?_⟩ rfl rfl) (by simp [sizeLine])
          simpa [stored] using hm'
        · split at he1
          · rename_i t ht
            cases he1
            obtain ⟨a', rfl, hk⟩ := tupleKey_of (prog := prog) (w := w) rk ht
            have hd' := hdT
            obtain ⟨o, es, ep, ho, hox, hdd, _⟩ := hd'
            refine wpAny_setItem_heap (tupleKind_room_in1 (by have := K.room.2.2; omega)) hk hdT (fun h' hm' hs => fin (v' := .dicT [_]) rfl hfp ho hox ⟨_, _, hdd⟩ hs ⟨a, _, rfl, rfl, hsm, hm', ?_, ?_⟩ rfl rfl) (by simp [sizeLine])
            · rw [storedH_keys]; simp
            · intro z hz
              rw [List.mem_singleton.mp hz]
              exact keyT_len ht zk
          · cases he1
      | dicI ks =>
        obtain ⟨a, rfl, hfp, hsm, hdI⟩ := hrv₂
        simp only [setV] at he1
        split at he1
        · rename_i i hi
          split at he1
          · rename_i hlen
            cases he1
            cases rk <;> cases hi
            have hd' := hdI
            obtain ⟨o, es, ep, ho, hox, hdd, _⟩ := hd'
            refine wpAny_setItem_pairs (intKind_is prog w _ _) hdI (fun h' hm' hs => fin (v' := .dicI _) rfl hfp ho hox ⟨_, _, hdd⟩ hs ⟨a, rfl, rfl, hsm, ?_⟩ rfl rfl) (by rw [List.length_map]; unfold lim at hlen; unfold sizeLine; omega)
            rw [stored_ints] at hm'
            exact hm'
          · cases he1
        · cases he1
      | dicT ks =>
        obtain ⟨a, xs, rfl, hfp, hsm, hdT, rfl, hks⟩ := hrv₂
        simp only [setV] at he1
        split at he1
        · rename_i t ht
          split at he1
          · rename_i hlen
            cases he1
            obtain ⟨a', rfl, hk⟩ := tupleKey_of (prog := prog) (w := w) rk ht
            have hd' := hdT
            obtain ⟨o, es, ep, ho, hox, hdd, _⟩ := hd'
            refine wpAny_setItem_heap (tupleKind_room_in1 (by have := K.room.2.2; omega)) hk hdT (fun h' hm' hs => fin (v' := .dicT _) rfl hfp ho hox ⟨_, _, hdd⟩ hs ⟨a, _, rfl, rfl, hsm, hm', ?_, ?_⟩ rfl rfl) (by rw [List.length_map] at hlen; unfold lim at hlen; unfold sizeLine; omega)
            · rw [storedH_keys]
            · intro z hz
              split at hz
              · exact hks z hz
              · rcases List.mem_append.mp hz with h | h
                · exact hks z h
                · rw [List.mem_singleton.mp h]; exact keyT_len ht zk
          · cases he1
        · cases he1
      | _ => simp only [setV] at he1; cases he1
    · cases he1
  · cases ok

/-! one more item in a list within a name's value -/
def AtV (h : Heap) : List Int → Value → Value → Prop
  | [], v, u => u = v
  | k :: p, v, u => ∃ v1, ItemV h v k v1 ∧ AtV h p v1 u
theorem AtV.snoc {h : Heap} {k : Int} {u u1 : Value} (i : ItemV h u k u1) : ∀ {p : List Int} {v : Value}, AtV h p v u → AtV h (p ++ [k]) v u1
  | [], v, a => ⟨u1, a ▸ i, rfl⟩
  | j :: p, v, a => let ⟨v1, b, a⟩ := a; ⟨v1, b, AtV.snoc i a⟩
theorem ItemV.keep {h h' : Heap} {v u : Value} {k : Int} (i : ItemV h v k u) (kp : ∀ b o, h.get? b = some o → h'.get? b = some o) : ItemV h' v k u := let ⟨a, T, vs, n, j, e1, e2, e3⟩ := i; ⟨a, T, vs, n, j, e1, kp _ _ e2, e3⟩
theorem AtV.keep {h h' : Heap} {u : Value} (kp : ∀ b o, h.get? b = some o → h'.get? b = some o) : ∀ {p : List Int} {v : Value}, AtV h p v u → AtV h' p v u
  | [], _, a => a
  | _ :: _, _, a => let ⟨v1, b, a⟩ := a; ⟨v1, b.keep kp, AtV.keep kp a⟩

theorem evP_sim (S : ∀ i, SimE prog w fns k C XP i) {s : Shared} {x : String} {d : PyData} {v0 : Value} {Er : Value → Shared → Prop} (K : SOK prog w fns k h0 P Z A env s.heap σ vals fp) (hv : vals x = some v0) (hr : R s.heap v0 d (fp x)) (hz : sz d = true) :
    ∀ {is : Es} {exx : Expr} {p : List Int × PyData}, okP env.scope.names x is exx = true → evP C d is σ = .ok p → ∀ {Q : Value → Shared → Prop}, (∀ u s' bs, Kp s s' → AtV s'.heap p.1 v0 u → R s'.heap u p.2 bs → sz p.2 = true → Q u s') → wpAny (model prog w) A (eval exx env) Q Er s
  | .nil, exx, p, ok, he, Q, hQ => by
    obtain ⟨n, e1, h⟩ := anyO_inv ok
    obtain ⟨h1, h2⟩ := Bool.and_eq_true_iff.mp h
    rw [dName_inv e1, beq_iff_eq.mp h1]
    cases he
    exact wp_var K.eok.kind (bnd h2).2.1 (K.loc.var K.eok hv) (hQ v0 s (fp x) (.refl s) rfl hr hz)
  | .cons i r, exx, p, ok, he, Q, hQ => by
    obtain ⟨q, e1, h⟩ := anyO_inv ok
    obtain ⟨o1, o2⟩ := Bool.and_eq_true_iff.mp h
    rw [dSub_inv e1]
    obtain ⟨p1, hp1, he⟩ := Out.bind_ok he
    obtain ⟨r1, hr1, he⟩ := Out.bind_ok he
    obtain ⟨k1, hk1, he⟩ := optO_ok he
    obtain ⟨k2, hk2, he⟩ := optO_ok he
    obtain ⟨e2, he2, he⟩ := optO_ok he
    cases he
    refine Subscript_ (evP_sim S K hv hr hz o1 hp1 fun u s₁ bs kp at1 ru zu => ?_)
    refine (K.keep kp.get).eval (S i) o2 hr1 fun vb s₂ E => ?_
    obtain ⟨k2', cs, rb, _⟩ := E
    rw [asD_inv hk1, keyI_inv hk2] at rb
    obtain ⟨t, rfl, _⟩ := rb.1.isInt
    exact sub_item (subscripted_plain o2) he2 (ru.keep k2'.get) zu fun v ds it rv z hd => hQ v s₂ ds (kp.trans k2') (.snoc it (at1.keep k2'.get)) rv z

theorem RA.setAt {h : Heap} {vs : List Value} {xs : List PyData} {bs : List Addr} (r : RA h vs xs bs) : ∀ (j : Nat) {v : Value} {e : PyData}, vs[j]? = some v → xs[j]? = some e → ∃ b1 c b2, bs = b1 ++ (c ++ b2) ∧ R h v e c ∧
    ∀ h' e', (∀ u d cs, (∀ b ∈ cs, b ∈ b1 ∨ b ∈ b2) → R h u d cs → R h' u d cs) → R h' v e' c → RA h' vs (xs.set j e') bs := by
  refine RA.ind (N := fun vs xs bs => ∀ (j : Nat) {v : Value} {e : PyData}, vs[j]? = some v → xs[j]? = some e → ∃ b1 c b2, bs = b1 ++ (c ++ b2) ∧ R h v e c ∧
    ∀ h' e', (∀ u d cs, (∀ b ∈ cs, b ∈ b1 ∨ b ∈ b2) → R h u d cs → R h' u d cs) → R h' v e' c → RA h' vs (xs.set j e') bs) (fun j v e hv => by cases hv) (fun {v vs d ds as bs} x r ih j u e hv he => ?_) r
  have rest : ∀ (B : Addr → Prop) (h' : Heap) {vs : List Value} {ds : List PyData} {bs : List Addr}, RA h vs ds bs → (∀ b ∈ bs, B b) → (∀ u d cs, (∀ b ∈ cs, B b) → R h u d cs → R h' u d cs) → RA h' vs ds bs := fun B h' _ _ _ r => RA.ind (N := fun vs ds bs => (∀ b ∈ bs, B b) → (∀ u d cs, (∀ b ∈ cs, B b) → R h u d cs → R h' u d cs) → RA h' vs ds bs) (fun _ _ => .nil)
    (fun x _ i hb k => .cons (k _ _ _ (fun b q => hb b (List.mem_append_left _ q)) x) (i (fun b q => hb b (List.mem_append_right _ q)) k)) r
  cases j with
  | zero =>
    cases hv; cases he
    exact ⟨[], as, bs, rfl, x, fun h' e' k q => .cons q (rest (fun b => b ∈ [] ∨ b ∈ bs) h' r (fun b hb => .inr hb) k)⟩
  | succ j =>
    obtain ⟨b1, c, b2, rfl, q1, q2⟩ := ih j hv he
    exact ⟨as ++ b1, c, b2, by rw [List.append_assoc], q1, fun h' e' k q => .cons (k _ _ _ (fun b hb => .inl (List.mem_append_left _ hb)) x) (q2 h' e' (fun u d cs hc => k u d cs fun b hb => (hc b hb).imp (List.mem_append_right _) id) q)⟩

theorem R.modP {h : Heap} {y : PyData} {u : Value} : ∀ (p : List Int) {v : Value} {d d' : PyData} {as : List Addr}, R h v d as → as.Nodup → modP y p d = some d' → AtV h p v u →
    ∃ a vs n, u = .ref a ∧ h.get? a = some ⟨.type "list", Option.none, .seq vs.toArray n, #[]⟩ ∧ a ∈ as ∧ vs.length < lim ∧
      ∀ (h' : Heap) (w : Value) (n' : Nat), (∀ b o, b ≠ a → h.get? b = some o → h'.get? b = some o) → h'.get? a = some ⟨.type "list", Option.none, .seq (vs ++ [w]).toArray n', #[]⟩ → R h' w y [] → R h' v d' as
  | [], v, d, d', as, r, nd, hm, at' => by
    replace hm := Option.bind_eq_some_iff.mp hm
    obtain ⟨xs, hx, hm⟩ := hm
    cases asL_inv hx
    by_cases hl : xs.length < lim
    · rw [if_pos hl] at hm
      cases hm
      obtain ⟨a, vs, n, bs, rfl, ea, ra, rfl⟩ := r.isList
      cases at'
      refine ⟨a, vs, n, rfl, ea, .head _, by rw [ra.length]; exact hl, fun h' w n' kp ea' rw' => ?_⟩
      have q : RA h' vs xs bs := ra.off (wr := [a]) (fun b hb o e => .inr (by
        rw [List.mem_singleton.mp hb] at e ⊢
        rw [ea] at e; cases e
        exact ⟨by simp, (List.nodup_cons.mp nd).1⟩)) fun b o hb e => kp b o (fun q => hb (by simp [q])) e
      have := R.list ea' (q.append (.cons rw' .nil))
      rwa [List.append_nil, List.append_nil] at this
    · rw [if_neg hl] at hm; cases hm
  | k :: p, v, d, d', as, r, nd, hm, at' => by
    obtain ⟨v1, ⟨a0, T, vs0, n0, j0, rfl, ea0, hj0, hv0⟩, at'⟩ := at'
    unfold Mine.modP at hm
    cases hx : asL d with
    | some xs =>
      rw [hx] at hm
      cases asL_inv hx
      replace hm := Option.bind_eq_some_iff.mp hm
      obtain ⟨j, hj, hm⟩ := hm
      replace hm := Option.bind_eq_some_iff.mp hm
      obtain ⟨e, he, hm⟩ := hm
      replace hm := Option.map_eq_some_iff.mp hm
      obtain ⟨e', he', rfl⟩ := hm
      obtain ⟨a1, vs, n, bs, e1, ea, ra, rfl⟩ := r.isList
      cases e1
      rw [ea] at ea0
      have hvs : vs = vs0 := by cases ea0; rfl
      subst hvs
      rw [ra.length] at hj0
      cases hj.symm.trans hj0
      obtain ⟨b1, c, b2, rfl, q1, q2⟩ := ra.setAt j0 hv0 he
      have nd2 := (List.nodup_cons.mp nd).2
      obtain ⟨n1, n2, n3⟩ := List.nodup_append.mp nd2
      obtain ⟨n4, n5, n6⟩ := List.nodup_append.mp n2
      obtain ⟨a, ws, m, rfl, eb, hac, hl, hu⟩ := R.modP p q1 n4 he' at'
      refine ⟨a, ws, m, rfl, eb, .tail _ (List.mem_append_right _ (List.mem_append_left _ hac)), hl, fun h' w n' kp ea' rw' => ?_⟩
      refine .list (kp _ _ (fun q => (List.nodup_cons.mp nd).1 (q ▸ List.mem_append_right _ (List.mem_append_left _ hac))) ea) (q2 h' e' (fun u d cs hc ru => ru.off (wr := [a]) (fun b hb o eo => .inr ?_) fun b o hb eo => kp b o (fun q => hb (by simp [q])) eo) (hu h' w n' kp ea' rw'))
      rw [List.mem_singleton.mp hb] at eo ⊢
      rw [eb] at eo; cases eo
      exact ⟨by simp, fun hm => (hc a hm).elim (fun h1 => n3 a h1 a (List.mem_append_left _ hac) rfl) fun h1 => n6 a hac a h1 rfl⟩
    | none =>
      rw [hx] at hm
      replace hm := Option.bind_eq_some_iff.mp hm
      obtain ⟨xs, ht, hm⟩ := hm
      cases asT_inv ht
      replace hm := Option.bind_eq_some_iff.mp hm
      obtain ⟨j, hj, hm⟩ := hm
      replace hm := Option.bind_eq_some_iff.mp hm
      obtain ⟨e, he, hm⟩ := hm
      replace hm := Option.map_eq_some_iff.mp hm
      obtain ⟨e', he', rfl⟩ := hm
      obtain ⟨a1, vs, n, e1, ea, ra⟩ := r.isTup
      cases e1
      rw [ea] at ea0
      have hvs : vs = vs0 := by cases ea0; rfl
      subst hvs
      rw [ra.length] at hj0
      cases hj.symm.trans hj0
      obtain ⟨b1, c, b2, rfl, q1, q2⟩ := ra.setAt j0 hv0 he
      obtain ⟨n1, n2, n3⟩ := List.nodup_append.mp nd
      obtain ⟨n4, n5, n6⟩ := List.nodup_append.mp n2
      obtain ⟨a, ws, m, rfl, eb, hac, hl, hu⟩ := R.modP p q1 n4 he' at'
      refine ⟨a, ws, m, rfl, eb, List.mem_append_right _ (List.mem_append_left _ hac), hl, fun h' w n' kp ea' rw' => ?_⟩
      refine .tuple (kp _ _ (fun q => by rw [q, eb] at ea; simp at ea) ea) (q2 h' e' (fun u d cs hc ru => ru.off (wr := [a]) (fun b hb o eo => .inr ?_) fun b o hb eo => kp b o (fun q => hb (by simp [q])) eo) (hu h' w n' kp ea' rw'))
      rw [List.mem_singleton.mp hb] at eo ⊢
      rw [eb] at eo; cases eo
      exact ⟨by simp, fun hm => (hc a hm).elim (fun h1 => n3 a h1 a (List.mem_append_left _ hac) rfl) fun h1 => n6 a hac a h1 rfl⟩

theorem modP_sz {y : PyData} (hy : sz y = true) : ∀ (p : List Int) {d d' : PyData}, modP y p d = some d' → sz d = true → sz d' = true
  | [], d, d', hm, hd => by
    replace hm := Option.bind_eq_some_iff.mp hm
    obtain ⟨xs, hx, hm⟩ := hm
    cases asL_inv hx
    by_cases hl : xs.length < lim
    · rw [if_pos hl] at hm
      cases hm
      have h := sz_list.mp hd
      unfold lim at hl
      exact sz_list.mpr ⟨by rw [List.length_append, List.length_singleton]; omega, fun x hx => (List.mem_append.mp hx).elim (h.2 x) fun q => List.mem_singleton.mp q ▸ hy⟩
    · rw [if_neg hl] at hm; cases hm
  | k :: p, d, d', hm, hd => by
    unfold modP at hm
    cases hx : asL d with
    | some xs =>
      rw [hx] at hm
      cases asL_inv hx
      replace hm := Option.bind_eq_some_iff.mp hm
      obtain ⟨j, hj, hm⟩ := hm
      replace hm := Option.bind_eq_some_iff.mp hm
      obtain ⟨e, he, hm⟩ := hm
      replace hm := Option.map_eq_some_iff.mp hm
      obtain ⟨e', he', rfl⟩ := hm
      have h := sz_list.mp hd
      exact sz_list.mpr ⟨by rw [List.length_set]; exact h.1, fun x hx => (List.mem_or_eq_of_mem_set hx).elim (h.2 x) fun q => q ▸ modP_sz hy p he' (h.2 e (List.mem_of_getElem? he))⟩
    | none =>
      rw [hx] at hm
      replace hm := Option.bind_eq_some_iff.mp hm
      obtain ⟨xs, ht, hm⟩ := hm
      cases asT_inv ht
      replace hm := Option.bind_eq_some_iff.mp hm
      obtain ⟨j, hj, hm⟩ := hm
      replace hm := Option.bind_eq_some_iff.mp hm
      obtain ⟨e, he, hm⟩ := hm
      replace hm := Option.map_eq_some_iff.mp hm
      obtain ⟨e', he', rfl⟩ := hm
      have h := sz_tuple.mp hd
      exact sz_tuple.mpr ⟨by rw [List.length_set]; exact h.1, fun x hx => (List.mem_or_eq_of_mem_set hx).elim (h.2 x) fun q => q ▸ modP_sz hy p he' (h.2 e (List.mem_of_getElem? he))⟩

theorem SOK.inner {h h' : Heap} {x : String} {d d' : PyData} {v0 : Value} {a : Addr} {o : Obj} (K : SOK prog w fns k h0 P Z A env h σ vals fp) (hx : σ x = some (.d d, .deep)) (hv : vals x = some v0) (ha : a ∈ fp x) (ho : h.get? a = some o) (hoc : o.cls ≠ .type "tuple") (hod : ∀ v, o.data ≠ .cell v)
    (hs : Heap.SameBut a h h') (rv : RV prog w h' v0 (.d d') (fp x)) : SOK prog w fns k h0 P Z A env h' (upd σ x (.d d', .deep)) vals fp := by
  obtain ⟨hd1, hd2⟩ := K.deep x _ hx rfl
  have hnz := (hd1 a ha).1
  have kz : ∀ b o, Z b → h.get? b = some o → h'.get? b = some o := fun b o hb e => hs.extBut b o (fun q => hnz (q ▸ hb)) e
  have back : ∀ y q, y ≠ x → upd σ x (.d d', .deep) y = some q → σ y = some q := fun y q hy hq => (if_neg hy).symm.trans hq
  have here : ∀ q, upd σ x (.d d', .deep) x = some q → q = (.d d', .deep) := fun q hq => (Option.some.inj ((if_pos rfl).symm.trans hq)).symm
  refine ⟨K.room, K.eok, K.ge, fun b o e => ⟨(K.z0 b o e).1, kz b o (K.z0 b o e).1 (K.z0 b o e).2⟩, fun b hb => let ⟨o, e⟩ := K.zdom b hb; ⟨o, kz b o hb e⟩, K.loc.offA ho hod ((K.val x _ hx).2.choose_spec.2.2 a ha).1 hs, fun y q hq => ?_, fun y q hq htp => ?_, fun y q hq hdp => ?_⟩
  · by_cases hy : y = x
    · subst hy
      cases here q hq
      obtain ⟨h1, u, h2, h3, h4⟩ := K.val y _ hx
      exact ⟨h1, v0, hv, rv, h4⟩
    · obtain ⟨h1, u, h2, h3, h4⟩ := K.val y q (back y q hy hq)
      exact ⟨h1, u, h2, h3.offA ho hoc ((hd1 a ha).2 y q hy (back y q hy hq)) hs, h4⟩
  · by_cases hy : y = x
    · subst hy
      cases here q hq
      cases htp
    · obtain ⟨b, cs, h1, h2, h3, h4⟩ := K.top y q (back y q hy hq) htp
      refine ⟨b, cs, h1, h2, h3, fun z r hz hr => ?_⟩
      by_cases hzx : z = x
      · subst hzx; exact h4 z _ hz hx
      · exact h4 z r hz (back z r hzx hr)
  · by_cases hy : y = x
    · subst hy
      refine ⟨fun b hb => ⟨(hd1 b hb).1, fun z r hz hr => (hd1 b hb).2 z r hz (back z r hz hr)⟩, hd2⟩
    · obtain ⟨h1, h2⟩ := K.deep y q (back y q hy hq) hdp
      refine ⟨fun b hb => ⟨(h1 b hb).1, fun z r hz hr => ?_⟩, h2⟩
      by_cases hzx : z = x
      · subst hzx; exact (h1 b hb).2 z _ hz hx
      · exact (h1 b hb).2 z r hz (back z r hzx hr)

theorem simS_appendAt {x : String} {is : Es} {e : E} (Si : ∀ i, SimE prog w fns k C XP i) (S : SimE prog w fns k C XP e) : SimS prog w fns k C (.appendAt x is e) := by
  intro stmt h0 P Z A env σ vals fp s Q Er σ' fl ok K he hN hR
  replace ok := i_sappendAt ok
  rcases ok with ⟨yy, ii, pp, mm, ap, v, pos, sp, rfl, ok⟩ | ok
  rotate_left
  · cases ok
  simp only [Bool.and_eq_true, beq_iff_eq] at ok
  obtain ⟨⟨⟨rfl, hl⟩, op⟩, oe⟩ := ok
  cases hx : σ x with
  | none => simp only [ex, hx] at he; cases he
  | some q =>
    obtain ⟨vx, mx⟩ := q
    simp only [ex, hx] at he
    cases mx with
    | sh => cases he
    | top => cases he
    | deep =>
      obtain ⟨d, hd, he⟩ := optO_ok he
      obtain ⟨p1, hp1, he⟩ := Out.bind_ok he
      obtain ⟨r, hr, he⟩ := Out.bind_ok he
      obtain ⟨y, hy, he⟩ := optO_ok he
      by_cases hsy : sx y = true
      · rw [if_pos hsy] at he
        obtain ⟨d', hd', he⟩ := optO_ok he
        cases he
        cases asD_inv hd
        obtain ⟨_, v0, hv0, ⟨hr0, hz0⟩, hb⟩ := K.val x _ hx
        obtain ⟨hd1, hd2⟩ := K.deep x _ hx rfl
        refine wpAny_Expr_any (wpAny_Call_append rfl (by rw [star_plain oe]; rfl) (by simpa using hl) (by rw [star_plain oe]; rfl) ?_) (inter K.eok)
        refine evP_sim Si K hv0 hr0 hz0 op hp1 fun u s₁ bs kp at1 ru zu => ?_
        obtain ⟨a, vs, n, rfl, ea, ham, hlen, hup⟩ := R.modP p1.1 (hr0.keep kp.get) hd2 hd' at1
        refine ⟨a, vs.toArray, rfl, ⟨_, n, ea, rfl, rfl, rfl⟩, (K.keep kp.get).eval S oe hr fun u2 s₂ E => ?_⟩
        obtain ⟨kp2, as2, ru2, _⟩ := E
        rw [asD_inv hy] at ru2
        obtain ⟨ru2, zu2⟩ := ru2
        cases ru2.sx_nil hsy
        unfold lim at hlen
        refine wpAny_list_append_plain (hsz := by rw [List.size_toArray]; unfold sizeLine; omega) ⟨n, kp2.get _ _ ea⟩ fun h' hp hs => ?_
        obtain ⟨n', ep⟩ := hp
        have ea2 := kp2.get _ _ ea
        have ru3 : R h' u2 y [] := ru2.off (wr := [a]) (fun b hb o eo => .inr (by
          rw [List.mem_singleton.mp hb] at eo ⊢
          rw [ea2] at eo; cases eo
          exact ⟨by simp, fun hm => by cases hm⟩)) fun b o hb eo => hs.extBut b o (fun q => hb (by simp [q])) eo
        have rn := hup h' u2 n' (fun b o hb eo => hs.extBut b o hb (kp2.get b o eo)) (by simpa using ep) ru3
        have K' := ((K.keep kp.get).keep kp2.get).inner hx hv0 ham ea2 (by simp) (fun _ q => by cases q) hs (d' := d') ⟨rn, modP_sz zu2 p1.1 hd' hz0⟩
        obtain ⟨hh, tk, rfl, kk⟩ := kp.trans kp2
        exact hN rfl _ vals fp ⟨h', tk, rfl, fun b o hz eo => hs.extBut b o (fun q => by
          subst q
          rcases hz with hz | hz
          · exact (hd1 b ham).1 hz
          · have e3 := kk b o eo
            rw [ea2] at e3; cases e3; simp at hz) (kk b o eo)⟩ K'
      · rw [if_neg hsy] at he; cases he
end
end Mine

namespace Mine
open PySem PyProof.Rows

section
variable {prog : Program} {w : World} {fns : Fns} {k : Nat} {C : Calls} {XP : String → Shared → Value → Shared → Prop}
variable {h0 : Heap} {P Z : Addr → Prop} {A : Around} {env : Env} {σ : St} {vals : String → Option Value} {fp : String → List Addr}

/-- iterators move on: nothing of a value lies there -/
theorem RV.fields {h h' : Heap} {wr : List Addr} {v : Value} {x : V} {as : List Addr} (r : RV prog w h v x as) (hw : ∀ b ∈ wr, ∃ o, h.get? b = some o ∧ ∃ fs, o.data = .fields fs) (kp : ∀ b o, b ∉ wr → h.get? b = some o → h'.get? b = some o) : RV prog w h' v x as := by
  have out : ∀ b o, h.get? b = some o → (∀ fs, o.data ≠ .fields fs) → b ∉ wr := fun b o e hd hm => by
    obtain ⟨o', e', fs, q⟩ := hw b hm
    rw [e] at e'; cases e'
    exact hd fs q
  have key : ∀ ks b, IsTupleKey (intKind prog w) h ks b → IsTupleKey (intKind prog w) h' ks b := fun ks b hk => by
    obtain ⟨o', it, n, a1, a2, a3⟩ := hk
    exact ⟨o', it, n, kp b o' (out b o' a1 fun fs q => by rw [a3.1] at q; cases q) a1, a2, a3⟩
  cases x with
  | d x => exact ⟨r.1.off (wr := wr) (fun b hb o e => .inl fun vs n q => by
      obtain ⟨o', e', fs, q'⟩ := hw b hb
      rw [e] at e'; cases e'
      rw [q] at q'; cases q') kp, r.2⟩
  | dic0 =>
    obtain ⟨b, h1, h2, h3, ⟨o, es, ep, e, hx, hd, hr⟩, ⟨o', es', ep', e', h4, h5, h6, h7, h8⟩⟩ := r
    exact ⟨b, h1, h2, h3, ⟨o, es, ep, kp b o (out b o e fun fs q => by rw [hd] at q; cases q) e, hx, hd, hr⟩, ⟨o', es', ep', kp b o' (out b o' e' fun fs q => by rw [h5] at q; cases q) e', h4, h5, h6, fun y hy => key _ _ (h7 y hy), h8⟩⟩
  | dicI ks =>
    obtain ⟨b, h1, h2, h3, ⟨o, es, ep, e, hx, hd, hr⟩⟩ := r
    exact ⟨b, h1, h2, h3, ⟨o, es, ep, kp b o (out b o e fun fs q => by rw [hd] at q; cases q) e, hx, hd, hr⟩⟩
  | dicT ks =>
    obtain ⟨b, xs, h1, h2, h3, ⟨o', es', ep', e', h4, h5, h6, h7, h8⟩, h9⟩ := r
    exact ⟨b, xs, h1, h2, h3, ⟨o', es', ep', kp b o' (out b o' e' fun fs q => by rw [h5] at q; cases q) e', h4, h5, h6, fun y hy => key _ _ (h7 y hy), h8⟩, h9⟩
  | inst fs => exact r.elim

theorem SOK.iter {h h' : Heap} {wr : List Addr} (K : SOK prog w fns k h0 P Z A env h σ vals fp) (hw : ∀ b ∈ wr, ∃ o, h.get? b = some o ∧ ∃ fs, o.data = .fields fs) (hw' : ∀ b ∈ wr, Z b → ∃ o, h'.get? b = some o) (hw0 : ∀ b ∈ wr, h0.get? b = none) (kp : ∀ b o, b ∉ wr → h.get? b = some o → h'.get? b = some o) : SOK prog w fns k h0 P Z A env h' σ vals fp := by
  have out : ∀ b o, h.get? b = some o → (∀ fs, o.data ≠ .fields fs) → b ∉ wr := fun b o e hd hm => by
    obtain ⟨o', e', fs, q⟩ := hw b hm
    rw [e] at e'; cases e'
    exact hd fs q
  refine ⟨K.room, K.eok, K.ge, fun b o e => ⟨(K.z0 b o e).1, kp b o (fun hm => by rw [hw0 b hm] at e; cases e) (K.z0 b o e).2⟩, fun b hb => ?_, ⟨?_, K.loc.nz, fun n c a b => ?_, fun x v c a b d => ?_, K.loc.apart, K.loc.kinds⟩, fun x p hp => ?_, K.top, K.deep⟩
  · by_cases hm : b ∈ wr
    · exact hw' b hm hb
    · obtain ⟨o, e⟩ := K.zdom b hb
      exact ⟨o, kp b o hm e⟩
  · obtain ⟨m, ⟨o, es, ep, e, hd, hr⟩, hv⟩ := K.loc.ns
    exact ⟨m, ⟨o, es, ep, kp _ o (out _ o e fun fs q => by rw [hd] at q; cases q) e, hd, hr⟩, hv⟩
  · obtain ⟨h1, h2, v, o, h3, h4⟩ := K.loc.cell n c a b
    exact ⟨h1, h2, v, o, kp c o (out c o h3 fun fs q => by rw [h4] at q; cases q) h3, h4⟩
  · obtain ⟨o, h3, h4⟩ := K.loc.cval x v c a b d
    exact ⟨o, kp c o (out c o h3 fun fs q => by rw [h4] at q; cases q) h3, h4⟩
  · obtain ⟨h1, v, h2, h3, h4⟩ := K.val x p hp
    exact ⟨h1, v, h2, h3.fields hw kp, h4⟩

/-- what is owned is not among an expression's parts -/
theorem SOK.excl {s : Shared} {ns : List String} {m : Mode} {F : List Addr} (K : SOK prog w fns k h0 P Z A env s.heap σ vals fp) (ha : ∀ a ∈ F, Own σ fp ns a ∨ s.heap.get? a = none) (hd : m = .deep → ∀ a ∈ F, s.heap.get? a = none) :
    ∀ y q, Mine.consume σ ns m y = some q → (q.2 = .top → ∀ a bs, fp y = a :: bs → a ∉ F) ∧ (q.2 = .deep → ∀ a ∈ fp y, a ∉ F) := by
  have nf : ∀ a, s.heap.get? a = none → ∀ y q, σ y = some q → a ∉ fp y := fun a e y q hq hm => by
    obtain ⟨_, u, _, hr, _⟩ := K.val y q hq
    obtain ⟨o, e'⟩ := hr.there a hm
    rw [e] at e'; cases e'
  intro y q hq
  by_cases hdp : m = .deep
  · have hq' : σ y = some q := by unfold Mine.consume at hq; rwa [if_pos hdp] at hq
    exact ⟨fun _ a bs e hm => nf a (hd hdp a hm) y q hq' (by rw [e]; exact .head _), fun _ a ha' hm => nf a (hd hdp a hm) y q hq' ha'⟩
  · have hq2 : Mine.demote σ ns y = some q := by unfold Mine.consume at hq; rwa [if_neg hdp] at hq
    obtain ⟨q', hq', e1, hc⟩ := demote_some hq2
    rcases hc with ⟨_, rfl⟩ | ⟨hn, rfl⟩
    · refine ⟨fun h => absurd h mk_top, fun h a ha' => ?_⟩
      obtain ⟨_, u, _, hr, _⟩ := K.val y q' hq'
      rw [hr.scal_nil (mk_deep h)] at ha'
      cases ha'
    · refine ⟨fun h a bs e hm => ?_, fun h a ha' hm => ?_⟩
      · rcases ha a hm with ⟨z, p, hz, hp, hf⟩ | h1
        · obtain ⟨a', bs', e', _, _, h4⟩ := K.top y q hq' h
          rw [e] at e'; cases e'
          exact h4 z p (fun q => hn (q ▸ hz)) hp hf
        · exact nf a h1 y q hq' (by rw [e]; exact .head _)
      · rcases ha a hm with ⟨z, p, hz, hp, hf⟩ | h1
        · exact ((K.deep y q hq' h).1 a ha').2 z p (fun q => hn (q ▸ hz)) hp hf
        · exact nf a h1 y q hq' ha'

set_option maxHeartbeats 1000000 in
theorem simS_for {x : String} {it : It} {b : Ss} (Si : SimIt prog w fns k C XP it) (Sb : SimSs prog w fns k C b) : SimS prog w fns k C (.for1 x it b) := by
  intro stmt h0 P Z A env σ vals fp s Q Er σ' fl ok K he hN hR
  replace ok := i_sfor1 ok
  rcases ok with ⟨_, _, _, _, _, rfl, ok⟩ | ok
  · rename_i t pt iter body spos
    simp only [Bool.and_eq_true, beq_iff_eq] at ok
    obtain ⟨⟨⟨rfl, hb⟩, oi⟩, ob⟩ := ok
    obtain ⟨g1, g2, g3⟩ := bnd hb
    simp only [ex] at he
    obtain ⟨⟨ds, md⟩, hq, he1⟩ := Out.bind_ok he
    clear he
    dsimp only at he1
    have e1 : evIt C it (resσ σ (fvIt it)) = .ok (ds, md) := by rw [evIt_congr C it _ σ (res_agree σ _)]; exact hq
    refine wpAny_For (Si oi (K.cx (fvIt it)) (by rw [e1]; simp) (fun q' hq' i s₂ I => ?_) fun c hc => by rw [e1] at hc; cases hc) (fset oi env)
    rw [e1] at hq'; cases hq'
    obtain ⟨kp₂, ⟨I, fpw, wr, Pw, St, F, rfl, W, hst, hwr, hfp, hPw, hF, hFP, hFd⟩, hsm⟩ := I
    have exists_s : ∀ b o, s.heap.get? b = some o → b ∉ wr := fun b o e hm => by rw [(hwr b hm).1] at e; cases e
    have hLs : ∃ o es ep, s.heap.get? env.locals = some o ∧ o.data = .dict es ep := by
      obtain ⟨m, ⟨o, es, ep, e, hd, _⟩, _⟩ := K.loc.ns
      exact ⟨o, es, ep, e, hd⟩
    have hFL : env.locals ∉ F := fun hm => by
      obtain ⟨o, es, ep, e, hd⟩ := hLs
      obtain ⟨vs, n, e'⟩ := hF _ hm
      rw [kp₂.get _ _ e] at e'; cases e'; cases hd
    have ex0 := K.excl hFP hFd
    have cs : ∀ y q, Mine.consume σ (fvIt it) md y = some q → ∃ q', σ y = some q' := fun y q hq => by
      unfold Mine.consume at hq
      split at hq
      · exact ⟨q, hq⟩
      · obtain ⟨q', hq', _⟩ := demote_some hq; exact ⟨q', hq'⟩
    have nf : ∀ y q, Mine.consume σ (fvIt it) md y = some q → ∀ a ∈ fp y, a ∉ wr := fun y q hq a ha hm => by
      obtain ⟨q', hq'⟩ := cs y q hq
      obtain ⟨_, u, _, hr, _⟩ := K.val y q' hq'
      obtain ⟨o, e⟩ := hr.there a ha
      exact exists_s a o e hm
    have wz : ∀ b ∈ wr, ¬ Z b := fun b hm hz => by
      obtain ⟨o, e⟩ := K.zdom b hz
      exact exists_s b o e hm
    have w0 : ∀ b ∈ wr, h0.get? b = none := fun b hm => by
      cases e : h0.get? b with
      | none => rfl
      | some o => exact absurd (K.z0 b o e).1 (wz b hm)
    have K₂ : SOK prog w fns k h0 P (fun b => Z b ∨ (b ∈ F ∨ b ∈ wr)) A env s₂.heap (Mine.consume σ (fvIt it) md) vals fp := by
      refine ((K.keep kp₂.get).consume (fvIt it) md).freeze (fun b hb => ?_) (fun hm => ?_) (fun n c hkn hc hm => ?_) (fun y q hq hqt a bs e hm => ?_) (fun y q hq hqd a ha hm => ?_)
      · rcases hb with hb | hb
        · obtain ⟨vs, n, e⟩ := hF b hb; exact ⟨_, e⟩
        · obtain ⟨o, e, _⟩ := (hwr b hb).2.2 0 _ hst; exact ⟨o, e⟩
      · rcases hm with hm | hm
        · exact hFL hm
        · obtain ⟨o, es, ep, e, hd⟩ := hLs
          exact exists_s _ o e hm
      · obtain ⟨_, _, v, o, e, hd⟩ := K.loc.cell n c hkn hc
        rcases hm with hm | hm
        · obtain ⟨vs, n, e'⟩ := hF c hm
          rw [kp₂.get _ _ e] at e'; cases e'; cases hd
        · exact exists_s c o e hm
      · rcases hm with hm | hm
        · exact (ex0 y q hq).1 hqt a bs e hm
        · exact nf y q hq a (by rw [e]; exact .head _) hm
      · rcases hm with hm | hm
        · exact (ex0 y q hq).2 hqd a ha hm
        · exact nf y q hq a ha hm
    have FP : ∀ a ∈ F, a ≠ env.locals ∧ (P a ∨ h0.get? a = none) := fun a ha => by
      refine ⟨fun q => hFL (q ▸ ha), ?_⟩
      rcases hFP a ha with h | h
      · exact (K.own h).2.2
      · right
        cases e : h0.get? a with
        | none => rfl
        | some o => rw [(K.z0 a o e).2] at h; cases h
    have stp₂ : Stp Z s s₂ := kp₂.stp
    refine codeAny_forLoop_any
      (fun n s' => ∃ (j : Nat) (σj : Mine.St) (vals' : String → Option Value) (fp' : String → List Addr), Stp Z s s' ∧ SOK prog w fns k h0 P (fun b => Z b ∨ (b ∈ F ∨ b ∈ wr)) A env s'.heap σj vals' fp' ∧ St j s'.heap ∧ j ≤ ds.length ∧ n = ds.length + 1 - j ∧
        loopS (fun y σ => exs C b (upd σ x (mk (.d y)))) (ds.drop j) σj = .ok (σ', fl) ∧ (∀ b o, b ∉ wr → Fix (fun b => Z b ∨ (b ∈ F ∨ b ∈ wr)) b o → s₂.heap.get? b = some o → s'.heap.get? b = some o)) ?_ (ds.length + 1)
      ⟨0, _, vals, fp, stp₂, K₂, hst, Nat.zero_le _, rfl, by simpa using he1, fun _ _ _ _ e => e⟩
    rintro n s' ⟨j, σj, vals', fp', stp', K', hst', hj, rfl, hloop, hkp⟩
    have hwf : ∀ b ∈ wr, ∃ o, s'.heap.get? b = some o ∧ ∃ fs, o.data = .fields fs := fun b hm => (hwr b hm).2.2 j _ hst'
    have step1 : ∀ h₁ tk₁, (∀ b ∈ wr, ∃ o, h₁.get? b = some o) → (∀ b o, b ∉ wr → s'.heap.get? b = some o → h₁.get? b = some o) → SOK prog w fns k h0 P (fun b => Z b ∨ (b ∈ F ∨ b ∈ wr)) A env h₁ σj vals' fp' ∧ Stp Z s { s' with heap := h₁, toks := tk₁ } := fun h₁ tk₁ hw₁ hk₁ => by
      refine ⟨K'.iter hwf (fun b hm _ => hw₁ b hm) w0 hk₁, ?_⟩
      obtain ⟨hh, tk', rfl, kk⟩ := stp'
      exact ⟨h₁, tk₁, rfl, fun b o hz e => hk₁ b o (exists_s b o e) (kk b o hz e)⟩
    by_cases hlt : j < ds.length
    · obtain ⟨d, hd⟩ : ∃ d, ds[j]? = some d := ⟨_, List.getElem?_eq_getElem hlt⟩
      have hdd : ds.drop j = d :: ds.drop (j + 1) := by
        rw [List.drop_eq_getElem_cons hlt]
        rw [List.getElem?_eq_getElem hlt] at hd
        cases hd; rfl
      rw [hdd] at hloop
      simp only [loopS] at hloop
      obtain ⟨⟨σ₁, fl₁⟩, hbody, hloop⟩ := Out.bind_ok hloop
      dsimp only at hloop
      refine W.item j _ _ _ hlt hst' fun v h₁ tk₁ hPv hst₁ hk₁ => ?_
      obtain ⟨K₁, stp₁⟩ := step1 h₁ tk₁ (fun b hm => let ⟨o, e, _⟩ := (hwr b hm).2.2 (j + 1) h₁ hst₁; ⟨o, e⟩) hk₁
      obtain ⟨bs, hrv, hbs⟩ := hPw j v hPv d hd
      have hkp₁ : ∀ b o, b ∉ wr → Fix (fun b => Z b ∨ (b ∈ F ∨ b ∈ wr)) b o → s₂.heap.get? b = some o → h₁.get? b = some o := fun b o hb hf e => hk₁ b o hb (hkp b o hb hf e)
      have hFw : ∀ a ∈ F, a ∉ wr := fun a ha hm => (hwr a hm).2.1 ha
      have hrv₁ : R h₁ v d bs := hrv.on2 fun b o hbo hsq e => hkp₁ b o (by
        rcases hbo with hbo | hbo
        · exact hFw b (hbs b hbo)
        · intro hm
          obtain ⟨o', e', fs, q⟩ := (hwr b hm).2.2 0 _ hst
          rw [e] at e'; cases e'
          obtain ⟨vs, n, hs⟩ := hsq
          rw [hs] at q; cases q) (by
        rcases hbo with hbo | hbo
        · exact .inl (.inr (.inl (hbs b hbo)))
        · exact .inr ⟨hbo, hsq⟩) e
      have hzd : sz d = true := hsm.2 d (List.mem_of_getElem? hd)
      refine wpAny_of_eq rfl ?_
      refine wpAny_assign_Name (K₁.put (r := mk (.d d)) (as := bs) g1 g3 ⟨hrv₁, hzd⟩ (fun a ha => FP a (hbs a ha)) (fun h => absurd h mk_top) (fun h => ?_) (fun y q hy hq => ⟨fun ht a cs e hm => ?_, fun hdp a ha hm => ?_⟩) fun s₃ st₃ kk₃ K₃ => ?_)
      · have : bs = [] := hrv₁.sx_nil (mk_deep h)
        subst this
        exact ⟨fun _ h => (nomatch h), .nil⟩
      · obtain ⟨a', bs', e', h1, _⟩ := K₁.top y q hq ht
        rw [e] at e'; cases e'
        exact h1 (.inr (.inl (hbs a hm)))
      · exact ((K₁.deep y q hq hdp).1 a ha).1 (.inr (.inl (hbs a hm)))
      · have body₃ : ∀ s₄, Stp (fun b => Z b ∨ (b ∈ F ∨ b ∈ wr)) s₃ s₄ → Stp Z s s₄ ∧ St (j + 1) s₄.heap ∧ ∀ b o, b ∉ wr → Fix (fun b => Z b ∨ (b ∈ F ∨ b ∈ wr)) b o → s₂.heap.get? b = some o → s₄.heap.get? b = some o := fun s₄ st₄ => by
          have st := st₃.trans st₄
          refine ⟨stp₁.trans (st.mono fun b hb => .inl hb), ?_, ?_⟩
          · obtain ⟨h₄, tk₄, rfl, kk₄⟩ := st
            exact W.frame _ _ _ hst₁ fun b hb o e => kk₄ b o (.inl (.inr (hfp b hb).symm)) e
          · obtain ⟨h₄, tk₄, rfl, kk₄⟩ := st
            exact fun b o hb hf e => kk₄ b o hf (hkp₁ b o hb hf e)
        refine Sb ob K₃ hbody (fun e s₄ vals₄ fp₄ st₄ K₄ => ?_) fun r e v s₄ st₄ R₄ => ?_
        · subst e
          obtain ⟨q1, q2, q3⟩ := body₃ s₄ st₄
          exact ⟨ds.length + 1 - (j + 1), by omega, j + 1, σ₁, vals₄, fp₄, q1, K₄, q2, hlt, rfl, hloop, q3⟩
        · subst e
          cases hloop
          exact hR r rfl v s₄ (body₃ s₄ st₄).1 R₄
    · have hjl : j = ds.length := by omega
      subst hjl
      rw [List.drop_length] at hloop
      simp only [loopS] at hloop
      cases hloop
      refine W.done _ _ _ hst' fun h₁ tk₁ hk₁ => ?_
      refine wpAny_execs_nil (hN rfl _ vals' fp' ?_ ((K'.thaw (Z := Z) (fun b hb => .inl hb) fun b o e => (K.z0 b o e).1).iter hwf (fun b hm hz => absurd hz (wz b hm)) w0 hk₁))
      obtain ⟨hh, tk', rfl, kk⟩ := stp'
      exact ⟨h₁, tk₁, rfl, fun b o hz e => hk₁ b o (exists_s b o e) (kk b o hz e)⟩
  · cases ok

theorem simS_while {c : E} {b : Ss} (T : SimT prog w fns k C XP c) (Sb : SimSs prog w fns k C b) : SimS prog w fns k C (.whl c b) := by
  intro stmt h0 P Z A env σ vals fp s Q Er σ' fl ok K he hN hR
  replace ok := i_swhl ok
  rcases ok with ⟨_, _, _, rfl, ok⟩ | ok
  · simp only [Bool.and_eq_true] at ok
    simp only [ex] at he
    refine wpAny_While (codeAny_whileLoop (fun n s' => ∃ (σj : Mine.St) (vals' : String → Option Value) (fp' : String → List Addr), Stp Z s s' ∧ SOK prog w fns k h0 P Z A env s'.heap σj vals' fp' ∧
      whileS (fun σ => (ev C c σ).bind fun r => truth r.1) (exs C b) n σj = .ok (σ', fl)) ?_ 200 ⟨σ, vals, fp, .refl Z s, K, he⟩)
    rintro n s' ⟨σj, vals', fp', stp', K', hw⟩
    cases n with
    | zero => simp only [whileS] at hw; cases hw
    | succ n =>
      simp only [whileS] at hw
      obtain ⟨t, ht, hw⟩ := Out.bind_ok hw
      refine K'.evalT T ok.1 ht fun s₁ kp => ?_
      have K₁ := K'.keep kp.get
      cases t with
      | false =>
        simp only [Bool.false_eq_true, if_false] at hw ⊢
        cases hw
        exact wpAny_execs_nil (hN rfl s₁ vals' fp' (stp'.trans kp.stp) K₁)
      | true =>
        simp only [if_true] at hw ⊢
        obtain ⟨⟨σ₁, fl₁⟩, hbody, hw⟩ := Out.bind_ok hw
        dsimp only at hw
        refine Sb ok.2 K₁ hbody (fun e s₄ vals₄ fp₄ st₄ K₄ => ?_) fun r e v s₄ st₄ R₄ => ?_
        · subst e
          exact ⟨n, Nat.lt_succ_self n, σ₁, vals₄, fp₄, (stp'.trans kp.stp).trans st₄, K₄, hw⟩
        · subst e
          cases hw
          exact hR r rfl v s₄ ((stp'.trans kp.stp).trans st₄) R₄
  · cases ok

section
variable (hC : CallOK prog w fns k C XP) (hXP : ∀ c s s₁ x s', Kp s s₁ → XP c s₁ x s' → XP c s x s')
include hC hXP
mutual
theorem simS_all : ∀ st : S, SimS prog w fns k C st
  | .assign x e => simS_assign (simAll hC hXP e).e ⟨fun elt y it _ => ⟨simAllIt hC hXP it, (simAll hC hXP elt).e⟩, fun elt y it c _ => ⟨simAllIt hC hXP it, (simAll hC hXP elt).e, (simAll hC hXP c).t⟩⟩
  | .setitem x e => simS_setitem (simAll hC hXP e).e
  | .append x e => simS_append (simAll hC hXP e).e
  | .appendAt x is e => simS_appendAt (fun i => (simAll hC hXP i).e) (simAll hC hXP e).e
  | .insert x i e => simS_insert hXP (simAll hC hXP i).e (simAll hC hXP e).e
  | .pop x i => simS_pop (simAll hC hXP i).e
  | .expr e => simS_expr (simAll hC hXP e).e
  | .ret e => simS_ret (simAll hC hXP e).e
  | .retn x => simS_retn
  | .ite c a b => simS_ite (simAll hC hXP c).t (simSs_all a) (simSs_all b)
  | .for1 x it b => simS_for (simAllIt hC hXP it) (simSs_all b)
  | .whl c b => simS_while (simAll hC hXP c).t (simSs_all b)
  | .raise _ => fun ok => Bool.noConfusion (show false = true from ok)
  | .bad => fun ok => Bool.noConfusion (show false = true from ok)
termination_by structural s => s
theorem simSs_all : ∀ st : Ss, SimSs prog w fns k C st
  | .nil => simSs_nil
  | .cons s r => simSs_cons (simS_all s) (simSs_all r)
termination_by structural s => s
end
end
end
end Mine

namespace Mine
open PySem PyProof.Rows

/-- a function's text and its tree -/
noncomputable def okF (ft : FnT) (f : Fn) : Bool := decide (ft.params = f.params) && f.params.all (bndK ft.scope.names) && decide f.params.Nodup && okSs ft.scope.names f.body ft.body && ft.scope.names.all fun p => p.2 != .free

theorem cells_some {n : Str} : ∀ (names : List (Str × NameKind)) (k : Nat) (acc : List (Str × Addr)), (names.lookup n = some .cell ∨ (acc.lookup n).isSome = true) → ((cellsFrom k names acc).lookup n).isSome = true
  | [], _, acc, h => h.elim (fun e => by cases e) id
  | (m, kd) :: r, k, acc, h => by
    unfold cellsFrom
    by_cases hk : kd = .cell
    · subst hk
      simp only [beq_self_eq_true, if_true]
      by_cases e : n = m
      · subst e
        exact cells_some r _ _ (.inr (by simp))
      · have e' : (n == m) = false := by simpa using e
        refine cells_some r _ _ (h.imp (fun h => ?_) fun h => ?_)
        · rw [List.lookup_cons, e'] at h; exact h
        · rw [List.lookup_cons, e']; exact h
    · have hb : (kd == NameKind.cell) = false := by simpa using hk
      simp only [hb, Bool.false_eq_true, if_false]
      by_cases e : n = m
      · subst e
        rcases h with h | h
        · simp at h; exact absurd h hk
        · exact cells_some r _ _ (.inr h)
      · have e' : (n == m) = false := by simpa using e
        refine cells_some r _ _ (h.imp (fun h => ?_) id)
        rw [List.lookup_cons, e'] at h; exact h

theorem bindL_other {kd : Str → Option NameKind} {y : Str} : ∀ (bs : List (Str × Value)) (m : Str → Option Value), (∀ p ∈ bs, p.1 ≠ y) → bindL kd bs m y = m y
  | [], _, _ => rfl
  | (n, v) :: r, m, h => by
    unfold bindL
    rw [bindL_other r _ fun p hp => h p (.tail _ hp)]
    split
    · exact if_neg fun (e : y = n) => h (n, v) (.head _) e.symm
    · rfl
theorem bindC_other {kd : Str → Option NameKind} {y : Str} : ∀ (bs : List (Str × Value)) (m : Str → Option Value), (∀ p ∈ bs, p.1 ≠ y) → bindC kd bs m y = m y
  | [], _, _ => rfl
  | (n, v) :: r, m, h => by
    unfold bindC
    rw [bindC_other r _ fun p hp => h p (.tail _ hp)]
    split
    · rfl
    · exact if_neg fun (e : y = n) => h (n, v) (.head _) e.symm

theorem zip_ne {p : String} {ps : List String} {vs : List Value} (h : p ∉ ps) : ∀ q ∈ (ps.map Str.ofString).zip vs, q.1 ≠ Str.ofString p := by
  intro q hq e
  have := (List.of_mem_zip hq).1
  obtain ⟨y, hy, e'⟩ := List.mem_map.mp this
  exact h (ofString_inj (e'.trans e) ▸ hy)

theorem bindL_get {kd : Str → Option NameKind} {x : String} {v : Value} : ∀ (ps : List String) (vs : List Value) (m : Str → Option Value), ps.Nodup → (ps.zip vs).lookup x = some v → kd (Str.ofString x) = some .local → bindL kd ((ps.map Str.ofString).zip vs) m (Str.ofString x) = some v
  | [], _, _, _, h, _ => by simp at h
  | _ :: _, [], _, _, h, _ => by simp at h
  | p :: ps, u :: vs, m, hn, h, hk => by
    rw [List.nodup_cons] at hn
    rw [List.zip_cons_cons, List.lookup_cons] at h
    rw [List.map_cons, List.zip_cons_cons]
    unfold bindL
    by_cases e : x = p
    · subst e
      simp at h
      subst h
      rw [bindL_other _ _ (zip_ne hn.1), if_pos hk]
      simp
    · have e' : (x == p) = false := by simpa using e
      rw [e'] at h
      exact bindL_get ps vs _ hn.2 h hk
theorem bindC_get {kd : Str → Option NameKind} {x : String} {v : Value} : ∀ (ps : List String) (vs : List Value) (m : Str → Option Value), ps.Nodup → (ps.zip vs).lookup x = some v → kd (Str.ofString x) = some .cell → bindC kd ((ps.map Str.ofString).zip vs) m (Str.ofString x) = some v
  | [], _, _, _, h, _ => by simp at h
  | _ :: _, [], _, _, h, _ => by simp at h
  | p :: ps, u :: vs, m, hn, h, hk => by
    rw [List.nodup_cons] at hn
    rw [List.zip_cons_cons, List.lookup_cons] at h
    rw [List.map_cons, List.zip_cons_cons]
    unfold bindC
    by_cases e : x = p
    · subst e
      simp at h
      subst h
      rw [bindC_other _ _ (zip_ne hn.1), if_neg (by rw [hk]; simp)]
      simp
    · have e' : (x == p) = false := by simpa using e
      rw [e'] at h
      exact bindC_get ps vs _ hn.2 h hk

section
variable {prog : Program} {w : World} {fns : Fns} {k : Nat} {C : Calls} {XP : String → Shared → Value → Shared → Prop}

theorem bindP_rv {h : Heap} : ∀ {ps : List String} {xs : List V} {vals : List Value} {as : List Addr} {σ : St}, bindP ps xs = some σ → RVs prog w h xs vals as →
    vals.length = ps.length ∧ ∃ fp : String → List Addr, ∀ x q, σ x = some q → x ∈ ps ∧ ∃ V v, q = mk V ∧ (ps.zip vals).lookup x = some v ∧ RV prog w h v V (fp x) ∧ ∀ a ∈ fp x, a ∈ as
  | [], [], _, _, σ, hb, .nil => by
    simp only [bindP, Option.some.injEq] at hb
    subst hb
    exact ⟨rfl, fun _ => [], fun x q h => by cases h⟩
  | [], _ :: _, _, _, _, hb, _ => by cases hb
  | _ :: _, [], _, _, _, hb, _ => by cases hb
  | p :: ps, V :: xs, _, _, σ, hb, .cons (v := v) (as := a1) r rs => by
    simp only [bindP, Option.map_eq_some_iff] at hb
    obtain ⟨σ', hb', rfl⟩ := hb
    obtain ⟨hl, fp', ih⟩ := bindP_rv hb' rs
    refine ⟨by rw [List.length_cons, List.length_cons, hl], fun x => if x = p then a1 else fp' x, fun x q hq => ?_⟩
    unfold upd at hq
    by_cases e : x = p
    · subst e
      rw [if_pos rfl] at hq; cases hq
      have e1 : (if x = x then a1 else fp' x) = a1 := if_pos rfl
      refine ⟨.head _, V, v, rfl, by simp, ?_, fun a ha => ?_⟩
      · show RV prog w h v V (if x = x then a1 else fp' x)
        rw [e1]; exact r
      · have ha' : a ∈ (if x = x then a1 else fp' x) := ha
        rw [e1] at ha'
        exact List.mem_append_left _ ha'
    · rw [if_neg e] at hq
      obtain ⟨h1, V', v', h2, h3, h4, h5⟩ := ih x q hq
      have e' : (x == p) = false := by simpa using e
      exact ⟨.tail _ h1, V', v', h2, by rw [List.zip_cons_cons, List.lookup_cons, e']; exact h3, by show RV prog w h v' V' (if x = p then a1 else fp' x); rw [if_neg e]; exact h4, fun a ha => List.mem_append_right _ (h5 a (by have ha' : a ∈ (if x = p then a1 else fp' x) := ha; rwa [if_neg e] at ha'))⟩

set_option maxHeartbeats 1000000 in
theorem call_fn (hXP : ∀ c s s₁ x s', Kp s s₁ → XP c s₁ x s' → XP c s x s') (hC : CallOK prog w fns k C XP) {fn : Fn} {ft : FnT} {fa : Addr} (hok : okF ft fn = true) {A : Around} {P : Addr → Prop} {s : Shared} {Q : Value → Shared → Prop} {Er : Value → Shared → Prop} {xs : List V} {vals : List Value} {as : List Addr}
    (hroom : Room (k + 1) A) (ge : GE fns s.heap) (hfa : FnAt s.heap ft fa) (rs : RVs prog w s.heap xs vals as) (ha : ∀ a ∈ as, P a) {r : V × Mode} (hr : runF C fn xs = .ok r) (hQ : ∀ v s', EP prog w P s r v s' → Q v s') :
    wpAny (model prog w) A (call (.ref fa) vals []) Q Er s := by
  unfold okF at hok
  simp only [Bool.and_eq_true, decide_eq_true_eq, List.all_eq_true] at hok
  obtain ⟨⟨⟨⟨hps, hbk⟩, hnd⟩, hbody⟩, hfree⟩ := hok
  unfold runF at hr
  split at hr
  · rename_i σ hσ
    obtain ⟨⟨σ', fl⟩, hex, hfl⟩ := Out.bind_ok hr
    dsimp only at hfl
    obtain ⟨hlen, fp, hfp⟩ := bindP_rv hσ rs
    obtain ⟨o, fd, ho, hd, hbd, hsc, hgl, hcl, hbl, hcode, hbind, hco, hgen, hkind⟩ := hfa
    rw [hps] at hbind
    refine wpAny_call (codeAny_call_cells (by have := hroom.2.1; omega) ho hd ge.nolim hcode hbd (hbind vals hlen) hcl (fun x hx => ?_) (fun s₁ X => ?_) hco hgen hkind)
    · obtain ⟨y, hy, e⟩ := List.mem_map.mp (List.of_mem_zip hx).1
      have hb := hbk y hy
      unfold bndK at hb
      simp only [Bool.and_eq_true, Bool.or_eq_true, beq_iff_eq] at hb
      rw [hsc, ← e]
      rcases hb.2 with h | h
      · exact .inl h
      · exact .inr ⟨h, cells_some _ _ _ (.inl h)⟩
    · have hin := X.toInCall
      obtain ⟨h₁, tk₁, rfl⟩ := hin.same
      have hnames : (callEnvC fd s.heap.objs.size fa).scope.names = ft.scope.names := by show fd.scope.names = _; rw [hsc]
      have hloc : (callEnvC fd s.heap.objs.size fa).locals = s.heap.objs.size := rfl
      have hko : ∀ n, (callEnvC fd s.heap.objs.size fa).kindOf n = ft.scope.names.lookup n := fun n => by show fd.scope.names.lookup n = _; rw [hsc]
      have nofree : ∀ n, (callEnvC fd s.heap.objs.size fa).kindOf n ≠ some .free := fun n e => by
        rw [hko] at e
        have := hfree _ (mem_of_lookup e)
        simp at this
      have K : SOK prog w fns k s.heap P (fun b => ∃ o, s.heap.get? b = some o) (A.deeper (callEnvC fd s.heap.objs.size fa)) (callEnvC fd s.heap.objs.size fa) h₁ σ (fun x => (fn.params.zip vals).lookup x) fp := by
        refine ⟨⟨hroom.1, by have := hroom.2.1; show A.depth + 1 + k < _; omega, by have := hroom.2.2; show A.units + 3 + _ + _ < _; omega⟩, ⟨hkind, hgl, hbl, fun n hn => ?_⟩, ge, fun b o e => ⟨⟨o, e⟩, hin.keep b o e⟩, fun b ⟨o, e⟩ => ⟨o, hin.keep b o e⟩, ⟨⟨_, hin.ns, fun x v hv hk => ?_⟩, fun ⟨o, e⟩ => ?_, fun n c hk hc => ?_, fun x v c hv hk hc => ?_, fun n n' c h1 h2 => ?_, fun x v hv => ?_⟩, fun x p hp => ?_, fun x p hp ht => ?_, fun x p hp hdp => ?_⟩
        · rcases hn with hn | hn
          · rw [hko] at hn
            exact Option.isSome_iff_exists.mp (by show ((cellsFrom _ fd.scope.names []).lookup n).isSome = true; rw [hsc]; exact cells_some _ _ _ (.inl hn))
          · exact absurd hn (nofree n)
        · exact bindL_get fn.params vals _ hnd hv hk
        · rw [hloc] at e
          rw [new_none] at e; cases e
        · have hm := mem_of_lookup hc
          have hlt := X.above n c hm
          refine ⟨Nat.ne_of_gt hlt, fun ⟨o, e⟩ => ?_, _, X.cell n c hc⟩
          have := Heap.lt_size e
          rw [hloc] at hlt
          exact Nat.lt_irrefl _ (Nat.lt_trans this hlt)
        · have := X.cell _ c hc
          rw [bindC_get fn.params vals _ hnd hv hk] at this
          exact this
        · exact name_of_addr X.apart (mem_of_lookup h1) (mem_of_lookup h2)
        · have hm : x ∈ fn.params := by
            have : (x, v) ∈ fn.params.zip vals := by
              generalize fn.params.zip vals = l at hv
              induction l with
              | nil => cases hv
              | cons q l ih =>
                rw [List.lookup_cons] at hv
                split at hv
                · rename_i e
                  cases hv
                  rw [beq_iff_eq.mp e]
                  exact .head _
                · exact .tail _ (ih hv)
            exact (List.of_mem_zip this).1
          have hb := hbk x hm
          unfold bndK at hb
          simp only [Bool.and_eq_true, Bool.or_eq_true, beq_iff_eq] at hb
          rw [hko]
          exact hb.2
        · obtain ⟨h1, V, v, rfl, h3, h4, h5⟩ := hfp x p hp
          have hb := hbk x h1
          unfold bndK at hb
          simp only [Bool.and_eq_true] at hb
          refine ⟨by rw [hnames]; exact hb.1.1, v, h3, h4.keep hin.keep, fun a h => ⟨fun q => ?_, .inl (ha a (h5 a h))⟩⟩
          obtain ⟨o, e⟩ := h4.there a h
          rw [q, hloc, new_none] at e; cases e
        · obtain ⟨h1, V, v, rfl, _⟩ := hfp x p hp
          exact absurd ht mk_top
        · obtain ⟨h1, V, v, rfl, h3, h4, h5⟩ := hfp x p hp
          rw [h4.scal_nil (mk_deep hdp)]
          exact ⟨fun _ h => (nomatch h), .nil⟩
      have kp : ∀ s', Stp (fun b => ∃ o, s.heap.get? b = some o) { s with heap := h₁, toks := tk₁ } s' → Kp s s' := fun s' st => by
        obtain ⟨h', tk', rfl, kk⟩ := st
        exact ⟨h', tk', rfl, fun b o e => kk b o (.inl ⟨o, e⟩) (hin.keep b o e)⟩
      have Sb : SimSs prog w fns k C fn.body := simSs_all hC hXP fn.body
      refine @Sb ft.body s.heap P (fun b => ∃ o, s.heap.get? b = some o) (A.deeper (callEnvC fd s.heap.objs.size fa)) (callEnvC fd s.heap.objs.size fa) σ _ fp { s with heap := h₁, toks := tk₁ } _ _ σ' fl (by rw [hnames]; exact hbody) K hex (fun e s' vals' fp' st K' => ?_) fun q e v s' st R => ?_
      · subst e
        cases hfl
        exact hQ _ _ (.scalar (kp s' st) .none rfl (by simp))
      · subst e
        cases hfl
        obtain ⟨as', h1, h2, h3, h4⟩ := R
        exact hQ _ _ ⟨kp s' st, as', h1, h2, h3, h4⟩
  · cases hr

theorem callOK (hXP : ∀ c s s₁ x s', Kp s s₁ → XP c s₁ x s' → XP c s x s') {L : List (String × Fn)} (hL : ∀ f fn, L.lookup f = some fn → ∃ p, fns.fn f = some p ∧ okF p.2 fn = true) : ∀ n, CallOK prog w fns n (mkC L n) XP
  | 0 => fun f g h => by cases h
  | n + 1 => fun f g h => by
    simp only [mkC, Option.map_eq_some_iff] at h
    obtain ⟨fn, hfn, rfl⟩ := h
    obtain ⟨p, hp, hok⟩ := hL f fn hfn
    refine ⟨p, hp, fun {A P s Q Er xs vals as} hroom ge rs ha hne hQ hE => ?_⟩
    obtain ⟨r, hr⟩ := calm_ne_bad hne
    exact call_fn hXP (callOK hXP hL n) hok hroom ge (ge.funs f p hp) rs ha hr fun v s' E => hQ r (by show (runF (mkC L n) fn xs).calm = _; rw [hr]; rfl) v s' E
end
end Mine

namespace Mine
open PySem PyProof.Rows

theorem zip_lookup_none {α : Type} : ∀ {ns : List Str} {vs : List α} {n : Str}, vs.length = ns.length → n ∈ ns → ((ns.zip vs).lookup n).isNone = false
  | [], _, _, _, h => nomatch h
  | m :: ns, [], _, h, _ => by simp at h
  | m :: ns, v :: vs, n, hl, h => by
    rw [List.zip_cons_cons, List.lookup_cons]
    by_cases e : n = m
    · subst e; simp
    · have e' : (n == m) = false := by simpa using e
      rw [e']
      exact zip_lookup_none (by simpa using hl) ((List.mem_cons.mp h).resolve_left e)
theorem filterMap_zip : ∀ {ns : List Str} {vs : List Value}, ns.Nodup → vs.length = ns.length → (ns.filterMap fun n => ((ns.zip vs).lookup n).map (n, ·)) = ns.zip vs
  | [], _, _, _ => rfl
  | m :: ns, [], _, h => by simp at h
  | m :: ns, v :: vs, hn, hl => by
    rw [List.nodup_cons] at hn
    rw [List.filterMap_cons]
    simp only [List.zip_cons_cons, List.lookup_cons, beq_self_eq_true, Option.map_some]
    congr 1
    have ih := filterMap_zip hn.2 (vs := vs) (by simpa using hl)
    have key : ∀ (l : List Str), (∀ n ∈ l, n ≠ m) → (l.filterMap fun n => (match n == m with | true => some v | false => (ns.zip vs).lookup n).map (n, ·)) = l.filterMap fun n => ((ns.zip vs).lookup n).map (n, ·) := by
      intro l hl'
      induction l with
      | nil => rfl
      | cons n l ihl =>
        have e' : (n == m) = false := beq_eq_false_iff_ne.mpr (hl' n (.head _))
        rw [List.filterMap_cons, List.filterMap_cons, ihl fun x hx => hl' x (.tail _ hx)]
        simp only [e']
    exact (key ns fun n hn' e => hn.1 (e ▸ hn')).trans ih
theorem pb {α β : Type} (a : α) (f : α → Sem β) : ((pure a : Sem α) >>= f) = f a := rfl
theorem bind_plain {fd : FuncData} {ps : List Str} {vals : List Value} (h1 : fd.params.posonlyargs = []) (h2 : fd.params.args.map (·.arg) = ps) (h3 : fd.params.vararg = none) (h4 : fd.params.kwonlyargs = []) (h5 : fd.params.kwarg = none) (h6 : fd.defaults = .none)
    (hn : ps.Nodup) (hl : vals.length = ps.length) : bindArgs fd ⟨vals, []⟩ = pure (ps.zip vals) := by
  unfold bindArgs
  simp only [h1, h2, h3, h4, h5, h6, List.map_nil, List.nil_append, hl, List.forIn_nil, List.append_nil, List.length_append, List.length_nil, Nat.zero_add]
  have e0 : seqItems? .none = pure none := rfl
  have e1 : decide (ps.length > ps.length) = false := by simp
  have e2 : (ps.take ps.length).filter (fun n => ((ps.zip vals).lookup n).isNone) = [] := by
    rw [List.take_length, List.filter_eq_nil_iff]
    intro n hn'
    rw [zip_lookup_none hl hn']
    simp
  simp only [e0, pb, e1, Bool.false_and, Bool.false_eq_true, if_false, Option.getD_none, Array.toList_empty, List.length_nil, List.drop_nil, Nat.sub_zero, e2, List.isEmpty_nil, Bool.not_true, List.drop_length, List.zip_nil_left, List.zip_nil_right, List.forIn_nil, filterMap_zip hn hl]

noncomputable def tabOk (p : Program) (L : List (String × Fn)) : Bool := L.all fun q => match (recsOf p).find? (fun d => d.name == Str.ofString q.1) with
  | some d => okF ⟨q.2.params, d.body, d.scope⟩ q.2 && d.params.posonlyargs.isEmpty && (d.params.args.map (·.arg) == q.2.params.map Str.ofString) && d.params.vararg.isNone && d.params.kwonlyargs.isEmpty && d.params.kwarg.isNone && !d.scope.isCoroutine && !d.scope.isGenerator && d.scope.kind == .function
  | none => false
noncomputable def bnOk (p : Program) (loose : List Str) : Bool := bnames.all fun x => !startupNames.contains (Str.ofString x) && !loose.contains (Str.ofString x) && !((recsOf p).map (·.name)).contains (Str.ofString x) && !((litsOf p).map (·.1)).contains (Str.ofString x) && !((clssOf p loose).map (·.name)).contains (Str.ofString x)

noncomputable def fnsOf (p : Program) (mg : Str → Option Value) (L : List (String × Fn)) : Fns where
  fn f := (L.lookup f).bind fun fn => ((recsOf p).find? (fun d => d.name == Str.ofString f)).bind fun d => match mg (Str.ofString f) with
    | some (.ref a) => some (a, ⟨fn.params, d.body, d.scope⟩)
    | _ => none
  rule := none

theorem lookup_memS {α : Type} : ∀ {l : List (String × α)} {x : String} {v : α}, l.lookup x = some v → (x, v) ∈ l
  | (y, u) :: l, x, v, h => by
    rw [List.lookup_cons] at h
    split at h
    · rename_i e; cases h; rw [beq_iff_eq.mp e]; exact .head _
    · exact .tail _ (lookup_memS h)

section
variable {p : Program} {loose : List Str} {mean : ExcName → Option Value} {mg mb : Str → Option Value} {h : Heap} {L : List (String × Fn)}

theorem tab_one (T : Top p loose mean mg mb h) (ht : tabOk p L = true) {f : String} {fn : Fn} (hf : L.lookup f = some fn) :
    ∃ d a, (recsOf p).find? (fun d => d.name == Str.ofString f) = some d ∧ mg (Str.ofString f) = some (.ref a) ∧ okF ⟨fn.params, d.body, d.scope⟩ fn = true ∧ FnAt h ⟨fn.params, d.body, d.scope⟩ a := by
  have h1 := List.all_eq_true.mp ht _ (lookup_memS hf)
  dsimp only at h1
  split at h1
  · rename_i d hd
    simp only [Bool.and_eq_true, Bool.not_eq_true', beq_iff_eq, List.isEmpty_iff, Option.isNone_iff_eq_none] at h1
    obtain ⟨⟨⟨⟨⟨⟨⟨⟨hok, h2⟩, h3⟩, h4⟩, h5⟩, h6⟩, h7⟩, h8⟩, h9⟩ := h1
    have hm := List.mem_of_find?_eq_some hd
    have hn := List.find?_some hd
    simp only [beq_iff_eq] at hn
    obtain ⟨a, o, pm, code, doc, t1, t2, t3, t4⟩ := T.fn d hm
    refine ⟨d, a, hd, by rw [← hn]; exact t1, hok, o, _, t2, t3, rfl, rfl, rfl, rfl, rfl, t4, fun vals hl => ?_, h7, h8, h9⟩
    have hnd : fn.params.Nodup := by
      unfold okF at hok
      simp only [Bool.and_eq_true, decide_eq_true_eq] at hok
      exact hok.1.1.2
    refine bind_plain h2 h3 h4 h5 h6 rfl ?_ (by rw [List.length_map]; exact hl)
    exact List.pairwise_map.mpr (List.Pairwise.imp (fun h e => h (ofString_inj e)) hnd)
  · cases h1

theorem ge_of (T : Top p loose mean mg mb h) (ht : tabOk p L = true) (hb : bnOk p loose = true) : GE (fnsOf p mg L) h where
  glob := ⟨mg, T.g, fun f q hq => by
    simp only [fnsOf] at hq
    obtain ⟨fn, hfn, hq⟩ := Option.bind_eq_some_iff.mp hq
    obtain ⟨d, a, hd, ha, _⟩ := tab_one T ht hfn
    rw [hd, ha] at hq
    cases hq
    exact ha, fun x hx => by
    have := List.all_eq_true.mp hb x hx
    simp only [Bool.and_eq_true, Bool.not_eq_true', List.contains_eq_mem, decide_eq_false_iff_not] at this
    obtain ⟨⟨⟨⟨h1, h2⟩, h3⟩, h4⟩, h5⟩ := this
    exact T.free _ h1 h2 h3 h4 h5⟩
  funs := fun f q hq => by
    simp only [fnsOf] at hq
    obtain ⟨fn, hfn, hq⟩ := Option.bind_eq_some_iff.mp hq
    obtain ⟨d, a, hd, ha, _, hat⟩ := tab_one T ht hfn
    rw [hd, ha] at hq
    cases hq
    exact hat
  blt := ⟨mb, T.b, fun x hx => by
    simp only [bnames, List.mem_cons, List.not_mem_nil, or_false] at hx
    rcases hx with rfl | rfl | rfl | rfl | rfl | rfl | rfl | rfl | rfl | rfl | rfl | rfl <;> (rw [T.builtins _ (by decide +kernel)]; kernel_rfl)⟩
  nolim := T.nolimit

theorem room_caller {n : Nat} (h : n ≤ 60) : Room n callerA := ⟨rfl, by show 1 + claimMargin + n < recursionLimit; unfold claimMargin recursionLimit; omega, by show 4 + 100 * n + 200 < cLine; unfold cLine; omega⟩

/-- a law's call -/
theorem law_call {w : World} {prog : Program} {s : Shared} {fn : Fn} {fa a : Addr} {n : Nat} {ns : List Int} {vs : List Value} {m : Mode} {Q : Value → Shared → Prop} {Er : Value → Shared → Prop} (T : Top p loose mean mg mb s.heap) (ht : tabOk p L = true) (hb : bnOk p loose = true)
    (hf : L.lookup "law" = some fn) (hmg : mg (Str.ofString "law") = some (.ref fa)) (hn : n ≤ 50) (hr : runF (mkC L n) fn [.d (ofInts ns)] = .ok (.d (.bool true), m)) (ea : s.heap.get? a = some { cls := .type "list", data := .seq vs.toArray }) (hI : IntsAre vs ns) (hlen : ns.length ≤ 2 ^ 22)
    (hQ : ∀ s', Kp s s' → Q (.bool true) s') : wpAny (model prog w) callerA (call (.ref fa) [.ref a]) Q Er s := by
  have ge := ge_of T ht hb
  obtain ⟨d, a', hd, ha, hok, hat⟩ := tab_one T ht hf
  rw [hmg] at ha; cases ha
  have hC : CallOK prog w (fnsOf p mg L) n (mkC L n) (fun _ _ _ _ => False) := callOK (fun _ _ _ _ _ _ h => h) (fun f fn hf => by
    obtain ⟨d, a, hd, ha, hok, _⟩ := tab_one T ht hf
    exact ⟨(a, ⟨fn.params, d.body, d.scope⟩), by simp only [fnsOf, hf, hd, ha, Option.bind_some], hok⟩) n
  have rs : RVs prog w s.heap [.d (ofInts ns)] [.ref a] ([a] ++ []) := by
    refine .cons ⟨.list ea (RA.of_ints hI), ?_⟩ .nil
    exact sz_list.mpr ⟨by rw [List.length_map]; exact hlen, szs_ints ns⟩
  refine call_fn (XP := fun _ _ _ _ => False) (P := fun _ => True) (fun _ _ _ _ _ _ h => h) hC hok (room_caller (by omega)) ge hat rs (fun _ _ => trivial) hr fun v s' E => ?_
  obtain ⟨kp, as, ⟨r, _⟩, _⟩ := E
  cases r
  exact hQ s' kp
end

theorem exact_list {P : Params} {h : Heap} {a : Addr} {vs : List Value} {xs : List W.WData} (x : W.Well P h (.ref a) (.list xs)) (hL : h.IsList a vs.toArray) : h.get? a = some { cls := .type "list", data := .seq vs.toArray } := by
  obtain ⟨o, e, hc, n, hd⟩ := hL
  cases x with
  | list e' _ =>
    rw [e] at e'; cases e'
    dsimp only at hd
    injection hd with h1 h2
    rw [e, h1]
end Mine

namespace Mine
open PySem

/-! ## plain facts of the evaluator's values -/
theorem depthAll_le {n : Nat} : ∀ {xs : List PyData}, (∀ x ∈ xs, x.depth ≤ n) → PyData.depthAll xs ≤ n
  | [], _ => by simp [PyData.depthAll]
  | x :: xs, h => by
    rw [PyData.depthAll]
    exact Nat.max_le.mpr ⟨h x (.head _), depthAll_le fun y hy => h y (.tail _ hy)⟩
theorem canLayAll_iff : ∀ {xs : List PyData}, (∀ x ∈ xs, x.canLay0 = true) → PyData.canLayAll0 xs = true
  | [], _ => by simp [PyData.canLayAll0]
  | x :: xs, h => by
    rw [PyData.canLayAll0, h x (.head _), canLayAll_iff fun y hy => h y (.tail _ hy)]; rfl
/-- data of few storeys -/
noncomputable def Low (n : Nat) (d : PyData) : Prop := d.canLay0 = true ∧ d.depth ≤ n
theorem Low.okc {n : Nat} {d : PyData} (h : Low n d) (hn : n ≤ 64 := by decide) : okc d = true := by
  unfold Mine.okc
  rw [h.1, decide_eq_true (Nat.le_trans h.2 hn)]; rfl
theorem Low.int (i : Int) (n : Nat) : Low (n + 1) (.int i) := ⟨rfl, by simp [PyData.depth]⟩
theorem Low.list {n : Nat} {xs : List PyData} (h : ∀ x ∈ xs, Low n x) : Low (n + 1) (.list xs) :=
  ⟨by rw [PyData.canLay0]; exact canLayAll_iff fun x hx => (h x hx).1, by rw [PyData.depth]; have := depthAll_le fun x hx => (h x hx).2; omega⟩
theorem Low.tuple {n : Nat} {xs : List PyData} (h : ∀ x ∈ xs, Low n x) : Low (n + 1) (.tuple xs) :=
  ⟨by rw [PyData.canLay0]; exact canLayAll_iff fun x hx => (h x hx).1, by rw [PyData.depth]; have := depthAll_le fun x hx => (h x hx).2; omega⟩
theorem low_ints (ns : List Int) (n : Nat) : Low (n + 2) (ofInts ns) := .list fun x hx => by
  obtain ⟨i, _, rfl⟩ := List.mem_map.mp hx
  exact .int i n
theorem low_tup (ns : List Int) (n : Nat) : Low (n + 2) (ofTup ns) := .tuple fun x hx => by
  obtain ⟨i, _, rfl⟩ := List.mem_map.mp hx
  exact .int i n
theorem low_rows (t : List (List Int)) (n : Nat) : Low (n + 3) (ofRows t) := .list fun x hx => by
  obtain ⟨i, _, rfl⟩ := List.mem_map.mp hx
  exact low_ints i n
@[simp] theorem okc_int (i : Int) : okc (.int i) = true := (Low.int i 0).okc
@[simp] theorem okc_none : okc .none = true := rfl
@[simp] theorem okc_ints (ns : List Int) : okc (ofInts ns) = true := (low_ints ns 0).okc
@[simp] theorem okc_ints' (ns : List Int) : okc (.list (ns.map .int)) = true := okc_ints ns
@[simp] theorem okc_rows (t : List (List Int)) : okc (ofRows t) = true := (low_rows t 0).okc
@[simp] theorem okc_rows' (t : List (List Int)) : okc (.list (t.map ofInts)) = true := okc_rows t
@[simp] theorem okc_nil : okc (.list []) = true := okc_ints []

@[simp] theorem eqv_int (a b : Int) : PyData.eqv (.int a) (.int b) = decide (a = b) := by
  rw [PyData.eqv]; by_cases h : a = b <;> simp [h]
theorem eqvAll_ints : ∀ (a b : List Int), PyData.eqvAll (a.map .int) (b.map .int) = decide (a = b)
  | [], [] => by simp [PyData.eqvAll]
  | [], y :: b => by simp [PyData.eqvAll]
  | x :: a, [] => by simp [PyData.eqvAll]
  | x :: a, y :: b => by
    rw [List.map_cons, List.map_cons, PyData.eqvAll, eqvAll_ints a b, eqv_int]
    by_cases h1 : x = y <;> by_cases h2 : a = b <;> simp [h1, h2]
@[simp] theorem eqv_ints (a b : List Int) : PyData.eqv (ofInts a) (ofInts b) = decide (a = b) := by
  unfold ofInts; rw [PyData.eqv]; exact eqvAll_ints a b
@[simp] theorem eqv_ints' (a b : List Int) : PyData.eqv (.list (a.map .int)) (.list (b.map .int)) = decide (a = b) := eqv_ints a b
theorem eqvAll_rows : ∀ (a b : List (List Int)), PyData.eqvAll (a.map ofInts) (b.map ofInts) = decide (a = b)
  | [], [] => by simp [PyData.eqvAll]
  | [], y :: b => by simp [PyData.eqvAll]
  | x :: a, [] => by simp [PyData.eqvAll]
  | x :: a, y :: b => by
    rw [List.map_cons, List.map_cons, PyData.eqvAll, eqvAll_rows a b, eqv_ints]
    by_cases h1 : x = y <;> by_cases h2 : a = b <;> simp [h1, h2]
@[simp] theorem eqv_rows (a b : List (List Int)) : PyData.eqv (ofRows a) (ofRows b) = decide (a = b) := by
  unfold ofRows; rw [PyData.eqv]; exact eqvAll_rows a b
@[simp] theorem eqv_ints_nil (a : List Int) : PyData.eqv (ofInts a) (.list []) = decide (a = []) := eqv_ints a []

@[simp] theorem inV_ints (k : Int) (ns : List Int) : inV (.int k) (.d (ofInts ns)) = .ok (decide (k ∈ ns)) := by
  show (if okc (.int k) && okc (ofInts ns) then Out.ok ((ns.map PyData.int).any fun y => PyData.eqv y (.int k)) else .bad) = _
  rw [okc_int, okc_ints, if_pos (by decide)]
  congr 1
  rw [Bool.eq_iff_iff, List.any_map]
  simp [List.any_eq_true]
@[simp] theorem inV_rows (k : List Int) (t : List (List Int)) : inV (ofInts k) (.d (ofRows t)) = .ok (decide (k ∈ t)) := by
  show (if okc (ofInts k) && okc (ofRows t) then Out.ok ((t.map ofInts).any fun y => PyData.eqv y (ofInts k)) else .bad) = _
  rw [okc_ints, okc_rows, if_pos (by decide)]
  congr 1
  rw [Bool.eq_iff_iff, List.any_map]
  simp [List.any_eq_true]

@[simp] theorem intsOf_map : ∀ ns : List Int, intsOf (ns.map .int) = some ns
  | [] => rfl
  | i :: ns => by rw [List.map_cons, intsOf, intsOf_map ns]; rfl
theorem all_sx (ns : List Int) : (ns.map PyData.int).all sx = true := by rw [List.all_map, List.all_eq_true]; intro _ _; rfl
@[simp] theorem fresh_map (ns : List Int) : fresh (ns.map .int) = .deep := by unfold fresh; rw [all_sx]; rfl

@[simp] theorem mk_int (i : Int) : mk (.d (.int i)) = sI i := rfl
@[simp] theorem mk_ints (ns : List Int) : mk (.d (ofInts ns)) = (.d (ofInts ns), .sh) := rfl

/-- a comprehension of numbers -/
theorem compL_ints {F : PyData → Out (Option (V × Mode))} {f : Int → Int} {p : Int → Bool} : ∀ {ns : List Int}, (∀ i ∈ ns, F (.int i) = .ok (if p i then some (sI (f i)) else none)) → compL F (ns.map .int) = .ok (((ns.filter p).map f).map .int, true)
  | [], _ => rfl
  | i :: ns, h => by
    rw [List.map_cons, compL, h i (.head _), compL_ints fun j hj => h j (.tail _ hj)]
    simp only [Out.ok_bind]
    cases hp : p i <;> simp [hp, sI, List.filter_cons]
theorem compL_ints1 {F : PyData → Out (Option (V × Mode))} {f : Int → Int} {ns : List Int} (h : ∀ i ∈ ns, F (.int i) = .ok (some (sI (f i)))) : compL F (ns.map .int) = .ok ((ns.map f).map .int, true) := by
  have := compL_ints (p := fun _ => true) (F := F) (f := f) (ns := ns) fun i hi => by simpa using h i hi
  rwa [List.filter_eq_self.mpr (fun _ _ => rfl)] at this
/-- a comprehension of numbers over any data -/
theorem compL_to {α : Type} {F : PyData → Out (Option (V × Mode))} {e : α → PyData} {f : α → Int} : ∀ {l : List α}, (∀ i ∈ l, F (e i) = .ok (some (sI (f i)))) → compL F (l.map e) = .ok ((l.map f).map .int, true)
  | [], _ => rfl
  | i :: l, h => by
    rw [List.map_cons, compL, h i (.head _), compL_to fun j hj => h j (.tail _ hj)]
    rfl
/-- rows out of a comprehension -/
theorem compL_rows {α : Type} {F : PyData → Out (Option (V × Mode))} {e : α → PyData} {f : α → List Int} {p : α → Bool} {m : α → Mode} : ∀ {l : List α}, (∀ i ∈ l, F (e i) = .ok (if p i then some (.d (ofInts (f i)), m i) else none)) →
    ∃ b, compL F (l.map e) = .ok (((l.filter p).map f).map ofInts, b) ∧ ((∀ i ∈ l, m i = .deep) → b = true)
  | [], _ => ⟨true, rfl, fun _ => rfl⟩
  | i :: l, h => by
    obtain ⟨b, e1, e2⟩ := compL_rows (l := l) fun j hj => h j (.tail _ hj)
    rw [List.map_cons, compL, h i (.head _), e1]
    simp only [Out.ok_bind]
    cases hp : p i
    · exact ⟨b, by simp [hp, List.filter_cons], fun q => e2 fun j hj => q j (.tail _ hj)⟩
    · refine ⟨decide (m i = .deep) && b, by simp [hp, List.filter_cons], fun q => ?_⟩
      rw [q i (.head _), e2 fun j hj => q j (.tail _ hj)]; rfl

theorem range_ints (a b : Int) : rangeL a b = ((List.range (b - a).toNat).map fun (k : Nat) => a + (k : Int)).map .int := by
  unfold rangeL; rw [List.map_map]; rfl

noncomputable def upTo (n : Nat) : List Int := (List.range n).map fun (k : Nat) => (k : Int)
theorem rangeV_to {n : Nat} (h : n ≤ 1000000) : rangeV 0 n = .ok ((upTo n).map .int, .deep) := by
  unfold rangeV
  rw [if_pos ⟨by unfold lim; omega, by omega, by omega, by omega, by omega⟩, range_ints]
  simp [upTo]
theorem mem_upTo {n : Nat} {i : Int} : i ∈ upTo n ↔ 0 ≤ i ∧ i < n := by
  unfold upTo
  simp only [List.mem_map, List.mem_range]
  constructor
  · rintro ⟨k, hk, rfl⟩; omega
  · rintro ⟨h1, h2⟩; exact ⟨i.toNat, by omega, by omega⟩

theorem subV_list {xs : List PyData} {i : Int} {k : Nat} {y : PyData} (hk : seqIdx i xs.length = some k) (h : xs[k]? = some y) : subV (.list xs) (.int i) = .ok (mk (.d y)) := by
  show (optO ((seqIdx i xs.length).bind fun k => xs[k]?) fun z => Out.ok (mk (.d z))) = _
  rw [hk, Option.bind_some, h]; rfl
theorem seqIdx_pos {i : Int} {n : Nat} (h0 : 0 ≤ i) (h : i < n) : seqIdx i n = some i.toNat := by unfold seqIdx; rw [if_pos h0, if_pos h]
theorem subV_ints {ns : List Int} {i : Int} {x : Int} (h0 : 0 ≤ i) (h : ns[i.toNat]? = some x) : subV (ofInts ns) (.int i) = .ok (sI x) := by
  have hlt : i.toNat < ns.length := (List.getElem?_eq_some_iff.mp h).1
  exact subV_list (seqIdx_pos h0 (by rw [List.length_map]; omega)) (by rw [List.getElem?_map, h]; rfl)

/-- a loop that runs through -/
theorem loopS_fold {α : Type} {f : PyData → St → Out (St × Flw)} {e : α → PyData} (g : α → St → St) (I : St → Prop) : ∀ {l : List α} {σ : St}, I σ → (∀ x ∈ l, ∀ σ, I σ → I (g x σ) ∧ f (e x) σ = .ok (g x σ, .next)) → loopS f (l.map e) σ = .ok (l.foldl (fun σ x => g x σ) σ, .next)
  | [], σ, _, _ => rfl
  | x :: l, σ, hI, h => by
    obtain ⟨h1, h2⟩ := h x (.head _) σ hI
    rw [List.map_cons, loopS, h2]
    simp only [Out.ok_bind]
    exact loopS_fold g I h1 fun y hy => h y (.tail _ hy)

/-! ## steps of the evaluator, for simp -/
section
variable (a b : Int) (xs ys : List Int) (t u : List (List Int)) (σ : St) (x y : String) (v : V × Mode)
@[simp] theorem upd_app : upd σ x v y = if y = x then some v else σ y := rfl
@[simp] theorem truth_bool (b : Bool) : truth (.d (.bool b)) = .ok b := rfl
@[simp] theorem cmp_lt : cmpV .lt (.d (.int a)) (.d (.int b)) = .ok (decide (a < b)) := rfl
@[simp] theorem cmp_le : cmpV .le (.d (.int a)) (.d (.int b)) = .ok (decide (a ≤ b)) := rfl
@[simp] theorem cmp_gt : cmpV .gt (.d (.int a)) (.d (.int b)) = .ok (decide (b < a)) := rfl
@[simp] theorem cmp_ge : cmpV .ge (.d (.int a)) (.d (.int b)) = .ok (decide (b ≤ a)) := rfl
@[simp] theorem cmp_eq : cmpV .eq (.d (.int a)) (.d (.int b)) = .ok (decide (a = b)) := by
  show (if okc (.int a) && okc (.int b) then Out.ok (PyData.eqv (.int a) (.int b)) else .bad) = _
  rw [okc_int, okc_int, eqv_int, if_pos (by decide)]
@[simp] theorem cmp_ne : cmpV .ne (.d (.int a)) (.d (.int b)) = .ok (!decide (a = b)) := by
  show (if okc (.int a) && okc (.int b) then Out.ok (!PyData.eqv (.int a) (.int b)) else .bad) = _
  rw [okc_int, okc_int, eqv_int, if_pos (by decide)]
@[simp] theorem cmp_eqI : cmpV .eq (.d (ofInts xs)) (.d (ofInts ys)) = .ok (decide (xs = ys)) := by
  show (if okc (ofInts xs) && okc (ofInts ys) then Out.ok (PyData.eqv (ofInts xs) (ofInts ys)) else .bad) = _
  rw [okc_ints, okc_ints, eqv_ints, if_pos (by decide)]
@[simp] theorem cmp_neI : cmpV .ne (.d (ofInts xs)) (.d (ofInts ys)) = .ok (!decide (xs = ys)) := by
  show (if okc (ofInts xs) && okc (ofInts ys) then Out.ok (!PyData.eqv (ofInts xs) (ofInts ys)) else .bad) = _
  rw [okc_ints, okc_ints, eqv_ints, if_pos (by decide)]
@[simp] theorem cmp_eqR : cmpV .eq (.d (ofRows t)) (.d (ofRows u)) = .ok (decide (t = u)) := by
  show (if okc (ofRows t) && okc (ofRows u) then Out.ok (PyData.eqv (ofRows t) (ofRows u)) else .bad) = _
  rw [okc_rows, okc_rows, eqv_rows, if_pos (by decide)]
@[simp] theorem cmp_neR : cmpV .ne (.d (ofRows t)) (.d (ofRows u)) = .ok (!decide (t = u)) := by
  show (if okc (ofRows t) && okc (ofRows u) then Out.ok (!PyData.eqv (ofRows t) (ofRows u)) else .bad) = _
  rw [okc_rows, okc_rows, eqv_rows, if_pos (by decide)]
@[simp] theorem cmp_in : cmpV .isin (.d (.int a)) (.d (ofInts xs)) = .ok (decide (a ∈ xs)) := inV_ints a xs
@[simp] theorem cmp_nin : cmpV .notin (.d (.int a)) (.d (ofInts xs)) = .ok (!decide (a ∈ xs)) := by
  show ((inV (.int a) (.d (ofInts xs))).bind fun b => Out.ok (!b)) = _
  rw [inV_ints]; rfl
@[simp] theorem cmp_inR : cmpV .isin (.d (ofInts xs)) (.d (ofRows t)) = .ok (decide (xs ∈ t)) := inV_rows xs t
@[simp] theorem bin_add : binV .add (.int a) (.int b) = .ok (sI (a + b)) := rfl
@[simp] theorem bin_sub : binV .sub (.int a) (.int b) = .ok (sI (a - b)) := rfl
@[simp] theorem bin_xor : binV .xor (.int a) (.int b) = .ok (sI (Builtin.bitXor a b)) := rfl
theorem bin_mul_l (h : a.natAbs < 2 ^ 63) : binV .mul (.int a) (.int b) = .ok (sI (a * b)) := by
  show (if a.natAbs < 2 ^ 63 ∨ b.natAbs < 2 ^ 63 then Out.ok (sI (a * b)) else .bad) = _
  rw [if_pos (.inl h)]
theorem bin_mul_r (h : b.natAbs < 2 ^ 63) : binV .mul (.int a) (.int b) = .ok (sI (a * b)) := by
  show (if a.natAbs < 2 ^ 63 ∨ b.natAbs < 2 ^ 63 then Out.ok (sI (a * b)) else .bad) = _
  rw [if_pos (.inr h)]
theorem bin_mod (h : 0 < b) : binV .mod (.int a) (.int b) = .ok (sI (a % b)) := by
  show (if b = 0 then Out.bad else Out.ok (sI (a.fmod b))) = _
  rw [if_neg (by omega), Int.fmod_eq_emod_of_nonneg _ (by omega)]
theorem bin_div (h : 0 < b) (h' : b < 1000000000) : binV .fdiv (.int a) (.int b) = .ok (sI (a / b)) := by
  show (if b = 0 ∨ 1000000000 ≤ b.natAbs then Out.bad else Out.ok (sI (a.fdiv b))) = _
  rw [if_neg (by omega), Int.fdiv_eq_ediv_of_nonneg _ (by omega)]
theorem bin_addI (h : xs.length + ys.length ≤ 1000000) : binV .add (ofInts xs) (ofInts ys) = .ok (.d (ofInts (xs ++ ys)), .deep) := by
  show (if (xs.map PyData.int).length + (ys.map PyData.int).length ≤ lim then Out.ok (V.d (.list (xs.map .int ++ ys.map .int)), fresh (xs.map .int ++ ys.map .int)) else .bad) = _
  rw [List.length_map, List.length_map, if_pos (show _ ≤ lim from h), ← List.map_append, fresh_map]; rfl
@[simp] theorem b1_len : b1V .len (.d (ofInts xs)) = .ok (sI xs.length) := by
  show Out.ok (sI (xs.map PyData.int).length) = _
  rw [List.length_map]
@[simp] theorem b1_lenR : b1V .len (.d (ofRows t)) = .ok (sI t.length) := by
  show Out.ok (sI (t.map ofInts).length) = _
  rw [List.length_map]
@[simp] theorem b1_list : b1V .list (.d (ofInts xs)) = .ok (.d (ofInts xs), .deep) := by
  show Out.ok (V.d (.list (xs.map PyData.int)), fresh (xs.map PyData.int)) = _
  rw [fresh_map]; rfl
@[simp] theorem b1_tuple : b1V .tuple (.d (ofInts xs)) = .ok (.d (ofTup xs), .deep) := by
  show Out.ok (V.d (.tuple (xs.map PyData.int)), if (xs.map PyData.int).all sx then Mode.deep else .sh) = _
  rw [all_sx, if_pos rfl]; rfl
@[simp] theorem b1_sum : b1V .sum (.d (ofInts xs)) = .ok (sI xs.sum) := by
  show (optO (intsOf (xs.map PyData.int)) fun ns => Out.ok (sI ns.sum)) = _
  rw [intsOf_map]; rfl
noncomputable def sortI (xs : List Int) : List Int := xs.mergeSort fun a b => decide (a ≤ b)
theorem b1_sorted (h : xs.length < 64) : b1V .sorted (.d (ofInts xs)) = .ok (.d (ofInts (sortI xs)), .deep) := by
  show sortedV (xs.map PyData.int) = _
  unfold sortedV
  rw [List.length_map, if_pos h, intsOf_map]; rfl
@[simp] theorem isi_int_int : isiV (.d (.int a)) "int" = .ok true := rfl
@[simp] theorem isi_int_bool : isiV (.d (.int a)) "bool" = .ok false := rfl
@[simp] theorem isi_ints_list : isiV (.d (ofInts xs)) "list" = .ok true := rfl
@[simp] theorem sI_1 : (sI a).1 = .d (.int a) := rfl
@[simp] theorem sI_2 : (sI a).2 = .deep := rfl
@[simp] theorem sB_1 (b : Bool) : (sB b).1 = .d (.bool b) := rfl
@[simp] theorem sB_2 (b : Bool) : (sB b).2 = .deep := rfl
theorem nil_ofInts : PyData.list [] = ofInts [] := rfl
theorem one_ofInts : PyData.list [.int a] = ofInts [a] := rfl
@[simp] theorem allD_nil : allD [] = some [] := rfl
@[simp] theorem allD_int (m : Mode) (l : List (V × Mode)) : allD ((.d (.int a), m) :: l) = (allD l).map (.int a :: ·) := rfl
@[simp] theorem allD_sI (l : List (V × Mode)) : allD (sI a :: l) = (allD l).map (.int a :: ·) := rfl
@[simp] theorem allDeep_nil : allDeep [] = true := rfl
@[simp] theorem allDeep_sI (l : List (V × Mode)) : allDeep (sI a :: l) = allDeep l := by simp [allDeep]
end

/-- a loop, by what it carries on -/
theorem loopS_rel {α β : Type} {f : PyData → St → Out (St × Flw)} {e : α → PyData} (g : β → α → β) (Rl : β → St → Prop) : ∀ {l : List α} {σ : St} {b : β}, Rl b σ → (∀ x ∈ l, ∀ b σ, Rl b σ → ∃ σ', f (e x) σ = .ok (σ', .next) ∧ Rl (g b x) σ') →
    ∃ σ', loopS f (l.map e) σ = .ok (σ', .next) ∧ Rl (l.foldl g b) σ'
  | [], σ, b, h, _ => ⟨σ, rfl, h⟩
  | x :: l, σ, b, h, hs => by
    obtain ⟨σ₁, h1, h2⟩ := hs x (.head _) b σ h
    obtain ⟨σ', h3, h4⟩ := loopS_rel g Rl h2 fun y hy => hs y (.tail _ hy)
    exact ⟨σ', by rw [List.map_cons, loopS, h1]; exact h3, h4⟩
theorem sortI_perm (xs : List Int) : (sortI xs).Perm xs := List.mergeSort_perm ..
theorem sortI_sorted (xs : List Int) : (sortI xs).Pairwise (· ≤ ·) := by
  have := List.pairwise_mergeSort (le := fun a b : Int => decide (a ≤ b)) (fun a b c h1 h2 => by simp at *; omega) (fun a b => by simp; omega) xs
  exact this.imp (by intro a b h; simpa using h)
theorem sorted_eq : ∀ {l l' : List Int}, l.Perm l' → l.Pairwise (· ≤ ·) → l'.Pairwise (· ≤ ·) → l = l'
  | [], l', p, _, _ => by rw [p.nil_eq]
  | a :: l, [], p, _, _ => by cases p.eq_nil
  | a :: l, b :: l', p, h, h' => by
    obtain ⟨h1, h2⟩ := List.pairwise_cons.mp h
    obtain ⟨h3, h4⟩ := List.pairwise_cons.mp h'
    have e : a = b := by
      rcases List.mem_cons.mp (p.mem_iff.mp (List.mem_cons_self (a := a) (l := l))) with e | e
      · exact e
      · rcases List.mem_cons.mp (p.mem_iff.mpr (List.mem_cons_self (a := b) (l := l'))) with e' | e'
        · exact e'.symm
        · have := h1 b e'; have := h3 a e; omega
    subst e
    rw [sorted_eq ((List.perm_cons a).mp p) h2 h4]
theorem sortI_eq {xs ys : List Int} (p : xs.Perm ys) (h : ys.Pairwise (· ≤ ·)) : sortI xs = ys := sorted_eq ((sortI_perm xs).trans p) (sortI_sorted xs) h

@[simp] theorem lstV_ints (xs : List Int) : lstV (.d (ofInts xs)) = some (xs.map .int) := rfl
@[simp] theorem lstV_rows (t : List (List Int)) : lstV (.d (ofRows t)) = some (t.map ofInts) := rfl
@[simp] theorem itV_ints (xs : List Int) (m : Mode) : itV (.d (ofInts xs), m) = .ok (xs.map .int, m) := rfl
@[simp] theorem itV_rows (t : List (List Int)) (m : Mode) : itV (.d (ofRows t), m) = .ok (t.map ofInts, m) := rfl
theorem ofInts_fold (xs : List Int) : PyData.list (xs.map .int) = ofInts xs := rfl
@[simp] theorem ofInts_snoc (xs : List Int) (a : Int) : PyData.list (xs.map .int ++ [.int a]) = ofInts (xs ++ [a]) := by unfold ofInts; rw [List.map_append]; rfl

/-- what comes behind a loop -/
theorem bind_loop {α β γ : Type} {f : PyData → St → Out (St × Flw)} {e : α → PyData} (g : β → α → β) (Rl : β → St → Prop) {l : List α} {σ : St} (b : β) {k : St × Flw → Out γ} {r : Out γ} (h0 : Rl b σ) (hs : ∀ x ∈ l, ∀ b σ, Rl b σ → ∃ σ', f (e x) σ = .ok (σ', .next) ∧ Rl (g b x) σ')
    (hk : ∀ σ', Rl (l.foldl g b) σ' → k (σ', .next) = r) : (loopS f (l.map e) σ).bind k = r := by
  obtain ⟨σ', h1, h2⟩ := loopS_rel g Rl h0 hs
  rw [h1]
  exact hk σ' h2

theorem bind_assoc {α β γ : Type} (o : Out α) (f : α → Out β) (g : β → Out γ) : (o.bind f).bind g = o.bind fun a => (f a).bind g := by cases o <;> rfl

theorem loopS_pre {α : Type} {f : PyData → St → Out (St × Flw)} {e : α → PyData} {l : List α} (Rl : List α → St → Prop) (hs : ∀ pre x post, l = pre ++ x :: post → ∀ σ, Rl pre σ → ∃ σ', f (e x) σ = .ok (σ', .next) ∧ Rl (pre ++ [x]) σ') :
    ∀ (post pre : List α) (σ : St), l = pre ++ post → Rl pre σ → ∃ σ', loopS f (post.map e) σ = .ok (σ', .next) ∧ Rl l σ'
  | [], pre, σ, hl, h => ⟨σ, rfl, by rw [hl, List.append_nil]; exact h⟩
  | x :: post, pre, σ, hl, h => by
    obtain ⟨σ₁, h1, h2⟩ := hs pre x post hl σ h
    obtain ⟨σ', h3, h4⟩ := loopS_pre Rl hs post (pre ++ [x]) σ₁ (by rw [hl, List.append_assoc]; rfl) h2
    exact ⟨σ', by rw [List.map_cons, loopS, h1]; exact h3, h4⟩
/-- what comes behind a loop, by the part that is done -/
theorem bind_loopP {α γ : Type} {f : PyData → St → Out (St × Flw)} {e : α → PyData} {l : List α} (Rl : List α → St → Prop) {σ : St} {k : St × Flw → Out γ} {r : Out γ} (h0 : Rl [] σ)
    (hs : ∀ pre x post, l = pre ++ x :: post → ∀ σ, Rl pre σ → ∃ σ', f (e x) σ = .ok (σ', .next) ∧ Rl (pre ++ [x]) σ') (hk : ∀ σ', Rl l σ' → k (σ', .next) = r) : (loopS f (l.map e) σ).bind k = r := by
  obtain ⟨σ', h1, h2⟩ := loopS_pre Rl hs l [] σ rfl h0
  rw [h1]
  exact hk σ' h2
theorem putV_ints {σ : St} {x : String} {ns : List String} {mx : Mode} {xs : List PyData} (h : xs.length ≤ 1000000) : putV σ x ns mx xs .deep = .ok (upd σ x (.d (.list xs), mx), .next) := by
  unfold putV
  rw [if_pos (show _ ≤ lim from h), if_pos rfl]
@[simp] theorem upTo_len (n : Nat) : (upTo n).length = n := by simp [upTo]

theorem ofInts_ins (xs : List Int) (j : Nat) (x : Int) : PyData.list ((xs.map PyData.int).take j ++ .int x :: (xs.map PyData.int).drop j) = ofInts (xs.take j ++ x :: xs.drop j) := by
  unfold ofInts; rw [List.map_append, List.map_cons, List.map_take, List.map_drop]

theorem shiV_ints (xs : List Int) (n : Nat) (h : n ≤ 1000000) : shiV (ofInts xs) (.int n) = .ok (.d (ofInts (xs.take n)), .deep) := by
  unfold ofInts shiV
  dsimp only
  rw [if_pos ⟨by omega, by omega⟩, Int.toNat_natCast, ← List.map_take, fresh_map]
theorem sloV_ints (xs : List Int) (n : Nat) (h : n ≤ 1000000) : sloV (ofInts xs) (.int n) = .ok (.d (ofInts (xs.drop n)), .deep) := by
  unfold ofInts sloV
  dsimp only
  rw [if_pos ⟨by omega, by omega⟩, Int.toNat_natCast, ← List.map_drop, fresh_map]

theorem subV_last {xs : List Int} {x : Int} (h : xs.getLast? = some x) : subV (ofInts xs) (.int (-1)) = .ok (sI x) := by
  have hne : xs ≠ [] := fun e => by rw [e] at h; cases h
  have hl : 0 < xs.length := List.length_pos_iff.mpr hne
  refine subV_list (k := xs.length - 1) ?_ (by rw [List.getElem?_map, ← List.getLast?_eq_getElem?, h]; rfl)
  unfold seqIdx
  rw [List.length_map, if_neg (by omega), if_pos (by omega)]
  congr 1
  omega
theorem exs_next {C : Calls} {s : S} {r : Ss} {σ σ' : St} (h : ex C s σ = .ok (σ', .next)) : exs C (.cons s r) σ = exs C r σ' := by
  simp only [exs, h, Out.ok_bind]
theorem exs_ret {C : Calls} {s : S} {r : Ss} {σ σ' : St} {v : V × Mode} (h : ex C s σ = .ok (σ', .ret v)) : exs C (.cons s r) σ = .ok (σ', .ret v) := by
  simp only [exs, h, Out.ok_bind]

section
variable {C : Calls} {a b : E} {σ : St} {x y : PyData} {mx my : Mode}
theorem ev_shi (ha : ev C a σ = .ok (.d x, mx)) (hb : ev C b σ = .ok (.d y, my)) : ev C (.shi a b) σ = shiV x y := by simp only [ev, ha, hb, Out.ok_bind]
theorem ev_slo (ha : ev C a σ = .ok (.d x, mx)) (hb : ev C b σ = .ok (.d y, my)) : ev C (.slo a b) σ = sloV x y := by simp only [ev, ha, hb, Out.ok_bind]
theorem ev_sub (ha : ev C a σ = .ok (.d x, mx)) (hb : ev C b σ = .ok (.d y, my)) : ev C (.sub a b) σ = subV x y := by simp only [ev, ha, hb, Out.ok_bind]
theorem ev_bin {o : BOp} (ha : ev C a σ = .ok (.d x, mx)) (hb : ev C b σ = .ok (.d y, my)) : ev C (.bin o a b) σ = binV o x y := by simp only [ev, ha, hb, Out.ok_bind]
theorem ex_ret {r : V × Mode} (h : ev C a σ = .ok r) : ex C (.ret a) σ = .ok (σ, .ret r) := by simp only [ex, h, Out.ok_bind]
theorem ex_assign {z : String} {r : V × Mode} (h : ev C a σ = .ok r) (hd : r.2 = .deep) : ex C (.assign z a) σ = .ok (upd σ z r, .next) := by
  simp only [ex, h, Out.ok_bind, consume, hd, if_true]
theorem ev_name {z : String} {p : V × Mode} (h : σ z = some p) : ev C (.name z) σ = .ok (mk p.1) := by simp only [ev, h]
end

section
variable {C : Calls} {a b c : E} {σ : St} {x y : V} {mx my : Mode}
theorem ev_call {f : String} {g : List V → Out (V × Mode)} {es : Es} {l : List (V × Mode)} (hC : C f = some g) (he : evs C es σ = .ok l) : ev C (.call f es) σ = g (l.map (·.1)) := by simp only [ev, hC, he, Out.ok_bind]
theorem evs_cons {es : Es} {r : V × Mode} {l : List (V × Mode)} (h : ev C a σ = .ok r) (hs : evs C es σ = .ok l) : evs C (.cons a es) σ = .ok (r :: l) := by simp only [evs, h, hs, Out.ok_bind]
theorem evs_nil : evs C .nil σ = .ok [] := by simp only [evs]
theorem ev_cmp {o : COp} {t : Bool} (ha : ev C a σ = .ok (x, mx)) (hb : ev C b σ = .ok (y, my)) (h : cmpV o x y = .ok t) : ev C (.cmp o a b) σ = .ok (sB t) := by simp only [ev, ha, hb, h, Out.ok_bind]
theorem ev_not {t : Bool} (ha : ev C a σ = .ok (sB t)) : ev C (.not a) σ = .ok (sB (!t)) := by simp only [ev, ha, Out.ok_bind, sB_1, truth_bool]
theorem ev_or_f {t : Bool} (ha : ev C a σ = .ok (sB false)) (hb : ev C b σ = .ok (sB t)) : ev C (.or a b) σ = .ok (sB t) := by
  simp only [ev, ha, hb, Out.ok_bind, sB_1, truth_bool, Bool.false_eq_true, if_false]
theorem ev_or_t (ha : ev C a σ = .ok (sB true)) : ev C (.or a b) σ = .ok (sB true) := by
  simp only [ev, ha, Out.ok_bind, sB_1, truth_bool, if_true]
theorem ev_and_t {t : Bool} (ha : ev C a σ = .ok (sB true)) (hb : ev C b σ = .ok (sB t)) : ev C (.and a b) σ = .ok (sB t) := by
  simp only [ev, ha, hb, Out.ok_bind, sB_1, truth_bool, if_true]
theorem ev_and_f (ha : ev C a σ = .ok (sB false)) : ev C (.and a b) σ = .ok (sB false) := by
  simp only [ev, ha, Out.ok_bind, sB_1, truth_bool, Bool.false_eq_true, if_false]
theorem ex_if_f {u v : Ss} (h : ev C c σ = .ok (sB false)) : ex C (.ite c u v) σ = exs C v σ := by simp only [ex, h, Out.ok_bind, sB_1, truth_bool, Bool.false_eq_true, if_false]
theorem ex_if_t {u v : Ss} (h : ev C c σ = .ok (sB true)) : ex C (.ite c u v) σ = exs C u σ := by simp only [ex, h, Out.ok_bind, sB_1, truth_bool, if_true]
theorem exs_nil : exs C .nil σ = .ok (σ, .next) := by simp only [exs]
theorem ev_b1 {f : B1} (ha : ev C a σ = .ok (x, mx)) : ev C (.bi1 f a) σ = b1V f x := by simp only [ev, ha, Out.ok_bind]
theorem ev_nm {z : String} {p r : V × Mode} (h : σ z = some p) (hr : mk p.1 = r) : ev C (.name z) σ = .ok r := by simp only [ev, h, hr]
theorem evIt_e {r : V × Mode} {q : List PyData × Mode} (h : ev C a σ = .ok r) (hq : itV r = .ok q) : evIt C (.e a) σ = .ok q := by simp only [evIt, h, Out.ok_bind, hq]
theorem evIt_r {n : Nat} {m : Mode} (h : ev C a σ = .ok (.d (.int n), m)) (hn : n ≤ 1000000) : evIt C (.r1 a) σ = .ok ((upTo n).map .int, .deep) := by
  simp only [evIt, h, Out.ok_bind]; exact rangeV_to hn
theorem ev_comp {elt : E} {z : String} {it : It} {q : List PyData × Mode} {r : List PyData × Bool} (h : evIt C it σ = .ok q) (hr : compL (fun y => (ev C elt (upd σ z (mk (.d y)))).bind fun r => .ok (some r)) q.1 = .ok r) : ev C (.comp elt z it) σ = .ok (.d (.list r.1), if r.2 then .deep else .top) := by
  simp only [ev, h, Out.ok_bind, hr, Out.calm_ok]
theorem ev_compif {elt c : E} {z : String} {it : It} {q : List PyData × Mode} {r : List PyData × Bool} (h : evIt C it σ = .ok q) (hr : compL (fun y => (ev C c (upd σ z (mk (.d y)))).bind fun t => (truth t.1).bind fun b => if b then (ev C elt (upd σ z (mk (.d y)))).bind fun r => .ok (some r) else .ok none) q.1 = .ok r) : ev C (.compif elt z it c) σ = .ok (.d (.list r.1), if r.2 then .deep else .top) := by
  simp only [ev, h, Out.ok_bind, hr, Out.calm_ok]
/-- numbers kept by a test -/
theorem ev_filter {c : E} {z : String} {it : It} {ns : List Int} {m : Mode} (p : Int → Bool) (h : evIt C it σ = .ok (ns.map .int, m)) (hc : ∀ i ∈ ns, ev C c (upd σ z (sI i)) = .ok (sB (p i))) : ev C (.compif (.name z) z it c) σ = .ok (.d (ofInts (ns.filter p)), .deep) := by
  rw [ev_compif h (r := ((ns.filter p).map .int, true))]
  · rfl
  · have := compL_ints (F := fun y => (ev C c (upd σ z (mk (.d y)))).bind fun t => (truth t.1).bind fun b => if b then (ev C (.name z) (upd σ z (mk (.d y)))).bind fun r => .ok (some r) else .ok none) (f := fun i => i) (p := p) (ns := ns) fun i hi => by
      rw [mk_int, hc i hi]
      cases p i <;> simp [ev]
    simpa using this
/-- numbers out of numbers -/
theorem ev_mapI {elt : E} {z : String} {it : It} {ns : List Int} {m : Mode} (f : Int → Int) (h : evIt C it σ = .ok (ns.map .int, m)) (hc : ∀ i ∈ ns, ev C elt (upd σ z (sI i)) = .ok (sI (f i))) : ev C (.comp elt z it) σ = .ok (.d (ofInts (ns.map f)), .deep) := by
  rw [ev_comp h (r := ((ns.map f).map .int, true))]
  · rfl
  · exact compL_ints1 (F := fun y => (ev C elt (upd σ z (mk (.d y)))).bind fun r => .ok (some r)) fun i hi => by rw [mk_int, hc i hi]; rfl
theorem ex_append {z : String} {xs : List Int} {m : Mode} {i : Int} (hz : σ z = some (.d (ofInts xs), m)) (hm : m ≠ .sh) (h : ev C a σ = .ok (sI i)) (hl : xs.length < 1000000) : ex C (.append z a) σ = .ok (upd σ z (.d (ofInts (xs ++ [i])), m), .next) := by
  simp only [ex, h, Out.ok_bind, hz, lstV_ints, if_neg hm, sI_1, sI_2]
  rw [putV_ints (by rw [List.length_append, List.length_map]; exact hl), ofInts_snoc]
theorem subV_rows {t : List (List Int)} {i : Int} {r : List Int} (h0 : 0 ≤ i) (h : t[i.toNat]? = some r) : subV (ofRows t) (.int i) = .ok (.d (ofInts r), .sh) := by
  have hlt : i.toNat < t.length := (List.getElem?_eq_some_iff.mp h).1
  exact subV_list (seqIdx_pos h0 (by rw [List.length_map]; omega)) (by rw [List.getElem?_map, h]; rfl)
end
end Mine

namespace Mine
open PySem

/-! ## runs of the evaluator, by what is known of the names -/
def Val (σ : St) (x : String) (v : V) : Prop := ∃ m, σ x = some (v, m)
def Has (σ : St) (l : List (String × V)) : Prop := ∀ x v, l.lookup x = some v → Val σ x v
def Sub (l : List (String × V)) : List (String × V) → Prop
  | [] => True
  | p :: r => l.lookup p.1 = some p.2 ∧ Sub l r

theorem upd_hd (σ : St) (x : String) (r : V × Mode) : upd σ x r x = some r := if_pos rfl
theorem lookup_hd {β : Type} (x : String) (v : β) (l : List (String × β)) : List.lookup x ((x, v) :: l) = some v := by
  rw [List.lookup_cons, beq_self_eq_true]
theorem lookup_tl {β : Type} {x y : String} (h : x ≠ y) (v : β) (l : List (String × β)) : List.lookup x ((y, v) :: l) = l.lookup x := by
  rw [List.lookup_cons, beq_eq_false_iff_ne.mpr h]

section
variable {C : Calls} {σ : St} {l l' : List (String × V)}
theorem Has.nil : Has σ [] := fun _ _ h => by cases h
theorem Has.ev {x : String} {v : V} (H : Has σ l) (h : l.lookup x = some v) : ev C (.name x) σ = .ok (mk v) := by
  obtain ⟨m, e⟩ := H x v h
  exact ev_nm e rfl
theorem Has.upd (H : Has σ l) (x : String) (v : V) (m : Mode) : Has (Mine.upd σ x (v, m)) ((x, v) :: l) := by
  intro y u h
  by_cases e : y = x
  · subst e
    rw [lookup_hd] at h
    cases h
    exact ⟨m, if_pos rfl⟩
  · rw [lookup_tl e] at h
    obtain ⟨m', q⟩ := H y u h
    exact ⟨m', (if_neg e).trans q⟩
theorem Has.demote (H : Has σ l) (ns : List String) : Has (Mine.demote σ ns) l := by
  intro x v h
  obtain ⟨m, q⟩ := H x v h
  by_cases e : x ∈ ns
  · exact ⟨(mk v).2, (if_pos e).trans (by rw [q]; rfl)⟩
  · exact ⟨m, (if_neg e).trans q⟩
theorem Has.consume (H : Has σ l) (ns : List String) (m : Mode) : Has (Mine.consume σ ns m) l := by
  unfold Mine.consume
  by_cases e : m = .deep
  · rw [if_pos e]; exact H
  · rw [if_neg e]; exact H.demote ns
theorem Has.sub (H : Has σ l) (h : Sub l l') : Has σ l' := by
  induction l' with
  | nil => exact .nil
  | cons p r ih =>
    intro x v hx
    by_cases e : x = p.1
    · subst e
      rw [lookup_hd] at hx
      cases hx
      exact H _ _ h.1
    · rw [lookup_tl e] at hx
      exact ih h.2 x v hx

noncomputable def Runs (C : Calls) (b : Ss) (σ : St) (Post : St → Flw → Prop) : Prop := ∃ σ' fl, exs C b σ = .ok (σ', fl) ∧ Post σ' fl
/-- what comes behind -/
noncomputable def Cont (C : Calls) (b : Ss) (Post : St → Flw → Prop) (σ : St) : Flw → Prop
  | .next => Runs C b σ Post
  | .ret v => Post σ (.ret v)

variable {b u v : Ss} {s : S} {e c : E} {Post Post' : St → Flw → Prop} {r : V × Mode} {x : String}
theorem Cont.ret (h : Post σ (.ret r)) : Cont C b Post σ (.ret r) := h
theorem Runs.mono (h : Runs C b σ Post) (k : ∀ σ' fl, Post σ' fl → Post' σ' fl) : Runs C b σ Post' := let ⟨a, f, h1, h2⟩ := h; ⟨a, f, h1, k a f h2⟩
theorem Runs.nil (h : Post σ .next) : Runs C .nil σ Post := ⟨σ, .next, exs_nil, h⟩
theorem Runs.cons {o : St × Flw} (he : ex C s σ = .ok o) (k : Cont C b Post o.1 o.2) : Runs C (.cons s b) σ Post := by
  obtain ⟨σ', fl⟩ := o
  cases fl with
  | next =>
    obtain ⟨a, f, h1, h2⟩ := k
    exact ⟨a, f, by rw [exs_next he]; exact h1, h2⟩
  | ret v => exact ⟨σ', .ret v, exs_ret he, k⟩
theorem Runs.set (H : Has σ l) (he : Mine.ev C e σ = .ok r) (k : ∀ σ', Has σ' ((x, r.1) :: l) → σ' x = some r → Runs C b σ' Post) : Runs C (.cons (.assign x e) b) σ Post :=
  Runs.cons (o := (Mine.upd (Mine.consume σ (fv e) r.2) x r, .next)) (by simp only [ex, he, Out.ok_bind]) (k _ ((H.consume _ _).upd x r.1 r.2) (if_pos rfl))
theorem Runs.expr (H : Has σ l) (he : Mine.ev C e σ = .ok r) (k : ∀ σ', Has σ' l → (∀ y, y ∉ fv e → σ' y = σ y) → Runs C b σ' Post) : Runs C (.cons (.expr e) b) σ Post :=
  Runs.cons (o := (Mine.consume σ (fv e) r.2, .next)) (by simp only [ex, he, Out.ok_bind]) (k _ (H.consume _ _) fun y hy => by
    unfold Mine.consume
    by_cases q : r.2 = .deep
    · rw [if_pos q]
    · rw [if_neg q]; exact if_neg hy)
theorem Runs.ret (he : Mine.ev C e σ = .ok r) (k : Post σ (.ret r)) : Runs C (.cons (.ret e) b) σ Post := Runs.cons (o := (σ, .ret r)) (ex_ret he) k
theorem Runs.retn (he : σ x = some r) (k : Post σ (.ret r)) : Runs C (.cons (.retn x) b) σ Post := Runs.cons (o := (σ, .ret r)) (by simp only [ex, he]) k
theorem Runs.no (he : Mine.ev C c σ = .ok (sB false)) (k : Runs C b σ Post) : Runs C (.cons (.ite c u .nil) b) σ Post := Runs.cons (o := (σ, .next)) ((ex_if_f he).trans exs_nil) k
theorem Runs.ite {t : Bool} (he : Mine.ev C c σ = .ok (sB t)) (kt : t = true → Runs C u σ (Cont C b Post)) (kf : t = false → Runs C v σ (Cont C b Post)) : Runs C (.cons (.ite c u v) b) σ Post := by
  cases t with
  | true =>
    obtain ⟨a, f, h1, h2⟩ := kt rfl
    exact Runs.cons (o := (a, f)) ((ex_if_t he).trans h1) h2
  | false =>
    obtain ⟨a, f, h1, h2⟩ := kf rfl
    exact Runs.cons (o := (a, f)) ((ex_if_f he).trans h1) h2
theorem Runs.next {σ' : St} (he : ex C s σ = .ok (σ', .next)) (k : Runs C b σ' Post) : Runs C (.cons s b) σ Post := Runs.cons (o := (σ', .next)) he k
theorem Runs.iteTo {t : Bool} (Inv : St → Prop) (he : Mine.ev C c σ = .ok (sB t)) (kt : t = true → Runs C u σ (fun σ' fl => fl = .next ∧ Inv σ')) (kf : t = false → Runs C v σ (fun σ' fl => fl = .next ∧ Inv σ')) (k : ∀ σ', Inv σ' → Runs C b σ' Post) : Runs C (.cons (.ite c u v) b) σ Post :=
  Runs.ite he (fun q => (kt q).mono fun σ' fl h => by obtain ⟨rfl, h⟩ := h; exact k σ' h) fun q => (kf q).mono fun σ' fl h => by obtain ⟨rfl, h⟩ := h; exact k σ' h
theorem consume_has {ns : List String} {m : Mode} : (∀ l, Has σ l → Has (Mine.consume σ ns m) l) ∧ ∀ y, y ∉ ns → Mine.consume σ ns m y = σ y := ⟨fun _ H => H.consume ns m, fun y hy => by
  unfold Mine.consume
  by_cases q : m = .deep
  · rw [if_pos q]
  · rw [if_neg q]; exact if_neg hy⟩

theorem loop_runs {α : Type} {body : Ss} {z : String} {g : α → PyData} {xs : List α} (Inv : List α → St → Prop)
    (hs : ∀ pre y post, xs = pre ++ y :: post → ∀ σ, Inv pre σ → Runs C body (Mine.upd σ z (mk (.d (g y)))) (fun σ' fl => match fl with | .next => Inv (pre ++ [y]) σ' | .ret v => Post σ' (.ret v))) :
    ∀ (post pre : List α) (σ : St), xs = pre ++ post → Inv pre σ → ∃ o, loopS (fun y σ => exs C body (Mine.upd σ z (mk (.d y)))) (post.map g) σ = .ok o ∧ match o.2 with | .next => Inv xs o.1 | .ret v => Post o.1 (.ret v)
  | [], pre, σ, hl, h => ⟨(σ, .next), rfl, by rw [hl, List.append_nil]; exact h⟩
  | y :: post, pre, σ, hl, h => by
    obtain ⟨a, f, h1, h2⟩ := hs pre y post hl σ h
    cases f with
    | ret v => exact ⟨(a, .ret v), by rw [List.map_cons, loopS, h1]; rfl, h2⟩
    | next =>
      obtain ⟨o, h3, h4⟩ := loop_runs Inv hs post (pre ++ [y]) a (by rw [hl, List.append_assoc]; rfl) h2
      exact ⟨o, by rw [List.map_cons, loopS, h1]; exact h3, h4⟩
/-- a loop, by the part that is done -/
theorem Runs.for {α : Type} {body : Ss} {z : String} {it : It} {g : α → PyData} {xs : List α} {m : Mode} (Inv : List α → St → Prop) (hit : evIt C it σ = .ok (xs.map g, m)) (h0 : ∀ σ0, (∀ l, Has σ l → Has σ0 l) → (∀ y, y ∉ fvIt it → σ0 y = σ y) → Inv [] σ0)
    (hs : ∀ pre y post, xs = pre ++ y :: post → ∀ σ, Inv pre σ → Runs C body (Mine.upd σ z (mk (.d (g y)))) (fun σ' fl => match fl with | .next => Inv (pre ++ [y]) σ' | .ret v => Post σ' (.ret v)))
    (k : ∀ σ', Inv xs σ' → Runs C b σ' Post) : Runs C (.cons (.for1 z it body) b) σ Post := by
  obtain ⟨o, h1, h2⟩ := loop_runs Inv hs xs [] (Mine.consume σ (fvIt it) m) rfl (h0 _ consume_has.1 consume_has.2)
  refine Runs.cons (o := o) (by simp only [ex, hit, Out.ok_bind]; exact h1) ?_
  obtain ⟨a, f⟩ := o
  cases f with
  | next => exact k a h2
  | ret v => exact h2
noncomputable def Sk {β : Type} (o : Option β) (Inv : St → Prop) (rv : β → V × Mode) (σ : St) (fl : Flw) : Prop := match o with
  | none => fl = .next ∧ Inv σ
  | some q => fl = .ret (rv q)
theorem Sk.next {β : Type} {o : Option β} {Inv : St → Prop} {rv : β → V × Mode} (h : o = none) (hI : Inv σ) : Sk o Inv rv σ .next := by subst h; exact ⟨rfl, hI⟩
theorem Sk.ret {β : Type} {o : Option β} {q : β} {Inv : St → Prop} {rv : β → V × Mode} (h : o = some q) : Sk o Inv rv σ (.ret (rv q)) := by subst h; exact rfl
/-- a loop that seeks -/
theorem Runs.seek {α β : Type} {body : Ss} {z : String} {it : It} {g : α → PyData} {xs : List α} {m : Mode} (Inv : St → Prop) (f : α → Option β) (rv : β → V × Mode) (hit : evIt C it σ = .ok (xs.map g, m)) (h0 : ∀ σ0, (∀ l, Has σ l → Has σ0 l) → (∀ y, y ∉ fvIt it → σ0 y = σ y) → Inv σ0)
    (hs : ∀ y ∈ xs, ∀ σ, Inv σ → Runs C body (Mine.upd σ z (mk (.d (g y)))) (Sk (f y) Inv rv))
    (k : xs.findSome? f = none → ∀ σ', Inv σ' → Runs C b σ' Post) (kr : ∀ q, xs.findSome? f = some q → ∀ σ', Post σ' (.ret (rv q))) : Runs C (.cons (.for1 z it body) b) σ Post := by
  refine Runs.for (fun pre σ => Inv σ ∧ pre.findSome? f = none) hit (fun σ0 h1 h2 => ⟨h0 σ0 h1 h2, rfl⟩) (fun pre y post hl σ1 h1 => ?_) fun σ' h => k h.2 σ' h.1
  refine (hs y (by rw [hl]; exact List.mem_append_right _ (.head _)) σ1 h1.1).mono fun σ' fl h => ?_
  cases hf : f y with
  | none =>
    rw [hf] at h
    obtain ⟨rfl, h⟩ := h
    exact ⟨h, by rw [List.findSome?_append, h1.2, List.findSome?_cons, hf]; rfl⟩
  | some q =>
    rw [hf] at h
    subst h
    exact kr q (by rw [hl, List.findSome?_append, h1.2, List.findSome?_cons, hf]; rfl) σ'

theorem bindP_has : ∀ (ps : List String) (vs : List V), ps.length = vs.length → ∃ σ, bindP ps vs = some σ ∧ Has σ (ps.zip vs)
  | [], [], _ => ⟨_, rfl, .nil⟩
  | [], v :: vs, h => by cases h
  | p :: ps, [], h => by cases h
  | p :: ps, v :: vs, h => by
    obtain ⟨σ, h1, h2⟩ := bindP_has ps vs (Nat.succ.inj h)
    exact ⟨_, by rw [bindP, h1]; rfl, h2.upd p (mk v).1 (mk v).2⟩
theorem fn_run {ps : List String} {vs : List V} {P : V × Mode → Prop} (hl : ps.length = vs.length) (h : ∀ σ, Has σ (ps.zip vs) → Runs C b σ (fun _ fl => ∃ r, fl = .ret r ∧ P r)) : ∃ r, runF C ⟨ps, b⟩ vs = .ok r ∧ P r := by
  obtain ⟨σ, h1, h2⟩ := bindP_has ps vs hl
  obtain ⟨a, f, h3, r, rfl, h4⟩ := h σ h2
  exact ⟨r, by unfold runF; dsimp only; rw [h1]; dsimp only; rw [h3]; rfl, h4⟩
theorem fn_is {ps : List String} {vs : List V} {r : V × Mode} (hl : ps.length = vs.length) (h : ∀ σ, Has σ (ps.zip vs) → Runs C b σ (fun _ fl => fl = .ret r)) : runF C ⟨ps, b⟩ vs = .ok r := by
  obtain ⟨q, h1, rfl⟩ := fn_run (P := fun q => q = r) hl fun σ H => (h σ H).mono fun _ _ e => ⟨r, e, rfl⟩
  exact h1
/-- a call of an own function -/
theorem ev_fn {L : List (String × Fn)} {n : Nat} {f : String} {fn : Fn} {es : Es} {q : List (V × Mode)} {vs : List V} (hL : L.lookup f = some fn) (he : evs (mkC L (n + 1)) es σ = .ok q) (hv : q.map (·.1) = vs) (h : runF (mkC L n) fn vs = .ok r) : Mine.ev (mkC L (n + 1)) (.call f es) σ = .ok r := by
  have hC : mkC L (n + 1) f = some fun vs => (runF (mkC L n) fn vs).calm := by show (L.lookup f).map _ = _; rw [hL]; rfl
  rw [ev_call hC he, hv, h]; rfl
end

/-! ## expressions -/
section
variable {C : Calls} {σ : St} {a b c : E} {x y : Int} {p q : Bool} {xs ys : List Int} {t u : List (List Int)} {m m' : Mode}
theorem e_int (i : Int) : ev C (.int i) σ = .ok (sI i) := by simp only [ev]
theorem e_bool (i : Bool) : ev C (.bool i) σ = .ok (sB i) := by simp only [ev]
theorem e_none : ev C .none σ = .ok (.d .none, .deep) := by simp only [ev]
theorem e_dict : ev C .dict σ = .ok (.dic0, .deep) := by simp only [ev]
theorem e_nil : ev C (.list .nil) σ = .ok (.d (ofInts []), .deep) := by simp only [ev, evs]; rfl
theorem e_one (h : ev C a σ = .ok (sI x)) : ev C (.list (.cons a .nil)) σ = .ok (.d (ofInts [x]), .deep) := by simp only [ev, evs, h, Out.ok_bind]; rfl
theorem e_two (h : ev C a σ = .ok (sI x)) (h' : ev C b σ = .ok (sI y)) : ev C (.list (.cons a (.cons b .nil))) σ = .ok (.d (ofInts [x, y]), .deep) := by simp only [ev, evs, h, h', Out.ok_bind]; rfl
theorem e_add (ha : ev C a σ = .ok (sI x)) (hb : ev C b σ = .ok (sI y)) : ev C (.bin .add a b) σ = .ok (sI (x + y)) := (ev_bin ha hb).trans rfl
theorem e_sub (ha : ev C a σ = .ok (sI x)) (hb : ev C b σ = .ok (sI y)) : ev C (.bin .sub a b) σ = .ok (sI (x - y)) := (ev_bin ha hb).trans rfl
theorem e_xor (ha : ev C a σ = .ok (sI x)) (hb : ev C b σ = .ok (sI y)) : ev C (.bin .xor a b) σ = .ok (sI (Builtin.bitXor x y)) := (ev_bin ha hb).trans rfl
theorem e_mul (ha : ev C a σ = .ok (sI x)) (hb : ev C b σ = .ok (sI y)) (h : x.natAbs < 2 ^ 63) : ev C (.bin .mul a b) σ = .ok (sI (x * y)) := (ev_bin ha hb).trans (bin_mul_l x y h)
theorem e_mod (ha : ev C a σ = .ok (sI x)) (hb : ev C b σ = .ok (sI y)) (h : 0 < y) : ev C (.bin .mod a b) σ = .ok (sI (x % y)) := (ev_bin ha hb).trans (bin_mod x y h)
theorem e_div (ha : ev C a σ = .ok (sI x)) (hb : ev C b σ = .ok (sI y)) (h : 0 < y) (h' : y < 1000000000) : ev C (.bin .fdiv a b) σ = .ok (sI (x / y)) := (ev_bin ha hb).trans (bin_div x y h h')
theorem e_lt (ha : ev C a σ = .ok (sI x)) (hb : ev C b σ = .ok (sI y)) : ev C (.cmp .lt a b) σ = .ok (sB (decide (x < y))) := ev_cmp ha hb rfl
theorem e_le (ha : ev C a σ = .ok (sI x)) (hb : ev C b σ = .ok (sI y)) : ev C (.cmp .le a b) σ = .ok (sB (decide (x ≤ y))) := ev_cmp ha hb rfl
theorem e_gt (ha : ev C a σ = .ok (sI x)) (hb : ev C b σ = .ok (sI y)) : ev C (.cmp .gt a b) σ = .ok (sB (decide (y < x))) := ev_cmp ha hb rfl
theorem e_ge (ha : ev C a σ = .ok (sI x)) (hb : ev C b σ = .ok (sI y)) : ev C (.cmp .ge a b) σ = .ok (sB (decide (y ≤ x))) := ev_cmp ha hb rfl
theorem e_eq (ha : ev C a σ = .ok (sI x)) (hb : ev C b σ = .ok (sI y)) : ev C (.cmp .eq a b) σ = .ok (sB (decide (x = y))) := ev_cmp ha hb (cmp_eq x y)
theorem e_ne (ha : ev C a σ = .ok (sI x)) (hb : ev C b σ = .ok (sI y)) : ev C (.cmp .ne a b) σ = .ok (sB (!decide (x = y))) := ev_cmp ha hb (cmp_ne x y)
theorem e_neI (ha : ev C a σ = .ok (.d (ofInts xs), m)) (hb : ev C b σ = .ok (.d (ofInts ys), m')) : ev C (.cmp .ne a b) σ = .ok (sB (!decide (xs = ys))) := ev_cmp ha hb (cmp_neI xs ys)
theorem e_eqI (ha : ev C a σ = .ok (.d (ofInts xs), m)) (hb : ev C b σ = .ok (.d (ofInts ys), m')) : ev C (.cmp .eq a b) σ = .ok (sB (decide (xs = ys))) := ev_cmp ha hb (cmp_eqI xs ys)
theorem e_neR (ha : ev C a σ = .ok (.d (ofRows t), m)) (hb : ev C b σ = .ok (.d (ofRows u), m')) : ev C (.cmp .ne a b) σ = .ok (sB (!decide (t = u))) := ev_cmp ha hb (cmp_neR t u)
theorem e_in (ha : ev C a σ = .ok (sI x)) (hb : ev C b σ = .ok (.d (ofInts xs), m)) : ev C (.cmp .isin a b) σ = .ok (sB (decide (x ∈ xs))) := ev_cmp ha hb (cmp_in x xs)
theorem e_nin (ha : ev C a σ = .ok (sI x)) (hb : ev C b σ = .ok (.d (ofInts xs), m)) : ev C (.cmp .notin a b) σ = .ok (sB (!decide (x ∈ xs))) := ev_cmp ha hb (cmp_nin x xs)
theorem e_inR (ha : ev C a σ = .ok (.d (ofInts xs), m)) (hb : ev C b σ = .ok (.d (ofRows t), m')) : ev C (.cmp .isin a b) σ = .ok (sB (decide (xs ∈ t))) := ev_cmp ha hb (cmp_inR xs t)
theorem e_addI (ha : ev C a σ = .ok (.d (ofInts xs), m)) (hb : ev C b σ = .ok (.d (ofInts ys), m')) (h : xs.length + ys.length ≤ 1000000) : ev C (.bin .add a b) σ = .ok (.d (ofInts (xs ++ ys)), .deep) := (ev_bin ha hb).trans (bin_addI xs ys h)
theorem bin_addR (t u : List (List Int)) (h : t.length + u.length ≤ 1000000) : ∃ m, binV .add (ofRows t) (ofRows u) = .ok (.d (ofRows (t ++ u)), m) := by
  refine ⟨fresh ((t ++ u).map ofInts), ?_⟩
  show (if (t.map ofInts).length + (u.map ofInts).length ≤ lim then Out.ok (V.d (.list (t.map ofInts ++ u.map ofInts)), fresh (t.map ofInts ++ u.map ofInts)) else .bad) = _
  rw [List.length_map, List.length_map, if_pos (show _ ≤ lim from h), ← List.map_append]; rfl
theorem e_addR (ha : ev C a σ = .ok (.d (ofRows t), m)) (hb : ev C b σ = .ok (.d (ofRows u), m')) (h : t.length + u.length ≤ 1000000) : ∃ m, ev C (.bin .add a b) σ = .ok (.d (ofRows (t ++ u)), m) := by
  obtain ⟨m, q⟩ := bin_addR t u h
  exact ⟨m, (ev_bin ha hb).trans q⟩
theorem e_len (ha : ev C a σ = .ok (.d (ofInts xs), m)) : ev C (.bi1 .len a) σ = .ok (sI xs.length) := (ev_b1 ha).trans (b1_len xs)
theorem e_lenR (ha : ev C a σ = .ok (.d (ofRows t), m)) : ev C (.bi1 .len a) σ = .ok (sI t.length) := (ev_b1 ha).trans (b1_lenR t)
theorem e_list (ha : ev C a σ = .ok (.d (ofInts xs), m)) : ev C (.bi1 .list a) σ = .ok (.d (ofInts xs), .deep) := (ev_b1 ha).trans (b1_list xs)
theorem e_tuple (ha : ev C a σ = .ok (.d (ofInts xs), m)) : ev C (.bi1 .tuple a) σ = .ok (.d (ofTup xs), .deep) := (ev_b1 ha).trans (b1_tuple xs)
theorem e_sorted (ha : ev C a σ = .ok (.d (ofInts xs), m)) (h : xs.length < 64) : ev C (.bi1 .sorted a) σ = .ok (.d (ofInts (sortI xs)), .deep) := (ev_b1 ha).trans (b1_sorted xs h)
theorem e_idx {i : Int} (ha : ev C a σ = .ok (.d (ofInts xs), m)) (hb : ev C b σ = .ok (sI i)) (h0 : 0 ≤ i) (h : xs[i.toNat]? = some x) : ev C (.sub a b) σ = .ok (sI x) := (ev_sub ha hb).trans (subV_ints h0 h)
theorem e_idxR {i : Int} (ha : ev C a σ = .ok (.d (ofRows t), m)) (hb : ev C b σ = .ok (sI i)) (h0 : 0 ≤ i) (h : t[i.toNat]? = some xs) : ev C (.sub a b) σ = .ok (.d (ofInts xs), .sh) := (ev_sub ha hb).trans (subV_rows h0 h)
theorem e_and (ha : ev C a σ = .ok (sB p)) (hb : p = true → ev C b σ = .ok (sB q)) : ev C (.and a b) σ = .ok (sB (p && q)) := by
  cases p with
  | true => exact ev_and_t ha (hb rfl)
  | false => exact ev_and_f ha
theorem e_or (ha : ev C a σ = .ok (sB p)) (hb : p = false → ev C b σ = .ok (sB q)) : ev C (.or a b) σ = .ok (sB (p || q)) := by
  cases p with
  | true => exact ev_or_t ha
  | false => exact ev_or_f ha (hb rfl)
theorem e_revR (ha : ev C a σ = .ok (.d (ofRows t), m)) : ∃ m, ev C (.rev a) σ = .ok (.d (ofRows t.reverse), m) := by
  refine ⟨fresh (t.reverse.map ofInts), ?_⟩
  simp only [ev, ha, Out.ok_bind]
  show Out.ok (V.d (.list (t.map ofInts).reverse), fresh (t.map ofInts).reverse) = _
  rw [← List.map_reverse]; rfl
theorem evIt_r2 {i j : Int} (ha : ev C a σ = .ok (sI i)) (hb : ev C b σ = .ok (sI j)) (h1 : 0 ≤ i) (h2 : i ≤ 1000) (h3 : 0 ≤ j) (h4 : j ≤ 1000) : evIt C (.r2 a b) σ = .ok (((List.range (j - i).toNat).map fun (k : Nat) => i + (k : Int)).map .int, .deep) := by
  simp only [evIt, ha, hb, Out.ok_bind]
  show rangeV i j = _
  unfold rangeV
  rw [if_pos ⟨by unfold lim; omega, by omega, by omega, by omega, by omega⟩, range_ints]
/-- rows out of a comprehension -/
theorem e_compR {α : Type} {g : α → PyData} {l : List α} {z : String} {it : It} {q : Mode} (f : α → List Int) (mm : Mode) (h : evIt C it σ = .ok (l.map g, q)) (hc : ∀ i ∈ l, ev C a (upd σ z (mk (.d (g i)))) = .ok (.d (ofInts (f i)), mm)) :
    ∃ m, ev C (.comp a z it) σ = .ok (.d (ofRows (l.map f)), m) ∧ (mm = .deep → m = .deep) ∧ m ≠ .sh := by
  obtain ⟨b, h1, h2⟩ := compL_rows (F := fun y => (ev C a (upd σ z (mk (.d y)))).bind fun r => .ok (some r)) (e := g) (f := f) (p := fun _ => true) (m := fun _ => mm) (l := l) fun i hi => by rw [hc i hi]; rfl
  rw [List.filter_eq_self.mpr (fun _ _ => rfl)] at h1
  exact ⟨if b then .deep else .top, ev_comp h h1, fun hm => by rw [h2 fun _ _ => hm]; rfl, by cases b <;> simp⟩
theorem e_filR {α : Type} {g : α → PyData} {l : List α} {z : String} {it : It} {r : Mode} (f : α → List Int) (p : α → Bool) (mm : Mode) (h : evIt C it σ = .ok (l.map g, r)) (hp : ∀ i ∈ l, ev C c (upd σ z (mk (.d (g i)))) = .ok (sB (p i)))
    (hc : ∀ i ∈ l, p i = true → ev C a (upd σ z (mk (.d (g i)))) = .ok (.d (ofInts (f i)), mm)) : ∃ m, ev C (.compif a z it c) σ = .ok (.d (ofRows ((l.filter p).map f)), m) ∧ (mm = .deep → m = .deep) ∧ m ≠ .sh := by
  obtain ⟨b, h1, h2⟩ := compL_rows (F := fun y => (ev C c (upd σ z (mk (.d y)))).bind fun t => (truth t.1).bind fun b => if b then (ev C a (upd σ z (mk (.d y)))).bind fun r => .ok (some r) else .ok none) (e := g) (f := f) (p := p) (m := fun _ => mm) (l := l) fun i hi => by
    rw [hp i hi]
    cases hq : p i with
    | true => simp only [Out.ok_bind, sB_1, truth_bool, if_true, hc i hi hq]
    | false => simp only [Out.ok_bind, sB_1, truth_bool, Bool.false_eq_true, if_false]
  exact ⟨if b then .deep else .top, ev_compif h h1, fun hm => by rw [h2 fun _ _ => hm]; rfl, by cases b <;> simp⟩
/-- numbers out of a comprehension over rows -/
theorem e_compI {α : Type} {g : α → PyData} {l : List α} {z : String} {it : It} {q : Mode} (f : α → Int) (h : evIt C it σ = .ok (l.map g, q)) (hc : ∀ i ∈ l, ev C a (upd σ z (mk (.d (g i)))) = .ok (sI (f i))) : ev C (.comp a z it) σ = .ok (.d (ofInts (l.map f)), .deep) := by
  rw [ev_comp h (r := ((l.map f).map .int, true))]
  · rfl
  · exact compL_to (F := fun y => (ev C a (upd σ z (mk (.d y)))).bind fun r => .ok (some r)) (e := g) fun i hi => by rw [hc i hi]; rfl
/-- the greatest -/
theorem maxL_some {xs : List Int} (h : xs ≠ []) : ∃ i, maxL xs = some i ∧ i ∈ xs := by
  cases xs with
  | nil => exact absurd rfl h
  | cons x xs =>
    refine ⟨_, rfl, ?_⟩
    have key : ∀ (l : List Int) (a : Int), l.foldl (fun a b => if a < b then b else a) a = a ∨ l.foldl (fun a b => if a < b then b else a) a ∈ l := by
      intro l
      induction l with
      | nil => exact fun a => .inl rfl
      | cons y l ih =>
        intro a
        rw [List.foldl_cons]
        by_cases q : a < y
        · rw [if_pos q]
          rcases ih y with e | e
          · exact .inr (by rw [e]; exact .head _)
          · exact .inr (.tail _ e)
        · rw [if_neg q]
          exact (ih a).imp id fun e => .tail _ e
    rcases key xs x with e | e
    · rw [e]; exact .head _
    · exact .tail _ e
theorem e_max (ha : ev C a σ = .ok (.d (ofInts xs), m)) (h : xs ≠ []) : ∃ i, ev C (.bi1 .max a) σ = .ok (sI i) ∧ i ∈ xs := by
  obtain ⟨i, h1, h2⟩ := maxL_some h
  refine ⟨i, (ev_b1 ha).trans ?_, h2⟩
  show (optO ((intsOf (xs.map PyData.int)).bind maxL) fun i => Out.ok (sI i)) = _
  rw [intsOf_map, Option.bind_some, h1]; rfl
theorem mk_rows (t : List (List Int)) : mk (.d (ofRows t)) = (.d (ofRows t), .sh) := rfl
theorem e_nilR : ev C (.list (.cons (.list .nil) .nil)) σ = .ok (.d (ofRows [[]]), .deep) := by simp only [ev, evs]; rfl
theorem e_nilR0 : ev C (.list .nil) σ = .ok (.d (ofRows []), .deep) := by simp only [ev, evs]; rfl
/-- the truth of each, whatever it is -/
theorem bool_choice {α : Type} {l : List α} {Q : α → Bool → Prop} (h : ∀ i ∈ l, ∃ b, Q i b) : ∃ p : α → Bool, ∀ i ∈ l, Q i (p i) := by
  classical
  exact ⟨fun i => if hi : i ∈ l then (h i hi).choose else false, fun i hi => by dsimp only; rw [dif_pos hi]; exact (h i hi).choose_spec⟩
theorem Has.mk {l : List (String × V)} (H : Has σ l) (z : String) (v : V) : Has (Mine.upd σ z (Mine.mk v)) ((z, v) :: l) := H.upd z v (Mine.mk v).2
variable {l : List (String × V)} {z : String} {bb : Ss} {Post : St → Flw → Prop}
/-- one more number -/
theorem Runs.app (H : Has σ l) (hz : σ z = some (.d (ofInts xs), m)) (hm : m ≠ .sh) (h : ev C a σ = .ok (sI x)) (hl : xs.length < 1000000) (k : ∀ σ', Has σ' ((z, .d (ofInts (xs ++ [x]))) :: l) → σ' z = some (.d (ofInts (xs ++ [x])), m) → (∀ y, y ≠ z → σ' y = σ y) → Runs C bb σ' Post) : Runs C (.cons (.append z a) bb) σ Post :=
  Runs.cons (o := (upd σ z (.d (ofInts (xs ++ [x])), m), .next)) (ex_append hz hm h hl) (k _ (H.upd z _ m) (if_pos rfl) fun y hy => if_neg hy)
/-- one more row -/
theorem Runs.appR (H : Has σ l) (hz : σ z = some (.d (ofRows t), m)) (hm : m ≠ .sh) (h : ev C a σ = .ok (.d (ofInts xs), .deep)) (hl : t.length < 1000000) (k : ∀ σ', Has σ' ((z, .d (ofRows (t ++ [xs]))) :: l) → σ' z = some (.d (ofRows (t ++ [xs])), m) → (∀ y, y ≠ z → σ' y = σ y) → Runs C bb σ' Post) : Runs C (.cons (.append z a) bb) σ Post := by
  refine Runs.cons (o := (upd σ z (.d (ofRows (t ++ [xs])), m), .next)) ?_ (k _ (H.upd z _ m) (if_pos rfl) fun y hy => if_neg hy)
  simp only [ex, h, Out.ok_bind, hz, lstV_rows, if_neg hm]
  rw [putV_ints (by rw [List.length_append, List.length_map]; exact hl)]
  unfold ofRows; rw [List.map_append]; rfl
theorem erase_map {α β : Type} (f : α → β) : ∀ (l : List α) (i : Nat), (l.map f).eraseIdx i = (l.eraseIdx i).map f
  | [], _ => rfl
  | _ :: _, 0 => rfl
  | a :: l, i + 1 => congrArg (f a :: ·) (erase_map f l i)
/-- one row less -/
theorem Runs.popR (H : Has σ l) (hz : σ z = some (.d (ofRows t), m)) (hm : m ≠ .sh) (h : ev C a σ = .ok (sI x)) (h0 : 0 ≤ x) (h1 : x < t.length) (k : ∀ σ', Has σ' ((z, .d (ofRows (t.eraseIdx x.toNat))) :: l) → σ' z = some (.d (ofRows (t.eraseIdx x.toNat)), .top) → Runs C bb σ' Post) : Runs C (.cons (.pop z a) bb) σ Post := by
  refine Runs.cons (o := (upd σ z (.d (ofRows (t.eraseIdx x.toNat)), .top), .next)) ?_ (k _ (H.upd z _ .top) (if_pos rfl))
  simp only [ex, h, Out.ok_bind, hz, lstV_rows, sI_1]
  rw [if_neg (by rw [List.length_map]; exact fun q => q.elim hm fun q => by omega)]
  unfold ofRows; rw [erase_map]
theorem e_fst {r : PyData} {q : List PyData} (h : ev C a σ = .ok (.d (.tuple (r :: q)), m)) (hb : ev C b σ = .ok (sI 0)) : ev C (.sub a b) σ = .ok (mk (.d r)) := by
  rw [ev_sub h hb]
  show (optO ((seqIdx 0 (r :: q).length).bind fun k => (r :: q)[k]?) fun z => Out.ok (mk (.d z))) = _
  rw [seqIdx_pos (by decide) (by rw [List.length_cons]; omega)]; rfl
theorem e_snd {r r' : PyData} {q : List PyData} (h : ev C a σ = .ok (.d (.tuple (r :: r' :: q)), m)) (hb : ev C b σ = .ok (sI 1)) : ev C (.sub a b) σ = .ok (mk (.d r')) := by
  rw [ev_sub h hb]
  show (optO ((seqIdx 1 (r :: r' :: q).length).bind fun k => (r :: r' :: q)[k]?) fun z => Out.ok (mk (.d z))) = _
  rw [seqIdx_pos (by decide) (by rw [List.length_cons, List.length_cons]; omega)]; rfl
theorem e_thd {r r' r'' : PyData} {q : List PyData} (h : ev C a σ = .ok (.d (.tuple (r :: r' :: r'' :: q)), m)) (hb : ev C b σ = .ok (sI 2)) : ev C (.sub a b) σ = .ok (mk (.d r'')) := by
  rw [ev_sub h hb]
  show (optO ((seqIdx 2 (r :: r' :: r'' :: q).length).bind fun k => (r :: r' :: r'' :: q)[k]?) fun z => Out.ok (mk (.d z))) = _
  rw [seqIdx_pos (by decide) (by rw [List.length_cons, List.length_cons, List.length_cons]; omega)]; rfl
theorem e_pair (ha : ev C a σ = .ok (sI x)) (hb : ev C b σ = .ok (.d (ofRows t), m)) : ∃ m, ev C (.tup (.cons a (.cons b .nil))) σ = .ok (.d (.tuple [.int x, ofRows t]), m) := by
  refine ⟨if allDeep [sI x, (.d (ofRows t), m)] then .deep else .sh, ?_⟩
  simp only [ev, evs, ha, hb, Out.ok_bind]
  rfl
theorem e_isi {v : V} {ty : String} (h : ev C a σ = .ok (v, m)) (hi : isiV v ty = .ok p) : ev C (.isi a ty) σ = .ok (sB p) := by simp only [ev, h, Out.ok_bind, hi]
theorem e_tup3 {x y z : PyData} {m1 m2 m3 : Mode} (ha : ev C a σ = .ok (.d x, m1)) (hb : ev C b σ = .ok (.d y, m2)) (hc : ev C c σ = .ok (.d z, m3)) : ev C (.tup (.cons a (.cons b (.cons c .nil)))) σ = .ok (.d (.tuple [x, y, z]), if allDeep [(.d x, m1), (.d y, m2), (.d z, m3)] then .deep else .sh) := by
  simp only [ev, evs, ha, hb, hc, Out.ok_bind]; rfl
end
end Mine

namespace Mine
open PySem

noncomputable def p_exchanged : Fn := ⟨["choice", "out", "thing"],
    (.cons (.ret (.bi1 .sorted (.bin .add (.compif (.name "one") "one" (.e (.name "choice")) (.cmp .ne (.name "one") (.name "out"))) (.list (.cons (.name "thing") .nil)))))
    .nil)⟩
noncomputable def p_known_of : Fn := ⟨["table"],
    (.cons (.assign "known" .dict)
    (.cons (.for1 "choice" (.e (.name "table"))
    (.cons (.setitem "known" (.bi1 .tuple (.name "choice")))
    .nil))
    (.cons (.retn "known")
    .nil)))⟩
noncomputable def p_goes : Fn := ⟨["known", "one", "other", "thing"],
    (.cons (.for1 "out" (.e (.name "one"))
    (.cons (.ite (.and (.cmp .notin (.name "out") (.name "other")) (.cmp .isin (.bi1 .tuple (.call "exchanged" (.cons (.name "one") (.cons (.name "out") (.cons (.name "thing") .nil))))) (.name "known")))
    (.cons (.ret (.bool true))
    .nil)
    .nil)
    .nil))
    (.cons (.ret (.bool false))
    .nil))⟩
noncomputable def p_fault : Fn := ⟨["count", "table"],
    (.cons (.assign "known" (.call "known_of" (.cons (.name "table") .nil)))
    (.cons (.for1 "one" (.e (.name "table"))
    (.cons (.for1 "thing" (.r1 (.name "count"))
    (.cons (.ite (.cmp .notin (.name "thing") (.name "one"))
    (.cons (.for1 "other" (.e (.name "table"))
    (.cons (.ite (.and (.cmp .isin (.name "thing") (.name "other")) (.not (.call "goes" (.cons (.name "known") (.cons (.name "one") (.cons (.name "other") (.cons (.name "thing") .nil)))))))
    (.cons (.ret (.tup (.cons (.bi1 .list (.name "one")) (.cons (.bi1 .list (.name "other")) (.cons (.name "thing") .nil)))))
    .nil)
    .nil)
    .nil))
    .nil)
    .nil)
    .nil))
    .nil))
    (.cons (.ret .none)
    .nil)))⟩
noncomputable def l_cell_at : Fn := ⟨["_law_script", "_law_k"],
    (.cons (.ite (.cmp .lt (.name "_law_k") (.bi1 .len (.name "_law_script")))
    (.cons (.ret (.sub (.name "_law_script") (.name "_law_k")))
    .nil)
    .nil)
    (.cons (.ite (.cmp .eq (.name "_law_script") (.list .nil))
    (.cons (.ret (.int 0))
    .nil)
    .nil)
    (.cons (.ret (.bin .add (.bin .mul (.sub (.name "_law_script") (.bin .mod (.name "_law_k") (.bi1 .len (.name "_law_script")))) (.int 7)) (.name "_law_k")))
    .nil)))⟩
noncomputable def l_whole : Fn := ⟨["_law_found"],
    (.cons (.ret (.and (.isi (.name "_law_found") "int") (.not (.isi (.name "_law_found") "bool"))))
    .nil)⟩
noncomputable def l_row_is : Fn := ⟨["_law_found", "_law_due"],
    (.cons (.ite (.or (.not (.isi (.name "_law_found") "list")) (.cmp .ne (.bi1 .len (.name "_law_found")) (.bi1 .len (.name "_law_due"))))
    (.cons (.ret (.bool false))
    .nil)
    .nil)
    (.cons (.for1 "_law_k" (.r1 (.bi1 .len (.name "_law_due")))
    (.cons (.ite (.or (.not (.call "_law_whole" (.cons (.sub (.name "_law_found") (.name "_law_k")) .nil))) (.cmp .ne (.sub (.name "_law_found") (.name "_law_k")) (.sub (.name "_law_due") (.name "_law_k"))))
    (.cons (.ret (.bool false))
    .nil)
    .nil)
    .nil))
    (.cons (.ret (.bool true))
    .nil)))⟩
noncomputable def l_subsets : Fn := ⟨["_law_count"],
    (.cons (.assign "_law_rows" (.list (.cons (.list .nil) .nil)))
    (.cons (.for1 "_law_thing" (.r1 (.name "_law_count"))
    (.cons (.assign "_law_rows" (.bin .add (.name "_law_rows") (.comp (.bin .add (.name "_law_row") (.list (.cons (.name "_law_thing") .nil))) "_law_row" (.e (.name "_law_rows")))))
    .nil))
    (.cons (.retn "_law_rows")
    .nil)))⟩
noncomputable def l_apart : Fn := ⟨["_law_vectors", "_law_row"],
    (.cons (.assign "_law_sums" (.list (.cons (.int 0) .nil)))
    (.cons (.for1 "_law_thing" (.e (.name "_law_row"))
    (.cons (.ite (.cmp .isin (.sub (.name "_law_vectors") (.name "_law_thing")) (.name "_law_sums"))
    (.cons (.ret (.bool false))
    .nil)
    .nil)
    (.cons (.assign "_law_sums" (.bin .add (.name "_law_sums") (.comp (.bin .xor (.name "_law_one") (.sub (.name "_law_vectors") (.name "_law_thing"))) "_law_one" (.e (.name "_law_sums")))))
    .nil)))
    (.cons (.ret (.bool true))
    .nil)))⟩
noncomputable def l_parts : Fn := ⟨["_law_script", "_law_kind", "_law_count", "_law_more"],
    (.cons (.assign "_law_rows" (.call "_law_subsets" (.cons (.name "_law_count") .nil)))
    (.cons (.ite (.cmp .eq (.name "_law_kind") (.int 0))
    (.cons (.ret (.tup (.cons (.name "_law_count") (.cons (.comp (.sub (.name "_law_rows") (.bin .mod (.call "_law_cell_at" (.cons (.name "_law_script") (.cons (.bin .add (.int 6) (.name "_law_k")) .nil))) (.bi1 .len (.name "_law_rows")))) "_law_k" (.r1 (.bin .mod (.name "_law_more") (.int 6)))) .nil))))
    .nil)
    .nil)
    (.cons (.ite (.cmp .eq (.bin .mod (.name "_law_more") (.int 9)) (.int 8))
    (.cons (.assign "_law_count" (.bin .add (.int 7) (.bin .mod (.bin .fdiv (.name "_law_more") (.int 9)) (.int 3))))
    (.cons (.assign "_law_rows" (.list .nil))
    (.cons (.for1 "_law_one" (.r1 (.name "_law_count"))
    (.cons (.assign "_law_rows" (.bin .add (.name "_law_rows") (.comp (.list (.cons (.name "_law_one") (.cons (.name "_law_thing") .nil))) "_law_thing" (.r2 (.bin .add (.name "_law_one") (.int 1)) (.name "_law_count")))))
    .nil))
    (.cons (.ret (.tup (.cons (.name "_law_count") (.cons (.name "_law_rows") .nil))))
    .nil))))
    .nil)
    (.cons (.ret (.tup (.cons (.name "_law_count") (.cons (.compif (.name "_law_row") "_law_row" (.e (.name "_law_rows")) (.cmp .eq (.bi1 .len (.name "_law_row")) (.bin .mod (.name "_law_more") (.bin .add (.name "_law_count") (.int 1))))) .nil))))
    .nil))))⟩
noncomputable def l_few : Fn := ⟨["_law_script"],
    (.cons (.assign "_law_kind" (.bin .mod (.call "_law_cell_at" (.cons (.name "_law_script") (.cons (.int 0) .nil))) (.int 9)))
    (.cons (.assign "_law_count" (.sub (.list (.cons (.int 6) (.cons (.int 5) (.cons (.int 4) (.cons (.int 3) (.cons (.int 6) (.cons (.int 1) (.cons (.int 0) .nil)))))))) (.bin .mod (.bin .fdiv (.call "_law_cell_at" (.cons (.name "_law_script") (.cons (.int 0) .nil))) (.int 9)) (.int 7))))
    (.cons (.assign "_law_more" (.call "_law_cell_at" (.cons (.name "_law_script") (.cons (.int 1) .nil))))
    (.cons (.ite (.cmp .eq (.name "_law_kind") (.int 7))
    (.cons (.assign "_law_many" (.bin .add (.int 1) (.bin .mod (.name "_law_more") (.int 4))))
    (.cons (.ite (.cmp .gt (.bi1 .len (.name "_law_script")) (.int 63))
    (.cons (.assign "_law_many" (.bin .add (.int 1) (.bin .mod (.name "_law_more") (.int 5))))
    .nil)
    .nil)
    (.cons (.ret (.tup (.cons (.bin .mul (.int 2) (.name "_law_many")) (.cons (.call "_law_pairs_by" (.cons (.name "_law_many") .nil)) .nil))))
    .nil)))
    .nil)
    (.cons (.ite (.cmp .lt (.name "_law_kind") (.int 2))
    (.cons (.ret (.call "_law_parts" (.cons (.name "_law_script") (.cons (.name "_law_kind") (.cons (.name "_law_count") (.cons (.name "_law_more") .nil))))))
    .nil)
    .nil)
    (.cons (.assign "_law_count" (.sub (.list (.cons (.int 6) (.cons (.int 5) (.cons (.int 4) (.cons (.int 3) (.cons (.int 7) (.cons (.int 7) (.cons (.int 2) .nil)))))))) (.bin .mod (.bin .fdiv (.call "_law_cell_at" (.cons (.name "_law_script") (.cons (.int 0) .nil))) (.int 9)) (.int 7))))
    (.cons (.assign "_law_rows" (.list (.cons (.list .nil) .nil)))
    (.cons (.for1 "_law_thing" (.r1 (.name "_law_count"))
    (.cons (.assign "_law_rows" (.bin .add (.name "_law_rows") (.compif (.bin .add (.name "_law_row") (.list (.cons (.name "_law_thing") .nil))) "_law_row" (.e (.name "_law_rows")) (.cmp .lt (.bi1 .len (.name "_law_row")) (.int 3)))))
    .nil))
    (.cons (.assign "_law_vectors" (.comp (.bin .mod (.call "_law_cell_at" (.cons (.name "_law_script") (.cons (.bin .add (.int 6) (.name "_law_thing")) .nil))) (.int 8)) "_law_thing" (.r1 (.name "_law_count"))))
    (.cons (.assign "_law_good" (.compif (.name "_law_row") "_law_row" (.e (.name "_law_rows")) (.call "_law_apart" (.cons (.name "_law_vectors") (.cons (.name "_law_row") .nil)))))
    (.cons (.assign "_law_most" (.bi1 .max (.comp (.bi1 .len (.name "_law_row")) "_law_row" (.e (.name "_law_good")))))
    (.cons (.assign "_law_table_here" (.compif (.name "_law_row") "_law_row" (.e (.name "_law_good")) (.cmp .eq (.bi1 .len (.name "_law_row")) (.name "_law_most"))))
    (.cons (.ite (.cmp .eq (.name "_law_kind") (.int 3))
    (.cons (.pop "_law_table_here" (.bin .mod (.name "_law_more") (.bi1 .len (.name "_law_table_here"))))
    .nil)
    .nil)
    (.cons (.ret (.tup (.cons (.name "_law_count") (.cons (.name "_law_table_here") .nil))))
    .nil))))))))))))))⟩
noncomputable def l_pairs_by : Fn := ⟨["_law_many"],
    (.cons (.assign "_law_rows" (.list (.cons (.list .nil) .nil)))
    (.cons (.for1 "_law_k" (.r1 (.name "_law_many"))
    (.cons (.assign "_law_rows" (.bin .add (.comp (.bin .add (.name "_law_row") (.list (.cons (.bin .mul (.int 2) (.name "_law_k")) .nil))) "_law_row" (.e (.name "_law_rows"))) (.comp (.bin .add (.name "_law_row") (.list (.cons (.bin .add (.bin .mul (.int 2) (.name "_law_k")) (.int 1)) .nil))) "_law_row" (.e (.name "_law_rows")))))
    .nil))
    (.cons (.retn "_law_rows")
    .nil)))⟩
noncomputable def l_table : Fn := ⟨["_law_script"],
    (.cons (.assign "_law_kind" (.bin .mod (.call "_law_cell_at" (.cons (.name "_law_script") (.cons (.int 0) .nil))) (.int 9)))
    (.cons (.assign "_law_more" (.call "_law_cell_at" (.cons (.name "_law_script") (.cons (.int 1) .nil))))
    (.cons (.ite (.cmp .eq (.name "_law_kind") (.int 4))
    (.cons (.assign "_law_count" (.bin .add (.int 7) (.bin .mod (.name "_law_more") (.int 12))))
    (.cons (.assign "_law_step" (.bin .add (.int 1) (.bin .mod (.bin .fdiv (.name "_law_more") (.int 12)) (.int 4))))
    (.cons (.ret (.tup (.cons (.name "_law_count") (.cons (.compif (.list (.cons (.name "_law_thing") .nil)) "_law_thing" (.r1 (.name "_law_count")) (.cmp .eq (.bin .mod (.name "_law_thing") (.name "_law_step")) (.int 0))) .nil))))
    .nil)))
    .nil)
    (.cons (.ite (.cmp .eq (.name "_law_kind") (.int 5))
    (.cons (.assign "_law_count" (.bin .add (.int 7) (.bin .mod (.name "_law_more") (.int 6))))
    (.cons (.ret (.tup (.cons (.name "_law_count") (.cons (.comp (.compif (.name "_law_thing") "_law_thing" (.r1 (.name "_law_count")) (.cmp .ne (.name "_law_thing") (.name "_law_gone"))) "_law_gone" (.r1 (.name "_law_count"))) .nil))))
    .nil))
    .nil)
    (.cons (.assign "_law_made" (.call "_law_few" (.cons (.name "_law_script") .nil)))
    (.cons (.assign "_law_far" (.call "_law_cell_at" (.cons (.name "_law_script") (.cons (.int 12) .nil))))
    (.cons (.ite (.or (.cmp .ne (.bin .mod (.name "_law_far") (.int 3)) (.int 1)) (.or (.cmp .gt (.bi1 .len (.sub (.name "_law_made") (.int 1))) (.int 8)) (.cmp .gt (.sub (.name "_law_made") (.int 0)) (.int 9))))
    (.cons (.retn "_law_made")
    .nil)
    .nil)
    (.cons (.assign "_law_step" (.bin .add (.int 1) (.bin .mod (.bin .fdiv (.name "_law_far") (.int 3)) (.int 9))))
    (.cons (.assign "_law_first" (.bin .mod (.bin .fdiv (.name "_law_far") (.int 27)) (.int 9)))
    (.cons (.assign "_law_table_here" (.list .nil))
    (.cons (.for1 "_law_choice" (.e (.sub (.name "_law_made") (.int 1)))
    (.cons (.append "_law_table_here" (.comp (.bin .add (.name "_law_first") (.bin .mul (.name "_law_step") (.name "_law_thing"))) "_law_thing" (.e (.name "_law_choice"))))
    .nil))
    (.cons (.ret (.tup (.cons (.bin .add (.name "_law_first") (.bin .mul (.name "_law_step") (.sub (.name "_law_made") (.int 0)))) (.cons (.name "_law_table_here") .nil))))
    .nil))))))))))))⟩
noncomputable def l_can : Fn := ⟨["_law_table_here", "_law_one", "_law_other", "_law_thing"],
    (.cons (.for1 "_law_out" (.e (.name "_law_one"))
    (.cons (.assign "_law_made" (.bi1 .sorted (.bin .add (.compif (.name "_law_left") "_law_left" (.e (.name "_law_one")) (.cmp .ne (.name "_law_left") (.name "_law_out"))) (.list (.cons (.name "_law_thing") .nil)))))
    (.cons (.ite (.and (.cmp .notin (.name "_law_out") (.name "_law_other")) (.cmp .isin (.name "_law_made") (.name "_law_table_here")))
    (.cons (.ret (.bool true))
    .nil)
    .nil)
    .nil)))
    (.cons (.ret (.bool false))
    .nil))⟩
noncomputable def l_fault : Fn := ⟨["_law_count", "_law_table_here"],
    (.cons (.for1 "_law_one" (.e (.name "_law_table_here"))
    (.cons (.for1 "_law_thing" (.r1 (.name "_law_count"))
    (.cons (.ite (.cmp .notin (.name "_law_thing") (.name "_law_one"))
    (.cons (.for1 "_law_other" (.e (.name "_law_table_here"))
    (.cons (.ite (.and (.cmp .isin (.name "_law_thing") (.name "_law_other")) (.not (.call "_law_can" (.cons (.name "_law_table_here") (.cons (.name "_law_one") (.cons (.name "_law_other") (.cons (.name "_law_thing") .nil)))))))
    (.cons (.ret (.tup (.cons (.name "_law_one") (.cons (.name "_law_other") (.cons (.name "_law_thing") .nil)))))
    .nil)
    .nil)
    .nil))
    .nil)
    .nil)
    .nil))
    .nil))
    (.cons (.ret .none)
    .nil))⟩
noncomputable def p_law : Fn := ⟨["_law_script"],
    (.cons (.assign "_law_made" (.call "_law_table" (.cons (.name "_law_script") .nil)))
    (.cons (.assign "_law_count" (.sub (.name "_law_made") (.int 0)))
    (.cons (.assign "_law_table_here" (.sub (.name "_law_made") (.int 1)))
    (.cons (.ite (.cmp .eq (.bin .mod (.call "_law_cell_at" (.cons (.name "_law_script") (.cons (.int 3) .nil))) (.int 2)) (.int 1))
    (.cons (.assign "_law_table_here" (.rev (.name "_law_table_here")))
    .nil)
    .nil)
    (.cons (.assign "_law_handed" (.comp (.bi1 .list (.name "_law_choice")) "_law_choice" (.e (.name "_law_table_here"))))
    (.cons (.assign "_law_found" (.call "fault" (.cons (.name "_law_count") (.cons (.name "_law_handed") .nil))))
    (.cons (.ite (.cmp .ne (.name "_law_handed") (.name "_law_table_here"))
    (.cons (.ret (.bool false))
    .nil)
    .nil)
    (.cons (.assign "_law_due" (.call "_law_fault" (.cons (.name "_law_count") (.cons (.name "_law_table_here") .nil))))
    (.cons (.ite (.cmp .is (.name "_law_due") .none)
    (.cons (.ret (.cmp .is (.name "_law_found") .none))
    .nil)
    .nil)
    (.cons (.ite (.or (.not (.isi (.name "_law_found") "tuple")) (.cmp .ne (.bi1 .len (.name "_law_found")) (.int 3)))
    (.cons (.ret (.bool false))
    .nil)
    .nil)
    (.cons (.ite (.or (.not (.call "_law_row_is" (.cons (.sub (.name "_law_found") (.int 0)) (.cons (.sub (.name "_law_due") (.int 0)) .nil)))) (.not (.call "_law_row_is" (.cons (.sub (.name "_law_found") (.int 1)) (.cons (.sub (.name "_law_due") (.int 1)) .nil)))))
    (.cons (.ret (.bool false))
    .nil)
    .nil)
    (.cons (.expr (.call "fault" (.cons (.name "_law_count") (.cons (.comp (.bi1 .list (.name "_law_choice")) "_law_choice" (.e (.rev (.name "_law_table_here")))) .nil))))
    (.cons (.ite (.cmp .ne (.name "_law_found") (.name "_law_due"))
    (.cons (.ret (.bool false))
    .nil)
    .nil)
    (.cons (.appendAt "_law_found" (.cons (.int 0) .nil) (.name "_law_count"))
    (.cons (.appendAt "_law_found" (.cons (.int 1) .nil) (.name "_law_count"))
    (.cons (.ite (.or (.not (.call "_law_whole" (.cons (.sub (.name "_law_found") (.int 2)) .nil))) (.or (.cmp .ne (.sub (.name "_law_found") (.int 2)) (.sub (.name "_law_due") (.int 2))) (.cmp .ne (.name "_law_handed") (.name "_law_table_here"))))
    (.cons (.ret (.bool false))
    .nil)
    .nil)
    (.cons (.ret (.cmp .eq (.call "fault" (.cons (.name "_law_count") (.cons (.name "_law_handed") .nil))) (.name "_law_due")))
    .nil)))))))))))))))))⟩
noncomputable def p_L : List (String × Fn) := [("exchanged", p_exchanged), ("known_of", p_known_of), ("goes", p_goes), ("fault", p_fault), ("_law_cell_at", l_cell_at), ("_law_whole", l_whole), ("_law_row_is", l_row_is), ("_law_subsets", l_subsets), ("_law_apart", l_apart), ("_law_parts", l_parts), ("_law_few", l_few), ("_law_pairs_by", l_pairs_by), ("_law_table", l_table), ("_law_can", l_can), ("_law_fault", l_fault), ("law", p_law)]

/-- the functions that a list of functions must hold -/
structure Lib (L : List (String × Fn)) : Prop where
  cell : L.lookup "_law_cell_at" = some l_cell_at
  whole : L.lookup "_law_whole" = some l_whole
  rowis : L.lookup "_law_row_is" = some l_row_is
  subs : L.lookup "_law_subsets" = some l_subsets
  apart : L.lookup "_law_apart" = some l_apart
  parts : L.lookup "_law_parts" = some l_parts
  few : L.lookup "_law_few" = some l_few
  pairs : L.lookup "_law_pairs_by" = some l_pairs_by
  table : L.lookup "_law_table" = some l_table
  can : L.lookup "_law_can" = some l_can
  lfault : L.lookup "_law_fault" = some l_fault
  exch : L.lookup "exchanged" = some p_exchanged
  known : L.lookup "known_of" = some p_known_of
  goes : L.lookup "goes" = some p_goes
  fault : L.lookup "fault" = some p_fault

noncomputable def cellAt (s : List Int) (k : Int) : Int := if k < s.length then s[k.toNat]?.getD 0 else if s = [] then 0 else s[(k % s.length).toNat]?.getD 0 * 7 + k
theorem getD_some {s : List Int} {i : Nat} (h : i < s.length) : s[i]? = some (s[i]?.getD 0) := by rw [List.getElem?_eq_getElem h]; rfl
theorem cell_at_spec (C : Calls) (s : List Int) (k : Int) (hk : 0 ≤ k) : runF C l_cell_at [.d (ofInts s), .d (.int k)] = .ok (sI (cellAt s k)) := by
  unfold l_cell_at
  refine fn_is rfl fun σ H => ?_
  have e1 := e_lt (C := C) (H.ev (x := "_law_k") rfl) (e_len (H.ev (x := "_law_script") rfl))
  unfold cellAt
  by_cases h1 : k < s.length
  · rw [if_pos h1]
    refine Runs.ite (e1.trans (by rw [decide_eq_true h1])) (fun _ => Runs.ret (e_idx (H.ev rfl) (H.ev rfl) hk (getD_some (by omega))) rfl) fun q => by cases q
  · rw [if_neg h1]
    refine Runs.no (e1.trans (by rw [decide_eq_false h1])) ?_
    have e2 := e_eqI (C := C) (H.ev (x := "_law_script") rfl) e_nil
    by_cases h2 : s = []
    · rw [if_pos h2]
      exact Runs.ite (e2.trans (by rw [decide_eq_true h2])) (fun _ => Runs.ret (e_int 0) rfl) fun q => by cases q
    · rw [if_neg h2]
      refine Runs.no (e2.trans (by rw [decide_eq_false h2])) ?_
      have hl : 0 < s.length := List.length_pos_iff.mpr h2
      have h3 : 0 ≤ k % s.length := Int.emod_nonneg _ (by omega)
      have h4 : k % s.length < s.length := Int.emod_lt_of_pos _ (by omega)
      refine Runs.ret (e_add ((ev_bin (e_idx (H.ev rfl) (e_mod (H.ev rfl) (e_len (H.ev rfl)) (by omega)) h3 (getD_some (by omega))) (e_int 7)).trans (bin_mul_r _ 7 (by decide))) (H.ev rfl)) rfl
theorem whole_spec (C : Calls) (i : Int) : runF C l_whole [.d (.int i)] = .ok (sB true) := by
  unfold l_whole
  refine fn_is rfl fun σ H => Runs.ret (e_and (p := true) (q := true) ?_ fun _ => ?_) rfl
  · exact e_isi (H.ev rfl) rfl
  · exact ev_not (t := false) (e_isi (H.ev rfl) rfl)

/-- a row of things below a number, rising -/
def Srt (c : Int) (r : List Int) : Prop := r.Pairwise (· < ·) ∧ ∀ x ∈ r, 0 ≤ x ∧ x < c
theorem Srt.snoc {c x : Int} {r : List Int} (h : Srt c r) (h0 : 0 ≤ c) (hx : c ≤ x) : Srt (x + 1) (r ++ [x]) := by
  refine ⟨List.pairwise_append.mpr ⟨h.1, List.pairwise_singleton _ _, fun a ha b hb => ?_⟩, fun a ha => ?_⟩
  · rw [List.mem_singleton.mp hb]; have := h.2 a ha; omega
  · rcases List.mem_append.mp ha with ha | ha
    · have := h.2 a ha; omega
    · rw [List.mem_singleton.mp ha]; omega
theorem Srt.mono {c d : Int} {r : List Int} (h : Srt c r) (hd : c ≤ d) : Srt d r := ⟨h.1, fun x hx => by have := h.2 x hx; omega⟩
theorem Srt.nil (c : Int) : Srt c [] := ⟨.nil, fun _ h => by cases h⟩

theorem upTo_pre {c : Nat} {pre post : List Int} {y : Int} (h : upTo c = pre ++ y :: post) : y = pre.length ∧ pre.length < c := by
  have hl := congrArg List.length h
  rw [upTo_len, List.length_append, List.length_cons] at hl
  have hy : (upTo c)[pre.length]? = some y := by rw [h, List.getElem?_append_right (Nat.le_refl _), Nat.sub_self]; rfl
  have hp : pre.length < c := by omega
  unfold upTo at hy
  rw [List.getElem?_map, List.getElem?_range hp] at hy
  exact ⟨(Option.some.inj hy).symm, hp⟩

/-- rows of a table that is being built: at most so long, so many -/
def Grow (k n : Nat) (c : Int) (t : List (List Int)) : Prop := t ≠ [] ∧ t.length ≤ n ∧ ∀ r ∈ t, r.length ≤ k ∧ Srt c r
theorem subsets_spec (C : Calls) (c : Nat) (hc : c ≤ 7) : ∃ r, runF C l_subsets [.d (.int c)] = .ok r ∧ ∃ t, r.1 = .d (ofRows t) ∧ [] ∈ t ∧ Grow c 128 c t := by
  unfold l_subsets
  refine fn_run rfl fun σ H => ?_
  refine Runs.set H e_nilR fun σ H _ => ?_
  refine Runs.for (g := PyData.int) (xs := upTo c) (fun pre σ => ∃ t, Has σ [("_law_rows", .d (ofRows t)), ("_law_count", .d (.int c))] ∧ [] ∈ t ∧ Grow pre.length (2 ^ pre.length) pre.length t) (evIt_r (H.ev rfl) (by omega)) (fun σ0 h _ => ⟨[[]], (h _ H).sub ⟨rfl, rfl, trivial⟩, .head _, by simp, by simp, fun r hr => ?_⟩) ?_ ?_
  · cases List.mem_singleton.mp hr; exact ⟨Nat.le_refl _, .nil _⟩
  · rintro pre y post hl σ ⟨t, H, h0, g1, g2, g3⟩
    obtain ⟨hy, hp⟩ := upTo_pre hl
    have hpow : 2 ^ pre.length ≤ 2 ^ 6 := Nat.pow_le_pow_right (by decide) (by omega)
    have H1 := H.mk "_law_thing" (.d (.int y))
    obtain ⟨m1, e1, _⟩ := e_compR (fun r => r ++ [y]) .deep (evIt_e (H1.ev (C := C) (x := "_law_rows") rfl) (itV_rows t .sh)) (a := .bin .add (.name "_law_row") (.list (.cons (.name "_law_thing") .nil))) (z := "_law_row") (fun r hr => by
      have H2 := H1.mk "_law_row" (.d (ofInts r))
      exact e_addI (H2.ev rfl) (e_one (H2.ev rfl)) (by have := (g3 r hr).1; rw [List.length_singleton]; omega))
    obtain ⟨m2, e2⟩ := e_addR (H1.ev (C := C) (x := "_law_rows") rfl) e1 (by rw [List.length_map]; omega)
    refine Runs.set H1 e2 fun σ H _ => Runs.nil ⟨_, H.sub ⟨rfl, rfl, trivial⟩, List.mem_append_left _ h0, ?_, ?_, fun r hr => ?_⟩
    · exact fun q => g1 (List.append_eq_nil_iff.mp q).1
    · rw [List.length_append, List.length_append, List.length_map, List.length_singleton, Nat.pow_succ]; omega
    · rw [List.length_append, List.length_singleton]
      rcases List.mem_append.mp hr with hr | hr
      · obtain ⟨q1, q2⟩ := g3 r hr; exact ⟨by omega, q2.mono (by omega)⟩
      · obtain ⟨r', hr', rfl⟩ := List.mem_map.mp hr
        obtain ⟨q1, q2⟩ := g3 r' hr'
        rw [List.length_append, List.length_singleton]
        exact ⟨by omega, (q2.snoc (by omega) (x := y) (by omega)).mono (by omega)⟩
  · rintro σ' ⟨t, H, h0, g1, g2, g3⟩
    obtain ⟨m, e⟩ := H "_law_rows" _ rfl
    rw [upTo_len] at g2 g3
    have hpow : 2 ^ c ≤ 2 ^ 7 := Nat.pow_le_pow_right (by decide) (by omega)
    exact Runs.retn e ⟨_, rfl, t, rfl, h0, g1, by omega, g3⟩

section
variable {L : List (String × Fn)} {n : Nat} {σ : St}
theorem ev_cell (lib : Lib L) {s : List Int} {k : Int} {m : Mode} {a b : E} (ha : ev (mkC L (n + 1)) a σ = .ok (.d (ofInts s), m)) (hb : ev (mkC L (n + 1)) b σ = .ok (sI k)) (hk : 0 ≤ k) : ev (mkC L (n + 1)) (.call "_law_cell_at" (.cons a (.cons b .nil))) σ = .ok (sI (cellAt s k)) :=
  ev_fn lib.cell (evs_cons ha (evs_cons hb evs_nil)) rfl (cell_at_spec _ s k hk)
end

theorem apart_spec (C : Calls) (vec row : List Int) (h : ∀ i ∈ row, 0 ≤ i ∧ i < vec.length) (hl : row.length ≤ 7) : ∃ r, runF C l_apart [.d (ofInts vec), .d (ofInts row)] = .ok r ∧ ∃ b, r = sB b ∧ (row = [] → b = true) := by
  unfold l_apart
  refine fn_run rfl fun σ H => ?_
  refine Runs.set H (e_one (e_int 0)) fun σ H _ => ?_
  refine Runs.for (g := PyData.int) (xs := row) (fun pre σ => ∃ ss : List Int, Has σ [("_law_sums", .d (ofInts ss)), ("_law_vectors", .d (ofInts vec))] ∧ ss.length = 2 ^ pre.length) (evIt_e (H.ev rfl) (itV_ints row .sh)) (fun σ0 h _ => ⟨[0], (h _ H).sub ⟨rfl, rfl, trivial⟩, rfl⟩) ?_ ?_
  · rintro pre y post hr σ ⟨ss, H, hs⟩
    have hp : pre.length < row.length := by rw [hr, List.length_append, List.length_cons]; omega
    have hpow : 2 ^ pre.length ≤ 2 ^ 6 := Nat.pow_le_pow_right (by decide) (by omega)
    obtain ⟨y0, y1⟩ := h y (by rw [hr]; exact List.mem_append_right _ (.head _))
    have H1 := H.mk "_law_thing" (.d (.int y))
    have ev1 : ∀ {σ : St} {l : List (String × V)}, Has σ l → l.lookup "_law_vectors" = some (.d (ofInts vec)) → l.lookup "_law_thing" = some (.d (.int y)) → ev C (.sub (.name "_law_vectors") (.name "_law_thing")) σ = .ok (sI (vec[y.toNat]?.getD 0)) := fun H a b => e_idx (H.ev a) (H.ev b) y0 (getD_some (by omega))
    refine Runs.ite (e_in (ev1 H1 rfl rfl) (H1.ev rfl)) (fun _ => Runs.ret (e_bool false) ⟨_, rfl, false, rfl, fun q => ?_⟩) fun _ => Runs.nil ?_
    · rw [q] at hr; exact absurd hr (by simp)
    refine Runs.set H1 (e_addI (H1.ev rfl) (e_compI (g := PyData.int) (fun i => Builtin.bitXor i (vec[y.toNat]?.getD 0)) (evIt_e (H1.ev rfl) (itV_ints ss .sh)) fun i _ => ?_) ?_) fun σ H _ => Runs.nil ⟨_, H.sub ⟨rfl, rfl, trivial⟩, ?_⟩
    · have H2 := H1.mk "_law_one" (.d (.int i))
      exact e_xor (H2.ev rfl) (ev1 H2 rfl rfl)
    · rw [List.length_map]; omega
    · rw [List.length_append, List.length_append, List.length_map, List.length_singleton, Nat.pow_succ]; omega
  · rintro σ' ⟨ss, H, hs⟩
    exact Runs.ret (e_bool true) ⟨_, rfl, true, rfl, fun _ => rfl⟩

/-- a table as it is handed on -/
def Tb (c : Int) (t : List (List Int)) : Prop := 0 ≤ c ∧ c ≤ 100 ∧ t.length ≤ 128 ∧ ∀ r ∈ t, r.length ≤ 12 ∧ Srt c r
def IsTb (r : V × Mode) : Prop := ∃ c t, r.1 = .d (.tuple [.int c, ofRows t]) ∧ Tb c t

theorem pairs_spec (C : Calls) (c : Nat) (hc : c ≤ 5) : ∃ r, runF C l_pairs_by [.d (.int c)] = .ok r ∧ ∃ t, r.1 = .d (ofRows t) ∧ Grow c 32 (2 * c) t := by
  unfold l_pairs_by
  refine fn_run rfl fun σ H => ?_
  refine Runs.set H e_nilR fun σ H _ => ?_
  refine Runs.for (g := PyData.int) (xs := upTo c) (fun pre σ => ∃ t, Has σ [("_law_rows", .d (ofRows t)), ("_law_many", .d (.int c))] ∧ Grow pre.length (2 ^ pre.length) (2 * pre.length) t) (evIt_r (H.ev rfl) (by omega)) (fun σ0 h _ => ⟨[[]], (h _ H).sub ⟨rfl, rfl, trivial⟩, by simp, by simp, fun r hr => ?_⟩) ?_ ?_
  · cases List.mem_singleton.mp hr; exact ⟨Nat.le_refl _, .nil _⟩
  · rintro pre y post hl σ ⟨t, H, g1, g2, g3⟩
    obtain ⟨hy, hp⟩ := upTo_pre hl
    have hpow : 2 ^ pre.length ≤ 2 ^ 5 := Nat.pow_le_pow_right (by decide) (by omega)
    have H1 := H.mk "_law_k" (.d (.int y))
    obtain ⟨m1, e1, _⟩ := e_compR (fun r => r ++ [2 * y]) .deep (evIt_e (H1.ev (C := C) (x := "_law_rows") rfl) (itV_rows t .sh)) (a := .bin .add (.name "_law_row") (.list (.cons (.bin .mul (.int 2) (.name "_law_k")) .nil))) (z := "_law_row") (fun r hr => by
      have H2 := H1.mk "_law_row" (.d (ofInts r))
      exact e_addI (H2.ev rfl) (e_one (e_mul (e_int 2) (H2.ev rfl) (by decide))) (by have := (g3 r hr).1; rw [List.length_singleton]; omega))
    obtain ⟨m2, e2, _⟩ := e_compR (fun r => r ++ [2 * y + 1]) .deep (evIt_e (H1.ev (C := C) (x := "_law_rows") rfl) (itV_rows t .sh)) (a := .bin .add (.name "_law_row") (.list (.cons (.bin .add (.bin .mul (.int 2) (.name "_law_k")) (.int 1)) .nil))) (z := "_law_row") (fun r hr => by
      have H2 := H1.mk "_law_row" (.d (ofInts r))
      exact e_addI (H2.ev rfl) (e_one (e_add (e_mul (e_int 2) (H2.ev rfl) (by decide)) (e_int 1))) (by have := (g3 r hr).1; rw [List.length_singleton]; omega))
    obtain ⟨m3, e3⟩ := e_addR e1 e2 (by rw [List.length_map, List.length_map]; omega)
    refine Runs.set H1 e3 fun σ H _ => Runs.nil ⟨_, H.sub ⟨rfl, rfl, trivial⟩, ?_, ?_, fun r hr => ?_⟩
    · exact fun q => g1 (List.map_eq_nil_iff.mp (List.append_eq_nil_iff.mp q).1)
    · rw [List.length_append, List.length_append, List.length_map, List.length_map, List.length_singleton, Nat.pow_succ]; omega
    · rw [List.length_append, List.length_singleton]
      rcases List.mem_append.mp hr with hr | hr
      · obtain ⟨r', hr', rfl⟩ := List.mem_map.mp hr
        obtain ⟨q1, q2⟩ := g3 r' hr'
        rw [List.length_append, List.length_singleton]
        exact ⟨by omega, (q2.snoc (by omega) (x := 2 * y) (by omega)).mono (by omega)⟩
      · obtain ⟨r', hr', rfl⟩ := List.mem_map.mp hr
        obtain ⟨q1, q2⟩ := g3 r' hr'
        rw [List.length_append, List.length_singleton]
        exact ⟨by omega, (q2.snoc (by omega) (x := 2 * y + 1) (by omega)).mono (by omega)⟩
  · rintro σ' ⟨t, H, g1, g2, g3⟩
    obtain ⟨m, e⟩ := H "_law_rows" _ rfl
    rw [upTo_len] at g2 g3
    have hpow : 2 ^ c ≤ 2 ^ 5 := Nat.pow_le_pow_right (by decide) (by omega)
    exact Runs.retn e ⟨_, rfl, t, rfl, g1, by omega, g3⟩

theorem ev_fnE {L : List (String × Fn)} {n : Nat} {σ : St} {f : String} {fn : Fn} {es : Es} {q : List (V × Mode)} {vs : List V} {P : V × Mode → Prop} (hL : L.lookup f = some fn) (he : evs (mkC L (n + 1)) es σ = .ok q) (hv : q.map (·.1) = vs) (h : ∃ r, runF (mkC L n) fn vs = .ok r ∧ P r) : ∃ r, ev (mkC L (n + 1)) (.call f es) σ = .ok r ∧ P r := by
  obtain ⟨r, h1, h2⟩ := h
  exact ⟨r, ev_fn hL he hv h1, h2⟩

theorem parts_spec {L : List (String × Fn)} (lib : Lib L) (n : Nat) (s : List Int) (kind more : Int) (c : Nat) (hc : c ≤ 6) : ∃ r, runF (mkC L (n + 1)) l_parts [.d (ofInts s), .d (.int kind), .d (.int c), .d (.int more)] = .ok r ∧ IsTb r := by
  unfold l_parts
  refine fn_run rfl fun σ H => ?_
  obtain ⟨⟨rv, rm⟩, e1, t, ht, h0, g1, g2, g3⟩ := ev_fnE (σ := σ) (n := n) lib.subs (es := .cons (.name "_law_count") .nil) (evs_cons (H.ev rfl) evs_nil) rfl (subsets_spec _ c (by omega))
  cases ht
  refine Runs.set H e1 fun σ H _ => ?_
  have m6 := Int.emod_nonneg more (show (6 : Int) ≠ 0 by decide)
  have m6' := Int.emod_lt_of_pos more (show (0 : Int) < 6 by decide)
  have hpos : 0 < t.length := List.length_pos_iff.mpr g1
  refine Runs.ite (e_eq (H.ev rfl) (e_int 0)) (fun _ => ?_) fun _ => Runs.nil ?_
  · obtain ⟨k, hk⟩ : ∃ k : Nat, more % 6 = k := ⟨(more % 6).toNat, by omega⟩
    have idx : ∀ i : Int, ∃ r, t[(cellAt s (6 + i) % t.length).toNat]? = some r := fun i => ⟨_, List.getElem?_eq_getElem (by have := Int.emod_lt_of_pos (cellAt s (6 + i)) (show (0 : Int) < t.length by omega); have := Int.emod_nonneg (cellAt s (6 + i)) (show (t.length : Int) ≠ 0 by omega); omega)⟩
    obtain ⟨m1, e2, _⟩ := e_compR (C := mkC L (n + 1)) (σ := σ) (g := PyData.int) (l := upTo k) (z := "_law_k") (it := .r1 (.bin .mod (.name "_law_more") (.int 6))) (a := .sub (.name "_law_rows") (.bin .mod (.call "_law_cell_at" (.cons (.name "_law_script") (.cons (.bin .add (.int 6) (.name "_law_k")) .nil))) (.bi1 .len (.name "_law_rows")))) (fun i => (t[(cellAt s (6 + i) % t.length).toNat]?).getD []) .sh (evIt_r (n := k) (m := .deep) ((e_mod (H.ev rfl) (e_int 6) (by decide)).trans (by rw [hk]; rfl)) (by omega)) (fun i hi => by
      have H2 := H.mk "_law_k" (.d (.int i))
      have := mem_upTo.mp hi
      obtain ⟨r, hr⟩ := idx i
      rw [hr]
      exact e_idxR (H2.ev rfl) (e_mod (ev_cell lib (H2.ev rfl) (e_add (e_int 6) (H2.ev rfl)) (by omega)) (e_lenR (H2.ev rfl)) (by omega)) (Int.emod_nonneg _ (by omega)) hr)
    obtain ⟨m2, e3⟩ := e_pair (H.ev (x := "_law_count") rfl) e2
    refine Runs.ret e3 ⟨_, rfl, c, _, rfl, by omega, by omega, by rw [List.length_map, upTo_len]; omega, fun r hr => ?_⟩
    obtain ⟨i, _, rfl⟩ := List.mem_map.mp hr
    obtain ⟨r, hr⟩ := idx i
    rw [hr]
    obtain ⟨q1, q2⟩ := g3 r (List.mem_of_getElem? hr)
    exact ⟨by show r.length ≤ 12; omega, q2⟩
  · refine Runs.ite (e_eq (e_mod (H.ev rfl) (e_int 9) (by decide)) (e_int 8)) (fun _ => ?_) fun _ => Runs.nil ?_
    · have a1 := Int.emod_nonneg (more / 9) (show (3 : Int) ≠ 0 by decide)
      have a2 := Int.emod_lt_of_pos (more / 9) (show (0 : Int) < 3 by decide)
      obtain ⟨d, hd⟩ : ∃ d : Nat, 7 + more / 9 % 3 = d := ⟨(7 + more / 9 % 3).toNat, by omega⟩
      refine Runs.set H (e_add (e_int 7) (e_mod (e_div (H.ev rfl) (e_int 9) (by decide) (by decide)) (e_int 3) (by decide))) fun σ H _ => ?_
      rw [hd] at H
      refine Runs.set H e_nilR0 fun σ H _ => ?_
      refine Runs.for (g := PyData.int) (xs := upTo d) (fun pre σ => ∃ t, Has σ [("_law_rows", .d (ofRows t)), ("_law_count", .d (.int d))] ∧ t.length ≤ 9 * pre.length ∧ ∀ r ∈ t, r.length ≤ 12 ∧ Srt d r) (evIt_r (H.ev rfl) (by omega)) (fun σ0 h _ => ⟨[], (h _ H).sub ⟨rfl, rfl, trivial⟩, by simp, fun _ q => by cases q⟩) ?_ ?_
      · rintro pre y post hl σ ⟨t, H, q1, q2⟩
        obtain ⟨hy, hp⟩ := upTo_pre hl
        have H1 := H.mk "_law_one" (.d (.int y))
        obtain ⟨m1, e2, _⟩ := e_compR (C := mkC L (n + 1)) (σ := upd σ "_law_one" (mk (.d (.int y)))) (g := PyData.int) (z := "_law_thing") (it := .r2 (.bin .add (.name "_law_one") (.int 1)) (.name "_law_count")) (a := .list (.cons (.name "_law_one") (.cons (.name "_law_thing") .nil))) (fun i => [y, i]) .deep (evIt_r2 (e_add (H1.ev rfl) (e_int 1)) (H1.ev rfl) (by omega) (by omega) (by omega) (by omega)) (fun i hi => by
          have H2 := H1.mk "_law_thing" (.d (.int i))
          exact e_two (H2.ev rfl) (H2.ev rfl))
        obtain ⟨m2, e3⟩ := e_addR (H1.ev (C := mkC L (n + 1)) (x := "_law_rows") rfl) e2 (by rw [List.length_map, List.length_map, List.length_range]; omega)
        refine Runs.set H1 e3 fun σ H _ => Runs.nil ⟨_, H.sub ⟨rfl, rfl, trivial⟩, ?_, fun r hr => ?_⟩
        · rw [List.length_append, List.length_append, List.length_map, List.length_map, List.length_range, List.length_singleton]; omega
        · rcases List.mem_append.mp hr with hr | hr
          · exact q2 r hr
          · obtain ⟨i, hi, rfl⟩ := List.mem_map.mp hr
            obtain ⟨k, hk, rfl⟩ := List.mem_map.mp hi
            have := List.mem_range.mp hk
            exact ⟨by simp, by simp; omega, fun x hx => by
              rcases List.mem_cons.mp hx with rfl | hx
              · omega
              · rw [List.mem_singleton.mp hx]; omega⟩
      · rintro σ' ⟨t, H, q1, q2⟩
        obtain ⟨m2, e3⟩ := e_pair (H.ev (C := mkC L (n + 1)) (x := "_law_count") rfl) (H.ev (x := "_law_rows") rfl)
        rw [upTo_len] at q1
        exact Runs.ret e3 ⟨_, rfl, d, t, rfl, by omega, by omega, by omega, q2⟩
    · obtain ⟨m1, e2, _⟩ := e_filR (C := mkC L (n + 1)) (σ := σ) (g := ofInts) (l := t) (z := "_law_row") (it := .e (.name "_law_rows")) (a := .name "_law_row") (c := .cmp .eq (.bi1 .len (.name "_law_row")) (.bin .mod (.name "_law_more") (.bin .add (.name "_law_count") (.int 1)))) (fun r => r) (fun r => decide ((r.length : Int) = more % (c + 1))) .sh (evIt_e (H.ev rfl) (itV_rows t .sh)) (fun r hr => by
        have H2 := H.mk "_law_row" (.d (ofInts r))
        exact e_eq (e_len (H2.ev rfl)) (e_mod (H2.ev rfl) (e_add (H2.ev rfl) (e_int 1)) (by omega))) (fun r hr _ => (H.mk "_law_row" (.d (ofInts r))).ev rfl)
      obtain ⟨m2, e3⟩ := e_pair (H.ev (x := "_law_count") rfl) e2
      refine Runs.ret e3 ⟨_, rfl, c, _, rfl, by omega, by omega, ?_, fun r hr => ?_⟩
      · rw [List.map_id']; exact Nat.le_trans (List.length_filter_le ..) g2
      · rw [List.map_id'] at hr
        obtain ⟨q1, q2⟩ := g3 r (List.mem_filter.mp hr).1
        exact ⟨by omega, q2⟩

/-- one of seven numbers, each at most so large -/
theorem pick7 {l : List Int} {x : Int} {b : Int} (h : l.length = 7) (hb : ∀ i ∈ l, 0 ≤ i ∧ i ≤ b) : ∃ c : Nat, l[(x / 9 % 7).toNat]? = some (c : Int) ∧ (c : Int) ≤ b := by
  have h1 := Int.emod_nonneg (x / 9) (show (7 : Int) ≠ 0 by decide)
  have h2 := Int.emod_lt_of_pos (x / 9) (show (0 : Int) < 7 by decide)
  have hl : (x / 9 % 7).toNat < l.length := by omega
  have := hb _ (List.getElem_mem hl)
  exact ⟨l[(x / 9 % 7).toNat].toNat, by rw [List.getElem?_eq_getElem hl]; congr 1; omega, by omega⟩
theorem e_seven {C : Calls} {σ : St} (a b c d e f g : Int) : ev C (.list (.cons (.int a) (.cons (.int b) (.cons (.int c) (.cons (.int d) (.cons (.int e) (.cons (.int f) (.cons (.int g) .nil)))))))) σ = .ok (.d (ofInts [a, b, c, d, e, f, g]), .deep) := by
  simp only [ev, evs, Out.ok_bind]; rfl

theorem few_spec {L : List (String × Fn)} (lib : Lib L) (n : Nat) (s : List Int) (hs : s.length ≤ 63) : ∃ r, runF (mkC L (n + 2)) l_few [.d (ofInts s)] = .ok r ∧ IsTb r := by
  unfold l_few
  refine fn_run rfl fun σ H => ?_
  refine Runs.set H (e_mod (ev_cell lib (H.ev rfl) (e_int 0) (by decide)) (e_int 9) (by decide)) fun σ H _ => ?_
  obtain ⟨c, hc1, hc2⟩ := pick7 (l := [6, 5, 4, 3, 6, 1, 0]) (x := cellAt s 0) (b := 6) rfl (by decide)
  refine Runs.set H (e_idx (e_seven 6 5 4 3 6 1 0) (e_mod (e_div (ev_cell lib (H.ev rfl) (e_int 0) (by decide)) (e_int 9) (by decide) (by decide)) (e_int 7) (by decide)) (Int.emod_nonneg _ (by decide)) hc1) fun σ H _ => ?_
  refine Runs.set H (ev_cell lib (H.ev rfl) (e_int 1) (by decide)) fun σ H _ => ?_
  generalize cellAt s 0 % 9 = kind at H
  generalize cellAt s 1 = more at H
  refine Runs.ite (e_eq (H.ev rfl) (e_int 7)) (fun _ => ?_) fun _ => Runs.nil ?_
  · have a1 := Int.emod_nonneg more (show (4 : Int) ≠ 0 by decide)
    have a2 := Int.emod_lt_of_pos more (show (0 : Int) < 4 by decide)
    obtain ⟨d, hd⟩ : ∃ d : Nat, 1 + more % 4 = d := ⟨(1 + more % 4).toNat, by omega⟩
    refine Runs.set H (e_add (e_int 1) (e_mod (H.ev rfl) (e_int 4) (by decide))) fun σ H _ => ?_
    rw [hd] at H
    refine Runs.no ((e_gt (e_len (H.ev rfl)) (e_int 63)).trans (by rw [decide_eq_false (by omega)])) ?_
    obtain ⟨⟨rv, rm⟩, e1, t, ht, g1, g2, g3⟩ := ev_fnE (σ := σ) (n := n + 1) lib.pairs (es := .cons (.name "_law_many") .nil) (evs_cons (H.ev rfl) evs_nil) rfl (pairs_spec _ d (by omega))
    cases ht
    obtain ⟨m2, e3⟩ := e_pair (e_mul (e_int 2) (H.ev (x := "_law_many") rfl) (by decide)) e1
    exact Runs.ret e3 ⟨_, rfl, _, t, rfl, by omega, by omega, by omega, fun r hr => let ⟨q1, q2⟩ := g3 r hr; ⟨by omega, q2⟩⟩
  · refine Runs.ite (e_lt (H.ev rfl) (e_int 2)) (fun _ => ?_) fun _ => Runs.nil ?_
    · obtain ⟨r, e1, h⟩ := ev_fnE (σ := σ) (n := n + 1) lib.parts (es := .cons (.name "_law_script") (.cons (.name "_law_kind") (.cons (.name "_law_count") (.cons (.name "_law_more") .nil)))) (evs_cons (H.ev rfl) (evs_cons (H.ev rfl) (evs_cons (H.ev rfl) (evs_cons (H.ev rfl) evs_nil)))) rfl (parts_spec lib n s kind more c (by omega))
      exact Runs.ret e1 ⟨r, rfl, h⟩
    · clear hc1 hc2
      obtain ⟨c, hc1, hc2⟩ := pick7 (l := [6, 5, 4, 3, 7, 7, 2]) (x := cellAt s 0) (b := 7) rfl (by decide)
      refine Runs.set H (e_idx (e_seven 6 5 4 3 7 7 2) (e_mod (e_div (ev_cell lib (H.ev rfl) (e_int 0) (by decide)) (e_int 9) (by decide) (by decide)) (e_int 7) (by decide)) (Int.emod_nonneg _ (by decide)) hc1) fun σ H _ => ?_
      refine Runs.set H e_nilR fun σ H _ => ?_
      refine Runs.for (g := PyData.int) (xs := upTo c) (fun pre σ => ∃ t, Has σ [("_law_rows", .d (ofRows t)), ("_law_count", .d (.int c)), ("_law_script", .d (ofInts s)), ("_law_kind", .d (.int kind)), ("_law_more", .d (.int more))] ∧ [] ∈ t ∧ Grow pre.length (2 ^ pre.length) pre.length t) (evIt_r (H.ev rfl) (by omega)) (fun σ0 h _ => ⟨[[]], (h _ H).sub ⟨rfl, rfl, rfl, rfl, rfl, trivial⟩, .head _, by simp, by simp, fun r hr => ?_⟩) ?_ ?_
      · cases List.mem_singleton.mp hr; exact ⟨Nat.le_refl _, .nil _⟩
      · rintro pre y post hl σ ⟨t, H, h0, g1, g2, g3⟩
        obtain ⟨hy, hp⟩ := upTo_pre hl
        have hpow : 2 ^ pre.length ≤ 2 ^ 6 := Nat.pow_le_pow_right (by decide) (by omega)
        have H1 := H.mk "_law_thing" (.d (.int y))
        obtain ⟨m1, e1, _⟩ := e_filR (C := mkC L (n + 2)) (fun r => r ++ [y]) (fun r => decide ((r.length : Int) < 3)) .deep (evIt_e (H1.ev (x := "_law_rows") rfl) (itV_rows t .sh)) (a := .bin .add (.name "_law_row") (.list (.cons (.name "_law_thing") .nil))) (c := .cmp .lt (.bi1 .len (.name "_law_row")) (.int 3)) (z := "_law_row") (fun r hr => e_lt (e_len ((H1.mk "_law_row" (.d (ofInts r))).ev rfl)) (e_int 3)) (fun r hr _ => by
          have H2 := H1.mk "_law_row" (.d (ofInts r))
          exact e_addI (H2.ev rfl) (e_one (H2.ev rfl)) (by have := (g3 r hr).1; rw [List.length_singleton]; omega))
        have hf := List.length_filter_le (fun r : List Int => decide ((r.length : Int) < 3)) t
        obtain ⟨m2, e2⟩ := e_addR (H1.ev (C := mkC L (n + 2)) (x := "_law_rows") rfl) e1 (by rw [List.length_map]; omega)
        refine Runs.set H1 e2 fun σ H _ => Runs.nil ⟨_, H.sub ⟨rfl, rfl, rfl, rfl, rfl, trivial⟩, List.mem_append_left _ h0, ?_, ?_, fun r hr => ?_⟩
        · exact fun q => g1 (List.append_eq_nil_iff.mp q).1
        · rw [List.length_append, List.length_append, List.length_map, List.length_singleton, Nat.pow_succ]; omega
        · rw [List.length_append, List.length_singleton]
          rcases List.mem_append.mp hr with hr | hr
          · obtain ⟨q1, q2⟩ := g3 r hr; exact ⟨by omega, q2.mono (by omega)⟩
          · obtain ⟨r', hr', rfl⟩ := List.mem_map.mp hr
            obtain ⟨q1, q2⟩ := g3 r' (List.mem_filter.mp hr').1
            rw [List.length_append, List.length_singleton]
            exact ⟨by omega, (q2.snoc (by omega) (x := y) (by omega)).mono (by omega)⟩
      · rintro σ ⟨t, H, h0, g1, g2, g3⟩
        rw [upTo_len] at g2 g3
        have hpow : 2 ^ c ≤ 2 ^ 7 := Nat.pow_le_pow_right (by decide) (by omega)
        obtain ⟨vec, hvec⟩ : ∃ vec, (upTo c).map (fun i => cellAt s (6 + i) % 8) = vec := ⟨_, rfl⟩
        have hvl : vec.length = c := by rw [← hvec, List.length_map, upTo_len]
        refine Runs.set H (r := (.d (ofInts vec), .deep)) ((e_compI (g := PyData.int) (fun i => cellAt s (6 + i) % 8) (evIt_r (n := c) (H.ev rfl) (by omega)) fun i hi => ?_).trans (by rw [hvec])) fun σ H _ => ?_
        · have H2 := H.mk "_law_thing" (.d (.int i))
          have := mem_upTo.mp hi
          exact e_mod (ev_cell lib (H2.ev rfl) (e_add (e_int 6) (H2.ev rfl)) (by omega)) (e_int 8) (by decide)
        obtain ⟨p, hp⟩ := bool_choice (l := t) (Q := fun r b => ev (mkC L (n + 2)) (.call "_law_apart" (.cons (.name "_law_vectors") (.cons (.name "_law_row") .nil))) (upd σ "_law_row" (mk (.d (ofInts r)))) = .ok (sB b) ∧ (r = [] → b = true)) fun r hr => by
          have H2 := H.mk "_law_row" (.d (ofInts r))
          obtain ⟨q1, q2⟩ := g3 r hr
          obtain ⟨_, e1, b, rfl, hb⟩ := ev_fnE (n := n + 1) lib.apart (es := .cons (.name "_law_vectors") (.cons (.name "_law_row") .nil)) (evs_cons (H2.ev rfl) (evs_cons (H2.ev rfl) evs_nil)) rfl (apart_spec _ vec r (fun i hi => by have := q2.2 i hi; omega) (by omega))
          exact ⟨b, e1, hb⟩
        obtain ⟨m1, e1, _⟩ := e_filR (C := mkC L (n + 2)) (σ := σ) (g := ofInts) (l := t) (z := "_law_row") (it := .e (.name "_law_rows")) (a := .name "_law_row") (c := .call "_law_apart" (.cons (.name "_law_vectors") (.cons (.name "_law_row") .nil))) (fun r => r) p .sh (evIt_e (H.ev rfl) (itV_rows t .sh)) (fun r hr => (hp r hr).1) (fun r hr _ => (H.mk "_law_row" (.d (ofInts r))).ev rfl)
        rw [List.map_id'] at e1
        refine Runs.set H e1 fun σ H _ => ?_
        have hne : (t.filter p).map (fun r => (r.length : Int)) ≠ [] := fun q => by
          have : [] ∈ t.filter p := List.mem_filter.mpr ⟨h0, (hp [] h0).2 rfl⟩
          rw [List.map_eq_nil_iff.mp q] at this
          cases this
        obtain ⟨mo, e2, hmo⟩ := e_max (e_compI (C := mkC L (n + 2)) (σ := σ) (g := ofInts) (l := t.filter p) (z := "_law_row") (it := .e (.name "_law_good")) (a := .bi1 .len (.name "_law_row")) (fun r => (r.length : Int)) (evIt_e (H.ev rfl) (itV_rows _ .sh)) fun r _ => e_len ((H.mk "_law_row" (.d (ofInts r))).ev rfl)) hne
        refine Runs.set H e2 fun σ H _ => ?_
        obtain ⟨r0, hr0, hr1⟩ := List.mem_map.mp hmo
        obtain ⟨tt, htt⟩ : ∃ tt, (t.filter p).filter (fun r => decide ((r.length : Int) = mo)) = tt := ⟨_, rfl⟩
        have hpos : 0 < tt.length := List.length_pos_iff.mpr fun q => by
          have : r0 ∈ tt := by rw [← htt]; exact List.mem_filter.mpr ⟨hr0, decide_eq_true hr1⟩
          rw [q] at this; cases this
        have hsub : ∀ r ∈ tt, r ∈ t := fun r hr => by rw [← htt] at hr; exact (List.mem_filter.mp (List.mem_filter.mp hr).1).1
        have hlen : tt.length ≤ 128 := by
          have q1 := List.length_filter_le (fun r : List Int => decide ((r.length : Int) = mo)) (t.filter p)
          have q2 := List.length_filter_le p t
          rw [htt] at q1; omega
        obtain ⟨m3, e3, _, hm3⟩ := e_filR (C := mkC L (n + 2)) (σ := σ) (g := ofInts) (l := t.filter p) (z := "_law_row") (it := .e (.name "_law_good")) (a := .name "_law_row") (c := .cmp .eq (.bi1 .len (.name "_law_row")) (.name "_law_most")) (fun r => r) (fun r => decide ((r.length : Int) = mo)) .sh (evIt_e (H.ev rfl) (itV_rows _ .sh)) (fun r hr => by
          have H2 := H.mk "_law_row" (.d (ofInts r))
          exact e_eq (e_len (H2.ev rfl)) (H2.ev rfl)) (fun r hr _ => (H.mk "_law_row" (.d (ofInts r))).ev rfl)
        rw [List.map_id', htt] at e3
        refine Runs.set H e3 fun σ H hσ => ?_
        have fin : ∀ {σ : St} {l : List (String × V)} (t' : List (List Int)), Has σ l → l.lookup "_law_count" = some (.d (.int c)) → l.lookup "_law_table_here" = some (.d (ofRows t')) → (∀ r ∈ t', r ∈ t) → t'.length ≤ 128 → Runs (mkC L (n + 2)) (.cons (.ret (.tup (.cons (.name "_law_count") (.cons (.name "_law_table_here") .nil)))) .nil) σ (fun _ fl => ∃ r, fl = .ret r ∧ IsTb r) := fun t' H a b ht' hl' => by
          obtain ⟨m2, e4⟩ := e_pair (H.ev (C := mkC L (n + 2)) a) (H.ev b)
          exact Runs.ret e4 ⟨_, rfl, c, t', rfl, by omega, by omega, hl', fun r hr => let ⟨q1, q2⟩ := g3 r (ht' r hr); ⟨by omega, q2⟩⟩
        refine Runs.ite (e_eq (H.ev rfl) (e_int 3)) (fun _ => ?_) fun _ => Runs.nil (fin tt H rfl rfl hsub hlen)
        refine Runs.popR H hσ hm3 (e_mod (H.ev rfl) (e_lenR (H.ev rfl)) (by omega)) (Int.emod_nonneg _ (by omega)) (Int.emod_lt_of_pos _ (by omega)) fun σ H _ => Runs.nil (fin _ H rfl rfl (fun r hr => hsub r (List.mem_of_mem_eraseIdx hr)) (Nat.le_trans (List.length_eraseIdx_le ..) hlen))

theorem Srt.affine {c a b : Int} {r : List Int} (h : Srt c r) (ha : 0 ≤ a) (hb : 0 < b) : Srt (a + b * c) (r.map fun x => a + b * x) := by
  refine ⟨?_, fun x hx => ?_⟩
  · rw [List.pairwise_map]
    refine h.1.imp fun {x y} q => ?_
    have := Int.mul_lt_mul_of_pos_left q hb
    omega
  · obtain ⟨y, hy, rfl⟩ := List.mem_map.mp hx
    obtain ⟨h0, h1⟩ := h.2 y hy
    have q1 := Int.mul_nonneg (Int.le_of_lt hb) h0
    have q2 := Int.mul_lt_mul_of_pos_left h1 hb
    omega
theorem upTo_sorted (c : Nat) : (upTo c).Pairwise (· < ·) := by
  unfold upTo
  rw [List.pairwise_map]
  exact List.pairwise_lt_range.imp fun {a b} h => by omega

theorem table_spec {L : List (String × Fn)} (lib : Lib L) (n : Nat) (s : List Int) (hs : s.length ≤ 63) : ∃ r, runF (mkC L (n + 3)) l_table [.d (ofInts s)] = .ok r ∧ IsTb r := by
  unfold l_table
  refine fn_run rfl fun σ H => ?_
  refine Runs.set H (e_mod (ev_cell lib (H.ev rfl) (e_int 0) (by decide)) (e_int 9) (by decide)) fun σ H _ => ?_
  refine Runs.set H (ev_cell lib (H.ev rfl) (e_int 1) (by decide)) fun σ H _ => ?_
  generalize cellAt s 0 % 9 = kind at H
  generalize cellAt s 1 = more at H
  refine Runs.ite (e_eq (H.ev rfl) (e_int 4)) (fun _ => ?_) fun _ => Runs.nil ?_
  · have a1 := Int.emod_nonneg more (show (12 : Int) ≠ 0 by decide)
    have a2 := Int.emod_lt_of_pos more (show (0 : Int) < 12 by decide)
    have a3 := Int.emod_nonneg (more / 12) (show (4 : Int) ≠ 0 by decide)
    obtain ⟨d, hd⟩ : ∃ d : Nat, 7 + more % 12 = d := ⟨(7 + more % 12).toNat, by omega⟩
    refine Runs.set H (e_add (e_int 7) (e_mod (H.ev rfl) (e_int 12) (by decide))) fun σ H _ => ?_
    rw [hd] at H
    refine Runs.set H (e_add (e_int 1) (e_mod (e_div (H.ev rfl) (e_int 12) (by decide) (by decide)) (e_int 4) (by decide))) fun σ H _ => ?_
    obtain ⟨m1, e1, _⟩ := e_filR (C := mkC L (n + 3)) (σ := σ) (g := PyData.int) (l := upTo d) (z := "_law_thing") (it := .r1 (.name "_law_count")) (a := .list (.cons (.name "_law_thing") .nil)) (c := .cmp .eq (.bin .mod (.name "_law_thing") (.name "_law_step")) (.int 0)) (fun i => [i]) (fun i => decide (i % (1 + more / 12 % 4) = 0)) .deep (evIt_r (H.ev rfl) (by omega)) (fun i _ => by
      have H2 := H.mk "_law_thing" (.d (.int i))
      exact e_eq (e_mod (H2.ev rfl) (H2.ev rfl) (by omega)) (e_int 0)) (fun i _ _ => e_one ((H.mk "_law_thing" (.d (.int i))).ev rfl))
    obtain ⟨m2, e2⟩ := e_pair (H.ev (C := mkC L (n + 3)) (x := "_law_count") rfl) e1
    refine Runs.ret e2 ⟨_, rfl, d, _, rfl, by omega, by omega, ?_, fun r hr => ?_⟩
    · rw [List.length_map]
      have := List.length_filter_le (fun i => decide (i % (1 + more / 12 % 4) = 0)) (upTo d)
      rw [upTo_len] at this; omega
    · obtain ⟨i, hi, rfl⟩ := List.mem_map.mp hr
      have := mem_upTo.mp (List.mem_filter.mp hi).1
      exact ⟨by simp, by simp, fun x hx => by rw [List.mem_singleton.mp hx]; omega⟩
  · refine Runs.ite (e_eq (H.ev rfl) (e_int 5)) (fun _ => ?_) fun _ => Runs.nil ?_
    · have a1 := Int.emod_nonneg more (show (6 : Int) ≠ 0 by decide)
      have a2 := Int.emod_lt_of_pos more (show (0 : Int) < 6 by decide)
      obtain ⟨d, hd⟩ : ∃ d : Nat, 7 + more % 6 = d := ⟨(7 + more % 6).toNat, by omega⟩
      refine Runs.set H (e_add (e_int 7) (e_mod (H.ev rfl) (e_int 6) (by decide))) fun σ H _ => ?_
      rw [hd] at H
      obtain ⟨m1, e1, _⟩ := e_compR (C := mkC L (n + 3)) (σ := σ) (g := PyData.int) (l := upTo d) (z := "_law_gone") (it := .r1 (.name "_law_count")) (a := .compif (.name "_law_thing") "_law_thing" (.r1 (.name "_law_count")) (.cmp .ne (.name "_law_thing") (.name "_law_gone"))) (fun g => (upTo d).filter fun i => !decide (i = g)) .deep (evIt_r (H.ev rfl) (by omega)) (fun g _ => by
        have H2 := H.mk "_law_gone" (.d (.int g))
        exact ev_filter (fun i => !decide (i = g)) (evIt_r (H2.ev rfl) (by omega)) fun i _ => by
          have H3 : Has (upd (upd σ "_law_gone" (mk (.d (.int g)))) "_law_thing" (sI i)) _ := H2.upd "_law_thing" (.d (.int i)) .deep
          exact e_ne (H3.ev rfl) (H3.ev rfl))
      obtain ⟨m2, e2⟩ := e_pair (H.ev (C := mkC L (n + 3)) (x := "_law_count") rfl) e1
      refine Runs.ret e2 ⟨_, rfl, d, _, rfl, by omega, by omega, by rw [List.length_map, upTo_len]; omega, fun r hr => ?_⟩
      obtain ⟨g, _, rfl⟩ := List.mem_map.mp hr
      refine ⟨?_, (upTo_sorted d).filter _, fun x hx => ?_⟩
      · have := List.length_filter_le (fun i => !decide (i = g)) (upTo d)
        rw [upTo_len] at this; omega
      · have := mem_upTo.mp (List.mem_filter.mp hx).1
        omega
    · obtain ⟨⟨rv, rm⟩, e1, c, t, hr, h0, h1, h2, h3⟩ := ev_fnE (σ := σ) (n := n + 2) lib.few (es := .cons (.name "_law_script") .nil) (evs_cons (H.ev rfl) evs_nil) rfl (few_spec lib n s hs)
      cases hr
      refine Runs.set H e1 fun σ H hσ => ?_
      refine Runs.set H (ev_cell lib (H.ev rfl) (e_int 12) (by decide)) fun σ' H hσ' => ?_
      generalize cellAt s 12 = far at H
      have made : ∀ {σ : St} {l : List (String × V)}, Has σ l → l.lookup "_law_made" = some (.d (.tuple [.int c, ofRows t])) → ev (mkC L (n + 3)) (.sub (.name "_law_made") (.int 0)) σ = .ok (sI c) ∧ ev (mkC L (n + 3)) (.sub (.name "_law_made") (.int 1)) σ = .ok (.d (ofRows t), .sh) := fun H a => ⟨e_fst (m := .sh) (H.ev a) (e_int 0), e_snd (m := .sh) (H.ev a) (e_int 1)⟩
      obtain ⟨d1, d2⟩ := made H rfl
      refine Runs.ite (e_or (e_ne (e_mod (H.ev rfl) (e_int 3) (by decide)) (e_int 1)) fun _ => e_or (e_gt (e_lenR d2) (e_int 8)) fun _ => e_gt d1 (e_int 9)) (fun _ => ?_) fun q => Runs.nil ?_
      · obtain ⟨m, e⟩ := H "_law_made" _ rfl
        exact Runs.retn e ⟨_, rfl, c, t, rfl, h0, h1, h2, h3⟩
      · have hc9 : c ≤ 9 := by
          have := (Bool.or_eq_false_iff.mp (Bool.or_eq_false_iff.mp q).2).2
          have := of_decide_eq_false this
          omega
        have ht8 : t.length ≤ 8 := by
          have := (Bool.or_eq_false_iff.mp (Bool.or_eq_false_iff.mp q).2).1
          have := of_decide_eq_false this
          omega
        clear q d1 d2
        refine Runs.set H (e_add (e_int 1) (e_mod (e_div (H.ev rfl) (e_int 3) (by decide) (by decide)) (e_int 9) (by decide))) fun σ H _ => ?_
        refine Runs.set H (e_mod (e_div (H.ev rfl) (e_int 27) (by decide) (by decide)) (e_int 9) (by decide)) fun σ H _ => ?_
        have b1 := Int.emod_nonneg (far / 3) (show (9 : Int) ≠ 0 by decide)
        have b2 := Int.emod_lt_of_pos (far / 3) (show (0 : Int) < 9 by decide)
        have b3 := Int.emod_nonneg (far / 27) (show (9 : Int) ≠ 0 by decide)
        have b4 := Int.emod_lt_of_pos (far / 27) (show (0 : Int) < 9 by decide)
        generalize hst : 1 + far / 3 % 9 = st at H
        generalize hfi : far / 27 % 9 = fi at H
        refine Runs.set H e_nilR0 fun σ H hσ => ?_
        refine Runs.for (g := ofInts) (xs := t) (fun pre σ => Has σ [("_law_table_here", .d (ofRows (pre.map fun r => r.map fun x => fi + st * x))), ("_law_made", .d (.tuple [.int c, ofRows t])), ("_law_step", .d (.int st)), ("_law_first", .d (.int fi))] ∧ σ "_law_table_here" = some (.d (ofRows (pre.map fun r => r.map fun x => fi + st * x)), .deep)) (evIt_e (made H rfl).2 (itV_rows t .sh)) (fun σ0 h hh => ⟨(h _ H).sub ⟨rfl, rfl, rfl, rfl, trivial⟩, (hh _ (by simp [fvIt, fv])).trans hσ⟩) ?_ ?_
        · rintro pre y post hl σ ⟨H, hσ⟩
          have hp : pre.length < t.length := by rw [hl, List.length_append, List.length_cons]; omega
          have H1 := H.mk "_law_choice" (.d (ofInts y))
          refine Runs.appR H1 (t := pre.map fun r => r.map fun x => fi + st * x) (m := .deep) ((if_neg (by decide)).trans hσ) (by decide) (e_compI (g := PyData.int) (fun x => fi + st * x) (evIt_e (H1.ev rfl) (itV_ints y .sh)) fun i _ => ?_) (by rw [List.length_map]; omega) fun σ H hσ _ => Runs.nil ?_
          · have H2 := H1.mk "_law_thing" (.d (.int i))
            exact e_add (H2.ev rfl) (e_mul (H2.ev rfl) (H2.ev rfl) (by omega))
          · have e : (pre ++ [y]).map (fun r => r.map fun x => fi + st * x) = pre.map (fun r => r.map fun x => fi + st * x) ++ [y.map fun x => fi + st * x] := by rw [List.map_append]; rfl
            show Has σ _ ∧ _
            rw [e]
            exact ⟨H.sub ⟨rfl, rfl, rfl, rfl, trivial⟩, hσ⟩
        · rintro σ ⟨H, _⟩
          obtain ⟨m2, e2⟩ := e_pair (e_add (H.ev (C := mkC L (n + 3)) (x := "_law_first") rfl) (e_mul (H.ev (x := "_law_step") rfl) (made H rfl).1 (by omega))) (H.ev (x := "_law_table_here") rfl)
          have q1 := Int.mul_nonneg (show 0 ≤ st by omega) h0
          have q2 : st * c ≤ 9 * 9 := Int.mul_le_mul (by omega) hc9 h0 (by decide)
          refine Runs.ret e2 ⟨_, rfl, _, _, rfl, by omega, by omega, by rw [List.length_map]; omega, fun r hr => ?_⟩
          obtain ⟨r', hr', rfl⟩ := List.mem_map.mp hr
          obtain ⟨q3, q4⟩ := h3 r' hr'
          exact ⟨by rw [List.length_map]; omega, q4.affine (by omega) (by omega)⟩

/-! ## the exchanges -/
noncomputable def exchF (one : List Int) (o x : Int) : List Int := sortI (one.filter (fun y => !decide (y = o)) ++ [x])
noncomputable def canF (t : List (List Int)) (one other : List Int) (x : Int) : Bool := one.any fun o => !decide (o ∈ other) && decide (exchF one o x ∈ t)
noncomputable def faultF (c : Nat) (t : List (List Int)) : Option (List Int × List Int × Int) :=
  t.findSome? fun one => (upTo c).findSome? fun x => if x ∈ one then none else t.findSome? fun other => if (decide (x ∈ other) && !canF t one other x) = true then some (one, other, x) else none

theorem any_find {α : Type} (p : α → Bool) (l : List α) : l.findSome? (fun x => if p x = true then some () else none) = if l.any p = true then some () else none := by
  induction l with
  | nil => rfl
  | cons a l ih =>
    rw [List.findSome?_cons, List.any_cons]
    cases p a with
    | true => rfl
    | false => simpa using ih

theorem ev_exch {C : Calls} {σ : St} {c : List Int} {o t : Int} {m : Mode} {a b d : E} {z : String} {l : List (String × V)} (H : Has σ l) (hz : z ≠ "x") (ha : ev C a σ = .ok (.d (ofInts c), m)) (hd : ev C d σ = .ok (sI t)) (hb : ∀ i : Int, ev C b (upd σ z (sI i)) = .ok (sI o)) (h : c.length < 63) :
    ev C (.bi1 .sorted (.bin .add (.compif (.name z) z (.e a) (.cmp .ne (.name z) b)) (.list (.cons d .nil)))) σ = .ok (.d (ofInts (exchF c o t)), .deep) := by
  have hl : (c.filter fun x => !decide (x = o)).length ≤ c.length := List.length_filter_le ..
  refine e_sorted (e_addI (ev_filter (fun i => !decide (i = o)) (evIt_e ha (itV_ints c m)) fun i _ => e_ne (ev_nm (p := sI i) (if_pos rfl) rfl) (hb i)) (e_one hd) (by rw [List.length_singleton]; omega)) ?_
  rw [List.length_append, List.length_singleton]; omega
theorem exchanged_spec (C : Calls) (c : List Int) (o t : Int) (h : c.length < 63) : runF C p_exchanged [.d (ofInts c), .d (.int o), .d (.int t)] = .ok (.d (ofInts (exchF c o t)), .deep) := by
  unfold p_exchanged
  exact fn_is rfl fun σ H => Runs.ret (ev_exch H (by decide) (H.ev rfl) (H.ev rfl) (fun i => (H.upd "one" (.d (.int i)) .deep).ev rfl) h) rfl

theorem can_spec (C : Calls) (t : List (List Int)) (one other : List Int) (x : Int) (h : one.length < 63) : runF C l_can [.d (ofRows t), .d (ofInts one), .d (ofInts other), .d (.int x)] = .ok (sB (canF t one other x)) := by
  unfold l_can canF
  refine fn_is rfl fun σ H => ?_
  refine Runs.seek (g := PyData.int) (xs := one) (fun σ => Has σ [("_law_table_here", .d (ofRows t)), ("_law_one", .d (ofInts one)), ("_law_other", .d (ofInts other)), ("_law_thing", .d (.int x))]) (fun o => if (!decide (o ∈ other) && decide (exchF one o x ∈ t)) = true then some () else none) (fun _ => sB true) (evIt_e (H.ev rfl) (itV_ints one .sh)) (fun σ0 h _ => (h _ H).sub ⟨rfl, rfl, rfl, rfl, trivial⟩) (fun o ho σ H => ?_) (fun q σ' _ => ?_) fun _ q σ' => ?_
  · have H1 := H.mk "_law_out" (.d (.int o))
    refine Runs.set H1 (ev_exch H1 (by decide) (H1.ev rfl) (H1.ev rfl) (fun i => (H1.upd "_law_left" (.d (.int i)) .deep).ev rfl) h) fun σ H2 _ => ?_
    refine Runs.ite (e_and (e_nin (H2.ev rfl) (H2.ev rfl)) fun _ => e_inR (H2.ev rfl) (H2.ev rfl)) (fun q => Runs.ret (e_bool true) ?_) fun q => Runs.nil (Runs.nil ?_)
    · exact Cont.ret (Sk.ret (q := ()) (if_pos q))
    · exact Sk.next (if_neg (by rw [q]; decide)) (H2.sub ⟨rfl, rfl, rfl, rfl, trivial⟩)
  · rw [any_find] at q
    refine Runs.ret (e_bool false) ?_
    by_cases e : (one.any fun o => !decide (o ∈ other) && decide (exchF one o x ∈ t)) = true
    · rw [if_pos e] at q; cases q
    · rw [Bool.eq_false_iff.mpr e]
  · rw [any_find] at q
    by_cases e : (one.any fun o => !decide (o ∈ other) && decide (exchF one o x ∈ t)) = true
    · rw [e]
    · rw [if_neg e] at q; cases q

theorem lfault_spec {L : List (String × Fn)} (lib : Lib L) (n : Nat) (c : Nat) (t : List (List Int)) (hc : c ≤ 1000) (h : ∀ r ∈ t, r.length < 63) : runF (mkC L (n + 1)) l_fault [.d (.int c), .d (ofRows t)] = .ok (match faultF c t with | none => (.d .none, .deep) | some (a, b, x) => (.d (.tuple [ofInts a, ofInts b, .int x]), .sh)) := by
  unfold l_fault faultF
  refine fn_is rfl fun σ H => ?_
  let rv : List Int × List Int × Int → V × Mode := fun q => (.d (.tuple [ofInts q.1, ofInts q.2.1, .int q.2.2]), .sh)
  let Inv : St → Prop := fun σ => Has σ [("_law_table_here", .d (ofRows t)), ("_law_count", .d (.int c))]
  refine Runs.seek (g := ofInts) (xs := t) Inv (fun one => (upTo c).findSome? fun x => if x ∈ one then none else t.findSome? fun other => if (decide (x ∈ other) && !canF t one other x) = true then some (one, other, x) else none) rv (evIt_e (H.ev rfl) (itV_rows t .sh)) (fun σ0 h _ => (h _ H).sub ⟨rfl, rfl, trivial⟩) (fun one hone σ H => ?_) (fun q σ' _ => ?_) fun q hq σ' => ?_
  · have H1 := H.mk "_law_one" (.d (ofInts one))
    refine Runs.seek (g := PyData.int) (xs := upTo c) (fun σ => Has σ [("_law_table_here", .d (ofRows t)), ("_law_count", .d (.int c)), ("_law_one", .d (ofInts one))]) (fun x => if x ∈ one then none else t.findSome? fun other => if (decide (x ∈ other) && !canF t one other x) = true then some (one, other, x) else none) rv (evIt_r (H1.ev rfl) (by omega)) (fun σ0 h _ => (h _ H1).sub ⟨rfl, rfl, rfl, trivial⟩) (fun x hx σ H => ?_) (fun q σ' H => Runs.nil ?_) fun q hq σ' => ?_
    · have H2 := H.mk "_law_thing" (.d (.int x))
      refine Runs.ite (e_nin (H2.ev rfl) (H2.ev rfl)) (fun q => ?_) fun q => Runs.nil (Runs.nil ?_)
      · have hx' : x ∉ one := by simpa using q
        refine Runs.seek (g := ofInts) (xs := t) (fun σ => Has σ [("_law_table_here", .d (ofRows t)), ("_law_count", .d (.int c)), ("_law_one", .d (ofInts one)), ("_law_thing", .d (.int x))]) (fun other => if (decide (x ∈ other) && !canF t one other x) = true then some (one, other, x) else none) rv (evIt_e (H2.ev rfl) (itV_rows t .sh)) (fun σ0 h _ => (h _ H2).sub ⟨rfl, rfl, rfl, rfl, trivial⟩) (fun other ho σ H => ?_) (fun q σ' H => Runs.nil (Runs.nil ?_)) fun q hq σ' => ?_
        · have H3 := H.mk "_law_other" (.d (ofInts other))
          refine Runs.ite (e_and (e_in (H3.ev rfl) (H3.ev rfl)) fun _ => ev_not (ev_fn lib.can (evs_cons (H3.ev rfl) (evs_cons (H3.ev rfl) (evs_cons (H3.ev rfl) (evs_cons (H3.ev rfl) evs_nil)))) rfl (can_spec _ t one other x (h one hone)))) (fun q => ?_) fun q => Runs.nil (Runs.nil ?_)
          · have e3 : ev (mkC L (n + 1)) (.tup (.cons (.name "_law_one") (.cons (.name "_law_other") (.cons (.name "_law_thing") .nil)))) (upd σ "_law_other" (mk (.d (ofInts other)))) = .ok (rv (one, other, x)) := by
              exact e_tup3 (m1 := .sh) (m2 := .sh) (m3 := .deep) (H3.ev rfl) (H3.ev rfl) (H3.ev rfl)
            exact Runs.ret e3 (Cont.ret (Sk.ret (q := (one, other, x)) (if_pos q)))
          · exact Sk.next (if_neg (by rw [q]; decide)) (H3.sub ⟨rfl, rfl, rfl, rfl, trivial⟩)
        · exact Sk.next ((if_neg hx').trans q) (H.sub ⟨rfl, rfl, rfl, trivial⟩)
        · exact Cont.ret (Sk.ret ((if_neg hx').trans hq))
      · have hx' : x ∈ one := by simpa using q
        exact Sk.next (if_pos hx') (H2.sub ⟨rfl, rfl, rfl, trivial⟩)
    · exact Sk.next q (H.sub ⟨rfl, rfl, trivial⟩)
    · exact Sk.ret hq
  · rw [q]; exact Runs.ret e_none rfl
  · rw [hq]

/-- the known ones, as they stand in the dict -/
def Kn (pre : List (List Int)) (v : V) : Prop := (pre = [] ∧ v = .dic0) ∨ ∃ ks, v = .dicT ks ∧ ks.length ≤ pre.length ∧ ∀ k, k ∈ ks ↔ k ∈ pre
theorem keyT_tup (r : List Int) : keyT (ofTup r) = some r := intsOf_map r
theorem Kn.add {pre : List (List Int)} {v : V} {σ : St} {z : String} (K : Kn pre v) (r : List Int) (hl : pre.length ≤ 1000) : ∃ v', setV σ z v (ofTup r) = .ok (upd σ z (v', .deep), .next) ∧ Kn (pre ++ [r]) v' := by
  rcases K with ⟨rfl, rfl⟩ | ⟨ks, rfl, h1, h2⟩
  · refine ⟨.dicT [r], ?_, .inr ⟨[r], rfl, Nat.le_refl _, fun k => Iff.rfl⟩⟩
    simp only [setV, keyT_tup, show keyI (ofTup r) = none from rfl]
  · refine ⟨.dicT (if r ∈ ks then ks else ks ++ [r]), ?_, .inr ⟨_, rfl, ?_, fun k => ?_⟩⟩
    · show (match keyT (ofTup r) with | some i => if ks.length ≤ lim then Out.ok (upd σ z (V.dicT (if i ∈ ks then ks else ks ++ [i]), Mode.deep), Flw.next) else .bad | none => .bad) = _
      rw [keyT_tup]
      show (if ks.length ≤ lim then _ else _) = _
      rw [if_pos (by unfold lim; omega)]
    · rw [List.length_append, List.length_singleton]
      by_cases e : r ∈ ks
      · rw [if_pos e]; omega
      · rw [if_neg e, List.length_append, List.length_singleton]; omega
    · by_cases e : r ∈ ks
      · rw [if_pos e, h2, List.mem_append, List.mem_singleton]
        exact ⟨.inl, fun q => q.elim id fun q => q ▸ (h2 r).mp e⟩
      · rw [if_neg e, List.mem_append, List.mem_append, h2]
theorem known_spec (C : Calls) (t : List (List Int)) (hl : t.length ≤ 1000) : ∃ r, runF C p_known_of [.d (ofRows t)] = .ok r ∧ ∃ v, r = (v, .deep) ∧ Kn t v := by
  unfold p_known_of
  refine fn_run rfl fun σ H => ?_
  refine Runs.set H e_dict fun σ H hσ => ?_
  refine Runs.for (g := ofInts) (xs := t) (fun pre σ => ∃ v, σ "known" = some (v, .deep) ∧ Kn pre v) (evIt_e (H.ev rfl) (itV_rows t .sh)) (fun σ0 _ hh => ⟨.dic0, (hh _ (by simp [fvIt, fv])).trans hσ, .inl ⟨rfl, rfl⟩⟩) ?_ ?_
  · rintro pre y post hl' σ ⟨v, hv, K⟩
    have hp : pre.length < t.length := by rw [hl', List.length_append, List.length_cons]; omega
    obtain ⟨v', h1, h2⟩ := K.add (σ := upd σ "choice" (mk (.d (ofInts y)))) (z := "known") y (by omega)
    have hv' : upd σ "choice" (mk (.d (ofInts y))) "known" = some (v, .deep) := (if_neg (by decide)).trans hv
    refine Runs.next (σ' := upd (upd σ "choice" (mk (.d (ofInts y)))) "known" (v', .deep)) ?_ (Runs.nil ⟨v', upd_hd _ _ _, h2⟩)
    simp only [ex, e_tuple (C := C) (ev_nm (C := C) (σ := upd σ "choice" (mk (.d (ofInts y)))) (z := "choice") (p := (.d (ofInts y), .sh)) (if_pos rfl) rfl), Out.ok_bind, hv']
    exact h1
  · rintro σ' ⟨v, hv, K⟩
    exact Runs.retn hv ⟨_, rfl, v, rfl, K⟩

theorem goes_spec {L : List (String × Fn)} (lib : Lib L) (n : Nat) (t : List (List Int)) (v : V) (K : Kn t v) (one other : List Int) (x : Int) (ht : t ≠ []) (h : one.length < 63) : runF (mkC L (n + 1)) p_goes [v, .d (ofInts one), .d (ofInts other), .d (.int x)] = .ok (sB (canF t one other x)) := by
  rcases K with ⟨q, _⟩ | ⟨ks, rfl, _, hk⟩
  · exact absurd q ht
  unfold p_goes canF
  refine fn_is rfl fun σ H => ?_
  refine Runs.seek (g := PyData.int) (xs := one) (fun σ => Has σ [("known", .dicT ks), ("one", .d (ofInts one)), ("other", .d (ofInts other)), ("thing", .d (.int x))]) (fun o => if (!decide (o ∈ other) && decide (exchF one o x ∈ t)) = true then some () else none) (fun _ => sB true) (evIt_e (H.ev rfl) (itV_ints one .sh)) (fun σ0 h _ => (h _ H).sub ⟨rfl, rfl, rfl, rfl, trivial⟩) (fun o ho σ H => ?_) (fun q σ' _ => ?_) fun _ q σ' => ?_
  · have H1 := H.mk "out" (.d (.int o))
    have e1 : ev (mkC L (n + 1)) (.cmp .isin (.bi1 .tuple (.call "exchanged" (.cons (.name "one") (.cons (.name "out") (.cons (.name "thing") .nil))))) (.name "known")) (upd σ "out" (mk (.d (.int o)))) = .ok (sB (decide (exchF one o x ∈ t))) := by
      refine ev_cmp (e_tuple (ev_fn lib.exch (evs_cons (H1.ev rfl) (evs_cons (H1.ev rfl) (evs_cons (H1.ev rfl) evs_nil))) rfl (exchanged_spec _ one o x h))) (H1.ev (x := "known") rfl) ?_
      show (optO (keyT (ofTup (exchF one o x))) fun i => Out.ok (decide (i ∈ ks))) = _
      rw [keyT_tup]
      exact congrArg Out.ok (decide_eq_decide.mpr (hk _))
    refine Runs.ite (e_and (e_nin (H1.ev rfl) (H1.ev rfl)) fun _ => e1) (fun q => Runs.ret (e_bool true) (Cont.ret (Sk.ret (q := ()) (if_pos q)))) fun q => Runs.nil (Runs.nil (Sk.next (if_neg (by rw [q]; decide)) (H1.sub ⟨rfl, rfl, rfl, rfl, trivial⟩)))
  · rw [any_find] at q
    refine Runs.ret (e_bool false) ?_
    by_cases e : (one.any fun o => !decide (o ∈ other) && decide (exchF one o x ∈ t)) = true
    · rw [if_pos e] at q; cases q
    · rw [Bool.eq_false_iff.mpr e]
  · rw [any_find] at q
    by_cases e : (one.any fun o => !decide (o ∈ other) && decide (exchF one o x ∈ t)) = true
    · rw [e]
    · rw [if_neg e] at q; cases q

noncomputable def fltV : Option (List Int × List Int × Int) → V × Mode
  | none => (.d .none, .deep)
  | some q => (.d (.tuple [ofInts q.1, ofInts q.2.1, .int q.2.2]), .deep)
theorem fault_spec {L : List (String × Fn)} (lib : Lib L) (n : Nat) (c : Nat) (t : List (List Int)) (hc : c ≤ 1000) (hl : t.length ≤ 1000) (h : ∀ r ∈ t, r.length < 63) : runF (mkC L (n + 2)) p_fault [.d (.int c), .d (ofRows t)] = .ok (fltV (faultF c t)) := by
  unfold p_fault faultF
  refine fn_is rfl fun σ H => ?_
  obtain ⟨_, e0, v, rfl, K⟩ := ev_fnE (σ := σ) (n := n + 1) lib.known (es := .cons (.name "table") .nil) (evs_cons (H.ev rfl) evs_nil) rfl (known_spec _ t hl)
  refine Runs.set H e0 fun σ H _ => ?_
  refine Runs.seek (g := ofInts) (xs := t) (fun σ => Has σ [("table", .d (ofRows t)), ("count", .d (.int c)), ("known", v)]) (fun one => (upTo c).findSome? fun x => if x ∈ one then none else t.findSome? fun other => if (decide (x ∈ other) && !canF t one other x) = true then some (one, other, x) else none) (fun q => fltV (some q)) (evIt_e (H.ev rfl) (itV_rows t .sh)) (fun σ0 h _ => (h _ H).sub ⟨rfl, rfl, rfl, trivial⟩) (fun one hone σ H => ?_) (fun q σ' _ => ?_) fun q hq σ' => ?_
  · have H1 := H.mk "one" (.d (ofInts one))
    refine Runs.seek (g := PyData.int) (xs := upTo c) (fun σ => Has σ [("table", .d (ofRows t)), ("count", .d (.int c)), ("known", v), ("one", .d (ofInts one))]) (fun x => if x ∈ one then none else t.findSome? fun other => if (decide (x ∈ other) && !canF t one other x) = true then some (one, other, x) else none) (fun q => fltV (some q)) (evIt_r (H1.ev rfl) (by omega)) (fun σ0 h _ => (h _ H1).sub ⟨rfl, rfl, rfl, rfl, trivial⟩) (fun x hx σ H => ?_) (fun q σ' H => Runs.nil ?_) fun q hq σ' => ?_
    · have H2 := H.mk "thing" (.d (.int x))
      refine Runs.ite (e_nin (H2.ev rfl) (H2.ev rfl)) (fun q => ?_) fun q => Runs.nil (Runs.nil ?_)
      · have hx' : x ∉ one := by simpa using q
        refine Runs.seek (g := ofInts) (xs := t) (fun σ => Has σ [("table", .d (ofRows t)), ("count", .d (.int c)), ("known", v), ("one", .d (ofInts one)), ("thing", .d (.int x))]) (fun other => if (decide (x ∈ other) && !canF t one other x) = true then some (one, other, x) else none) (fun q => fltV (some q)) (evIt_e (H2.ev rfl) (itV_rows t .sh)) (fun σ0 h _ => (h _ H2).sub ⟨rfl, rfl, rfl, rfl, rfl, trivial⟩) (fun other ho σ H => ?_) (fun q σ' H => Runs.nil (Runs.nil ?_)) fun q hq σ' => ?_
        · have H3 := H.mk "other" (.d (ofInts other))
          refine Runs.ite (e_and (e_in (H3.ev rfl) (H3.ev rfl)) fun _ => ev_not (ev_fn lib.goes (evs_cons (H3.ev rfl) (evs_cons (H3.ev rfl) (evs_cons (H3.ev rfl) (evs_cons (H3.ev rfl) evs_nil)))) rfl (goes_spec lib n t v K one other x (List.ne_nil_of_mem hone) (h one hone)))) (fun q => ?_) fun q => Runs.nil (Runs.nil ?_)
          · exact Runs.ret (e_tup3 (e_list (H3.ev rfl)) (e_list (H3.ev rfl)) (H3.ev rfl)) (Cont.ret (Sk.ret (q := (one, other, x)) (if_pos q)))
          · exact Sk.next (if_neg (by rw [q]; decide)) (H3.sub ⟨rfl, rfl, rfl, rfl, rfl, trivial⟩)
        · exact Sk.next ((if_neg hx').trans q) (H.sub ⟨rfl, rfl, rfl, rfl, trivial⟩)
        · exact Cont.ret (Sk.ret ((if_neg hx').trans hq))
      · have hx' : x ∈ one := by simpa using q
        exact Sk.next (if_pos hx') (H2.sub ⟨rfl, rfl, rfl, rfl, trivial⟩)
    · exact Sk.next q (H.sub ⟨rfl, rfl, rfl, trivial⟩)
    · exact Sk.ret hq
  · rw [q]; exact Runs.ret e_none rfl
  · rw [hq]

theorem row_is_spec {L : List (String × Fn)} (lib : Lib L) (n : Nat) (a : List Int) (h : a.length ≤ 1000) : runF (mkC L (n + 1)) l_row_is [.d (ofInts a), .d (ofInts a)] = .ok (sB true) := by
  unfold l_row_is
  refine fn_is rfl fun σ H => ?_
  refine Runs.no (ev_or_f (ev_not (t := true) (e_isi (H.ev rfl) rfl)) ((e_ne (e_len (H.ev rfl)) (e_len (H.ev rfl))).trans (by rw [decide_eq_true rfl]; rfl))) ?_
  refine Runs.for (g := PyData.int) (xs := upTo a.length) (fun _ σ => Has σ [("_law_found", .d (ofInts a)), ("_law_due", .d (ofInts a))]) (evIt_r (e_len (H.ev rfl)) (by omega)) (fun σ0 h _ => (h _ H).sub ⟨rfl, rfl, trivial⟩) (fun pre y post hl σ H => ?_) fun σ' _ => Runs.ret (e_bool true) rfl
  obtain ⟨hy, hp⟩ := upTo_pre hl
  have H1 := H.mk "_law_k" (.d (.int y))
  have g : a[y.toNat]? = some (a[y.toNat]?.getD 0) := getD_some (by omega)
  have i1 := e_idx (H1.ev (C := mkC L (n + 1)) (x := "_law_found") rfl) (H1.ev (x := "_law_k") rfl) (by omega) g
  have i2 := e_idx (H1.ev (C := mkC L (n + 1)) (x := "_law_due") rfl) (H1.ev (x := "_law_k") rfl) (by omega) g
  exact Runs.no (ev_or_f (ev_not (t := true) (ev_fn lib.whole (evs_cons i1 evs_nil) rfl (whole_spec _ _))) ((e_ne i1 i2).trans (by rw [decide_eq_true rfl]; rfl))) (Runs.nil (H1.sub ⟨rfl, rfl, trivial⟩))

theorem low_flt (q : List Int × List Int × Int) : Low 3 (.tuple [ofInts q.1, ofInts q.2.1, .int q.2.2]) := .tuple fun x hx => by
  rcases List.mem_cons.mp hx with rfl | hx
  · exact low_ints _ 0
  rcases List.mem_cons.mp hx with rfl | hx
  · exact low_ints _ 0
  · rw [List.mem_singleton.mp hx]; exact .int _ 1
theorem eqv_flt (q : List Int × List Int × Int) : PyData.eqv (.tuple [ofInts q.1, ofInts q.2.1, .int q.2.2]) (.tuple [ofInts q.1, ofInts q.2.1, .int q.2.2]) = true := by
  rw [PyData.eqv, PyData.eqvAll, PyData.eqvAll, PyData.eqvAll, PyData.eqvAll, eqv_ints, eqv_ints, eqv_int]; simp
theorem cmp_flt (q : List Int × List Int × Int) : cmpV .ne (.d (.tuple [ofInts q.1, ofInts q.2.1, .int q.2.2])) (.d (.tuple [ofInts q.1, ofInts q.2.1, .int q.2.2])) = .ok false ∧ cmpV .eq (.d (.tuple [ofInts q.1, ofInts q.2.1, .int q.2.2])) (.d (.tuple [ofInts q.1, ofInts q.2.1, .int q.2.2])) = .ok true := by
  have h := (low_flt q).okc
  have e := eqv_flt q
  constructor
  · show (if okc _ && okc _ then Out.ok (!PyData.eqv _ _) else .bad) = _
    rw [h, e]; rfl
  · show (if okc _ && okc _ then Out.ok (PyData.eqv _ _) else .bad) = _
    rw [h, e]; rfl

/-- one more number in a list that stands in a tuple -/
theorem Runs.appT {C : Calls} {σ : St} {l : List (String × V)} {z : String} {b : Ss} {Post : St → Flw → Prop} {a i : E} {x k : Int} {d d' : PyData} (H : Has σ l) (hz : σ z = some (.d d, .deep)) (hi : ev C i σ = .ok (sI k)) (he : elem d k ≠ none) (ha : ev C a σ = .ok (sI x)) (hm : modP (.int x) [k] d = some d')
    (kk : ∀ σ', Has σ' ((z, .d d') :: l) → σ' z = some (.d d', .deep) → Runs C b σ' Post) : Runs C (.cons (.appendAt z (.cons i .nil) a) b) σ Post := by
  refine Runs.cons (o := (upd σ z (.d d', .deep), .next)) ?_ (kk _ (H.upd z _ .deep) (upd_hd _ _ _))
  cases hd : elem d k with
  | none => exact absurd hd he
  | some y =>
    simp only [ex, hz]
    show ((((Out.ok (([] : List Int), d)).bind fun p => (ev C i σ).bind fun q => optO (asD q.1) fun k => optO (keyI k) fun k => optO (elem p.2 k) fun e => .ok (p.1 ++ [k], e)).bind fun p => (ev C a σ).bind fun r => optO (asD r.1) fun y => if sx y then optO (modP y p.1 d) fun d' => Out.ok (upd σ z (V.d d', Mode.deep), Flw.next) else .bad)) = _
    rw [hi, ha]
    show (optO (elem d k) fun e => Out.ok (([] : List Int) ++ [k], e)).bind _ = _
    rw [hd]
    show (optO (modP (.int x) [k] d) fun d' => Out.ok (upd σ z (V.d d', Mode.deep), Flw.next)) = _
    rw [hm]; rfl

theorem modP_nil {xs : List Int} {x : Int} (h : xs.length < 1000000) : modP (.int x) [] (ofInts xs) = some (ofInts (xs ++ [x])) := by
  show (if (xs.map PyData.int).length < lim then some (PyData.list (xs.map .int ++ [.int x])) else none) = _
  rw [if_pos (by rw [List.length_map]; exact h), ofInts_snoc]
theorem modP_0 {xs : List Int} {x : Int} {b d : PyData} (h : xs.length < 1000000) : modP (.int x) [0] (.tuple [ofInts xs, b, d]) = some (.tuple [ofInts (xs ++ [x]), b, d]) := by
  show ((modP (.int x) [] (ofInts xs)).map fun e' => PyData.tuple ([ofInts xs, b, d].set 0 e')) = _
  rw [modP_nil h]; rfl
theorem modP_1 {xs : List Int} {x : Int} {b d : PyData} (h : xs.length < 1000000) : modP (.int x) [1] (.tuple [b, ofInts xs, d]) = some (.tuple [b, ofInts (xs ++ [x]), d]) := by
  show ((modP (.int x) [] (ofInts xs)).map fun e' => PyData.tuple ([b, ofInts xs, d].set 1 e')) = _
  rw [modP_nil h]; rfl
theorem law_spec (s : List Int) (hs : s.length ≤ 63) : runF (mkC p_L 4) p_law [.d (ofInts s)] = .ok (sB true) := by
  have lib : Lib p_L := ⟨rfl, rfl, rfl, rfl, rfl, rfl, rfl, rfl, rfl, rfl, rfl, rfl, rfl, rfl, rfl⟩
  unfold p_law
  refine fn_is rfl fun σ H => ?_
  obtain ⟨⟨rv, rm⟩, e1, c', t0, hr, h0, h1, h2, h3⟩ := ev_fnE (σ := σ) (n := 3) lib.table (es := .cons (.name "_law_script") .nil) (evs_cons (H.ev rfl) evs_nil) rfl (table_spec lib 0 s hs)
  cases hr
  obtain ⟨c, rfl⟩ : ∃ c : Nat, c' = c := ⟨c'.toNat, by omega⟩
  refine Runs.set H e1 fun σ H _ => ?_
  refine Runs.set H (e_fst (m := .sh) (H.ev (x := "_law_made") rfl) (e_int 0)) fun σ H _ => ?_
  refine Runs.set H (e_snd (m := .sh) (H.ev (x := "_law_made") rfl) (e_int 1)) fun σ H _ => ?_
  refine Runs.iteTo (fun σ => ∃ t : List (List Int), (∀ r ∈ t, r ∈ t0) ∧ t.length ≤ 128 ∧ Has σ [("_law_table_here", .d (ofRows t)), ("_law_count", .d (.int c)), ("_law_script", .d (ofInts s))]) (e_eq (e_mod (ev_cell lib (H.ev rfl) (e_int 3) (by decide)) (e_int 2) (by decide)) (e_int 1)) (fun _ => ?_) (fun _ => Runs.nil ⟨rfl, t0, fun _ h => h, h2, H.sub ⟨rfl, rfl, rfl, trivial⟩⟩) ?_
  · obtain ⟨m, e2⟩ := e_revR (H.ev (C := mkC p_L 4) (x := "_law_table_here") rfl)
    exact Runs.set H e2 fun σ H _ => Runs.nil ⟨rfl, _, fun r hr => List.mem_reverse.mp hr, by rw [List.length_reverse]; exact h2, H.sub ⟨rfl, rfl, rfl, trivial⟩⟩
  rintro σ ⟨t, hsub, hl, H⟩
  have hlen : ∀ r ∈ t, r.length ≤ 12 := fun r hr => (h3 r (hsub r hr)).1
  have copy : ∀ {σ : St} {a : E} (t : List (List Int)), ev (mkC p_L 4) a σ = .ok (.d (ofRows t), .sh) ∨ (∃ m, ev (mkC p_L 4) a σ = .ok (.d (ofRows t), m)) → ev (mkC p_L 4) (.comp (.bi1 .list (.name "_law_choice")) "_law_choice" (.e a)) σ = .ok (.d (ofRows t), .deep) := fun {σ a} t h => by
    obtain ⟨m, h⟩ : ∃ m, ev (mkC p_L 4) a σ = .ok (.d (ofRows t), m) := h.elim (fun h => ⟨_, h⟩) id
    obtain ⟨m', e, hm, _⟩ := e_compR (C := mkC p_L 4) (σ := σ) (g := ofInts) (l := t) (z := "_law_choice") (it := .e a) (a := .bi1 .list (.name "_law_choice")) (fun r => r) .deep (evIt_e h (itV_rows t m)) fun r _ => e_list ((Has.nil.mk "_law_choice" (.d (ofInts r))).ev rfl)
    rw [List.map_id'] at e
    rw [e, hm rfl]
  have flt : ∀ {σ : St} {a b : E} (t' : List (List Int)) (m : Mode), (∀ r ∈ t', r ∈ t) → t'.length ≤ 128 → ev (mkC p_L 4) a σ = .ok (sI c) → ev (mkC p_L 4) b σ = .ok (.d (ofRows t'), m) → ev (mkC p_L 4) (.call "fault" (.cons a (.cons b .nil))) σ = .ok (fltV (faultF c t')) := fun t' m hs hl ha hb => ev_fn lib.fault (evs_cons ha (evs_cons hb evs_nil)) rfl (fault_spec lib 1 c t' (by omega) (by omega) fun r hr => by have := hlen r (hs r hr); omega)
  refine Runs.set H (copy t (.inl (H.ev rfl))) fun σ H _ => ?_
  refine Runs.set H (flt t _ (fun _ h => h) hl (H.ev rfl) (H.ev rfl)) fun σ H hf => ?_
  refine Runs.no ((e_neR (H.ev (x := "_law_handed") rfl) (H.ev (x := "_law_table_here") rfl)).trans (by rw [decide_eq_true rfl]; rfl)) ?_
  have el : ev (mkC p_L 4) (.call "_law_fault" (.cons (.name "_law_count") (.cons (.name "_law_table_here") .nil))) σ = _ := ev_fn lib.lfault (evs_cons (H.ev (x := "_law_count") rfl) (evs_cons (H.ev (x := "_law_table_here") rfl) evs_nil)) rfl (lfault_spec lib 2 c t (by omega) fun r hr => by have := hlen r hr; omega)
  cases hq : faultF c t with
  | none =>
    rw [hq] at H el
    refine Runs.set H el fun σ H _ => ?_
    exact Runs.ite (ev_cmp (H.ev (x := "_law_due") rfl) e_none rfl) (fun _ => Runs.ret (ev_cmp (t := true) (H.ev (x := "_law_found") rfl) e_none rfl) rfl) fun q => by cases q
  | some q =>
    rw [hq] at H el hf
    have hmem : q.1 ∈ t ∧ q.2.1 ∈ t := by
      obtain ⟨one, ho, q1⟩ := List.exists_of_findSome?_eq_some hq
      obtain ⟨x, hx, q2⟩ := List.exists_of_findSome?_eq_some q1
      by_cases e : x ∈ one
      · rw [if_pos e] at q2; cases q2
      rw [if_neg e] at q2
      obtain ⟨other, hot, q3⟩ := List.exists_of_findSome?_eq_some q2
      by_cases e' : (decide (x ∈ other) && !canF t one other x) = true
      · rw [if_pos e'] at q3; cases q3; exact ⟨ho, hot⟩
      · rw [if_neg e'] at q3; cases q3
    refine Runs.next (σ' := upd (consume σ ["_law_count", "_law_table_here"] .sh) "_law_due" (V.d (.tuple [ofInts q.1, ofInts q.2.1, .int q.2.2]), Mode.sh)) (by simp only [ex, el, Out.ok_bind]; rfl) ?_
    have H' : Has (upd (consume σ ["_law_count", "_law_table_here"] .sh) "_law_due" (V.d (.tuple [ofInts q.1, ofInts q.2.1, .int q.2.2]), Mode.sh)) _ := (H.consume ["_law_count", "_law_table_here"] .sh).upd "_law_due" (.d (.tuple [ofInts q.1, ofInts q.2.1, .int q.2.2])) .sh
    have hf' : upd (consume σ ["_law_count", "_law_table_here"] .sh) "_law_due" (V.d (.tuple [ofInts q.1, ofInts q.2.1, .int q.2.2]), Mode.sh) "_law_found" = some (fltV (some q)) := (if_neg (by decide)).trans ((consume_has.2 "_law_found" (by decide)).trans hf)
    clear H hf el
    generalize upd (consume σ ["_law_count", "_law_table_here"] .sh) "_law_due" (V.d (.tuple [ofInts q.1, ofInts q.2.1, .int q.2.2]), Mode.sh) = σ at H' hf'
    refine Runs.no (ev_cmp (t := false) (H'.ev (x := "_law_due") rfl) e_none rfl) ?_
    refine Runs.no (ev_or_f (ev_not (t := true) (e_isi (H'.ev (x := "_law_found") rfl) rfl)) ((e_ne (x := 3) ((ev_b1 (H'.ev (x := "_law_found") rfl)).trans rfl) (e_int 3)).trans rfl)) ?_
    have ri : ∀ {σ : St} {a b : E} {m m' : Mode} (r : List Int), r ∈ t → ev (mkC p_L 4) a σ = .ok (.d (ofInts r), m) → ev (mkC p_L 4) b σ = .ok (.d (ofInts r), m') → ev (mkC p_L 4) (.not (.call "_law_row_is" (.cons a (.cons b .nil)))) σ = .ok (sB false) := fun r hr ha hb => ev_not (t := true) (ev_fn lib.rowis (evs_cons ha (evs_cons hb evs_nil)) rfl (row_is_spec lib 2 r (by have := hlen r hr; omega)))
    refine Runs.no (ev_or_f (ri q.1 hmem.1 (e_fst (H'.ev (x := "_law_found") rfl) (e_int 0)) (e_fst (H'.ev (x := "_law_due") rfl) (e_int 0))) (ri q.2.1 hmem.2 (e_snd (H'.ev (x := "_law_found") rfl) (e_int 1)) (e_snd (H'.ev (x := "_law_due") rfl) (e_int 1)))) ?_
    obtain ⟨mr, er⟩ := e_revR (H'.ev (C := mkC p_L 4) (x := "_law_table_here") rfl)
    refine Runs.expr H' (flt t.reverse _ (fun r hr => List.mem_reverse.mp hr) (by rw [List.length_reverse]; exact hl) (H'.ev rfl) (copy t.reverse (.inr ⟨_, er⟩))) fun σ H hh => ?_
    have hf := (hh "_law_found" (by decide)).trans hf'
    refine Runs.no (ev_cmp (H.ev (x := "_law_found") rfl) (H.ev (x := "_law_due") rfl) (cmp_flt q).1) ?_
    have hl12 := hlen q.1 hmem.1
    have hl12' := hlen q.2.1 hmem.2
    refine Runs.appT (d' := .tuple [ofInts (q.1 ++ [(c : Int)]), ofInts q.2.1, .int q.2.2]) H hf (e_int 0) (fun h => by cases h) (H.ev (x := "_law_count") rfl) ?_ fun σ H hf => ?_
    · exact modP_0 (by omega)
    refine Runs.appT (d' := .tuple [ofInts (q.1 ++ [(c : Int)]), ofInts (q.2.1 ++ [(c : Int)]), .int q.2.2]) H hf (e_int 1) (fun h => by cases h) (H.ev (x := "_law_count") rfl) ?_ fun σ H hf => ?_
    · exact modP_1 (by omega)
    have f2 := e_thd (C := mkC p_L 4) (H.ev (x := "_law_found") rfl) (e_int 2)
    refine Runs.no (ev_or_f (ev_not (t := true) (ev_fn lib.whole (evs_cons f2 evs_nil) rfl (whole_spec _ _))) (ev_or_f ((e_ne f2 (e_thd (H.ev (x := "_law_due") rfl) (e_int 2))).trans (by rw [decide_eq_true rfl]; rfl)) ((e_neR (H.ev (x := "_law_handed") rfl) (H.ev (x := "_law_table_here") rfl)).trans (by rw [decide_eq_true rfl]; rfl)))) ?_
    refine Runs.ret (ev_cmp (t := true) (flt t _ (fun _ h => h) hl (H.ev rfl) (H.ev (x := "_law_handed") rfl)) (H.ev (x := "_law_due") rfl) ?_) rfl
    rw [hq]
    exact (cmp_flt q).2
end Mine

open PySem PySem.W PyProof.Rows
set_option maxRecDepth 100000
set_option maxHeartbeats 8000000


theorem PySem.Challenge.cw_uf050037_03_holds : PySem.Challenge.rw_uf050037_03.Holds := by
  w_on; o_law; o_head Hook.none; (case hw => w_witness2)
  intro w s₀ s₁ mg mb G Y fa o pm cd doc dV kV ho hd hcd hD hmg hg args vals as hpre hlay hrd hwl hlo
  refine Ground.open G ?_
  intro T B D TE TW
  clear hd hcd hD
  wrow_args hpre hlay hrd hwl hlo
  rename_i ns _ _ _ _ _ _ _ a vs _ hL ra w1 r0 hI hr hc1 hc2
  have e := Mine.exact_list (by simpa only [ofPy] using w1) hL
  refine Mine.law_call (n := 4) (ns := ns) T (L := Mine.p_L) (by kernel_rfl) (by kernel_rfl) rfl hmg (by decide) (Mine.law_spec ns (by omega)) e hI (by omega) fun s' kp => ?_
  obtain ⟨h', tk, rfl, kk⟩ := kp
  refine GoodW.toG ⟨.inl ⟨_, .bool true, [], rfl, ?_, ?_, ?_, ?_⟩, kk, rfl, hg⟩
  · intro cls; first | rfl | exact raisesW_false allW_false_nil
  · exact .bool true
  · wrow_post
  · exact fun _ => ⟨.nil, fun _ h => nomatch h⟩
