import PyProof.Rows.All
import Wide.All
import Wide.FinOn
import Open.Line
import PyProof.P3Statements
import PyProof.Lay0
import PyProof.P3In
import PyProof.NeData
import PyProof.CompFree
import PyProof.DictRoadsH
import PyProof.DictWalks
import PyProof.Rows.SortShell
import PyProof.Rows.RuleB_xor
import PyProof.Rows.RuleB_small
import PyProof.Rows.RuleB_floordiv
import PyProof.Rows.RuleB_mod
import PyProof.Rows.RuleB_mul
import PyProof.Rows.IntRules
import PyProof.Rows.RuleC_int
import PyProof.Rows.RuleU_int
import PyProof.ListOps
import PyProof.Cells
import PyProof.Calls
import PyProof.SliceMore
import PyProof.TupleOfSeq
import PyProof.ListCopy
import PyProof.CodeObjX
import PyProof.Rows.PlainObj
import PyProof.ExcClass2
import PyProof.DictStraight
import PyProof.Rows.StrTemp
import PyProof.TupleOps
import PyProof.ListIndexNeg
import PyProof.Rules3
import PyProof.SliceList
import PyProof.Rows.TupSub
import PyProof.ForRange
import PyProof.Rows.DictMade
import PyProof.WalkInts
import PyProof.SeqI3
import PyProof.SumWalkG
import PyProof.WalksMore
import PyProof.IsiPairs
import PyProof.IsiHeapPairs
import PyProof.ListRange
import PyProof.Rows.SortWalk
import PyProof.IsiNone
import PyProof.Rows.SortRuns
import PyProof.Rows.CallKwBuiltin
import PyProof.DefMake
import PyProof.EvalArms
import PyProof.RangeFor
import PyProof.ListNew
import PyProof.Rows.DictUnroll
import PyProof.Rows.PlainNoArg
import PyProof.LetGo
import PyProof.ForAppend
import PyProof.CallRoads
import PyProof.MeetsSeq
import PyProof.AutoSeq1
import PyProof.ForAny
import PyProof.Raises
import PyProof.RaisesMany
import PyProof.StationsW
import PyProof.ExcBaseAll.ValueError
import PyProof.Rows.TupTab
import PyProof.RulesTry
import PyProof.ObjNew
import PyProof.InstStore
import PyProof.AssignAttr
import PySem.Challenge.RW_uf050037_12
set_option Elab.async false
set_option autoImplicit false
set_option bootstrap.genMatcherCode false
set_option genSizeOf false

set_option tactic.hygienic false
set_option linter.unusedVariables false
set_option linter.unusedSectionVars false
namespace Mine
theorem nLe {x n:Nat} (h:(x:Int)≤@OfNat.ofNat Int n instOfNat):x≤n:=Int.ofNat_le.mp h
theorem nLm {x n:Nat} (h:x≤n):(x:Int)≤@OfNat.ofNat Int n instOfNat:=Int.ofNat_le.mpr h
theorem lte {a b c:Nat} (h:a<c) (e:b=c):a<b:=e▸h
theorem lee {a b c:Nat} (h:a≤c) (e:b=c):a≤b:=e▸h
theorem elt {a b c:Nat} (e:a=c) (h:c<b):a<b:=e▸h
theorem ele {a b c:Nat} (e:a=c) (h:c≤b):a≤b:=e▸h
theorem jle {a b c:Int} (e:a=c) (h:c≤b):a≤b:=e▸h
theorem nn {x:Int}{n:Nat} (e:x = ↑n):0≤x:=e▸Int.natCast_nonneg n
theorem m9 {x:Int}{n:Nat} (h:7 + x / 9 % 3 = ↑n):n≤9:=by lia
theorem m18 {x:Int}{n:Nat} (h:7 + x % 12 = ↑n):n≤18:=by lia
theorem m12 {x:Int}{n:Nat} (h:7 + x % 6 = ↑n):n≤12:=by lia
theorem m4 {x:Int}{n:Nat} (h:1 + x % 4 = ↑n):n≤4:=by lia
theorem m5 {x:Int}{n:Nat} (h:x % 6 = ↑n):n≤5:=by lia
theorem p9 {x y:Int} (h:1 + x / 3 % 9=y):0<y:=by lia
theorem q9 {x y:Int} (h:1 + x / 3 % 9=y):y≤9:=by lia
theorem r9 {x y:Int} (h:x / 27 % 9=y):0≤y:=by lia
theorem dbl {a b:Nat} (h:a≤b):a + a≤b * 2:=by lia
theorem tlt {x:Int}{n:Nat} (h0:0<n) (h:x < ↑n):x.toNat<n:=by lia
theorem tln {x:Int}{n:Nat} (h0:0≤x) (h:x < ↑n):x.toNat<n:=by lia
theorem nxl {a b c:Nat} (h:a + b<c):a<c:=Nat.lt_of_le_of_lt (Nat.le_add_right a b) h
theorem nxe {a b c:Nat} (h:a + b≤c):a≤c:=Nat.le_trans (Nat.le_add_right a b) h
theorem adl {a b c d:Nat} (h:b<c) (g:a + c≤d):a + b<d:=Nat.lt_of_lt_of_le (Nat.add_lt_add_left h a) g
theorem adE {a b c d:Nat} (h:b≤c) (g:a + c≤d):a + b≤d:=Nat.le_trans (Nat.add_le_add_left h a) g
theorem qt {a b c:Nat} (h:a<c):a - b<c:=Nat.lt_of_le_of_lt (Nat.sub_le a b) h
theorem mne {a b c:Nat} (h:b≤c):min a b≤c:=Nat.le_trans (Nat.min_le_right a b) h
theorem mnl {a b c:Nat} (h:a≤c):min a b≤c:=Nat.le_trans (Nat.min_le_left a b) h
end Mine
namespace Mine
theorem vlo {a b c:Nat}:a≤a + b - (a + b - (a + c)):=Nat.le_sub_of_add_le (Nat.add_le_add_left (Nat.le_trans (Nat.le_of_eq (Nat.add_sub_add_left a b c)) (Nat.sub_le b c)) a)
theorem pl {a b:Nat} (p:0<a) (h:a<b + 1):a - 1<b:=Nat.lt_of_lt_of_le (Nat.sub_one_lt (Nat.ne_of_gt p)) (Nat.le_of_lt_succ h)
theorem sl {a b:Nat} (h:1≤b):a + b - 1<a + b:=Nat.sub_lt (Nat.lt_of_lt_of_le h (Nat.le_add_left _ _)) Nat.one_pos
theorem ts {a b:Nat}{x:Int} (e:x = ↑b):((a:Int) - (x + 1)).toNat=a - (b + 1):=by subst e; exact Int.toNat_sub a (b + 1)
theorem r9b {x y:Int} (h:x / 27 % 9=y):y≤8:=h▸Int.le_of_lt_add_one (Int.emod_lt_of_pos _ (by decide))
end Mine
namespace Mine
theorem rm1 {u k c:Nat}{b:Prop} [Decidable b] (h:u + 100 * k + (if b then 200 else 300)<c):u + 1<c:=Nat.lt_of_le_of_lt (Nat.add_le_add (Nat.le_add_right u _) (by split <;> decide)) h
theorem na1 {a:Int} (h:a.natAbs<2 ^ 63):-2 ^ 64<a:=by lia
theorem na2 {a:Int} (h:a.natAbs<2 ^ 63):a<2 ^ 64:=by lia
end Mine
namespace Mine
theorem hf (n:Nat):n / 2≤n - 1:=by
 cases n with
 | zero=>exact Nat.le_refl _
 | succ n=>exact Nat.le_of_lt_succ (Nat.div_lt_self (Nat.succ_pos n) (by decide))
theorem la1 {a:Int}{b:Nat}: (0:Int)≤a→a<(↑b:Int)→a.toNat<b:=fun p q=>(Mine.tln p q)
theorem la2 {a:Nat}: (0:Nat)<a→(↑a:Int)≠(0:Int):=fun p=>(Int.ne_of_gt (Int.natCast_pos.mpr p))
theorem la3 {a:Nat}: (0:Nat)<a→(0:Int)<(↑a:Int):=fun p=>(Int.natCast_pos.mpr p)
theorem la4 {a:Int}{b:Nat}: (0:Nat)<b→a % (↑b:Int)<(↑b:Int)→(a % (↑b:Int)).toNat<b:=fun p q=>(Mine.tlt p q)
theorem la5 {a b c:Int}: c≤b→(0:Int)≤a∧a<c→a<b:=fun p q=>(Int.lt_of_lt_of_le q.2 p)
theorem la6 {a b c:Int}: c≤b→(0:Int)≤a∧a<c→(0:Int)≤a∧a<b + (1:Int):=fun p q=>And.intro q.1 (Int.lt_of_lt_of_le q.2 (Int.le_trans p (Int.le_of_lt (Int.lt_succ _))))
theorem la7 {a b:Int}: (0:Int)≤b→b≤a→(0:Int)≤a∧a<a + (1:Int):=fun p q=>(And.intro (Int.le_trans p q) (Int.lt_succ _))
theorem la8 {a b c:Int}: c≤b→(0:Int)≤a∧a<c→(0:Int)≤a∧a<b:=fun p q=>(And.intro q.1 (Int.lt_of_lt_of_le q.2 p))
theorem la9 {a b c:Nat}: b=a + (c + 1)→a<b:=fun p=>(Mine.lte (Nat.lt_add_of_pos_right (Nat.succ_pos _)) p)
theorem EY {a:Nat}: a≤7→a≤1000000:=fun p=>(Nat.le_trans p (by decide))
theorem zt {a b:Nat}: b≤7→a<b→a≤6:=fun p q=>(Nat.le_of_lt_succ (Nat.lt_of_lt_of_le q p))
theorem Fv {a b c:Nat}: b≤7→c<b→a≤c→a + 1≤1000000:=fun p q r=>(Nat.le_trans (Nat.le_trans (Nat.succ_le_of_lt (Nat.lt_of_le_of_lt r q)) p) (by decide))
theorem Ed {a b:Nat}: a≤b→b≤2 ^ 6→a + a≤1000000:=fun p q=>(Nat.le_trans (Mine.dbl (Nat.le_trans p q)) (by decide))
theorem zz {a b:Nat}: a≤b→a + a≤b * 2:=fun p=>(Mine.dbl p)
theorem zc {a:Nat}: (↑a:Int)≤(↑(a + (1:Nat)):Int):=(Int.ofNat_le.mpr (Nat.le_add_right _ _))
theorem zM {a:Nat}{b:Int}: b=(↑a:Int)→(↑a:Int)≤b:=fun p=>(Int.le_of_eq (Eq.symm p))
theorem zm {a:Int}{b:Nat}: a=(↑b:Int)→a + (1:Int)≤(↑(b + (1:Nat)):Int):=fun p=>Int.le_of_eq (by rw [p]; rfl)
theorem uj {a b:Nat}: a<a + (b + 1):=(Nat.lt_add_of_pos_right (Nat.succ_pos _))
theorem Fx {a b:Nat}: a=b→b≤2 ^ 6→a + a≤1000000:=fun p q=>(Nat.le_trans (Mine.dbl (Mine.ele p q)) (by decide))
theorem FC {a b:Nat}: a=b→a + a=b * 2:=fun p=>by rw [p,Nat.mul_two]
theorem Ep {a:Nat}: a≤5→a≤1000000:=fun p=>(Nat.le_trans p (by decide))
theorem Fz {a b:Nat}: b≤5→a<b→a≤5:=fun p q=>(Nat.le_trans (Nat.le_of_lt q) p)
theorem zH {a b c:Nat}: b≤5→c<b→a≤c→a + 1≤1000000:=fun p q r=>(Nat.le_trans (Nat.le_trans (Nat.succ_le_of_lt (Nat.lt_of_le_of_lt r q)) p) (by decide))
theorem Fi {a b:Nat}: a≤b→b≤2 ^ 5→a + a≤1000000:=fun p q=>(Nat.le_trans (Mine.dbl (Nat.le_trans p q)) (by decide))
theorem Ev {a:Nat}{b:Int}: b=(↑a:Int)→(2:Int) * (↑a:Int)≤(2:Int) * b:=fun p=>Int.le_of_eq (by rw [p])
theorem ER {a:Int}{b:Nat}: a=(↑b:Int)→(2:Int) * a + (1:Int)≤(2:Int) * (↑(b + (1:Nat)):Int):=by intro p; lia
theorem E9 {a:Nat}{b:Int}: b=(↑a:Int)→(2:Int) * (↑a:Int)≤(2:Int) * b + (1:Int):=by intro p; lia
theorem D6 {a:Int}{b:Nat}: a=(↑b:Int)→(2:Int) * a + (1:Int) + (1:Int)≤(2:Int) * (↑(b + (1:Nat)):Int):=by intro p; lia
theorem EX {a:Int}: a % (6:Int)=(↑(a % (6:Int)).toNat:Int):=(Eq.symm (Int.toNat_of_nonneg (Int.emod_nonneg _ (by decide))))
theorem EW {a:Nat}{b:Int}: b % (6:Int)=(↑a:Int)→a≤(1000000:Nat):=fun p=>(Nat.le_trans (Mine.m5 p) (by decide))
theorem zv {a:Int}{b:Nat}: (0:Int)≤a∧a<(↑b:Int)→(0:Int)≤(6:Int) + a:=fun p=>(Int.add_nonneg (by decide) p.1)
theorem zK {a:Nat}: a≤(6:Nat)→(↑a:Int)≤(100:Int):=fun p=>(Int.le_trans (Int.ofNat_le.mpr p) (by decide))
theorem Ec {a:Nat}{b:Int}: b % (6:Int)=(↑a:Int)→a≤(63:Nat):=fun p=>(Nat.le_trans (Mine.m5 p) (by decide))
theorem z6 {a b:Nat}: b≤6→a≤b→a≤12:=fun p q=>(Nat.le_trans q (Nat.le_trans p (by decide)))
theorem Ek {a:Int}: (7:Int) + a / (9:Int) % (3:Int)=(↑((7:Int) + a / (9:Int) % (3:Int)).toNat:Int):=(Int.toNat_of_nonneg (Int.add_nonneg (by decide) (Int.emod_nonneg _ (by decide)))).symm
theorem Fc {a:Nat}{b:Int}: (7:Int) + b / (9:Int) % (3:Int)=(↑a:Int)→a≤(1000000:Nat):=fun p=>(Nat.le_trans (Mine.m9 p) (by decide))
theorem Ft {a:Int}{b:Nat}: a=(↑b:Int)→(0:Int)≤a + (1:Int):=fun p=>(Int.add_nonneg (Mine.nn p) (by decide))
theorem Fy {a b:Int}{c d:Nat}: (7:Int) + b / (9:Int) % (3:Int)=(↑c:Int)→a=(↑d:Int)→d<c→a + (1:Int)≤(1000:Int):=fun p q r=>by subst q; exact Int.ofNat_le.mpr (Nat.le_trans r (Nat.le_trans (m9 p) (by decide)))
theorem Fd {a:Nat}{b:Int}: (7:Int) + b / (9:Int) % (3:Int)=(↑a:Int)→(↑a:Int)≤(1000:Int):=fun p=>(Int.le_trans (Int.ofNat_le.mpr (Mine.m9 p)) (by decide))
theorem Et {a:Nat}{b:Int}{c:Nat}: (7:Int) + b / (9:Int) % (3:Int)=(↑c:Int)→a<c→a≤(9:Nat):=fun p q=>(Nat.le_trans (Nat.le_of_lt q) (Mine.m9 p))
theorem Eu {a b:Nat}{c d:Int}{e f:Nat}: (7:Int) + d / (9:Int) % (3:Int)=(↑b:Int)→a≤e→c=(↑f:Int)→e≤(36:Nat)→a + ((↑b:Int) - (c + (1:Int))).toNat≤(1000000:Nat):=fun p q r s=>Nat.le_trans (Nat.add_le_add (Nat.le_trans q s) (Nat.le_trans (Nat.le_of_eq (ts r)) (Nat.le_trans (Nat.sub_le _ _) (m9 p)))) (by decide)
theorem Ff {a b:Nat}{c:Int}{d e:Nat}{f:Int}: (7:Int) + f / (9:Int) % (3:Int)=(↑b:Int)→a≤d→c=(↑e:Int)→a + ((↑b:Int) - (c + (1:Int))).toNat≤d + ((8:Nat) - e):=fun p q r=>Nat.add_le_add q (Nat.le_trans (Nat.le_of_eq (ts r)) (Nat.le_trans (Nat.sub_le_sub_right (m9 p) _) (Nat.le_of_eq (Nat.succ_sub_succ 8 _))))
theorem DY {a:Int}{b:Nat}: a<a + (1:Int) + (↑b:Int):=by lia
theorem E1 {a:Int}{b c:Nat}: c<b→a=(↑c:Int)→(0:Int)≤a∧a<(↑b:Int):=fun p q=>by subst q; exact ⟨Int.natCast_nonneg _,Int.ofNat_lt.mpr p⟩
theorem Eo {a:Int}{b c d:Nat}: a=(↑d:Int)→b<((↑c:Int) - (a + (1:Int))).toNat→(0:Int)≤a + (1:Int) + (↑b:Int)∧a + (1:Int) + (↑b:Int)<(↑c:Int):=fun p q=>And.intro (Int.add_nonneg (Int.add_nonneg (nn p) (by decide)) (Int.natCast_nonneg _)) (by subst p; exact Int.ofNat_lt.mpr (Nat.add_lt_of_lt_sub' (Nat.lt_of_lt_of_eq q (ts rfl))))
theorem Fr {a:Nat}{b:Int}: (7:Int) + b / (9:Int) % (3:Int)=(↑a:Int)→a≤(9:Nat):=fun p=>(Mine.m9 p)
theorem D7 {a:Nat}{b:Int}: (7:Int) + b / (9:Int) % (3:Int)=(↑a:Int)→(↑a:Int)≤(100:Int):=fun p=>(Int.le_trans (Int.ofNat_le.mpr (Mine.m9 p)) (by decide))
theorem E6 {a b:Nat}: a≤b→b≤36→a≤63:=fun p q=>(Nat.le_trans p (Nat.le_trans q (by decide)))
theorem Ez {a:Nat}: (0:Int)<(↑a:Int) + (1:Int):=(Int.lt_add_one_of_le (Int.natCast_nonneg _))
theorem Fp {a:Int}{b:Nat}: b=(7:Nat)→(a / (9:Int) % (7:Int)).toNat<b:=fun p=>p▸(Int.toNat_lt (Int.emod_nonneg _ (by decide))).mpr (Int.emod_lt_of_pos _ (by decide))
theorem Fq {a b:Int}: (0:Int)≤a∧a≤b→a=(↑a.toNat:Int):=fun p=>(Eq.symm (Int.toNat_of_nonneg p.1))
theorem Fk {a b:Int}: (0:Int)≤a∧a≤b→(↑a.toNat:Int)≤b:=fun p=>(Mine.jle (Int.toNat_of_nonneg p.1) p.2)
theorem ET {a:Int}: (1:Int) + a % (4:Int)=(↑((1:Int) + a % (4:Int)).toNat:Int):=(Int.toNat_of_nonneg (Int.add_nonneg (by decide) (Int.emod_nonneg _ (by decide)))).symm
theorem Em {a:Nat}: a≤(63:Nat)→¬(63:Int)<(↑a:Int):=fun p=>(Int.not_lt.mpr (Mine.nLm p))
theorem El {a:Nat}{b:Int}: (1:Int) + b % (4:Int)=(↑a:Int)→a≤(5:Nat):=fun p=>(Nat.le_trans (Mine.m4 p) (by decide))
theorem EA {a:Nat}{b:Int}: (1:Int) + b % (4:Int)=(↑a:Int)→(2:Int) * (↑a:Int)≤(100:Int):=fun p=>Int.ofNat_le.mpr (Nat.le_trans (Nat.mul_le_mul_left 2 (m4 p)) (by decide))
theorem Fe {a:Nat}: a≤32→a≤63:=fun p=>(Nat.le_trans p (by decide))
theorem EF {a:Nat}{b:Int}{c:Nat}: (1:Int) + b % (4:Int)=(↑c:Int)→a≤c→a≤(12:Nat):=fun p q=>(Nat.le_trans q (Nat.le_trans (Mine.m4 p) (by decide)))
theorem E2 {a:Nat}: (↑a:Int)≤(6:Int)→a≤(6:Nat):=fun p=>(Mine.nLe p)
theorem y9 {a:Nat}: (↑a:Int)≤(7:Int)→a≤(1000000:Nat):=fun p=>(Nat.le_trans (Mine.nLe p) (by decide))
theorem EQ {a b:Nat}: (↑b:Int)≤(7:Int)→a<b→a≤(6:Nat):=fun p q=>(Nat.le_of_lt_succ (Nat.lt_of_lt_of_le q (Mine.nLe p)))
theorem FE {a b c:Nat}: (↑b:Int)≤(7:Int)→c<b→a≤c→a + (1:Nat)≤(1000000:Nat):=fun p q r=>Nat.le_trans (Nat.succ_le_succ r) (Nat.le_trans q (Nat.le_trans (nLe p) (by decide)))
theorem FF {a b c:Nat}: a≤c→c≤2 ^ 6→b≤a→a + b≤1000000:=fun p q r=>Nat.le_trans (Nat.add_le_add (Nat.le_trans p q) (Nat.le_trans r (Nat.le_trans p q))) (by decide)
theorem EH {a b c:Nat}: a≤c→b≤a→a + b≤c * 2:=fun p q=>(Mine.adE q (Mine.dbl p))
theorem y8 {a:Nat}: (↑a:Int)≤(7:Int)→a≤(7:Nat):=fun p=>(Mine.nLe p)
theorem Eg {a:Int}{b c:Nat}: b=c→(0:Int)≤a∧a<(↑c:Int)→(0:Int)≤a∧a<(↑b:Int):=fun p q=>p▸q
theorem Fj {a b:Nat}: (↑b:Int)≤(7:Int)→a≤b→a≤(7:Nat):=fun p q=>(Nat.le_trans q (Mine.nLe p))
theorem EC {a b:Nat}: a≤b→b≤63→a≤63:=fun p q=>(Nat.le_trans p q)
theorem EN {a:Nat}: (↑a:Int)≤(7:Int)→(↑a:Int)≤(100:Int):=fun p=>(Int.le_trans p (by decide))
theorem Fw {a b:Nat}: (↑b:Int)≤(7:Int)→a≤b→a≤(12:Nat):=fun p q=>(Nat.le_trans q (Nat.le_trans (Mine.nLe p) (by decide)))
theorem EB {a b c d:Int}: b * c<b * d→a + b * c<a + b * d:=fun p=>(Int.add_lt_add_left p _)
theorem E5 {a b c d:Int}: (0:Int)≤a→(0:Int)≤b * c→b * c<b * d→(0:Int)≤a + b * c∧a + b * c<a + b * d:=fun p q r=>(And.intro (Int.add_nonneg p q) (Int.add_lt_add_left r _))
theorem EG {a b:Nat}: a<b→(↑a:Int)<(↑b:Int):=fun p=>(Int.ofNat_lt.mpr p)
theorem E7 {a:Int}: (7:Int) + a % (12:Int)=(↑((7:Int) + a % (12:Int)).toNat:Int):=(Int.toNat_of_nonneg (Int.add_nonneg (by decide) (Int.emod_nonneg _ (by decide)))).symm
theorem E0 {a:Nat}{b:Int}: (7:Int) + b % (12:Int)=(↑a:Int)→a≤(1000000:Nat):=fun p=>(Nat.le_trans (Mine.m18 p) (by decide))
theorem EJ {a:Int}: (0:Int)<(1:Int) + a / (12:Int) % (4:Int):=by lia
theorem EI {a:Nat}{b:Int}: (7:Int) + b % (12:Int)=(↑a:Int)→(↑a:Int)≤(100:Int):=fun p=>(Int.le_trans (Int.ofNat_le.mpr (Mine.m18 p)) (by decide))
theorem D8 {a:Nat}{b:Int}{c:Nat}: (7:Int) + b % (12:Int)=(↑c:Int)→a≤c→a≤(63:Nat):=fun p q=>(Nat.le_trans q (Nat.le_trans (Mine.m18 p) (by decide)))
theorem zY {a:Int}{b:Nat}: (0:Int)≤a∧a<(↑b:Int)→(0:Int)≤a∧a<(↑b:Int):=by intro p; omega
theorem Fg {a:Int}: (7:Int) + a % (6:Int)=(↑((7:Int) + a % (6:Int)).toNat:Int):=(Int.toNat_of_nonneg (Int.add_nonneg (by decide) (Int.emod_nonneg _ (by decide)))).symm
theorem y5 {a:Nat}{b:Int}: (7:Int) + b % (6:Int)=(↑a:Int)→a≤(1000000:Nat):=fun p=>(Nat.le_trans (Mine.m12 p) (by decide))
theorem Fb {a:Nat}{b:Int}: (7:Int) + b % (6:Int)=(↑a:Int)→(↑a:Int)≤(100:Int):=fun p=>(Int.le_trans (Int.ofNat_le.mpr (Mine.m12 p)) (by decide))
theorem ES {a:Nat}{b:Int}: (7:Int) + b % (6:Int)=(↑a:Int)→a≤(63:Nat):=fun p=>(Nat.le_trans (Mine.m12 p) (by decide))
theorem Ee {a:Nat}{b:Int}{c:Nat}: (7:Int) + b % (6:Int)=(↑c:Int)→a≤c→a≤(12:Nat):=fun p q=>(Nat.le_trans q (Mine.m12 p))
theorem D9 {a:Int}: ¬(9:Int)<a→a≤(9:Int):=fun p=>(Int.not_lt.mp p)
theorem EM {a:Nat}: ¬(8:Int)<(↑a:Int)→a≤(8:Nat):=fun p=>(Mine.nLe (Int.not_lt.mp p))
theorem Ey {a b:Nat}: b≤8→a<b→a<1000000:=fun p q=>(Nat.lt_of_lt_of_le q (Nat.le_trans p (by decide)))
theorem Ex {a b:Int}: (1:Int) + b / (3:Int) % (9:Int)=a→(0:Int)≤a:=fun p=>(Int.le_of_lt (Mine.p9 p))
theorem Ej {a b:Int}: (1:Int) + b / (3:Int) % (9:Int)=a→a≤(9:Int):=fun p=>(Mine.q9 p)
theorem DX {a b c d:Int}: d / (27:Int) % (9:Int)=a→(0:Int)≤b * c→(0:Int)≤a + b * c:=fun p q=>(Int.add_nonneg (Mine.r9 p) q)
theorem FB {a b c d:Int}: d / (27:Int) % (9:Int)=a→b * c≤(9:Int) * (9:Int)→a + b * c≤(100:Int):=fun p q=>Int.le_trans (Int.add_le_add (r9b p) q) (by decide)
theorem EO {a:Nat}: a≤8→a≤63:=fun p=>(Nat.le_trans p (by decide))
theorem EZ {a:Nat}: a≤12→a≤12:=by intro p; omega
theorem ED {a b:Int}: b / (27:Int) % (9:Int)=a→(0:Int)≤a:=fun p=>(Mine.r9 p)
theorem E8 {a b:Int}: (1:Int) + b / (3:Int) % (9:Int)=a→(0:Int)<a:=fun p=>(Mine.p9 p)
theorem E3 {a b:Nat}: b<63→a≤b→a + 1≤1000000:=fun p q=>(Nat.le_trans (Nat.succ_le_of_lt (Nat.lt_of_le_of_lt q p)) (by decide))
theorem D0 {a b:Nat}: b<63→a≤b→a + 1<64:=fun p q=>(Nat.add_lt_add_right (Nat.lt_of_le_of_lt q p) _)
theorem ny {a:Nat}: a≤1000→a≤1000000:=fun p=>(Nat.le_trans p (by decide))
theorem zP {a b:Nat}: b≤1000→a≤b→a≤1000000:=fun p q=>(Nat.le_trans q (Nat.le_trans p (by decide)))
theorem mM {a b:Nat}: a≤b→a≤b + 1:=fun p=>(Nat.le_succ_of_le p)
theorem mG {a b:Nat}: a≤b→a + 1≤b + 1:=fun p=>(Nat.succ_le_succ p)
theorem B3 {a b:Nat}: b≤1000→a<b→a≤1000:=fun p q=>(Nat.le_trans (Nat.le_of_lt q) p)
theorem CZ {a b:Int}: (0:Int)≤a∧a<b→a<(0:Int)→False:=fun p q=>(absurd q (Int.not_lt.mpr p.1))
theorem DA {a b:Int}: (0:Int)≤a∧a<b→b≤a→False:=fun p q=>(absurd p.2 (Int.not_lt.mpr q))
theorem xx {a b:Int}: a≤b→b≤a→a=b:=fun p q=>(Int.le_antisymm p q)
theorem fF {a:Nat}: a≤100→a≤1000:=fun p=>(Nat.le_trans p (by decide))
theorem Cc {a:Int}: a / (6:Int) % (3:Int)=(0:Int)∨a / (6:Int) % (3:Int)=(1:Int)∨a / (6:Int) % (3:Int)=(2:Int):=by lia
theorem BG {a:Int}: (0:Int)≤a→a=(↑a.toNat:Int):=fun p=>(Eq.symm (Int.toNat_of_nonneg p))
theorem Co {a:Nat}: (↑a:Int)≤(100:Int)→a≤(1000:Nat):=fun p=>(Nat.le_trans (Mine.nLe p) (by decide))
theorem AH {a:Nat}: a≤12→a<63:=fun p=>(Nat.lt_of_le_of_lt p (by decide))
theorem BB {a:Int}{b:Nat}: (0:Int)≤a∧a<(↑b:Int)→a=(↑a.toNat:Int):=fun p=>(Eq.symm (Int.toNat_of_nonneg p.1))
theorem B4 {a b:Nat}: (↑b:Int)≤(100:Int)→(0:Int)≤(↑a:Int)∧(↑a:Int)<(↑b:Int)→a≤(1000:Nat):=fun p q=>(Nat.le_trans (Mine.nLe (Int.le_trans (Int.le_of_lt q.2) p)) (by decide))
theorem DL {a:Nat}: (↑a:Int)≤(100:Int)→a≤(1000000:Nat):=fun p=>(Nat.le_trans (Mine.nLe p) (by decide))
theorem Bp {a b:Nat}: (↑b:Int)≤(100:Int)→a≤b→a≤(100:Nat):=fun p q=>(Nat.le_trans q (Mine.nLe p))
theorem xw {a:Nat}: (↑a:Int)≤(100:Int)→a≤(100:Nat):=fun p=>(Mine.nLe p)
theorem BS {a:Nat}: a≤12→a≤100:=fun p=>(Nat.le_trans p (by decide))
theorem Cg {a:Nat}: a≤12→a≤60:=fun p=>(Nat.le_trans p (by decide))
theorem qQ {a:Nat}: (↑a:Int)=(0:Int)→a=(0:Nat):=fun p=>(Nat.eq_zero_of_le_zero (Int.ofNat_le.mp (Mine.jle p (by decide))))
theorem xp {a:Nat}: a≤100→a<128:=fun p=>(Nat.lt_of_le_of_lt p (by decide))
theorem rJ {a:Nat}: a≤63→a≤1000:=fun p=>(Nat.le_trans p (by decide))
theorem CW {a b:Nat}: b≤63→a≤b→a≤1000000:=fun p q=>(Nat.le_trans q (Nat.le_trans p (by decide)))
theorem wF {a b:Nat}: b≤63→a≤b→a<64:=fun p q=>(Nat.lt_of_le_of_lt q (Nat.lt_of_le_of_lt p (by decide)))
theorem Dh {a b c:Nat}: b≤63→c≤b→a=c→a≤1000:=fun p q r=>(Nat.le_trans (Nat.le_trans (Mine.ele r q) p) (by decide))
theorem Ap {a:Nat}: a≤60→a<63:=fun p=>(Nat.lt_of_le_of_lt p (by decide))
theorem C7 {a:Nat}: ¬1<a→a≤1:=fun p=>(Nat.le_of_not_lt p)
theorem qI {a b:Nat}: a + (b + 1)≤1000→a≤1000:=fun p=>(Mine.nxe p)
theorem CG {a b:Int}{c:Prop}: ¬(a<(0:Int)∨b≤a∨c)→(0:Int)≤a∧a<b:=fun p=>And.intro (Int.not_lt.mp fun g=>p (.inl g)) (Int.not_le.mp fun g=>p (.inr (.inl g)))
theorem Aq {a b:Nat}: a + (b + 1)≤1000→a + 1 + b≤1000:=fun p=>by rw [Nat.add_right_comm]; exact p
theorem DI {a b:Nat}: b=a→a≤b:=fun p=>(Nat.le_of_eq (Eq.symm p))
theorem By {a:Nat}: a≤(1000000:Nat)→((↑a:Int) - (0:Int)).toNat≤(1000000:Nat):=fun p=>Int.toNat_le.mpr (Int.le_trans (Int.sub_le_self _ (Int.le_refl 0)) (Int.ofNat_le.mpr p))
theorem Dz:-(2:Int) ^ (60:Nat)≤(0:Int):=by decide
theorem DO:(0:Int)<(2:Int) ^ (60:Nat):=by decide
theorem AX {a:Nat}: -(2:Int) ^ (60:Nat)≤(↑a:Int):=by lia
theorem A1 {a:Nat}: a≤(1000000:Nat)→(↑a:Int)<(2:Int) ^ (60:Nat):=fun p=>(Int.lt_of_le_of_lt (Int.ofNat_le.mpr p) (by decide))
theorem Dw {a b:Nat}: a<b→(0:Int)≤(↑a:Int)∧(↑a:Int)<(↑b:Int):=fun p=>(And.intro (Int.natCast_nonneg _) (Int.ofNat_lt.mpr p))
theorem DG {a:Int}: (0:Int)≤a→(↑a.toNat:Int)=a:=fun p=>(Int.toNat_of_nonneg p)
theorem wH {a:Int}{b:Nat}: a.toNat<b→a<(↑b:Int):=fun p=>Int.lt_of_le_of_lt (Int.self_le_toNat _) (Int.ofNat_lt.mpr p)
theorem Dg {a:Int}: (0:Int)<a→¬a=(0:Int):=fun p=>(Int.ne_of_gt p)
theorem wO {a:Int}: (0:Int)<a→(0:Int)≤a:=fun p=>(Int.le_of_lt p)
theorem w7 {a b c:Int}: a≤c→c≤b→a≤b:=fun p q=>(Int.le_trans p q)
theorem xt {a b:Int}: a≤b∨b≤a:=Int.le_total _ _
theorem C5 {a b:Int}: (0:Int)≤b→a≤(1000:Int)→(a - b).toNat≤(1000000:Nat):=fun p q=>Int.toNat_le.mpr (Int.le_trans (Int.sub_le_self _ p) (Int.le_trans q (by decide)))
theorem wA {a:Int}: (0:Int)≤a→-(2:Int) ^ (60:Nat)≤a:=by intro p; lia
theorem xy {a:Int}: a≤(1000:Int)→a<(2:Int) ^ (60:Nat):=fun p=>(Int.lt_of_le_of_lt p (by decide))
theorem Dy {a:Int}{b:Nat}: (0:Int)≤a→a<(↑b:Int)→a<(0:Int)∨(↑b:Int)≤a→False:=fun p q r=>r.elim (fun g=>Int.not_lt.mpr p g) (fun g=>Int.not_le.mpr q g)
theorem wN {a:Nat}: (0:Int)<(↑(a + (1:Nat)):Int):=(Int.natCast_pos.mpr (Nat.succ_pos _))
theorem C2 {a:Nat}: (1:Int)<(↑(a + (1:Nat) + (1:Nat)):Int):=Int.ofNat_lt.mpr (Nat.succ_lt_succ (Nat.succ_pos _))
theorem BT {a b:Nat}: a≤b→¬a=b→a<b:=fun p q=>(Nat.lt_of_le_of_ne p q)
theorem wQ {a b c:Nat}: a≤b + c→¬a=b + c→a≤b + c - 1:=fun p q=>(Nat.le_sub_one_of_lt (Nat.lt_of_le_of_ne p q))
theorem qB {a b:Nat}: 1≤b→a + b - 1<a + b:=fun p=>sl p
theorem wp {a b c:Nat}: a<b + (c + 1)→¬a=b + c→a<b + c:=fun p q=>Nat.lt_of_le_of_ne (Nat.le_of_lt_succ p) q
theorem Do {a b c:Nat}: a≤c∧c<b→a≤a + b - 1 - c:=fun p=>(Nat.le_sub_of_add_le (Nat.le_sub_one_of_lt (Nat.add_lt_add_left p.2 _)))
theorem AK {a b c:Nat}: a≤c∧c<b→a + b - 1 - c<b:=fun p=>Nat.lt_of_le_of_lt (Nat.sub_le_sub_left p.1 _) (by rw [Nat.sub_right_comm,Nat.add_sub_cancel_left]; exact Nat.sub_lt (Nat.lt_of_le_of_lt (Nat.zero_le _) p.2) Nat.one_pos)
theorem Aj {a b c d e:Nat}: d≤a→c≤e→b<d∨e≤b→¬(a≤b∧b<c):=fun p q r=>fun e=>r.elim (fun g=>Nat.not_lt_of_le (Nat.le_trans p e.1) g) (fun g=>Nat.not_lt_of_le (Nat.le_trans q g) e.2)
theorem Am {a b c d:Nat}: a + d≤c→b≤d→a + b≤c:=fun p q=>(Mine.adE q p)
theorem C3 {a b c:Nat}: c<a + b→a≤a + (a + b) - 1 - c:=fun p=>(Nat.le_sub_of_add_le (Nat.le_sub_one_of_lt (Nat.add_lt_add_left p _)))
theorem Bf {a b c d:Nat}: d≤c→a + (a + b) - 1 - c≤a + (a + b) - 1 - d:=fun p=>(Nat.sub_le_sub_left p _)
theorem A8 {a b c:Nat}: 1≤b→a≤c→a + (a + b) - 1 - c<a + b:=fun p q=>Nat.lt_of_le_of_lt (Nat.sub_le_sub_left q _) (by rw [Nat.sub_right_comm,Nat.add_sub_cancel_left]; exact sl p)
theorem AN {a b:Nat}: max a b≤b→max a b=b:=fun p=>(Nat.le_antisymm p (Nat.le_max_right _ _))
theorem wZ {a b c:Nat}: c + 1 - (0 + 1)≤b→b<c + 1→a + b=a + (c + 1) - 1:=fun p q=>congrArg (_ + ·) (Nat.le_antisymm (Nat.le_of_lt_succ q) p)
theorem mP {a b c d e:Nat}: a + d≤e→b<d→c=e→a + b<c:=fun p q r=>(Mine.lte (Mine.adl q p) r)
theorem xk {a b c d e:Nat}: a + d≤e→b<d→c=e→a + b - 1<c:=fun p q r=>(Mine.lte (Mine.qt (Mine.adl q p)) r)
theorem wC {a b c d e:Nat}: a + d≤e→b<d→c=e→a + b≤c:=fun p q r=>(Nat.le_of_lt (Mine.lte (Mine.adl q p) r))
theorem xn {a b c:Nat}: c + 1≤b→a≤a + b - (c + 1):=fun p=>(Nat.le_sub_of_add_le (Nat.add_le_add_left p _))
theorem wl {a b c d:Nat}: d + a - (b + 1)≤c→a - (b + 1)≤c - d:=fun p=>Nat.sub_le_of_le_add (Nat.le_of_add_le_add_left (Nat.le_trans (Nat.le_add_of_sub_le p) (Nat.le_trans (Nat.add_le_add_right (Nat.sub_le_iff_le_add'.mp (Nat.le_refl _)) _) (Nat.le_of_eq (Nat.add_assoc _ _ _)))))
theorem xi {a b c d:Nat}: d + 1≤c→a<b + c→a - b<c:=fun p q=>(Nat.lt_or_ge a b).elim (fun g=>Nat.lt_of_le_of_lt (Nat.le_of_eq (Nat.sub_eq_zero_of_le (Nat.le_of_lt g))) (Nat.lt_of_lt_of_le (Nat.succ_pos _) p)) (fun g=>Nat.sub_lt_left_of_lt_add g q)
theorem xj {a b c d:Nat}: c + 1≤d→a + d - (c + 1)≤b→a + (b - a)=b:=fun p q=>Nat.add_sub_of_le (Nat.le_trans (Nat.le_sub_of_add_le (Nat.add_le_add_left p _)) q)
theorem Ax {a b:Nat}: ¬b<a→¬a<b→a=b:=fun p q=>(Nat.le_antisymm (Nat.le_of_not_lt p) (Nat.le_of_not_lt q))
theorem Db {a b:Nat}: a + (b + 1) - 1=a + b:=by rfl
theorem DV {a b c:Nat}: a + 1 - (b + 1 + 1)≤c→a - (b + 1)≤c:=fun p=>Nat.succ_sub_succ _ _▸p
theorem Dv {a b:Nat}: a<b + 1→¬a=b→a<b:=fun p q=>(Nat.lt_of_le_of_ne (Nat.le_of_lt_succ p) q)
theorem BM {a b:Nat}: max (a + 1) b≤b→max (a + 1) b=b:=fun p=>(Nat.le_antisymm p (Nat.le_max_right _ _))
theorem xq {a b c d e:Nat}: a + d≤e→b≤d→c=e→a + b≤c:=fun p q r=>(Mine.lee (Mine.adE q p) r)
theorem qZ {a b c d:Nat}: a + b≤d→c=d→a + b≤c:=fun p q=>(Mine.lee p q)
theorem DP {a b:Nat}: b + 1≤a→1≤a:=fun p=>(Nat.le_trans (Nat.le_add_left _ _) p)
theorem w5 {a b c:Nat}: c≤a→a≤b→b<c + 1→a=b:=fun p q r=>(Nat.le_antisymm q (Nat.le_trans (Nat.le_of_lt_succ r) p))
theorem xr {a:Nat}: max 1 a≤a→max 1 a=a:=fun p=>(Nat.le_antisymm p (Nat.le_max_right _ _))
theorem Bo {a b:Nat}: a≤b→a≠b→a<b:=fun p q=>(Nat.lt_of_le_of_ne p q)
theorem AQ {a b c:Nat}: 1≤c→a + c≤b→a<b:=fun p q=>(Nat.lt_of_lt_of_le (Nat.lt_add_of_pos_right (Nat.lt_of_succ_le p)) q)
theorem CU {a b c d:Nat}: 1≤b→b≤d→a + d≤c→a + b - 1<c:=fun p q r=>Nat.lt_of_lt_of_le (sl p) (Nat.le_trans (Nat.add_le_add_left q _) r)
theorem Da {a b c:Nat}: a<b + c→a≤b + c - 1:=fun p=>(Nat.le_sub_one_of_lt p)
theorem AD {a b c:Nat}: ¬c<b→c≤a→a≤b→a=b:=fun p q r=>(Nat.le_antisymm r (Nat.le_trans (Nat.le_of_not_lt p) q))
theorem wU {a b c d:Nat}: b≤d→a + d≤c→a + b≤c:=fun p q=>(Mine.adE p q)
theorem AI {a:Nat}: 1≤a→¬a > 1→a=1:=fun p q=>(Nat.le_antisymm (Nat.le_of_not_lt q) p)
theorem CJ {a b:Nat}: a<b→a≤(a + b) / 2∧(a + b) / 2<b:=fun p=>And.intro ((Nat.le_div_iff_mul_le (by decide)).mpr (by rw [Nat.mul_two]; exact Nat.add_le_add_left (Nat.le_of_lt p) _)) ((Nat.div_lt_iff_lt_mul (by decide)).mpr (by rw [Nat.mul_two]; exact Nat.add_lt_add_right p _))
theorem Cr {a b:Nat}: a<b→min a b=a:=fun p=>(Nat.min_eq_left (Nat.le_of_lt p))
theorem Dd {a b c:Nat}: c<0→a≤b:=fun p=>(absurd p (Nat.not_lt_zero _))
theorem AZ {a b c d:Nat}: c≤d→d<c→a<b:=fun p q=>(absurd q (Nat.not_lt_of_le p))
theorem DJ {a b c d e f g:Nat}: a + d≤e→f<d→g≤f→c=e→b<g→a + b<c:=by intro p q r s t; lia
theorem DW {a b c:Nat}: c≤b→a<c→a≤b:=fun p q=>(Nat.le_trans (Nat.le_of_lt q) p)
theorem DM {a b c d e:Nat}: e - b≤c - d→a<e→a - b≤c - (d + 1):=fun p q=>Nat.le_trans (Nat.sub_le_sub_right (Nat.le_sub_one_of_lt q) _) (Nat.le_trans (Nat.le_of_eq (Nat.sub_right_comm _ 1 _)) (Nat.sub_le_sub_right p 1))
theorem Cf {a b c d e:Nat}: a - e≤c - d→e≤b→a - (b + 1)≤c - (d + 1):=fun p q=>Nat.sub_le_sub_right (Nat.le_trans (Nat.sub_le_sub_left q _) p) 1
theorem C8 {a b c:Nat}: b<c + 1→a + b≤a + c:=fun p=>(Nat.add_le_add_left (Nat.le_of_lt_succ p) _)
theorem BJ {a b c d:Nat}: d≤c→b<d→a + b<a + c:=fun p q=>(Nat.add_lt_add_left (Nat.lt_of_lt_of_le q p) _)
theorem DT {a b c d:Nat}: a - c≤d - max 0 d→c≤b→a≤b:=fun p q=>Nat.le_trans (Nat.le_of_sub_eq_zero (Nat.eq_zero_of_le_zero (Nat.le_trans p (Nat.le_of_eq (Nat.sub_eq_zero_of_le (Nat.le_max_right 0 _)))))) q
theorem AB {a b c d e:Nat}: c<e→a<b∨b + e≤a→¬a=b + c - (b + c - (b + d)):=fun p q=>fun e=>q.elim (fun g=>Nat.not_lt_of_le vlo (e▸g)) (fun g=>Nat.not_lt_of_le (Nat.le_trans g (Nat.le_trans (Nat.le_of_eq e) (Nat.sub_le _ _))) (Nat.add_lt_add_left p _))
theorem AO {a b c d e:Nat}: b<e→d<a∨a + e≤d→¬(a + b - (a + b - (a + c))<d∧d≤a + b):=fun p q=>fun e=>q.elim (fun g=>Nat.not_lt_of_le vlo (Nat.lt_trans e.1 g)) (fun g=>Nat.not_lt_of_le (Nat.le_trans g e.2) (Nat.add_lt_add_left p _))
theorem Bx {a b:Nat}: a<b→min (a + 1) b=a + 1:=fun p=>(Nat.min_eq_left (Nat.succ_le_of_lt p))
theorem Ar {a b c:Nat}: c≤b→a + b - (a + b - (a + c))=a + c:=fun p=>Nat.sub_sub_self (Nat.add_le_add_left p _)
theorem A0 {a b c d e:Nat}: e≤c→c<a + (d + 1)→e=a + b→¬c=a + b→a + b<c∧c≤a + d:=fun p q r s=>And.intro (Nat.lt_of_le_of_ne (r▸p) (Ne.symm s)) (Nat.le_of_lt_succ q)
theorem Cm {a b c d:Nat}: d≤b→d=c + a→¬b=c + a→a≤b - 1 - c:=fun p q r=>Nat.le_sub_of_add_le (Nat.le_sub_one_of_lt (Nat.add_comm _ _▸Nat.lt_of_le_of_ne (q▸p) (Ne.symm r)))
theorem CB {a b c d e:Nat}: d≤a→a<b + (c + 1)→d=b + e→¬a=b + e→a - 1 - b<c:=fun p q r s=>Nat.sub_lt_left_of_lt_add (Nat.le_sub_one_of_lt (Nat.lt_of_le_of_lt (Nat.le_add_right _ _) (Nat.lt_of_le_of_ne (r▸p) (Ne.symm s)))) (pl (Nat.lt_of_le_of_lt (Nat.zero_le _) (Nat.lt_of_le_of_ne (r▸p) (Ne.symm s))) q)
theorem BV {a b c d:Nat}: c≤b→c=a + d→¬b=a + d→a + (b - 1 - a)=b - 1:=fun p q r=>Nat.add_sub_of_le (Nat.le_sub_one_of_lt (Nat.lt_of_le_of_lt (Nat.le_add_right _ _) (Nat.lt_of_le_of_ne (q▸p) (Ne.symm r))))
theorem BP {a b c d e:Nat}: c≤e→e=a + b→¬(a + b<c∧c≤a + d):=fun p q=>fun e=>Nat.not_lt_of_le (q▸p) e.1
theorem DD {a b c d:Nat}: b≤a→a≤d→¬a=b + c→d=b + c→a - b<c:=fun p q r s=>Nat.sub_lt_left_of_lt_add p (Nat.lt_of_le_of_ne (s▸q) r)
theorem C9 {a b:Nat}: a≤b→a + (b - a)=b:=fun p=>(Nat.add_sub_cancel' p)
theorem Al {a b c d e:Nat}: c≤e→e<a + (d + 1)→a + b<c→a + b<c∧c≤a + d:=fun p q r=>And.intro r (Nat.le_of_lt_succ (Nat.lt_of_le_of_lt p q))
theorem Df {a b c d e:Nat}: e≤c→c<a + (d + 1)→a + b<e→a + b<c∧c≤a + d:=fun p q r=>And.intro (Nat.lt_of_lt_of_le r p) (Nat.le_of_lt_succ q)
theorem BY {a b c:Nat}: a + c<b→a≤b - 1:=fun p=>(Mine.nxe (Nat.le_sub_one_of_lt p))
theorem An {a b:Nat}: a≤b→a - 1≤b - 1:=fun p=>(Nat.sub_le_sub_right p _)
theorem Di {a b c d e:Nat}: d≤a→a<b + (c + 1)→b + e<d→a - 1<b + c:=fun p q r=>pl (Nat.lt_of_le_of_lt (Nat.zero_le _) (Nat.lt_of_lt_of_le r p)) q
theorem wK {a b c d:Nat}: ¬a + b<c→¬(a + b<c∧c≤a + d):=fun p=>fun e=>p e.1
theorem Ck {a b c d:Nat}: c<a + (d + 1)→a + b<c→a + b<c∧c≤a + d:=fun p q=>And.intro q (Nat.le_of_lt_succ p)
theorem CC {a b c d:Nat}: ¬c + d<a→c + d<b→a≤b - 1:=fun p q=>(Nat.le_trans (Nat.le_of_not_lt p) (Nat.le_sub_one_of_lt q))
theorem C1 {a b c d:Nat}: a<b + (c + 1)→b + d<a→a - 1<b + c:=fun p q=>pl (Nat.lt_of_le_of_lt (Nat.zero_le _) q) p
theorem Bs {a b c d:Nat}: d≤c→¬a=b + d→¬b + d<a→a<b + c:=fun p q r=>(Nat.lt_of_lt_of_le (Nat.lt_of_le_of_ne (Nat.le_of_not_lt r) q) (Nat.add_le_add_left p _))
theorem Cv {a b:Nat}: min (max (max a 1) b) b=b:=Nat.min_eq_right (Nat.le_max_right _ _)
theorem DU {a b c d e:Nat}: c≤a→a≤b→b<c + min (max d 1) e→d=0→a=b:=fun p q r s=>Nat.le_antisymm q (Nat.le_trans (Nat.le_of_lt_succ (Nat.lt_of_lt_of_le r (Nat.add_le_add_left (Nat.le_trans (Nat.min_le_left (max d 1) e) (by rw [s]; decide:max d 1≤1)) _))) p)
theorem BX {a b c d:Nat}: a<b + min (max c 1) d→¬c=0→a<b + c:=fun p q=>Nat.lt_of_lt_of_le p (Nat.add_le_add_left (Nat.le_trans (Nat.min_le_left _ _) (Nat.max_le.mpr ⟨Nat.le_refl _,Nat.pos_of_ne_zero q⟩)) _)
theorem DE {a b c:Int}: a<c→c<b→¬a=b:=fun p q=>(Int.ne_of_lt (Int.lt_of_lt_of_le p (Int.le_of_lt q)))
theorem A3 {a b c:Int}: a<c→c<b→a<b:=fun p q=>(Int.lt_of_lt_of_le p (Int.le_of_lt q))
theorem BA {a:Prop}{b c:Int}: ¬b=c→¬b<c→¬c<b→a:=fun p q r=>absurd (Int.le_antisymm (Int.not_lt.mp r) (Int.not_lt.mp q)) p
theorem Bn {a b c:Nat}: a≤b→a≤b + c:=fun p=>(Nat.le_trans p (Nat.le_add_right _ _))
theorem DS {a b:Nat}: a≤b→a<b + 1:=fun p=>(Nat.lt_succ_of_le p)
theorem Cn {a b c:Nat}: a<b→a<b + c:=fun p=>(Nat.lt_of_lt_of_le p (Nat.le_add_right _ _))
theorem Dr {a b:Nat}: a<b→b<a→False:=fun p q=>(absurd q (Nat.not_lt_of_le (Nat.le_of_lt p)))
theorem B0 {a:Prop}{b:Nat}: 1≤b→0=b→a:=fun p q=>(absurd (Mine.lee p q) (by decide))
theorem Cp {a:Nat}: 2≤a→a=a - 1 + 1:=fun p=>(Nat.sub_add_cancel (Nat.le_of_succ_le p)).symm
theorem wu {a b:Nat}: b=a→0 + (a - 0)≤b:=fun p=>by rw [Nat.zero_add]; exact Nat.le_of_eq p.symm
theorem Dt {a b:Nat}: b=a→0 + min (a - 0) a≤b:=fun p=>by rw [p,Nat.zero_add]; exact Nat.min_le_right _ _
theorem B9 {a b:Nat}: a<b→a≤min (b - 0) b:=fun p=>Nat.le_min.mpr ⟨Nat.le_of_lt p,Nat.le_of_lt p⟩
theorem At {a:Nat}: min (a - 0) a=a:=Nat.min_self _
theorem As {a b:Nat}: a≤b - 0→¬a<b→a=b:=fun p q=>(Nat.le_antisymm (Nat.le_trans p (Nat.sub_le _ _)) (Nat.le_of_not_lt q))
theorem AE {a b:Prop}{c:Nat}: 2≤c→max 0 c=0→a∧b:=by intro p q; lia
theorem BD {a b:Nat}: b=a→0 + a≤b:=fun p=>by rw [p,Nat.zero_add]; exact Nat.le_refl _
theorem B7 {a b:Nat}: a=b→a≤b:=fun p=>(Nat.le_of_eq p)
theorem BC {a b:Nat}: 1≤b→a≤a + b - 1:=fun p=>(Nat.le_sub_of_add_le (Nat.add_le_add_left p _))
theorem Bd {a b c:Prop}{d e:Nat}: 2≤e→max 0 e=0→a∧b∧c∧d=1:=fun p q=>absurd q (Nat.ne_of_gt (Nat.lt_of_lt_of_le (by decide) (Nat.le_trans p (Nat.le_max_right 0 _))))
theorem Ca {a b:Int}: (0:Int)≤a→(a.toNat<b.toNat↔a<b):=fun p=>by rw [Int.lt_toNat,Int.toNat_of_nonneg p]
theorem Bu {a:Int}: ¬(0:Int)≤a→a<(0:Int):=fun p=>(Int.not_le.mp p)
theorem Ds {a:Int}{b:Nat}: b≤(2:Nat) ^ (22:Nat)→a<(↑b:Int)→a<(2:Int) ^ (63:Nat):=fun p q=>(Int.lt_of_lt_of_le q (Int.le_trans (Int.ofNat_le.mpr p) (by decide)))
theorem Dl {a:Int}{b:Nat}: b≤(2:Nat) ^ (22:Nat)→-(↑b:Int)≤a→-(2:Int) ^ (63:Nat)≤a:=fun p q=>Int.le_trans (Int.le_trans (by decide) (Int.neg_le_neg (Int.ofNat_le.mpr p))) q
theorem AC {a:Int}: (0:Int)≤a→¬a<(0:Int):=fun p=>(Int.not_lt.mpr p)
theorem BL {a:Int}: -(2:Int) ^ (22:Nat)≤a∧a<(2:Int) ^ (22:Nat)→-(2:Int) ^ (63:Nat)≤a:=fun p=>Int.le_trans (by decide) p.1
theorem Dm {a:Int}: -(2:Int) ^ (22:Nat)≤a∧a<(2:Int) ^ (22:Nat)→a<(2:Int) ^ (63:Nat):=fun p=>Int.lt_trans p.2 (by decide)
theorem CK {a b:Nat}: b≤2 ^ 22→a=b→a≤2 ^ 24:=fun p q=>(Nat.le_trans (Mine.ele q p) (by decide))
theorem BQ {a b c:Nat}: b=c→a<c→a<b:=fun p q=>(Mine.lte q p)
theorem B5 {a b c:Nat}: a=c→¬b<c→min a a≤b:=fun p q=>(Mine.mne (Mine.ele p (Nat.le_of_not_lt q)))
theorem Av {a b c:Nat}: ¬c<a→min a b≤c:=fun p=>(Mine.mnl (Nat.le_of_not_lt p))
theorem Cz {a:Nat}: a<64→a≤16777216 + 1:=fun p=>(Nat.le_trans (Nat.le_of_lt p) (by decide))
theorem wk {a:Nat}: a<64→a≤16777216:=fun p=>(Nat.le_trans (Nat.le_of_lt p) (by decide))
theorem Aw {a:Nat}: a<2→a≤1:=fun p=>(Nat.le_of_lt_succ p)
theorem Bl {a:Nat}: ¬a<2→1≤a:=fun p=>(Nat.le_trans (Nat.le_add_left _ _) (Nat.le_of_not_lt p))
theorem DR {a b:Nat}: b=a→¬b<2→¬a<2:=fun p q=>(Nat.not_lt_of_le (Nat.le_trans (Nat.le_of_not_lt q) (Nat.le_of_eq p)))
theorem CM {a:Nat}: ¬a<2→2≤a:=fun p=>(Nat.le_of_not_lt p)
theorem Br {a b:Nat}: b≤a→¬a<b:=fun p=>(Nat.not_lt_of_le p)
theorem CO {a:Nat}: a≤1000000→a≤16777216:=fun p=>(Nat.le_trans p (by decide))
theorem wR {a:Nat}: a≤1000000→a≤2 ^ 22:=fun p=>(Nat.le_trans p (by decide))
theorem Az {a b:Nat}: a=b→a=b:=by intro p; omega
theorem wv {a b:Nat}: b<64→a=b→a≤16777216:=fun p q=>(Nat.le_trans (Nat.le_of_lt (Mine.elt q p)) (by decide))
theorem Dj {a b:Nat}: a + 200<b→a + 1 + 1<b:=fun p=>Nat.lt_of_le_of_lt (Nat.add_le_add_left (by decide:2≤200) a) p
theorem wt {a b:Nat}: b<64→a=b→a<64:=fun p q=>(Mine.elt q p)
theorem xA {a:Nat}: a<64→a≤2 ^ 22:=fun p=>(Nat.le_trans (Nat.le_of_lt p) (by decide))
theorem DQ {a b:Nat}: a=b→b≤(2:Nat) ^ (22:Nat)→(↑a:Int)<(2:Int) ^ (63:Nat):=fun p q=>(Int.lt_of_le_of_lt (Int.ofNat_le.mpr (Mine.ele p q)) (by decide))
theorem Dp {a b:Nat}: a=b→b≤(2:Nat) ^ (22:Nat)→¬(↑a:Int) ≥ (2:Int) ^ (63:Nat):=fun p q=>fun g=>absurd (Int.le_trans g (Int.ofNat_le.mpr (Nat.le_trans (Nat.le_of_eq p) q))) (by decide)
theorem Ak {a b:Nat}{c:Prop}: a=b→b≤2 ^ 22∧c→a≤2 ^ 24:=fun p q=>(Nat.le_trans (Mine.ele p q.1) (by decide))
theorem w9 {a:Nat}: a<128→a≤16777216:=fun p=>(Nat.le_trans (Nat.le_of_lt p) (by decide))
theorem Bg {a:Nat}: 2≤a→¬a<2:=fun p=>(Nat.not_lt_of_le p)
theorem Cj {a:Nat}: 2≤a→2≤a:=by intro p; omega
theorem w8 {a b c d:Nat}: c=b→a≤d→d<0 + c→a<b:=fun p q r=>Nat.lt_of_le_of_lt q (p▸(Nat.zero_add c▸r:d<c))
theorem wS {a b c:Nat}: c=b→a<0 + c→a<b:=fun p q=>p▸(Nat.zero_add c▸q:a<c)
theorem CX {a:Nat}: a<128→a≤16777216 + 1:=fun p=>(Nat.le_trans (Nat.le_of_lt p) (by decide))
theorem xu {a b:Nat}: b<128→a=b→a≤16777216:=fun p q=>(Nat.le_trans (Nat.le_of_lt (Mine.elt q p)) (by decide))
theorem A9 {a b:Nat}: ¬b<64→a=b→2≤a:=fun p q=>(Nat.le_trans (Nat.le_add_left _ _) (Mine.lee (Nat.le_of_not_lt p) q))
theorem CN {a b:Nat}: b<128→a=b→a<128:=fun p q=>(Mine.elt q p)
theorem Ch {a:Nat}: a<128→a≤2 ^ 22:=fun p=>(Nat.le_trans (Nat.le_of_lt p) (by decide))
theorem A6 {a b c:Nat}: a + 100 * c + 200<b→a + 200<b:=fun p=>Nat.lt_of_le_of_lt (Nat.add_le_add_right (Nat.le_add_right _ _) 200) p
theorem Du {a b c:Nat}: a + 100 * c + 300<b→a + 200<b:=fun p=>Nat.lt_of_le_of_lt (Nat.add_le_add (Nat.le_add_right _ _) (by decide)) p
theorem wG {a b c d:Nat}: a + 200<d→b + 1≤64→a + 1 + min b c<d:=fun p q=>Nat.lt_of_le_of_lt (Nat.le_trans (Nat.le_of_eq (Nat.add_assoc _ 1 _)) (Nat.add_le_add_left (Nat.le_trans (Nat.add_le_add_left (Nat.min_le_left _ _) 1) (Nat.le_trans (Nat.le_of_eq (Nat.add_comm 1 _)) (Nat.le_trans q (by decide)))) _)) p
theorem wX {a b:Nat}: a + 200<b→a + 1<b:=fun p=>(Nat.lt_of_le_of_lt (Nat.succ_le_succ (Nat.le_add_right _ _)) p)
theorem xa {a b c d:Nat}: a + 200<d→b≤64→a + min b c<d:=fun p q=>Nat.lt_of_le_of_lt (Nat.add_le_add_left (Nat.le_trans (Nat.min_le_left _ _) (Nat.le_trans q (by decide))) _) p
theorem xm {a b:Nat}{c:Prop}{d:Nat}: b<1000∧c→a=d→d=b→a≤2 ^ 24:=fun p q r=>(Nat.le_trans (Nat.le_of_lt (Mine.elt q (Mine.elt r p.1))) (by decide))
theorem wE {a b:Nat}{c:Prop}{d:Nat}: b<1000∧c→d=b→a=d→a≤2 ^ 22:=fun p q r=>(Nat.le_trans (Nat.le_of_lt (Mine.elt r (Mine.elt q p.1))) (by decide))
theorem AM {a b:Int}: -(2:Int) ^ (60:Nat)≤a∧a<(2:Int) ^ (60:Nat)∧-(2:Int) ^ (60:Nat)≤b∧b<(2:Int) ^ (60:Nat)→-(2:Int) ^ (62:Nat)≤a:=fun p=>Int.le_trans (by decide) p.1
theorem Cu {a b:Int}: -(2:Int) ^ (60:Nat)≤a∧a<(2:Int) ^ (60:Nat)∧-(2:Int) ^ (60:Nat)≤b∧b<(2:Int) ^ (60:Nat)→a<(2:Int) ^ (62:Nat):=fun p=>Int.lt_trans p.2.1 (by decide)
theorem AF {a b:Int}: -(2:Int) ^ (60:Nat)≤b∧b<(2:Int) ^ (60:Nat)∧-(2:Int) ^ (60:Nat)≤a∧a<(2:Int) ^ (60:Nat)→-(2:Int) ^ (62:Nat)≤a:=fun p=>Int.le_trans (by decide) p.2.2.1
theorem AY {a b:Int}: -(2:Int) ^ (60:Nat)≤b∧b<(2:Int) ^ (60:Nat)∧-(2:Int) ^ (60:Nat)≤a∧a<(2:Int) ^ (60:Nat)→a<(2:Int) ^ (62:Nat):=fun p=>Int.lt_trans p.2.2.2 (by decide)
theorem Au {a b:Int}: (a - b).toNat≤(1000000:Nat)→(a - b).toNat≤(2:Nat) ^ (22:Nat):=fun p=>(Nat.le_trans p (by decide))
theorem rz {a b:Nat}: b<a→a + 1 - (b + 1)<a + 1 - b:=fun p=>Nat.sub_lt_sub_left (Nat.lt_succ_of_lt p) (Nat.lt_succ_self _)
theorem DH {a b:Nat}{c:Prop}{d:Nat}: b≤2 ^ 22∧c→a≤d→d<b→a≤2 ^ 24:=fun p q r=>(Nat.le_trans q (Nat.le_trans (Nat.le_trans (Nat.le_of_lt r) p.1) (by decide)))
theorem wx {a b:Nat}: a≤b→¬a<b→a=b:=fun p q=>(Nat.le_antisymm p (Nat.le_of_not_lt q))
theorem BW {a:Nat}: a≤0→a=0:=fun p=>(Nat.eq_zero_of_le_zero p)
theorem xh {a b:Nat}: a≤b + 1→¬a=b + 1→a≤b:=fun p q=>(Nat.le_of_lt_succ (Nat.lt_of_le_of_ne p q))
theorem CQ {a b c:Int}: b > c→a≤c→a≤b:=fun p q=>(Int.le_trans q (Int.le_of_lt p))
theorem AU {a b:Int}: ¬a > b→a≤b:=fun p=>(Int.not_lt.mp p)
theorem CF {a b:Nat}: 0<b→a≤b - 1→a<b:=fun p q=>(Nat.lt_of_le_of_lt q (Nat.sub_lt p (by decide)))
theorem AT {a b:Nat}: a<b→a≤b - 1:=fun p=>(Nat.le_sub_one_of_lt p)
theorem xC {a:Nat}: ¬(↑a:Int)<(0:Int):=(Int.not_lt.mpr (Int.natCast_nonneg _))
theorem A5 {a b:Nat}: ¬b<a→a≤b:=fun p=>(Nat.le_of_not_lt p)
theorem wm {a:Nat}{b:Prop}: a≤2 ^ 22∧b→a≤2 ^ 24:=fun p=>(Nat.le_trans p.1 (by decide))
theorem AR {a:Int}{b:Nat}{c:Prop}{d:Nat}: ¬(c∨a<(0:Int)∨(↑d:Int)≤a)→b=d→a.toNat<b:=fun p q=>q▸(Int.toNat_lt (Int.not_lt.mp fun g=>p (.inr (.inl g)))).mpr (Int.not_le.mp fun g=>p (.inr (.inr g)))
theorem CY {a:Int}{b:Prop}{c:Nat}{d:Prop}: ¬(b∨a<(0:Int)∨(↑c:Int)≤a)→c≤(2:Nat) ^ (22:Nat)∧d→(-9223372036854775808:Int)≤a∧a<(9223372036854775808:Int):=fun p q=>And.intro (Int.le_trans (by decide) (Int.not_lt.mp fun g=>p (.inr (.inl g)))) (Int.lt_trans (Int.not_le.mp fun g=>p (.inr (.inr g))) (Int.lt_of_le_of_lt (Int.ofNat_le.mpr q.1) (by decide)))
theorem wY {a:Nat}: a≤1000000→a≤2 ^ 24:=fun p=>(Nat.le_trans p (by decide))
theorem Dx {a:Nat}: a<1000000→a + 1≤2 ^ 22:=fun p=>(Nat.le_trans (Nat.succ_le_of_lt p) (by decide))
theorem w6 {a:Nat}: a<1000000→a≤2 ^ 24:=fun p=>(Nat.le_trans (Nat.le_of_lt p) (by decide))
theorem DB:1≤16777216:=by decide
theorem A2 {a b c:Nat}: a + 2 * b + 4<c→a + 2 * b + 1<c:=fun p=>(Nat.lt_of_le_of_lt (Nat.succ_le_succ (Nat.le_add_right _ _)) p)
theorem AS {a b c:Nat}: a + 100 * b + 300<c→a + 100 * b + 200<c:=fun p=>(Nat.lt_of_le_of_lt (Nat.add_le_add_left (Nat.le_add_left _ _) _) p)
theorem Ay {a b c:Nat}: a + 2 * b + 5<c→a + 1 + 2 * b + 4<c:=fun p=>by rw [Nat.add_right_comm _ 1]; exact p
theorem Cs {a b c:Nat}: a + 100 * b + 303<c→a + 3 + 100 * b + 300<c:=fun p=>by rw [Nat.add_right_comm _ 3]; exact p
theorem Bv {a b c d e:Nat}: a + 2 * (c + 1) + 4<b∧d + 100 * (c + 1) + 300<e→a<b:=fun p=>(Mine.nxl (Mine.nxl p.1))
theorem BH {a b:Nat}: a + 100 * b + 303≤a + 100 * (b + 1) + 300:=by lia
theorem CH {a:Nat}: a≤8→a≤16777216:=fun p=>(Nat.le_trans p (by decide))
theorem AJ {a:Nat}: a≤1→1 + 3 * a≤50:=fun p=>Nat.le_trans (Nat.add_le_add_left (Nat.mul_le_mul_left 3 p) 1) (by decide)
theorem BU {a b:Nat}: b≤50→a + b≤a + 50:=fun p=>(Nat.add_le_add_left p _)
theorem De {a b c:Nat}: a + 2 * (c + 1) + 4<b→a + 1<b:=fun p=>Nat.lt_of_le_of_lt (Nat.add_le_add (Nat.le_add_right _ _) (by decide)) p
theorem Cw {a b c:Nat}: a + 2 * (b + 1) + 4<c→a + 1 + 2 * b + 5<c:=fun p=>by rw [Nat.add_right_comm _ 1]; exact p
theorem BI {a b c:Nat}: a≤c + 50→a + 100 * b + 303≤c + 100 * (b + 1) + 300:=by intro p; lia
theorem A4 {a b:Nat}: a + b≤1000000→a + b≤2 ^ 22:=fun p=>(Nat.le_trans p (by decide))
theorem Cq {a b:Nat}: a + b≤1000000→a + b≤2 ^ 24:=fun p=>(Nat.le_trans p (by decide))
theorem BF {a:Nat}{b:Int}: ¬(b=(0:Int)∨(1000000000:Nat)≤a)→a<(1073741824:Nat):=fun p=>Nat.lt_trans (Nat.lt_of_not_le fun g=>p (.inr g)) (by decide)
theorem CL {a:Int}{b:Nat}: (0:Int)≤a∧a≤(1000:Int)∧b<(2:Nat) ^ (63:Nat)→a≤(1000000:Int):=fun p=>Int.le_trans p.2.1 (by decide)
theorem Bj {a:Nat}{b:Int}: (0:Int)≤b∧b≤(1000:Int)∧a<(2:Nat) ^ (63:Nat)→a<(2:Nat) ^ (64:Nat):=fun p=>Nat.lt_trans p.2.2 (by decide)
theorem C6 {a:Nat}: a≤60→1 + 300 + 2 * a + 4<1000:=fun p=>Nat.lt_of_le_of_lt (Nat.add_le_add_right (Nat.add_le_add_left (Nat.mul_le_mul_left 2 p) _) 4) (by decide)
theorem Bk {a:Nat}: a≤60→4 + 100 * a + 300<9900:=fun p=>Nat.lt_of_le_of_lt (Nat.add_le_add_right (Nat.add_le_add_left (Nat.mul_le_mul_left 100 p) _) 300) (by decide)
theorem A7 {a:Nat}: a≤50→a + 1≤60:=fun p=>(Nat.le_trans (Nat.succ_le_succ p) (by decide))
theorem Bb {a b:Int}: ¬a<b→¬a + (1:Int)<b:=fun p=>(Int.not_lt.mpr (Int.le_of_lt (Int.lt_add_one_of_le (Int.not_lt.mp p))))
theorem Ba {a:Int}: a + (1:Int) - (1:Int)=a:=Int.add_sub_cancel _ _
theorem AG {a b:Int}: a≠b→¬a<b→¬a - (1:Int)<b:=fun p q=>fun g=>p (Int.le_antisymm (Int.le_of_sub_one_lt g) (Int.not_lt.mp q))
theorem AA {a:Int}: a - (1:Int) + (1:Int)=a:=Int.sub_add_cancel _ _
theorem Bt {a b c:Int}: a<b→¬c<b→a=c + (1:Int)→False:=fun p q r=>q (Int.lt_trans (r▸Int.lt_add_one_of_le (Int.le_refl _)) p)
theorem C4 {a b:Int}: a=b + (1:Int)→a - (1:Int)=b:=fun p=>by subst p; exact Int.add_sub_cancel _ _
theorem mQ {a b:Nat}: b≤1000→a≤b→a<1000000:=fun p q=>(Nat.lt_of_le_of_lt q (Nat.lt_of_le_of_lt p (by decide)))
theorem wW {a:Int}{b:Nat}: (0:Int)≤a∧a<(↑b:Int)→a.toNat<b:=fun p=>(Mine.tln p.1 p.2)
theorem AL {a b:Int}: (0:Int)≤a∧a<b→(0:Int)≤a∧a<b:=by intro p; omega
theorem Cy {a b:Int}: ¬((0:Int)≤a∧a<b)→a<(0:Int)∨b≤a:=fun p=>(Int.lt_or_le a 0).elim Or.inl (fun g=>Or.inr (Int.not_lt.mp fun q=>p ⟨g,q⟩))
theorem Be {a:Nat}: a + 1≤100→a≤100:=fun p=>(Mine.nxe p)
theorem xo {a b:Nat}: a + (b + 1)≤63→a≤63:=fun p=>(Mine.nxe p)
theorem CV {a b:Int}: b<a→¬a<b:=fun p=>(Int.not_lt.mpr (Int.le_of_lt p))
theorem wP {a b:Nat}: a≤b→b≤63→a<1000000:=fun p q=>(Nat.lt_of_le_of_lt p (Nat.lt_of_le_of_lt q (by decide)))
theorem xb {a b:Nat}: a≤b→a≤b:=by intro p; omega
theorem xB {a:Nat}: a≤1000→a<1000000:=fun p=>(Nat.lt_of_le_of_lt p (by decide))
theorem BR {a b c:Nat}: b≤c→a=b→c≤63→a≤63:=fun p q r=>(Nat.le_trans (Mine.ele q p) r)
theorem Bi {a b c:Nat}: b≤c→a=b→c≤63→a≤1000:=fun p q r=>(Nat.le_trans (Nat.le_trans (Mine.ele q p) r) (by decide))
theorem DF {a:Int}: (0:Int)≤a∧a<(↑(0:Nat):Int)→False:=fun p=>(absurd (Int.lt_of_le_of_lt p.1 p.2) (by decide))
theorem Ci {a:Nat}: a≤63→a<64:=fun p=>(Nat.lt_of_le_of_lt p (by decide))
theorem CS {a:Nat}: (0:Int)≤(↑a:Int)∧(↑a:Int)<(↑a:Int)→False:=fun p=>(absurd p.2 (Int.not_lt.mpr (Int.le_of_lt p.2)))
theorem BK {a:Int}{b:Nat}: (0:Int)≤(-1:Int) - a % (3:Int)∧(-1:Int) - a % (3:Int)<(↑b:Int)→False:=by intro p; lia
theorem BO {a:Nat}: a≤(100:Nat)→(0:Int)≤(10:Int) ^ (12:Nat)∧(10:Int) ^ (12:Nat)<(↑a:Int)→False:=fun p q=>(absurd (Nat.lt_of_lt_of_le (Mine.tln q.1 q.2) p) (by decide))
theorem Ct {a:Nat}: a≠0→a=a - 1 + 1:=fun p=>(Nat.succ_pred_eq_of_ne_zero p).symm
theorem wT {a:Nat}: (↑(a + (1:Nat)):Int)≠(0:Int):=(Int.ne_of_gt (Int.natCast_pos.mpr (Nat.succ_pos _)))
theorem BE {a:Int}{b:Nat}: a<(↑(b + (1:Nat)):Int)→a<(↑b:Int) + (1:Int):=fun p=>Int.natCast_succ _▸p
end Mine
namespace Mine
theorem aF  {p0 p1:Prop}  (h0:p0 ) (h1:p1 ):p0∧p1:=⟨h0,h1⟩
theorem bW  {p0 p1 p2:Prop}  (h0:p0 ) (h1:p1 ) (h2:p2 ):p0∧p1∧p2:=⟨h0,h1,h2⟩
theorem bx  {p0 p1 p2 p3:Prop}  (h0:p0 ) (h1:p1 ) (h2:p2 ) (h3:p3 ):p0∧p1∧p2∧p3:=⟨h0,h1,h2,h3⟩
theorem cf  {p0 p1 p2 p3 p4:Prop}  (h0:p0 ) (h1:p1 ) (h2:p2 ) (h3:p3 ) (h4:p4 ):p0∧p1∧p2∧p3∧p4:=⟨h0,h1,h2,h3,h4⟩
theorem c8  {p0 p1 p2 p3 p4 p5:Prop}  (h0:p0 ) (h1:p1 ) (h2:p2 ) (h3:p3 ) (h4:p4 ) (h5:p5 ):p0∧p1∧p2∧p3∧p4∧p5:=⟨h0,h1,h2,h3,h4,h5⟩
theorem xc  {p0 p1 p2 p3 p4 p5 p6:Prop}  (h0:p0 ) (h1:p1 ) (h2:p2 ) (h3:p3 ) (h4:p4 ) (h5:p5 ) (h6:p6 ):p0∧p1∧p2∧p3∧p4∧p5∧p6:=⟨h0,h1,h2,h3,h4,h5,h6⟩
theorem bJ.{u0}{A:Sort u0}{p0:A→Prop} (a:A) (h0:p0 a):∃ a,p0 a:=⟨a,h0⟩
theorem ah.{u0}{A:Sort u0}{p0 p1:A→Prop} (a:A) (h0:p0 a) (h1:p1 a):∃ a,p0 a∧p1 a:=⟨a,h0,h1⟩
theorem ax.{u0}{A:Sort u0}{p0 p1 p2:A→Prop} (a:A) (h0:p0 a) (h1:p1 a) (h2:p2 a):∃ a,p0 a∧p1 a∧p2 a:=⟨a,h0,h1,h2⟩
theorem ba.{u0}{A:Sort u0}{p0 p1 p2 p3:A→Prop} (a:A) (h0:p0 a) (h1:p1 a) (h2:p2 a) (h3:p3 a):∃ a,p0 a∧p1 a∧p2 a∧p3 a:=⟨a,h0,h1,h2,h3⟩
theorem ij.{u0}{A:Sort u0}{p0 p1 p2 p3 p4:A→Prop} (a:A) (h0:p0 a) (h1:p1 a) (h2:p2 a) (h3:p3 a) (h4:p4 a):∃ a,p0 a∧p1 a∧p2 a∧p3 a∧p4 a:=⟨a,h0,h1,h2,h3,h4⟩
theorem jf.{u0}{A:Sort u0}{p0 p1 p2 p3 p4 p5:A→Prop} (a:A) (h0:p0 a) (h1:p1 a) (h2:p2 a) (h3:p3 a) (h4:p4 a) (h5:p5 a):∃ a,p0 a∧p1 a∧p2 a∧p3 a∧p4 a∧p5 a:=⟨a,h0,h1,h2,h3,h4,h5⟩
theorem qy.{u0}{A:Sort u0}{p0 p1 p2 p3 p4 p5 p6:A→Prop} (a:A) (h0:p0 a) (h1:p1 a) (h2:p2 a) (h3:p3 a) (h4:p4 a) (h5:p5 a) (h6:p6 a):∃ a,p0 a∧p1 a∧p2 a∧p3 a∧p4 a∧p5 a∧p6 a:=⟨a,h0,h1,h2,h3,h4,h5,h6⟩
theorem bE.{u0,u1}{A:Sort u0}{B:Sort u1}{p0:A→B→Prop} (a:A) (b:B) (h0:p0 a b):∃ a b,p0 a b:=⟨a,b,h0⟩
theorem aA.{u0,u1}{A:Sort u0}{B:Sort u1}{p0 p1:A→B→Prop} (a:A) (b:B) (h0:p0 a b) (h1:p1 a b):∃ a b,p0 a b∧p1 a b:=⟨a,b,h0,h1⟩
theorem aS.{u0,u1}{A:Sort u0}{B:Sort u1}{p0 p1 p2:A→B→Prop} (a:A) (b:B) (h0:p0 a b) (h1:p1 a b) (h2:p2 a b):∃ a b,p0 a b∧p1 a b∧p2 a b:=⟨a,b,h0,h1,h2⟩
theorem aU.{u0,u1}{A:Sort u0}{B:Sort u1}{p0 p1 p2 p3:A→B→Prop} (a:A) (b:B) (h0:p0 a b) (h1:p1 a b) (h2:p2 a b) (h3:p3 a b):∃ a b,p0 a b∧p1 a b∧p2 a b∧p3 a b:=⟨a,b,h0,h1,h2,h3⟩
theorem d9.{u0,u1}{A:Sort u0}{B:Sort u1}{p0 p1 p2 p3 p4:A→B→Prop} (a:A) (b:B) (h0:p0 a b) (h1:p1 a b) (h2:p2 a b) (h3:p3 a b) (h4:p4 a b):∃ a b,p0 a b∧p1 a b∧p2 a b∧p3 a b∧p4 a b:=⟨a,b,h0,h1,h2,h3,h4⟩
theorem ja.{u0,u1}{A:Sort u0}{B:Sort u1}{p0 p1 p2 p3 p4 p5:A→B→Prop} (a:A) (b:B) (h0:p0 a b) (h1:p1 a b) (h2:p2 a b) (h3:p3 a b) (h4:p4 a b) (h5:p5 a b):∃ a b,p0 a b∧p1 a b∧p2 a b∧p3 a b∧p4 a b∧p5 a b:=⟨a,b,h0,h1,h2,h3,h4,h5⟩
theorem dy.{u0,u1}{A:Sort u0}{B:Sort u1}{p0 p1 p2 p3 p4 p5 p6:A→B→Prop} (a:A) (b:B) (h0:p0 a b) (h1:p1 a b) (h2:p2 a b) (h3:p3 a b) (h4:p4 a b) (h5:p5 a b) (h6:p6 a b):∃ a b,p0 a b∧p1 a b∧p2 a b∧p3 a b∧p4 a b∧p5 a b∧p6 a b:=⟨a,b,h0,h1,h2,h3,h4,h5,h6⟩
theorem zW.{u0,u1}{A:Sort u0}{B:Sort u1}{p0 p1 p2 p3 p4 p5 p6 p7 p8 p9:A→B→Prop} (a:A) (b:B) (h0:p0 a b) (h1:p1 a b) (h2:p2 a b) (h3:p3 a b) (h4:p4 a b) (h5:p5 a b) (h6:p6 a b) (h7:p7 a b) (h8:p8 a b) (h9:p9 a b):∃ a b,p0 a b∧p1 a b∧p2 a b∧p3 a b∧p4 a b∧p5 a b∧p6 a b∧p7 a b∧p8 a b∧p9 a b:=⟨a,b,h0,h1,h2,h3,h4,h5,h6,h7,h8,h9⟩
theorem bT.{u0,u1,u2}{A:Sort u0}{B:Sort u1}{C:Sort u2}{p0 p1:A→B→C→Prop} (a:A) (b:B) (c:C) (h0:p0 a b c) (h1:p1 a b c):∃ a b c,p0 a b c∧p1 a b c:=⟨a,b,c,h0,h1⟩
theorem ce.{u0,u1,u2}{A:Sort u0}{B:Sort u1}{C:Sort u2}{p0 p1 p2:A→B→C→Prop} (a:A) (b:B) (c:C) (h0:p0 a b c) (h1:p1 a b c) (h2:p2 a b c):∃ a b c,p0 a b c∧p1 a b c∧p2 a b c:=⟨a,b,c,h0,h1,h2⟩
theorem fB.{u0,u1,u2}{A:Sort u0}{B:Sort u1}{C:Sort u2}{p0 p1 p2 p3:A→B→C→Prop} (a:A) (b:B) (c:C) (h0:p0 a b c) (h1:p1 a b c) (h2:p2 a b c) (h3:p3 a b c):∃ a b c,p0 a b c∧p1 a b c∧p2 a b c∧p3 a b c:=⟨a,b,c,h0,h1,h2,h3⟩
theorem qJ.{u0,u1,u2}{A:Sort u0}{B:Sort u1}{C:Sort u2}{p0 p1 p2 p3 p4:A→B→C→Prop} (a:A) (b:B) (c:C) (h0:p0 a b c) (h1:p1 a b c) (h2:p2 a b c) (h3:p3 a b c) (h4:p4 a b c):∃ a b c,p0 a b c∧p1 a b c∧p2 a b c∧p3 a b c∧p4 a b c:=⟨a,b,c,h0,h1,h2,h3,h4⟩
theorem eO.{u0,u1,u2}{A:Sort u0}{B:Sort u1}{C:Sort u2}{p0 p1 p2 p3 p4 p5:A→B→C→Prop} (a:A) (b:B) (c:C) (h0:p0 a b c) (h1:p1 a b c) (h2:p2 a b c) (h3:p3 a b c) (h4:p4 a b c) (h5:p5 a b c):∃ a b c,p0 a b c∧p1 a b c∧p2 a b c∧p3 a b c∧p4 a b c∧p5 a b c:=⟨a,b,c,h0,h1,h2,h3,h4,h5⟩
theorem jW.{u0,u1,u2}{A:Sort u0}{B:Sort u1}{C:Sort u2}{p0 p1 p2 p3 p4 p5 p6:A→B→C→Prop} (a:A) (b:B) (c:C) (h0:p0 a b c) (h1:p1 a b c) (h2:p2 a b c) (h3:p3 a b c) (h4:p4 a b c) (h5:p5 a b c) (h6:p6 a b c):∃ a b c,p0 a b c∧p1 a b c∧p2 a b c∧p3 a b c∧p4 a b c∧p5 a b c∧p6 a b c:=⟨a,b,c,h0,h1,h2,h3,h4,h5,h6⟩
theorem eK.{u0,u1,u2,u3}{A:Sort u0}{B:Sort u1}{C:Sort u2}{D:Sort u3}{p0 p1:A→B→C→D→Prop} (a:A) (b:B) (c:C) (d:D) (h0:p0 a b c d) (h1:p1 a b c d):∃ a b c d,p0 a b c d∧p1 a b c d:=⟨a,b,c,d,h0,h1⟩
theorem gN.{u0,u1,u2,u3}{A:Sort u0}{B:Sort u1}{C:Sort u2}{D:Sort u3}{p0 p1 p2 p3:A→B→C→D→Prop} (a:A) (b:B) (c:C) (d:D) (h0:p0 a b c d) (h1:p1 a b c d) (h2:p2 a b c d) (h3:p3 a b c d):∃ a b c d,p0 a b c d∧p1 a b c d∧p2 a b c d∧p3 a b c d:=⟨a,b,c,d,h0,h1,h2,h3⟩
theorem jd.{u0,u1,u2,u3}{A:Sort u0}{B:Sort u1}{C:Sort u2}{D:Sort u3}{p0 p1 p2 p3 p4:A→B→C→D→Prop} (a:A) (b:B) (c:C) (d:D) (h0:p0 a b c d) (h1:p1 a b c d) (h2:p2 a b c d) (h3:p3 a b c d) (h4:p4 a b c d):∃ a b c d,p0 a b c d∧p1 a b c d∧p2 a b c d∧p3 a b c d∧p4 a b c d:=⟨a,b,c,d,h0,h1,h2,h3,h4⟩
theorem tH.{u0,u1,u2,u3}{A:Sort u0}{B:Sort u1}{C:Sort u2}{D:Sort u3}{p0 p1 p2 p3 p4 p5 p6 p7:A→B→C→D→Prop} (a:A) (b:B) (c:C) (d:D) (h0:p0 a b c d) (h1:p1 a b c d) (h2:p2 a b c d) (h3:p3 a b c d) (h4:p4 a b c d) (h5:p5 a b c d) (h6:p6 a b c d) (h7:p7 a b c d):∃ a b c d,p0 a b c d∧p1 a b c d∧p2 a b c d∧p3 a b c d∧p4 a b c d∧p5 a b c d∧p6 a b c d∧p7 a b c d:=⟨a,b,c,d,h0,h1,h2,h3,h4,h5,h6,h7⟩
theorem qv.{u0,u1,u2,u3,u4}{A:Sort u0}{B:Sort u1}{C:Sort u2}{D:Sort u3}{E:Sort u4}{p0 p1:A→B→C→D→E→Prop} (a:A) (b:B) (c:C) (d:D) (e:E) (h0:p0 a b c d e) (h1:p1 a b c d e):∃ a b c d e,p0 a b c d e∧p1 a b c d e:=⟨a,b,c,d,e,h0,h1⟩
theorem qL.{u0,u1,u2,u3,u4}{A:Sort u0}{B:Sort u1}{C:Sort u2}{D:Sort u3}{E:Sort u4}{p0 p1 p2 p3:A→B→C→D→E→Prop} (a:A) (b:B) (c:C) (d:D) (e:E) (h0:p0 a b c d e) (h1:p1 a b c d e) (h2:p2 a b c d e) (h3:p3 a b c d e):∃ a b c d e,p0 a b c d e∧p1 a b c d e∧p2 a b c d e∧p3 a b c d e:=⟨a,b,c,d,e,h0,h1,h2,h3⟩
theorem qW.{u0,u1,u2,u3,u4,u5}{A:Sort u0}{B:Sort u1}{C:Sort u2}{D:Sort u3}{E:Sort u4}{F:Sort u5}{p0 p1:A→B→C→D→E→F→Prop} (a:A) (b:B) (c:C) (d:D) (e:E) (f:F) (h0:p0 a b c d e f) (h1:p1 a b c d e f):∃ a b c d e f,p0 a b c d e f∧p1 a b c d e f:=⟨a,b,c,d,e,f,h0,h1⟩
theorem kv.{u0,u1,u2,u3,u4,u5,u6}{A:Sort u0}{B:Sort u1}{C:Sort u2}{D:Sort u3}{E:Sort u4}{F:Sort u5}{H:Sort u6}{p0 p1:A→B→C→D→E→F→H→Prop} (a:A) (b:B) (c:C) (d:D) (e:E) (f:F) (g:H) (h0:p0 a b c d e f g) (h1:p1 a b c d e f g):∃ a b c d e f g,p0 a b c d e f g∧p1 a b c d e f g:=⟨a,b,c,d,e,f,g,h0,h1⟩
theorem zy.{u0,u1,u2,u3,u4,u5,u6}{A:Sort u0}{B:Sort u1}{C:Sort u2}{D:Sort u3}{E:Sort u4}{F:Sort u5}{H:Sort u6}{p0 p1 p2 p3 p4 p5 p6:A→B→C→D→E→F→H→Prop} (a:A) (b:B) (c:C) (d:D) (e:E) (f:F) (g:H) (h0:p0 a b c d e f g) (h1:p1 a b c d e f g) (h2:p2 a b c d e f g) (h3:p3 a b c d e f g) (h4:p4 a b c d e f g) (h5:p5 a b c d e f g) (h6:p6 a b c d e f g):∃ a b c d e f g,p0 a b c d e f g∧p1 a b c d e f g∧p2 a b c d e f g∧p3 a b c d e f g∧p4 a b c d e f g∧p5 a b c d e f g∧p6 a b c d e f g:=⟨a,b,c,d,e,f,g,h0,h1,h2,h3,h4,h5,h6⟩
theorem y6.{u0,u1,u2,u3,u4,u5,u6,u7}{A:Sort u0}{B:Sort u1}{C:Sort u2}{D:Sort u3}{E:Sort u4}{F:Sort u5}{H:Sort u6}{I:Sort u7}{p0 p1:A→B→C→D→E→F→H→I→Prop} (a:A) (b:B) (c:C) (d:D) (e:E) (f:F) (g:H) (i:I) (h0:p0 a b c d e f g i) (h1:p1 a b c d e f g i):∃ a b c d e f g i,p0 a b c d e f g i∧p1 a b c d e f g i:=⟨a,b,c,d,e,f,g,i,h0,h1⟩
theorem gc.{u0,u1,u2,u3,u4,u5,u6,u7}{A:Sort u0}{B:Sort u1}{C:Sort u2}{D:Sort u3}{E:Sort u4}{F:Sort u5}{H:Sort u6}{I:Sort u7}{p0 p1 p2 p3 p4 p5 p6 p7 p8 p9 p10 p11 p12 p13:A→B→C→D→E→F→H→I→Prop} (a:A) (b:B) (c:C) (d:D) (e:E) (f:F) (g:H) (i:I) (h0:p0 a b c d e f g i) (h1:p1 a b c d e f g i) (h2:p2 a b c d e f g i) (h3:p3 a b c d e f g i) (h4:p4 a b c d e f g i) (h5:p5 a b c d e f g i) (h6:p6 a b c d e f g i) (h7:p7 a b c d e f g i) (h8:p8 a b c d e f g i) (h9:p9 a b c d e f g i) (h10:p10 a b c d e f g i) (h11:p11 a b c d e f g i) (h12:p12 a b c d e f g i) (h13:p13 a b c d e f g i):∃ a b c d e f g i,p0 a b c d e f g i∧p1 a b c d e f g i∧p2 a b c d e f g i∧p3 a b c d e f g i∧p4 a b c d e f g i∧p5 a b c d e f g i∧p6 a b c d e f g i∧p7 a b c d e f g i∧p8 a b c d e f g i∧p9 a b c d e f g i∧p10 a b c d e f g i∧p11 a b c d e f g i∧p12 a b c d e f g i∧p13 a b c d e f g i:=⟨a,b,c,d,e,f,g,i,h0,h1,h2,h3,h4,h5,h6,h7,h8,h9,h10,h11,h12,h13⟩
theorem mZ.{u0,u1,u2,u3,u4,u5,u6,u7,u8}{A:Sort u0}{B:Sort u1}{C:Sort u2}{D:Sort u3}{E:Sort u4}{F:Sort u5}{H:Sort u6}{I:Sort u7}{J:Sort u8}{p0 p1 p2 p3 p4 p5 p6 p7 p8 p9 p10 p11 p12 p13:A→B→C→D→E→F→H→I→J→Prop} (a:A) (b:B) (c:C) (d:D) (e:E) (f:F) (g:H) (i:I) (j:J) (h0:p0 a b c d e f g i j) (h1:p1 a b c d e f g i j) (h2:p2 a b c d e f g i j) (h3:p3 a b c d e f g i j) (h4:p4 a b c d e f g i j) (h5:p5 a b c d e f g i j) (h6:p6 a b c d e f g i j) (h7:p7 a b c d e f g i j) (h8:p8 a b c d e f g i j) (h9:p9 a b c d e f g i j) (h10:p10 a b c d e f g i j) (h11:p11 a b c d e f g i j) (h12:p12 a b c d e f g i j) (h13:p13 a b c d e f g i j):∃ a b c d e f g i j,p0 a b c d e f g i j∧p1 a b c d e f g i j∧p2 a b c d e f g i j∧p3 a b c d e f g i j∧p4 a b c d e f g i j∧p5 a b c d e f g i j∧p6 a b c d e f g i j∧p7 a b c d e f g i j∧p8 a b c d e f g i j∧p9 a b c d e f g i j∧p10 a b c d e f g i j∧p11 a b c d e f g i j∧p12 a b c d e f g i j∧p13 a b c d e f g i j:=⟨a,b,c,d,e,f,g,i,j,h0,h1,h2,h3,h4,h5,h6,h7,h8,h9,h10,h11,h12,h13⟩
end Mine
namespace Mine
section
variable {G:Prop}
theorem ae  {p0 p1:Prop} (h:p0∧p1) (k:p0→p1→G):G:=by
 obtain ⟨h0,h1⟩:=h
 exact k h0 h1
theorem aj.{u0}{A:Sort u0}{p0:A→Prop} (h:∃ a,p0 a) (k:∀ a,p0 a→G):G:=by
 obtain ⟨a,h0⟩:=h
 exact k a h0
theorem aD  {p0 p1 p2:Prop} (h:p0∧p1∧p2) (k:p0→p1→p2→G):G:=by
 obtain ⟨h0,h1,h2⟩:=h
 exact k h0 h1 h2
theorem ag.{u0}{A:Sort u0}{p0 p1:A→Prop} (h:∃ a,p0 a∧p1 a) (k:∀ a,p0 a→p1 a→G):G:=by
 obtain ⟨a,h0,h1⟩:=h
 exact k a h0 h1
theorem bi.{u0,u1}{A:Sort u0}{B:Sort u1}{p0:A→B→Prop} (h:∃ a b,p0 a b) (k:∀ a b,p0 a b→G):G:=by
 obtain ⟨a,b,h0⟩:=h
 exact k a b h0
theorem cJ  {p0 p1 p2 p3:Prop} (h:p0∧p1∧p2∧p3) (k:p0→p1→p2→p3→G):G:=by
 obtain ⟨h0,h1,h2,h3⟩:=h
 exact k h0 h1 h2 h3
theorem aq.{u0}{A:Sort u0}{p0 p1 p2:A→Prop} (h:∃ a,p0 a∧p1 a∧p2 a) (k:∀ a,p0 a→p1 a→p2 a→G):G:=by
 obtain ⟨a,h0,h1,h2⟩:=h
 exact k a h0 h1 h2
theorem au.{u0,u1}{A:Sort u0}{B:Sort u1}{p0 p1:A→B→Prop} (h:∃ a b,p0 a b∧p1 a b) (k:∀ a b,p0 a b→p1 a b→G):G:=by
 obtain ⟨a,b,h0,h1⟩:=h
 exact k a b h0 h1
theorem BZ.{u0,u1,u2}{A:Sort u0}{B:Sort u1}{C:Sort u2}{p0:A→B→C→Prop} (h:∃ a b c,p0 a b c) (k:∀ a b c,p0 a b c→G):G:=by
 obtain ⟨a,b,c,h0⟩:=h
 exact k a b c h0
theorem cy.{u0}{A:Sort u0}{p0 p1 p2 p3:A→Prop} (h:∃ a,p0 a∧p1 a∧p2 a∧p3 a) (k:∀ a,p0 a→p1 a→p2 a→p3 a→G):G:=by
 obtain ⟨a,h0,h1,h2,h3⟩:=h
 exact k a h0 h1 h2 h3
theorem az.{u0,u1}{A:Sort u0}{B:Sort u1}{p0 p1 p2:A→B→Prop} (h:∃ a b,p0 a b∧p1 a b∧p2 a b) (k:∀ a b,p0 a b→p1 a b→p2 a b→G):G:=by
 obtain ⟨a,b,h0,h1,h2⟩:=h
 exact k a b h0 h1 h2
theorem bh.{u0,u1,u2}{A:Sort u0}{B:Sort u1}{C:Sort u2}{p0 p1:A→B→C→Prop} (h:∃ a b c,p0 a b c∧p1 a b c) (k:∀ a b c,p0 a b c→p1 a b c→G):G:=by
 obtain ⟨a,b,c,h0,h1⟩:=h
 exact k a b c h0 h1
theorem Bz.{u0,u1,u2,u3}{A:Sort u0}{B:Sort u1}{C:Sort u2}{D:Sort u3}{p0:A→B→C→D→Prop} (h:∃ a b c d,p0 a b c d) (k:∀ a b c d,p0 a b c d→G):G:=by
 obtain ⟨a,b,c,d,h0⟩:=h
 exact k a b c d h0
theorem iV.{u0}{A:Sort u0}{p0 p1 p2 p3 p4:A→Prop} (h:∃ a,p0 a∧p1 a∧p2 a∧p3 a∧p4 a) (k:∀ a,p0 a→p1 a→p2 a→p3 a→p4 a→G):G:=by
 obtain ⟨a,h0,h1,h2,h3,h4⟩:=h
 exact k a h0 h1 h2 h3 h4
theorem aZ.{u0,u1}{A:Sort u0}{B:Sort u1}{p0 p1 p2 p3:A→B→Prop} (h:∃ a b,p0 a b∧p1 a b∧p2 a b∧p3 a b) (k:∀ a b,p0 a b→p1 a b→p2 a b→p3 a b→G):G:=by
 obtain ⟨a,b,h0,h1,h2,h3⟩:=h
 exact k a b h0 h1 h2 h3
theorem aL.{u0,u1,u2}{A:Sort u0}{B:Sort u1}{C:Sort u2}{p0 p1 p2:A→B→C→Prop} (h:∃ a b c,p0 a b c∧p1 a b c∧p2 a b c) (k:∀ a b c,p0 a b c→p1 a b c→p2 a b c→G):G:=by
 obtain ⟨a,b,c,h0,h1,h2⟩:=h
 exact k a b c h0 h1 h2
theorem cz.{u0,u1,u2,u3}{A:Sort u0}{B:Sort u1}{C:Sort u2}{D:Sort u3}{p0 p1:A→B→C→D→Prop} (h:∃ a b c d,p0 a b c d∧p1 a b c d) (k:∀ a b c d,p0 a b c d→p1 a b c d→G):G:=by
 obtain ⟨a,b,c,d,h0,h1⟩:=h
 exact k a b c d h0 h1
theorem g7.{u0}{A:Sort u0}{p0 p1 p2 p3 p4 p5:A→Prop} (h:∃ a,p0 a∧p1 a∧p2 a∧p3 a∧p4 a∧p5 a) (k:∀ a,p0 a→p1 a→p2 a→p3 a→p4 a→p5 a→G):G:=by
 obtain ⟨a,h0,h1,h2,h3,h4,h5⟩:=h
 exact k a h0 h1 h2 h3 h4 h5
theorem kn.{u0,u1}{A:Sort u0}{B:Sort u1}{p0 p1 p2 p3 p4:A→B→Prop} (h:∃ a b,p0 a b∧p1 a b∧p2 a b∧p3 a b∧p4 a b) (k:∀ a b,p0 a b→p1 a b→p2 a b→p3 a b→p4 a b→G):G:=by
 obtain ⟨a,b,h0,h1,h2,h3,h4⟩:=h
 exact k a b h0 h1 h2 h3 h4
theorem eh.{u0,u1,u2}{A:Sort u0}{B:Sort u1}{C:Sort u2}{p0 p1 p2 p3:A→B→C→Prop} (h:∃ a b c,p0 a b c∧p1 a b c∧p2 a b c∧p3 a b c) (k:∀ a b c,p0 a b c→p1 a b c→p2 a b c→p3 a b c→G):G:=by
 obtain ⟨a,b,c,h0,h1,h2,h3⟩:=h
 exact k a b c h0 h1 h2 h3
theorem kA.{u0,u1,u2,u3}{A:Sort u0}{B:Sort u1}{C:Sort u2}{D:Sort u3}{p0 p1 p2:A→B→C→D→Prop} (h:∃ a b c d,p0 a b c d∧p1 a b c d∧p2 a b c d) (k:∀ a b c d,p0 a b c d→p1 a b c d→p2 a b c d→G):G:=by
 obtain ⟨a,b,c,d,h0,h1,h2⟩:=h
 exact k a b c d h0 h1 h2
theorem i0.{u0,u1,u2,u3,u4}{A:Sort u0}{B:Sort u1}{C:Sort u2}{D:Sort u3}{E:Sort u4}{p0 p1:A→B→C→D→E→Prop} (h:∃ a b c d e,p0 a b c d e∧p1 a b c d e) (k:∀ a b c d e,p0 a b c d e→p1 a b c d e→G):G:=by
 obtain ⟨a,b,c,d,e,h0,h1⟩:=h
 exact k a b c d e h0 h1
theorem xl.{u0}{A:Sort u0}{p0 p1 p2 p3 p4 p5 p6:A→Prop} (h:∃ a,p0 a∧p1 a∧p2 a∧p3 a∧p4 a∧p5 a∧p6 a) (k:∀ a,p0 a→p1 a→p2 a→p3 a→p4 a→p5 a→p6 a→G):G:=by
 obtain ⟨a,h0,h1,h2,h3,h4,h5,h6⟩:=h
 exact k a h0 h1 h2 h3 h4 h5 h6
theorem xz.{u0,u1}{A:Sort u0}{B:Sort u1}{p0 p1 p2 p3 p4 p5:A→B→Prop} (h:∃ a b,p0 a b∧p1 a b∧p2 a b∧p3 a b∧p4 a b∧p5 a b) (k:∀ a b,p0 a b→p1 a b→p2 a b→p3 a b→p4 a b→p5 a b→G):G:=by
 obtain ⟨a,b,h0,h1,h2,h3,h4,h5⟩:=h
 exact k a b h0 h1 h2 h3 h4 h5
theorem qD.{u0,u1,u2}{A:Sort u0}{B:Sort u1}{C:Sort u2}{p0 p1 p2 p3 p4:A→B→C→Prop} (h:∃ a b c,p0 a b c∧p1 a b c∧p2 a b c∧p3 a b c∧p4 a b c) (k:∀ a b c,p0 a b c→p1 a b c→p2 a b c→p3 a b c→p4 a b c→G):G:=by
 obtain ⟨a,b,c,h0,h1,h2,h3,h4⟩:=h
 exact k a b c h0 h1 h2 h3 h4
theorem fI.{u0,u1,u2,u3}{A:Sort u0}{B:Sort u1}{C:Sort u2}{D:Sort u3}{p0 p1 p2 p3:A→B→C→D→Prop} (h:∃ a b c d,p0 a b c d∧p1 a b c d∧p2 a b c d∧p3 a b c d) (k:∀ a b c d,p0 a b c d→p1 a b c d→p2 a b c d→p3 a b c d→G):G:=by
 obtain ⟨a,b,c,d,h0,h1,h2,h3⟩:=h
 exact k a b c d h0 h1 h2 h3
theorem BN.{u0,u1,u2,u3,u4}{A:Sort u0}{B:Sort u1}{C:Sort u2}{D:Sort u3}{E:Sort u4}{p0 p1 p2:A→B→C→D→E→Prop} (h:∃ a b c d e,p0 a b c d e∧p1 a b c d e∧p2 a b c d e) (k:∀ a b c d e,p0 a b c d e→p1 a b c d e→p2 a b c d e→G):G:=by
 obtain ⟨a,b,c,d,e,h0,h1,h2⟩:=h
 exact k a b c d e h0 h1 h2
theorem mI.{u0,u1,u2,u3,u4,u5}{A:Sort u0}{B:Sort u1}{C:Sort u2}{D:Sort u3}{E:Sort u4}{F:Sort u5}{p0 p1:A→B→C→D→E→F→Prop} (h:∃ a b c d e f,p0 a b c d e f∧p1 a b c d e f) (k:∀ a b c d e f,p0 a b c d e f→p1 a b c d e f→G):G:=by
 obtain ⟨a,b,c,d,e,f,h0,h1⟩:=h
 exact k a b c d e f h0 h1
theorem rE.{u0,u1}{A:Sort u0}{B:Sort u1}{p0 p1 p2 p3 p4 p5 p6:A→B→Prop} (h:∃ a b,p0 a b∧p1 a b∧p2 a b∧p3 a b∧p4 a b∧p5 a b∧p6 a b) (k:∀ a b,p0 a b→p1 a b→p2 a b→p3 a b→p4 a b→p5 a b→p6 a b→G):G:=by
 obtain ⟨a,b,h0,h1,h2,h3,h4,h5,h6⟩:=h
 exact k a b h0 h1 h2 h3 h4 h5 h6
theorem cH.{u0,u1,u2}{A:Sort u0}{B:Sort u1}{C:Sort u2}{p0 p1 p2 p3 p4 p5:A→B→C→Prop} (h:∃ a b c,p0 a b c∧p1 a b c∧p2 a b c∧p3 a b c∧p4 a b c∧p5 a b c) (k:∀ a b c,p0 a b c→p1 a b c→p2 a b c→p3 a b c→p4 a b c→p5 a b c→G):G:=by
 obtain ⟨a,b,c,h0,h1,h2,h3,h4,h5⟩:=h
 exact k a b c h0 h1 h2 h3 h4 h5
theorem DC.{u0,u1,u2,u3}{A:Sort u0}{B:Sort u1}{C:Sort u2}{D:Sort u3}{p0 p1 p2 p3 p4:A→B→C→D→Prop} (h:∃ a b c d,p0 a b c d∧p1 a b c d∧p2 a b c d∧p3 a b c d∧p4 a b c d) (k:∀ a b c d,p0 a b c d→p1 a b c d→p2 a b c d→p3 a b c d→p4 a b c d→G):G:=by
 obtain ⟨a,b,c,d,h0,h1,h2,h3,h4⟩:=h
 exact k a b c d h0 h1 h2 h3 h4
theorem qS.{u0,u1,u2,u3,u4}{A:Sort u0}{B:Sort u1}{C:Sort u2}{D:Sort u3}{E:Sort u4}{p0 p1 p2 p3:A→B→C→D→E→Prop} (h:∃ a b c d e,p0 a b c d e∧p1 a b c d e∧p2 a b c d e∧p3 a b c d e) (k:∀ a b c d e,p0 a b c d e→p1 a b c d e→p2 a b c d e→p3 a b c d e→G):G:=by
 obtain ⟨a,b,c,d,e,h0,h1,h2,h3⟩:=h
 exact k a b c d e h0 h1 h2 h3
theorem jl.{u0,u1,u2,u3,u4,u5,u6}{A:Sort u0}{B:Sort u1}{C:Sort u2}{D:Sort u3}{E:Sort u4}{F:Sort u5}{H:Sort u6}{p0 p1:A→B→C→D→E→F→H→Prop} (h:∃ a b c d e f g,p0 a b c d e f g∧p1 a b c d e f g) (k:∀ a b c d e f g,p0 a b c d e f g→p1 a b c d e f g→G):G:=by
 obtain ⟨a,b,c,d,e,f,g,h0,h1⟩:=h
 exact k a b c d e f g h0 h1
theorem Af.{u0,u1,u2}{A:Sort u0}{B:Sort u1}{C:Sort u2}{p0 p1 p2 p3 p4 p5 p6:A→B→C→Prop} (h:∃ a b c,p0 a b c∧p1 a b c∧p2 a b c∧p3 a b c∧p4 a b c∧p5 a b c∧p6 a b c) (k:∀ a b c,p0 a b c→p1 a b c→p2 a b c→p3 a b c→p4 a b c→p5 a b c→p6 a b c→G):G:=by
 obtain ⟨a,b,c,h0,h1,h2,h3,h4,h5,h6⟩:=h
 exact k a b c h0 h1 h2 h3 h4 h5 h6
theorem zS.{u0,u1,u2,u3,u4}{A:Sort u0}{B:Sort u1}{C:Sort u2}{D:Sort u3}{E:Sort u4}{p0 p1 p2 p3 p4:A→B→C→D→E→Prop} (h:∃ a b c d e,p0 a b c d e∧p1 a b c d e∧p2 a b c d e∧p3 a b c d e∧p4 a b c d e) (k:∀ a b c d e,p0 a b c d e→p1 a b c d e→p2 a b c d e→p3 a b c d e→p4 a b c d e→G):G:=by
 obtain ⟨a,b,c,d,e,h0,h1,h2,h3,h4⟩:=h
 exact k a b c d e h0 h1 h2 h3 h4
theorem z8.{u0,u1,u2,u3,u4,u5,u6,u7}{A:Sort u0}{B:Sort u1}{C:Sort u2}{D:Sort u3}{E:Sort u4}{F:Sort u5}{H:Sort u6}{I:Sort u7}{p0 p1:A→B→C→D→E→F→H→I→Prop} (h:∃ a b c d e f g i,p0 a b c d e f g i∧p1 a b c d e f g i) (k:∀ a b c d e f g i,p0 a b c d e f g i→p1 a b c d e f g i→G):G:=by
 obtain ⟨a,b,c,d,e,f,g,i,h0,h1⟩:=h
 exact k a b c d e f g i h0 h1
theorem yZ.{u0,u1,u2,u3,u4}{A:Sort u0}{B:Sort u1}{C:Sort u2}{D:Sort u3}{E:Sort u4}{p0 p1 p2 p3 p4 p5:A→B→C→D→E→Prop} (h:∃ a b c d e,p0 a b c d e∧p1 a b c d e∧p2 a b c d e∧p3 a b c d e∧p4 a b c d e∧p5 a b c d e) (k:∀ a b c d e,p0 a b c d e→p1 a b c d e→p2 a b c d e→p3 a b c d e→p4 a b c d e→p5 a b c d e→G):G:=by
 obtain ⟨a,b,c,d,e,h0,h1,h2,h3,h4,h5⟩:=h
 exact k a b c d e h0 h1 h2 h3 h4 h5
theorem zO.{u0,u1}{A:Sort u0}{B:Sort u1}{p0 p1 p2 p3 p4 p5 p6 p7 p8 p9:A→B→Prop} (h:∃ a b,p0 a b∧p1 a b∧p2 a b∧p3 a b∧p4 a b∧p5 a b∧p6 a b∧p7 a b∧p8 a b∧p9 a b) (k:∀ a b,p0 a b→p1 a b→p2 a b→p3 a b→p4 a b→p5 a b→p6 a b→p7 a b→p8 a b→p9 a b→G):G:=by
 obtain ⟨a,b,h0,h1,h2,h3,h4,h5,h6,h7,h8,h9⟩:=h
 exact k a b h0 h1 h2 h3 h4 h5 h6 h7 h8 h9
theorem zh.{u0,u1,u2,u3}{A:Sort u0}{B:Sort u1}{C:Sort u2}{D:Sort u3}{p0 p1 p2 p3 p4 p5 p6 p7:A→B→C→D→Prop} (h:∃ a b c d,p0 a b c d∧p1 a b c d∧p2 a b c d∧p3 a b c d∧p4 a b c d∧p5 a b c d∧p6 a b c d∧p7 a b c d) (k:∀ a b c d,p0 a b c d→p1 a b c d→p2 a b c d→p3 a b c d→p4 a b c d→p5 a b c d→p6 a b c d→p7 a b c d→G):G:=by
 obtain ⟨a,b,c,d,h0,h1,h2,h3,h4,h5,h6,h7⟩:=h
 exact k a b c d h0 h1 h2 h3 h4 h5 h6 h7
theorem dW.{u0,u1,u2,u3,u4,u5,u6,u7,u8,u9,u10,u11}{A:Sort u0}{B:Sort u1}{C:Sort u2}{D:Sort u3}{E:Sort u4}{F:Sort u5}{H:Sort u6}{I:Sort u7}{J:Sort u8}{K:Sort u9}{L:Sort u10}{M:Sort u11}{p0:A→B→C→D→E→F→H→I→J→K→L→M→Prop} (h:∃ a b c d e f g i j l m n,p0 a b c d e f g i j l m n) (k:∀ a b c d e f g i j l m n,p0 a b c d e f g i j l m n→G):G:=by
 obtain ⟨a,b,c,d,e,f,g,i,j,l,m,n,h0⟩:=h
 exact k a b c d e f g i j l m n h0
theorem tq.{u0,u1,u2,u3}{A:Sort u0}{B:Sort u1}{C:Sort u2}{D:Sort u3}{p0 p1 p2 p3 p4 p5 p6 p7 p8 p9:A→B→C→D→Prop} (h:∃ a b c d,p0 a b c d∧p1 a b c d∧p2 a b c d∧p3 a b c d∧p4 a b c d∧p5 a b c d∧p6 a b c d∧p7 a b c d∧p8 a b c d∧p9 a b c d) (k:∀ a b c d,p0 a b c d→p1 a b c d→p2 a b c d→p3 a b c d→p4 a b c d→p5 a b c d→p6 a b c d→p7 a b c d→p8 a b c d→p9 a b c d→G):G:=by
 obtain ⟨a,b,c,d,h0,h1,h2,h3,h4,h5,h6,h7,h8,h9⟩:=h
 exact k a b c d h0 h1 h2 h3 h4 h5 h6 h7 h8 h9
theorem rX.{u0,u1}{A:Sort u0}{B:Sort u1}{p0 p1 p2 p3 p4 p5 p6 p7 p8 p9 p10 p11 p12:A→B→Prop} (h:∃ a b,p0 a b∧p1 a b∧p2 a b∧p3 a b∧p4 a b∧p5 a b∧p6 a b∧p7 a b∧p8 a b∧p9 a b∧p10 a b∧p11 a b∧p12 a b) (k:∀ a b,p0 a b→p1 a b→p2 a b→p3 a b→p4 a b→p5 a b→p6 a b→p7 a b→p8 a b→p9 a b→p10 a b→p11 a b→p12 a b→G):G:=by
 obtain ⟨a,b,h0,h1,h2,h3,h4,h5,h6,h7,h8,h9,h10,h11,h12⟩:=h
 exact k a b h0 h1 h2 h3 h4 h5 h6 h7 h8 h9 h10 h11 h12
theorem sm.{u0,u1,u2,u3,u4,u5}{A:Sort u0}{B:Sort u1}{C:Sort u2}{D:Sort u3}{E:Sort u4}{F:Sort u5}{p0 p1 p2 p3 p4 p5 p6 p7 p8:A→B→C→D→E→F→Prop} (h:∃ a b c d e f,p0 a b c d e f∧p1 a b c d e f∧p2 a b c d e f∧p3 a b c d e f∧p4 a b c d e f∧p5 a b c d e f∧p6 a b c d e f∧p7 a b c d e f∧p8 a b c d e f) (k:∀ a b c d e f,p0 a b c d e f→p1 a b c d e f→p2 a b c d e f→p3 a b c d e f→p4 a b c d e f→p5 a b c d e f→p6 a b c d e f→p7 a b c d e f→p8 a b c d e f→G):G:=by
 obtain ⟨a,b,c,d,e,f,h0,h1,h2,h3,h4,h5,h6,h7,h8⟩:=h
 exact k a b c d e f h0 h1 h2 h3 h4 h5 h6 h7 h8
theorem zr.{u0,u1,u2,u3,u4,u5,u6}{A:Sort u0}{B:Sort u1}{C:Sort u2}{D:Sort u3}{E:Sort u4}{F:Sort u5}{H:Sort u6}{p0 p1 p2 p3 p4 p5 p6 p7 p8:A→B→C→D→E→F→H→Prop} (h:∃ a b c d e f g,p0 a b c d e f g∧p1 a b c d e f g∧p2 a b c d e f g∧p3 a b c d e f g∧p4 a b c d e f g∧p5 a b c d e f g∧p6 a b c d e f g∧p7 a b c d e f g∧p8 a b c d e f g) (k:∀ a b c d e f g,p0 a b c d e f g→p1 a b c d e f g→p2 a b c d e f g→p3 a b c d e f g→p4 a b c d e f g→p5 a b c d e f g→p6 a b c d e f g→p7 a b c d e f g→p8 a b c d e f g→G):G:=by
 obtain ⟨a,b,c,d,e,f,g,h0,h1,h2,h3,h4,h5,h6,h7,h8⟩:=h
 exact k a b c d e f g h0 h1 h2 h3 h4 h5 h6 h7 h8
theorem zJ.{u0,u1,u2,u3,u4,u5,u6,u7}{A:Sort u0}{B:Sort u1}{C:Sort u2}{D:Sort u3}{E:Sort u4}{F:Sort u5}{H:Sort u6}{I:Sort u7}{p0 p1 p2 p3 p4 p5 p6 p7 p8:A→B→C→D→E→F→H→I→Prop} (h:∃ a b c d e f g i,p0 a b c d e f g i∧p1 a b c d e f g i∧p2 a b c d e f g i∧p3 a b c d e f g i∧p4 a b c d e f g i∧p5 a b c d e f g i∧p6 a b c d e f g i∧p7 a b c d e f g i∧p8 a b c d e f g i) (k:∀ a b c d e f g i,p0 a b c d e f g i→p1 a b c d e f g i→p2 a b c d e f g i→p3 a b c d e f g i→p4 a b c d e f g i→p5 a b c d e f g i→p6 a b c d e f g i→p7 a b c d e f g i→p8 a b c d e f g i→G):G:=by
 obtain ⟨a,b,c,d,e,f,g,i,h0,h1,h2,h3,h4,h5,h6,h7,h8⟩:=h
 exact k a b c d e f g i h0 h1 h2 h3 h4 h5 h6 h7 h8
theorem yC.{u0,u1,u2,u3,u4,u5,u6,u7,u8,u9}{A:Sort u0}{B:Sort u1}{C:Sort u2}{D:Sort u3}{E:Sort u4}{F:Sort u5}{H:Sort u6}{I:Sort u7}{J:Sort u8}{K:Sort u9}{p0 p1 p2 p3 p4 p5 p6 p7 p8 p9 p10:A→B→C→D→E→F→H→I→J→K→Prop} (h:∃ a b c d e f g i j l,p0 a b c d e f g i j l∧p1 a b c d e f g i j l∧p2 a b c d e f g i j l∧p3 a b c d e f g i j l∧p4 a b c d e f g i j l∧p5 a b c d e f g i j l∧p6 a b c d e f g i j l∧p7 a b c d e f g i j l∧p8 a b c d e f g i j l∧p9 a b c d e f g i j l∧p10 a b c d e f g i j l) (k:∀ a b c d e f g i j l,p0 a b c d e f g i j l→p1 a b c d e f g i j l→p2 a b c d e f g i j l→p3 a b c d e f g i j l→p4 a b c d e f g i j l→p5 a b c d e f g i j l→p6 a b c d e f g i j l→p7 a b c d e f g i j l→p8 a b c d e f g i j l→p9 a b c d e f g i j l→p10 a b c d e f g i j l→G):G:=by
 obtain ⟨a,b,c,d,e,f,g,i,j,l,h0,h1,h2,h3,h4,h5,h6,h7,h8,h9,h10⟩:=h
 exact k a b c d e f g i j l h0 h1 h2 h3 h4 h5 h6 h7 h8 h9 h10
theorem eU.{u0,u1,u2,u3,u4,u5,u6,u7}{A:Sort u0}{B:Sort u1}{C:Sort u2}{D:Sort u3}{E:Sort u4}{F:Sort u5}{H:Sort u6}{I:Sort u7}{p0 p1 p2 p3 p4 p5 p6 p7 p8 p9 p10 p11 p12 p13:A→B→C→D→E→F→H→I→Prop} (h:∃ a b c d e f g i,p0 a b c d e f g i∧p1 a b c d e f g i∧p2 a b c d e f g i∧p3 a b c d e f g i∧p4 a b c d e f g i∧p5 a b c d e f g i∧p6 a b c d e f g i∧p7 a b c d e f g i∧p8 a b c d e f g i∧p9 a b c d e f g i∧p10 a b c d e f g i∧p11 a b c d e f g i∧p12 a b c d e f g i∧p13 a b c d e f g i) (k:∀ a b c d e f g i,p0 a b c d e f g i→p1 a b c d e f g i→p2 a b c d e f g i→p3 a b c d e f g i→p4 a b c d e f g i→p5 a b c d e f g i→p6 a b c d e f g i→p7 a b c d e f g i→p8 a b c d e f g i→p9 a b c d e f g i→p10 a b c d e f g i→p11 a b c d e f g i→p12 a b c d e f g i→p13 a b c d e f g i→G):G:=by
 obtain ⟨a,b,c,d,e,f,g,i,h0,h1,h2,h3,h4,h5,h6,h7,h8,h9,h10,h11,h12,h13⟩:=h
 exact k a b c d e f g i h0 h1 h2 h3 h4 h5 h6 h7 h8 h9 h10 h11 h12 h13
theorem zU.{u0,u1,u2,u3,u4,u5,u6,u7,u8}{A:Sort u0}{B:Sort u1}{C:Sort u2}{D:Sort u3}{E:Sort u4}{F:Sort u5}{H:Sort u6}{I:Sort u7}{J:Sort u8}{p0 p1 p2 p3 p4 p5 p6 p7 p8 p9 p10 p11 p12 p13:A→B→C→D→E→F→H→I→J→Prop} (h:∃ a b c d e f g i j,p0 a b c d e f g i j∧p1 a b c d e f g i j∧p2 a b c d e f g i j∧p3 a b c d e f g i j∧p4 a b c d e f g i j∧p5 a b c d e f g i j∧p6 a b c d e f g i j∧p7 a b c d e f g i j∧p8 a b c d e f g i j∧p9 a b c d e f g i j∧p10 a b c d e f g i j∧p11 a b c d e f g i j∧p12 a b c d e f g i j∧p13 a b c d e f g i j) (k:∀ a b c d e f g i j,p0 a b c d e f g i j→p1 a b c d e f g i j→p2 a b c d e f g i j→p3 a b c d e f g i j→p4 a b c d e f g i j→p5 a b c d e f g i j→p6 a b c d e f g i j→p7 a b c d e f g i j→p8 a b c d e f g i j→p9 a b c d e f g i j→p10 a b c d e f g i j→p11 a b c d e f g i j→p12 a b c d e f g i j→p13 a b c d e f g i j→G):G:=by
 obtain ⟨a,b,c,d,e,f,g,i,j,h0,h1,h2,h3,h4,h5,h6,h7,h8,h9,h10,h11,h12,h13⟩:=h
 exact k a b c d e f g i j h0 h1 h2 h3 h4 h5 h6 h7 h8 h9 h10 h11 h12 h13
theorem bA {a b:Bool} (h:(a && b)=true):a=true∧b=true:=Bool.and_eq_true_iff.mp h
end
theorem aN {α β:Type}{f:α→β}{l:List α}{b:β}{G:Prop} (h:b∈l.map f) (k:∀ a,a∈l→f a=b→G):G:=ag (List.mem_map.mp h) k
theorem bg {α β:Type}{o:Option α}{f:α→Option β}{b:β}{G:Prop} (h:o.bind f=some b) (k:∀ a,o=some a→f a=some b→G):G:=ag (Option.bind_eq_some_iff.mp h) k
theorem bp {α β:Type}{o:Option α}{f:α→β}{b:β}{G:Prop} (h:o.map f=some b) (k:∀ a,o=some a→f a=b→G):G:=ag (Option.map_eq_some_iff.mp h) k
theorem bF {α:Type}{o:Option α}{G:Prop} (h:o.isSome=true) (k:∀ a,o=some a→G):G:=aj (Option.isSome_iff_exists.mp h) k
theorem uR {α:Type}{p:α→Bool}{l:List α}{a:α}{G:Prop} (h:a∈l.filter p) (k:a∈l→p a=true→G):G:=ae (List.mem_filter.mp h) k
theorem dF {a b:Bool}{G:Prop} (h:(a && b)=true) (k:a=true→b=true→G):G:=ae (Bool.and_eq_true_iff.mp h) k
end Mine
namespace Mine
open PySem
inductive Mode where
 | sh | top | deep
 deriving DecidableEq
inductive V where
 | d (x:PyData)
 | dic0
 | dicI (ks:List Int)
 | dicT (ks:List (List Int))
 | rule (c:Int) (d:PyData) (n:Int)
inductive Out (α:Type) where
 | ok (a:α)
 | exc (c:String)
 | bad
namespace Out
noncomputable def bind {α β:Type}:Out α→(α→Out β)→Out β
 | .ok a,f=>f a
 | .exc c,_=>.exc c
 | .bad,_=>.bad
@[simp] theorem ok_bind {α β:Type} (a:α) (f:α→Out β):(Out.ok a).bind f=f a:=rfl
@[simp] theorem exc_bind {α β:Type} (c:String) (f:α→Out β):(Out.exc c:Out α).bind f = .exc c:=rfl
@[simp] theorem FA {α β:Type} (f:α→Out β):(Out.bad:Out α).bind f = .bad:=rfl
noncomputable def calm {α:Type}:Out α→Out α
 | .ok a=>.ok a
 | _=>.bad
@[simp] theorem calm_ok {α:Type} (a:α):(Out.ok a).calm = .ok a:=rfl
theorem _root_.Mine.nB {α:Type}{a:α}{G:Prop} (h:(Out.bad:Out α) = .ok a):G:=by cases h
theorem _root_.Mine.nE {α:Type}{a:α}{c:String}{G:Prop} (h:(Out.exc c:Out α) = .ok a):G:=by cases h
theorem _root_.Mine.nN {α:Type}{a:α}{G:Prop} (h:(none:Option α)=some a):G:=by cases h
theorem _root_.Mine.nM {α:Type}{a:α}{G:Prop} (h:some a=(none:Option α)):G:=by cases h
theorem _root_.Mine.nF {G:Prop} (h:false=true):G:=by cases h
theorem _root_.Mine.nT {G:Prop} (h:true=false):G:=by cases h
theorem xL {α β:Type}{o:Out α}{f:α→Out β}{b:β} (h:o.bind f = .ok b):∃ a,o = .ok a∧f a = .ok b:=by
 cases o with
 | ok a=>exact ⟨a,rfl,h⟩
 | exc c=>cases h
 | bad=>cases h
theorem bind_k {α β:Type}{o:Out α}{f:α→Out β}{b:β}{G:Prop} (h:o.bind f = .ok b) (k:∀ a,o = .ok a→f a = .ok b→G):G:=ag (xL h) k
end Out
inductive BOp where
 | add | sub | mul | fdiv | mod | pow | xor
 deriving DecidableEq
inductive COp where
 | eq | ne | lt | gt | ge | isin | notin | isnot
 deriving DecidableEq
inductive B1 where
 | len | list | tuple | sorted | max
 deriving DecidableEq
inductive B2 where
mutual
inductive E where
 | name (x:String)
 | int (i:Int)
 | str (s:String)
 | bool (b:Bool)
 | none
 | bin (o:BOp) (a b:E)
 | neg (a:E)
 | not (a:E)
 | cmp (o:COp) (a b:E)
 | and (a b:E)
 | or (a b:E)
 | list (es:Es)
 | tup (es:Es)
 | edic
 | comp (elt:E) (x:String) (it:It)
 | compif (elt:E) (x:String) (it:It) (c:E)
 | sub (a i:E)
 | attr (a:E) (n:String)
 | bi1 (f:B1) (a:E)
 | isi (a:E) (t:String)
 | call (f:String) (es:Es)
inductive Es where
 | nil
 | cons (e:E) (es:Es)
inductive It where
 | e (a:E)
 | r1 (n:E)
 | r2 (a b:E)
end
abbrev St:=String→Option (V × Mode)
abbrev Calls:=String→Option (List V→Out (V × Mode))
noncomputable def upd (σ:St) (x:String) (v:V × Mode):St:=fun y=>if y=x then some v else σ y
noncomputable def sx:PyData→Bool
 | .none | .bool _ | .int _ | .str _=>true
 | .list _ | .tuple _ | .dict _=>false
noncomputable def nC:V→Bool
 | .d x=>sx x
 | _=>false
noncomputable def mk (v:V):V × Mode:=(v,if nC v then .deep else .sh)
noncomputable def fresh (xs:List PyData):Mode:=if xs.all sx then .deep else .top
noncomputable def lim:Nat:=1000000
noncomputable def okc (d:PyData):Bool:=d.canLay0 && decide (d.depth≤64)
noncomputable def sI (i:Int):V × Mode:=(.d (.int i),.deep)
noncomputable def sB (b:Bool):V × Mode:=(.d (.bool b),.deep)
noncomputable def dJ:PyData→Option Int
 | .int i=>some i
 | _=>none
noncomputable def aM:List PyData→Option (List Int)
 | []=>some []
 | .int i :: r=>(aM r).map (i :: ·)
 | _ :: _=>none
noncomputable def dg:PyData→Option (List Int)
 | .tuple xs=>aM xs
 | _=>none
noncomputable def av {α β:Type} (o:Option α) (f:α→Out β):Out β:=match o with
 | some a=>f a
 | none=>.bad
theorem aP {α β:Type}{o:Option α}{f:α→Out β}{r:β} (h:av o f = .ok r):∃ a,o=some a∧f a = .ok r:=by
 cases o with
 | some a=>exact ⟨a,rfl,h⟩
 | none=>cases h
theorem aV {α β:Type}{o:Option α}{f:α→Out β}{r:β}{G:Prop} (h:av o f = .ok r) (k:∀ a,o=some a→f a = .ok r→G):G:=ag (aP h) k
def NE {α:Type} (o:Out α):Prop:=∀ c,o≠.exc c
theorem NE.ok {α:Type}{a:α}:NE (Out.ok a):=fun uu h=>by cases h
theorem NE.bad {α:Type}:NE (Out.bad:Out α):=fun uu h=>by cases h
theorem NE.opt {α β:Type}{o:Option α}{f:α→Out β} (h:∀ a,NE (f a)):NE (av o f):=by
 cases o with
 | some a=>exact h a
 | none=>exact .bad
theorem NE.ite {α:Type}{c:Prop} [Decidable c] {a b:Out α} (ha:NE a) (hb:NE b):NE (if c then a else b):=by
 by_cases h:c
 ·  rw [if_pos h]; exact ha
 ·  rw [if_neg h]; exact hb
theorem NE.bind {α β:Type}{o:Out α}{f:α→Out β} (ho:NE o) (h:∀ a,NE (f a)):NE (o.bind f):=by
 cases o with
 | ok a=>exact h a
 | exc c=>exact absurd rfl (ho c)
 | bad=>exact .bad
noncomputable def asL:PyData→Option (List PyData)
 | .list xs=>some xs
 | _=>none
noncomputable def asD:V→Option PyData
 | .d x=>some x
 | _=>none
noncomputable def isN:PyData→Bool
 | .none=>true
 | _=>false
theorem cu {x:PyData}{i:Int} (h:dJ x=some i):x = .int i:=by cases x <;> cases h; rfl
theorem bt {x:PyData}{i:List PyData} (h:asL x=some i):x = .list i:=by cases x <;> cases h; rfl
theorem cj {x:V}{i:PyData} (h:asD x=some i):x = .d i:=by cases x <;> cases h; rfl
theorem yI {x:PyData} (h:isN x=true):x = .none:=by cases x <;> first | rfl | cases h
noncomputable def i2 {β:Type} (x y:PyData) (f:Int→Int→Out β):Out β:=av (dJ x) fun a=>av (dJ y) fun b=>f a b
theorem d8 {β:Type}{x y:PyData}{f:Int→Int→Out β}{r:β} (h:i2 x y f = .ok r):∃ a b,x = .int a∧y = .int b∧f a b = .ok r:=by
 refine aV h fun a h1 h=>?_
 refine aV h fun b h2 h=>?_
 exact ⟨a,b,cu h1,cu h2,h⟩
noncomputable def d2 {β:Type} (x y:V) (f:PyData→PyData→Out β):Out β:=av (asD x) fun a=>av (asD y) fun b=>f a b
theorem gY {β:Type}{x y:V}{f:PyData→PyData→Out β}{r:β} (h:d2 x y f = .ok r):∃ a b,x = .d a∧y = .d b∧f a b = .ok r:=by
 refine aV h fun a h1 h=>?_
 refine aV h fun b h2 h=>?_
 exact ⟨a,b,cj h1,cj h2,h⟩
noncomputable def nG (x y:PyData):Out (V × Mode):=match asL x with
 | some a=>av (asL y) fun b=>if a.length + b.length≤lim then .ok (.d (.list (a ++ b)),fresh (a ++ b)) else .bad
 | none=>i2 x y fun a b=>.ok (sI (a + b))
noncomputable def cZ (o:BOp) (x y:PyData):Out (V × Mode):=match o with
 | .add=>nG x y
 | .sub=>i2 x y fun a b=>.ok (sI (a - b))
 | .mul=>i2 x y fun a b=>if a.natAbs<2 ^ 63∨b.natAbs<2 ^ 63 then .ok (sI (a * b)) else .bad
 | .fdiv=>i2 x y fun a b=>if b=0∨1000000000≤b.natAbs then .bad else .ok (sI (a.fdiv b))
 | .mod=>i2 x y fun a b=>if b=0 then .bad else .ok (sI (a.fmod b))
 | .pow=>i2 x y fun a b=>if 0≤b∧b≤1000∧a.natAbs<2 ^ 63 then .ok (sI (a ^ b.toNat)) else .bad
 | .xor=>i2 x y fun a b=>.ok (sI (Builtin.bitXor a b))
theorem x6 {o:BOp}{x y:PyData}:NE (cZ o x y):=by
 have h:∀ (f:Int→Int→Out (V × Mode)),(∀ a b,NE (f a b))→NE (i2 x y f):=fun f hf=>.opt fun a=>.opt fun b=>hf a b
 cases o with
 | add=>
    show NE (nG x y)
    unfold nG
    cases asL x with
    | some a=>exact .opt fun b=>.ite .ok .bad
    | none=>exact h _ fun uu uu=>.ok
 | sub=>exact h _ fun uu uu=>.ok
 | mul=>exact h _ fun uu uu=>.ite .ok .bad
 | fdiv=>exact h _ fun uu uu=>.ite .bad .ok
 | mod=>exact h _ fun uu uu=>.ite .bad .ok
 | pow=>exact h _ fun uu uu=>.ite .ok .bad
 | xor=>exact h _ fun uu uu=>.ok
noncomputable def inV (k:PyData) (c:V):Out Bool:=match c with
 | .d x=>av (asL x) fun xs=>if okc k && okc (.list xs) then .ok (xs.any fun y=>PyData.eqv y k) else .bad
 | .dicI ks=>av (dJ k) fun i=>.ok (decide (i∈ks))
 | .dicT ks=>av (dg k) fun i=>.ok (decide (i∈ks))
 | .dic0=>if (dJ k).isSome || (dg k).isSome then .ok false else .bad
 | .rule _ _ _=>.bad
theorem sN {k:PyData}{c:V}:NE (inV k c):=by
 cases c with
 | d x=>exact .opt fun uu=>.ite .ok .bad
 | dicI ks=>exact .opt fun uu=>.ok
 | dicT ks=>exact .opt fun uu=>.ok
 | dic0=>exact .ite .ok .bad
 | rule _ _ _=>exact .bad
noncomputable def b9 (o:COp) (x y:V):Out Bool:=match o with
 | .eq=>d2 x y fun a b=>if okc a && okc b then .ok (PyData.eqv a b) else .bad
 | .ne=>d2 x y fun a b=>if okc a && okc b then .ok (!PyData.eqv a b) else .bad
 | .lt=>d2 x y fun a b=>i2 a b fun a b=>.ok (decide (a<b))
 | .gt=>d2 x y fun a b=>i2 a b fun a b=>.ok (decide (b<a))
 | .ge=>d2 x y fun a b=>i2 a b fun a b=>.ok (decide (b≤a))
 | .isin=>av (asD x) fun k=>inV k y
 | .notin=>d2 x y fun k c=>(inV k (.d c)).bind fun b=>.ok (!b)
 | .isnot=>d2 x y fun a b=>if isN b then .ok (!isN a) else .bad
theorem yl {o:COp}{x y:V}:NE (b9 o x y):=by
 have h:∀ (f:PyData→PyData→Out Bool),(∀ a b,NE (f a b))→NE (d2 x y f):=fun f hf=>.opt fun a=>.opt fun b=>hf a b
 cases o with
 | eq=>exact h _ fun uu uu=>.ite .ok .bad
 | ne=>exact h _ fun uu uu=>.ite .ok .bad
 | isin=>exact .opt fun uu=>sN
 | notin=>exact h _ fun uu uu=>.bind sN fun uu=>.ok
 | isnot=>exact h _ fun uu uu=>.ite .ok .bad
 | _=>exact h _ fun uu uu=>.opt fun uu=>.opt fun uu=>.ok
noncomputable def a7 (i:Int) (n:Nat):Option Nat:=if 0≤i then (if i<n then some i.toNat else none) else (if -(n:Int)≤i then some (i + n).toNat else none)
noncomputable def asT:PyData→Option (List PyData)
 | .tuple xs=>some xs
 | _=>none
theorem gn {x:PyData}{i:List PyData} (h:asT x=some i):x = .tuple i:=by cases x <;> cases h; rfl
noncomputable def jJ (x:PyData) (i:Int):Option PyData:=match asL x with
 | some xs=>(a7 i xs.length).bind fun k=>xs[k]?
 | none=>match asT x with
    | some xs=>(a7 i xs.length).bind fun k=>xs[k]?
    | none=>none
noncomputable def eG (x y:PyData):Out (V × Mode):=av (dJ y) fun i=>av (jJ x i) fun z=>.ok (mk (.d z))
theorem ye {x y:PyData}:NE (eG x y):=.opt fun uu=>.opt fun uu=>.ok
noncomputable def modP (y:PyData):List Int→PyData→Option PyData
 | [],d=>(asL d).bind fun xs=>if xs.length<lim then some (.list (xs ++ [y])) else none
 | k :: p,d=>match asL d with
    | some xs=>(a7 k xs.length).bind fun j=>(xs[j]?).bind fun e=>(modP y p e).map fun e'=>.list (xs.set j e')
    | none=>(asT d).bind fun xs=>(a7 k xs.length).bind fun j=>(xs[j]?).bind fun e=>(modP y p e).map fun e'=>.tuple (xs.set j e')
noncomputable def eV:List PyData→Option (List (List Int))
 | []=>some []
 | .list xs :: r=>(aM xs).bind fun i=>(eV r).map (i :: ·)
 | _ :: _=>none
noncomputable def aa (xs:List Int):PyData:=.list (xs.map .int)
noncomputable def aJ (xs:List Int):PyData:=.tuple (xs.map .int)
noncomputable def af (t:List (List Int)):PyData:=.list (t.map aa)
noncomputable def ltL:List Int→List Int→Bool
 | [],[]=>false
 | [],_ :: _=>true
 | _ :: _,[]=>false
 | a :: as,b :: bs=>if a=b then ltL as bs else decide (a<b)
noncomputable def c0:List PyData→Option (List (List Int))
 | []=>some []
 | x :: r=>(dg x).bind fun k=>(c0 r).map (k :: ·)
noncomputable def aE (ks:List (List Int)):List (List Int):=ks.mergeSort fun a b=>!ltL b a
noncomputable def dP (xs:List PyData):Out (V × Mode):=match c0 xs with
 | some ks=>if ks.length<2∨[]∉ks then .ok (.d (.list ((aE ks).map aJ)),fresh ((aE ks).map aJ)) else .bad
 | none=>av (eV xs) fun ks=>.ok (.d (.list ((aE ks).map aa)),fresh ((aE ks).map aa))
theorem qz {xs:List PyData}:NE (dP xs):=by
 unfold dP
 cases c0 xs with
 | some ks=>exact .ite .ok .bad
 | none=>exact .opt fun uu=>.ok
noncomputable def cC (xs:List PyData):Out (V × Mode) :=
 if xs.length<64 then (match aM xs with
    | some ns=>.ok (.d (aa (ns.mergeSort (fun a b=>decide (a≤b)))),.deep)
    | none=>dP xs)
 else if xs.length<128 then av (aM xs) fun ns=>if (∀ i∈ns,0≤i)∧ns.Pairwise (· < ·) then .ok (.d (aa ns),.deep) else .bad
 else .bad
noncomputable def iG:List Int→Option Int
 | []=>none
 | x :: xs=>some (xs.foldl (fun a b=>if a<b then b else a) x)
noncomputable def b1D (f:B1) (v:V):Out (V × Mode):=av (asD v) fun x=>match f with
 | .len=>(match asT x with
    | some xs=>.ok (sI xs.length)
    | none=>av (asL x) fun xs=>.ok (sI xs.length))
 | .list=>(match asT x with
    | some xs=>.ok (.d (.list xs),fresh xs)
    | none=>av (asL x) fun xs=>.ok (.d (.list xs),fresh xs))
 | .tuple=>av (asL x) fun xs=>.ok (.d (.tuple xs),if xs.all sx then .deep else .sh)
 | .sorted=>av (asL x) fun xs=>cC xs
 | .max=>av (asL x) fun xs=>av ((aM xs).bind iG) fun i=>.ok (sI i)
theorem yY {f:B1}{v:V}:NE (b1D f v):=.opt fun x=>by
 cases f with
 | len=>
    show NE (match asT x with | some xs=>Out.ok (sI xs.length) | none=>av (asL x) fun xs=>.ok (sI xs.length))
    cases asT x with
    | some xs=>exact .ok
    | none=>exact .opt fun uu=>.ok
 | list=>
    show NE (match asT x with | some xs=>Out.ok (V.d (.list xs),fresh xs) | none=>av (asL x) fun xs=>.ok (V.d (.list xs),fresh xs))
    cases asT x with
    | some xs=>exact .ok
    | none=>exact .opt fun uu=>.ok
 | tuple=>exact .opt fun uu=>.ok
 | sorted=>
    refine .opt fun xs=>.ite ?_ (.ite (.opt fun uu=>.ite .ok .bad) .bad)
    cases aM xs with
    | some ns=>exact .ok
    | none=>exact qz
 | max=>exact .opt fun uu=>.opt fun uu=>.ok
noncomputable def qh:V→Option (List (List Int))
 | .dicT ks=>some ks
 | _=>none
theorem vF {v:V}{ks:List (List Int)} (h:qh v=some ks):v = .dicT ks:=by
 cases v <;> cases h
 rfl
noncomputable def mO (f:B1) (ks:List (List Int)):Out (V × Mode):=if f = .list∧ks.length≤lim then .ok (.d (.list (ks.map aJ)),fresh (ks.map aJ)) else .bad
noncomputable def b1V (f:B1) (v:V):Out (V × Mode):=match qh v with
 | some ks=>mO f ks
 | none=>b1D f v
theorem zj {f:B1}{v:V}:NE (b1V f v):=by
 unfold b1V
 cases qh v with
 | some ks=>exact .ite .ok .bad
 | none=>exact yY
noncomputable def oB:PyData→Nat
 | .none=>0
 | .bool _=>1
 | .int _=>2
 | .str _=>3
 | .list _=>4
 | .tuple _=>5
 | .dict _=>6
noncomputable def ld (t:String) (k:Nat):Option Bool :=
 if t = "int" then some (k == 2 || k == 1) else if t = "bool" then some (k == 1) else if t = "list" then some (k == 4) else if t = "tuple" then some (k == 5) else if t = "str" then some (k == 3) else none
noncomputable def fR (v:V) (t:String):Out Bool:=av (asD v) fun x=>av (ld t (oB x)) .ok
theorem nI {t:String}{k:Nat}{b:Bool}{G:Prop} (h:ld t k=some b) (c1:t = "int" → (k == 2 || k == 1)=b→G) (c2:t = "bool" → (k == 1)=b→G) (c3:t = "list" → (k == 4)=b→G) (c4:t = "tuple" → (k == 5)=b→G) (c5:t = "str" → (k == 3)=b→G):G:=by
 unfold ld at h
 by_cases q:t = "int"
 ·  rw [if_pos q] at h; exact c1 q (Option.some.inj h)
 rw [if_neg q] at h
 by_cases q:t = "bool"
 ·  rw [if_pos q] at h; exact c2 q (Option.some.inj h)
 rw [if_neg q] at h
 by_cases q:t = "list"
 ·  rw [if_pos q] at h; exact c3 q (Option.some.inj h)
 rw [if_neg q] at h
 by_cases q:t = "tuple"
 ·  rw [if_pos q] at h; exact c4 q (Option.some.inj h)
 rw [if_neg q] at h
 by_cases q:t = "str"
 ·  rw [if_pos q] at h; exact c5 q (Option.some.inj h)
 rw [if_neg q] at h
 cases h
theorem uk {v:V}{t:String}{b:Bool} (h:fR v t = .ok b):∃ x,v = .d x∧ld t (oB x)=some b:=by
 obtain ⟨x,h1,h⟩:=aP h
 obtain ⟨c,h2,h⟩:=aP h
 exact ⟨x,cj h1,by rw [h2,Out.ok.inj h]⟩
theorem xT {v:V}{t:String}:NE (fR v t):=.opt fun uu=>.opt fun uu=>.ok
noncomputable def ao:V→Out Bool
 | .d (.bool b)=>.ok b
 | _=>.bad
noncomputable def eF:V→Option (Int × PyData × Int)
 | .rule c d n=>some (c,d,n)
 | _=>none
theorem hU {x:V}{q:Int × PyData × Int} (h:eF x=some q):x = .rule q.1 q.2.1 q.2.2:=by cases x <;> cases h; rfl
noncomputable def jm (x:V) (n:String):Out (V × Mode):=av (eF x) fun q=>if n = "count" then .ok (sI q.1) else if n = "full" then .ok (mk (.d q.2.1)) else if n = "size" then .ok (sI q.2.2) else .bad
theorem uW {x:V}{n:String}:NE (jm x n):=.opt fun uu=>.ite .ok (.ite .ok (.ite .ok .bad))
noncomputable def methNames:List String:=["together", "rank", "need_full", "outs", "exchanges"]
noncomputable def aO:List String:=["PickError", "NoChoice", "NoThing", "NoExchange", "NoWeights", "NoRule"]
noncomputable def fieldNames:List String:=["count", "full", "size"]
noncomputable def cS (a b:Int):List PyData:=(List.range (b - a).toNat).map fun (k:Nat)=>.int (a + k)
noncomputable def bY (a b:Int):Out (List PyData × Mode) :=
 if (b - a).toNat≤lim∧-(2 ^ 60)≤a∧a<2 ^ 60∧-(2 ^ 60)≤b∧b<2 ^ 60 then .ok (cS a b,.deep) else .bad
noncomputable def bw (f:PyData→Out (Option (V × Mode))):List PyData→Out (List PyData × Bool)
 | []=>.ok ([],true)
 | x :: xs=>(f x).bind fun r=>(bw f xs).bind fun q=>match r with
    | none=>.ok q
    | some (.d y,m)=>.ok (y :: q.1,decide (m = .deep) && q.2)
    | some _=>.bad
noncomputable def bH:List (V × Mode)→Option (List PyData)
 | []=>some []
 | (.d x,_) :: r=>(bH r).map (x :: ·)
 | _ :: _=>none
noncomputable def allDeep (l:List (V × Mode)):Bool:=l.all fun p=>decide (p.2 = .deep)
noncomputable def fY:V→Option (List PyData)
 | .d (.list xs)=>some xs
 | _=>none
theorem iL {v:V}{xs:List PyData} (h:fY v=some xs):v = .d (.list xs):=by
 unfold fY at h
 split at h
 ·  cases h; rfl
 ·  cases h
noncomputable def itV (r:V × Mode):Out (List PyData × Mode):=match fY r.1 with
 | some xs=>.ok (xs,r.2)
 | none=>.bad
mutual
noncomputable def ev (C:Calls):E→St→Out (V × Mode)
 | .name x,σ=>match σ x with | some p=>.ok (mk p.1) | none=>.bad
 | .int i,_=>.ok (sI i)
 | .str s,_=>.ok (.d (.str (Str.ofString s)),.deep)
 | .bool b,_=>.ok (sB b)
 | .none,_=>.ok (.d .none,.deep)
 | .bin o a b,σ=>(ev C a σ).bind fun x=>(ev C b σ).bind fun y=>match x.1,y.1 with | .d x,.d y=>cZ o x y | _,_=>.bad
 | .neg a,σ=>(ev C a σ).bind fun x=>match x.1 with | .d (.int i)=>.ok (sI (-i)) | _=>.bad
 | .not a,σ=>(ev C a σ).bind fun x=>(ao x.1).bind fun b=>.ok (sB (!b))
 | .cmp o a b,σ=>(ev C a σ).bind fun x=>(ev C b σ).bind fun y=>(b9 o x.1 y.1).bind fun b=>.ok (sB b)
 | .and a b,σ=>(ev C a σ).bind fun x=>(ao x.1).bind fun t=>if t then (ev C b σ).bind fun y=>(ao y.1).bind fun u=>.ok (sB u) else .ok (sB false)
 | .or a b,σ=>(ev C a σ).bind fun x=>(ao x.1).bind fun t=>if t then .ok (sB true) else (ev C b σ).bind fun y=>(ao y.1).bind fun u=>.ok (sB u)
 | .list es,σ=>(evs C es σ).bind fun l=>match bH l with
    | some xs=>.ok (.d (.list xs),if allDeep l then .deep else .top)
    | none=>.bad
 | .tup es,σ=>(evs C es σ).bind fun l=>match bH l with
    | some xs=>.ok (.d (.tuple xs),if allDeep l then .deep else .sh)
    | none=>.bad
 | .edic,_=>.ok (.dic0,.deep)
 | .comp elt x it,σ=>(bj C it σ).bind fun q=>(bw (fun y=>(ev C elt (upd σ x (mk (.d y)))).bind fun r=>.ok (some r)) q.1).calm.bind fun r=>.ok (.d (.list r.1),if r.2 then .deep else .top)
 | .compif elt x it c,σ=>(bj C it σ).bind fun q=>(bw (fun y=>(ev C c (upd σ x (mk (.d y)))).bind fun t=>(ao t.1).bind fun b=>if b then (ev C elt (upd σ x (mk (.d y)))).bind fun r=>.ok (some r) else .ok none) q.1).calm.bind fun r=>.ok (.d (.list r.1),if r.2 then .deep else .top)
 | .sub a i,σ=>(ev C a σ).bind fun x=>(ev C i σ).bind fun y=>match x.1,y.1 with | .d x,.d y=>eG x y | _,_=>.bad
 | .attr a n,σ=>av (C "Rule") fun uu=>(ev C a σ).bind fun x=>jm x.1 n
 | .bi1 f a,σ=>(ev C a σ).bind fun x=>b1V f x.1
 | .isi a t,σ=>(ev C a σ).bind fun x=>(fR x.1 t).bind fun b=>.ok (sB b)
 | .call f es,σ=>match C f with
    | some g=>(evs C es σ).bind fun l=>g (l.map (·.1))
    | none=>.bad
noncomputable def evs (C:Calls):Es→St→Out (List (V × Mode))
 | .nil,_=>.ok []
 | .cons e es,σ=>(ev C e σ).bind fun x=>(evs C es σ).bind fun l=>.ok (x :: l)
noncomputable def bj (C:Calls):It→St→Out (List PyData × Mode)
 | .e a,σ=>(ev C a σ).bind itV
 | .r1 n,σ=>(ev C n σ).bind fun x=>match x.1 with | .d (.int n)=>bY 0 n | _=>.bad
 | .r2 a b,σ=>(ev C a σ).bind fun x=>(ev C b σ).bind fun y=>match x.1,y.1 with | .d (.int a),.d (.int b)=>bY a b | _,_=>.bad
end
theorem c9 (C:Calls) (x:String) (σ:St):ev C (.name x) σ=(match σ x with | some p=>.ok (mk p.1) | none=>.bad):=rfl
theorem eT (C:Calls) (i:Int) (σ0:St):ev C (.int i) σ0=(.ok (sI i)):=rfl
theorem xI (C:Calls) (s:String) (σ0:St):ev C (.str s) σ0=(.ok (.d (.str (Str.ofString s)),.deep)):=rfl
theorem mT (C:Calls) (b:Bool) (σ0:St):ev C (.bool b) σ0=(.ok (sB b)):=rfl
theorem oS (C:Calls) (σ0:St):ev C .none σ0=(.ok (.d .none,.deep)):=rfl
theorem k8 (C:Calls) (o:BOp) (a:E) (b:E) (σ:St):ev C (.bin o a b) σ=((ev C a σ).bind fun x=>(ev C b σ).bind fun y=>match x.1,y.1 with | .d x,.d y=>cZ o x y | _,_=>.bad):=rfl
theorem lb (C:Calls) (a:E) (σ:St):ev C (.neg a) σ=((ev C a σ).bind fun x=>match x.1 with | .d (.int i)=>.ok (sI (-i)) | _=>.bad):=rfl
theorem gw (C:Calls) (a:E) (σ:St):ev C (.not a) σ=((ev C a σ).bind fun x=>(ao x.1).bind fun b=>.ok (sB (!b))):=rfl
theorem jg (C:Calls) (o:COp) (a:E) (b:E) (σ:St):ev C (.cmp o a b) σ=((ev C a σ).bind fun x=>(ev C b σ).bind fun y=>(b9 o x.1 y.1).bind fun b=>.ok (sB b)):=rfl
theorem gy (C:Calls) (a:E) (b:E) (σ:St):ev C (.and a b) σ=((ev C a σ).bind fun x=>(ao x.1).bind fun t=>if t then (ev C b σ).bind fun y=>(ao y.1).bind fun u=>.ok (sB u) else .ok (sB false)):=rfl
theorem iy (C:Calls) (a:E) (b:E) (σ:St):ev C (.or a b) σ=((ev C a σ).bind fun x=>(ao x.1).bind fun t=>if t then .ok (sB true) else (ev C b σ).bind fun y=>(ao y.1).bind fun u=>.ok (sB u)):=rfl
theorem b7 (C:Calls) (es:Es) (σ:St):ev C (.list es) σ=((evs C es σ).bind fun l=>match bH l with
    | some xs=>.ok (.d (.list xs),if allDeep l then .deep else .top)
    | none=>.bad):=rfl
theorem jc (C:Calls) (es:Es) (σ:St):ev C (.tup es) σ=((evs C es σ).bind fun l=>match bH l with
    | some xs=>.ok (.d (.tuple xs),if allDeep l then .deep else .sh)
    | none=>.bad):=rfl
theorem oC (C:Calls) (σ0:St):ev C .edic σ0=(.ok (.dic0,.deep)):=rfl
theorem gL (C:Calls) (elt:E) (x:String) (it:It) (σ:St):ev C (.comp elt x it) σ=((bj C it σ).bind fun q=>(bw (fun y=>(ev C elt (upd σ x (mk (.d y)))).bind fun r=>.ok (some r)) q.1).calm.bind fun r=>.ok (.d (.list r.1),if r.2 then .deep else .top)):=rfl
theorem eP (C:Calls) (elt:E) (x:String) (it:It) (c:E) (σ:St):ev C (.compif elt x it c) σ=((bj C it σ).bind fun q=>(bw (fun y=>(ev C c (upd σ x (mk (.d y)))).bind fun t=>(ao t.1).bind fun b=>if b then (ev C elt (upd σ x (mk (.d y)))).bind fun r=>.ok (some r) else .ok none) q.1).calm.bind fun r=>.ok (.d (.list r.1),if r.2 then .deep else .top)):=rfl
theorem je (C:Calls) (a:E) (i:E) (σ:St):ev C (.sub a i) σ=((ev C a σ).bind fun x=>(ev C i σ).bind fun y=>match x.1,y.1 with | .d x,.d y=>eG x y | _,_=>.bad):=rfl
theorem jF (C:Calls) (a:E) (n:String) (σ:St):ev C (.attr a n) σ=(av (C "Rule") fun uu=>(ev C a σ).bind fun x=>jm x.1 n):=rfl
theorem ji (C:Calls) (f:B1) (a:E) (σ:St):ev C (.bi1 f a) σ=((ev C a σ).bind fun x=>b1V f x.1):=rfl
theorem lu (C:Calls) (a:E) (t:String) (σ:St):ev C (.isi a t) σ=((ev C a σ).bind fun x=>(fR x.1 t).bind fun b=>.ok (sB b)):=rfl
theorem jQ (C:Calls) (f:String) (es:Es) (σ:St):ev C (.call f es) σ=(match C f with
    | some g=>(evs C es σ).bind fun l=>g (l.map (·.1))
    | none=>.bad):=rfl
theorem br (C:Calls) (σ0:St):evs C .nil σ0=(.ok []):=rfl
theorem bl (C:Calls) (e:E) (es:Es) (σ:St):evs C (.cons e es) σ=((ev C e σ).bind fun x=>(evs C es σ).bind fun l=>.ok (x :: l)):=rfl
theorem gv (C:Calls) (a:E) (σ:St):bj C (.e a) σ=((ev C a σ).bind itV):=rfl
theorem e8 (C:Calls) (n:E) (σ:St):bj C (.r1 n) σ=((ev C n σ).bind fun x=>match x.1 with | .d (.int n)=>bY 0 n | _=>.bad):=rfl
theorem fm (C:Calls) (a:E) (b:E) (σ:St):bj C (.r2 a b) σ=((ev C a σ).bind fun x=>(ev C b σ).bind fun y=>match x.1,y.1 with | .d (.int a),.d (.int b)=>bY a b | _,_=>.bad):=rfl
mutual
noncomputable def fv:E→List String
 | .name x=>[x]
 | .int _ | .str _ | .bool _ | .none | .edic=>[]
 | .bin _ a b | .cmp _ a b | .and a b | .or a b | .sub a b=>fv a ++ fv b
 | .neg a | .not a | .attr a _ | .bi1 _ a | .isi a _=>fv a
 | .list es | .tup es | .call _ es=>fvs es
 | .comp elt _ it=>bI it ++ fv elt
 | .compif elt _ it c=>bI it ++ (fv c ++ fv elt)
noncomputable def fvs:Es→List String
 | .nil=>[]
 | .cons e es=>fv e ++ fvs es
noncomputable def bI:It→List String
 | .e a=>fv a
 | .r1 n=>fv n
 | .r2 a b=>fv a ++ fv b
end
theorem d7 (x:String):fv (.name x)=([x]):=rfl
theorem yE (z0:Int):fv (.int z0)=([]):=rfl
theorem FL (z0:String):fv (.str z0)=([]):=rfl
theorem Ef (z0:Bool):fv (.bool z0)=([]):=rfl
theorem FD:fv .none=([]):=rfl
theorem Fl:fv .edic=([]):=rfl
theorem xD (z0:BOp) (a:E) (b:E):fv (.bin z0 a b)=(fv a ++ fv b):=rfl
theorem xF (z0:COp) (a:E) (b:E):fv (.cmp z0 a b)=(fv a ++ fv b):=rfl
theorem yd (a:E) (b:E):fv (.and a b)=(fv a ++ fv b):=rfl
theorem zA (a:E) (b:E):fv (.or a b)=(fv a ++ fv b):=rfl
theorem pD (a:E) (b:E):fv (.sub a b)=(fv a ++ fv b):=rfl
theorem yz (a:E):fv (.neg a)=(fv a):=rfl
theorem xY (a:E):fv (.not a)=(fv a):=rfl
theorem vr (a:E) (z1:String):fv (.attr a z1)=(fv a):=rfl
theorem xK (z0:B1) (a:E):fv (.bi1 z0 a)=(fv a):=rfl
theorem yp (a:E) (z1:String):fv (.isi a z1)=(fv a):=rfl
theorem v8 (es:Es):fv (.list es)=(fvs es):=rfl
theorem yG (es:Es):fv (.tup es)=(fvs es):=rfl
theorem ua (z0:String) (es:Es):fv (.call z0 es)=(fvs es):=rfl
theorem wg (elt:E) (z1:String) (it:It):fv (.comp elt z1 it)=(bI it ++ fv elt):=rfl
theorem qw (elt:E) (z1:String) (it:It) (c:E):fv (.compif elt z1 it c)=(bI it ++ (fv c ++ fv elt)):=rfl
theorem Fm:fvs .nil=([]):=rfl
theorem sv (e:E) (es:Es):fvs (.cons e es)=(fv e ++ fvs es):=rfl
theorem jn (a:E):bI (.e a)=(fv a):=rfl
theorem we (n:E):bI (.r1 n)=(fv n):=rfl
theorem vZ (a:E) (b:E):bI (.r2 a b)=(fv a ++ fv b):=rfl
inductive H1 where
 | asg (x:String) (e:E)
 | ret (e:E)
noncomputable def vJ:List H1→List String
 | []=>[]
 | .asg x _ :: r=>x :: vJ r
 | .ret _ :: _=>[]
noncomputable def qg:List (String × List H1)→List String
 | []=>[]
 | p :: r=>vJ p.2 ++ qg r
mutual
inductive S where
 | assign (x:String) (e:E)
 | setitem (x:String) (k:E)
 | append (x:String) (e:E)
 | appF (x:String) (is:Es) (e:E)
 | addF (x:String) (e:E)
 | pop (x:String) (i:E)
 | expr (e:E)
 | ret (e:E)
 | retn (x:String)
 | ite (c:E) (a b:Ss)
 | for1 (x:String) (it:It) (b:Ss)
 | raise (c:String)
 | tryS (b:S) (hs:List (String × List H1))
 | bad
inductive Ss where
 | nil
 | cons (s:S) (r:Ss)
end
mutual
noncomputable def asg:S→List String
 | .assign x _ | .setitem x _ | .append x _ | .appF x _ _ | .addF x _ | .pop x _=>[x]
 | .expr _ | .ret _ | .retn _ | .raise _ | .bad=>[]
 | .ite _ a b=>gP a ++ gP b
 | .for1 x _ b=>x :: gP b
 | .tryS b hs=>asg b ++ qg hs
noncomputable def gP:Ss→List String
 | .nil=>[]
 | .cons s r=>asg s ++ gP r
end
inductive Flw where
 | next
 | ret (v:V × Mode)
noncomputable def demote (σ:St) (ns:List String):St:=fun y=>if y∈ns then (σ y).map fun p=>mk p.1 else σ y
noncomputable def consume (σ:St) (ns:List String) (m:Mode):St:=if m = .deep then σ else demote σ ns
noncomputable def cK (f:PyData→St→Out (St × Flw)):List PyData→St→Out (St × Flw)
 | [],σ=>.ok (σ,.next)
 | x :: xs,σ=>(f x σ).bind fun r=>match r.2 with
    | .next=>cK f xs r.1
    | .ret v=>.ok (r.1,.ret v)
noncomputable def fU (σ:St) (x:String) (ns:List String) (mx:Mode) (xs:List PyData) (m:Mode):Out (St × Flw) :=
 if xs.length≤lim then
    if m = .deep then .ok (upd σ x (.d (.list xs),mx),.next)
    else if x∈ns then .bad else .ok (upd (demote σ ns) x (.d (.list xs),.top),.next)
 else .bad
noncomputable def fg (σ:St) (x:String):V→PyData→Out (St × Flw)
 | .dic0,k=>match dJ k with
    | some i=>.ok (upd σ x (.dicI [i],.deep),.next)
    | none=>match dg k with
      | some t=>.ok (upd σ x (.dicT [t],.deep),.next)
      | none=>.bad
 | .dicI ks,k=>match dJ k with
    | some i=>if ks.length≤lim then .ok (upd σ x (.dicI (if i∈ks then ks else ks ++ [i]),.deep),.next) else .bad
    | none=>.bad
 | .dicT ks,k=>match dg k with
    | some i=>if ks.length≤lim then .ok (upd σ x (.dicT (if i∈ks then ks else ks ++ [i]),.deep),.next) else .bad
    | none=>.bad
 | _,_=>.bad
noncomputable def evP (C:Calls) (d:PyData):Es→St→Out (List Int × PyData)
 | .nil,_=>.ok ([],d)
 | .cons i r,σ=>(evP C d r σ).bind fun p=>(ev C i σ).bind fun q=>av (asD q.1) fun k=>av (dJ k) fun k=>av (jJ p.2 k) fun e=>.ok (p.1 ++ [k],e)
noncomputable def gq:E→Bool
 | .comp _ _ _ | .compif _ _ _ _=>true
 | _=>false
noncomputable def evA (C:Calls) (e:E) (σ:St):Out (V × Mode):=if gq e then (ev C e σ).calm else ev C e σ
theorem jV {C:Calls}{e:E}{σ:St}{r:V × Mode} (h:ev C e σ = .ok r):evA C e σ = .ok r:=by
 unfold evA; rw [h]; split <;> rfl
theorem zE {C:Calls}{e:E}{σ:St}{r:V × Mode} (h:evA C e σ = .ok r):ev C e σ = .ok r:=by
 unfold evA at h
 split at h
 ·  cases q:ev C e σ with
    | ok a=>rw [q] at h; exact h
    | exc c=>rw [q] at h; cases h
    | bad=>rw [q] at h; cases h
 ·  exact h
theorem pM {C:Calls}{e:E}{σ:St}{c:String} (h:evA C e σ = .exc c):ev C e σ = .exc c∧gq e=false:=by
 unfold evA at h
 split at h
 ·  cases q:ev C e σ <;> rw [q] at h <;> cases h
 ·  rename_i q
    exact ⟨h,by cases hc:gq e with | true=>exact absurd hc q | false=>rfl⟩
mutual
noncomputable def hOk:E→Bool
 | .name _ | .int _ | .bool _=>true
 | .bin _ a b | .cmp _ a b | .and a b | .or a b=>hOk a && hOk b
 | .not a=>hOk a
 | .list es=>vG es
 | _=>false
noncomputable def vG:Es→Bool
 | .nil=>true
 | .cons e es=>hOk e && vG es
end
noncomputable def noC:Calls:=fun uu=>none
noncomputable def exH:List H1→St→Out (St × Flw)
 | [],σ=>.ok (σ,.next)
 | .asg x e :: r,σ=>if hOk e then (ev noC e σ).calm.bind fun q=>exH r (upd (consume σ (fv e) q.2) x q) else .bad
 | .ret e :: _,σ=>if hOk e then (ev noC e σ).calm.bind fun q=>.ok (σ,.ret q) else .bad
noncomputable def iE (C:Calls) (c:String):List (String × List H1)→St→Out (St × Flw)
 | [],_=>.bad
 | p :: r,σ=>av (C p.1) fun uu=>if p.1∈aO then (if p.1=c∨p.1 = "PickError" then exH p.2 σ else iE C c r σ) else .bad
noncomputable def qq:S→Bool
 | .expr _ | .assign _ _=>true
 | _=>false
noncomputable def orH (C:Calls) (b:S) (hs:List (String × List H1)) (σ:St):Out (St × Flw)→Out (St × Flw)
 | .ok r=>.ok r
 | .exc c=>if qq b then iE C c hs σ else .bad
 | .bad=>.bad
mutual
noncomputable def ex (C:Calls):S→St→Out (St × Flw)
 | .assign x e,σ=>(evA C e σ).bind fun r=>.ok (upd (consume σ (fv e) r.2) x r,.next)
 | .setitem x k,σ=>(ev C k σ).calm.bind fun r=>match r.1,σ x with
    | .d k,some (v,.deep)=>fg σ x v k
    | _,_=>.bad
 | .append x e,σ=>(ev C e σ).calm.bind fun r=>match r.1,σ x with
    | .d y,some (v,mx)=>(match fY v with
      | some xs=>if mx = .sh then .bad else fU σ x (fv e) mx (xs ++ [y]) r.2
      | none=>.bad)
    | _,_=>.bad
 | .appF x is e,σ=>match σ x with
    | some (v,.deep)=>av (C "Rule") fun uu=>av (eF v) fun q=>(evP C q.2.1 is σ).calm.bind fun p=>(ev C e σ).calm.bind fun r=>av (asD r.1) fun y=>if sx y then av (modP y p.1 q.2.1) fun d'=>.ok (upd σ x (.rule q.1 d' q.2.2,.deep),.next) else .bad
    | _=>.bad
 | .addF x e,σ=>match σ x with
    | some (v,.deep)=>av (C "Rule") fun uu=>av (eF v) fun q=>av (asL q.2.1) fun xs=>if xs.length<lim then (ev C e σ).calm.bind fun r=>.ok (fun y=>if y=x then none else σ y,.next) else .bad
    | _=>.bad
 | .pop x i,σ=>(ev C i σ).calm.bind fun q=>match q.1,σ x with
    | .d (.int i),some (v,mx)=>(match fY v with
      | some xs=>if mx = .sh∨i<0∨(xs.length:Int)≤i then .bad else .ok (upd σ x (.d (.list (xs.eraseIdx i.toNat)),.top),.next)
      | none=>.bad)
    | _,_=>.bad
 | .expr e,σ=>(ev C e σ).bind fun r=>.ok (consume σ (fv e) r.2,.next)
 | .retn x,σ=>match σ x with
    | some r=>.ok (σ,.ret r)
    | none=>.bad
 | .ret e,σ=>(ev C e σ).bind fun r=>.ok (σ,.ret r)
 | .ite c a b,σ=>(ev C c σ).bind fun r=>(ao r.1).bind fun t=>if t then exs C a σ else exs C b σ
 | .for1 x it b,σ=>(bj C it σ).bind fun q=>cK (fun y σ=>exs C b (upd σ x (mk (.d y)))) q.1 (consume σ (bI it) q.2)
 | .raise c,_=>av (C c) fun uu=>if c∈aO then .exc c else .bad
 | .tryS b hs,σ=>orH C b hs σ (ex C b σ)
 | .bad,_=>.bad
noncomputable def exs (C:Calls):Ss→St→Out (St × Flw)
 | .nil,σ=>.ok (σ,.next)
 | .cons s r,σ=>(ex C s σ).bind fun q=>match q.2 with
    | .next=>exs C r q.1
    | .ret v=>.ok (q.1,.ret v)
end
theorem cw (C:Calls) (x:String) (e:E) (σ:St):ex C (.assign x e) σ=((evA C e σ).bind fun r=>.ok (upd (consume σ (fv e) r.2) x r,.next)):=rfl
theorem cB (C:Calls) (x:String) (k:E) (σ:St):ex C (.setitem x k) σ=((ev C k σ).calm.bind fun r=>match r.1,σ x with
    | .d k,some (v,.deep)=>fg σ x v k
    | _,_=>.bad):=rfl
theorem dG (C:Calls) (x:String) (e:E) (σ:St):ex C (.append x e) σ=((ev C e σ).calm.bind fun r=>match r.1,σ x with
    | .d y,some (v,mx)=>(match fY v with
      | some xs=>if mx = .sh then .bad else fU σ x (fv e) mx (xs ++ [y]) r.2
      | none=>.bad)
    | _,_=>.bad):=rfl
theorem g6 (C:Calls) (x:String) (is:Es) (e:E) (σ:St):ex C (.appF x is e) σ=(match σ x with
    | some (v,.deep)=>av (C "Rule") fun uu=>av (eF v) fun q=>(evP C q.2.1 is σ).calm.bind fun p=>(ev C e σ).calm.bind fun r=>av (asD r.1) fun y=>if sx y then av (modP y p.1 q.2.1) fun d'=>.ok (upd σ x (.rule q.1 d' q.2.2,.deep),.next) else .bad
    | _=>.bad):=rfl
theorem gK (C:Calls) (x:String) (e:E) (σ:St):ex C (.addF x e) σ=(match σ x with
    | some (v,.deep)=>av (C "Rule") fun uu=>av (eF v) fun q=>av (asL q.2.1) fun xs=>if xs.length<lim then (ev C e σ).calm.bind fun r=>.ok (fun y=>if y=x then none else σ y,.next) else .bad
    | _=>.bad):=rfl
theorem li (C:Calls) (x:String) (i:E) (σ:St):ex C (.pop x i) σ=((ev C i σ).calm.bind fun q=>match q.1,σ x with
    | .d (.int i),some (v,mx)=>(match fY v with
      | some xs=>if mx = .sh∨i<0∨(xs.length:Int)≤i then .bad else .ok (upd σ x (.d (.list (xs.eraseIdx i.toNat)),.top),.next)
      | none=>.bad)
    | _,_=>.bad):=rfl
theorem dT (C:Calls) (e:E) (σ:St):ex C (.expr e) σ=((ev C e σ).bind fun r=>.ok (consume σ (fv e) r.2,.next)):=rfl
theorem jH (C:Calls) (x:String) (σ:St):ex C (.retn x) σ=(match σ x with
    | some r=>.ok (σ,.ret r)
    | none=>.bad):=rfl
theorem iY (C:Calls) (e:E) (σ:St):ex C (.ret e) σ=((ev C e σ).bind fun r=>.ok (σ,.ret r)):=rfl
theorem gd (C:Calls) (c:E) (a:Ss) (b:Ss) (σ:St):ex C (.ite c a b) σ=((ev C c σ).bind fun r=>(ao r.1).bind fun t=>if t then exs C a σ else exs C b σ):=rfl
theorem g8 (C:Calls) (x:String) (it:It) (b:Ss) (σ:St):ex C (.for1 x it b) σ=((bj C it σ).bind fun q=>cK (fun y σ=>exs C b (upd σ x (mk (.d y)))) q.1 (consume σ (bI it) q.2)):=rfl
theorem eu (C:Calls) (c:String) (σ0:St):ex C (.raise c) σ0=(av (C c) fun uu=>if c∈aO then .exc c else .bad):=rfl
theorem jO (C:Calls) (b:S) (hs:List (String × List H1)) (σ:St):ex C (.tryS b hs) σ=(orH C b hs σ (ex C b σ)):=rfl
theorem yk (C:Calls) (σ0:St):ex C .bad σ0=(.bad):=rfl
theorem da (C:Calls) (σ:St):exs C .nil σ=(.ok (σ,.next)):=rfl
theorem bP (C:Calls) (s:S) (r:Ss) (σ:St):exs C (.cons s r) σ=((ex C s σ).bind fun q=>match q.2 with
    | .next=>exs C r q.1
    | .ret v=>.ok (q.1,.ret v)):=rfl
structure Fn where
 params:List String
 body:Ss
noncomputable def bz:List String→List V→Option St
 | [],[]=>some fun uu=>none
 | p :: ps,v :: vs=>(bz ps vs).map fun σ=>upd σ p (mk v)
 | _,_=>none
noncomputable def aB (C:Calls) (f:Fn) (vs:List V):Out (V × Mode):=match bz f.params vs with
 | some σ=>(exs C f.body σ).bind fun r=>match r.2 with
    | .ret v=>.ok v
    | .next=>.ok (.d .none,.deep)
 | none=>.bad
noncomputable def bL (C:Calls):Calls:=fun f=>if f = "law" then none else C f
noncomputable def eA (σ:St):Out (V × Mode):=av (σ "count") fun p=>av (asD p.1) fun c=>av (dJ c) fun c=>av (σ "full") fun q=>av (asD q.1) fun d=>av (asL d) fun xs=>av (xs[0]?) fun x=>av (asL x) fun ys=>
 if q.2 = .deep then .ok (.rule c (.list xs) ys.length,.deep) else .bad
noncomputable def cG (C:Calls) (f:Fn) (vs:List V):Out (V × Mode):=match bz f.params vs with
 | some σ=>(exs C f.body σ).bind fun r=>match r.2 with
    | .next=>eA r.1
    | .ret _=>.bad
 | none=>.bad
noncomputable def cT (f:String) (C:Calls) (fn:Fn) (vs:List V):Out (V × Mode):=if f = "Rule" then cG (bL C) fn vs else if f∈methNames then aB (bL C) fn vs else aB C fn vs
noncomputable def mkC (L:List (String × Fn)):Nat→Calls
 | 0=>fun uu=>none
 | n + 1=>fun f=>(L.lookup f).map fun fn vs=>cT f (mkC L n) fn vs
end Mine
namespace Mine
open PySem PyProof.Rows
mutual
inductive R (h:Heap):Value→PyData→List Addr→Prop
 | none:R h .none .none []
 | bool (b:Bool):R h (.bool b) (.bool b) []
 | int (i:Int) (t:Tok):R h (.int i t) (.int i) []
 | str (x:Str) (t:Tok):R h (.str x t) (.str x) []
 | list {a:Addr}{n:Nat}{xs:List PyData}{as:List Addr}{vs:List Value}:h.get? a=some ⟨.type "list", Option.none,.seq vs.toArray n,#[]⟩→RA h vs xs as→R h (.ref a) (.list xs) (a :: as)
 | tuple {a:Addr}{n:Nat}{xs:List PyData}{as:List Addr}{vs:List Value}:h.get? a=some ⟨.type "tuple", Option.none,.seq vs.toArray n,#[]⟩→RA h vs xs as→R h (.ref a) (.tuple xs) as
inductive RA (h:Heap):List Value→List PyData→List Addr→Prop
 | nil:RA h [] [] []
 | cons {v:Value}{vs:List Value}{d:PyData}{ds:List PyData}{as bs:List Addr}:R h v d as→RA h vs ds bs→RA h (v :: vs) (d :: ds) (as ++ bs)
end
theorem R.ind {h:Heap}{M:Value→PyData→List Addr→Prop}{N:List Value→List PyData→List Addr→Prop} (h1:M .none .none []) (h2:∀ b,M (.bool b) (.bool b) []) (h3:∀ i t,M (.int i t) (.int i) []) (h4:∀ x t,M (.str x t) (.str x) [])
    (h5:∀ {a:Addr}{n:Nat}{xs:List PyData}{as:List Addr}{vs:List Value},h.get? a=some ⟨.type "list", Option.none,.seq vs.toArray n,#[]⟩→RA h vs xs as→N vs xs as→M (.ref a) (.list xs) (a :: as))
    (h6:∀ {a:Addr}{n:Nat}{xs:List PyData}{as:List Addr}{vs:List Value},h.get? a=some ⟨.type "tuple", Option.none,.seq vs.toArray n,#[]⟩→RA h vs xs as→N vs xs as→M (.ref a) (.tuple xs) as)
    (h7:N [] [] []) (h8:∀ {v:Value}{vs:List Value}{d:PyData}{ds:List PyData}{as bs:List Addr},R h v d as→RA h vs ds bs→M v d as→N vs ds bs→N (v :: vs) (d :: ds) (as ++ bs)) :
    (∀ {v:Value}{d:PyData}{as:List Addr},R h v d as→M v d as)∧(∀ {vs:List Value}{ds:List PyData}{as:List Addr},RA h vs ds as→N vs ds as) :=
 ⟨fun r=>R.rec (motive_1:=fun v d as _=>M v d as) (motive_2:=fun vs ds as _=>N vs ds as) h1 h2 h3 h4 (fun e r i=>h5 e r i) (fun e r i=>h6 e r i) h7 (fun x r i j=>h8 x r i j) r,
    fun r=>RA.rec (motive_1:=fun v d as _=>M v d as) (motive_2:=fun vs ds as _=>N vs ds as) h1 h2 h3 h4 (fun e r i=>h5 e r i) (fun e r i=>h6 e r i) h7 (fun x r i j=>h8 x r i j) r⟩
theorem RA.ind {h:Heap}{N:List Value→List PyData→List Addr→Prop} (h7:N [] [] []) (h8:∀ {v:Value}{vs:List Value}{d:PyData}{ds:List PyData}{as bs:List Addr},R h v d as→RA h vs ds bs→N vs ds bs→N (v :: vs) (d :: ds) (as ++ bs))
    {vs:List Value}{ds:List PyData}{as:List Addr} (r:RA h vs ds as):N vs ds as :=
 (R.ind (M:=fun uu uu uu=>True) (N:=N) trivial (fun uu=>trivial) (fun uu uu=>trivial) (fun uu uu=>trivial) (fun uu uu uu=>trivial) (fun uu uu uu=>trivial) h7 fun x r _ j=>h8 x r j).2 r
noncomputable def Kps (h h':Heap) (as:List Addr):Prop:=∀ b o,(b∈as∨o.cls = .type "tuple")→(∃ vs n,o.data = .seq vs n)→h.get? b=some o→h'.get? b=some o
theorem R.onB {h h':Heap}:(∀ {v:Value}{d:PyData}{as:List Addr},R h v d as→Kps h h' as→R h' v d as)∧(∀ {vs:List Value}{ds:List PyData}{as:List Addr},RA h vs ds as→Kps h h' as→RA h' vs ds as) :=
 R.ind (M:=fun v d as=>Kps h h' as→R h' v d as) (N:=fun vs ds as=>Kps h h' as→RA h' vs ds as) (fun uu=>.none) (fun b _=>.bool b) (fun i t _=>.int i t) (fun x t _=>.str x t)
    (fun e _ ih k=>.list (k _ _ (.inl (.head _)) (bE _ _ rfl) e) (ih fun b o hb=>k b o (hb.imp (.tail _) id))) (fun e _ ih k=>.tuple (k _ _ (.inr rfl) (bE _ _ rfl) e) (ih k))
    (fun uu=>.nil) (fun uu uu i j k=>.cons (i fun b o hb=>k b o (hb.imp (List.mem_append_left _) id)) (j fun b o hb=>k b o (hb.imp (List.mem_append_right _) id)))
section
variable {h h':Heap}{v:Value}{d:PyData}{as:List Addr}{vs:List Value}{ds:List PyData}
theorem R.on2 (r:R h v d as) (k:∀ b o,(b∈as∨o.cls = .type "tuple")→(∃ vs n,o.data = .seq vs n)→h.get? b=some o→h'.get? b=some o):R h' v d as:=R.onB.1 r k
theorem RA.on2 (r:RA h vs ds as) (k:∀ b o,(b∈as∨o.cls = .type "tuple")→(∃ vs n,o.data = .seq vs n)→h.get? b=some o→h'.get? b=some o):RA h' vs ds as:=R.onB.2 r k
theorem R.on (r:R h v d as) (k:∀ b o,(b∈as∨o.cls = .type "tuple")→h.get? b=some o→h'.get? b=some o):R h' v d as:=r.on2 fun b o q _=>k b o q
theorem RA.on (r:RA h vs ds as) (k:∀ b o,(b∈as∨o.cls = .type "tuple")→h.get? b=some o→h'.get? b=some o):RA h' vs ds as:=r.on2 fun b o q _=>k b o q
end
noncomputable def Off (h:Heap) (as wr:List Addr):Prop:=∀ b∈wr,∀ o,h.get? b=some o→(∀ vs n,o.data≠.seq vs n)∨(o.cls≠.type "tuple" ∧ b∉as)
theorem R.off {h h':Heap}{v:Value}{d:PyData}{as wr:List Addr} (r:R h v d as) (hw:Off h as wr) (kp:∀ b o,b∉wr→h.get? b=some o→h'.get? b=some o):R h' v d as :=
 r.on2 fun b o hb ⟨vs,n,e⟩ hg=>kp b o (fun hm=>(hw b hm o hg).elim (fun q=>q vs n e) fun q=>hb.elim q.2 q.1) hg
theorem RA.off {h h':Heap}{vs:List Value}{ds:List PyData}{as wr:List Addr} (r:RA h vs ds as) (hw:Off h as wr) (kp:∀ b o,b∉wr→h.get? b=some o→h'.get? b=some o):RA h' vs ds as :=
 r.on2 fun b o hb ⟨vs,n,e⟩ hg=>kp b o (fun hm=>(hw b hm o hg).elim (fun q=>q vs n e) fun q=>hb.elim q.2 q.1) hg
section
variable {h h':Heap}{v:Value}{d:PyData}{as:List Addr}{vs:List Value}{ds:List PyData}
theorem R.keep (r:R h v d as) (k:∀ b o,h.get? b=some o→h'.get? b=some o):R h' v d as:=r.on fun b o _=>k b o
theorem RA.keep (r:RA h vs ds as) (k:∀ b o,h.get? b=some o→h'.get? b=some o):RA h' vs ds as:=r.on fun b o _=>k b o
end
theorem R.readsB {h:Heap}:(∀ {v:Value}{d:PyData}{as:List Addr},R h v d as→Reads h v d as)∧(∀ {vs:List Value}{ds:List PyData}{as:List Addr},RA h vs ds as→ReadsAll h vs ds as) :=
 R.ind (M:=fun v d as=>Reads h v d as) (N:=fun vs ds as=>ReadsAll h vs ds as) .none (fun b=>.bool b) (fun i t=>.int i t) (fun x t=>.str x t) (fun e _ i=>.list e rfl rfl (by simpa using i)) (fun e _ i=>.tuple e rfl rfl (by simpa using i)) .nil (fun uu uu i j=>.cons i j)
theorem R.reads {h:Heap}{v:Value}{d:PyData}{as:List Addr} (r:R h v d as):Reads h v d as:=R.readsB.1 r
noncomputable def mF (h:Heap) (as:List Addr):Prop:=∀ a∈as,∃ vs n,h.get? a=some ⟨.type "list", Option.none,.seq vs n,#[]⟩
theorem R.thereB {h:Heap}:(∀ {v:Value}{d:PyData}{as:List Addr},R h v d as→mF h as)∧(∀ {vs:List Value}{ds:List PyData}{as:List Addr},RA h vs ds as→mF h as) :=
 R.ind (M:=fun uu uu as=>mF h as) (N:=fun uu uu as=>mF h as) (fun uu ha=>nomatch ha) (fun uu uu ha=>nomatch ha) (fun uu uu uu ha=>nomatch ha) (fun uu uu uu ha=>nomatch ha)
    (fun e _ i a ha=>(List.mem_cons.mp ha).elim (fun q=>q▸(bE _ _ e)) (i a)) (fun uu uu i=>i) (fun uu ha=>nomatch ha) (fun uu uu i j a ha=>(List.mem_append.mp ha).elim (i a) (j a))
theorem R.there {h:Heap}{v:Value}{d:PyData}{as:List Addr} (r:R h v d as):∀ a∈as,∃ vs n,h.get? a=some ⟨.type "list", Option.none,.seq vs n,#[]⟩:=R.thereB.1 r
theorem RA.there {h:Heap}{vs:List Value}{ds:List PyData}{as:List Addr} (r:RA h vs ds as):∀ a∈as,∃ vs n,h.get? a=some ⟨.type "list", Option.none,.seq vs n,#[]⟩:=R.thereB.2 r
theorem R.isInt {h:Heap}{v:Value}{i:Int}{as:List Addr} (r:R h v (.int i) as):∃ t,v = .int i t∧as=[]:=by
 cases r; exact (ah _ rfl rfl)
theorem R.isInt_k {h:Heap}{v:Value}{i:Int}{as:List Addr}{G:Prop} (r:R h v (.int i) as) (k:∀ t,v = .int i t→as=[]→G):G:=ag (R.isInt r) k
theorem R.isBool {h:Heap}{v:Value}{b:Bool}{as:List Addr} (r:R h v (.bool b) as):v = .bool b∧as=[]:=by
 cases r; exact ⟨rfl,rfl⟩
theorem R.isNone {h:Heap}{v:Value}{as:List Addr} (r:R h v .none as):v = .none∧as=[]:=by
 cases r; exact ⟨rfl,rfl⟩
theorem R.sx_nil {h:Heap}{v:Value}{d:PyData}{as:List Addr} (r:R h v d as) (hs:sx d=true):as=[]:=by
 cases r <;> first | rfl | (simp [sx] at hs)
theorem RA.length {h:Heap}{vs:List Value}{ds:List PyData}{as:List Addr} (r:RA h vs ds as):vs.length=ds.length :=
 RA.ind (N:=fun vs ds _=>vs.length=ds.length) rfl (fun uu uu i=>congrArg (· + 1) i) r
theorem RA.append {h:Heap}{vs ws:List Value}{ds es:List PyData}{as bs:List Addr} (r:RA h vs ds as) (q:RA h ws es bs):RA h (vs ++ ws) (ds ++ es) (as ++ bs) :=
 RA.ind (N:=fun vs ds as=>RA h (vs ++ ws) (ds ++ es) (as ++ bs)) q (fun x _ i=>by rw [List.append_assoc]; exact .cons x i) r
theorem RA.sx_nil {h:Heap}{vs:List Value}{ds:List PyData}{as:List Addr} (r:RA h vs ds as):ds.all sx=true→as=[] :=
 RA.ind (N:=fun uu ds as=>ds.all sx=true→as=[]) (fun uu=>rfl) (fun x _ i hs=>by
    refine dF (show (sx _ && List.all _ sx)=true from hs) fun h1 h2=>?_
    rw [x.sx_nil h1,i h2]; rfl) r
theorem RA.get {h:Heap}{vs:List Value}{ds:List PyData}{as:List Addr} (r:RA h vs ds as):∀ {k:Nat}{d:PyData},ds[k]? = some d→∃ v bs,vs[k]? = some v∧R h v d bs∧∀ b∈bs,b∈as:=by
 have key:∀ (k:Nat) (d:PyData),ds[k]? = some d→∃ v bs,vs[k]? = some v∧R h v d bs∧∀ b∈bs,b∈as:=by
    refine RA.ind (N:=fun vs ds as=>∀ (k:Nat) (d:PyData),ds[k]? = some d→∃ v bs,vs[k]? = some v∧R h v d bs∧∀ b∈bs,b∈as) (fun k d hk=>by cases hk) (fun x _ i k d hk=>?_) r
    cases k with
    | zero=>(have oc:=Option.some.inj hk; clear hk; subst oc); exact (aS _ _ rfl x (fun b hb=>List.mem_append_left _ hb))
    | succ k=>
      refine az (i k d hk) fun v bs h1 h2 h3=>?_
      exact (aS v bs h1 h2 (fun b hb=>List.mem_append_right _ (h3 b hb)))
 exact fun {k d}=>key k d
theorem RA.get' {h:Heap}{vs:List Value}{ds:List PyData}{as:List Addr} (r:RA h vs ds as) {k:Nat}{v:Value} (hk:vs[k]? = some v):∃ d bs,ds[k]? = some d∧R h v d bs∧∀ b∈bs,b∈as:=by
 have hl:k<ds.length:=by rw [← r.length]; exact (List.getElem?_eq_some_iff.mp hk).1
 refine az (r.get (List.getElem?_eq_getElem hl)) fun v' bs h1 h2 h3=>?_
 rw [hk] at h1; (have oc:=Option.some.inj h1; clear h1; subst oc)
 exact (aS _ bs (List.getElem?_eq_getElem hl) h2 h3)
theorem RA.ints {h:Heap}{vs:List Value}{ds:List PyData}{as:List Addr}{ns:List Int} (r:RA h vs ds as) (e:aM ds=some ns):IntsAre vs ns∧as=[]∧ds=ns.map .int:=by
 refine RA.ind (N:=fun vs ds as=>∀ ns,aM ds=some ns→IntsAre vs ns∧as=[]∧ds=ns.map .int) (fun ns e=>?_) (fun {v vs d ds as cs} x r i ns e=>?_) r ns e
 ·  (have oc:=Option.some.inj e; clear e; subst oc); exact ⟨.nil,rfl,rfl⟩
 ·  cases x with
    | int j t=>
      refine bp (show (aM ds).map (j :: ·)=some ns from e) fun ms e1 FW=>?_
      (clear e; subst FW)
      refine aD (i ms e1) fun a FX FY=>?_
      (clear i r; subst FX)
      subst FY
      exact ⟨.cons j t a,rfl,rfl⟩
    | _=>exact nN e
theorem RA.of_ints {h:Heap}{vs:List Value}{ns:List Int} (r:IntsAre vs ns):RA h vs (ns.map .int) []:=by
 induction r with
 | nil=>exact .nil
 | cons i t r ih=>exact .cons (as:=[]) (.int i t) ih
mutual
noncomputable def sz:PyData→Bool
 | .none | .bool _ | .int _=>true
 | .str x=>decide (x.length≤2 ^ 22)
 | .list xs | .tuple xs=>decide (xs.length≤2 ^ 22) && szs xs
 | .dict _=>false
noncomputable def szs:List PyData→Bool
 | []=>true
 | x :: xs=>sz x && szs xs
end
theorem pQ {xs:List PyData}:szs xs=true↔∀ x∈xs,sz x=true:=by
 induction xs with
 | nil=>simp [szs]
 | cons x xs ih=>simp [szs,ih]
theorem sz_list {xs:List PyData}:sz (.list xs)=true↔xs.length≤2 ^ 22∧∀ x∈xs,sz x=true:=by simp [sz,pQ]
theorem sz_tuple {xs:List PyData}:sz (.tuple xs)=true↔xs.length≤2 ^ 22∧∀ x∈xs,sz x=true:=by simp [sz,pQ]
theorem gV (ns:List Int):∀ x∈ns.map PyData.int,sz x=true:=by
 intro x hx; obtain ⟨i,_,rfl⟩:=List.mem_map.mp hx; rfl
end Mine
namespace Mine
open PySem PyProof.Rows
noncomputable def varK (ns:List (Str × NameKind)) (x:String):Bool:=!(Str.ofString x == Str.ofString ".0") && (match ns.lookup (Str.ofString x) with
 | some .local | some .cell | some .free=>true
 | _=>false)
noncomputable def cD (ns:List (Str × NameKind)) (x:String):Bool:=ns.lookup (Str.ofString x) == some .globalImplicit
noncomputable def aT (x:String):Bool:=!(Str.ofString x == ("__debug__" : Str)) && !(Str.ofString x == ("__classdict__" : Str))
noncomputable def bOp:BOp→Operator
 | .add=>.Add | .sub=>.Sub | .mul=>.Mult | .fdiv=>.FloorDiv | .mod=>.Mod | .pow=>.Pow | .xor=>.BitXor
noncomputable def cOp:COp→CmpOp
 | .eq=>.Eq | .ne=>.NotEq | .lt=>.Lt | .gt=>.Gt | .ge=>.GtE | .isin=>.In | .notin=>.NotIn | .isnot=>.IsNot
noncomputable def opB (o:BOp) (p:Operator):Bool:=decide (p=bOp o)
noncomputable def opC (o:COp) (p:CmpOp):Bool:=decide (p=cOp o)
noncomputable def b1n:B1→String
 | .len => "len" | .list => "list" | .tuple => "tuple" | .sorted => "sorted" | .max => "max"
noncomputable def eH (outer inner:List (Str × NameKind)):List (Str × NameKind) :=
 inner.map fun (n,k)=>if k == .free && outer.lookup n == some .cell then (n,.cell) else (n,k)
noncomputable def f7 (ns:List (Str × NameKind)) (sc:Scope) (x:String):Bool :=
 sc.kind == .function && decide ((sc.names.map (·.1)).Nodup) && (sc.names.lookup (Str.ofString x) == some .local || sc.names.lookup (Str.ofString x) == some .cell) &&
 sc.names.all fun p=>(p.2 == .local && (p.1 == Str.ofString x || p.1 == Str.ofString ".0")) || p.2 == .globalImplicit || (p.2 == .cell && p.1 == Str.ofString x) || (p.2 == .free && (ns.lookup p.1 == some .cell || ns.lookup p.1 == some .free))
noncomputable def am {α:Type} (o:Option α) (f:α→Bool):Bool:=match o with
 | some a=>f a
 | none=>false
theorem gU {α:Type}{o:Option α}{f:α→Bool} (h:am o f=true):∃ a,o=some a∧f a=true:=by
 cases o with
 | none=>exact nF h
 | some a=>exact (ah a rfl h)
theorem ak {α:Type}{o:Option α}{f:α→Bool}{G:Prop} (h:am o f=true) (k:∀ a,o=some a→f a=true→G):G:=ag (gU h) k
structure Pt where
 tag:Nat:=0
 e1:Expr:=default
 e2:Expr:=default
 es:List Expr:=[]
 st:Str:=default
 co:Const:=default
 n:Nat:=0
 op:Operator:=default
 un:UnaryOp:=default
 bo:BoolOp:=default
 cs:List CmpOp:=[]
 ks:List (Option Expr):=[]
 gs:List Comprehension:=[]
 sc:Scope:=default
 o1:Option Expr:=none
 o2:Option Expr:=none
 o3:Option Expr:=none
 kw:List Keyword:=[]
 pos:Pos:=default
noncomputable def pt:Expr→Pt
 | .Name x0 x1=>{ tag:=1,st:=x0,pos:=x1 }
 | .Constant x0 x1 x2=>{ tag:=2,co:=x0,n:=x1,pos:=x2 }
 | .BinOp x0 x1 x2 x3=>{ tag:=3,e1:=x0,op:=x1,e2:=x2,pos:=x3 }
 | .UnaryOp x0 x1 x2=>{ tag:=4,un:=x0,e1:=x1,pos:=x2 }
 | .Compare x0 x1 x2 x3=>{ tag:=5,e1:=x0,cs:=x1,es:=x2,pos:=x3 }
 | .BoolOp x0 x1 x2=>{ tag:=6,bo:=x0,es:=x1,pos:=x2 }
 | .List x0 x1=>{ tag:=7,es:=x0,pos:=x1 }
 | .Tuple x0 x1 x2=>{ tag:=8,es:=x0,n:=x1,pos:=x2 }
 | .Dict x0 x1 x2=>{ tag:=9,ks:=x0,es:=x1,pos:=x2 }
 | .ListComp x0 x1 x2 x3=>{ tag:=10,e1:=x0,gs:=x1,sc:=x2,pos:=x3 }
 | .Subscript x0 x1 x2=>{ tag:=11,e1:=x0,e2:=x1,pos:=x2 }
 | .Slice x0 x1 x2 x3=>{ tag:=12,o1:=x0,o2:=x1,o3:=x2,pos:=x3 }
 | .Call x0 x1 x2 x3=>{ tag:=13,e1:=x0,es:=x1,kw:=x2,pos:=x3 }
 | .Attribute x0 x1 x2=>{ tag:=14,e1:=x0,st:=x1,pos:=x2 }
 | _=>{}
noncomputable def ptB (n:Nat) (p:Pt):Expr:=match n with
 | 1=>.Name p.st p.pos
 | 2=>.Constant p.co p.n p.pos
 | 3=>.BinOp p.e1 p.op p.e2 p.pos
 | 4=>.UnaryOp p.un p.e1 p.pos
 | 5=>.Compare p.e1 p.cs p.es p.pos
 | 6=>.BoolOp p.bo p.es p.pos
 | 7=>.List p.es p.pos
 | 8=>.Tuple p.es p.n p.pos
 | 9=>.Dict p.ks p.es p.pos
 | 10=>.ListComp p.e1 p.gs p.sc p.pos
 | 11=>.Subscript p.e1 p.e2 p.pos
 | 12=>.Slice p.o1 p.o2 p.o3 p.pos
 | 13=>.Call p.e1 p.es p.kw p.pos
 | 14=>.Attribute p.e1 p.st p.pos
 | _=>default
theorem yF (e:Expr):(pt e).tag=0∨ptB (pt e).tag (pt e)=e:=by cases e <;> first | exact .inr rfl | exact .inl rfl
theorem cg {e:Expr}{n:Nat} (hn:n≠0) (h:(pt e).tag=n):e=ptB n (pt e):=by
 rcases yF e with q | q
 ·  exact absurd (h.symm.trans q) hn
 ·  rw [h] at q; exact q.symm
noncomputable def ifN {α:Type} (m n:Nat) (a:α):Option α:=if m=n then some a else none
theorem yJ {α:Type}{m n:Nat}{a b:α} (h:ifN m n a=some b):m=n∧a=b:=by
 unfold ifN at h
 by_cases q:m=n
 ·  rw [if_pos q] at h; exact ⟨q,Option.some.inj h⟩
 ·  rw [if_neg q] at h; exact nN h
theorem bV {α:Type}{m n:Nat}{a b:α}{G:Prop} (h:ifN m n a=some b) (k:m=n→a=b→G):G:=ae (yJ h) k
noncomputable def cb (e:Expr):Option (Str × Pos):=ifN (pt e).tag 1 ((pt e).st,(pt e).pos)
noncomputable def fw (e:Expr):Option (Const × Nat × Pos):=ifN (pt e).tag 2 ((pt e).co,(pt e).n,(pt e).pos)
noncomputable def zB (e:Expr):Option (Expr × Operator × Expr × Pos):=ifN (pt e).tag 3 ((pt e).e1,(pt e).op,(pt e).e2,(pt e).pos)
noncomputable def dUn (e:Expr):Option (UnaryOp × Expr × Pos):=ifN (pt e).tag 4 ((pt e).un,(pt e).e1,(pt e).pos)
noncomputable def zD (e:Expr):Option (Expr × List CmpOp × List Expr × Pos):=ifN (pt e).tag 5 ((pt e).e1,(pt e).cs,(pt e).es,(pt e).pos)
noncomputable def rA (e:Expr):Option (BoolOp × List Expr × Pos):=ifN (pt e).tag 6 ((pt e).bo,(pt e).es,(pt e).pos)
noncomputable def wJ (e:Expr):Option (List Expr × Pos):=ifN (pt e).tag 7 ((pt e).es,(pt e).pos)
noncomputable def zx (e:Expr):Option (List Expr × Nat × Pos):=ifN (pt e).tag 8 ((pt e).es,(pt e).n,(pt e).pos)
noncomputable def xf (e:Expr):Option (List (Option Expr) × List Expr × Pos):=ifN (pt e).tag 9 ((pt e).ks,(pt e).es,(pt e).pos)
noncomputable def dLC (e:Expr):Option (Expr × List Comprehension × Scope × Pos):=ifN (pt e).tag 10 ((pt e).e1,(pt e).gs,(pt e).sc,(pt e).pos)
noncomputable def n8 (e:Expr):Option (Expr × Expr × Pos):=ifN (pt e).tag 11 ((pt e).e1,(pt e).e2,(pt e).pos)
noncomputable def kZ (e:Expr):Option (Expr × List Expr × List Keyword × Pos):=ifN (pt e).tag 13 ((pt e).e1,(pt e).es,(pt e).kw,(pt e).pos)
noncomputable def kR (e:Expr):Option (Expr × Str × Pos):=ifN (pt e).tag 14 ((pt e).e1,(pt e).st,(pt e).pos)
noncomputable def zR:Const→Option Int
 | .int i=>some i
 | _=>none
noncomputable def uO:Const→Option Str
 | .str i=>some i
 | _=>none
noncomputable def qA:Const→Option Bool
 | .bool i=>some i
 | _=>none
noncomputable def wI:Const→Option Unit
 | .none=>some ()
 | _=>none
noncomputable def bK {α:Type}:List α→Option α
 | [x]=>some x
 | _=>none
noncomputable def vo {α:Type}:List α→Option (α × α)
 | [x,y]=>some (x,y)
 | _=>none
noncomputable def dA {α:Type}:List α→Option Unit
 | []=>some ()
 | _=>none
noncomputable def fz {α:Type}:List α→Option (α × List α)
 | x :: y=>some (x,y)
 | _=>none
section
variable {e:Expr}
theorem aY {q:Str × Pos} (h:cb e=some q):e = .Name q.1 q.2:=by
 refine bV h fun h1 FW=>?_
 (clear h; subst FW)
 exact cg (by decide) h1
theorem cX {q:Const × Nat × Pos} (h:fw e=some q):e = .Constant q.1 q.2.1 q.2.2:=by
 refine bV h fun h1 FX=>?_
 (clear h; subst FX)
 exact cg (by decide) h1
theorem ue {q:Expr × Operator × Expr × Pos} (h:zB e=some q):e = .BinOp q.1 q.2.1 q.2.2.1 q.2.2.2:=by
 refine bV h fun h1 FY=>?_
 (clear h; subst FY)
 exact cg (by decide) h1
theorem pN {q:UnaryOp × Expr × Pos} (h:dUn e=some q):e = .UnaryOp q.1 q.2.1 q.2.2:=by
 refine bV h fun h1 FZ=>?_
 (clear h; subst FZ)
 exact cg (by decide) h1
theorem vC {q:Expr × List CmpOp × List Expr × Pos} (h:zD e=some q):e = .Compare q.1 q.2.1 q.2.2.1 q.2.2.2:=by
 refine bV h fun h1 F0=>?_
 (clear h; subst F0)
 exact cg (by decide) h1
theorem lG {q:BoolOp × List Expr × Pos} (h:rA e=some q):e = .BoolOp q.1 q.2.1 q.2.2:=by
 refine bV h fun h1 F1=>?_
 (clear h; subst F1)
 exact cg (by decide) h1
theorem tS {q:List Expr × Pos} (h:wJ e=some q):e = .List q.1 q.2:=by
 refine bV h fun h1 F2=>?_
 (clear h; subst F2)
 exact cg (by decide) h1
theorem uh {q:List Expr × Nat × Pos} (h:zx e=some q):e = .Tuple q.1 q.2.1 q.2.2:=by
 refine bV h fun h1 F4=>?_
 (clear h; subst F4)
 exact cg (by decide) h1
theorem tU {q:List (Option Expr) × List Expr × Pos} (h:xf e=some q):e = .Dict q.1 q.2.1 q.2.2:=by
 refine bV h fun h1 F5=>?_
 (clear h; subst F5)
 exact cg (by decide) h1
theorem xZ {q:Expr × List Comprehension × Scope × Pos} (h:dLC e=some q):e = .ListComp q.1 q.2.1 q.2.2.1 q.2.2.2:=by
 refine bV h fun h1 F6=>?_
 (clear h; subst F6)
 exact cg (by decide) h1
theorem fq {q:Expr × Expr × Pos} (h:n8 e=some q):e = .Subscript q.1 q.2.1 q.2.2:=by
 refine bV h fun h1 Ga=>?_
 (clear h; subst Ga)
 exact cg (by decide) h1
theorem eE {q:Expr × List Expr × List Keyword × Pos} (h:kZ e=some q):e = .Call q.1 q.2.1 q.2.2.1 q.2.2.2:=by
 refine bV h fun h1 Gh=>?_
 (clear h; subst Gh)
 exact cg (by decide) h1
theorem fN {q:Expr × Str × Pos} (h:kR e=some q):e = .Attribute q.1 q.2.1 q.2.2:=by
 refine bV h fun h1 Gi=>?_
 (clear h; subst Gi)
 exact cg (by decide) h1
theorem ug {c:Const}{q:Int} (h:zR c=some q):c = .int q:=by cases c <;> cases h; rfl
theorem nL {c:Const}{q:Str} (h:uO c=some q):c = .str q:=by cases c <;> cases h; rfl
theorem l8 {c:Const}{q:Bool} (h:qA c=some q):c = .bool q:=by cases c <;> cases h; rfl
theorem tj {c:Const}{q:Unit} (h:wI c=some q):c = .none:=by cases c <;> cases h; rfl
variable {α:Type}{l:List α}
theorem b8 {q:Unit} (h:dA l=some q):l=[]:=by
 cases l with
 | nil=>rfl
 | cons=>exact nN h
theorem ck {q:α × List α} (h:fz l=some q):l=q.1 :: q.2:=by
 cases l with
 | nil=>exact nN h
 | cons=>(have oc:=Option.some.inj h; clear h; subst oc); rfl
theorem aW {q:α} (h:bK l=some q):l=[q]:=by
 cases l with
 | nil=>exact nN h
 | cons x l=>
    cases l with
    | nil=>(have oc:=Option.some.inj h; clear h; subst oc); rfl
    | cons=>exact nN h
theorem oP {q:α × α} (h:vo l=some q):l=[q.1,q.2]:=by
 cases l with
 | nil=>exact nN h
 | cons x l=>
    cases l with
    | nil=>exact nN h
    | cons y l=>
      cases l with
      | nil=>(have oc:=Option.some.inj h; clear h; subst oc); rfl
      | cons=>exact nN h
end
noncomputable def dFn (e:Expr):Option (Str × Pos × List Expr × Pos):=(kZ e).bind fun q=>(dA q.2.2.1).bind fun uu=>(cb q.1).map fun n=>(n.1,n.2,q.2.1,q.2.2.2)
theorem gb {e:Expr}{q:Str × Pos × List Expr × Pos} (h:dFn e=some q):e = .Call (.Name q.1 q.2.1) q.2.2.1 [] q.2.2.2:=by
 refine bg h fun c h1 h=>?_
 refine bg h fun u h2 h=>?_
 refine bp h fun n h3 h=>?_
 subst h
 rw [eE h1,b8 h2,aY h3]
noncomputable def qN (e:Expr):Option (Expr × Str × Pos × Expr × List Expr × Scope × Pos):=(dLC e).bind fun q=>(bK q.2.1).bind fun g=>(cb g.target).bind fun n=>if g.is_async=0 then some (q.1,n.1,n.2,g.iter,g.ifs,q.2.2.1,q.2.2.2) else none
theorem mv {e:Expr}{q:Expr × Str × Pos × Expr × List Expr × Scope × Pos} (h:qN e=some q):e = .ListComp q.1 [⟨.Name q.2.1 q.2.2.1,q.2.2.2.1,q.2.2.2.2.1,0⟩] q.2.2.2.2.2.1 q.2.2.2.2.2.2:=by
 refine bg h fun c h1 h=>?_
 refine bg h fun Gj h2 h=>?_
 obtain ⟨gt,gi,gf,ga⟩:=Gj
 refine bg h fun n h3 h=>?_
 dsimp only at h h3
 split at h
 ·  rename_i h4
    (have oc:=Option.some.inj h; clear h; subst oc)
    rw [xZ h1,aW h2,aY h3,h4]
 ·  exact nN h
noncomputable def rL:E→Bool
 | .name _=>true
 | .call _ _=>true
 | _=>false
mutual
noncomputable def okE (ns:List (Str × NameKind)):E→Expr→Bool
 | .name x,ex=>am (cb ex) fun q=>q.1 == Str.ofString x && varK ns x && aT x
 | .int i,ex=>am (fw ex) fun q=>am (zR q.1) fun j=>i == j
 | .str s,ex=>am (fw ex) fun q=>am (uO q.1) fun t=>Str.ofString s == t && decide (t.length≤2 ^ 22)
 | .bool b,ex=>am (fw ex) fun q=>am (qA q.1) fun c=>b == c
 | .none,ex=>am (fw ex) fun q=>(wI q.1).isSome
 | .bin o a b,ex=>am (zB ex) fun q=>opB o q.2.1 && okE ns a q.1 && okE ns b q.2.2.1
 | .neg a,ex=>am (dUn ex) fun q=>decide (q.1 = .USub) && okE ns a q.2.1
 | .not a,ex=>am (dUn ex) fun q=>decide (q.1 = .Not) && okE ns a q.2.1
 | .cmp o a b,ex=>am (zD ex) fun q=>am (bK q.2.1) fun op=>am (bK q.2.2.1) fun r=>opC o op && okE ns a q.1 && okE ns b r
 | .and a b,ex=>am (rA ex) fun q=>decide (q.1 = .And) && am (fz q.2.1) fun v=>okE ns a v.1 && (match bK v.2 with | some u=>okE ns b u | none=>okA ns b v.2)
 | .or a b,ex=>am (rA ex) fun q=>decide (q.1 = .Or) && am (fz q.2.1) fun v=>okE ns a v.1 && (match bK v.2 with | some u=>okE ns b u | none=>okO ns b v.2)
 | .list es,ex=>am (wJ ex) fun q=>decide (q.1.length<1000) && dE ns es q.1
 | .tup es,ex=>am (zx ex) fun q=>decide (q.1.length<1000) && dE ns es q.1
 | .edic,ex=>am (xf ex) fun q=>(dA q.1).isSome && (dA q.2.1).isSome
 | .comp elt x it,ex=>am (qN ex) fun q=>am (dA q.2.2.2.2.1) fun uu=>q.2.1 == Str.ofString x && f7 ns q.2.2.2.2.2.1 x && fP ns it q.2.2.2.1 && okE (eH ns q.2.2.2.2.2.1.names) elt q.1
 | .compif elt x it c,ex=>am (qN ex) fun q=>am (bK q.2.2.2.2.1) fun f=>q.2.1 == Str.ofString x && f7 ns q.2.2.2.2.2.1 x && fP ns it q.2.2.2.1 && okE (eH ns q.2.2.2.2.2.1.names) c f && okE (eH ns q.2.2.2.2.2.1.names) elt q.1
 | .sub a i,ex=>am (n8 ex) fun q=>okE ns a q.1 && okE ns i q.2.1
 | .attr a n,ex=>am (kR ex) fun q=>q.2.1 == Str.ofString n && decide (n∈fieldNames) && rL a && okE ns a q.1
 | .bi1 f a,ex=>am (dFn ex) fun q=>am (bK q.2.2.1) fun x=>q.1 == Str.ofString (b1n f) && cD ns (b1n f) && okE ns a x
 | .isi a t,ex=>am (dFn ex) fun q=>am (vo q.2.2.1) fun x=>am (cb x.2) fun c=>q.1 == Str.ofString "isinstance" && cD ns "isinstance" && okE ns a x.1 && c.1 == Str.ofString t && cD ns t && aT t
 | .call f es,ex=>am (dFn ex) fun q=>q.1 == Str.ofString f && cD ns f && aT f && !decide (f∈methNames) && !decide (f∈aO) && !q.2.2.1.isEmpty && decide (q.2.2.1.length<20) && dE ns es q.2.2.1
termination_by structural e=>e
noncomputable def okA (ns:List (Str × NameKind)):E→List Expr→Bool
 | .and a b,ex=>am (fz ex) fun v=>okE ns a v.1 && (match bK v.2 with | some u=>okE ns b u | none=>okA ns b v.2)
 | _,_=>false
termination_by structural e=>e
noncomputable def okO (ns:List (Str × NameKind)):E→List Expr→Bool
 | .or a b,ex=>am (fz ex) fun v=>okE ns a v.1 && (match bK v.2 with | some u=>okE ns b u | none=>okO ns b v.2)
 | _,_=>false
termination_by structural e=>e
noncomputable def dE (ns:List (Str × NameKind)):Es→List Expr→Bool
 | .nil,ex=>(dA ex).isSome
 | .cons e es,ex=>am (fz ex) fun q=>okE ns e q.1 && dE ns es q.2
termination_by structural e=>e
noncomputable def fP (ns:List (Str × NameKind)):It→Expr→Bool
 | .e a,x=>okE ns a x
 | .r1 n,ex=>am (dFn ex) fun q=>am (bK q.2.2.1) fun x=>q.1 == Str.ofString "range" && cD ns "range" && okE ns n x
 | .r2 a b,ex=>am (dFn ex) fun q=>am (vo q.2.2.1) fun x=>q.1 == Str.ofString "range" && cD ns "range" && okE ns a x.1 && okE ns b x.2
termination_by structural e=>e
end
section
variable {ns:List (Str × NameKind)}{ex:Expr}{a b c:E}
theorem rP {x:String} (h:okE ns (.name x) ex=true):(∃ id p,ex = .Name id p∧(id == Str.ofString x && varK ns x && aT x)=true)∨False:=by
 refine ak h fun q e h=>?_
 exact .inl (aA q.1 q.2 (aY e) h)
theorem Ce {i:Int} (h:okE ns (.int i) ex=true):(∃ j k p,ex = .Constant (.int j) k p∧(i == j)=true)∨False:=by
 refine ak h fun q e h=>?_
 refine ak h fun j e' h=>?_
 exact .inl (bT j q.2.1 q.2.2 (by rw [cX e,ug e']) h)
theorem Ao {s:String} (h:okE ns (.str s) ex=true):(∃ t k p,ex = .Constant (.str t) k p∧(Str.ofString s == t && decide (t.length≤2 ^ 22))=true)∨False:=by
 refine ak h fun q e h=>?_
 refine ak h fun j e' h=>?_
 exact .inl (bT j q.2.1 q.2.2 (by rw [cX e,nL e']) h)
theorem zi {s:Bool} (h:okE ns (.bool s) ex=true):(∃ t k p,ex = .Constant (.bool t) k p∧(s == t)=true)∨False:=by
 refine ak h fun q e h=>?_
 refine ak h fun j e' h=>?_
 exact .inl (bT j q.2.1 q.2.2 (by rw [cX e,l8 e']) h)
theorem zZ (h:okE ns .none ex=true):(∃ k p,ex = .Constant .none k p∧True)∨False:=by
 refine ak h fun q e h=>?_
 refine bF h fun j e'=>?_
 exact .inl (aA q.2.1 q.2.2 (by rw [cX e,tj e']) trivial)
theorem Bw {o:BOp} (h:okE ns (.bin o a b) ex=true):(∃ l op r p,ex = .BinOp l op r p∧(opB o op && okE ns a l && okE ns b r)=true)∨False:=by
 refine ak h fun q e h=>?_
 exact .inl (eK _ _ _ _ (ue e) h)
theorem wV (h:okE ns (.neg a) ex=true):(∃ x p,ex = .UnaryOp .USub x p∧okE ns a x=true)∨False:=by
 refine ak h fun q e h=>?_
 refine dF h fun h1 h2=>?_
 exact .inl (aA _ _ (by rw [pN e,of_decide_eq_true h1]) h2)
theorem Cb (h:okE ns (.not a) ex=true):(∃ x p,ex = .UnaryOp .Not x p∧okE ns a x=true)∨False:=by
 refine ak h fun q e h=>?_
 refine dF h fun h1 h2=>?_
 exact .inl (aA _ _ (by rw [pN e,of_decide_eq_true h1]) h2)
theorem B8 {o:COp} (h:okE ns (.cmp o a b) ex=true):(∃ l op r p,ex = .Compare l [op] [r] p∧(opC o op && okE ns a l && okE ns b r)=true)∨False:=by
 refine ak h fun q e h=>?_
 refine ak h fun op e1 h=>?_
 refine ak h fun r e2 h=>?_
 exact .inl (eK _ op r _ (by rw [vC e,aW e1,aW e2]) h)
noncomputable def okA' (ns:List (Str × NameKind)) (b:E) (vs:List Expr):Bool:=match bK vs with | some u=>okE ns b u | none=>okA ns b vs
noncomputable def okO' (ns:List (Str × NameKind)) (b:E) (vs:List Expr):Bool:=match bK vs with | some u=>okE ns b u | none=>okO ns b vs
theorem CR (h:okE ns (.and a b) ex=true):(∃ v vs p,ex = .BoolOp .And (v :: vs) p∧(okE ns a v && okA' ns b vs)=true)∨False:=by
 refine ak h fun q e h=>?_
 refine dF h fun h1 h2=>?_
 refine ak h2 fun v e1 h=>?_
 exact .inl (bT _ _ _ (by rw [lG e,of_decide_eq_true h1,ck e1]) h)
theorem EU (h:okE ns (.or a b) ex=true):(∃ v vs p,ex = .BoolOp .Or (v :: vs) p∧(okE ns a v && okO' ns b vs)=true)∨False:=by
 refine ak h fun q e h=>?_
 refine dF h fun h1 h2=>?_
 refine ak h2 fun v e1 h=>?_
 exact .inl (bT _ _ _ (by rw [lG e,of_decide_eq_true h1,ck e1]) h)
theorem i_A {xs:List Expr} (h:okA ns (.and a b) xs=true):(∃ v vs,xs=v :: vs∧(okE ns a v && okA' ns b vs)=true)∨False:=by
 refine ak h fun q e h=>?_
 exact .inl (aA _ _ (ck e) h)
theorem i_O {xs:List Expr} (h:okO ns (.or a b) xs=true):(∃ v vs,xs=v :: vs∧(okE ns a v && okO' ns b vs)=true)∨False:=by
 refine ak h fun q e h=>?_
 exact .inl (aA _ _ (ck e) h)
theorem zn {es:Es} (h:okE ns (.list es) ex=true):(∃ xs p,ex = .List xs p∧(decide (xs.length<1000) && dE ns es xs)=true)∨False:=by
 refine ak h fun q e h=>?_
 exact .inl (aA _ _ (tS e) h)
theorem AV {es:Es} (h:okE ns (.tup es) ex=true):(∃ xs k p,ex = .Tuple xs k p∧(decide (xs.length<1000) && dE ns es xs)=true)∨False:=by
 refine ak h fun q e h=>?_
 exact .inl (bT _ _ _ (uh e) h)
theorem zC (h:okE ns .edic ex=true):(∃ p,ex = .Dict [] [] p∧True)∨False:=by
 refine ak h fun q e h=>?_
 refine dF h fun h1 h2=>?_
 refine bF h1 fun uu e1=>?_
 refine bF h2 fun uu e2=>?_
 exact .inl (ah _ (by rw [tU e,b8 e1,b8 e2]) trivial)
theorem sA {x:String}{it:It} (h:okE ns (.comp a x it) ex=true):(∃ e t pt i sc p,ex = .ListComp e [⟨.Name t pt,i,[],0⟩] sc p∧(t == Str.ofString x && f7 ns sc x && fP ns it i && okE (eH ns sc.names) a e)=true)∨False:=by
 refine ak h fun q e h=>?_
 refine ak h fun uu e1 h=>?_
 exact .inl (qW _ _ _ _ _ _ (by rw [mv e,b8 e1]) h)
theorem oH {x:String}{it:It} (h:okE ns (.compif a x it c) ex=true):(∃ e t pt i f sc p,ex = .ListComp e [⟨.Name t pt,i,[f],0⟩] sc p∧(t == Str.ofString x && f7 ns sc x && fP ns it i && okE (eH ns sc.names) c f && okE (eH ns sc.names) a e)=true)∨False:=by
 refine ak h fun q e h=>?_
 refine ak h fun uu e1 h=>?_
 exact .inl (kv _ _ _ _ _ _ _ (by rw [mv e,aW e1]) h)
theorem CT (h:okE ns (.sub a b) ex=true):(∃ v s p,ex = .Subscript v s p∧(okE ns a v && okE ns b s)=true)∨False:=by
 refine ak h fun q e h=>?_
 exact .inl (bT _ _ _ (fq e) h)
theorem wB {f:B1} (h:okE ns (.bi1 f a) ex=true):(∃ id p x pos,ex = .Call (.Name id p) [x] [] pos∧(id == Str.ofString (b1n f) && cD ns (b1n f) && okE ns a x)=true)∨False:=by
 refine ak h fun q e h=>?_
 refine ak h fun x e1 h=>?_
 exact .inl (eK _ _ x _ (by rw [gb e,aW e1]) h)
theorem C0 {t:String} (h:okE ns (.isi a t) ex=true):(∃ id p x c pc pos,ex = .Call (.Name id p) [x,.Name c pc] [] pos∧(id == Str.ofString "isinstance" && cD ns "isinstance" && okE ns a x && c == Str.ofString t && cD ns t && aT t)=true)∨False:=by
 refine ak h fun q e h=>?_
 refine ak h fun x e1 h=>?_
 refine ak h fun c e2 h=>?_
 exact .inl (qW _ _ x.1 c.1 c.2 _ (by rw [gb e,oP e1,aY e2]) h)
theorem sW {f:String}{es:Es} (h:okE ns (.call f es) ex=true):(∃ id p xs pos,ex = .Call (.Name id p) xs [] pos∧(id == Str.ofString f && cD ns f && aT f && !decide (f∈methNames) && !decide (f∈aO) && !xs.isEmpty && decide (xs.length<20) && dE ns es xs)=true)∨False:=by
 refine ak h fun q e h=>?_
 exact .inl (eK _ _ _ _ (gb e) h)
theorem Ae {n:String} (h:okE ns (.attr a n) ex=true):(∃ v p,ex = .Attribute v (Str.ofString n) p∧n∈fieldNames∧rL a=true∧okE ns a v=true)∨False:=by
 refine ak h fun q e h=>?_
 simp only [Bool.and_eq_true,beq_iff_eq,decide_eq_true_eq] at h
 exact .inl (aU q.1 q.2.2 (by rw [fN e,h.1.1.1]) h.1.1.2 h.1.2 h.2)
theorem rh {xs:List Expr} (h:dE ns .nil xs=true):(xs=[]∧True)∨False:=by
 refine bF (show (dA xs).isSome=true from h) fun uu e=>?_
 exact .inl ⟨b8 e,trivial⟩
theorem oz {es:Es}{xs:List Expr} (h:dE ns (.cons a es) xs=true):(∃ x ys,xs=x :: ys∧(okE ns a x && dE ns es ys)=true)∨False:=by
 refine ak h fun q e h=>?_
 exact .inl (aA _ _ (ck e) h)
theorem Ew (h:fP ns (.r1 a) ex=true):(∃ id p x pos,ex = .Call (.Name id p) [x] [] pos∧(id == Str.ofString "range" && cD ns "range" && okE ns a x)=true)∨False:=by
 refine ak h fun q e h=>?_
 refine ak h fun x e1 h=>?_
 exact .inl (eK _ _ x _ (by rw [gb e,aW e1]) h)
theorem Eh (h:fP ns (.r2 a b) ex=true):(∃ id p x y pos,ex = .Call (.Name id p) [x,y] [] pos∧(id == Str.ofString "range" && cD ns "range" && okE ns a x && okE ns b y)=true)∨False:=by
 refine ak h fun q e h=>?_
 refine ak h fun x e1 h=>?_
 exact .inl (qv _ _ x.1 x.2 _ (by rw [gb e,oP e1]) h)
end
end Mine
namespace Mine
open PySem PyProof.Rows
noncomputable def bnames:List String:=["len", "list", "tuple", "sorted", "max", "min", "sum", "range", "isinstance", "int", "bool", "str"]
noncomputable def bmV:List Value:=[.type "ValueError", .type "Exception", .type "BaseException", .type "object"]
noncomputable def bC (ns:List (Str × NameKind)) (x:String):Bool:=varK ns x && aT x && (ns.lookup (Str.ofString x) == some .local || ns.lookup (Str.ofString x) == some .cell)
structure Ps where
 tag:Nat:=0
 e1:Expr:=default
 e2:Expr:=default
 es:List Expr:=[]
 o1:Option Expr:=none
 o2:Option Expr:=none
 s1:List Stmt:=[]
 s2:List Stmt:=[]
 s3:List Stmt:=[]
 hs:List ExceptHandler:=[]
 pos:Pos:=default
noncomputable def ps:Stmt→Ps
 | .Assign x0 x1 x2=>{ tag:=1,es:=x0,e1:=x1,pos:=x2 }
 | .Expr x0 x1=>{ tag:=2,e1:=x0,pos:=x1 }
 | .Return x0 x1=>{ tag:=3,o1:=x0,pos:=x1 }
 | .If x0 x1 x2 x3=>{ tag:=4,e1:=x0,s1:=x1,s2:=x2,pos:=x3 }
 | .For x0 x1 x2 x3 x4=>{ tag:=5,e1:=x0,e2:=x1,s1:=x2,s2:=x3,pos:=x4 }
 | .While x0 x1 x2 x3=>{ tag:=6,e1:=x0,s1:=x1,s2:=x2,pos:=x3 }
 | .Raise x0 x1 x2=>{ tag:=7,o1:=x0,o2:=x1,pos:=x2 }
 | .Try x0 x1 x2 x3 x4=>{ tag:=8,s1:=x0,hs:=x1,s2:=x2,s3:=x3,pos:=x4 }
 | _=>{}
noncomputable def psB (n:Nat) (p:Ps):Stmt:=match n with
 | 1=>.Assign p.es p.e1 p.pos
 | 2=>.Expr p.e1 p.pos
 | 3=>.Return p.o1 p.pos
 | 4=>.If p.e1 p.s1 p.s2 p.pos
 | 5=>.For p.e1 p.e2 p.s1 p.s2 p.pos
 | 6=>.While p.e1 p.s1 p.s2 p.pos
 | 7=>.Raise p.o1 p.o2 p.pos
 | 8=>.Try p.s1 p.hs p.s2 p.s3 p.pos
 | _=>default
theorem yc (e:Stmt):(ps e).tag=0∨psB (ps e).tag (ps e)=e:=by cases e <;> first | exact .inr rfl | exact .inl rfl
theorem fb {e:Stmt}{n:Nat} (hn:n≠0) (h:(ps e).tag=n):e=psB n (ps e):=by
 rcases yc e with q | q
 ·  exact absurd (h.symm.trans q) hn
 ·  rw [h] at q; exact q.symm
noncomputable def hY {α:Type}:List α→Option (α × List α)
 | []=>none
 | a :: l=>some (a,l)
theorem dq {α:Type}{l:List α}{q:α × List α} (h:hY l=some q):l=q.1 :: q.2:=by
 cases l with
 | nil=>exact nN h
 | cons a l=>exact Option.some.inj h▸rfl
noncomputable def t9 (s:Stmt):Option Expr:=if (ps s).tag=7∧(ps s).o2.isNone=true then (ps s).o1 else none
theorem v4 {s:Stmt}{e:Expr} (h:t9 s=some e):∃ p,s = .Raise (some e) none p:=by
 unfold t9 at h
 by_cases c:(ps s).tag=7∧(ps s).o2.isNone=true
 ·  rw [if_pos c] at h
    refine ⟨(ps s).pos,(fb (by decide) c.1).trans ?_⟩
    show Stmt.Raise _ _ _=_
    rw [h,Option.isNone_iff_eq_none.mp c.2]
 ·  rw [if_neg c] at h; exact nN h
noncomputable def vh (s:Stmt):Option (Stmt × ExceptHandler × List ExceptHandler):=if (ps s).tag=8∧(ps s).s2.isEmpty=true∧(ps s).s3.isEmpty=true then (hY (ps s).s1).bind fun b=>if b.2.isEmpty=true then (hY (ps s).hs).map fun q=>(b.1,q.1,q.2) else none else none
theorem wi {s:Stmt}{q:Stmt × ExceptHandler × List ExceptHandler} (h:vh s=some q):∃ p,s = .Try [q.1] (q.2.1 :: q.2.2) [] [] p:=by
 unfold vh at h
 by_cases c:(ps s).tag=8∧(ps s).s2.isEmpty=true∧(ps s).s3.isEmpty=true
 ·  rw [if_pos c] at h
    obtain ⟨b,hb,h⟩:=Option.bind_eq_some_iff.mp h
    by_cases d:b.2.isEmpty=true
    · rw [if_pos d] at h
      obtain ⟨r,hr,e⟩:=Option.map_eq_some_iff.mp h
      refine ⟨(ps s).pos,(fb (by decide) c.1).trans ?_⟩
      show Stmt.Try _ _ _ _ _=_
      rw [dq hb,dq hr,List.isEmpty_iff.mp d,List.isEmpty_iff.mp c.2.1,List.isEmpty_iff.mp c.2.2,← e]
    · rw [if_neg d] at h; exact nN h
 ·  rw [if_neg c] at h; exact nN h
noncomputable def dH0:ExceptHandler→Option Expr × Option Str × List Stmt × Pos
 | .ExceptHandler a b c p=>(a,b,c,p)
noncomputable def ui (s:ExceptHandler):Option (Expr × Stmt × List Stmt):=if (dH0 s).2.1.isNone=true then (dH0 s).1.bind fun t=>(hY (dH0 s).2.2.1).map fun q=>(t,q.1,q.2) else none
theorem uC {s:ExceptHandler}{q:Expr × Stmt × List Stmt} (h:ui s=some q):∃ p,s = .ExceptHandler (some q.1) none (q.2.1 :: q.2.2) p:=by
 unfold ui at h
 by_cases c:(dH0 s).2.1.isNone=true
 ·  rw [if_pos c] at h
    obtain ⟨t,ht,h⟩:=Option.bind_eq_some_iff.mp h
    obtain ⟨r,hr,e⟩:=Option.map_eq_some_iff.mp h
    have back:s = .ExceptHandler (dH0 s).1 (dH0 s).2.1 (dH0 s).2.2.1 (dH0 s).2.2.2:=by cases s; rfl
    refine ⟨(dH0 s).2.2.2,back.trans ?_⟩
    rw [ht,dq hr,Option.isNone_iff_eq_none.mp c,← e]
 ·  rw [if_neg c] at h; exact nN h
noncomputable def oO (s:Stmt):Option (List Expr × Expr × Pos):=ifN (ps s).tag 1 ((ps s).es,(ps s).e1,(ps s).pos)
noncomputable def uP (s:Stmt):Option (Expr × Pos):=ifN (ps s).tag 2 ((ps s).e1,(ps s).pos)
noncomputable def qi (s:Stmt):Option (Option Expr × Pos):=ifN (ps s).tag 3 ((ps s).o1,(ps s).pos)
noncomputable def sIf (s:Stmt):Option (Expr × List Stmt × List Stmt × Pos):=ifN (ps s).tag 4 ((ps s).e1,(ps s).s1,(ps s).s2,(ps s).pos)
noncomputable def zL (s:Stmt):Option (Expr × Expr × List Stmt × List Stmt × Pos):=ifN (ps s).tag 5 ((ps s).e1,(ps s).e2,(ps s).s1,(ps s).s2,(ps s).pos)
theorem jN {s:Stmt}{q:List Expr × Expr × Pos} (h:oO s=some q):s = .Assign q.1 q.2.1 q.2.2:=by
 refine bV h fun h1 FW=>?_
 (clear h; subst FW)
 exact fb (by decide) h1
theorem nJ {s:Stmt}{q:Expr × Pos} (h:uP s=some q):s = .Expr q.1 q.2:=by
 refine bV h fun h1 FX=>?_
 (clear h; subst FX)
 exact fb (by decide) h1
theorem om {s:Stmt}{q:Option Expr × Pos} (h:qi s=some q):s = .Return q.1 q.2:=by
 refine bV h fun h1 FY=>?_
 (clear h; subst FY)
 exact fb (by decide) h1
theorem yi {s:Stmt}{q:Expr × List Stmt × List Stmt × Pos} (h:sIf s=some q):s = .If q.1 q.2.1 q.2.2.1 q.2.2.2:=by
 refine bV h fun h1 FZ=>?_
 (clear h; subst FZ)
 exact fb (by decide) h1
theorem vE {s:Stmt}{q:Expr × Expr × List Stmt × List Stmt × Pos} (h:zL s=some q):s = .For q.1 q.2.1 q.2.2.1 q.2.2.2.1 q.2.2.2.2:=by
 refine bV h fun h1 F0=>?_
 (clear h; subst F0)
 exact fb (by decide) h1
noncomputable def nv (s:Stmt):Option (Expr × Str × Pos × List Expr × Pos × Pos):=(uP s).bind fun q=>(kZ q.1).bind fun c=>(dA c.2.2.1).bind fun uu=>(kR c.1).map fun a=>(a.1,a.2.1,a.2.2,c.2.1,c.2.2.2,q.2)
theorem gQ {s:Stmt}{q:Expr × Str × Pos × List Expr × Pos × Pos} (h:nv s=some q):s = .Expr (.Call (.Attribute q.1 q.2.1 q.2.2.1) q.2.2.2.1 [] q.2.2.2.2.1) q.2.2.2.2.2:=by
 refine bg h fun c h1 h=>?_
 refine bg h fun u h2 h=>?_
 refine bg h fun uu h3 h=>?_
 refine bp h fun n h4 h=>?_
 subst h
 rw [nJ h1,eE h2,b8 h3,fN h4]
noncomputable def gG (ns:List (Str × NameKind)) (x:String) (ex:Expr):Bool:=am (kR ex) fun q=>am (cb q.1) fun n=>q.2.1 == Str.ofString "full" && (n.1 == Str.ofString x && bC ns x)
noncomputable def qX (ns:List (Str × NameKind)) (x:String):Es→Expr→Bool
 | .nil,ex=>gG ns x ex
 | .cons i r,ex=>am (n8 ex) fun q=>qX ns x r q.1 && okE ns i q.2.1
theorem kQ {ns:List (Str × NameKind)}{x:String}{ex:Expr} (h:gG ns x ex=true):∃ p pa,ex = .Attribute (.Name (Str.ofString x) p) (Str.ofString "full") pa∧bC ns x=true:=by
 refine ak h fun q e1 h=>?_
 refine ak h fun n e2 h=>?_
 simp only [Bool.and_eq_true,beq_iff_eq] at h
 exact ⟨n.2,q.2.2,by rw [fN e1,aY e2,h.1,h.2.1],h.2.2⟩
noncomputable def Fo (ns:List (Str × NameKind)):H1→Stmt→Bool
 | .asg x e,st=>am (oO st) fun q=>am (bK q.1) fun t=>am (cb t) fun n=>n.1 == Str.ofString x && bC ns x && okE ns e q.2.1
 | .ret e,st=>am (qi st) fun q=>am q.1 fun v=>okE ns e v
noncomputable def ux (ns:List (Str × NameKind)):List H1→List Stmt→Bool
 | [],st=>(dA st).isSome
 | s :: r,st=>am (fz st) fun q=>Fo ns s q.1 && ux ns r q.2
noncomputable def Fu (ns:List (Str × NameKind)) (p:String × List H1) (h:ExceptHandler):Bool:=am (ui h) fun q=>am (cb q.1) fun n=>n.1 == Str.ofString p.1 && cD ns p.1 && aT p.1 && ux ns p.2 (q.2.1 :: q.2.2)
noncomputable def qp (ns:List (Str × NameKind)):List (String × List H1)→List ExceptHandler→Bool
 | [],[]=>true
 | p :: r,h :: hs=>Fu ns p h && qp ns r hs
 | _,_=>false
mutual
noncomputable def okS (ns:List (Str × NameKind)):S→Stmt→Bool
 | .assign x e,st=>am (oO st) fun q=>am (bK q.1) fun t=>am (cb t) fun n=>n.1 == Str.ofString x && bC ns x && okE ns e q.2.1
 | .setitem x e,st=>am (oO st) fun q=>am (bK q.1) fun t=>am (n8 t) fun u=>am (cb u.1) fun n=>am (fw q.2.1) fun c=>am (qA c.1) fun b=>b && (n.1 == Str.ofString x && bC ns x && okE ns e u.2.1)
 | .append x e,st=>am (nv st) fun q=>am (cb q.1) fun n=>am (bK q.2.2.2.1) fun v=>q.2.1 == Str.ofString "append" && (q.2.2.1.endLine == q.2.2.2.2.1.line) && n.1 == Str.ofString x && bC ns x && okE ns e v
 | .appF x is e,st=>am (nv st) fun q=>am (n8 q.1) fun uu=>am (bK q.2.2.2.1) fun v=>q.2.1 == Str.ofString "append" && (q.2.2.1.endLine == q.2.2.2.2.1.line) && qX ns x is q.1 && okE ns e v
 | .addF x e,st=>am (nv st) fun q=>am (bK q.2.2.2.1) fun v=>q.2.1 == Str.ofString "append" && (q.2.2.1.endLine == q.2.2.2.2.1.line) && gG ns x q.1 && okE ns e v
 | .pop x i,st=>am (nv st) fun q=>am (cb q.1) fun n=>am (bK q.2.2.2.1) fun v=>q.2.1 == Str.ofString "pop" && (q.2.2.1.endLine == q.2.2.2.2.1.line) && n.1 == Str.ofString x && bC ns x && okE ns i v
 | .expr e,st=>am (uP st) fun q=>(kZ q.1).isSome && okE ns e q.1
 | .ret e,st=>am (qi st) fun q=>am q.1 fun v=>okE ns e v
 | .retn x,st=>am (qi st) fun q=>am q.1 fun v=>am (cb v) fun n=>n.1 == Str.ofString x && bC ns x
 | .ite c a b,st=>am (sIf st) fun q=>okE ns c q.1 && cE ns a q.2.1 && cE ns b q.2.2.1
 | .for1 x it b,st=>am (zL st) fun q=>am (dA q.2.2.2.1) fun uu=>am (cb q.1) fun n=>n.1 == Str.ofString x && bC ns x && fP ns it q.2.1 && cE ns b q.2.2.1
 | .raise c,st=>am (t9 st) fun q=>am (kZ q) fun a=>am (dA a.2.2.1) fun uu=>am (cb a.1) fun n=>am (bK a.2.1) fun m=>am (fw m) fun k=>am (uO k.1) fun t=>n.1 == Str.ofString c && cD ns c && aT c && decide (t.length≤1000)
 | .tryS b hs,st=>am (vh st) fun q=>okS ns b q.1 && qp ns hs (q.2.1 :: q.2.2)
 | .bad,_=>false
termination_by structural s=>s
noncomputable def cE (ns:List (Str × NameKind)):Ss→List Stmt→Bool
 | .nil,st=>(dA st).isSome
 | .cons s r,st=>am (fz st) fun q=>okS ns s q.1 && cE ns r q.2
termination_by structural s=>s
end
section
variable {ns:List (Str × NameKind)}{st:Stmt}{x:String}{e i c:E}{a b:Ss}
theorem iu (h:okS ns (.assign x e) st=true):(∃ t pt v p,st = .Assign [.Name t pt] v p∧(t == Str.ofString x && bC ns x && okE ns e v)=true)∨False:=by
 refine ak h fun q e1 h=>?_
 refine ak h fun t e2 h=>?_
 refine ak h fun n e3 h=>?_
 exact .inl (eK _ _ _ _ (by rw [jN e1,aW e2,aY e3]) h)
theorem qO (h:okS ns (.setitem x e) st=true):(∃ t pt i p1 k p2 p,st = .Assign [.Subscript (.Name t pt) i p1] (.Constant (.bool true) k p2) p∧(t == Str.ofString x && bC ns x && okE ns e i)=true)∨False:=by
 refine ak h fun q e1 h=>?_
 refine ak h fun t e2 h=>?_
 refine ak h fun u e3 h=>?_
 refine ak h fun n e4 h=>?_
 refine ak h fun c e5 h=>?_
 refine ak h fun b e6 h=>?_
 refine dF h fun F2 h=>?_
 subst F2
 exact .inl (kv _ _ _ _ _ _ _ (by rw [jN e1,aW e2,fq e3,aY e4,cX e5,l8 e6]) h)
theorem se (h:okS ns (.append x e) st=true):(∃ t pt m ap v pos sp,st = .Expr (.Call (.Attribute (.Name t pt) m ap) [v] [] pos) sp∧(m == Str.ofString "append" && (ap.endLine == pos.line) && t == Str.ofString x && bC ns x && okE ns e v)=true)∨False:=by
 refine ak h fun q e1 h=>?_
 refine ak h fun n e2 h=>?_
 refine ak h fun v e3 h=>?_
 exact .inl (kv _ _ _ _ v _ _ (by rw [gQ e1,aY e2,aW e3]) h)
theorem xR {is:Es} (h:okS ns (.appF x is e) st=true):(∃ y i p m ap v pos sp,st = .Expr (.Call (.Attribute (.Subscript y i p) m ap) [v] [] pos) sp∧(m == Str.ofString "append" && (ap.endLine == pos.line) && qX ns x is (.Subscript y i p) && okE ns e v)=true)∨False:=by
 refine ak h fun q e1 h=>?_
 refine ak h fun n e2 h=>?_
 refine ak h fun v e3 h=>?_
 rw [fq e2] at h
 exact .inl (y6 _ _ _ _ _ v _ _ (by rw [gQ e1,fq e2,aW e3]) h)
theorem yM (h:okS ns (.addF x e) st=true):(∃ y m ap v pos sp,st = .Expr (.Call (.Attribute y m ap) [v] [] pos) sp∧(m == Str.ofString "append" && (ap.endLine == pos.line) && gG ns x y && okE ns e v)=true)∨False:=by
 refine ak h fun q e1 h=>?_
 refine ak h fun v e3 h=>?_
 exact .inl (qW _ _ _ v _ _ (by rw [gQ e1,aW e3]) h)
theorem Aa (h:okS ns (.pop x e) st=true):(∃ t pt m ap v pos sp,st = .Expr (.Call (.Attribute (.Name t pt) m ap) [v] [] pos) sp∧(m == Str.ofString "pop" && (ap.endLine == pos.line) && t == Str.ofString x && bC ns x && okE ns e v)=true)∨False:=by
 refine ak h fun q e1 h=>?_
 refine ak h fun n e2 h=>?_
 refine ak h fun v e3 h=>?_
 exact .inl (kv _ _ _ _ v _ _ (by rw [gQ e1,aY e2,aW e3]) h)
theorem lc (h:okS ns (.expr e) st=true):(∃ f xs ks p sp,st = .Expr (.Call f xs ks p) sp∧okE ns e (.Call f xs ks p)=true)∨False:=by
 refine ak h fun q e1 h=>?_
 refine dF h fun h1 h2=>?_
 refine bF h1 fun c e2=>?_
 rw [eE e2] at h2
 exact .inl (qv _ _ _ _ _ (by rw [nJ e1,eE e2]) h2)
theorem tr (h:okS ns (.ret e) st=true):(∃ v p,st = .Return (some v) p∧okE ns e v=true)∨False:=by
 refine ak h fun q e1 h=>?_
 refine ak h fun v e2 h=>?_
 exact .inl (aA v _ (by rw [om e1,e2]) h)
theorem yB (h:okS ns (.retn x) st=true):(∃ t pt p,st = .Return (some (.Name t pt)) p∧(t == Str.ofString x && bC ns x)=true)∨False:=by
 refine ak h fun q e1 h=>?_
 refine ak h fun v e2 h=>?_
 refine ak h fun n e3 h=>?_
 exact .inl (bT _ _ _ (by rw [om e1,e2,aY e3]) h)
theorem th (h:okS ns (.ite c a b) st=true):(∃ t u v p,st = .If t u v p∧(okE ns c t && cE ns a u && cE ns b v)=true)∨False:=by
 refine ak h fun q e1 h=>?_
 exact .inl (eK _ _ _ _ (yi e1) h)
theorem pR {it:It} (h:okS ns (.for1 x it b) st=true):(∃ t pt i u p,st = .For (.Name t pt) i u [] p∧(t == Str.ofString x && bC ns x && fP ns it i && cE ns b u)=true)∨False:=by
 refine ak h fun q e1 h=>?_
 refine ak h fun uu e2 h=>?_
 refine ak h fun n e3 h=>?_
 exact .inl (qv _ _ _ _ _ (by rw [vE e1,b8 e2,aY e3]) h)
theorem ve {c:String} (h:okS ns (.raise c) st=true):(∃ n p t k p2 cp pos,st = .Raise (some (.Call (.Name n p) [.Constant (.str t) k p2] [] cp)) none pos∧(n == Str.ofString c && cD ns c && aT c && decide (t.length≤1000))=true)∨False:=by
 refine ak h fun q e1 h=>?_
 refine ak h fun a e2 h=>?_
 refine ak h fun uu e3 h=>?_
 refine ak h fun n e4 h=>?_
 refine ak h fun m e5 h=>?_
 refine ak h fun k e6 h=>?_
 refine ak h fun t e7 h=>?_
 refine aj (v4 e1) fun p e0=>?_
 exact .inl (kv n.1 n.2 t k.2.1 k.2.2 a.2.2.2 p (by rw [e0,eE e2,b8 e3,aY e4,aW e5,cX e6,nL e7]) h)
theorem ze {b:S}{hs:List (String × List H1)} (h:okS ns (.tryS b hs) st=true):∃ t d ds p,st = .Try [t] (d :: ds) [] [] p∧okS ns b t=true∧qp ns hs (d :: ds)=true:=by
 refine ak h fun q e1 h=>?_
 refine aj (wi e1) fun p e=>?_
 have h':=Bool.and_eq_true_iff.mp h
 exact (eK _ _ _ p e h')
theorem Ad {l:List Stmt} (h:cE ns .nil l=true):(l=[]∧True)∨False:=by
 refine bF (show (dA l).isSome=true from h) fun uu e=>?_
 exact .inl ⟨b8 e,trivial⟩
theorem pE {s:S}{l:List Stmt} (h:cE ns (.cons s a) l=true):(∃ t u,l=t :: u∧(okS ns s t && cE ns a u)=true)∨False:=by
 refine ak h fun q e1 h=>?_
 exact .inl (aA _ _ (ck e1) h)
end
structure FnT where
 params:List String
 body:List Stmt
 scope:Scope
 lam:Bool
noncomputable def okF (ft:FnT) (f:Fn):Bool:=decide (ft.params=f.params) && f.params.all (bC ft.scope.names) && decide f.params.Nodup && cE ft.scope.names f.body ft.body && ft.scope.names.all fun p=>p.2 != .free
noncomputable def dY (ns:List (Str × NameKind)) (n:String) (e:E) (st:Stmt):Bool:=am (oO st) fun q=>am (bK q.1) fun t=>am (kR t) fun u=>am (cb u.1) fun m=>m.1 == Str.ofString "self" && u.2.1 == Str.ofString n && okE ns e q.2.1
theorem jK {ns:List (Str × NameKind)}{n:String}{e:E}{st:Stmt} (h:dY ns n e st=true):∃ p1 p2 v p,st = .Assign [.Attribute (.Name (Str.ofString "self") p1) (Str.ofString n) p2] v p∧okE ns e v=true:=by
 refine ak h fun q e1 h=>?_
 refine ak h fun t e2 h=>?_
 refine ak h fun u e3 h=>?_
 refine ak h fun m e4 h=>?_
 simp only [Bool.and_eq_true,beq_iff_eq] at h
 refine (eK m.2 u.2.2 q.2.1 q.2.2 ?_ h.2)
 rw [jN e1,aW e2,fN e3,aY e4,h.1.1,h.1.2]
noncomputable def dO:E:=.bi1 .len (.sub (.name "full") (.int 0))
noncomputable def ok3 (ns:List (Str × NameKind)) (l:List Stmt):Bool:=am (hY l) fun p=>am (hY p.2) fun q=>am (hY q.2) fun r=>r.2.isEmpty && (dY ns "count" (.name "count") p.1 && (dY ns "full" (.name "full") q.1 && dY ns "size" dO r.1))
theorem xP {ns:List (Str × NameKind)}{l:List Stmt} (h:ok3 ns l=true):∃ a b c,l=[a,b,c]∧dY ns "count" (.name "count") a=true∧dY ns "full" (.name "full") b=true∧dY ns "size" dO c=true:=by
 obtain ⟨p,h1,h⟩:=gU h
 obtain ⟨q,h2,h⟩:=gU h
 obtain ⟨r,h3,h⟩:=gU h
 have e:=bA h
 have e2:=bA e.2
 have e3:=bA e2.2
 refine (fB p.1 q.1 r.1 ?_ e2.1 e3.1 e3.2)
 rw [dq h1,dq h2,dq h3,List.isEmpty_iff.mp e.1]
noncomputable def okI (ft:FnT) (f:Fn):Bool:=decide (ft.params = "self" :: f.params) && ft.params.all (bC ft.scope.names) && decide ft.params.Nodup && cE ft.scope.names f.body (ft.body.take (ft.body.length - 3)) && ok3 ft.scope.names (ft.body.drop (ft.body.length - 3)) && decide ("self" ∉ gP f.body) && (ft.scope.names.all fun p=>p.2 != .free) && !ft.lam
structure Soft where
 tab:Addr→Prop
 old:Addr→Prop
 rule:Addr
 exc:String→Addr
 excN:List String
structure Gl where
 prog:Program
 w:World
 SF:Soft
end Mine
namespace Mine
open PySem PyProof.Rows
noncomputable def jL (h:Heap) (c:String):Addr:=match h.clsAt mainGlobals (Str.ofString c) with
 | some x=>x.1
 | none=>0
noncomputable def yX (h:Heap) (c:String):Option (List Value):=(h.clsAt mainGlobals (Str.ofString c)).map fun x=>x.2.2.mro
noncomputable def DK (h:Heap) (c:String):List Value:=if c = "PickError" then bmV else .ref (jL h "PickError") :: bmV
noncomputable def og (cs:List String) (h:Heap):Bool:=h.isNs mainGlobals && (cs.all fun c=>yX h c == some (.ref (jL h c) :: DK h c)) && (cs.all fun c=>cs.all fun c'=>jL h c != jL h c' || c == c') &&
 match h.clsAt mainGlobals "Rule" with
 | some x=>h.isNs x.2.2.ns && fieldNames.all fun n=>(h.nsMap x.2.2.ns (Str.ofString n)).isNone
 | none=>false
noncomputable def fA (cs:List String) (h:Heap):Prop:=∃ mg,h.Ns mainGlobals mg∧∃ ad:String→Addr,(∀ c∈cs,∃ o cd,mg (Str.ofString c)=some (.ref (ad c))∧h.get? (ad c)=some o∧o.data = .cls cd∧cd.mro = .ref (ad c) :: (if c = "PickError" then bmV else .ref (ad "PickError") :: bmV)) ∧
 (∀ c∈cs,∀ c'∈cs,ad c=ad c'→c=c')∧∃ C o cd mN,mg "Rule" = some (.ref C)∧h.get? C=some o∧o.data = .cls cd∧h.Ns cd.ns mN∧∀ n∈fieldNames,mN (Str.ofString n)=none
set_option tactic.hygienic true in
theorem xN {cs:List String}{h:Heap} (e:og cs h=true):fA cs h:=by
 unfold og at e
 simp only [Bool.and_eq_true,List.all_eq_true] at e
 refine ae (e) fun FW h4=>?_
 try clear e
 refine ae (FW) fun FX h3=>?_
 try clear FW
 refine ae (FX) fun h1 h2=>?_
 try clear FX
 refine ⟨h.nsMap mainGlobals,.of_isNs h1,jL h,fun c hc=>?_,fun c hc c' hc' q=>?_,?_⟩
 ·  have:=beq_iff_eq.mp (h2 c hc)
    unfold yX at this
    refine bp this fun x hx hm=>?_
    obtain ⟨C,o,cd⟩:=x
    refine aD (Heap.clsAt_spec hx) fun e1 e2 e3=>?_
    have ea:jL h c=C:=by unfold jL; rw [hx]
    rw [ea] at hm ⊢
    exact ⟨o,cd,e1,e2,e3,hm⟩
 ·  have:=h3 c hc c' hc'
    simp only [Bool.or_eq_true,bne_iff_ne,beq_iff_eq] at this
    exact this.resolve_left fun n=>n q
 ·  split at h4
    · rename_i x hx
      obtain ⟨C,o,cd⟩:=x
      refine aD (Heap.clsAt_spec hx) fun e1 e2 e3=>?_
      simp only [Bool.and_eq_true,List.all_eq_true,Option.isNone_iff_eq_none] at h4
      exact ⟨C,o,cd,_,e1,e2,e3,.of_isNs h4.1,h4.2⟩
    · exact nF h4
noncomputable def EV (cs:List String):PySem.W.Hook:=⟨Bool,fun s=>og cs s.heap,fun uu=>true,fun uu h=>fA cs h,fun uu uu e=>xN e,fun uu h h' x k=>ag (x) fun mg g1 y=>aq (y) fun ad a1 a2 z=>DC (z) fun C o cd mN b1 b2 b3 b4 b5=>⟨mg,g1.keeps k,ad,fun c hc=>az (a1 c hc) fun o cd c1 c2 c3=>⟨o,cd,c1,k _ _ c2,c3⟩,a2,C,o,cd,mN,b1,k _ _ b2,b3,b4.keeps k,b5⟩⟩
noncomputable def fu (a:Arguments) (ps:List String):Bool:=a.posonlyargs.isEmpty && (a.args.map (·.arg) == ps.map Str.ofString) && a.vararg.isNone && a.kwonlyargs.isEmpty && a.kwarg.isNone
noncomputable def fo (sc:Scope):Bool:=!sc.isCoroutine && !sc.isGenerator && sc.kind == .function
noncomputable def eQ (p:Program) (loose:List Str):Option ClsRec:=(plainsOf p loose).find? fun c=>c.name == Str.ofString "Rule"
noncomputable def di (p:Program) (loose:List Str) (m:String):Option MethRec:=(eQ p loose).bind fun c=>c.meths.find? fun r=>r.name == Str.ofString m
noncomputable def gu (p:Program) (loose:List Str) (f:String) (fn:Fn):Bool :=
 if f∈aO then specOf p (Str.ofString f) == some ("ValueError.__new__", bmV)
 else if f = "Rule" then am (di p loose "__init__") fun r=>okI ⟨"self" :: fn.params,r.body,r.scope,false⟩ fn && fu r.params ("self" :: fn.params) && fo r.scope
 else if f∈methNames then am (di p loose f) fun r=>okF ⟨fn.params,r.body,r.scope,false⟩ fn && fu r.params fn.params && fo r.scope
 else am ((recsOf p).find? fun d=>d.name == Str.ofString f) fun d=>okF ⟨fn.params,d.body,d.scope,true⟩ fn && fu d.params fn.params && fo d.scope
noncomputable def kN (p:Program) (loose:List Str) (L:List (String × Fn)):Bool:=L.all fun q=>gu p loose q.1 q.2
noncomputable def bn (L:List (String × Fn)):List String:=(L.map (·.1)).filter fun f=>decide (f∈aO)
noncomputable def uE (p:Program) (loose:List Str):Bool:=bnames.all fun x=>!startupNames.contains (Str.ofString x) && !loose.contains (Str.ofString x) && !((recsOf p).map (·.name)).contains (Str.ofString x) && !((litsOf p).map (·.1)).contains (Str.ofString x) && !((clssOf p loose).map (·.name)).contains (Str.ofString x)
noncomputable def eZ (v:Option Value):Option Addr:=match v with
 | some (.ref a)=>some a
 | _=>none
noncomputable def m8 (mg:Str→Option Value) (L:List (String × Fn)) (h:Heap):Soft:=⟨fun P=>∃ c,h.TableAt c P #[],fun b=>∃ o,h.get? b=some o,(eZ (mg "Rule")).getD 0,fun c=>(eZ (mg (Str.ofString c))).getD 0,bn L⟩
noncomputable def oj (g:Gl):Prop:=∀ {p:Program}{loose:List Str}{mean:ExcName→Option Value}{mg mb:Str→Option Value}{L:List (String × Fn)}{s:Shared}{fn:Fn}{fa a:Addr}{n:Nat}{ns:List Int}{vs:List Value}{m:Mode}{Q:Value→Shared→Prop}{Er:Value→Shared→Prop},g.SF=m8 mg L s.heap →
    Top p loose mean mg mb s.heap→TopE p loose mg s.heap→fA (bn L) s.heap→kN p loose L=true→uE p loose=true→(eQ p loose).isSome=true→(L.lookup "Rule").isSome=true→(bn L=[] ∨ "PickError" ∈ bn L) →
    L.lookup "law" = some fn→mg (Str.ofString "law")=some (.ref fa)→n≤50→aB (mkC L n) fn [.d (aa ns)] = .ok (.d (.bool true),m)→s.heap.get? a=some { cls:=.type "list", data:=.seq vs.toArray }→IntsAre vs ns→ns.length≤2 ^ 22 →
    (∀ h' tk,OldK s.heap h'→Q (.bool true) { s with heap:=h',toks:=tk })→wpAny (model g.prog g.w) callerA (call (.ref fa) [.ref a]) Q Er s
end Mine
namespace Mine
open PySem PyProof.Rows
noncomputable def gl0:Gl:=⟨default,⟨fun _ _=>0,{ strHash:=fun _=>0,shareClass:=fun _=>0,mergeTok:=id,idOf:=fun _=>0,idOfShared:=fun _ _=>0,followText:=fun _=>false,idOfImm:=fun _=>0 }⟩,⟨fun _=>True,fun _=>True,0,fun _=>0,[]⟩⟩
noncomputable def gl:Gl:=@Classical.epsilon Gl ⟨gl0⟩ fun g=>¬ oj g
theorem zQ (h:oj gl) (g:Gl):oj g:=by
 apply Classical.byContradiction
 intro n
 exact @Classical.epsilon_spec Gl (fun g=>¬ oj g) ⟨g,n⟩ h
noncomputable def prog:Program:=gl.prog
noncomputable def w:World:=gl.w
noncomputable def SF:Soft:=gl.SF
end Mine
namespace Mine
open PySem PyProof.Rows
noncomputable def Room (hb:Bool) (k:Nat) (A:Around):Prop:=(hb=false→A.handled=none)∧A.depth + 2 * k + (if hb then 1 else 4)<recursionLimit∧A.units + 100 * k + (if hb then 200 else 300)<cLine
noncomputable def tabO (ps:Array Value):Obj:={ cls:=.none,data:=.fields ps }
noncomputable def CodesG (h:Heap) (ps:Array Value):Prop:=TriplesOk ps.toList∧∀ pos cv,codeAmong pos ps.toList=some cv→∃ c o vs q t,cv = .ref c∧h.get? c=some o∧o.cls = .type "code" ∧ o.data = .fields vs∧vs[1]? = some (.str q t)
noncomputable def Stay (o:Obj):Prop:=(o.cls = .type "code" ∧ ∃ fs,o.data = .fields fs)∨(o.cls = .type "tuple" ∧ ∃ vs n,o.data = .seq vs n)
section
inductive Like (h h':Heap) (b:Addr) (o o':Obj):Prop
 | same:o' = o→Like h h' b o o'
 | tab (ps more:Array Value):SF.tab b→o=tabO ps→o' = tabO (ps ++ more)→(CodesG h ps→CodesG h' (ps ++ more))→Like h h' b o o'
 | frame (es:Array DictEntry) (ep:Nat):¬ SF.old b→o.cls = .type "frame" → o.data = .dict es ep→o'.cls=o.cls→o'.data=o.data→o'.dict=o.dict→Like h h' b o o'
noncomputable def KG (G:Addr→Prop) (h h':Heap):Prop:=∀ b o,G b∨Stay o→h.get? b=some o→∃ o',h'.get? b=some o'∧Like h h' b o o'
noncomputable def hardB (o:Obj):Bool:=match o.cls with | .none=>false | .type n=>n != "frame" | _=>true
theorem Like.hard {h h':Heap}{b:Addr}{o o':Obj} (l:Like h h' b o o') (hh:hardB o=true):o' = o:=by
 cases l with
 | same e=>exact e
 | tab ps more _ e _ _=>subst e; exact nF hh
 | frame _ _ _ e _ _ _ _=>unfold hardB at hh; rw [e] at hh; simp at hh
theorem Like.exact {h h':Heap}{b:Addr}{o o':Obj} (l:Like h h' b o o') (h1:∀ fs,o.data≠.fields fs) (h2:∀ es ep,o.data≠.dict es ep):o' = o:=by
 cases l with
 | same e=>exact e
 | tab ps more _ e _ _=>(clear h2; subst e); exact absurd rfl (h1 ps)
 | frame es ep _ _ e _ _ _=>exact absurd e (h2 es ep)
theorem Like.cls {h h':Heap}{b:Addr}{o o':Obj} (l:Like h h' b o o'):o'.cls=o.cls:=by
 cases l with
 | same e=>rw [e]
 | tab ps more _ e e' _=>rw [e,e']; rfl
 | frame _ _ _ _ _ e _ _=>exact e
theorem Like.data {h h':Heap}{b:Addr}{o o':Obj} (l:Like h h' b o o') (hn:∀ fs,o.data≠.fields fs):o'.data=o.data:=by
 cases l with
 | same e=>rw [e]
 | tab ps more _ e e' _=>exact absurd (by rw [e]; rfl) (hn ps)
 | frame _ _ _ _ _ _ e _=>exact e
theorem Stay.hard {o:Obj} (x:Stay o):hardB o=true:=by
 unfold hardB
 rcases x with x | x
 ·  rw [x.1]; decide
 ·  rw [x.1]; decide
section
variable {G G':Addr→Prop}{h h' h'':Heap}
theorem KG.of (k:∀ b o,G b∨Stay o→h.get? b=some o→h'.get? b=some o):KG G h h':=fun b o hb e=>(ah o (k b o hb e) (.same rfl))
theorem KG.refl:KG G h h:=.of fun uu uu uu e=>e
theorem KG.hard (k:KG G h h') {b:Addr}{o:Obj} (hb:G b∨Stay o) (e:h.get? b=some o) (hh:hardB o=true):h'.get? b=some o:=by
 refine ag (k b o hb e) fun o' e' l=>?_
 rw [e',l.hard hh]
theorem KG.stay (k:KG G h h') {b:Addr}{o:Obj} (e:h.get? b=some o) (x:Stay o):h'.get? b=some o:=k.hard (.inr x) e x.hard
theorem KG.codes (k:KG G h h') {ps:Array Value} (x:CodesG h ps):CodesG h' ps :=
 ⟨x.1,fun pos cv hc=>qS (x.2 pos cv hc) fun c o vs q t a1 a2 a3 a4=>(qL c o vs q t a1 (k.stay a2 (.inl (aF a3 (bJ _ a4.1)))) a3 a4)⟩
theorem KG.trans (a:KG G h h') (b:KG G h' h''):KG G h h'':=fun c o hc e=>by
 refine ag (a c o hc e) fun o' e' l=>?_
 have hc':G c∨Stay o':=hc.imp id fun x=>by rw [l.hard x.hard]; exact x
 refine ag (b c o' hc' e') fun o'' e'' l'=>?_
 refine (ah o'' e'' ?_)
 cases l with
 | same e1=>
    (clear e hc; subst e1)
    cases l' with
    | same e2=>exact .same e2
    | tab ps more t1 t2 t3 t4=>exact .tab ps more t1 t2 t3 fun x=>t4 (a.codes x)
    | frame es ep f1 f2 f3 f4 f5 f6=>exact .frame es ep f1 f2 f3 f4 f5 f6
 | tab ps more t1 t2 t3 t4=>
    (clear e hc; subst t2 t3)
    cases l' with
    | same e2=>exact .tab ps more t1 rfl e2 fun x=>b.codes (t4 x)
    | tab ps' more' u1 u2 u3 u4=>
      have:ps' = ps ++ more:=by injection u2 with _ _ u; injection u with u; exact u.symm
      (clear u2; subst this)
      exact .tab ps (more ++ more') t1 rfl (by rw [u3,Array.append_assoc]) fun x=>by rw [← Array.append_assoc]; exact u4 (t4 x)
    | frame _ _ _ f2 _ _ _ _=>cases f2
 | frame es ep f1 f2 f0 f3 f4 f5=>
    cases l' with
    | same e2=>(clear e' hc'; subst e2); exact .frame es ep f1 f2 f0 f3 f4 f5
    | tab ps' more' u1 u2 u3 u4=>rw [f2,u2] at f3; cases f3
    | frame _ _ g1 g2 g0 g3 g4 g5=>exact .frame es ep f1 f2 f0 (g3.trans f3) (g4.trans f4) (g5.trans f5)
theorem KG.mono (k:KG G h h') (hg:∀ b,G' b→G b):KG G' h h':=fun b o hb e=>k b o (hb.imp (hg b) id) e
end
theorem Stay.not_data {o:Obj} (h1:∀ fs,o.data≠.fields fs) (h2:∀ vs n,o.data≠.seq vs n):¬ Stay o:=fun x=>x.elim (fun x=>let ⟨_,fs,e⟩:=x; h1 fs e) fun x=>let ⟨_,vs,n,e⟩:=x; h2 vs n e
theorem Stay.not_list {vs:Array Value}{n:Nat}{d:Option Addr}{x:Array (Option Value)}:¬ Stay ⟨.type "list", d,.seq vs n,x⟩:=fun x=>x.elim (fun x=>by simp at x) fun x=>by simp at x
theorem Stay.not_dict {o:Obj}{es:Array DictEntry}{ep:Nat} (h:o.data = .dict es ep):¬ Stay o:=Stay.not_data (fun uu q=>by rw [h] at q; cases q) fun uu uu q=>by rw [h] at q; cases q
theorem Stay.not_cls {o:Obj} (h1:o.cls≠.type "code") (h2:o.cls≠.type "tuple"):¬ Stay o:=fun x=>x.elim (fun x=>h1 x.1) fun x=>h2 x.1
theorem KG.ofW {wr:List Addr}{h h':Heap} (k:∀ b o,b∉wr→h.get? b=some o→h'.get? b=some o) (n:∀ b∈wr,∀ o,h.get? b=some o→¬ Stay o):KG (fun b=>b∉wr) h h' :=
 .of fun b o hb e=>k b o (fun hm=>hb.elim (fun x=>x hm) (n b hm o e)) e
theorem KG.same {G:Addr→Prop}{h h':Heap}{a:Addr} (hs:Heap.SameBut a h h') (hz:¬ G a) (hn:∀ o,h.get? a=some o→¬ Stay o):KG G h h' :=
 .of fun b o hb e=>hs.extBut b o (fun q=>by (clear hs; subst q); exact hb.elim hz (hn o e)) e
noncomputable abbrev K (h h':Heap):Prop:=KG (fun uu=>True) h h'
section
variable {h h':Heap}
theorem K.of (k:∀ b o,h.get? b=some o→h'.get? b=some o):K h h':=KG.of fun b o _ e=>k b o e
theorem K.get (k:K h h') {b:Addr}{o:Obj} (e:h.get? b=some o) (hh:hardB o=true):h'.get? b=some o:=KG.hard k (.inl trivial) e hh
theorem K.step {h'':Heap}{G:Addr→Prop} (a:K h h') (b:KG G h' h'') (hg:∀ b o,h.get? b=some o→G b):K h h'':=fun c o _ e=>
 (KG.trans (KG.mono (G':=fun b=>∃ o,h.get? b=some o) a fun uu uu=>trivial) (KG.mono b fun b ⟨o,e⟩=>hg b o e)) c o (.inl ⟨o,e⟩) e
theorem K.same {h'':Heap}{a:Addr} (k:K h h') (hs:Heap.SameBut a h' h'') (ha:h.get? a=none) (hn:∀ o,h'.get? a=some o→¬ Stay o):K h h'' :=
 K.step k (G:=fun b=>b≠a) (KG.same hs (fun q=>q rfl) hn) fun b o e q=>by rw [q,ha] at e; exact nN e
theorem K.there (k:K h h') {b:Addr}{o:Obj} (e:h.get? b=some o):∃ o',h'.get? b=some o':=ag (k b o (.inl trivial) e) fun o' e' uu=>⟨o',e'⟩
theorem KG.dataG {G:Addr→Prop} (k:KG G h h') {b:Addr}{o:Obj} (g:G b∨Stay o) (e:h.get? b=some o) (hn:∀ fs,o.data≠.fields fs):∃ o',h'.get? b=some o'∧o'.data=o.data∧o'.cls=o.cls :=
 ag (k b o g e) fun o' e' l=>(ax o' e' (l.data hn) l.cls)
theorem K.data (k:K h h') {b:Addr}{o:Obj} (e:h.get? b=some o) (hn:∀ fs,o.data≠.fields fs):∃ o',h'.get? b=some o'∧o'.data=o.data∧o'.cls=o.cls:=KG.dataG k (.inl trivial) e hn
theorem K.exact (k:K h h') {b:Addr}{o:Obj} (e:h.get? b=some o) (h1:∀ fs,o.data≠.fields fs) (h2:∀ es ep,o.data≠.dict es ep):h'.get? b=some o :=
 ag (k b o (.inl trivial) e) fun o' e' l=>(l.exact h1 h2)▸e'
theorem AP {G:Addr→Prop}{a:Addr}{m:Str→Option Value} (k:KG G h h') (g:G a) (x:h.Ns a m):h'.Ns a m:=by
 refine aL (x) fun o es ep e hd r=>?_
 try clear x
 obtain ⟨o',e',hd',_⟩:=k.dataG (.inl g) e fun fs q=>by rw [hd] at q; cases q
 exact (ce o' es ep e' (hd'.trans hd) r)
theorem fc {a:Addr}{m:Str→Option Value} (x:h.Ns a m) (k:K h h'):h'.Ns a m:=AP k trivial x
theorem yA {G:Addr→Prop}{c:Addr}{v:Option Value} (k:KG G h h') (g:G c) (x:h.IsCell c v):h'.IsCell c v:=by
 refine ag (x) fun o e hd=>?_
 try clear x
 obtain ⟨o',e',hd',_⟩:=k.dataG (.inl g) e fun fs q=>by rw [hd] at q; cases q
 exact (ah o' e' (hd'.trans hd))
theorem iN {c:Addr}{v:Option Value} (x:h.IsCell c v) (k:K h h'):h'.IsCell c v:=yA k trivial x
theorem pP (x:h.NoLimit) (k:K h h'):h'.NoLimit:=ag (x) fun mc a b=>(ah mc (fc a k) b)
theorem xg {G:Addr→Prop} (k:KG G h h'):(∀ {v:Value}{d:PyData}{as:List Addr},R h v d as→(∀ a∈as,G a)→R h' v d as)∧(∀ {vs:List Value}{ds:List PyData}{as:List Addr},RA h vs ds as→(∀ a∈as,G a)→RA h' vs ds as) :=
 R.ind (M:=fun v d as=>(∀ a∈as,G a)→R h' v d as) (N:=fun vs ds as=>(∀ a∈as,G a)→RA h' vs ds as) (fun uu=>.none) (fun b _=>.bool b) (fun i t _=>.int i t) (fun x t _=>.str x t)
    (fun e _ ih g=>.list (k.hard (.inl (g _ (.head _))) e rfl) (ih fun b hb=>g b (.tail _ hb))) (fun e _ ih g=>.tuple (k.stay e (.inr (aF rfl (bE _ _ rfl)))) (ih g))
    (fun uu=>.nil) (fun uu uu i j g=>.cons (i fun b hb=>g b (List.mem_append_left _ hb)) (j fun b hb=>g b (List.mem_append_right _ hb)))
theorem R.onG {G:Addr→Prop}{v:Value}{d:PyData}{as:List Addr} (r:R h v d as) (k:KG G h h') (g:∀ a∈as,G a):R h' v d as:=(xg k).1 r g
theorem RA.onG {G:Addr→Prop}{vs:List Value}{ds:List PyData}{as:List Addr} (r:RA h vs ds as) (k:KG G h h') (g:∀ a∈as,G a):RA h' vs ds as:=(xg k).2 r g
theorem R.k {v:Value}{d:PyData}{as:List Addr} (r:R h v d as) (k:K h h'):R h' v d as:=r.onG k fun uu uu=>trivial
theorem RA.k {vs:List Value}{ds:List PyData}{as:List Addr} (r:RA h vs ds as) (k:K h h'):RA h' vs ds as:=r.onG k fun uu uu=>trivial
noncomputable def CodeOk (h:Heap) (cd:Value) (q:Str):Prop:=∃ c P ps,cd = .ref c∧h.CodeRec cd q∧h.IsCode c P ps∧h.TableAt c P ps∧CodesG h ps∧SF.tab P
theorem CodeOk.k {cd:Value}{q:Str} (x:CodeOk h cd q) (k:K h h'):CodeOk h' cd q:=by
 refine cH (x) fun c P ps FW FX FY FZ G sP=>?_
 try clear x
 subst FW
 refine fI (FX) fun c' o' vs' t' e0 e1 e2 e3=>?_
 try clear FX
 refine yC (FY) fun o vs file tf flags tg inF text tt op i1 i2 i3 i4 i5 i6 i7 i8 i9 i10 i11=>?_
 try clear FY
 refine ae (FZ) fun F0 t5=>?_
 try clear FZ
 refine aZ (F0) fun oc vc t1 t2 t3 t4=>?_
 try clear F0
 cases e0
 rw [i1] at e1 t1
 rw [← Option.some.inj e1] at e2
 rw [← Option.some.inj t1] at t2 t3
 have kc:h'.get? c=some o:=k.stay i1 (.inl (aF t2 (bJ _ t3)))
 refine ag (k P _ (.inl trivial) t5) fun o' e' l=>?_
 have fin:∃ qs,h'.get? P=some { cls:=.none,data:=.fields qs }∧CodesG h' qs:=by
    cases l with
    | same e=>subst e; exact (ah ps e' (KG.codes k G))
    | tab ps' more u1 u2 u3 u4=>
      have:ps' = ps:=by injection u2 with _ _ u; injection u with u; exact u.symm
      (clear i10 i9 t5 u2; subst this)
      exact (ah _ (by rw [e',u3]; rfl) (u4 G))
    | frame _ _ _ f _ _ _ _=>cases f
 refine ag (fin) fun qs eq Gq=>?_
 try clear fin
 exact (eO c P qs rfl (gN c o vs' t' rfl kc e2 e3) ⟨o,vs,file,tf,flags,tg,inF,text,tt,_,kc,i2,i3,i4,i5,i6,i7,eq,rfl,Gq.1,i11⟩ ⟨(aU o vc kc t2 t3 t4),eq⟩ Gq sP)
end
end
noncomputable def bval (x:String):Value:=if x∈["list", "tuple", "range", "int", "bool", "str"] then .type x else .builtin x
structure Fns where
 fn:String→Option (Addr × FnT)
 mth:String→Option (Addr × FnT)
 init:Option (Addr × FnT)
 lam:Bool
 hand:Bool
noncomputable def adr (fns:Fns) (f:String):Option Addr:=if f = "Rule" then fns.init.map fun uu=>SF.rule else if f∈methNames then (fns.mth f).map (·.1) else (fns.fn f).map (·.1)
theorem rQ {fns:Fns}{f:String} (h1:f ≠ "Rule") (h2:f∉methNames):adr fns f=(fns.fn f).map (·.1):=by unfold adr; rw [if_neg h1,if_neg h2]
theorem yT {fns:Fns}{f:String} (h1:f ≠ "Rule") (h2:f∈methNames):adr fns f=(fns.mth f).map (·.1):=by unfold adr; rw [if_neg h1,if_pos h2]
noncomputable def FnAt (h:Heap) (ft:FnT) (a:Addr):Prop:=∃ o fd,h.get? a=some o∧o.data = .func fd∧fd.body = .stmts ft.body∧fd.scope=ft.scope∧fd.globals=mainGlobals∧fd.closure=[]∧fd.builtins=builtinsNs∧h.CodeRec fd.code fd.qualname∧(ft.lam=true→CodeOk h fd.code fd.qualname) ∧
 (∀ vals,vals.length=ft.params.length→bindArgs fd ⟨vals,[]⟩=pure ((ft.params.map Str.ofString).zip vals))∧fd.scope.isCoroutine=false∧fd.scope.isGenerator=false∧fd.scope.kind = .function
theorem sZ {h h':Heap}{cd:Value}{q:Str} (x:h.CodeRec cd q) (k:K h h'):h'.CodeRec cd q:=by
 refine fI (x) fun c o vs t F1 e hd hv=>?_
 try clear x
 subst F1
 refine ag (k c o (.inl trivial) e) fun o' e' l=>?_
 cases l with
 | same q=>(clear e; subst q); exact (gN c _ vs t rfl e' hd hv)
 | tab ps more _ q1 q2 _=>
    (clear e; subst q1 q2)
    obtain rfl:=Data.fields.inj (show Data.fields ps=Data.fields vs from hd)
    exact (gN c _ (ps ++ more) t rfl e' rfl (by rw [Array.getElem?_append_left (Array.getElem?_eq_some_iff.mp hv).1]; exact hv))
 | frame es ep _ _ q _ _ _=>rw [hd] at q; cases q
theorem FnAt.k {h h':Heap}{ft:FnT}{a:Addr} (x:FnAt h ft a) (k:K h h'):FnAt h' ft a:=by
 refine zO (x) fun o fd h1 h2 h3 h4 h5 h6 h7 h8 h9 h10=>?_
 try clear x
 obtain ⟨o',e',hd,_⟩:=K.data k h1 fun fs q=>by rw [h2] at q; cases q
 exact (zW o' fd e' (hd.trans h2) h3 h4 h5 h6 h7 (sZ h8 k) (fun q=>(h9 q).k k) h10)
theorem pH {h h':Heap}{C N:Addr}{mN:Str→Option Value} (x:ClsAt h C N mN) (k:K h h'):ClsAt h' C N mN:=by
 obtain ⟨F2,hn⟩:=x
 refine dW (F2) fun nm q bs sn sub col dd k0 k1 k2 k3 k5 e=>?_
 try clear F2
 exact ⟨⟨nm,q,bs,sn,sub,col,dd,k0,k1,k2,k3,k5,K.get k e rfl⟩,fc hn k⟩
noncomputable def RuleAt (fns:Fns) (h:Heap):Prop:=∃ N mN,ClsAt h SF.rule N mN∧(∀ n∈["__setattr__", "__getattribute__", "__getattr__", "count", "full", "size"],mN (Str.ofString n)=none) ∧
 (∃ p o,fns.init=some p∧mN "__init__" = some (.ref p.1)∧FnAt h p.2 p.1∧h.get? p.1=some o∧o.cls = .type "function") ∧
 ∀ m p,fns.mth m=some p→∃ o,mN (Str.ofString m)=some (.ref p.1)∧FnAt h p.2 p.1∧h.get? p.1=some o∧o.cls = .type "function"
theorem pU {h h':Heap}{a:Addr}{o:Obj} (k:K h h') (e:h.get? a=some o) (c:o.cls = .type "function"):∃ o',h'.get? a=some o'∧o'.cls = .type "function" :=
 ag (k a o (.inl trivial) e) fun o' e' l=>(ah o' e' (l.cls.trans c))
theorem RuleAt.k {fns:Fns}{h h':Heap} (x:RuleAt fns h) (k:K h h'):RuleAt fns h':=by
 refine aZ (x) fun N mN h1 h2 F4 h4=>?_
 try clear x
 refine kn (F4) fun p o i1 i2 i3 i4 i5=>?_
 try clear F4
 refine ag (pU k i4 i5) fun o' e' c'=>?_
 refine (aU N mN (pH h1 k) h2 (d9 p o' i1 i2 (i3.k k) e' c') (fun m p hp=>?_))
 refine cy (h4 m p hp) fun o j1 j2 j3 j4=>?_
 refine ag (pU k j3 j4) fun o' e' c'=>?_
 exact (ba o' j1 (j2.k k) e' c')
noncomputable def dU (c:String):List Value:=if c = "PickError" then bmV else .ref (SF.exc "PickError") :: bmV
theorem rN {h h':Heap}{bm tl:List Value} (T:OwnTail h bm tl) (k:K h h'):OwnTail h' bm tl:=by
 induction T with
 | base=>exact .base
 | own hA hN hq _ ih=>exact .own (K.exact k hA (fun uu q=>by cases q) fun uu uu q=>by cases q) (fc hN k) hq ih
noncomputable def ExcAt (h:Heap) (c:String):Prop:=∃ N nm q bs hdct sn sub ab col dd k0 k1 k2 k3 k5 mN,h.get? (SF.exc c)=some (excClassObj nm q (SF.exc c) N bs (dU c) hdct sn sub ab col dd k0 k1 k2 k3 k5 "ValueError.__new__")∧h.Ns N mN∧mN "__init__" = none∧OwnTail h bmV (dU c)
theorem ExcAt.k {h h':Heap}{c:String} (x:ExcAt h c) (k:K h h'):ExcAt h' c:=by
 obtain ⟨N,nm,q,bs,hdct,sn,sub,ab,col,dd,k0,k1,k2,k3,k5,mN,h1,h2,h3,h4⟩:=x
 exact ⟨N,nm,q,bs,hdct,sn,sub,ab,col,dd,k0,k1,k2,k3,k5,mN,K.exact k h1 (fun uu q=>by cases q) (fun uu uu q=>by cases q),fc h2 k,h3,rN h4 k⟩
structure GE (fns:Fns) (h:Heap):Prop where
 glob:∃ mg,h.Ns mainGlobals mg∧(∀ f a,f∉methNames→adr fns f=some a→mg (Str.ofString f)=some (.ref a))∧∀ x∈bnames,mg (Str.ofString x)=none
 funs:∀ f p,fns.fn f=some p→FnAt h p.2 p.1
 cls:(∃ f p,fns.mth f=some p)∨fns.init.isSome=true→RuleAt fns h
 blt:∃ mb,h.Ns builtinsNs mb∧∀ x∈bnames,mb (Str.ofString x)=some (bval x)
 nolim:h.NoLimit
 old:∀ b,SF.old b→∃ o,h.get? b=some o
 exc:∃ mg,h.Ns mainGlobals mg∧(∀ c∈SF.excN,mg (Str.ofString c)=some (.ref (SF.exc c))∧ExcAt h c)∧∀ c∈SF.excN,∀ c' ∈ "PickError" :: SF.excN,SF.exc c=SF.exc c'→c=c'
 bm:∃ mg bm ob,h.Ns mainGlobals mg∧mg "__builtins__" = some (.ref bm)∧bm≠builtinsNs∧h.get? bm=some ob∧ob.cls = .type "module" ∧ ob.dict=some builtinsNs∧ob.data = .plain
theorem GE.k {fns:Fns}{h h':Heap} (G:GE fns h) (k:K h h'):GE fns h' where
 glob:=ag (G.glob) fun mg a b=>(ah mg (fc a k) b)
 funs:=fun f p e=>(G.funs f p e).k k
 cls:=fun e=>(G.cls e).k k
 blt:=ag (G.blt) fun mb a b=>(ah mb (fc a k) b)
 nolim:=pP G.nolim k
 old:=fun b hb=>aj (G.old b hb) fun uu e=>K.there k e
 exc:=aq (G.exc) fun mg a b c=>(ax mg (fc a k) (fun c hc=>⟨(b c hc).1,(b c hc).2.k k⟩) c)
 bm:=Af (G.bm) fun mg bm ob a b c d e f g=>(jW mg bm ob (fc a k) b c (K.get k d (by unfold hardB; rw [e]; decide)) e f g)
theorem GE.flag {fns:Fns}{h:Heap} (G:GE fns h) (a b:Bool):GE { fns with lam:=a,hand:=b } h:=⟨G.glob,G.funs,G.cls,G.blt,G.nolim,G.old,G.exc,G.bm⟩
noncomputable def FrOk (h:Heap) (l:List Env):Prop:=∀ env∈l,env.scope.kind = .function∧∃ L o es ep,env.frame=some L∧¬ SF.old L∧h.get? L=some o∧o.cls = .type "frame" ∧ o.data = .dict es ep
theorem FrOk.k {h h':Heap}{l:List Env} (x:FrOk h l) (k:K h h'):FrOk h' l:=fun env he=>by
 obtain ⟨h0,L,o,es,ep,h1,h2,h3,h4,h5⟩:=x env he
 refine ag (k L o (.inl trivial) h3) fun o' e' l=>?_
 exact (aF h0 (jd L o' es ep h1 h2 e' (l.cls.trans h4) ((l.data fun fs q=>by rw [h5] at q; cases q).trans h5)))
section
noncomputable def RV (h:Heap) (v:Value):V→List Addr→Prop
 | .d x,as=>R h v x as∧sz x=true
 | .dic0,as=>∃ a,v = .ref a∧as=[a]∧(a == sysModules)=false∧h.DictOf (intKind prog w) a []∧h.DictOfH (tupleKind (intKind prog w)) a []
 | .dicI ks,as=>∃ a,v = .ref a∧as=[a]∧(a == sysModules)=false∧h.DictOf (intKind prog w) a (ks.map fun k=>(k,.bool true))
 | .dicT ks,as=>∃ a xs,v = .ref a∧as=[a]∧(a == sysModules)=false∧h.DictOfH (tupleKind (intKind prog w)) a xs∧xs.map (·.1)=ks∧(∀ k∈ks,k.length≤2 ^ 22)∧∀ x∈xs,R h (.ref x.2.1) (aJ x.1) []
 | .rule c d n,as=>∃ x D o vf bs t u mA,v = .ref x∧as=x :: D :: bs∧h.get? x=some o∧o.cls = .ref SF.rule∧(∀ c,o.data≠.cls c)∧o.dict=some D∧D≠x∧h.Ns1 D mA∧mA "count" = some (.int c t)∧mA "full" = some vf∧mA "size" = some (.int n u)∧(∀ m∈methNames,mA (Str.ofString m)=none)∧R h vf d bs∧sz d=true
inductive RVs (h:Heap):List V→List Value→List Addr→Prop
 | nil:RVs h [] [] []
 | cons {x:V}{xs:List V}{v:Value}{vs:List Value}{as bs:List Addr}:RV h v x as→RVs h xs vs bs→RVs h (x :: xs) (v :: vs) (as ++ bs)
end
inductive VarIs (h:Heap) (env:Env) (x:Str) (v:Value):Prop
 | loc (m:Str→Option Value):env.kindOf x=some .local→h.Ns env.locals m→m x=some v→VarIs h env x v
 | cell (c:Addr):env.kindOf x=some .cell∨env.kindOf x=some .free→env.cells.lookup x=some c→h.IsCell c (some v)→VarIs h env x v
structure EnvOk (env:Env):Prop where
 kind:env.scope.kind = .function
 glob:env.globals=mainGlobals
 blt:env.builtins=builtinsNs
 cells:∀ n,env.kindOf n=some .cell∨env.kindOf n=some .free→∃ c,env.cells.lookup n=some c
section
theorem EE {h h':Heap}{G:Addr→Prop}{a:Addr}{ks:List Int} (x:IsTupleKey (intKind prog w) h ks a) (k:KG G h h'):IsTupleKey (intKind prog w) h' ks a :=
 aL (x) fun o it n a1 a2 a3=>(ce o it n (k.stay a1 (.inr (aF a2 (bE _ _ a3.1)))) a2 a3)
theorem gz {o:Obj} (x:o.ExactDict):hardB o=true:=by unfold hardB; rw [x.1]; decide
theorem oQ {h h':Heap}{G:Addr→Prop}{a:Addr}{kvs:List (Int × Value)} (x:h.DictOf (intKind prog w) a kvs) (k:KG G h h') (g:G a):h'.DictOf (intKind prog w) a kvs :=
 bh (x) fun o es ep a1 r=>(bT o es ep (k.hard (.inl g) a1 (gz r.1)) r)
theorem lZ {h h':Heap}{G:Addr→Prop}{a:Addr}{xs:List (List Int × Addr × Value)} (x:h.DictOfH (tupleKind (intKind prog w)) a xs) (k:KG G h h') (g:G a):h'.DictOfH (tupleKind (intKind prog w)) a xs :=
 cH (x) fun o es ep a1 a2 a3 a4 a5 a6=>(eO o es ep (k.hard (.inl g) a1 (gz a2)) a2 a3 a4 (fun y hy=>EE (a5 y hy) k) a6)
theorem RV.onG {h h':Heap}{G:Addr→Prop}{v:Value}{x:V}{as:List Addr} (r:RV h v x as) (k:KG G h h') (g:∀ a∈as,G a):RV h' v x as:=by
 cases x with
 | d x=>exact ⟨r.1.onG k g,r.2⟩
 | dic0=>obtain ⟨a,h1,rfl,h3,h4,h5⟩:=r; exact (ij a h1 rfl h3 (oQ h4 k (g a (.head _))) (lZ h5 k (g a (.head _))))
 | dicI ks=>obtain ⟨a,h1,rfl,h3,h4⟩:=r; exact (ba a h1 rfl h3 (oQ h4 k (g a (.head _))))
 | dicT ks=>obtain ⟨a,xs,h1,rfl,h3,h4,h5,h6,h7⟩:=r; exact (dy a xs h1 rfl h3 (lZ h4 k (g a (.head _))) h5 h6 (fun x hx=>(h7 x hx).onG k fun uu h=>nomatch h))
 | rule c d n=>
    refine eU (r) fun x D o vf bs t u mA h1 F5 h3 h4 h5 h6 h7 F6 h9 h10 h11 h12 h13 h14=>?_
    try clear r
    subst F5
    refine bh (F6) fun oD es ep e hd=>?_
    try clear F6
    obtain ⟨oD',eD,q,_⟩:=k.dataG (.inl (g D (.tail _ (.head _)))) e fun fs q=>by rw [hd.1] at q; cases q
    exact (gc x D o vf bs t u mA h1 rfl (k.hard (.inl (g x (.head _))) h3 (by unfold hardB; rw [h4])) h4 h5 h6 h7 (ce oD' es ep eD (q.trans hd.1) hd.2) h9 h10 h11 h12 (h13.onG k fun a ha=>g a (.tail _ (.tail _ ha))) h14)
theorem RV.k {h h':Heap}{v:Value}{x:V}{as:List Addr} (r:RV h v x as) (k:K h h'):RV h' v x as:=r.onG k fun uu uu=>trivial
theorem VarIs.k {h h':Heap}{env:Env}{x:Str}{v:Value} (r:VarIs h env x v) (k:K h h'):VarIs h' env x v:=by
 cases r with
 | loc m a b c=>exact .loc m a (fc b k) c
 | cell c a b d=>exact .cell c a b (iN d k)
theorem RV.keep {h h':Heap}{v:Value}{x:V}{as:List Addr} (r:RV h v x as) (k:∀ b o,h.get? b=some o→h'.get? b=some o):RV h' v x as:=r.k (.of k)
noncomputable def Kp (s s':Shared):Prop:=∃ h' tk,s' = { s with heap:=h',toks:=tk }∧K s.heap h'
theorem Kp.refl (s:Shared):Kp s s:=(aA s.heap s.toks rfl KG.refl)
theorem Kp.trans {s s₁ s₂:Shared} (a:Kp s s₁) (b:Kp s₁ s₂):Kp s s₂:=by
 refine au (a) fun h t Ga k=>?_
 try clear a
 subst Ga
 refine au (b) fun h' t' F9 k'=>?_
 try clear b
 subst F9
 exact (aA h' t' rfl (KG.trans k k'))
theorem Kp.k {s s₁:Shared} (a:Kp s s₁):K s.heap s₁.heap:=by
 obtain ⟨h,t,rfl,k⟩:=a; exact k
theorem Kp.of {s:Shared}{h':Heap}{tk:Nat} (k:∀ b o,s.heap.get? b=some o→h'.get? b=some o):Kp s { s with heap:=h',toks:=tk }:=(aA h' tk rfl (.of k))
theorem Kp.toks (s:Shared) (t:Nat):Kp s { s with toks:=t }:=.of (s:=s) fun uu uu e=>e
theorem Kp.push (s:Shared) (o:Obj) (t:Nat):Kp s { s with heap:=s.heap.push o,toks:=t }:=.of fun uu uu e=>Heap.get?_push_of_some _ e
theorem Kp.none {s s₁:Shared} (a:Kp s s₁) {b:Addr} (e:s₁.heap.get? b=none):s.heap.get? b=none:=by
 cases q:s.heap.get? b with
 | none=>rfl
 | some o=>obtain ⟨o',e'⟩:=a.k.there q; rw [e'] at e; exact nM e
structure Cx (fns:Fns) (k:Nat) (A:Around) (P:Addr→Prop) (h:Heap) (env:Env) (σ:St):Prop where
 room:Room fns.hand k A
 eok:EnvOk env
 ge:GE fns h
 code:fns.lam=true→∃ q,CodeOk h env.code q
 frm:fns.hand=false→∃ l,A.frames=some l∧FrOk h l
 vars:∀ x p,σ x=some p→varK env.scope.names x=true→∃ v as,VarIs h env (Str.ofString x) v∧RV h v p.1 as∧∀ a∈as,P a
inductive EP (P:Addr→Prop) (s:Shared) (r:V × Mode) (v:Value) (s':Shared):Prop
 | mk (kp:Kp s s') (as:List Addr) (rv:RV s'.heap v r.1 as) (own:∀ a∈as,P a∨s.heap.get? a=none) (top:r.2 = .top→∃ a bs,as=a :: bs∧s.heap.get? a=none∧a∉bs) (deep:r.2 = .deep→(∀ a∈as,s.heap.get? a=none)∧as.Nodup):EP P s r v s'
inductive EPs (P:Addr→Prop) (s:Shared) (l:List (V × Mode)) (vs:List Value) (s':Shared):Prop
 | mk (kp:Kp s s') (as:List Addr) (rv:RVs s'.heap (l.map (·.1)) vs as) (own:∀ a∈as,P a∨s.heap.get? a=none) (deep:allDeep l=true→(∀ a∈as,s.heap.get? a=none)∧as.Nodup):EPs P s l vs s'
theorem EP.keeps {P:Addr→Prop}{s s':Shared}{r:V × Mode}{v:Value} (e:EP P s r v s'):Kp s s':=by cases e; assumption
theorem EPs.keeps {P:Addr→Prop}{s s':Shared}{l:List (V × Mode)}{vs:List Value} (e:EPs P s l vs s'):Kp s s':=by cases e; assumption
theorem Cx.k {fns:Fns}{k:Nat}{A:Around}{P:Addr→Prop}{h h':Heap}{env:Env}{σ:St} (X:Cx fns k A P h env σ) (kp:K h h'):Cx fns k A P h' env σ where
 room:=X.room
 eok:=X.eok
 ge:=X.ge.k kp
 code:=fun hk=>aj (X.code hk) fun q c=>⟨q,c.k kp⟩
 frm:=fun q=>ag (X.frm q) fun l a b=>(ah l a (b.k kp))
 vars:=fun x p hp hv=>az (X.vars x p hp hv) fun v as a b c=>(aS v as (a.k kp) (b.k kp) c)
theorem EP.scalar {P:Addr→Prop}{s s':Shared}{x:PyData}{v:Value}{m:Mode} (k:Kp s s') (r:R s'.heap v x []) (z:sz x=true) (hm:m≠.top):EP P s (.d x,m) v s' :=
 ⟨k,[],⟨r,z⟩,fun uu h=>(nomatch h),fun h=>absurd h hm,fun uu=>⟨fun uu h=>(nomatch h),.nil⟩⟩
theorem EP.int {P:Addr→Prop}{s s':Shared}{i:Int}{t:Tok} (k:Kp s s'):EP P s (sI i) (.int i t) s':=.scalar k (.int i t) rfl (by simp)
theorem EP.bool {P:Addr→Prop}{s s':Shared}{b:Bool} (k:Kp s s'):EP P s (sB b) (.bool b) s':=.scalar k (.bool b) rfl (by simp)
theorem EP.after {P:Addr→Prop}{s s₁ s':Shared}{r:V × Mode}{v:Value} (k:Kp s s₁) (e:EP P s₁ r v s'):EP P s r v s':=by
 obtain ⟨k',as,a,b,c,d⟩:=e
 exact ⟨k.trans k',as,a,fun x hx=>(b x hx).imp id k.none,fun hm=>az (c hm) fun a bs h1 h2 h3=>(aS a bs h1 (k.none h2) h3),fun hm=>⟨fun x hx=>k.none ((d hm).1 x hx),(d hm).2⟩⟩
end
end Mine
namespace Mine
open PySem PyProof.Rows
section
variable (fns:Fns) (k:Nat) (C:Calls) (XP:String→Shared→Value→Shared→Prop)
noncomputable def SimE (e:E):Prop:=∀ {ex:Expr}{A:Around}{env:Env}{σ:St}{P:Addr→Prop}{s:Shared}{Q:Value→Shared→Prop}{Er:Value→Shared→Prop},
 okE env.scope.names e ex=true→Cx fns k A P s.heap env σ→ev C e σ≠.bad →
 (∀ r,ev C e σ = .ok r→∀ v s',EP P s r v s'→Q v s')→(∀ c,ev C e σ = .exc c→∀ x s',XP c s x s'→Er x s') →
 wpAny (model prog w) A (eval ex env) Q Er s
noncomputable def SimT (e:E):Prop:=∀ {ex:Expr}{A:Around}{env:Env}{σ:St}{P:Addr→Prop}{s:Shared}{Q:Bool→Shared→Prop}{Er:Value→Shared→Prop},
 okE env.scope.names e ex=true→Cx fns k A P s.heap env σ→((ev C e σ).bind fun r=>ao r.1)≠.bad →
 (∀ b,((ev C e σ).bind fun r=>ao r.1) = .ok b→∀ s',Kp s s'→Q b s')→(∀ c,ev C e σ = .exc c→∀ x s',XP c s x s'→Er x s') →
 wpAny (model prog w) A (isTrue ex env (eval ex env)) Q Er s
end
theorem a8 {α β:Type}{o:Out α}{f:α→Out β} (h:o.bind f≠.bad):o≠.bad∧∀ a,o = .ok a→f a≠.bad:=by
 cases o with
 | ok a=>exact ⟨fun e=>(by cases e),fun uu e=>by (have oc:=Out.ok.inj e; clear e; subst oc); exact h⟩
 | exc c=>exact ⟨fun e=>(by cases e),fun uu e=>by cases e⟩
 | bad=>exact absurd rfl h
theorem aQ {α β:Type}{o:Out α}{f:α→Out β}{G:Prop} (h:o.bind f≠.bad) (k:o≠.bad→(∀ a,o = .ok a→f a≠.bad)→G):G:=ae (a8 h) k
theorem mY {α β:Type}{o:Out α}{f:α→Out β}{b:β} (h:o.calm.bind f = .ok b):∃ a,o = .ok a∧f a = .ok b:=by
 cases o with
 | ok a=>exact (ah a rfl h)
 | exc c=>exact nB h
 | bad=>exact nB h
theorem gB {α β:Type}{o:Out α}{f:α→Out β}{b:β}{G:Prop} (h:o.calm.bind f = .ok b) (k:∀ a,o = .ok a→f a = .ok b→G):G:=ag (mY h) k
theorem bG {α β:Type}{o:Out α}{f:α→Out β}{c:String} (h:o.bind f = .exc c):o = .exc c∨∃ a,o = .ok a∧f a = .exc c:=by
 cases o with
 | ok a=>exact .inr (ah a rfl h)
 | exc c=>cases h; exact .inl rfl
 | bad=>cases h
section
variable {fns:Fns}{k:Nat}{C:Calls}{XP:String→Shared→Value→Shared→Prop}
theorem Fh (hXP:∀ c s s₁ x s',Kp s s₁→XP c s₁ x s'→XP c s x s') {a b:E} (Sa:SimE fns k C XP a) (Sb:SimE fns k C XP b)
    {ea eb:Expr}{A:Around}{env:Env}{σ:St}{P:Addr→Prop}{s:Shared}{G:Value→Value→Shared→Prop}{Er:Value→Shared→Prop}
    (oa:okE env.scope.names a ea=true) (ob:okE env.scope.names b eb=true) (X:Cx fns k A P s.heap env σ)
    (na:ev C a σ≠.bad) (nb:∀ x,ev C a σ = .ok x→ev C b σ≠.bad)
    (hE:∀ c,(ev C a σ = .exc c∨∃ x,ev C a σ = .ok x∧ev C b σ = .exc c)→∀ x s',XP c s x s'→Er x s')
    (hG:∀ x y,ev C a σ = .ok x→ev C b σ = .ok y→∀ va vb s₁ s₂,EP P s x va s₁→EP P s₁ y vb s₂→G va vb s₂) :
    wpAny (model prog w) A (eval ea env) (fun va s₁=>wpAny (model prog w) A (eval eb env) (fun vb s₂=>G va vb s₂) Er s₁) Er s :=
 Sa oa X na (fun x hx va s₁ Ea=>Sb ob (X.k Ea.keeps.k) (nb x hx) (fun y hy vb s₂ Eb=>hG x y hx hy va vb s₁ s₂ Ea Eb)
    fun c hc z s' hz=>hE c (.inr (ah x hx hc)) z s' (hXP c s s₁ z s' Ea.keeps hz)) fun c hc=>hE c (.inl hc)
theorem oG {env:Env}{x:String} (h:varK env.scope.names x=true):env.kindOf (Str.ofString x)=some .local∨env.kindOf (Str.ofString x)=some .cell∨env.kindOf (Str.ofString x)=some .free:=by
 unfold varK at h
 unfold Env.kindOf
 replace h:=(Bool.and_eq_true_iff.mp h).2
 split at h <;> first | (rename_i e; exact .inl e) | (rename_i e; exact .inr (.inl e)) | (rename_i e; exact .inr (.inr e)) | exact nF h
theorem cR {A:Around}{env:Env}{x:String}{pos:Pos}{v:Value}{s:Shared}{Q:Value→Shared→Prop}{Er:Value→Shared→Prop} (hk:env.scope.kind = .function) (hd:aT x=true)
    (hv:VarIs s.heap env (Str.ofString x) v) (h:Q v s):wpAny (model prog w) A (eval (.Name (Str.ofString x) pos) env) Q Er s:=by
 unfold aT at hd
 simp only [Bool.and_eq_true,Bool.not_eq_true'] at hd
 cases hv with
 | loc m a b c=>exact wpAny_Name (wpAny_loadName_local hk a b c h) hd.1
 | cell c a b d=>
    rcases a with a | a
    · exact wpAny_Name (wpAny_loadName_cell hk a b d h) hd.1
    · exact wpAny_Name (wpAny_loadName_free hk a b d h hd.2) hd.1
theorem qR {P:Addr→Prop}{s:Shared}{v:Value}{x:V}{as:List Addr} (r:RV s.heap v x as) (h:∀ a∈as,P a):EP P s (mk x) v s:=by
 refine ⟨.refl s,as,r,fun a ha=>.inl (h a ha),fun hm=>?_,fun hm=>?_⟩
 ·  unfold mk at hm; dsimp only at hm; split at hm <;> cases hm
 ·  cases x with
    | d x=>
      unfold mk at hm; dsimp only at hm
      split at hm
      · rename_i hs
        have:as=[]:=r.1.sx_nil hs
        (clear h r; subst this)
        exact ⟨fun uu h=>(nomatch h),.nil⟩
      · cases hm
    | _=>simp [mk,nC] at hm
theorem jC {ns:List (Str × NameKind)}{x:String}{ex:Expr} (h:okE ns (.name x) ex=true):∃ p,ex = .Name (Str.ofString x) p∧varK ns x=true∧aT x=true:=by
 replace h:=rP h
 revert h; refine fun F8=>Or.elim F8 (fun F3=>?_) (fun h=>?_)
 ·  clear F8
    refine au (F3) fun GD GL Hc h=>?_
    clear F3
    subst Hc
    simp only [Bool.and_eq_true,beq_iff_eq] at h
    refine ae (h) fun FW h3=>?_
    try clear h
    refine ae (FW) fun FX h2=>?_
    try clear FW
    subst FX
    exact (ax _ rfl h2 h3)
 ·  cases h
theorem jI (x:String):SimE fns k C XP (.name x):=by
 intro ex A env σ P s Q Er ok X nb hQ hE
 refine aq (jC ok) fun p FY hv hd=>?_
 (clear ok; subst FY)
 cases hσ:σ x with
 | none=>exact absurd (by simp [c9,hσ]) nb
 | some q=>
    refine az (X.vars x q hσ hv) fun v as h1 h2 h3=>?_
    exact cR X.eok.kind hd h1 (hQ (mk q.1) (by simp [c9,hσ]) v s (qR h2 h3))
theorem la (i:Int):SimE fns k C XP (.int i):=by
 intro ex A env σ P s Q Er ok X nb hQ hE
 replace ok:=Ce ok
 revert ok; refine fun Gb=>Or.elim Gb (fun F7=>?_) (fun ok=>?_)
 ·  clear Gb
    refine bh (F7) fun GX Hk GV HE ok=>?_
    clear F7
    subst HE
    simp only [beq_iff_eq] at ok
    subst ok
    exact wpAny_Constant_int (hQ (sI i) rfl _ _ (.int (.toks s _)))
 ·  cases ok
theorem yD (x:String):SimE fns k C XP (.str x):=by
 intro ex A env σ P s Q Er ok X nb hQ hE
 replace ok:=Ao ok
 revert ok; refine fun Gf=>Or.elim Gf (fun Gc=>?_) (fun ok=>?_)
 ·  clear Gf
    refine bh (Gc) fun He GZ G9 GY ok=>?_
    clear Gc
    subst GY
    simp only [Bool.and_eq_true,beq_iff_eq,decide_eq_true_eq] at ok
    refine ae (ok) fun FZ hx=>?_
    try clear ok
    subst FZ
    exact wpAny_Constant_str (hQ (.d (.str (Str.ofString x)),.deep) rfl _ _ (.scalar (.toks s _) (.str _ _) (by simpa [sz] using hx) (by simp)))
 ·  cases ok
theorem nP (b:Bool):SimE fns k C XP (.bool b):=by
 intro ex A env σ P s Q Er ok X nb hQ hE
 replace ok:=zi ok
 revert ok; refine fun Gp=>Or.elim Gp (fun Ge=>?_) (fun ok=>?_)
 ·  clear Gp
    refine bh (Ge) fun Hp Ho HG HD ok=>?_
    clear Ge
    subst HD
    simp only [beq_iff_eq] at ok
    subst ok
    exact wpAny_Constant_bool (hQ (sB b) rfl _ _ (.bool (.refl s)))
 ·  cases ok
theorem vX:SimE fns k C XP .none:=by
 intro ex A env σ P s Q Er ok X nb hQ hE
 replace ok:=zZ ok
 revert ok; refine fun Gm=>Or.elim Gm (fun Gg=>?_) (fun ok=>?_)
 ·  clear Gm
    refine au (Gg) fun Ib HY IJ ok=>?_
    clear Gg
    subst IJ
    exact wpAny_Constant_none (hQ (.d .none,.deep) rfl _ _ (.scalar (.refl s) .none rfl (by simp)))
 ·  cases ok
theorem be (h:Heap):h.get? h.objs.size=none:=Heap.get?_none_of_le (Nat.le_refl _)
theorem dZ {h:Heap}{a:Addr}{o:Obj} (e:h.get? a=some o):a≠h.objs.size:=Nat.ne_of_lt (Heap.lt_size e)
theorem EP.newList {P:Addr→Prop}{s:Shared}{xs:List PyData}{vs:List Value}{as:List Addr}{t:Nat} (r:RA s.heap vs xs as) (hl:xs.length≤2 ^ 22) (hz:∀ x∈xs,sz x=true) (ha:∀ a∈as,P a) :
    EP P s (.d (.list xs),fresh xs) (.ref s.heap.objs.size) { s with heap:=s.heap.push { cls:=.type "list", data:=.seq vs.toArray },toks:=t }:=by
 refine ⟨.push s _ _,s.heap.objs.size :: as,⟨.list (Heap.get?_push_size _ rfl) (r.keep fun uu uu e=>Heap.get?_push_of_some _ e),sz_list.mpr ⟨hl,hz⟩⟩,?_,?_,?_⟩
 ·  intro a h
    rcases List.mem_cons.mp h with rfl | h
    · exact .inr (be _)
    · exact .inl (ha a h)
 ·  intro _
    exact (aS _ _ rfl (be _) (fun h=>bi (r.there _ h) fun uu uu e=>dZ e rfl))
 ·  intro hm
    have hall:xs.all sx=true:=by
      unfold fresh at hm; dsimp only at hm; split at hm
      · assumption
      · cases hm
    rw [r.sx_nil hall]
    refine ⟨fun a h=>?_,by simp⟩
    rcases List.mem_cons.mp h with rfl | h
    · exact be _
    · cases h
section
variable {va vb:Value}{as bs:List Addr}{A:Around}{P:Addr→Prop}{s:Shared}{Q:Value→Shared→Prop}{Er:Value→Shared→Prop}
theorem vq {xs ys:List PyData} (ra:R s.heap va (.list xs) as) (za:sz (.list xs)=true) (rb:R s.heap vb (.list ys) bs) (zb:sz (.list ys)=true) (ha:∀ a∈as,P a) (hb:∀ a∈bs,P a) (hl:xs.length + ys.length≤lim)
    (hQ:∀ v s',EP P s (.d (.list (xs ++ ys)),fresh (xs ++ ys)) v s'→Q v s'):wpAny (model prog w) A (binaryOp .Add va vb) Q Er s:=by
 cases ra with
 | list ea ra=>
 cases rb with
 | list eb rb=>
 unfold lim at hl
 rw [sz_list] at za zb
 have e1:=ra.length
 have e2:=rb.length
 refine PySem.P.add_list ea eb ?_ ?_
 ·  have:=EP.newList (P:=P) (t:=s.toks) (ra.append rb) (by rw [List.length_append]; exact A4 hl) (fun z hz=>(List.mem_append.mp hz).elim (za.2 z) (zb.2 z)) fun a h=>(List.mem_append.mp h).elim (fun h=>ha a (.tail _ h)) fun h=>hb a (.tail _ h)
    exact hQ _ _ (by simpa using this)
 ·  rw [List.size_toArray,List.size_toArray,e1,e2]
    unfold sizeLine; exact Cq hl
theorem yu {a b:Int}{t u:Tok} (h:a.natAbs<2 ^ 63∨b.natAbs<2 ^ 63) (hQ:∀ v s',EP P s (sI (a * b)) v s'→Q v s'):wpAny (model prog w) A (binaryOp .Mult (.int a t) (.int b u)) Q Er s:=by
 refine mul_int (hQ _ _ (.int (.toks s _))) ?_
 rcases h with hl | hl
 ·  exact IntMulOk.of_left (intBits_le_64 (by exact na1 (by assumption)) (by exact na2 (by assumption)))
 ·  exact IntMulOk.of_right (intBits_le_64 (by exact na1 (by assumption)) (by exact na2 (by assumption)))
theorem vR {a b:Int}{t u:Tok} (h:¬ (b=0∨1000000000≤b.natAbs)) (hQ:∀ v s',EP P s (sI (a.fdiv b)) v s'→Q v s'):wpAny (model prog w) A (binaryOp .FloorDiv (.int a t) (.int b u)) Q Er s :=
 floordiv_int (fun e=>h (.inl e)) (hQ _ _ (.int (.toks s _))) (.inl (PyProof.noPylong_small (by exact BF h)))
theorem xM {a b:Int}{t u:Tok} (h:0≤b∧b≤1000∧a.natAbs<2 ^ 63) (hQ:∀ v s',EP P s (sI (a ^ b.toNat)) v s'→Q v s'):wpAny (model prog w) A (binaryOp .Pow (.int a t) (.int b u)) Q Er s :=
 pow_int_small h.1 (by exact CL h) (by exact Bj h) (hQ _ _ (.int (.toks s _)))
theorem tX {o:BOp}{op:Operator}{x y:PyData}{r:V × Mode}
    (ho:opB o op=true) (he:cZ o x y = .ok r) (ra:R s.heap va x as) (za:sz x=true) (rb:R s.heap vb y bs) (zb:sz y=true) (ha:∀ a∈as,P a) (hb:∀ a∈bs,P a)
    (hQ:∀ v s',EP P s r v s'→Q v s'):wpAny (model prog w) A (binaryOp op va vb) Q Er s:=by
 cases of_decide_eq_true ho
 cases o with
 | add=>
    replace he:nG x y = .ok r:=he
    unfold nG at he
    cases hx:asL x with
    | some xs=>
      rw [hx] at he
      replace he:=aP he
      revert he; intro HU
      refine ag (HU) fun ys hy he=>?_
      try clear HU
      cases bt hx
      cases bt hy
      clear hx hy
      split at he <;> cases he
      exact vq ra za rb zb ha hb (by assumption) hQ
    | none=>
      rw [hx] at he
      replace he:=d8 he
      revert he; intro GK
      refine az (GK) fun a b F0 F1 he=>?_
      try clear GK
      (clear hx za; subst F0)
      (clear zb; subst F1)
      (have oc:=Out.ok.inj he; clear he; subst oc); obtain ⟨_,rfl,rfl⟩:=ra.isInt; obtain ⟨_,rfl,rfl⟩:=rb.isInt
      exact add_int (hQ _ _ (.int (.toks s _)))
 | sub=>
    replace he:=d8 he
    revert he; intro Gw
    refine az (Gw) fun a b F2 F4 he=>?_
    try clear Gw
    (clear za; subst F2)
    (clear zb; subst F4)
    (have oc:=Out.ok.inj he; clear he; subst oc); obtain ⟨_,rfl,rfl⟩:=ra.isInt; obtain ⟨_,rfl,rfl⟩:=rb.isInt
    exact sub_int (hQ _ _ (.int (.toks s _)))
 | mul=>
    replace he:=d8 he
    revert he; intro Hw
    refine az (Hw) fun a b F5 F6 he=>?_
    try clear Hw
    (clear za; subst F5)
    (clear zb; subst F6)
    split at he <;> cases he
    obtain ⟨_,rfl,rfl⟩:=ra.isInt; obtain ⟨_,rfl,rfl⟩:=rb.isInt
    exact yu (by assumption) hQ
 | fdiv=>
    replace he:=d8 he
    revert he; intro GN
    refine az (GN) fun a b Ga F9 he=>?_
    try clear GN
    (clear za; subst Ga)
    (clear zb; subst F9)
    split at he <;> cases he
    obtain ⟨_,rfl,rfl⟩:=ra.isInt; obtain ⟨_,rfl,rfl⟩:=rb.isInt
    exact vR (by assumption) hQ
 | mod=>
    replace he:=d8 he
    revert he; intro Hm
    refine az (Hm) fun a b Gh Gi he=>?_
    try clear Hm
    (clear za; subst Gh)
    (clear zb; subst Gi)
    split at he <;> cases he
    obtain ⟨_,rfl,rfl⟩:=ra.isInt; obtain ⟨_,rfl,rfl⟩:=rb.isInt
    exact mod_int' (by assumption) (hQ _ _ (.int (.toks s _)))
 | pow=>
    replace he:=d8 he
    revert he; intro G7
    refine az (G7) fun a b Gj Gr he=>?_
    try clear G7
    (clear za; subst Gj)
    (clear zb; subst Gr)
    split at he <;> cases he
    obtain ⟨_,rfl,rfl⟩:=ra.isInt; obtain ⟨_,rfl,rfl⟩:=rb.isInt
    exact xM (by assumption) hQ
 | xor=>
    replace he:=d8 he
    revert he; intro HC
    refine az (HC) fun a b Gv Gs he=>?_
    try clear HC
    (clear za; subst Gv)
    (clear zb; subst Gs)
    (have oc:=Out.ok.inj he; clear he; subst oc); obtain ⟨_,rfl,rfl⟩:=ra.isInt; obtain ⟨_,rfl,rfl⟩:=rb.isInt
    exact xor_int (hQ _ _ (.int (.toks s _)))
end
end
end Mine
namespace Mine
open PySem PyProof.Rows
section
variable {fns:Fns}{k:Nat}{C:Calls}{XP:String→Shared→Value→Shared→Prop}
variable {va vb:Value}{as bs:List Addr}{A:Around}{P:Addr→Prop}{s:Shared}{Q:Value→Shared→Prop}{Er:Value→Shared→Prop}
theorem Room.units {hb:Bool}{k:Nat}{A:Around} (h:Room hb k A):A.units + 200<cLine:=by
 revert h; intro HF
 refine aD (HF) fun uu uu h=>?_
 try clear HF
 cases hb with
 | true=>rw [if_pos rfl] at h; exact A6 h
 | false=>rw [if_neg (by decide)] at h; exact Du h
theorem Room.at {hb:Bool}{k:Nat}{A:Around} (h:Room hb k A) (hf:hb=false):A.depth + 2 * k + 4<recursionLimit∧A.units + 100 * k + 300<cLine:=by
 subst hf; exact h.2
theorem jh {d:PyData}:okc d=true↔d.canLay0=true∧d.depth≤64:=by simp [okc]
theorem mC {vs:List Value}{ns:List Int} (h:IntsAre vs ns):ItemsAre (intKind prog w) ns vs:=by
 induction h with
 | nil=>exact .nil
 | cons n t _ ih=>exact .cons (intKind_is prog w n t) ih
theorem eg {h:Heap}{v:Value}{x:PyData}{as:List Addr}{ks:List Int} (r:R h v x as) (e:dg x=some ks):∃ a,v = .ref a∧IsTupleKey (intKind prog w) h ks a:=by
 cases r with
 | tuple ea ra=>
    refine aD (ra.ints e) fun hi _ _=>?_
    exact (ah _ rfl (fB _ _ _ ea rfl rfl (by simpa using mC hi)))
 | _=>exact nN e
theorem pK {h:Heap}{v:Value}{x:PyData}{as:List Addr}{ks:List Int} (r:R h v x as) (e:dg x=some ks):R h v (aJ ks) []:=by
 cases r with
 | tuple ea ra=>
    refine aD (ra.ints e) fun uu FW FX=>?_
    subst FW
    (clear e; subst FX)
    exact .tuple ea ra
 | _=>exact nN e
theorem iS {K:Type} [DecidableEq K] (xs:List (K × Addr × Value)) (k:K):(atKey xs k).isSome=decide (k∈xs.map (·.1)):=by
 unfold atKey
 rw [Option.isSome_map]
 induction xs with
 | nil=>rfl
 | cons x xs ih=>
    by_cases hk:x.1=k
    · simp [hk]
    · rw [List.find?_cons,show decide (x.1=k)=false from decide_eq_false hk]
      dsimp only
      rw [ih,List.map_cons]
      simp [List.mem_cons,Ne.symm hk]
theorem lq (ks:List Int) (k:Int):(valueAt (ks.map fun k=>(k,Value.bool true)) k).isSome=decide (k∈ks):=by
 unfold valueAt
 rw [Option.isSome_map]
 induction ks with
 | nil=>rfl
 | cons x xs ih=>
    by_cases hk:x=k
    · simp [hk]
    · rw [List.map_cons,List.find?_cons]
      simp only [hk,decide_false,List.mem_cons,Ne.symm hk,false_or]
      exact ih
theorem yg {x:PyData}{c:V}{b:Bool} (hu:A.units + 200<cLine) (he:inV x c = .ok b) (ra:R s.heap va x as) (rb:RV s.heap vb c bs)
    (hQ:∀ s',Kp s s'→Q (.bool b) s'):wpAny (model prog w) A (compareOp .In va vb) Q Er s:=by
 cases c with
 | d y=>
    replace he:=aP he
    revert he; intro Hr
    refine ag (Hr) fun xs hy he=>?_
    try clear Hr
    cases bt hy
    split at he <;> cases he
    rename_i h1
    simp only [Bool.and_eq_true,jh] at h1
    refine aD (h1) fun FY b1 b2=>?_
    try clear h1
    refine ae (FY) fun a1 a2=>?_
    try clear FY
    simp only [PyData.canLay0,PyData.depth] at b1 b2
    exact SeqAt.in_list_reads rb.1.reads ra.reads b1 a1 (by have:=Nat.min_le_left (PyData.depthAll ‹_›) x.depth; exact wG hu b2) (hQ s (.refl s))
 | dicI ks=>
    replace he:=aP he
    revert he; intro GK
    refine ag (GK) fun i hi he=>?_
    try clear GK
    (have oc:=Out.ok.inj he; clear he; subst oc)
    refine cy (rb) fun a FZ _ lo hd=>?_
    try clear rb
    subst FZ
    cases cu hi
    refine ra.isInt_k fun uu F0 F1=>?_
    (clear ra; subst F0)
    subst F1
    refine wpAny_in_of (intKind_is prog w _ _) lo hd.mapOf ?_
    rw [lq]
    exact hQ _ (.toks s _)
 | dicT ks=>
    replace he:=aP he
    revert he; intro GN
    refine ag (GN) fun i hi he=>?_
    try clear GN
    (have oc:=Out.ok.inj he; clear he; subst oc)
    refine xz (rb) fun a xs F2 _ lo hd F4 _=>?_
    try clear rb
    subst F2
    subst F4
    refine ag (eg ra hi) fun a' F5 hk=>?_
    (clear ra; subst F5)
    refine wpAny_in_heap (tupleKind_room_in1 (by exact wX hu)) hk lo hd ?_
    rw [iS]
    exact Eq.mp (congrArg (fun b=>Q (.bool b) _) (decide_eq_decide.mpr Iff.rfl)) (hQ _ (.toks s _))
 | dic0=>
    replace he:(if (dJ x).isSome || (dg x).isSome then Out.ok false else .bad) = .ok b:=he
    split at he <;> cases he
    rename_i h1
    refine iV (rb) fun a F6 _ lo hd hd'=>?_
    try clear rb
    subst F6
    cases h2:dJ x with
    | some i=>
      cases cu h2
      refine ra.isInt_k fun uu Ga F9=>?_
      (clear ra; subst Ga)
      subst F9
      exact wpAny_in_of (intKind_is prog w _ _) lo hd.mapOf (hQ _ (.toks s _))
    | none=>
      rw [h2] at h1
      refine bF (by simpa using h1) fun i hi=>?_
      refine ag (eg ra hi) fun a' Gh hk=>?_
      (clear ra; subst Gh)
      exact wpAny_in_heap (tupleKind_room_in1 (by exact wX hu)) hk lo hd' (hQ _ (.toks s _))
 | rule _ _ _=>exact nB he
theorem nX {o:COp}{op:CmpOp}{x y:V}{b:Bool} (hu:A.units + 200<cLine) (ho:opC o op=true) (he:b9 o x y = .ok b) (ra:RV s.heap va x as) (rb:RV s.heap vb y bs)
    (hQ:∀ s',Kp s s'→Q (.bool b) s'):wpAny (model prog w) A (compareOp op va vb) Q Er s:=by
 cases of_decide_eq_true ho
 cases o with
 | eq=>
    replace he:=gY he
    revert he; intro G5
    refine az (G5) fun x y Gi Gj he=>?_
    try clear G5
    subst Gi
    subst Gj
    split at he <;> cases he
    rename_i h1
    simp only [Bool.and_eq_true,jh] at h1
    refine aD (h1) fun Gr b1 b2=>?_
    try clear h1
    refine ae (Gr) fun a1 a2=>?_
    try clear Gr
    exact SeqAt.compareEq_reads ra.1.reads rb.1.reads a1 b1 (by have:=Nat.min_le_left x.depth y.depth; exact xa hu a2) (hQ s (.refl s))
 | ne=>
    replace he:=gY he
    revert he; intro IA
    refine az (IA) fun x y Gv Gs he=>?_
    try clear IA
    subst Gv
    subst Gs
    split at he <;> cases he
    rename_i h1
    simp only [Bool.and_eq_true,jh] at h1
    refine aD (h1) fun Gx b1 b2=>?_
    try clear h1
    refine ae (Gx) fun a1 a2=>?_
    try clear Gx
    exact SeqAt.compareNe_reads ra.1.reads rb.1.reads a1 b1 (by have:=Nat.min_le_left x.depth y.depth; exact xa hu a2) (hQ s (.refl s))
 | lt=>
    replace he:=gY he
    revert he; intro Iu
    refine az (Iu) fun x y GB Gy he=>?_
    try clear Iu
    subst GB
    subst Gy
    replace he:=d8 he
    revert he; intro G6
    refine az (G6) fun i j GI GG he=>?_
    try clear G6
    subst GI
    subst GG
    (have oc:=Out.ok.inj he; clear he; subst oc); obtain ⟨_,rfl,rfl⟩:=ra.1.isInt; obtain ⟨_,rfl,rfl⟩:=rb.1.isInt
    exact lt_int (hQ s (.refl s))
 | gt=>
    replace he:=gY he
    revert he; intro Hy
    refine az (Hy) fun x y GU Hj he=>?_
    try clear Hy
    subst GU
    subst Hj
    replace he:=d8 he
    revert he; intro HX
    refine az (HX) fun i j G4 G1 he=>?_
    try clear HX
    subst G4
    subst G1
    (have oc:=Out.ok.inj he; clear he; subst oc); obtain ⟨_,rfl,rfl⟩:=ra.1.isInt; obtain ⟨_,rfl,rfl⟩:=rb.1.isInt
    exact gt_int (hQ s (.refl s))
 | ge=>
    replace he:=gY he
    revert he; intro Hu
    refine az (Hu) fun x y GH GM he=>?_
    try clear Hu
    subst GH
    subst GM
    replace he:=d8 he
    revert he; intro Hv
    refine az (Hv) fun i j GR GP he=>?_
    try clear Hv
    subst GR
    subst GP
    (have oc:=Out.ok.inj he; clear he; subst oc); obtain ⟨_,rfl,rfl⟩:=ra.1.isInt; obtain ⟨_,rfl,rfl⟩:=rb.1.isInt
    exact ge_int (hQ s (.refl s))
 | isin=>
    replace he:=aP he
    revert he; intro HW
    refine ag (HW) fun x hx he=>?_
    try clear HW
    cases cj hx
    exact yg hu he ra.1 rb hQ
 | notin=>
    replace he:=gY he
    revert he; intro HS
    refine az (HS) fun kx y G0 Hl he=>?_
    try clear HS
    subst G0
    subst Hl
    refine Out.bind_k he fun b' h1 h2=>?_
    (have oc:=Out.ok.inj h2; clear h2; (clear he; subst oc))
    replace h1:=aP h1
    revert h1; intro HQ
    refine ag (HQ) fun xs hy h1=>?_
    try clear HQ
    cases bt hy
    split at h1 <;> cases h1
    rename_i h1
    simp only [Bool.and_eq_true,jh] at h1
    refine aD (h1) fun Ha b1 b2=>?_
    try clear h1
    refine ae (Ha) fun a1 a2=>?_
    try clear Ha
    simp only [PyData.canLay0,PyData.depth] at b1 b2
    exact SeqAt.notIn_list_reads rb.1.reads ra.1.reads b1 a1 (by have:=Nat.min_le_left (PyData.depthAll xs) kx.depth; exact wG hu b2) (hQ s (.refl s))
 | isnot=>
    replace he:=gY he
    revert he; intro Iy
    refine az (Iy) fun x y HH HP he=>?_
    try clear Iy
    subst HH
    subst HP
    split at he <;> cases he
    cases yI (by assumption)
    obtain ⟨ra,_⟩:=ra; obtain ⟨rfl,rfl⟩:=rb.1.isNone
    refine isNot_none ?_
    cases ra <;> exact hQ s (.refl s)
end
end Mine
namespace Mine
open PySem PyProof.Rows
section
variable {fns:Fns}{k:Nat}{C:Calls}{XP:String→Shared→Value→Shared→Prop}
theorem EP.shift {P:Addr→Prop}{s s₂ s₃:Shared}{r:V × Mode}{v:Value} (kp:Kp s s₂) (e:EP (fun a=>P a∨s.heap.get? a=none) s₂ r v s₃):EP P s r v s₃:=by
 obtain ⟨k',as,a,b,c,d⟩:=e
 refine ⟨kp.trans k',as,a,fun x hx=>?_,fun hm=>az (c hm) fun a bs h1 h2 h3=>(aS a bs h1 (kp.none h2) h3),fun hm=>⟨fun x hx=>kp.none ((d hm).1 x hx),(d hm).2⟩⟩
 rcases b x hx with h | h
 ·  exact h
 ·  exact .inr (kp.none h)
theorem mE (hXP:∀ c s s₁ x s',Kp s s₁→XP c s₁ x s'→XP c s x s') {a b:E} (Sa:SimE fns k C XP a) (Sb:SimE fns k C XP b)
    {ea eb:Expr}{A:Around}{env:Env}{σ:St}{P:Addr→Prop}{s:Shared}{Er:Value→Shared→Prop}{G:Value→Value→Shared→Prop}{f:V→V→Out (V × Mode)}
    (oa:okE env.scope.names a ea=true) (ob:okE env.scope.names b eb=true) (X:Cx fns k A P s.heap env σ)
    (nb:((ev C a σ).bind fun x=>(ev C b σ).bind fun y=>f x.1 y.1)≠.bad)
    (hE:∀ c,((ev C a σ).bind fun x=>(ev C b σ).bind fun y=>f x.1 y.1) = .exc c→∀ x s',XP c s x s'→Er x s') (hf:∀ x y c,f x y≠.exc c)
    (hG:∀ x y r,((ev C a σ).bind fun x=>(ev C b σ).bind fun y=>f x.1 y.1) = .ok r→f x y = .ok r→∀ va vb s₂ as bs,Kp s s₂→RV s₂.heap va x as→RV s₂.heap vb y bs →
      (∀ a∈as,P a∨s.heap.get? a=none)→(∀ a∈bs,P a∨s.heap.get? a=none)→G va vb s₂) :
    wpAny (model prog w) A (eval ea env) (fun va s₁=>wpAny (model prog w) A (eval eb env) (fun vb s₂=>G va vb s₂) Er s₁) Er s:=by
 refine aQ nb fun n1 n2=>?_
 refine Fh hXP Sa Sb oa ob X n1 (fun x hx=>(a8 (n2 x hx)).1) (fun c hc=>hE c ?_) fun x y hx hy va vb s₁ s₂ Ea Eb=>?_
 ·  rcases hc with hc | ⟨x,hx,hc⟩
    · rw [hc]; rfl
    · rw [hx,Out.ok_bind,hc]; rfl
 ·  have h1:=(a8 (n2 x hx)).2 y hy
    cases hr:f x.1 y.1 with
    | bad=>exact absurd hr h1
    | exc c=>exact absurd hr (hf _ _ _)
    | ok r=>
      obtain ⟨ka,as,ra,ha,_⟩:=Ea
      obtain ⟨kb,bs,rb,hb,_⟩:=Eb
      exact hG x.1 y.1 r (by rw [hx,Out.ok_bind,hy,Out.ok_bind]; exact hr) hr va vb s₂ as bs (ka.trans kb) (ra.k kb.k) rb ha fun z hz=>(hb z hz).imp id ka.none
theorem ul {o:BOp}{x y:PyData}{c:String}:cZ o x y≠.exc c:=x6 c
theorem m7 {o:COp}{x y:V}{c:String}:b9 o x y≠.exc c:=yl c
theorem yL {ns:List (Str × NameKind)}{o:BOp}{a b:E}{ex:Expr} (h:okE ns (.bin o a b) ex=true):∃ l op r p,ex = .BinOp l op r p∧opB o op=true∧okE ns a l=true∧okE ns b r=true:=by
 replace h:=Bw h
 revert h; refine fun F8=>Or.elim F8 (fun F3=>?_) (fun h=>?_)
 ·  clear F8
    refine cz (F3) fun GD GL Hg GX GJ h=>?_
    clear F3
    subst GJ
    simp only [Bool.and_eq_true] at h
    exact (gN _ _ _ _ rfl h.1.1 h.1.2 h.2)
 ·  cases h
theorem pX (hXP:∀ c s s₁ x s',Kp s s₁→XP c s₁ x s'→XP c s x s') {o:BOp}{a b:E} (Sa:SimE fns k C XP a) (Sb:SimE fns k C XP b):SimE fns k C XP (.bin o a b):=by
 intro ex A env σ P s Q Er ok X nb hQ hE
 refine fI (yL ok) fun l op r p FW ho oa ob=>?_
 (clear ok; subst FW)
 simp only [k8] at nb hQ hE
 refine wpAny_BinOp (mE hXP Sa Sb (f:=fun x y=>match x,y with | .d x,.d y=>cZ o x y | _,_=>.bad) oa ob X nb hE (fun x y c=>?_) fun x y r hr hf va vb s₂ as bs kp ra rb ha hb=>?_)
 ·  split
    · exact ul
    · simp
 ·  split at hf
    · exact tX ho hf ra.1 ra.2 rb.1 rb.2 ha hb fun v s' e=>hQ r hr v s' (.shift kp e)
    · exact nB hf
theorem pC {ns:List (Str × NameKind)}{o:COp}{a b:E}{ex:Expr} (h:okE ns (.cmp o a b) ex=true):∃ l op r p,ex = .Compare l [op] [r] p∧opC o op=true∧okE ns a l=true∧okE ns b r=true:=by
 replace h:=B8 h
 revert h; refine fun Gb=>Or.elim Gb (fun F7=>?_) (fun h=>?_)
 ·  clear Gb
    refine cz (F7) fun GV Hh He GZ HJ h=>?_
    clear F7
    subst HJ
    simp only [Bool.and_eq_true] at h
    exact (gN _ _ _ _ rfl h.1.1 h.1.2 h.2)
 ·  cases h
theorem yj {ns:List (Str × NameKind)}{e:E}{es:List Expr}{n:Nat}{p:Pos}:okE ns e (.Set es n p)=false:=by cases e <;> rfl
theorem mX {ns:List (Str × NameKind)}{e:E}{op:CmpOp}{x:Expr} (h:okE ns e x=true):behindInMarks op x=false:=by
 cases x <;> first | rfl | (rw [yj] at h; cases h)
theorem qe (hXP:∀ c s s₁ x s',Kp s s₁→XP c s₁ x s'→XP c s x s') {o:COp}{a b:E} (Sa:SimE fns k C XP a) (Sb:SimE fns k C XP b):SimE fns k C XP (.cmp o a b):=by
 intro ex A env σ P s Q Er ok X nb hQ hE
 refine fI (pC ok) fun l op r p FX ho oa ob=>?_
 (clear ok; subst FX)
 simp only [jg] at nb hQ hE
 refine wpAny_Compare1 (mE hXP Sa Sb (f:=fun x y=>(b9 o x y).bind fun b=>.ok (sB b)) oa ob X nb hE (fun x y c h=>?_) fun x y r hr hf va vb s₂ as bs kp ra rb ha hb=>?_) (mX ob)
 ·  rcases bG h with h | ⟨_,_,h⟩
    · exact m7 h
    · cases h
 ·  refine Out.bind_k hf fun t h1 h2=>?_
    (have oc:=Out.ok.inj h2; clear h2; (clear hf; subst oc))
    exact nX X.room.units ho h1 ra rb fun s' e=>hQ _ hr _ s' (.bool (kp.trans e))
theorem ov (hXP:∀ c s s₁ x s',Kp s s₁→XP c s₁ x s'→XP c s x s') {o:COp}{a b:E} (Sa:SimE fns k C XP a) (Sb:SimE fns k C XP b):SimT fns k C XP (.cmp o a b):=by
 intro ex A env σ P s Q Er ok X nb hQ hE
 refine fI (pC ok) fun l op r p FY ho oa ob=>?_
 (clear ok; subst FY)
 have nb':=(a8 nb).1
 have hQ':∀ r,ev C (.cmp o a b) σ = .ok r→∀ b,ao r.1 = .ok b→∀ s',Kp s s'→Q b s':=fun r hr t ht=>hQ t (by rw [hr]; exact ht)
 simp only [jg] at nb' hQ' hE
 refine wpAny_isTrue_Compare1 (mE hXP Sa Sb (f:=fun x y=>(b9 o x y).bind fun b=>.ok (sB b)) oa ob X nb' hE (fun x y c h=>?_) fun x y r hr hf va vb s₂ as bs kp ra rb ha hb=>?_) (mX ob)
 ·  rcases bG h with h | ⟨_,_,h⟩
    · exact m7 h
    · cases h
 ·  refine Out.bind_k hf fun t h1 h2=>?_
    (have oc:=Out.ok.inj h2; clear h2; (clear hf; subst oc))
    exact nX X.room.units ho h1 ra rb fun s' e=>wpAny_truthy_bool (hQ' _ hr _ rfl s' (kp.trans e))
theorem ya {a:E} (Sa:SimE fns k C XP a):SimE fns k C XP (.neg a):=by
 intro ex A env σ P s Q Er ok X nb hQ hE
 replace ok:=wV ok
 revert ok; refine fun Gf=>Or.elim Gf (fun Gc=>?_) (fun ok=>?_)
 ·  clear Gf
    refine au (Gc) fun Hz Hp HA ok=>?_
    clear Gc
    subst HA
    simp only [lb] at nb hQ hE
    refine aQ nb fun n1 n2=>?_
    refine wpAny_UnaryOp (Sa ok X n1 (fun x hx va s₁ Ea=>?_) fun c hc=>hE c (by rw [hc]; rfl))
    have n3:=n2 x hx
    obtain ⟨ka,as,ra,_⟩:=Ea
    obtain ⟨x,m⟩:=x
    dsimp only at n3 ra
    split at n3
    · refine ra.1.isInt_k fun uu FZ F0=>?_
      (clear ra; subst FZ)
      subst F0
      exact neg_int (hQ _ (by rw [hx]; rfl) _ _ (.int (ka.trans (.toks s₁ _))))
    · exact absurd rfl n3
 ·  cases ok
theorem qH {e:E} (S:SimE fns k C XP e) (hp:∀ ns ex env (t:Sem Value),okE ns e ex=true→isTrue ex env t=(do let v ← t; standAt ex.pos; holding [v] (truthy v))):SimT fns k C XP e:=by
 intro ex A env σ P s Q Er ok X nb hQ hE
 refine wpAny_isTrue_value (S ok X (a8 nb).1 (fun r hr v s' E=>?_) hE) (hp _ _ _ _ ok)
 have n2:=(a8 nb).2 r hr
 obtain ⟨x,m⟩:=r
 dsimp only at n2
 unfold ao at n2
 split at n2
 ·  obtain ⟨ke,as,F1,_⟩:=E
    refine ae (F1) fun re _=>?_
    try clear F1
    refine ae (re.isBool) fun F2 F4=>?_
    (clear re; subst F2)
    subst F4
    exact wpAny_truthy_bool (hQ _ (by rw [hr]; rfl) _ ke)
 ·  exact absurd rfl n2
theorem pF {ns:List (Str × NameKind)}{a:E}{ex:Expr} (h:okE ns (.not a) ex=true):∃ x p,ex = .UnaryOp .Not x p∧okE ns a x=true:=by
 replace h:=Cb h
 revert h; refine fun Gp=>Or.elim Gp (fun Ge=>?_) (fun h=>?_)
 ·  clear Gp
    refine au (Ge) fun HG HL Hf h=>?_
    clear Ge
    subst Hf
    exact (aA _ _ rfl h)
 ·  cases h
theorem pO {a:E} (Sa:SimE fns k C XP a):SimE fns k C XP (.not a):=by
 intro ex A env σ P s Q Er ok X nb hQ hE
 refine au (pF ok) fun x p F5 oa=>?_
 (clear ok; subst F5)
 simp only [gw] at nb hQ hE
 refine aQ nb fun n1 n2=>?_
 refine wpAny_UnaryOp (Sa oa X n1 (fun x hx va s₁ Ea=>?_) fun c hc=>hE c (by rw [hc]; rfl))
 have n3:=(a8 (n2 x hx)).1
 obtain ⟨ka,as,ra,_⟩:=Ea
 obtain ⟨x,m⟩:=x
 dsimp only at n3 ra
 unfold ao at n3
 split at n3
 ·  refine ae (ra.1.isBool) fun F6 Ga=>?_
    (clear ra; subst F6)
    subst Ga
    exact not_value (wpAny_truthy_bool (hQ _ (by rw [hx]; rfl) _ _ (.bool ka)))
 ·  exact absurd rfl n3
theorem ow {a:E} (Sa:SimT fns k C XP a):SimT fns k C XP (.not a):=by
 intro ex A env σ P s Q Er ok X nb hQ hE
 refine au (pF ok) fun x p F9 oa=>?_
 (clear ok; subst F9)
 have e:((ev C (.not a) σ).bind fun r=>ao r.1)=((ev C a σ).bind fun r=>ao r.1).bind fun b=>.ok (!b):=by
    simp only [gw]
    cases ev C a σ with
    | ok r=>simp only [Out.ok_bind]; cases ao r.1 <;> rfl
    | exc c=>rfl
    | bad=>rfl
 rw [e] at nb hQ
 refine wpAny_isTrue_Not (Sa oa X (a8 nb).1 (fun b hb s' kp=>hQ (!b) (by rw [hb]; rfl) s' kp) fun c hc=>hE c (by simp only [gw]; rw [hc]; rfl))
end
end Mine
namespace Mine
open PySem PyProof.Rows
section
variable (fns:Fns) (k:Nat) (C:Calls) (XP:String→Shared→Value→Shared→Prop)
noncomputable def SimA (e:E):Prop:=∀ {vs:List Expr}{pos:Pos}{A:Around}{env:Env}{σ:St}{P:Addr→Prop}{s:Shared}{Q:Value→Shared→Prop}{Er:Value→Shared→Prop},
 okA' env.scope.names e vs=true→Cx fns k A P s.heap env σ→((ev C e σ).bind fun r=>ao r.1)≠.bad →
 (∀ b,((ev C e σ).bind fun r=>ao r.1) = .ok b→∀ s',Kp s s'→Q (.bool b) s')→(∀ c,ev C e σ = .exc c→∀ x s',XP c s x s'→Er x s') →
 wpAny (model prog w) A (boolOp pos .And (evalEach vs env)) Q Er s
noncomputable def SimTA (e:E):Prop:=∀ {vs:List Expr}{A:Around}{env:Env}{σ:St}{P:Addr→Prop}{s:Shared}{Q:Bool→Shared→Prop}{Er:Value→Shared→Prop},
 okA' env.scope.names e vs=true→Cx fns k A P s.heap env σ→((ev C e σ).bind fun r=>ao r.1)≠.bad →
 (∀ b,((ev C e σ).bind fun r=>ao r.1) = .ok b→∀ s',Kp s s'→Q b s')→(∀ c,ev C e σ = .exc c→∀ x s',XP c s x s'→Er x s') →
 wpAny (model prog w) A (allTrue .And vs env) Q Er s
noncomputable def SimO (e:E):Prop:=∀ {vs:List Expr}{pos:Pos}{A:Around}{env:Env}{σ:St}{P:Addr→Prop}{s:Shared}{Q:Value→Shared→Prop}{Er:Value→Shared→Prop},
 okO' env.scope.names e vs=true→Cx fns k A P s.heap env σ→((ev C e σ).bind fun r=>ao r.1)≠.bad →
 (∀ b,((ev C e σ).bind fun r=>ao r.1) = .ok b→∀ s',Kp s s'→Q (.bool b) s')→(∀ c,ev C e σ = .exc c→∀ x s',XP c s x s'→Er x s') →
 wpAny (model prog w) A (boolOp pos .Or (evalEach vs env)) Q Er s
noncomputable def SimTO (e:E):Prop:=∀ {vs:List Expr}{A:Around}{env:Env}{σ:St}{P:Addr→Prop}{s:Shared}{Q:Bool→Shared→Prop}{Er:Value→Shared→Prop},
 okO' env.scope.names e vs=true→Cx fns k A P s.heap env σ→((ev C e σ).bind fun r=>ao r.1)≠.bad →
 (∀ b,((ev C e σ).bind fun r=>ao r.1) = .ok b→∀ s',Kp s s'→Q b s')→(∀ c,ev C e σ = .exc c→∀ x s',XP c s x s'→Er x s') →
 wpAny (model prog w) A (allTrue .Or vs env) Q Er s
end
section
variable {fns:Fns}{k:Nat}{C:Calls}{XP:String→Shared→Value→Shared→Prop}
theorem vQ {P:Addr→Prop}{s s':Shared}{r:V × Mode}{v:Value}{t:Bool} (E:EP P s r v s') (h:ao r.1 = .ok t):v = .bool t∧Kp s s':=by
 obtain ⟨x,m⟩:=r
 dsimp only at h
 unfold ao at h
 split at h
 ·  (have oc:=Out.ok.inj h; clear h; subst oc)
    obtain ⟨ke,as,FW,_⟩:=E
    refine ae (FW) fun re _=>?_
    try clear FW
    cases re
    exact ⟨rfl,ke⟩
 ·  exact nB h
theorem ml {v:V}{c:String}:ao v≠.exc c:=by unfold ao; split <;> simp
theorem qT {e:E} (S:SimE fns k C XP e) {ex:Expr}{A:Around}{env:Env}{σ:St}{P:Addr→Prop}{s:Shared}{Q:Value→Shared→Prop}{Er:Value→Shared→Prop}
    (ok:okE env.scope.names e ex=true) (X:Cx fns k A P s.heap env σ) (nb:((ev C e σ).bind fun r=>ao r.1)≠.bad)
    (hQ:∀ b,((ev C e σ).bind fun r=>ao r.1) = .ok b→∀ s',Kp s s'→Q (.bool b) s') (hE:∀ c,ev C e σ = .exc c→∀ x s',XP c s x s'→Er x s'):wpAny (model prog w) A (eval ex env) Q Er s:=by
 refine aQ nb fun n1 n2=>?_
 refine S ok X n1 (fun r hr v s' E=>?_) hE
 cases ht:ao r.1 with
 | bad=>exact absurd ht (n2 r hr)
 | exc c=>exact absurd ht ml
 | ok t=>
    refine ae (vQ E ht) fun FX kp=>?_
    (clear E; subst FX)
    exact hQ t (by rw [hr]; exact ht) s' kp
theorem kq {M:Model}{A:Around}{pos:Pos}{op:BoolOp}{x:Sem Value}{Q:Value→Shared→Prop}{E:Value→Shared→Prop}{s:Shared} (h:wpAny M A x Q E s):wpAny M A (boolOp pos op [x]) Q E s:=h
theorem rf {M:Model}{A:Around}{pos:Pos}{x y:Sem Value}{r:List (Sem Value)}{Q:Value→Shared→Prop}{E:Value→Shared→Prop}{s:Shared}
    (h:wpAny M A x (fun v s₁=>wpAny M A (truthy v) (fun t s₂=>if t then wpAny M A (boolOp pos .And (y :: r)) Q E s₂ else Q v s₂) E s₁) E s):wpAny M A (boolOp pos .And (x :: y :: r)) Q E s:=by
 rw [boolOp]
 ·  refine wpAny_bind (wpAny_mono h (fun v s₁ h₁=>wpAny_bind (wpAny_standAt (wpAny_bind (wpAny_holding (wpAny_mono h₁ (fun t s₂ h₂=>?_) fun uu uu e=>e))))) fun uu uu e=>e)
    cases t with
    | false=>exact wpAny_pure h₂
    | true=>exact h₂
 ·  simp
theorem te {M:Model}{A:Around}{pos:Pos}{x y:Sem Value}{r:List (Sem Value)}{Q:Value→Shared→Prop}{E:Value→Shared→Prop}{s:Shared}
    (h:wpAny M A x (fun v s₁=>wpAny M A (truthy v) (fun t s₂=>if t then Q v s₂ else wpAny M A (boolOp pos .Or (y :: r)) Q E s₂) E s₁) E s):wpAny M A (boolOp pos .Or (x :: y :: r)) Q E s:=by
 rw [boolOp]
 ·  refine wpAny_bind (wpAny_mono h (fun v s₁ h₁=>wpAny_bind (wpAny_standAt (wpAny_bind (wpAny_holding (wpAny_mono h₁ (fun t s₂ h₂=>?_) fun uu uu e=>e))))) fun uu uu e=>e)
    cases t with
    | false=>exact h₂
    | true=>exact wpAny_pure h₂
 ·  simp
theorem okA'_inv {ns:List (Str × NameKind)}{b:E}{vs:List Expr} (h:okA' ns b vs=true):(∃ u,vs=[u]∧okE ns b u=true)∨okA ns b vs=true:=by
 unfold okA' at h
 cases e:bK vs with
 | some u=>rw [e] at h; exact .inl (ah u (aW e) h)
 | none=>rw [e] at h; exact .inr h
theorem okA'_ne {ns:List (Str × NameKind)}{b:E}{vs:List Expr} (h:okA' ns b vs=true):∃ y r,vs=y :: r:=by
 cases vs with
 | nil=>cases b <;> exact Bool.noConfusion (show false=true from h)
 | cons y r=>exact (bE y r rfl)
theorem okO'_inv {ns:List (Str × NameKind)}{b:E}{vs:List Expr} (h:okO' ns b vs=true):(∃ u,vs=[u]∧okE ns b u=true)∨okO ns b vs=true:=by
 unfold okO' at h
 cases e:bK vs with
 | some u=>rw [e] at h; exact .inl (ah u (aW e) h)
 | none=>rw [e] at h; exact .inr h
theorem okO'_ne {ns:List (Str × NameKind)}{b:E}{vs:List Expr} (h:okO' ns b vs=true):∃ y r,vs=y :: r:=by
 cases vs with
 | nil=>cases b <;> exact Bool.noConfusion (show false=true from h)
 | cons y r=>exact (bE y r rfl)
theorem lR (a b:E) (σ:St):((ev C (.and a b) σ).bind fun r=>ao r.1)=((ev C a σ).bind fun r=>ao r.1).bind fun t=>if t then (ev C b σ).bind fun r=>ao r.1 else .ok false:=by
 simp only [gy]
 cases ev C a σ with
 | ok r=>
    simp only [Out.ok_bind]
    cases ao r.1 with
    | ok t=>
      cases t with
      | false=>rfl
      | true=>
        simp only [Out.ok_bind,if_true]
        cases ev C b σ with
        | ok q=>simp only [Out.ok_bind]; cases ao q.1 <;> rfl
        | exc c=>rfl
        | bad=>rfl
    | exc c=>rfl
    | bad=>rfl
 | exc c=>rfl
 | bad=>rfl
theorem nS (a b:E) (σ:St):((ev C (.or a b) σ).bind fun r=>ao r.1)=((ev C a σ).bind fun r=>ao r.1).bind fun t=>if t then .ok true else (ev C b σ).bind fun r=>ao r.1:=by
 simp only [iy]
 cases ev C a σ with
 | ok r=>
    simp only [Out.ok_bind]
    cases ao r.1 with
    | ok t=>
      cases t with
      | true=>rfl
      | false=>
        simp only [Out.ok_bind,Bool.false_eq_true,if_false]
        cases ev C b σ with
        | ok q=>simp only [Out.ok_bind]; cases ao q.1 <;> rfl
        | exc c=>rfl
        | bad=>rfl
    | exc c=>rfl
    | bad=>rfl
 | exc c=>rfl
 | bad=>rfl
theorem pB {a b:E}{σ:St}{r:V × Mode} (h:ev C (.and a b) σ = .ok r):∃ t,r=sB t:=by
 simp only [gy] at h
 refine Out.bind_k h fun x _ h=>?_
 refine Out.bind_k h fun t _ h=>?_
 cases t with
 | false=>exact ⟨false,by simpa using h.symm⟩
 | true=>
    simp only [if_true] at h
    refine Out.bind_k h fun y _ h=>?_
    refine Out.bind_k h fun u _ h=>?_
    (have oc:=Out.ok.inj h; clear h; subst oc); exact ⟨u,rfl⟩
theorem r5 {a b:E}{σ:St}{r:V × Mode} (h:ev C (.or a b) σ = .ok r):∃ t,r=sB t:=by
 simp only [iy] at h
 refine Out.bind_k h fun x _ h=>?_
 refine Out.bind_k h fun t _ h=>?_
 cases t with
 | true=>exact ⟨true,by simpa using h.symm⟩
 | false=>
    simp only [Bool.false_eq_true,if_false] at h
    refine Out.bind_k h fun y _ h=>?_
    refine Out.bind_k h fun u _ h=>?_
    (have oc:=Out.ok.inj h; clear h; subst oc); exact ⟨u,rfl⟩
theorem cV {o:Out (V × Mode)}{c:String} (h:(o.bind fun r=>ao r.1) = .exc c):o = .exc c:=by
 rcases bG h with h | ⟨_,_,h⟩
 ·  exact h
 ·  exact absurd h ml
section
variable (hXP:∀ c s s₁ x s',Kp s s₁→XP c s₁ x s'→XP c s x s')
include hXP
theorem zI {a b:E} (Sa:SimE fns k C XP a) (Ab:SimA fns k C XP b) {v:Expr}{vs:List Expr}{pos:Pos}{A:Around}{env:Env}{σ:St}{P:Addr→Prop}{s:Shared}{Q:Value→Shared→Prop}{Er:Value→Shared→Prop}
    (oa:okE env.scope.names a v=true) (ob:okA' env.scope.names b vs=true) (X:Cx fns k A P s.heap env σ) (nb:((ev C (.and a b) σ).bind fun r=>ao r.1)≠.bad)
    (hQ:∀ t,((ev C (.and a b) σ).bind fun r=>ao r.1) = .ok t→∀ s',Kp s s'→Q (.bool t) s') (hE:∀ c,ev C (.and a b) σ = .exc c→∀ x s',XP c s x s'→Er x s') :
    wpAny (model prog w) A (boolOp pos .And (evalEach (v :: vs) env)) Q Er s:=by
 refine bi (okA'_ne ob) fun y r FY=>?_
 subst FY
 have hE':∀ c,((ev C (.and a b) σ).bind fun r=>ao r.1) = .exc c→∀ x s',XP c s x s'→Er x s':=fun c h=>hE c (cV h)
 rw [lR] at nb hQ hE'
 refine aQ nb fun n1 n2=>?_
 refine rf (qT Sa oa X n1 (fun t ht s₁ k₁=>wpAny_truthy_bool ?_) fun c hc=>hE' c (by rw [hc]; rfl))
 cases t with
 | false=>exact hQ false (by rw [ht]; rfl) s₁ k₁
 | true=>
    have n3:=n2 true ht
    simp only [if_true] at n3 ⊢
    refine Ab ob (X.k k₁.k) n3 (fun t ht' s₂ k₂=>hQ t (by rw [ht]; simpa using ht') s₂ (k₁.trans k₂)) fun c hc x s' hx=>hE' c (by rw [ht]; simp [hc]) x s' (hXP c s s₁ x s' k₁ hx)
theorem orL {a b:E} (Sa:SimE fns k C XP a) (Ab:SimO fns k C XP b) {v:Expr}{vs:List Expr}{pos:Pos}{A:Around}{env:Env}{σ:St}{P:Addr→Prop}{s:Shared}{Q:Value→Shared→Prop}{Er:Value→Shared→Prop}
    (oa:okE env.scope.names a v=true) (ob:okO' env.scope.names b vs=true) (X:Cx fns k A P s.heap env σ) (nb:((ev C (.or a b) σ).bind fun r=>ao r.1)≠.bad)
    (hQ:∀ t,((ev C (.or a b) σ).bind fun r=>ao r.1) = .ok t→∀ s',Kp s s'→Q (.bool t) s') (hE:∀ c,ev C (.or a b) σ = .exc c→∀ x s',XP c s x s'→Er x s') :
    wpAny (model prog w) A (boolOp pos .Or (evalEach (v :: vs) env)) Q Er s:=by
 refine bi (okO'_ne ob) fun y r FZ=>?_
 subst FZ
 have hE':∀ c,((ev C (.or a b) σ).bind fun r=>ao r.1) = .exc c→∀ x s',XP c s x s'→Er x s':=fun c h=>hE c (cV h)
 rw [nS] at nb hQ hE'
 refine aQ nb fun n1 n2=>?_
 refine te (qT Sa oa X n1 (fun t ht s₁ k₁=>wpAny_truthy_bool ?_) fun c hc=>hE' c (by rw [hc]; rfl))
 cases t with
 | true=>exact hQ true (by rw [ht]; rfl) s₁ k₁
 | false=>
    have n3:=n2 false ht
    simp only [Bool.false_eq_true,if_false] at n3 ⊢
    refine Ab ob (X.k k₁.k) n3 (fun t ht' s₂ k₂=>hQ t (by rw [ht]; simpa using ht') s₂ (k₁.trans k₂)) fun c hc x s' hx=>hE' c (by rw [ht]; simp [hc]) x s' (hXP c s s₁ x s' k₁ hx)
theorem wL {a b:E} (Sa:SimT fns k C XP a) (Ab:SimTA fns k C XP b) {v:Expr}{vs:List Expr}{A:Around}{env:Env}{σ:St}{P:Addr→Prop}{s:Shared}{Q:Bool→Shared→Prop}{Er:Value→Shared→Prop}
    (oa:okE env.scope.names a v=true) (ob:okA' env.scope.names b vs=true) (X:Cx fns k A P s.heap env σ) (nb:((ev C (.and a b) σ).bind fun r=>ao r.1)≠.bad)
    (hQ:∀ t,((ev C (.and a b) σ).bind fun r=>ao r.1) = .ok t→∀ s',Kp s s'→Q t s') (hE:∀ c,ev C (.and a b) σ = .exc c→∀ x s',XP c s x s'→Er x s') :
    wpAny (model prog w) A (allTrue .And (v :: vs) env) Q Er s:=by
 have hE':∀ c,((ev C (.and a b) σ).bind fun r=>ao r.1) = .exc c→∀ x s',XP c s x s'→Er x s':=fun c h=>hE c (cV h)
 rw [lR] at nb hQ hE'
 refine aQ nb fun n1 n2=>?_
 refine wpAny_allTrue_And_cons (Sa oa X n1 (fun t ht s₁ k₁=>?_) fun c hc=>hE' c (by rw [hc]; rfl))
 cases t with
 | false=>exact hQ false (by rw [ht]; rfl) s₁ k₁
 | true=>
    have n3:=n2 true ht
    simp only [if_true] at n3 ⊢
    refine Ab ob (X.k k₁.k) n3 (fun t ht' s₂ k₂=>hQ t (by rw [ht]; simpa using ht') s₂ (k₁.trans k₂)) fun c hc x s' hx=>hE' c (by rw [ht]; simp [hc]) x s' (hXP c s s₁ x s' k₁ hx)
theorem yW {a b:E} (Sa:SimT fns k C XP a) (Ab:SimTO fns k C XP b) {v:Expr}{vs:List Expr}{A:Around}{env:Env}{σ:St}{P:Addr→Prop}{s:Shared}{Q:Bool→Shared→Prop}{Er:Value→Shared→Prop}
    (oa:okE env.scope.names a v=true) (ob:okO' env.scope.names b vs=true) (X:Cx fns k A P s.heap env σ) (nb:((ev C (.or a b) σ).bind fun r=>ao r.1)≠.bad)
    (hQ:∀ t,((ev C (.or a b) σ).bind fun r=>ao r.1) = .ok t→∀ s',Kp s s'→Q t s') (hE:∀ c,ev C (.or a b) σ = .exc c→∀ x s',XP c s x s'→Er x s') :
    wpAny (model prog w) A (allTrue .Or (v :: vs) env) Q Er s:=by
 have hE':∀ c,((ev C (.or a b) σ).bind fun r=>ao r.1) = .exc c→∀ x s',XP c s x s'→Er x s':=fun c h=>hE c (cV h)
 rw [nS] at nb hQ hE'
 refine aQ nb fun n1 n2=>?_
 refine wpAny_allTrue_Or_cons (Sa oa X n1 (fun t ht s₁ k₁=>?_) fun c hc=>hE' c (by rw [hc]; rfl))
 cases t with
 | true=>exact hQ true (by rw [ht]; rfl) s₁ k₁
 | false=>
    have n3:=n2 false ht
    simp only [Bool.false_eq_true,if_false] at n3 ⊢
    refine Ab ob (X.k k₁.k) n3 (fun t ht' s₂ k₂=>hQ t (by rw [ht]; simpa using ht') s₂ (k₁.trans k₂)) fun c hc x s' hx=>hE' c (by rw [ht]; simp [hc]) x s' (hXP c s s₁ x s' k₁ hx)
theorem pT {ns:List (Str × NameKind)}{a b:E}{ex:Expr} (h:okE ns (.and a b) ex=true):∃ v vs p,ex = .BoolOp .And (v :: vs) p∧okE ns a v=true∧okA' ns b vs=true:=by
 replace h:=CR h
 revert h; refine fun F8=>Or.elim F8 (fun F3=>?_) (fun h=>?_)
 ·  clear F8
    refine bh (F3) fun GD GL Hg Hn h=>?_
    clear F3
    subst Hn
    simp only [Bool.and_eq_true] at h
    exact (ce _ _ _ rfl h.1 h.2)
 ·  cases h
theorem tE {ns:List (Str × NameKind)}{a b:E}{ex:Expr} (h:okE ns (.or a b) ex=true):∃ v vs p,ex = .BoolOp .Or (v :: vs) p∧okE ns a v=true∧okO' ns b vs=true:=by
 replace h:=EU h
 revert h; refine fun Gb=>Or.elim Gb (fun F7=>?_) (fun h=>?_)
 ·  clear Gb
    refine bh (F7) fun Hk GV Hh Hb h=>?_
    clear F7
    subst Hb
    simp only [Bool.and_eq_true] at h
    exact (ce _ _ _ rfl h.1 h.2)
 ·  cases h
theorem yq {a b:E} (Sa:SimE fns k C XP a) (Ab:SimA fns k C XP b):SimE fns k C XP (.and a b):=by
 intro ex A env σ P s Q Er ok X nb hQ hE
 refine aL (pT hXP ok) fun v vs p F0 oa ob=>?_
 (clear ok; subst F0)
 rw [arm_eval_BoolOp]
 refine zI hXP Sa Ab oa ob X (fun h=>?_) (fun t ht s' kp=>?_) hE
 ·  cases e:ev C (.and a b) σ with
    | ok r=>rw [e] at h; obtain ⟨t,rfl⟩:=pB e; cases h
    | exc c=>rw [e] at h; cases h
    | bad=>exact nb e
 ·  refine Out.bind_k ht fun r hr ht=>?_
    refine aj (pB hr) fun u F1=>?_
    subst F1
    (have oc:=Out.ok.inj ht; clear ht; subst oc)
    exact hQ _ hr _ s' (.bool kp)
theorem y4 {a b:E} (Sa:SimE fns k C XP a) (Ab:SimO fns k C XP b):SimE fns k C XP (.or a b):=by
 intro ex A env σ P s Q Er ok X nb hQ hE
 refine aL (tE hXP ok) fun v vs p F2 oa ob=>?_
 (clear ok; subst F2)
 rw [arm_eval_BoolOp]
 refine orL hXP Sa Ab oa ob X (fun h=>?_) (fun t ht s' kp=>?_) hE
 ·  cases e:ev C (.or a b) σ with
    | ok r=>rw [e] at h; obtain ⟨t,rfl⟩:=r5 e; cases h
    | exc c=>rw [e] at h; cases h
    | bad=>exact nb e
 ·  refine Out.bind_k ht fun r hr ht=>?_
    refine aj (r5 hr) fun u F4=>?_
    subst F4
    (have oc:=Out.ok.inj ht; clear ht; subst oc)
    exact hQ _ hr _ s' (.bool kp)
theorem uH {a b:E} (Sa:SimT fns k C XP a) (Ab:SimTA fns k C XP b):SimT fns k C XP (.and a b):=by
 intro ex A env σ P s Q Er ok X nb hQ hE
 refine aL (pT hXP ok) fun v vs p F5 oa ob=>?_
 (clear ok; subst F5)
 exact wpAny_isTrue_BoolOp (wL hXP Sa Ab oa ob X nb hQ hE)
theorem yb {a b:E} (Sa:SimT fns k C XP a) (Ab:SimTO fns k C XP b):SimT fns k C XP (.or a b):=by
 intro ex A env σ P s Q Er ok X nb hQ hE
 refine aL (tE hXP ok) fun v vs p F6 oa ob=>?_
 (clear ok; subst F6)
 exact wpAny_isTrue_BoolOp (yW hXP Sa Ab oa ob X nb hQ hE)
end
theorem jM {e:E} (S:SimE fns k C XP e) (h:∀ {vs:List Expr}{pos:Pos}{A:Around}{env:Env}{σ:St}{P:Addr→Prop}{s:Shared}{Q:Value→Shared→Prop}{Er:Value→Shared→Prop},
    okA env.scope.names e vs=true→Cx fns k A P s.heap env σ→((ev C e σ).bind fun r=>ao r.1)≠.bad →
    (∀ b,((ev C e σ).bind fun r=>ao r.1) = .ok b→∀ s',Kp s s'→Q (.bool b) s')→(∀ c,ev C e σ = .exc c→∀ x s',XP c s x s'→Er x s')→wpAny (model prog w) A (boolOp pos .And (evalEach vs env)) Q Er s):SimA fns k C XP e:=by
 intro vs pos A env σ P s Q Er ok X nb hQ hE
 replace ok:=okA'_inv ok
 revert ok; refine fun Gf=>Or.elim Gf (fun Gc=>?_) (fun ok=>?_)
 ·  clear Gf
    refine ag (Gc) fun GZ HJ ok=>?_
    clear Gc
    subst HJ
    exact kq (qT S ok X nb hQ hE)
 ·  exact h ok X nb hQ hE
theorem jD {e:E} (S:SimE fns k C XP e) (h:∀ {vs:List Expr}{pos:Pos}{A:Around}{env:Env}{σ:St}{P:Addr→Prop}{s:Shared}{Q:Value→Shared→Prop}{Er:Value→Shared→Prop},
    okO env.scope.names e vs=true→Cx fns k A P s.heap env σ→((ev C e σ).bind fun r=>ao r.1)≠.bad →
    (∀ b,((ev C e σ).bind fun r=>ao r.1) = .ok b→∀ s',Kp s s'→Q (.bool b) s')→(∀ c,ev C e σ = .exc c→∀ x s',XP c s x s'→Er x s')→wpAny (model prog w) A (boolOp pos .Or (evalEach vs env)) Q Er s):SimO fns k C XP e:=by
 intro vs pos A env σ P s Q Er ok X nb hQ hE
 replace ok:=okO'_inv ok
 revert ok; refine fun Gp=>Or.elim Gp (fun Ge=>?_) (fun ok=>?_)
 ·  clear Gp
    refine ag (Ge) fun Hz Hi ok=>?_
    clear Ge
    subst Hi
    exact kq (qT S ok X nb hQ hE)
 ·  exact h ok X nb hQ hE
theorem iD {e:E} (S:SimT fns k C XP e) (h:∀ {vs:List Expr}{A:Around}{env:Env}{σ:St}{P:Addr→Prop}{s:Shared}{Q:Bool→Shared→Prop}{Er:Value→Shared→Prop},
    okA env.scope.names e vs=true→Cx fns k A P s.heap env σ→((ev C e σ).bind fun r=>ao r.1)≠.bad →
    (∀ b,((ev C e σ).bind fun r=>ao r.1) = .ok b→∀ s',Kp s s'→Q b s')→(∀ c,ev C e σ = .exc c→∀ x s',XP c s x s'→Er x s')→wpAny (model prog w) A (allTrue .And vs env) Q Er s):SimTA fns k C XP e:=by
 intro vs A env σ P s Q Er ok X nb hQ hE
 replace ok:=okA'_inv ok
 revert ok; refine fun Gm=>Or.elim Gm (fun Gg=>?_) (fun ok=>?_)
 ·  clear Gm
    refine ag (Gg) fun Ho Ht ok=>?_
    clear Gg
    subst Ht
    refine wpAny_allTrue_And_cons (S ok X nb (fun t ht s' kp=>?_) hE)
    cases t with
    | false=>exact hQ _ ht s' kp
    | true=>exact wpAny_allTrue_And_nil (hQ _ ht s' kp)
 ·  exact h ok X nb hQ hE
theorem iF {e:E} (S:SimT fns k C XP e) (h:∀ {vs:List Expr}{A:Around}{env:Env}{σ:St}{P:Addr→Prop}{s:Shared}{Q:Bool→Shared→Prop}{Er:Value→Shared→Prop},
    okO env.scope.names e vs=true→Cx fns k A P s.heap env σ→((ev C e σ).bind fun r=>ao r.1)≠.bad →
    (∀ b,((ev C e σ).bind fun r=>ao r.1) = .ok b→∀ s',Kp s s'→Q b s')→(∀ c,ev C e σ = .exc c→∀ x s',XP c s x s'→Er x s')→wpAny (model prog w) A (allTrue .Or vs env) Q Er s):SimTO fns k C XP e:=by
 intro vs A env σ P s Q Er ok X nb hQ hE
 replace ok:=okO'_inv ok
 revert ok; refine fun GO=>Or.elim GO (fun Gz=>?_) (fun ok=>?_)
 ·  clear GO
    refine ag (Gz) fun HL Hf ok=>?_
    clear Gz
    subst Hf
    refine wpAny_allTrue_Or_cons (S ok X nb (fun t ht s' kp=>?_) hE)
    cases t with
    | false=>exact wpAny_allTrue_Or_nil (hQ _ ht s' kp)
    | true=>exact hQ _ ht s' kp
 ·  exact h ok X nb hQ hE
end
end Mine
namespace Mine
open PySem PyProof.Rows
section
variable {fns:Fns}{k:Nat}{C:Calls}{XP:String→Shared→Value→Shared→Prop}
theorem EP.aList {P:Addr→Prop}{s s':Shared}{a:Addr}{n:Nat}{xs:List PyData}{vs:List Value}{as:List Addr} (kp:Kp s s') (hn:s.heap.get? a=none)
    (ha:s'.heap.get? a=some ⟨.type "list", none,.seq vs.toArray n,#[]⟩) (r:RA s'.heap vs xs as) (hl:xs.length≤2 ^ 22) (hz:∀ x∈xs,sz x=true) (hP:∀ b∈as,P b∧b≠a) :
    EP P s (.d (.list xs),fresh xs) (.ref a) s':=by
 refine ⟨kp,a :: as,⟨.list ha r,sz_list.mpr ⟨hl,hz⟩⟩,?_,?_,?_⟩
 ·  intro b h
    rcases List.mem_cons.mp h with rfl | h
    · exact .inr hn
    · exact .inl (hP b h).1
 ·  intro _
    exact (aS _ _ rfl hn (fun h=>(hP a h).2 rfl))
 ·  intro hm
    have hall:xs.all sx=true:=by
      unfold fresh at hm; dsimp only at hm; split at hm
      · assumption
      · cases hm
    rw [r.sx_nil hall]
    refine ⟨fun b h=>?_,by simp⟩
    rcases List.mem_cons.mp h with rfl | h
    · exact hn
    · cases h
theorem R.isList {h:Heap}{v:Value}{xs:List PyData}{as:List Addr} (r:R h v (.list xs) as):∃ a vs n bs,v = .ref a∧h.get? a=some ⟨.type "list", Option.none,.seq vs.toArray n,#[]⟩∧RA h vs xs bs∧as=a :: bs:=by
 cases r with
 | list e r=>exact (gN _ _ _ _ rfl e r rfl)
theorem R.isList_k {h:Heap}{v:Value}{xs:List PyData}{as:List Addr}{G:Prop} (r:R h v (.list xs) as) (k:∀ a vs n bs,v = .ref a→h.get? a=some ⟨.type "list", Option.none,.seq vs.toArray n,#[]⟩→RA h vs xs bs→as=a :: bs→G):G:=fI (R.isList r) k
theorem R.isTup {h:Heap}{v:Value}{xs:List PyData}{as:List Addr} (r:R h v (.tuple xs) as):∃ a vs n,v = .ref a∧h.get? a=some ⟨.type "tuple", Option.none,.seq vs.toArray n,#[]⟩∧RA h vs xs as:=by
 cases r with
 | tuple e r=>exact (ce _ _ _ rfl e r)
theorem isL {h:Heap}{a:Addr}{vs:List Value}{n:Nat} (e:h.get? a=some ⟨.type "list", none,.seq vs.toArray n,#[]⟩):h.IsList a vs.toArray:=(ax _ e rfl (bJ n rfl))
theorem tG {ns:List (Str × NameKind)}{e:E}{a b c:Option Expr}{p:Pos}:okE ns e (.Slice a b c p)=false:=by cases e <;> rfl
theorem o4 {ns:List (Str × NameKind)}{e:E}{a:Expr}{p:Pos}:okE ns e (.Starred a p)=false:=by cases e <;> rfl
theorem eJ {ns:List (Str × NameKind)}{e:E}{x:Expr} (h:okE ns e x=true) (o i:Value):subscripted x false o i=operate [o,i] (getItem o i):=by
 cases x <;> first | rfl | (rw [tG] at h; cases h)
theorem aK {ns:List (Str × NameKind)}{e:E}{x:Expr} (h:okE ns e x=true) (rest:List Expr) (env:Env):starEach (x :: rest) env=(false,eval x env) :: starEach rest env:=by
 cases x <;> first | rfl | (rw [o4] at h; cases h)
section
variable {va vb:Value}{as bs:List Addr}{A:Around}{P:Addr→Prop}{s:Shared}{Q:Value→Shared→Prop}{Er:Value→Shared→Prop}
theorem Dc {y:PyData}{v:Value} (r:R s.heap v y bs) (z:sz y=true) (h:∀ b∈bs,P b):EP P s (mk (.d y)) v s:=qR (x:=.d y) ⟨r,z⟩ h
def ItemV (h:Heap) (v:Value) (i:Int) (u:Value):Prop:=∃ (a:Addr) (T:String) (vs:List Value) (n k:Nat),v = .ref a∧h.get? a=some ⟨.type T,none,.seq vs.toArray n,#[]⟩∧a7 i vs.length=some k∧vs[k]? = some u
theorem fk {i:Int}{n k:Nat} (h:a7 i n=some k):(0≤i∧i<n∧k=i.toNat)∨(i<0∧-(n:Int)≤i∧k=(i + n).toNat):=by
 unfold a7 at h
 by_cases h0:0≤i
 ·  rw [if_pos h0] at h
    by_cases h1:i<n
    · rw [if_pos h1] at h; exact .inl ⟨h0,h1,(Option.some.inj h).symm⟩
    · rw [if_neg h1] at h; exact nN h
 ·  rw [if_neg h0] at h
    by_cases h1:-(n:Int)≤i
    · rw [if_pos h1] at h; exact .inr ⟨by exact Bu h0,h1,(Option.some.inj h).symm⟩
    · rw [if_neg h1] at h; exact nN h
theorem uS {value slice:Expr}{a:Addr}{vs:List Value}{n k:Nat}{i:Int}{t:Tok}{v:Value} (hs:∀ o i,subscripted slice false o i=operate [o,i] (getItem o i)) (ea:s.heap.get? a=some ⟨.type "list", none,.seq vs.toArray n,#[]⟩) (hl:vs.length≤2 ^ 22)
    (hk:a7 i vs.length=some k) (hv:vs[k]? = some v) (hQ:Q v s):wpAny (model prog w) A (subscriptTail value slice (.ref a) (.int i t)) Q Er s:=by
 rcases fk hk with ⟨h0,h1,rfl⟩ | ⟨h0,h1,rfl⟩
 ·  exact tail_any (isL ea).typeIs slot_list_getitem.lookup (wpAny_getItem_list (isL ea) h0 (by exact Ds hl h1) (by simpa using hv) hQ) (hs _ _)
 ·  refine tail_any (isL ea).typeIs slot_list_getitem.lookup (wpAny_getItem_list_neg (isL ea) h0 (by rw [List.size_toArray]; exact h1) (by exact Dl hl h1) ?_ hQ) (hs _ _)
    rw [List.size_toArray]
    simpa using hv
theorem xQ {value slice:Expr}{a:Addr}{vs:List Value}{n k:Nat}{i:Int}{t:Tok}{v:Value} (hs:∀ o i,subscripted slice false o i=operate [o,i] (getItem o i)) (ea:s.heap.get? a=some ⟨.type "tuple", none,.seq vs.toArray n,#[]⟩) (hl:vs.length≤2 ^ 22)
    (hk:a7 i vs.length=some k) (hv:vs[k]? = some v) (hQ:Q v s):wpAny (model prog w) A (subscriptTail value slice (.ref a) (.int i t)) Q Er s:=by
 have hj:seqIndex? i (vs.toArray).size=some k:=by
    rw [List.size_toArray]
    rcases fk hk with ⟨h0,h1,rfl⟩ | ⟨h0,h1,rfl⟩
    · have h3:¬ i<0:=by exact AC h0
      simp [seqIndex?,h3,h0,h1]
    · exact seqIndex_neg h0 h1
 have hb:-(2 ^ 22)≤i∧i<2 ^ 22:=by rcases fk hk with ⟨h0,h1,_⟩ | ⟨h0,h1,_⟩ <;> lia
 exact tail_any (ah _ ea rfl) slot_tuple_getitem.lookup (PySem.P.getItem_tuple ea (by exact BL hb) (by exact Dm hb) hj (by simpa using hv) hQ) (hs _ _)
theorem oV {value slice:Expr}{x y:PyData}{i:Int}{t:Tok} (hs:∀ o i,subscripted slice false o i=operate [o,i] (getItem o i)) (he:jJ x i=some y) (ra:R s.heap va x as) (za:sz x=true)
    (hQ:∀ v ds,ItemV s.heap va i v→R s.heap v y ds→sz y=true→(∀ b∈ds,b∈as)→Q v s):wpAny (model prog w) A (subscriptTail value slice va (.int i t)) Q Er s:=by
 unfold jJ at he
 cases hx:asL x with
 | some xs=>
    rw [hx] at he
    cases bt hx
    refine bg he fun k hk hy=>?_
    refine ra.isList_k fun a vs n cs FW ea ra' FX=>?_
    (clear ra; subst FW)
    subst FX
    refine az (ra'.get hy) fun v ds hv rv hd=>?_
    have hz:=sz_list.mp za
    have hl:=ra'.length
    rw [← hl] at hk hz
    exact uS hs ea hz.1 hk hv (hQ v ds (qL a _ vs n k rfl ea hk hv) rv (hz.2 y (List.mem_of_getElem? hy)) fun b hb=>.tail _ (hd b hb))
 | none=>
    rw [hx] at he
    cases ht:asT x with
    | none=>rw [ht] at he; exact nN he
    | some xs=>
      rw [ht] at he
      cases gn ht
      refine bg he fun k hk hy=>?_
      refine aL (ra.isTup) fun a vs n FY ea ra'=>?_
      (clear ra; subst FY)
      refine az (ra'.get hy) fun v ds hv rv hd=>?_
      have hz:=sz_tuple.mp za
      have hl:=ra'.length
      rw [← hl] at hk hz
      exact xQ hs ea hz.1 hk hv (hQ v ds (qL a _ vs n k rfl ea hk hv) rv (hz.2 y (List.mem_of_getElem? hy)) hd)
theorem wc {value slice:Expr}{x i:PyData}{r:V × Mode} (hs:∀ o i,subscripted slice false o i=operate [o,i] (getItem o i)) (he:eG x i = .ok r) (ra:R s.heap va x as) (za:sz x=true) (rb:R s.heap vb i bs) (ha:∀ a∈as,P a)
    (hQ:∀ v s',EP P s r v s'→Q v s'):wpAny (model prog w) A (subscriptTail value slice va vb) Q Er s:=by
 refine aV he fun k hk he=>?_
 refine aV he fun y hy he=>?_
 (have oc:=Out.ok.inj he; clear he; subst oc)
 cases cu hk
 refine rb.isInt_k fun uu FZ F0=>?_
 (clear rb; subst FZ)
 subst F0
 exact oV hs hy ra za fun v ds _ rv z hd=>hQ v s (Dc rv z fun b hb=>ha b (hd b hb))
end
theorem uB {x y:PyData}{c:String}:eG x y≠.exc c:=ye c
theorem pz (hXP:∀ c s s₁ x s',Kp s s₁→XP c s₁ x s'→XP c s x s') {a b:E} (Sa:SimE fns k C XP a) (Sb:SimE fns k C XP b):SimE fns k C XP (.sub a b):=by
 intro ex A env σ P s Q Er ok X nb hQ hE
 replace ok:=CT ok
 revert ok; refine fun F8=>Or.elim F8 (fun F3=>?_) (fun ok=>?_)
 ·  clear F8
    refine bh (F3) fun GD GL Hg Hn ok=>?_
    clear F3
    subst Hn
    simp only [Bool.and_eq_true] at ok
    simp only [je] at nb hQ hE
    refine Subscript_ (mE hXP Sa Sb (f:=fun x y=>match x,y with | .d x,.d y=>eG x y | _,_=>.bad) ok.1 ok.2 X nb hE (fun x y c=>?_) fun x y r hr hf va vb s₂ as bs kp ra rb ha hb=>?_)
    · split
      · exact uB
      · simp
    · split at hf
      · exact wc (eJ ok.2) hf ra.1 ra.2 rb.1 ha fun v s' e=>hQ r hr v s' (.shift kp e)
      · exact nB hf
 ·  cases ok
section
variable {va vl vu vt:Value}{as bs:List Addr}{A:Around}{P:Addr→Prop}{s:Shared}{Q:Value→Shared→Prop}{Er:Value→Shared→Prop}
end
end
end Mine
namespace Mine
open PySem PyProof.Rows
section
variable (fns:Fns) (k:Nat) (C:Calls) (XP:String→Shared→Value→Shared→Prop)
noncomputable def fM (es:Es):Prop:=∀ {xs:List Expr}{pos:Pos}{A:Around}{env:Env}{σ:St}{P:Addr→Prop}{s:Shared}{Q:List Value→Shared→Prop}{Er:Value→Shared→Prop},
 dE env.scope.names es xs=true→Cx fns k A P s.heap env σ→evs C es σ≠.bad →
 (∀ l,evs C es σ = .ok l→∀ vs s',EPs P s l vs s'→Q vs s')→(∀ c,evs C es σ = .exc c→∀ x s',XP c s x s'→Er x s') →
 wpAny (model prog w) A (spliced (backTo pos (starEach xs env))) Q Er s
end
section
variable {fns:Fns}{k:Nat}{C:Calls}{XP:String→Shared→Value→Shared→Prop}
theorem lJ:fM fns k C XP .nil:=by
 intro xs pos A env σ P s Q Er ok X nb hQ hE
 replace ok:=rh ok
 revert ok; refine fun F8=>Or.elim F8 (fun F3=>?_) (fun ok=>?_)
 ·  clear F8
    refine ae (F3) fun IS ok=>?_
    clear F3
    subst IS
    exact wpAny_items_nil (hQ [] rfl [] s ⟨.refl s,[],.nil,fun uu h=>(nomatch h),fun uu=>⟨fun uu h=>(nomatch h),.nil⟩⟩)
 ·  cases ok
theorem RV.there {h:Heap}{v:Value}{x:V}{as:List Addr} (r:RV h v x as):∀ a∈as,∃ o,h.get? a=some o:=by
 intro a ha
 cases x with
 | d x=>obtain ⟨_,_,e⟩:=r.1.there a ha; exact ⟨_,e⟩
 | dic0=>obtain ⟨b,_,rfl,_,⟨o,_,_,e,_⟩,_⟩:=r; rw [List.mem_singleton.mp ha]; exact ⟨o,e⟩
 | dicI ks=>obtain ⟨b,_,rfl,_,⟨o,_,_,e,_⟩⟩:=r; rw [List.mem_singleton.mp ha]; exact ⟨o,e⟩
 | dicT ks=>obtain ⟨b,_,_,rfl,_,⟨o,_,_,e,_⟩,_⟩:=r; rw [List.mem_singleton.mp ha]; exact ⟨o,e⟩
 | rule c d n=>
    refine zJ (r) fun x D o vf bs t u mA h1 FW h3 h4 h5 h6 h7 FX h9=>?_
    try clear r
    subst FW
    refine bh (FX) fun oD es ep e hd=>?_
    try clear FX
    rcases List.mem_cons.mp ha with rfl | ha
    · exact ⟨o,h3⟩
    · rcases List.mem_cons.mp ha with rfl | ha
      · exact ⟨oD,e⟩
      · obtain ⟨_,_,e⟩:=h9.2.2.2.2.1.there a ha; exact ⟨_,e⟩
theorem RVs.length {h:Heap}{xs:List V}{vs:List Value}{as:List Addr} (r:RVs h xs vs as):vs.length=xs.length:=by
 induction r with
 | nil=>rfl
 | cons a q ih=>exact congrArg (· + 1) ih
theorem j8 (hXP:∀ c s s₁ x s',Kp s s₁→XP c s₁ x s'→XP c s x s') {e:E}{es:Es} (S:SimE fns k C XP e) (Ss:fM fns k C XP es):fM fns k C XP (.cons e es):=by
 intro xs pos A env σ P s Q Er ok X nb hQ hE
 replace ok:=oz ok
 revert ok; refine fun Gb=>Or.elim Gb (fun F7=>?_) (fun ok=>?_)
 ·  clear Gb
    refine au (F7) fun x xs Hn ok=>?_
    clear F7
    subst Hn
    simp only [Bool.and_eq_true] at ok
    simp only [bl] at nb hQ hE
    refine aQ nb fun n1 n2=>?_
    refine wpAny_items_cons (S ok.1 X n1 (fun r hr v s₁ Ea=>?_) fun c hc=>hE c (by rw [hc]; rfl)) (aK ok.1 xs env)
    refine aQ (n2 r hr) fun n3 _=>?_
    refine Ss ok.2 (X.k Ea.keeps.k) n3 (fun l hl vs s₂ Eb=>?_) fun c hc z s' hz=>hE c (by rw [hr,Out.ok_bind,hc]; rfl) z s' (hXP c s s₁ z s' Ea.keeps hz)
    obtain ⟨ka,as,ra,ha,_,hd⟩:=Ea
    obtain ⟨kb,bs,rb,hb,hd'⟩:=Eb
    refine hQ (r :: l) (by rw [hr,Out.ok_bind,hl]; rfl) (v :: vs) s₂ ⟨ka.trans kb,as ++ bs,.cons (ra.k kb.k) rb,fun a h=>(List.mem_append.mp h).elim (ha a) fun h=>(hb a h).imp id ka.none,fun hm=>?_⟩
    simp only [allDeep,List.all_cons,Bool.and_eq_true,decide_eq_true_eq] at hm
    have d1:=hd hm.1
    have d2:=hd' hm.2
    refine ⟨fun a h=>(List.mem_append.mp h).elim (d1.1 a) fun h=>ka.none (d2.1 a h),List.nodup_append.mpr ⟨d1.2,d2.2,fun a h1 b h2 e=>?_⟩⟩
    subst e
    refine aj (ra.there a h1) fun o ho=>?_
    rw [d2.1 a h2] at ho; exact nN ho
 ·  cases ok
theorem nY {h:Heap}:∀ {l:List (V × Mode)}{ds:List PyData}{vs:List Value}{as:List Addr},bH l=some ds→RVs h (l.map (·.1)) vs as→RA h vs ds as∧∀ x∈ds,sz x=true
 | [],ds,_,_,e,r=>by
    cases r; simp [bH] at e; subst e
    exact ⟨.nil,fun uu h=>nomatch h⟩
 | (.d x,m) :: l,ds,_,_,e,r=>by
    simp only [bH,Option.map_eq_some_iff] at e
    revert e; intro Gw
    refine ag (Gw) fun es e FY=>?_
    try clear Gw
    subst FY
    cases r with
    | cons r q=>
      refine ae (nY e q) fun a b=>?_
      exact ⟨.cons r.1 a,fun y hy=>(List.mem_cons.mp hy).elim (fun q=>q▸r.2) (b y)⟩
 | (.dic0,m) :: l,ds,_,_,e,r=>by simp [bH] at e
 | (.dicI _,m) :: l,ds,_,_,e,r=>by simp [bH] at e
 | (.dicT _,m) :: l,ds,_,_,e,r=>by simp [bH] at e
 | (.rule _ _ _,m) :: l,ds,_,_,e,r=>by simp [bH] at e
theorem fW:∀ {l:List (V × Mode)}{ds:List PyData},bH l=some ds→ds.length=l.length
 | [],ds,e=>by simp [bH] at e; subst e; rfl
 | (.d x,m) :: l,ds,e=>by
    simp only [bH,Option.map_eq_some_iff] at e
    revert e; intro GN
    refine ag (GN) fun es e FZ=>?_
    try clear GN
    subst FZ
    rw [List.length_cons,List.length_cons,fW e]
 | (.dic0,m) :: l,ds,e=>by simp [bH] at e
 | (.dicI _,m) :: l,ds,e=>by simp [bH] at e
 | (.dicT _,m) :: l,ds,e=>by simp [bH] at e
 | (.rule _ _ _,m) :: l,ds,e=>by simp [bH] at e
theorem gX:∀ {es:Es}{ns:List (Str × NameKind)}{xs:List Expr}{σ:St}{l:List (V × Mode)},dE ns es xs=true→evs C es σ = .ok l→l.length=xs.length
 | .nil,ns,xs,σ,l,ok,e=>by
    replace ok:=rh ok
    revert ok; refine fun Gf=>Or.elim Gf (fun Gc=>?_) (fun ok=>?_)
    · clear Gf
      refine ae (Gc) fun GJ ok=>?_
      clear Gc
      subst GJ
      simp only [br] at e; (have oc:=Out.ok.inj e; clear e; subst oc); rfl
    · cases ok
 | .cons a es,ns,xs,σ,l,ok,e=>by
    replace ok:=oz ok
    revert ok; refine fun Gp=>Or.elim Gp (fun Ge=>?_) (fun ok=>?_)
    · clear Gp
      refine au (Ge) fun GV Hh Hb ok=>?_
      clear Ge
      subst Hb
      simp only [Bool.and_eq_true] at ok
      simp only [bl] at e
      refine Out.bind_k e fun x _ e=>?_
      refine Out.bind_k e fun l' e' e=>?_
      (have oc:=Out.ok.inj e; clear e; subst oc)
      rw [List.length_cons,List.length_cons,gX ok.2 e']
    · cases ok
set_option tactic.hygienic true in
theorem oJ {es:Es} (Ss:fM fns k C XP es):SimE fns k C XP (.list es):=by
 intro ex A env σ P s Q Er ok X nb hQ hE
 replace ok:=zn ok
 revert ok; refine fun Gm=>Or.elim Gm (fun Gg=>?_) (fun ok=>?_)
 ·  clear Gm
    refine au (Gg) fun GZ G9 GY ok=>?_
    clear Gg
    subst GY
    simp only [Bool.and_eq_true,decide_eq_true_eq] at ok
    simp only [b7] at nb hQ hE
    refine aQ nb fun n1 n2=>?_
    refine wpAny_List (Ss ok.2 X n1 (fun l hl vs s₁ Ea=>?_) fun c hc=>hE c (by rw [hc]; rfl))
    have n3:=n2 l hl
    split at n3
    · rename_i ds hds
      obtain ⟨ka,as,ra,ha,hd⟩:=Ea
      refine ae (nY hds ra) fun r z=>?_
      have e1:=ra.length
      rw [List.length_map] at e1
      have e2:=gX ok.2 hl
      have e3:=fW hds
      refine ⟨by unfold sizeLine; exact xm ok e1 e2,hQ (.d (.list ds),if allDeep l then .deep else .top) (by rw [hl,Out.ok_bind,hds]) _ _ ⟨ka.trans (.push s₁ _ _),s₁.heap.objs.size :: as,⟨.list (Heap.get?_push_size _ rfl) (r.keep fun uu uu e=>Heap.get?_push_of_some _ e),sz_list.mpr ⟨by exact wE ok e2 e3,z⟩⟩,?_,?_,?_⟩⟩
      · intro a h
        rcases List.mem_cons.mp h with rfl | h
        · exact .inr (ka.none (be _))
        · exact ha a h
      · intro _
        exact (aS _ _ rfl (ka.none (be _)) (fun h=>bi (r.there _ h) fun uu uu e=>dZ e rfl))
      · intro hm
        have hall:allDeep l=true:=by
          dsimp only at hm
          split at hm
          · assumption
          · cases hm
        refine ⟨fun a h=>?_,List.nodup_cons.mpr ⟨fun h=>bi (r.there _ h) fun uu uu e=>dZ e rfl,(hd hall).2⟩⟩
        rcases List.mem_cons.mp h with rfl | h
        · exact ka.none (be _)
        · exact (hd hall).1 a h
    · exact absurd rfl n3
 ·  cases ok
set_option tactic.hygienic true in
theorem yn {es:Es} (Ss:fM fns k C XP es):SimE fns k C XP (.tup es):=by
 intro ex A env σ P s Q Er ok X nb hQ hE
 replace ok:=AV ok
 revert ok; refine fun GO=>Or.elim GO (fun Gz=>?_) (fun ok=>?_)
 ·  clear GO
    refine bh (Gz) fun Hp Ho HG HD ok=>?_
    clear Gz
    subst HD
    simp only [Bool.and_eq_true,decide_eq_true_eq] at ok
    simp only [jc] at nb hQ hE
    refine aQ nb fun n1 n2=>?_
    refine wpAny_Tuple (Ss ok.2 X n1 (fun l hl vs s₁ Ea=>?_) fun c hc=>hE c (by rw [hc]; rfl))
    have n3:=n2 l hl
    split at n3
    · rename_i ds hds
      obtain ⟨ka,as,ra,ha,hd⟩:=Ea
      refine ae (nY hds ra) fun r z=>?_
      have e1:=ra.length
      rw [List.length_map] at e1
      have e2:=gX ok.2 hl
      have e3:=fW hds
      refine ⟨by unfold sizeLine; exact xm ok e1 e2,hQ (.d (.tuple ds),if allDeep l then .deep else .sh) (by rw [hl,Out.ok_bind,hds]) _ _ ⟨ka.trans (.push s₁ _ _),as,⟨.tuple (Heap.get?_push_size _ rfl) (r.keep fun uu uu e=>Heap.get?_push_of_some _ e),sz_tuple.mpr ⟨by exact wE ok e2 e3,z⟩⟩,ha,?_,?_⟩⟩
      · intro hm
        dsimp only at hm
        split at hm <;> cases hm
      · intro hm
        have hall:allDeep l=true:=by
          dsimp only at hm
          split at hm
          · assumption
          · cases hm
        exact hd hall
    · exact absurd rfl n3
 ·  cases ok
theorem vB:SimE fns k C XP .edic:=by
 intro ex A env σ P s Q Er ok X nb hQ hE
 replace ok:=zC ok
 revert ok; refine fun HB=>Or.elim HB (fun Hs=>?_) (fun ok=>?_)
 ·  clear HB
    refine ag (Hs) fun Ib IQ ok=>?_
    clear Hs
    subst IQ
    have hlo:=modules_low X.ge.nolim
    refine wpAny_Dict_empty (hQ (.dic0,.deep) rfl _ _ ⟨.push s _ _,[s.heap.objs.size],(ij _ rfl rfl (beq_eq_false_iff_ne.mpr (Nat.ne_of_gt hlo)) (Heap.DictOf.new _) ?_),fun a h=>.inr ?_,fun h=>(by cases h),fun uu=>⟨fun a h=>?_,by simp⟩⟩)
    · exact (eO _ (#[]) 0 (Heap.get?_push_size _ rfl) ⟨rfl,rfl,rfl⟩ rfl rfl (fun uu h=>(nomatch h)) .nil)
    · rw [List.mem_singleton.mp h]; exact be _
    · rw [List.mem_singleton.mp h]; exact be _
 ·  cases ok
end
end Mine
namespace Mine
open PySem PyProof.Rows
theorem eW {α:Type}{r:α→α→Prop} (anti:∀ a b,r a b→r b a→a=b):∀ {l l':List α},l.Perm l'→l.Pairwise r→l'.Pairwise r→l=l'
 | [],l',p,_,_=>by rw [p.nil_eq]
 | a :: l,[],p,_,_=>by cases p.eq_nil
 | a :: l,b :: l',p,h,h'=>by
    refine ae (List.pairwise_cons.mp h) fun h1 h2=>?_
    refine ae (List.pairwise_cons.mp h') fun h3 h4=>?_
    have e:a=b:=by
      rcases List.mem_cons.mp (p.mem_iff.mp (List.mem_cons_self (a:=a) (l:=l))) with e | e
      · exact e
      · rcases List.mem_cons.mp (p.mem_iff.mpr (List.mem_cons_self (a:=b) (l:=l'))) with e' | e'
        · exact e'.symm
        · exact anti a b (h1 b e') (h3 a e)
    (clear h' h3; subst e)
    rw [eW anti ((List.perm_cons a).mp p) h2 h4]
theorem lA (ns:List Int):(ns.mergeSort (fun a b=>decide (a≤b))).Pairwise (·≤·):=by
 have:=List.pairwise_mergeSort (le:=fun a b:Int=>decide (a≤b)) (fun a b c h1 h2=>by simp at *; exact w7 h1 h2) (fun a b=>by simp; exact xt) ns
 exact this.imp (by intro a b h; simpa using h)
theorem lS:∀ {xs:List Int}{m:Int},iG xs=some m→m∈xs∧∀ x∈xs,x≤m
 | [],_,h=>by simp [iG] at h
 | x :: xs,m,h=>by
    simp only [iG,Option.some.injEq] at h
    have key:∀ (l:List Int) (a:Int),(l.foldl (fun a b=>if a<b then b else a) a=a∨l.foldl (fun a b=>if a<b then b else a) a∈l)∧a≤l.foldl (fun a b=>if a<b then b else a) a∧∀ y∈l,y≤l.foldl (fun a b=>if a<b then b else a) a:=by
      intro l
      induction l with
      | nil=>intro a; simp
      | cons b l ih=>
        intro a
        rw [List.foldl_cons]
        refine aD (ih (if a<b then b else a)) fun h1 h2 h3=>?_
        refine ⟨?_,?_,fun y hy=>?_⟩
        · rcases h1 with h1 | h1
          · rw [h1]; split <;> simp
          · exact .inr (.tail _ h1)
        · split at h2 <;> rename_i hc <;> simp only [hc,if_true,if_false] <;> lia
        · rcases List.mem_cons.mp hy with rfl | hy
          · split at h2 <;> rename_i hc <;> simp only [hc,if_true,if_false] <;> lia
          · exact h3 y hy
    refine aD (key xs x) fun h1 h2 h3=>?_
    rw [h] at h1 h2 h3
    exact ⟨h1.elim (fun e=>e▸.head _) (.tail _),fun y hy=>(List.mem_cons.mp hy).elim (fun e=>e▸h2) (h3 y)⟩
section
variable {fns:Fns}{k:Nat}{C:Calls}{XP:String→Shared→Value→Shared→Prop}
theorem fe {env:Env}{x:String} (h:cD env.scope.names x=true):env.kindOf (Str.ofString x)=some .globalImplicit:=by
 unfold cD at h
 exact beq_iff_eq.mp h
theorem nd {x:String} (h:aT x=true):(Str.ofString x == ("__debug__" : Str))=false:=by
 unfold aT at h
 simp only [Bool.and_eq_true,Bool.not_eq_true'] at h
 exact h.1
section
variable {A:Around}{env:Env}{s:Shared}{Q:Value→Shared→Prop}{Er:Value→Shared→Prop}{p pos:Pos}
theorem g9 {id:String}{args:List Expr} (eok:EnvOk env) (ge:GE fns s.heap) (hm:id∈bnames) (hg:cD env.scope.names id=true) (hd:(Str.ofString id == ("__debug__" : Str))=false)
    (h:wpAny (model prog w) A (callWith pos (bval id) [] (backTo pos (starEach args env)) []) Q Er s):wpAny (model prog w) A (eval (.Call (.Name (Str.ofString id) p) args [] pos) env) Q Er s:=by
 refine aq (ge.glob) fun mg g1 _ g3=>?_
 refine ag (ge.blt) fun mb b1 b2=>?_
 exact wpAny_Call_NameR (Calls.Name_function_global eok.kind (fe hg) (Calls.loadGlobal_builtin (eok.glob▸g1) (g3 id hm) (eok.blt▸b1) (b2 id hm) h) hd)
theorem nR {id:String}{x:Expr}{xs:List Expr}{e:E} (ns:List (Str × NameKind)) (hx:okE ns e x=true) (ha:(backTo pos (starEach xs env)).any (·.1)=false)
    (h:wpAny (model prog w) A (spliced (backTo pos (starEach (x :: xs) env))) (fun vs s₁=>wpAny (model prog w) A (call (.builtin id) vs) Q Er s₁) Er s):wpAny (model prog w) A (callWith pos (.builtin id) [] (backTo pos (starEach (x :: xs) env)) []) Q Er s:=by
 rw [aK hx] at h ⊢
 exact Calls.callWith_builtin ha (Calls.evalArgs_plain (wpAny_mono h (fun vs s₁ h₁=>h₁) fun uu uu e=>e))
theorem hH {T:String}{x:Expr}{xs:List Expr}{e:E} (ns:List (Str × NameKind)) (hx:okE ns e x=true) (ha:(backTo pos (starEach xs env)).any (·.1)=false)
    (h:wpAny (model prog w) A (spliced (backTo pos (starEach (x :: xs) env))) (fun vs s₁=>wpAny (model prog w) A (call (.type T) vs) Q Er s₁) Er s):wpAny (model prog w) A (callWith pos (.type T) [] (backTo pos (starEach (x :: xs) env)) []) Q Er s:=by
 rw [aK hx] at h ⊢
 exact PySem.callWith_type ha (Calls.evalArgs_plain (wpAny_mono h (fun vs s₁ h₁=>h₁) fun uu uu e=>e))
theorem kX {x:Expr}{e:E} (ns:List (Str × NameKind)) (hx:okE ns e x=true) {G:List Value→Shared→Prop} (h:wpAny (model prog w) A (eval x env) (fun v s₁=>G [v] s₁) Er s):wpAny (model prog w) A (spliced (backTo pos (starEach [x] env))) G Er s :=
 wpAny_items_cons (wpAny_mono h (fun uu uu h₁=>wpAny_items_nil h₁) fun uu uu e=>e) (aK hx [] env)
end
section
variable {va:Value}{as:List Addr}{A:Around}{P:Addr→Prop}{s:Shared}{Q:Value→Shared→Prop}{Er:Value→Shared→Prop}
theorem vY {x:V}{r:V × Mode} (he:b1D .len x = .ok r) (ra:RV s.heap va x as) (hQ:∀ v s',EP P s r v s'→Q v s'):wpAny (model prog w) A (call (.builtin "len") [va]) Q Er s:=by
 replace he:=aP he
 revert he; intro GK
 refine ag (GK) fun y hy he=>?_
 try clear GK
 cases cj hy
 cases ht:asT y with
 | none=>
    simp only [ht] at he
    replace he:=aP he
    revert he; intro Gw
    refine ag (Gw) fun xs hx he=>?_
    try clear Gw
    cases bt hx
    (have oc:=Out.ok.inj he; clear he; subst oc)
    refine ra.1.isList_k fun a vs n cs FW ea ra' FX=>?_
    subst FW
    subst FX
    have hl:=ra'.length
    have hz:=(sz_list.mp ra.2).1
    refine Calls.call_len_list (isL ea) (by rw [List.size_toArray]; exact DQ hl hz) (hQ _ _ ?_)
    rw [List.size_toArray,hl]
    exact .int (.toks s _)
 | some xs=>
    simp only [ht] at he
    (have oc:=Out.ok.inj he; clear he; subst oc)
    cases gn ht
    refine aL (ra.1.isTup) fun a vs n FY ea ra'=>?_
    subst FY
    have hl:=ra'.length
    have hz:=(sz_tuple.mp ra.2).1
    refine PySem.P.len_tuple ea (by rw [List.size_toArray]; exact Dp hl hz) (hQ _ _ ?_)
    rw [List.size_toArray,hl]
    exact .int (.toks s _)
theorem lO {xs:List PyData}{T:String}{a:Addr}{vs:List Value}{n:Nat}{cs:List Addr} (hT:T = "list" ∨ T = "tuple") (ea:s.heap.get? a=some ⟨.type T,none,.seq vs.toArray n,#[]⟩) (ra:RA s.heap vs xs cs) (hl:xs.length≤2 ^ 22)
    (hz:∀ x∈xs,sz x=true) (ha:∀ b∈cs,P b) (hQ:∀ v s',EP P s (.d (.list xs),fresh xs) v s'→Q v s'):wpAny (model prog w) A (call (.type "list") [.ref a]) Q Er s:=by
 have e:=ra.length
 refine call_list_seq a hT ea rfl rfl (fun h' c' kp hn=>hQ _ _ ?_) (by rw [List.size_toArray]; unfold sizeLine; exact CK hl e)
 have kp':Kp s { s with heap:=h' }:=(aA h' s.toks rfl (.of kp))
 refine EP.aList kp' (be _) hn (ra.keep kp) hl hz fun b hb=>⟨ha b hb,?_⟩
 refine bi (ra.there b hb) fun uu uu e=>?_
 exact dZ e
theorem uQ {xs:List PyData} (ra:R s.heap va (.list xs) as) (za:sz (.list xs)=true) (ha:∀ b∈as,P b) (hQ:∀ v s',EP P s (.d (.tuple xs),if xs.all sx then .deep else .sh) v s'→Q v s'):wpAny (model prog w) A (call (.type "tuple") [va]) Q Er s:=by
 refine ra.isList_k fun a vs n cs FZ ea ra' F0=>?_
 (clear ra; subst FZ)
 subst F0
 have e:=ra'.length
 have hz:=sz_list.mp za
 refine call_tuple_list (isL ea) (fun h' kp=>hQ _ _ ?_) (by rw [List.size_toArray]; unfold sizeLine; exact Ak e hz)
 have kp':Kp s { s with heap:=h'.push { cls:=.type "tuple", data:=.seq vs.toArray } }:=(aA _ s.toks rfl (.of fun b o q=>Heap.get?_push_of_some _ (kp b o q)))
 refine ⟨kp',cs,⟨.tuple (Heap.get?_push_size _ rfl) ((ra'.keep kp).keep fun uu uu e=>Heap.get?_push_of_some _ e),sz_tuple.mpr hz⟩,fun b hb=>.inl (ha b (.tail _ hb)),fun hm=>?_,fun hm=>?_⟩
 ·  dsimp only at hm; split at hm <;> cases hm
 ·  have hall:xs.all sx=true:=by
      dsimp only at hm
      split at hm
      · assumption
      · cases hm
    rw [ra'.sx_nil hall]
    exact ⟨fun uu h=>(nomatch h),.nil⟩
theorem rB {xs:List PyData}{ns:List Int} (ra:R s.heap va (.list xs) as) (hi:aM xs=some ns) (h64:xs.length<64) (hQ:∀ v s',EP P s (.d (aa (ns.mergeSort (fun a b=>decide (a≤b)))),.deep) v s'→Q v s') :
    wpAny (model prog w) A (call (.builtin "sorted") [va]) Q Er s:=by
 refine ra.isList_k fun a vs n cs F1 ea ra' F2=>?_
 (clear ra; subst F1)
 subst F2
 have e:=ra'.length
 refine aD (ra'.ints hi) fun hI F4 F5=>?_
 subst F4
 subst F5
 rw [List.length_map] at e h64
 refine sorted_ints (isL ea) hI (by exact wt h64 e) fun out ns' h1 h2 h3=>hQ _ _ ?_
 have e':ns' = ns.mergeSort (fun a b=>decide (a≤b)):=eW (fun a b h h'=>Int.le_antisymm h h') (h2.trans (List.mergeSort_perm ns _).symm) h3 (lA ns)
 (clear h2 h3; subst e')
 refine aj (sortedAll_at s.heap vs out) fun e he=>?_
 have hl:=List.length_mergeSort (le:=fun a b:Int=>decide (a≤b)) ns
 have ep:EP P s (.d (.list ((ns.mergeSort (fun a b=>decide (a≤b))).map .int)),fresh ((ns.mergeSort (fun a b=>decide (a≤b))).map .int)) (.ref (s.heap.objs.size + 1)) { s with heap:=sortedAll s.heap vs out } :=
    EP.aList (vs:=out.toList) (n:=e) (as:=[]) (aA _ s.toks rfl (.of fun uu uu q=>sortedAll_old q)) (Heap.get?_none_of_le (Nat.le_succ _)) (by simpa [seqObj] using he) (RA.of_ints h1) (by rw [List.length_map,hl]; exact xA h64) (gV _) fun uu h=>(nomatch h)
 have ef:fresh ((ns.mergeSort (fun a b=>decide (a≤b))).map .int) = .deep:=by
    unfold fresh
    rw [if_pos]
    rw [List.all_map,List.all_eq_true]
    intro _ _; rfl
 rw [ef] at ep
 exact ep
end
end
end Mine
namespace Mine
open PySem PyProof.Rows
section
structure ItP (A:Around) (P:Addr→Prop) (s:Shared) (ds:List PyData) (m:Mode) (it:Value) (s':Shared):Prop where
 keeps:Kp s s'
 walk:∃ (I:Addr) (fp wr:List Addr) (Pw:Nat→Value→Prop) (St:Nat→Heap→Prop) (F:List Addr),it = .ref I∧Walks prog w A I fp wr ds.length Pw St∧St 0 s'.heap ∧
    (∀ b∈wr,s.heap.get? b=none∧b∉F∧∀ i h,St i h→∃ o,h.get? b=some o∧(hardB o=true∧o.cls≠.type "code" ∧ ∀ C,o.cls≠.ref C)∧∃ fs,o.data = .fields fs)∧(∀ b∈fp,b∈wr∨b∈F)∧(∀ i v,Pw i v→∀ d,ds[i]? = some d→∃ bs,R s'.heap v d bs∧∀ b∈bs,b∈F) ∧
    (∀ b∈F,∃ vs n,s'.heap.get? b=some ⟨.type "list", none,.seq vs n,#[]⟩)∧(∀ a∈F,P a∨s.heap.get? a=none)∧(m = .deep→∀ a∈F,s.heap.get? a=none)
 small:ds.length≤2 ^ 22∧∀ d∈ds,sz d=true
variable (fns:Fns) (k:Nat) (C:Calls) (XP:String→Shared→Value→Shared→Prop)
noncomputable def dB (it:It):Prop:=∀ {ex:Expr}{A:Around}{env:Env}{σ:St}{P:Addr→Prop}{s:Shared}{Q:Value→Shared→Prop}{Er:Value→Shared→Prop},
 fP env.scope.names it ex=true→Cx fns k A P s.heap env σ→bj C it σ≠.bad →
 (∀ q,bj C it σ = .ok q→∀ i s',ItP A P s q.1 q.2 i s'→Q i s')→(∀ c,bj C it σ = .exc c→∀ x s',XP c s x s'→Er x s') →
 wpAny (model prog w) A (eval ex env) (fun x s₁=>wpAny (model prog w) A (pyIter x) Q Er s₁) Er s
end
section
variable {fns:Fns}{k:Nat}{C:Calls}{XP:String→Shared→Value→Shared→Prop}
theorem rZ {A:Around}{P:Addr→Prop}{s₀ s:Shared}{Q:Value→Shared→Prop}{Er:Value→Shared→Prop}{va:Value}{as:List Addr}{xs:List PyData}{m:Mode} (k₀:Kp s₀ s) (hh:A.handled=none) (ra:R s.heap va (.list xs) as) (za:sz (.list xs)=true)
    (ha:∀ a∈as,P a∨s₀.heap.get? a=none) (hm:m = .deep→∀ a∈as,s₀.heap.get? a=none) (hQ:∀ it s',ItP A P s₀ xs m it s'→Q it s'):wpAny (model prog w) A (pyIter va) Q Er s:=by
 refine ra.isList_k fun a vs n cs FW ea ra' FX=>?_
 subst FW
 subst FX
 refine wpAny_pyIter_list (isL ea) (hQ _ _ ⟨k₀.trans (.push s _ _),⟨s.heap.objs.size,[s.heap.objs.size,a],[s.heap.objs.size],(fun i v=>vs.toArray[i]? = some v),(fun i h=>h.IsListIter s.heap.objs.size a i∧h.IsList a vs.toArray),a :: cs,rfl,?_,⟨(ax _ (Heap.get?_push_size _ rfl) rfl rfl),(isL ea).push _⟩,?_,?_,?_,?_,ha,hm⟩,sz_list.mp za⟩)
 ·  have:=Walks.list (prog:=prog) (w:=w) (A:=A) hh s.heap.objs.size a (dZ ea) vs.toArray
    have e:vs.toArray.size=xs.length:=by rw [List.size_toArray,ra'.length]
    rw [e] at this
    exact this
 ·  intro b hb
    rw [List.mem_singleton.mp hb]
    refine ⟨k₀.none (be _),fun h=>?_,fun i h hst=>?_⟩
    · refine bi (ra.there _ h) fun uu uu e=>?_
      exact dZ e rfl
    · refine aq (hst.1) fun o e1 ec e2=>?_
      exact (ax o e1 ⟨by unfold hardB; rw [ec]; decide,by rw [ec]; decide,fun uu q=>by rw [ec] at q; cases q⟩ (bJ _ e2))
 ·  intro b hb
    rcases List.mem_cons.mp hb with rfl | hb
    · exact .inl (.head _)
    · rw [List.mem_singleton.mp hb]; exact .inr (.head _)
 ·  intro i v hv d hd
    refine az (ra'.get' (by simpa using hv)) fun d' bs h1 h2 h3=>?_
    rw [hd] at h1; (have oc:=Option.some.inj h1; clear h1; subst oc)
    exact (ah bs (h2.keep fun uu uu e=>Heap.get?_push_of_some _ e) (fun b hb=>.tail _ (h3 b hb)))
 ·  intro b hb
    refine bi (ra.there b hb) fun vs' n' e=>?_
    exact (bE vs' n' (Heap.get?_push_of_some _ e))
theorem qm {a b:Int}{i:Nat}{d:PyData} (h:(cS a b)[i]? = some d):d = .int (a + i):=by
 unfold cS at h
 rw [List.getElem?_map] at h
 refine bp h fun j hj FY=>?_
 subst FY
 have:j=i:=by
    have h1:=(List.getElem?_eq_some_iff.mp hj)
    refine aj (h1) fun h2 h3=>?_
    try clear h1
    rw [List.getElem_range] at h3
    exact h3.symm
 rw [this]
theorem im (a b:Int):(cS a b).length=(b - a).toNat:=by simp [cS]
theorem sb (a b:Int):∀ d∈cS a b,sz d=true:=by
 intro d hd
 unfold cS at hd
 refine aN hd fun j _ FZ=>?_
 (clear hd; subst FZ)
 rfl
theorem kI {A:Around}{P:Addr→Prop}{s₀ s:Shared}{Q:Value→Shared→Prop}{Er:Value→Shared→Prop}{r:Addr}{a b:Int}{t u v:Tok} (k₀:Kp s₀ s) (hh:A.handled=none) (hr:IsRange s.heap r a b 1 t u v)
    (hn:(b - a).toNat≤lim) (ha:-(2 ^ 60)≤a∧a<2 ^ 60∧-(2 ^ 60)≤b∧b<2 ^ 60) (hQ:∀ it s',ItP A P s₀ (cS a b) .deep it s'→Q it s'):wpAny (model prog w) A (pyIter (.ref r)) Q Er s:=by
 have hsz:Builtin.Range.rangeSize a b 1=((b - a).toNat:Int):=by rw [rangeSize_one]; split <;> lia
 refine wpAny_pyIter_range hr (small_one (by exact AM ha) (by exact Cu ha) (by exact AF ha) (by exact AY ha)) (hQ _ _ ⟨k₀.trans (.push s _ _),⟨s.heap.objs.size,[s.heap.objs.size],[s.heap.objs.size],(fun i v=>∃ t,v = .int (a + i * 1) t),(fun i h=>IsRangeIter h s.heap.objs.size (a + (i:Nat) * 1) (((b - a).toNat:Int) - (i:Nat)) 1),[],rfl,?_,?_,?_,fun b hb=>.inl hb,?_,fun uu h=>(nomatch h),fun uu h=>(nomatch h),fun uu uu h=>(nomatch h)⟩,⟨by rw [im]; unfold lim at hn; exact Au hn,sb a b⟩⟩)
 ·  have:=Walks.range (prog:=prog) (w:=w) (A:=A) hh s.heap.objs.size a 1 (b - a).toNat
    rw [im]
    exact this
 ·  have e1:(a + ((0:Nat):Int) * 1)=a:=by simp
    have e2:(((b - a).toNat:Int) - ((0:Nat):Int))=Builtin.Range.rangeSize a b 1:=by rw [hsz]; simp
    show IsRangeIter _ _ (a + ((0:Nat):Int) * 1) (((b - a).toNat:Int) - ((0:Nat):Int)) 1
    rw [e1,e2]
    exact Heap.get?_push_size _ rfl
 ·  intro b hb
    rw [List.mem_singleton.mp hb]
    exact ⟨k₀.none (be _),fun h=>(nomatch h),fun i h hst=>(ax _ hst ⟨rfl,by simp⟩ (bJ _ rfl))⟩
 ·  rintro i v ⟨t,rfl⟩ d hd
    rw [qm hd]
    exact (ah ([]) (by simpa using R.int (a + i) t) (fun uu h=>(nomatch h)))
set_option tactic.hygienic true in
theorem xJ (hf:fns.hand=false) {a:E} (Sa:SimE fns k C XP a):dB fns k C XP (.e a):=by
 intro ex A env σ P s Q Er ok X nb hQ hE
 replace ok:okE env.scope.names a ex=true:=ok
 simp only [gv,e8,fm] at nb hQ hE
 refine aQ nb fun n1 n2=>?_
 refine Sa ok X n1 (fun r hr v s₁ Ea=>?_) fun c hc=>hE c (by rw [hc]; rfl)
 have n3:=n2 r hr
 obtain ⟨x,m⟩:=r
 obtain ⟨ka,as,ra,ha,ht,hd⟩:=Ea
 unfold itV at n3
 dsimp only at n3 ra hd
 split at n3
 ·  rename_i xs hx
    cases iL hx
    exact rZ (m:=m) ka (X.room.1 hf) ra.1 ra.2 ha (fun hm=>(hd hm).1) fun it s' I=>hQ (xs,m) (by rw [hr]; rfl) it s' I
 ·  exact absurd rfl n3
theorem l9 {a b:Int}{q:List PyData × Mode} (h:bY a b = .ok q):q=(cS a b,.deep)∧(b - a).toNat≤lim∧-(2 ^ 60)≤a∧a<2 ^ 60∧-(2 ^ 60)≤b∧b<2 ^ 60:=by
 unfold bY at h
 split at h
 ·  rename_i hc; (have oc:=Out.ok.inj h; clear h; subst oc); exact ⟨rfl,hc⟩
 ·  exact nB h
theorem jT {a b:Int}{c:String}:bY a b≠.exc c:=by unfold bY; split <;> simp
set_option tactic.hygienic true in
theorem vW (hf:fns.hand=false) {n:E} (Sn:SimE fns k C XP n):dB fns k C XP (.r1 n):=by
 intro ex A env σ P s Q Er ok X nb hQ hE
 replace ok:=Ew ok
 revert ok; refine fun F8=>Or.elim F8 (fun F3=>?_) (fun ok=>?_)
 ·  clear F8
    refine cz (F3) fun GD GL Hg GX GJ ok=>?_
    clear F3
    subst GJ
    simp only [Bool.and_eq_true,beq_iff_eq] at ok
    refine ae (ok) fun F0 on=>?_
    try clear ok
    refine ae (F0) fun F1 hg=>?_
    try clear F0
    subst F1
    simp only [gv,e8,fm] at nb hQ hE
    refine aQ nb fun n1 n2=>?_
    refine g9 X.eok X.ge (by decide) hg (by decide) (hH (T := "range") _ on rfl (kX _ on (Sn on X n1 (fun r hr v s₁ Ea=>?_) fun c hc=>hE c (by rw [hc]; rfl))))
    have n3:=n2 r hr
    obtain ⟨x,m⟩:=r
    obtain ⟨ka,as,ra,hx1,hx2,hx3⟩:=Ea
    clear hx1 hx2 hx3
    dsimp only at n3 ra
    split at n3
    · rename_i i
      cases hq:bY 0 i with
      | bad=>exact absurd hq n3
      | exc c=>exact absurd hq jT
      | ok q=>
        refine aD (l9 hq) fun F2 h1 h2=>?_
        subst F2
        refine ra.1.isInt_k fun uu F4 F5=>?_
        (clear ra; subst F4)
        subst F5
        exact call_range_1 (kI (ka.trans (.push s₁ _ _)) (X.room.1 hf) (IsRange.new ..) h1 h2 fun it s' I=>hQ _ (by rw [hr]; exact hq) it s' I)
    · exact absurd rfl n3
 ·  cases ok
set_option tactic.hygienic true in
theorem vA (hf:fns.hand=false) (hXP:∀ c s s₁ x s',Kp s s₁→XP c s₁ x s'→XP c s x s') {a b:E} (Sa:SimE fns k C XP a) (Sb:SimE fns k C XP b):dB fns k C XP (.r2 a b):=by
 intro ex A env σ P s Q Er ok X nb hQ hE
 replace ok:=Eh ok
 revert ok; refine fun Gb=>Or.elim Gb (fun F7=>?_) (fun ok=>?_)
 ·  clear Gb
    refine i0 (F7) fun GV Hh He GZ G9 GY ok=>?_
    clear F7
    subst GY
    simp only [Bool.and_eq_true,beq_iff_eq] at ok
    refine ae (ok) fun F6 ob=>?_
    try clear ok
    refine ae (F6) fun Ga oa=>?_
    try clear F6
    refine ae (Ga) fun F9 hg=>?_
    try clear Ga
    subst F9
    simp only [gv,e8,fm] at nb hQ hE
    refine aQ nb fun n1 n2=>?_
    refine g9 X.eok X.ge (by decide) hg (by decide) (hH (T := "range") _ oa (by rw [aK ob]; rfl) (wpAny_items_cons ?_ (aK oa _ env)))
    refine Sa oa X n1 (fun x hx va s₁ Ea=>?_) fun c hc=>hE c (by rw [hc]; rfl)
    refine aQ (n2 x hx) fun n3 n4=>?_
    refine kX _ ob (Sb ob (X.k Ea.keeps.k) n3 (fun y hy vb s₂ Eb=>?_) fun c hc z s' hz=>hE c (by rw [hx,Out.ok_bind,hc]; rfl) z s' (hXP c s s₁ z s' Ea.keeps hz))
    have n5:=n4 y hy
    obtain ⟨x,mx⟩:=x
    obtain ⟨y,my⟩:=y
    obtain ⟨ka,as,ra,hx1,hx2,hx3⟩:=Ea
    obtain ⟨kb,bs,rb,hx4,hx5,hx6⟩:=Eb
    clear hx1 hx2 hx3 hx4 hx5 hx6
    dsimp only at n5 ra rb
    split at n5
    · rename_i i j
      cases hq:bY i j with
      | bad=>exact absurd hq n5
      | exc c=>exact absurd hq jT
      | ok q=>
        refine aD (l9 hq) fun Gh h1 h2=>?_
        subst Gh
        revert ra; intro Hu
        refine ae (Hu) fun ra _=>?_
        try clear Hu
        revert rb; intro Hv
        refine ae (Hv) fun rb _=>?_
        try clear Hv
        cases ra; cases rb
        exact call_range_2 (kI ((ka.trans kb).trans (.push s₂ _ _)) (X.room.1 hf) (IsRange.new ..) h1 h2 fun it s' I=>hQ _ (by rw [hx,Out.ok_bind,hy]; exact hq) it s' I)
    · exact absurd rfl n5
 ·  cases ok
end
end Mine
namespace Mine
open PySem PyProof.Rows
theorem cO {x y:String} (h:Str.ofString x=Str.ofString y):x=y:=by
 rw [Str.ofString_eq_toList,Str.ofString_eq_toList] at h
 have h1:(x.toList.map Char.toNat).toArray=(y.toList.map Char.toNat).toArray:=by injection h
 have h2:x.toList.map Char.toNat=y.toList.map Char.toNat:=by simpa using h1
 have h3:x.toList=y.toList:=by
    have inj:∀ a b:Char,a.toNat=b.toNat→a=b:=fun a b e=>Char.ext (UInt32.toNat_inj.mp e)
    generalize x.toList=l at h2
    generalize y.toList=m at h2
    induction l generalizing m with
    | nil=>cases m with
      | nil=>rfl
      | cons b m=>simp at h2
    | cons a l ih=>cases m with
      | nil=>simp at h2
      | cons b m=>
        simp only [List.map_cons,List.cons.injEq] at h2
        rw [inj a b h2.1,ih m h2.2]
 exact String.toList_inj.mp h3
section
variable {fns:Fns}{k:Nat}{C:Calls}{XP:String→Shared→Value→Shared→Prop}
theorem kP {scope:Scope}{env:Env} (hf:∀ p∈scope.names,p.2 = .free→∃ c,env.cells.lookup p.1=some c) :
    ∃ cl,closureFor scope env=pure cl∧∀ n,(n,NameKind.free)∈scope.names→cl.lookup n=env.cells.lookup n:=by
 suffices H:∀ (names:List (Str × NameKind)) (acc:List (Str × Addr)),(∀ p∈names,p.2 = .free→∃ c,env.cells.lookup p.1=some c)→(∀ n c,acc.lookup n=some c→env.cells.lookup n=some c) →
      ∃ cl,(forIn names acc (fun (x:Str × NameKind) (cs:List (Str × Addr))=>(if (x.2 == NameKind.free)=true then (do let c ← cellOf env x.1; pure (ForInStep.yield ((x.1,c) :: cs))) else pure (ForInStep.yield cs):Sem (ForInStep (List (Str × Addr))))))=pure cl ∧
        (∀ n c,cl.lookup n=some c→env.cells.lookup n=some c)∧(∀ n,(n,NameKind.free)∈names∨(acc.lookup n).isSome→(cl.lookup n).isSome) by
    refine aq (H scope.names [] hf (fun n c h=>by simp at h)) fun cl h1 h2 h3=>?_
    refine (ah cl ?_ (fun n hn=>?_))
    · unfold closureFor
      have e:(forIn scope.names ([]:List (Str × Addr)) fun (x:Str × NameKind) (r:List (Str × Addr))=>match x with
          | (name,kind)=>if (kind == NameKind.free)=true then (do let c ← cellOf env name; pure (ForInStep.yield ((name,c) :: r))) else (pure (ForInStep.yield r):Sem (ForInStep (List (Str × Addr)))))=pure cl:=h1
      exact congrArg (fun t:Sem (List (Str × Addr))=>t >>= fun q=>pure q) e
    · refine bF (h3 n (.inl hn)) fun c hc=>?_
      rw [hc,h2 n c hc]
 intro names
 induction names with
 | nil=>intro acc _ ha; exact (ax acc rfl ha (fun n hn=>hn.elim (fun h=>nomatch h) id))
 | cons p r ih=>
    intro acc hf ha
    obtain ⟨n,kd⟩:=p
    by_cases hk:kd = .free
    · subst hk
      refine aj (hf (n,.free) (.head _) rfl) fun c hc=>?_
      obtain ⟨cl,h1,h2,h3⟩:=ih ((n,c) :: acc) (fun p hp=>hf p (.tail _ hp)) (fun m d h=>by
        rw [List.lookup_cons] at h
        split at h
        · rename_i e; (have oc:=Option.some.inj h; clear h; subst oc); rw [beq_iff_eq.mp e]; exact hc
        · exact ha m d h)
      refine (ax cl ?_ h2 (fun m hm=>h3 m ?_))
      · rw [List.forIn_cons,← h1]
        simp only [beq_self_eq_true,if_true,cellOf,hc]
        rfl
      · rcases hm with hm | hm
        · rcases List.mem_cons.mp hm with e | hm
          · cases e; right; simp
          · exact .inl hm
        · right
          rw [List.lookup_cons]
          split
          · rfl
          · exact hm
    · refine aq (ih acc (fun p hp=>hf p (.tail _ hp)) ha) fun cl h1 h2 h3=>?_
      refine (ax cl ?_ h2 (fun m hm=>h3 m (hm.imp (fun hm=>?_) id)))
      · rw [List.forIn_cons,← h1]
        have:(kd == NameKind.free)=false:=by simpa using hk
        simp only [this,Bool.false_eq_true,if_false]
        rfl
      · rcases List.mem_cons.mp hm with e | hm
        · cases e; exact absurd rfl hk
        · exact hm
theorem iv {X:Str}:∀ (names:List (Str × NameKind)) (h:Heap) (acc:List (Str × Addr)),(∀ p∈names,p.2 = .cell→p.1=X)→(names.map (·.1)).Nodup →
    (∀ m,m≠X→(cellsFrom h.objs.size names acc).lookup m=acc.lookup m) ∧
    (names.lookup X=some .cell→∃ c,(cellsFrom h.objs.size names acc).lookup X=some c∧(pushCells h names).IsCell c none∧h.objs.size≤c)∧(names.lookup X≠some .cell→cellsFrom h.objs.size names acc=acc)
 | [],h,acc,_,_=>⟨fun uu uu=>rfl,fun e=>(by cases e),fun uu=>rfl⟩
 | (n,kd) :: r,h,acc,hc,hn=>by
    rw [List.map_cons,List.nodup_cons] at hn
    unfold cellsFrom pushCells
    by_cases hk:kd = .cell
    · subst hk
      have e:n=X:=hc (n,.cell) (.head _) rfl
      subst e
      have hr:∀ p∈r,p.2≠.cell:=fun p hp e=>hn.1 (List.mem_map.mpr (ah p hp (hc p (.tail _ hp) e)))
      have hl:r.lookup n≠some .cell:=fun e=>hr _ (mem_of_lookup e) rfl
      simp only [beq_self_eq_true,if_true]
      have ih:=iv (X:=n) r (h.push { cls:=.type "cell", data:=.cell none }) ((n,h.objs.size) :: acc) (fun p hp e=>absurd e (hr p hp)) hn.2
      rw [Heap.size_push] at ih
      rw [ih.2.2 hl]
      refine ⟨fun m hm=>?_,fun uu=>(ax h.objs.size (by simp) (ah _ (pushCells_keeps r _ _ _ (Heap.get?_push_size _ rfl)) rfl) (Nat.le_refl _)),fun hh=>?_⟩
      · rw [List.lookup_cons]
        have:(m == n)=false:=by simpa using hm
        rw [this]
      · exact absurd (by simp) hh
    · have hb:(kd == NameKind.cell)=false:=by simpa using hk
      simp only [hb,Bool.false_eq_true,if_false]
      refine aD (iv r h acc (fun p hp=>hc p (.tail _ hp)) hn.2) fun h1 h2 h3=>?_
      have e:((n,kd) :: r).lookup X=some .cell↔r.lookup X=some .cell:=by
        rw [List.lookup_cons]
        by_cases hx:X=n
        · (clear hc; subst hx)
          simp only [beq_self_eq_true]
          constructor
          · intro e; (have oc:=Option.some.inj e; clear e; subst oc); exact absurd rfl hk
          · intro e; exact absurd (List.mem_map.mpr (ah _ (mem_of_lookup e) rfl)) hn.1
        · have:(X == n)=false:=by simpa using hx
          rw [this]
      exact ⟨h1,fun q=>h2 (e.mp q),fun q=>h3 fun z=>q (e.mpr z)⟩
theorem yQ {A:Around}{env:Env}{scope:Scope}{cl:List (Str × Addr)}{s:Shared}{Q:Env→Shared→Prop}{Er:Value→Shared→Prop}
    (h:∀ h',h' = pushCells (s.heap.push { cls:=.type "dict", data:=.dict #[] }) scope.names→Q { scope,locals:=s.heap.objs.size,globals:=env.globals,cells:=cellsFrom (s.heap.objs.size + 1) scope.names cl,qual:=env.qual,func:=none,code:=env.code,frame:=env.frame,builtins:=env.builtins } { s with heap:=h' }) :
    wpAny (model prog w) A (newFunctionEnv scope env.globals cl [] env.qual none .none (some env)) Q Er s:=by
 simp only [newFunctionEnv,Option.isSome_some,if_true]
 refine wpAny_bind (wpAny_alloc ?_)
 refine wpAny_bind (wpAny_layCells _ (fun name kind cells=>by cases hkc:kind == NameKind.cell <;> simp) _ _ _ _ ?_)
 rw [show ({ s with heap:=s.heap.push { cls:=.type "dict", data:=.dict #[] } }:Shared).heap.objs.size=s.heap.objs.size + 1 from Heap.size_push ..]
 exact wpAny_bind (wpAny_pure (wpAny_pure (h _ rfl)))
end
end Mine
namespace Mine
open PySem PyProof.Rows
section
variable {fns:Fns}{k:Nat}{C:Calls}{XP:String→Shared→Value→Shared→Prop}
theorem gS {ns:List (Str × NameKind)}{sc:Scope}{x:String} (h:f7 ns sc x=true):sc.kind = .function∧(sc.names.map (·.1)).Nodup∧(sc.names.lookup (Str.ofString x)=some .local∨sc.names.lookup (Str.ofString x)=some .cell) ∧
    ∀ p∈sc.names,(p.2 = .local∧(p.1=Str.ofString x∨p.1=Str.ofString ".0"))∨p.2 = .globalImplicit∨(p.2 = .cell∧p.1=Str.ofString x)∨(p.2 = .free∧(ns.lookup p.1=some .cell∨ns.lookup p.1=some .free)):=by
 unfold f7 at h
 simp only [Bool.and_eq_true,beq_iff_eq,decide_eq_true_eq,Bool.or_eq_true,List.all_eq_true] at h
 refine ae (h) fun FW h4=>?_
 try clear h
 refine ae (FW) fun FX h3=>?_
 try clear FW
 refine ae (FX) fun h1 h2=>?_
 try clear FX
 refine (bx h1 h2 h3 (fun p hp=>?_))
 rcases h4 p hp with ((h | h) | h) | h
 ·  exact .inl h
 ·  exact .inr (.inl h)
 ·  exact .inr (.inr (.inl h))
 ·  exact .inr (.inr (.inr h))
theorem ig {α:Type}{l:List (Str × α)}{n:Str}{c:α} (hn:(l.map (·.1)).Nodup) (h:(n,c)∈l):l.lookup n=some c:=by
 induction l with
 | nil=>cases h
 | cons p r ih=>
    rw [List.map_cons,List.nodup_cons] at hn
    rw [List.lookup_cons]
    rcases List.mem_cons.mp h with e | h
    · (clear h; subst e); simp
    · have:(n == p.1)=false:=beq_eq_false_iff_ne.mpr fun e=>hn.1 (e▸List.mem_map.mpr (ah _ h rfl))
      rw [this]
      exact ih hn.2 h
theorem fV {outer:List (Str × NameKind)}:∀ {inner:List (Str × NameKind)}{n:Str},(eH outer inner).lookup n=(inner.lookup n).map fun kd=>if kd == .free && outer.lookup n == some .cell then .cell else kd
 | [],n=>rfl
 | (m,kd) :: r,n=>by
    have ih:=@fV outer r n
    unfold eH at ih ⊢
    rw [List.map_cons,List.lookup_cons,List.lookup_cons]
    by_cases e:n=m
    · subst e
      by_cases hc:(kd == NameKind.free && outer.lookup n == some .cell)=true
      · rw [if_pos hc]; simp only [beq_self_eq_true,Option.map_some]; rw [if_pos hc]
      · rw [if_neg hc]; simp only [beq_self_eq_true,Option.map_some]; rw [if_neg hc]
    · have e':(n == m)=false:=by simpa using e
      have e'':(n == (if (kd == NameKind.free && outer.lookup m == some .cell)=true then (m,NameKind.cell) else (m,kd)).1)=false:=by split <;> exact e'
      simp only [e',e'']
      exact ih
theorem eI {scope:Scope}{env:Env} (hk:env.scope.kind = .function):(relabel scope env).names=eH env.scope.names scope.names:=by
 unfold relabel eH Env.kindOf
 simp [hk]
theorem qP {f:PyData→Out (Option (V × Mode))}{d:PyData}{ds:List PyData}{q:List PyData × Bool} (h:bw f (d :: ds) = .ok q) :
    ∃ r q',f d = .ok r∧bw f ds = .ok q'∧((r=none∧q=q')∨∃ y m,r=some (.d y,m)∧q=(y :: q'.1,decide (m = .deep) && q'.2)):=by
 simp only [bw] at h
 refine Out.bind_k h fun r h1 h=>?_
 refine Out.bind_k h fun q' h2 h=>?_
 refine (aS r q' h1 h2 ?_)
 split at h
 ·  (have oc:=Out.ok.inj h; clear h; subst oc); exact .inl ⟨rfl,rfl⟩
 ·  (have oc:=Out.ok.inj h; clear h; subst oc); exact .inr (aA _ _ rfl rfl)
 ·  exact nB h
theorem xV {x:String}{sc:Scope}{A:Around}{env cenv:Env}{σ:St}{P P':Addr→Prop}{h h':Heap}{d:PyData}{v:Value}{as:List Addr}
    (hsc:f7 env.scope.names sc x=true) (hN:cenv.scope.names=eH env.scope.names sc.names) (hk:cenv.scope.kind = .function) (hg:cenv.globals=env.globals) (hb:cenv.builtins=env.builtins)
    (hc:∀ n,(n,NameKind.free)∈sc.names→cenv.cells.lookup n=env.cells.lookup n) (hx:sc.names.lookup (Str.ofString x)=some .cell→∃ c,cenv.cells.lookup (Str.ofString x)=some c)
    (hcd:cenv.code=env.code) (X:Cx fns k A P h env σ) (kp:K h h') (hv:VarIs h' cenv (Str.ofString x) v) (hr:R h' v d as) (hz:sz d=true) (has:∀ a∈as,P' a) (hP:∀ a,P a→(∃ o,h.get? a=some o)→P' a) :
    Cx fns k A P' h' cenv (upd σ x (mk (.d d))):=by
 refine cJ (gS hsc) fun uu hnd htg hnames=>?_
 have hkd:∀ n,cenv.kindOf n=(sc.names.lookup n).map fun kd=>if kd == .free && env.scope.names.lookup n == some .cell then .cell else kd:=fun n=>by
    show cenv.scope.names.lookup n=_
    rw [hN]; exact fV
 refine ⟨X.room,⟨hk,hg.trans X.eok.glob,hb.trans X.eok.blt,fun n hn=>?_⟩,X.ge.k kp,(fun h1=>aj (X.code h1) fun q c=>⟨q,hcd▸c.k kp⟩),(fun q=>ag (X.frm q) fun l a b=>(ah l a (b.k kp))),fun y p hp hvk=>?_⟩
 ·  rw [hkd] at hn
    cases e:sc.names.lookup n with
    | none=>rw [e] at hn; simp at hn
    | some kd=>
      have hm:=mem_of_lookup e
      rcases hnames _ hm with h1 | h1 | h1 | h1
      · rw [e,show kd=_ from h1.1] at hn; simp at hn
      · dsimp only at h1; rw [e,h1] at hn; simp at hn
      · revert h1; intro GK
        refine ae (GK) fun h1 h2=>?_
        try clear GK
        dsimp only at h1 h2
        (clear hm; subst h2)
        exact hx (by rw [e,h1])
      · revert h1; intro Gw
        refine ae (Gw) fun h1 h2=>?_
        try clear Gw
        dsimp only at h1 h2
        (clear e; subst h1)
        refine aj (X.eok.cells n h2) fun c hcc=>?_
        exact ⟨c,by rw [hc n hm,hcc]⟩
 ·  unfold upd at hp
    by_cases hy:y=x
    · (clear hnames hsc htg hx; subst hy)
      rw [if_pos rfl] at hp
      (have oc:=Option.some.inj hp; clear hp; subst oc)
      exact (aS v as hv ⟨hr,hz⟩ has)
    · rw [if_neg hy] at hp
      have hk':=oG hvk
      rw [hkd] at hk'
      have hdot:Str.ofString y≠Str.ofString ".0" := by
        unfold varK at hvk
        intro e
        rw [e] at hvk
        simp at hvk
      cases e:sc.names.lookup (Str.ofString y) with
      | none=>rw [e] at hk'; simp at hk'
      | some kd=>
        have hm:=mem_of_lookup e
        rcases hnames _ hm with h1 | h1 | h1 | h1
        · exact absurd h1.2 (by
            rintro (h2 | h2)
            · exact hy (cO h2)
            · exact hdot h2)
        · dsimp only at h1; rw [e,h1] at hk'; simp at hk'
        · exact absurd (cO h1.2) hy
        · revert h1; intro GN
          refine ae (GN) fun h1 h2=>?_
          try clear GN
          dsimp only at h1 h2
          subst h1
          have hvo:varK env.scope.names y=true:=by
            unfold varK
            rw [Bool.and_eq_true]
            refine ⟨by simpa using hdot,?_⟩
            rcases h2 with h2 | h2 <;> rw [h2]
          refine az (X.vars y p hp hvo) fun v' as' a1 a2 a3=>?_
          refine (aS v' as' ?_ (a2.k kp) (fun a ha=>hP a (a3 a ha) (a2.there a ha)))
          cases a1 with
          | loc m b1 b2 b3=>exact absurd b1 (by unfold Env.kindOf; rcases h2 with h2 | h2 <;> rw [h2] <;> simp)
          | cell c b1 b2 b3=>
            refine .cell c ?_ (by rw [hc _ hm,b2]) (iN b3 kp)
            rw [hkd,e]
            rcases h2 with h2 | h2 <;> rw [h2] <;> simp
noncomputable def Tgt (cenv:Env) (X:Str) (T:Addr) (h:Heap):Prop :=
 (∃ m,h.Ns cenv.locals m)∧((cenv.kindOf X=some .local∧T=cenv.locals)∨(cenv.kindOf X=some .cell∧cenv.cells.lookup X=some T∧T≠cenv.locals∧∃ v₀,h.IsCell T v₀))
theorem Tgt.at {cenv:Env}{X:Str}{T:Addr}{h h':Heap} (t:Tgt cenv X T h) (k1:∀ o,h.get? T=some o→h'.get? T=some o) (k2:∀ o,h.get? cenv.locals=some o→h'.get? cenv.locals=some o):Tgt cenv X T h':=by
 revert t; intro G7
 refine ae (G7) fun FY t=>?_
 try clear G7
 refine aj (FY) fun m hm=>?_
 try clear FY
 refine ⟨⟨m,hm.at' k2⟩,t.imp id fun t=>?_⟩
 refine cJ (t) fun a b c Gk=>?_
 try clear t
 refine au (Gk) fun v₀ o e d=>?_
 try clear Gk
 exact (bx a b c (aA v₀ o (k1 _ e) d))
theorem Tgt.onK {cenv:Env}{X:Str}{T:Addr}{h h':Heap} (t:Tgt cenv X T h) (k:K h h'):Tgt cenv X T h':=by
 revert t; intro HZ
 refine ae (HZ) fun FZ t=>?_
 try clear HZ
 refine aj (FZ) fun m hm=>?_
 try clear FZ
 refine ⟨⟨m,fc hm k⟩,t.imp id fun t=>?_⟩
 refine cJ (t) fun a b c Go=>?_
 try clear t
 refine aj (Go) fun v₀ d=>?_
 try clear Go
 exact (bx a b c (bJ v₀ (iN d k)))
theorem Tgt.nostay {cenv:Env}{X:Str}{T:Addr}{h:Heap} (t:Tgt cenv X T h) (o:Obj) (e:h.get? T=some o):¬ Stay o:=by
 revert t; intro HR
 refine ae (HR) fun F0 t=>?_
 try clear HR
 refine kA (F0) fun m o' es ep e' hd _=>?_
 try clear F0
 rcases t with t | t
 ·  rw [t.2,e'] at e; (have oc:=Option.some.inj e; clear e; subst oc); exact Stay.not_data (fun uu q=>by rw [hd] at q; cases q) fun uu uu q=>by rw [hd] at q; cases q
 ·  refine cJ (t) fun uu uu uu Gn=>?_
    try clear t
    refine au (Gn) fun v₀ o'' e'' hd'=>?_
    try clear Gn
    rw [e''] at e; (have oc:=Option.some.inj e; clear e; subst oc); exact Stay.not_data (fun uu q=>by rw [hd'] at q; cases q) fun uu uu q=>by rw [hd'] at q; cases q
theorem Tgt.noseq {cenv:Env}{X:Str}{T:Addr}{h:Heap} (t:Tgt cenv X T h) (o:Obj) (e:h.get? T=some o) (vs:Array Value) (n:Nat):o.data≠.seq vs n:=by
 revert t; intro Ii
 refine ae (Ii) fun F1 t=>?_
 try clear Ii
 refine kA (F1) fun m o' es ep e' hd _=>?_
 try clear F1
 intro q
 rcases t with t | t
 ·  rw [t.2,e'] at e; (have oc:=Option.some.inj e; clear e; subst oc); rw [hd] at q; cases q
 ·  refine cJ (t) fun uu uu uu Gu=>?_
    try clear t
    refine au (Gu) fun v₀ o'' e'' hd'=>?_
    try clear Gu
    rw [e''] at e; (have oc:=Option.some.inj e; clear e; subst oc); rw [hd'] at q; cases q
theorem so {A:Around}{cenv:Env}{X:Str}{px:Pos}{T:Addr}{v:Value}{s:Shared}{Q:Unit→Shared→Prop}{Er:Value→Shared→Prop} (hk:cenv.scope.kind = .function) (t:Tgt cenv X T s.heap)
    (h:∀ h' tk,Heap.SameBut T s.heap h'→Tgt cenv X T h'→VarIs h' cenv X v→Q () { s with heap:=h',toks:=tk }):wpAny (model prog w) A (assign (.Name X px) cenv v) Q Er s:=by
 revert t; intro G6
 refine ae (G6) fun F2 t=>?_
 try clear G6
 refine aj (F2) fun m hm=>?_
 try clear F2
 rcases t with ⟨t1,rfl⟩ | ⟨t1,t2,t3,v₀,t4⟩
 ·  exact wpAny_assign_Name (wpAny_storeName_local t1 hm (fun h' hn hs=>h h' _ hs ⟨⟨_,hn⟩,.inl ⟨t1,rfl⟩⟩ (.loc _ t1 hn (by simp))) (by rw [hk]; rfl))
 ·  exact wpAny_assign_Name (wpAny_storeName_cell hk t1 t2 t4 fun h' hn hs=>h h' s.toks hs ⟨⟨m,hm.sameBut hs (Ne.symm t3)⟩,.inr (bx t1 t2 t3 (bJ _ hn))⟩ (.cell T (.inl t1) t2 hn))
noncomputable def CI (f:PyData→Out (Option (V × Mode))) (x:String) (cenv:Env) (P:Addr→Prop) (s s₃:Shared) (ds:List PyData) (res:List PyData × Bool) (D T:Addr) (wr:List Addr) (St:Nat→Heap→Prop) (n:Nat) (s':Shared):Prop :=
 ∃ (h:Heap) (tk:Nat) (j:Nat) (vs:List Value) (ys:List PyData) (as:List Addr) (zs:List PyData) (dp b':Bool),s' = { s₃ with heap:=h,toks:=tk }∧St j h∧j≤ds.length∧n=ds.length + 1 - j∧h.PlainList D vs.toArray∧RA h vs ys as∧(∀ y∈ys,sz y=true)∧ys.length≤j ∧
      (∀ a∈as,a≠D∧(P a∨s.heap.get? a=none))∧(dp=true→(∀ a∈as,s.heap.get? a=none)∧as.Nodup)∧Tgt cenv (Str.ofString x) T h∧KG (fun b=>b∉D :: T :: wr) s₃.heap h ∧
      bw f (ds.drop j) = .ok (zs,b')∧res=(ys ++ zs,dp && b')
set_option maxHeartbeats 2000000 in
theorem tO {f:PyData→Out (Option (V × Mode))}{x:String}{px:Pos}{elt iter:Expr}{ifs:List Expr}{sc:Scope}{pos:Pos}{A:Around}{cenv:Env}{P:Addr→Prop}{s s₃:Shared}{Rr:Result→Shared→Prop}
    {ds:List PyData}{res:List PyData × Bool}{I D T:Addr}{fp wr F:List Addr}{Pw:Nat→Value→Prop}{St:Nat→Heap→Prop}
    (W:Walks prog w A I fp wr ds.length Pw St) (hst:St 0 s₃.heap) (hk:cenv.scope.kind = .function) (ks:K s.heap s₃.heap)
    (hwr:∀ b∈wr,s.heap.get? b=none∧b∉F∧∀ i h,St i h→∃ o,h.get? b=some o∧(hardB o=true∧o.cls≠.type "code" ∧ ∀ C,o.cls≠.ref C)∧∃ fs,o.data = .fields fs) (hFl:∀ b∈F,∃ vs n,s₃.heap.get? b=some ⟨.type "list", none,.seq vs n,#[]⟩) (hfp:∀ b∈fp,b∈wr∨b∈F)
    (hPw:∀ i v,Pw i v→∀ d,ds[i]? = some d→∃ bs,R s₃.heap v d bs∧∀ b∈bs,b∈F) (hFP:∀ a∈F,P a∨s.heap.get? a=none)
    (hFo:∀ b∈F,b≠D∧b≠T∧b≠cenv.locals) (hwo:∀ b∈wr,b≠D∧b≠T∧b≠cenv.locals) (hDT:D≠T) (hDL:D≠cenv.locals) (fD:s.heap.get? D=none) (fT:s.heap.get? T=none)
    (hsm:ds.length≤2 ^ 22∧∀ d∈ds,sz d=true) (hres:bw f ds = .ok res) (hD:s₃.heap.PlainList D #[]) (hT:Tgt cenv (Str.ofString x) T s₃.heap)
    (step:∀ d r,f d = .ok r→sz d=true→∀ {s₄:Shared}{Q₁:Shared→Prop}{Q₂:Value→Shared→Prop}{Er':Value→Shared→Prop} (v:Value) (bs:List Addr),VarIs s₄.heap cenv (Str.ofString x) v→R s₄.heap v d bs→(∀ b∈bs,(P b∨s.heap.get? b=none)∧b≠D)→K s.heap s₄.heap →
      (r=none→∀ s₅,Kp s₄ s₅→Q₁ s₅)→(∀ y,r=some y→∀ u s₅,EP (fun b=>(P b∨s.heap.get? b=none)∧b≠D) s₄ y u s₅→Q₂ u s₅) →
      wpAny (model prog w) A (forIn ifs true fun c r=>if r=true then do let ok ← isTrue c cenv (eval c cenv); pure (ForInStep.yield ok) else pure (ForInStep.yield r)) (fun ok s₅=>if ok=true then wpAny (model prog w) A (eval elt cenv) Q₂ Er' s₅ else Q₁ s₅) Er' s₄)
    (hR:∀ h tk vs as,h.PlainList D vs.toArray→RA h vs res.1 as→(∀ y∈res.1,sz y=true)→res.1.length≤2 ^ 22→(∀ a∈as,a≠D∧(P a∨s.heap.get? a=none))→(res.2=true→(∀ a∈as,s.heap.get? a=none)∧as.Nodup)→(∃ m,h.Ns cenv.locals m) →
      K s.heap h→Rr (.ok .next) { s₃ with heap:=h,toks:=tk }) :
    codeAny (model prog w) A (.compLoop (.ListComp elt [⟨.Name (Str.ofString x) px,iter,ifs,0⟩] sc pos) 0 (.ref I) (.ref D) cenv) Rr s₃:=by
 have offw:∀ i h as,St i h→Off h as wr:=fun i h as hs b hb o e=>by
    refine aq ((hwr b hb).2.2 i h hs) fun o' e' _ GA=>?_
    refine aj (GA) fun fs q=>?_
    try clear GA
    rw [e] at e'; (have oc:=Option.some.inj e'; clear e'; subst oc); exact .inl fun vs n q'=>by rw [q] at q'; cases q'
 have offT:∀ h as,Tgt cenv (Str.ofString x) T h→Off h as [T]:=fun h as t b hb o e=>by
    rw [List.mem_singleton.mp hb] at e
    exact .inl (t.noseq o e)
 have offD:∀ h as vs,Heap.PlainList h D vs→(∀ a∈as,a≠D)→Off h as [D]:=fun h as vs t hn b hb o e=>by
    rw [List.mem_singleton.mp hb] at e ⊢
    revert t; intro Hy
    refine aj (Hy) fun n t=>?_
    try clear Hy
    rw [t] at e; (have oc:=Option.some.inj e; clear e; subst oc)
    exact .inr ⟨by simp,fun hm=>hn D hm rfl⟩
 have notw:∀ i h,St i h→∀ b∈wr,∀ o,h.get? b=some o→¬ Stay o:=fun i h hs b hb o e=>by
    refine aq ((hwr b hb).2.2 i h hs) fun o' e' F4 GC=>?_
    refine aj (GC) fun fs q=>?_
    try clear GC
    refine ae (F4) fun uu hc=>?_
    try clear F4
    rw [e] at e'; (have oc:=Option.some.inj e'; clear e'; (clear uu; subst oc))
    exact fun x=>x.elim (fun x=>hc.1 x.1) fun x=>let ⟨_,vs,n,e⟩:=x; by rw [q] at e; cases e
 have outs:∀ b o,s.heap.get? b=some o→b∉D :: T :: wr:=fun b o e hb=>by
    rcases List.mem_cons.mp hb with rfl | hb
    · rw [fD] at e; exact nN e
    rcases List.mem_cons.mp hb with rfl | hb
    · rw [fT] at e; exact nN e
    · rw [(hwr b hb).1] at e; exact nN e
 have outF:∀ b∈F,b∉D :: T :: wr:=fun b hF hb=>by
    rcases List.mem_cons.mp hb with rfl | hb
    · exact (hFo _ hF).1 rfl
    rcases List.mem_cons.mp hb with rfl | hb
    · exact (hFo _ hF).2.1 rfl
    · exact (hwr b hb).2.1 hF
 refine codeAny_compLoop_tests
    (CI f x cenv P s s₃ ds res D T wr St) ?_ (ds.length + 1)
    (mZ s₃.heap s₃.toks 0 ([]) ([]) ([]) res.1 true res.2 rfl hst (Nat.zero_le _) rfl hD .nil (fun uu h=>(nomatch h)) (Nat.le_refl _) (fun uu h=>(nomatch h)) (fun uu=>⟨fun uu h=>(nomatch h),.nil⟩) hT KG.refl (by simpa using hres) (by simp))
 intro n s' F5
 refine zU (F5) fun h tk j vs ys as zs dp b' F6 hst' hj Ga hD' hra hys hyl has hdp hT' hkp hcl hrs=>?_
 try clear F5
 subst F6
 subst Ga
 have hDw:D∉wr:=fun h=>(hwo D h).1 rfl
 have hTw:T∉wr:=fun h=>(hwo T h).2.1 rfl
 have hLw:cenv.locals∉wr:=fun h=>(hwo _ h).2.2 rfl
 have kps:K s.heap h:=ks.step hkp outs
 by_cases hlt:j<ds.length
 ·  obtain ⟨d,hd⟩:∃ d,ds[j]? = some d:=⟨_,List.getElem?_eq_getElem hlt⟩
    have hdd:ds.drop j=d :: ds.drop (j + 1):=by
      rw [List.drop_eq_getElem_cons hlt]
      rw [List.getElem?_eq_getElem hlt] at hd
      (have oc:=Option.some.inj hd; clear hd; subst oc); rfl
    rw [hdd] at hcl
    refine az (qP hcl) fun r q' hf hq hcase=>?_
    refine W.item j _ _ _ hlt hst' fun v h₁ tk₁ hPv hst₁ hk₁=>?_
    have hk₁':∀ b o,b∉wr→h.get? b=some o→h₁.get? b=some o:=hk₁
    refine so hk (hT'.at (fun o e=>hk₁' _ o hTw e) fun o e=>hk₁' _ o hLw e) fun h₂ tk₂ hs₂ hT₂ hv₂=>?_
    have hs₂':∀ b o,b∉[T]→h₁.get? b=some o→h₂.get? b=some o:=fun b o hb e=>hs₂.extBut b o (fun q=>hb (by simp [q])) e
    have hst₂:St (j + 1) h₂:=W.frame _ _ _ hst₁ fun b hb o e=>hs₂' b o (fun q=>by
      rw [List.mem_singleton.mp q] at hb
      rcases hfp _ hb with hb | hb
      · exact hTw hb
      · exact (hFo _ hb).2.1 rfl) e
    have hra₂:RA h₂ vs ys as:=(hra.off (offw j h as hst') hk₁').off (offT h₁ as (hT'.at (fun o e=>hk₁' _ o hTw e) fun o e=>hk₁' _ o hLw e)) hs₂'
    have kT:KG (fun b=>b∉[T]) h₁ h₂:=.ofW hs₂' fun b hb o e=>by
      rw [List.mem_singleton.mp hb] at e
      exact (hT'.at (fun o e=>hk₁' _ o hTw e) fun o e=>hk₁' _ o hLw e).nostay o e
    have hkp₂:KG (fun b=>b∉D :: T :: wr) s₃.heap h₂:=(hkp.trans ((KG.ofW hk₁' (notw j h hst')).mono fun b hb q=>hb (by simp [q]))).trans (kT.mono fun b hb q=>hb (by rw [List.mem_singleton.mp q]; simp))
    refine ag (hPw j v hPv d hd) fun bs hrv hbs=>?_
    have hrv₂:R h₂ v d bs:=hrv.onG hkp₂ fun b hb=>outF b (hbs b hb)
    have kps₂:K s.heap h₂:=ks.step hkp₂ outs
    have hfpH:∀ b∈fp,∀ o,h₂.get? b=some o→hardB o=true:=fun b hb o e=>by
      rcases hfp b hb with hb | hb
      · refine aq ((hwr b hb).2.2 _ _ hst₂) fun o' e' F9 _=>?_
        refine ae (F9) fun hh _=>?_
        try clear F9
        rw [e] at e'; (have oc:=Option.some.inj e'; clear e'; subst oc); exact hh
      · refine bi (hFl b hb) fun vs' n' e'=>?_
        rw [hkp₂.hard (.inl (outF b hb)) e' rfl] at e
        (have oc:=Option.some.inj e; clear e; subst oc); rfl
    have hD₂:h₂.PlainList D vs.toArray:=(hD'.at fun o e=>hk₁' _ o hDw e).at fun o e=>hs₂' _ o (by simpa using hDT) e
    have hzd:sz d=true:=hsm.2 d (List.mem_of_getElem? hd)
    refine step d r hf hzd (s₄:={ s₃ with heap:=h₂,toks:=tk₂ }) v bs hv₂ hrv₂ (fun b hb=>⟨hFP b (hbs b hb),(hFo b (hbs b hb)).1⟩) kps₂ (fun hr s₅ k₅=>?_) fun y hy u s₅ E₅=>?_
    · (clear hf; subst hr)
      refine au (k₅) fun h₅ tk₅ Gh hk₅=>?_
      try clear k₅
      subst Gh
      rcases hcase with ⟨_,hcase⟩ | ⟨_,_,hcase,_⟩
      · subst hcase
        refine (ah (ds.length + 1 - (j + 1)) (by exact rz hlt) (mZ h₅ tk₅ (j + 1) vs ys as zs dp b' rfl (W.frame _ _ _ hst₂ fun b hb o e=>hk₅.get e (hfpH b hb o e)) hlt rfl (aj (hD₂) fun n e=>⟨n,hk₅.get e rfl⟩) (hra₂.k hk₅) hys (by exact Nat.le_succ_of_le (by assumption)) has hdp (hT₂.onK hk₅) (hkp₂.trans (hk₅.mono fun uu uu=>trivial)) hq hrs))
      · exact nN hcase
    · obtain ⟨Gi,bs',hrv₅,hb1,hb2,hb3⟩:=E₅
      refine au (Gi) fun h₅ tk₅ Gj hk₅=>?_
      try clear Gi
      subst Gj
      dsimp only at hk₅ hrv₅ hb1 hb2 hb3
      rcases hcase with ⟨hcase,_⟩ | ⟨z,m,hcase,hq2⟩
      · rw [hy] at hcase; exact nM hcase
      · rw [hy] at hcase; (have oc:=Option.some.inj hcase; clear hcase; (clear hb2 hy; subst oc))
        revert hrv₅; intro Ia
        refine ae (Ia) fun hrv₅ hz₅=>?_
        try clear Ia
        have hD₅:h₅.PlainList D vs.toArray:=aj (hD₂) fun n e=>⟨n,hk₅.get e rfl⟩
        have hbD:∀ a∈bs',a≠D:=fun a ha q=>by
          rcases hb1 a ha with h | h
          · exact h.2 q
          · refine aj (hD₂) fun n e=>?_
            try clear hD₂
            rw [q,e] at h; exact nM h
        have hra₅:=(hra₂.k hk₅).append (.cons hrv₅ .nil)
        have hl:vs.length=ys.length:=hra.length
        refine wpAny_list_append_plain (hsz:=by rw [List.size_toArray,hl]; unfold sizeLine; exact DH hsm hyl hlt) hD₅ fun h₆ hl₆ hs₆=>?_
        have hs₆':∀ b o,b∉[D]→h₅.get? b=some o→h₆.get? b=some o:=fun b o hb e=>hs₆.extBut b o (fun q=>hb (by simp [q])) e
        have hne:∀ a∈as ++ (bs' ++ []),a≠D:=fun a ha=>by
          rcases List.mem_append.mp ha with ha | ha
          · exact (has a ha).1
          · exact hbD a (by simpa using ha)
        cases hq2
        refine (ah (ds.length + 1 - (j + 1)) (by exact rz hlt) (mZ h₆ tk₅ (j + 1) (vs ++ [u]) (ys ++ [z]) (as ++ (bs' ++ [])) q'.1 (dp && decide (m = .deep)) q'.2 rfl ?_ hlt rfl ?_ (hra₅.off (offD h₅ _ _ hD₅ hne) hs₆') ?_ ?_ ?_ ?_ ?_ ?_ ?_ ?_))
        · refine W.frame _ _ _ hst₂ fun b hb o e=>hs₆' b o (fun q=>?_) (hk₅.get e (hfpH b hb o e))
          rw [List.mem_singleton.mp q] at hb
          rcases hfp _ hb with hb | hb
          · exact hDw hb
          · exact (hFo _ hb).1 rfl
        · simpa using hl₆
        · intro y hy'
          rcases List.mem_append.mp hy' with h | h
          · exact hys y h
          · rw [List.mem_singleton.mp h]; exact hz₅
        · rw [List.length_append,List.length_singleton]; exact mG hyl
        · intro a ha
          refine ⟨hne a ha,?_⟩
          rcases List.mem_append.mp ha with ha | ha
          · exact (has a ha).2
          · rcases hb1 a (by simpa using ha) with h | h
            · exact h.1
            · right
              cases e:s.heap.get? a with
              | none=>rfl
              | some o=>obtain ⟨_,e'⟩:=kps₂.there e; rw [e'] at h; exact nM h
        · intro hdm
          simp only [Bool.and_eq_true,decide_eq_true_eq] at hdm
          refine ae (hdm) fun hd1 hd2=>?_
          try clear hdm
          refine ae (hdp hd1) fun g1 g2=>?_
          refine ae (hb3 hd2) fun g3 g4=>?_
          refine ⟨fun a ha=>?_,?_⟩
          · rcases List.mem_append.mp ha with ha | ha
            · exact g1 a ha
            · have h:=g3 a (by simpa using ha)
              cases e:s.heap.get? a with
              | none=>rfl
              | some o=>obtain ⟨_,e'⟩:=kps₂.there e; rw [e'] at h; exact nM h
          · rw [List.append_nil,List.nodup_append]
            refine ⟨g2,g4,fun a ha b hb q=>?_⟩
            subst q
            refine bi (hra₂.there a ha) fun uu uu e=>?_
            rw [g3 a hb] at e; exact nN e
        · exact (hT₂.onK hk₅).at (fun o e=>hs₆' _ o (by simpa using Ne.symm hDT) e) fun o e=>hs₆' _ o (by simpa using Ne.symm hDL) e
        · refine (hkp₂.trans (hk₅.mono fun uu uu=>trivial)).trans ((KG.ofW hs₆' fun b hb o e=>?_).mono fun b hb q=>hb (by rw [List.mem_singleton.mp q]; simp))
          refine aj (hD₅) fun n e₅=>?_
          try clear hD₅
          rw [List.mem_singleton.mp hb,e₅] at e
          (have oc:=Option.some.inj e; clear e; subst oc)
          exact Stay.not_cls (by simp) (by simp)
        · exact hq
        · rw [hrs]; simp [Bool.and_assoc]
 ·  have hjl:j=ds.length:=by exact wx hj hlt
    (clear hj hlt; subst hjl)
    rw [List.drop_length] at hcl
    cases hcl
    refine W.done _ _ _ hst' fun h₁ tk₁ hk₁=>?_
    have hk₁':∀ b o,b∉wr→h.get? b=some o→h₁.get? b=some o:=hk₁
    have e1:res=(ys,dp):=by rw [hrs]; simp
    (clear hres hrs; subst e1)
    refine hR h₁ tk₁ vs as (hD'.at fun o e=>hk₁' _ o hDw e) (hra.off (offw _ h as hst') hk₁') hys (Nat.le_trans hyl hsm.1) has hdp ((hT'.at (fun o e=>hk₁' _ o hTw e) fun o e=>hk₁' _ o hLw e).1) (kps.step (KG.ofW hk₁' (notw _ h hst')) fun b o e q=>by rw [(hwr b q).1] at e; cases e)
end
end Mine
namespace Mine
open PySem PyProof.Rows
section
variable {fns:Fns}{k:Nat}{C:Calls}{XP:String→Shared→Value→Shared→Prop}
theorem lm {ns:List (Str × NameKind)}{it:It}{ex:Expr} (ok:fP ns it ex=true) (env:Env) (v:Value):foldedSetIterable ex env v=pure v:=by
 cases ex with
 | Set es p=>
    cases it with
    | e a=>exfalso; cases a <;> exact Bool.noConfusion (show false=true from ok)
    | r1 n=>exact Bool.noConfusion (show false=true from ok)
    | r2 a b=>exact Bool.noConfusion (show false=true from ok)
 | _=>rfl
set_option maxHeartbeats 1000000 in
theorem eN {RR:Value→Addr→Result→Shared→Prop}{f:PyData→Out (Option (V × Mode))}{x:String}{px:Pos}{elt iter:Expr}{ifs:List Expr}{sc:Scope}{pos:Pos}{A:Around}{env:Env}{σ:St}{P:Addr→Prop}{s:Shared}{Er:Value→Shared→Prop}
    {ds:List PyData}{res:List PyData × Bool} (hsc:f7 env.scope.names sc x=true) (X:Cx fns k A P s.heap env σ) (hres:bw f ds = .ok res)
    (step:∀ d r,f d = .ok r→∀ {cenv:Env}{s₃:Shared}{P':Addr→Prop}{Q₁:Shared→Prop}{Q₂:Value→Shared→Prop}{Er':Value→Shared→Prop},cenv.scope.names=eH env.scope.names sc.names→Cx fns k A P' s₃.heap cenv (upd σ x (mk (.d d))) →
      (r=none→∀ s₄,Kp s₃ s₄→Q₁ s₄)→(∀ y,r=some y→∀ v s₄,EP P' s₃ y v s₄→Q₂ v s₄) →
      wpAny (model prog w) A (forIn ifs true fun c r=>if r=true then do let ok ← isTrue c cenv (eval c cenv); pure (ForInStep.yield ok) else pure (ForInStep.yield r)) (fun ok s₄=>if ok=true then wpAny (model prog w) A (eval elt cenv) Q₂ Er' s₄ else Q₁ s₄) Er' s₃)
    {m:Mode}{i:Value}{s₂:Shared} (I:ItP A P s ds m i s₂)
    (hR:∀ D C h tk m,EP P s (.d (.list res.1),if res.2 then .deep else .top) (.ref D) { s₂ with heap:=h,toks:=tk }→h.Ns C m→s.heap.get? C=none→RR (.ref D) C (.ok .next) { s₂ with heap:=h,toks:=tk }) {cl:List (Str × Addr)} (hcl:∀ n,(n,NameKind.free)∈sc.names→cl.lookup n=env.cells.lookup n) :
    wpAny (model prog w) A (newObj (.type "list") (.seq #[]) none) (fun acc s₃=>
      wpAny (model prog w) A (newFunctionEnv sc env.globals cl [] env.qual none .none (some env)) (fun cenv s₄=>
        codeAny (model prog w) A (.compStart (.ListComp elt [⟨.Name (Str.ofString x) px,iter,ifs,0⟩] sc pos) 0 i acc { cenv with scope:=relabel sc env }) (RR acc cenv.locals) s₄) Er s₃) Er s₂:=by
 refine cJ (gS hsc) fun hk hnd htg hnames=>?_
 obtain ⟨kp₂,FW,hsm⟩:=I
 refine sm (FW) fun I fp wr Pw St F FX W hst hwr hfp hPw hF hFP _=>?_
 try clear FW
 subst FX
 refine wpAny_newObj_type (yQ fun h₃ eh₃=>?_)
 have hsz:(s₂.heap.push { cls:=.type "list", data:=.seq #[] }).objs.size=s₂.heap.objs.size + 1:=Heap.size_push ..
 dsimp only at eh₃ ⊢
 rw [hsz]
 generalize hD:s₂.heap.objs.size=D at *
 obtain ⟨c1,c2,c3⟩:=iv (X:=Str.ofString x) sc.names ((s₂.heap.push { cls:=.type "list", data:=.seq #[] }).push { cls:=.type "dict", data:=.dict #[] }) cl (fun p hp e=>by
    rcases hnames p hp with h | h | h | h
    · rw [h.1] at e; cases e
    · rw [h] at e; cases e
    · exact h.2
    · rw [h.1] at e; cases e) hnd
 rw [Heap.size_push,hsz] at c1 c2 c3
 rw [← eh₃] at c2
 have hn₂:∀ b o,s₂.heap.get? b=some o→h₃.get? b=some o:=fun b o e=>by
    rw [eh₃]; exact pushCells_keeps _ _ _ _ (Heap.get?_push_of_some _ (Heap.get?_push_of_some _ e))
 have hD₃:h₃.PlainList D #[]:=⟨0,by rw [eh₃]; exact pushCells_keeps _ _ _ _ (Heap.get?_push_of_some _ (hD▸Heap.get?_push_size _ rfl))⟩
 have hL₃:h₃.Ns (D + 1) (fun uu=>none):=by
    have:=Heap.Ns.new (s₂.heap.push { cls:=.type "list", data:=.seq #[] }) (.type "dict")
    rw [hsz] at this
    rw [eh₃]
    exact this.keeps (pushCells_keeps _ _)
 have old:∀ b,(∃ o,s₂.heap.get? b=some o)→b<D:=fun b ⟨o,e⟩=>hD▸Heap.lt_size e
 have fresh':∀ b,D≤b→s.heap.get? b=none:=fun b hb=>by
    cases e:s.heap.get? b with
    | none=>rfl
    | some o=>exact absurd (old b (kp₂.k.there e)) (Nat.not_lt.mpr hb)
 obtain ⟨T,hT,hTD,hkc⟩:∃ T,Tgt { scope:=relabel sc env,locals:=D + 1,globals:=env.globals,cells:=cellsFrom (D + 1 + 1) sc.names cl,qual:=env.qual,func:=none,code:=env.code,frame:=env.frame,builtins:=env.builtins } (Str.ofString x) T h₃∧D + 1≤T ∧
      (sc.names.lookup (Str.ofString x)=some .cell→(cellsFrom (D + 1 + 1) sc.names cl).lookup (Str.ofString x)=some T):=by
    have hkd:(relabel sc env).names.lookup (Str.ofString x)=(sc.names.lookup (Str.ofString x)).map fun kd=>if kd == .free && env.scope.names.lookup (Str.ofString x) == some .cell then .cell else kd:=by
      rw [eI X.eok.kind]; exact fV
    rcases htg with ht | ht
    · refine (ax (D + 1) ⟨⟨_,hL₃⟩,.inl ⟨?_,rfl⟩⟩ (Nat.le_refl _) (fun q=>?_))
      · show (relabel sc env).names.lookup _=_
        rw [hkd,ht]; rfl
      · rw [ht] at q; cases q
    · refine aq (c2 ht) fun c g1 g2 g3=>?_
      refine (ax c ⟨⟨_,hL₃⟩,.inr (bx ?_ g1 ?_ (bJ _ g2))⟩ (Nat.le_of_succ_le g3) (fun uu=>g1))
      · show (relabel sc env).names.lookup _=_
        rw [hkd,ht]; rfl
      · exact Nat.ne_of_gt g3
 have hst₃:St 0 h₃:=W.frame _ _ _ hst fun b _ o e=>hn₂ b o e
 refine codeAny_compStart_list ?_ ?_
 all_goals
    first
    | (refine W.self 0 _ _ _ hst₃ ?_)
    | skip
 all_goals
    refine tO (s:=s) (P:=P) (T:=T) W hst₃ hk (KG.trans kp₂.k (K.of hn₂)) hwr (fun b hb=>bi (hF b hb) fun vs n e=>(bE vs n (hn₂ _ _ e))) hfp (fun i v hv d hd=>ag (hPw i v hv d hd) fun bs h1 h2=>(ah bs (h1.keep hn₂) h2)) hFP (fun b hb=>?_) (fun b hb=>?_) (Nat.ne_of_lt hTD) (Nat.ne_of_lt (Nat.lt_succ_self D)) (fresh' D (Nat.le_refl _)) (fresh' T (Nat.le_of_succ_le hTD)) hsm hres hD₃ hT ?_ ?_
    · refine bi (hF b hb) fun uu uu e=>?_
      have:=old b ⟨_,e⟩
      exact ⟨Nat.ne_of_lt this,Nat.ne_of_lt (Nat.lt_of_lt_of_le this (Nat.le_of_succ_le hTD)),Nat.ne_of_lt (Nat.lt_succ_of_lt this)⟩
    · refine ag ((hwr b hb).2.2 0 _ hst) fun o e _=>?_
      have:=old b ⟨_,e⟩
      exact ⟨Nat.ne_of_lt this,Nat.ne_of_lt (Nat.lt_of_lt_of_le this (Nat.le_of_succ_le hTD)),Nat.ne_of_lt (Nat.lt_succ_of_lt this)⟩
    · intro d r hf hz s₄ Q₁ Q₂ Er' v bs hv hr hbs kps h1 h2
      refine step d r hf (eI X.eok.kind) (xV hsc (eI X.eok.kind) hk rfl rfl (fun n hn=>?_) (fun q=>⟨T,hkc q⟩) rfl X kps hv hr hz hbs fun a ha hex=>⟨.inl ha,fun q=>?_⟩) h1 h2
      · show (cellsFrom (D + 1 + 1) sc.names cl).lookup n=_
        rw [c1 n fun q=>?_,hcl n hn]
        subst q
        have:=ig hnd hn
        rw [this] at htg
        rcases htg with q | q <;> cases q
      · (clear h2 hD₃ hL₃ hT hTD hbs hkc hsz hv old; subst q)
        refine aj (hex) fun o e=>?_
        try clear hex
        rw [fresh' _ (Nat.le_refl _)] at e; exact nN e
    · intro h tk vs as hp hra hys hyl has hdp hm hkp
      revert hm; intro Gw
      refine aj (Gw) fun m' hm=>?_
      try clear Gw
      refine aj (hp) fun n hpl=>?_
      try clear hp
      refine hR D (D + 1) h tk m' ?_ hm (fresh' _ (Nat.le_succ D))
      refine au (kp₂) fun hh₂ tk₂ FY hkk₂=>?_
      try clear kp₂
      (clear eh₃ hF hPw hR hn₂ hst hsz old; subst FY)
      refine ⟨(aA h tk rfl hkp),D :: as,⟨.list hpl hra,sz_list.mpr ⟨hyl,hys⟩⟩,?_,?_,?_⟩
      · intro a ha
        rcases List.mem_cons.mp ha with rfl | ha
        · exact .inr (fresh' _ (Nat.le_refl _))
        · exact (has a ha).2
      · exact fun uu=>(aS D as rfl (fresh' _ (Nat.le_refl _)) (fun q=>(has D q).1 rfl))
      · intro hm'
        dsimp only at hm'
        have hb:res.2=true:=by
          cases e:res.2 with
          | true=>rfl
          | false=>rw [e] at hm'; cases hm'
        refine ⟨fun a ha=>?_,List.nodup_cons.mpr ⟨fun q=>(has D q).1 rfl,(hdp hb).2⟩⟩
        rcases List.mem_cons.mp ha with rfl | ha
        · exact fresh' _ (Nat.le_refl _)
        · exact (hdp hb).1 a ha
theorem R.sameBut {h h':Heap}{C:Addr}{m:Str→Option Value}{v:Value}{d:PyData}{as:List Addr} (r:R h v d as) (hm:h.Ns C m) (hs:Heap.SameBut C h h'):R h' v d as:=by
 refine r.off (wr:=[C]) (fun b hb o e=>?_) fun b o hb e=>hs.extBut b o (fun q=>hb (by simp [q])) e
 rw [List.mem_singleton.mp hb] at e
 refine aL (hm) fun o' es ep e' hd _=>?_
 try clear hm
 rw [e'] at e; (have oc:=Option.some.inj e; clear e; subst oc)
 exact .inl fun vs n q=>by rw [hd] at q; cases q
theorem EP.sameBut {P:Addr→Prop}{s s₂:Shared}{h h':Heap}{tk:Nat}{C:Addr}{m:Str→Option Value}{d:PyData}{md:Mode}{v:Value} (E:EP P s (.d d,md) v { s₂ with heap:=h,toks:=tk }) (hm:h.Ns C m) (hC:s.heap.get? C=none) (hs:Heap.SameBut C h h') :
    EP P s (.d d,md) v { s₂ with heap:=h',toks:=tk }:=by
 obtain ⟨FZ,as,F0,r1,r2,r3⟩:=E
 refine au (FZ) fun hh tk' e kp=>?_
 try clear FZ
 refine ae (F0) fun r z=>?_
 try clear F0
 cases s₂; cases s; cases e
 refine aL (id hm) fun o' es ep e' hd _=>?_
 refine ⟨(aA h' tk rfl (K.step kp (KG.ofW (wr:=[C]) (fun b o hb e=>hs.extBut b o (fun q=>hb (by simp [q])) e) fun b hb o e=>?_) fun b o e q=>?_)),as,⟨R.sameBut r hm hs,z⟩,r1,r2,r3⟩
 ·  rw [List.mem_singleton.mp hb,e'] at e; (have oc:=Option.some.inj e; clear e; subst oc)
    exact Stay.not_data (fun uu q=>by rw [hd] at q; cases q) fun uu uu q=>by rw [hd] at q; cases q
 ·  rw [List.mem_singleton.mp q,hC] at e; exact nN e
theorem lC {x:String}{px:Pos}{elt iter:Expr}{ifs:List Expr}{sc:Scope}{pos:Pos}{A:Around}{env:Env}{σ:St}{P:Addr→Prop}{s:Shared}{Q:Value→Shared→Prop}{Er:Value→Shared→Prop}{h:Heap}
    (hsc:f7 env.scope.names sc x=true) (X:Cx fns k A P h env σ) (hset:∀ v,foldedSetIterable iter env v=pure v)
    (h:∀ cl:List (Str × Addr),(∀ n,(n,NameKind.free)∈sc.names→cl.lookup n=env.cells.lookup n)→wpAny (model prog w) A (eval iter env) (fun v s₁=>wpAny (model prog w) A (pyIter v) (fun i s₂=>wpAny (model prog w) A (newObj (.type "list") (.seq #[]) none) (fun acc s₃=>
      wpAny (model prog w) A (newFunctionEnv sc env.globals cl [] env.qual none .none (some env)) (fun cenv s₄=>
        codeAny (model prog w) A (.compStart (.ListComp elt [⟨.Name (Str.ofString x) px,iter,ifs,0⟩] sc pos) 0 i acc { cenv with scope:=relabel sc env }) (compPost (model prog w) A Er none Q acc cenv.locals) s₄) Er s₃) Er s₂) Er s₁) Er s) :
    wpAny (model prog w) A (eval (.ListComp elt [⟨.Name (Str.ofString x) px,iter,ifs,0⟩] sc pos) env) Q Er s:=by
 refine cJ (gS hsc) fun hk hnd htg hnames=>?_
 obtain ⟨cl,hcl,hclk⟩:=kP (scope:=sc) (env:=env) (fun p hp e=>by
    rcases hnames p hp with h | h | h | h
    · rw [h.1] at e; cases e
    · rw [h] at e; cases e
    · rw [h.1] at e; cases e
    · exact X.eok.cells p.1 h.2)
 rw [eval_ListComp]
 exact wpAny_comprehension_free (use:=none) rfl hset hcl hk (fun y hy e=>by rw [← e]; exact ig hnd hy) (h cl hclk)
theorem ei {α:Type}{o:Out α} (h:o.calm≠.bad):∃ a,o = .ok a:=by
 cases o with
 | ok a=>exact ⟨a,rfl⟩
 | exc c=>exact absurd rfl h
 | bad=>exact absurd rfl h
theorem vn {elt:E}{x:String}{it:It} (Si:dB fns k C XP it) (Se:SimE fns k C XP elt):SimE fns k C XP (.comp elt x it):=by
 intro ex A env σ P s Q Er ok X nb hQ hE
 replace ok:=sA ok
 revert ok; refine fun F8=>Or.elim F8 (fun F3=>?_) (fun ok=>?_)
 ·  clear F8
    refine mI (F3) fun GD GL Hg GX Hk GV HE ok=>?_
    clear F3
    subst HE
    simp only [Bool.and_eq_true,beq_iff_eq] at ok
    refine ae (ok) fun F1 oe=>?_
    try clear ok
    refine ae (F1) fun F2 oi=>?_
    try clear F1
    refine ae (F2) fun F4 hsc=>?_
    try clear F2
    subst F4
    simp only [gL] at nb hQ hE
    refine aQ nb fun n1 n2=>?_
    refine lC hsc X (lm oi env) fun cl hcl=>Si oi X n1 (fun q hq i s₂ I=>?_) fun c hc=>hE c (by rw [hc]; rfl)
    refine aj (ei (a8 (n2 q hq)).1) fun res hres=>?_
    refine eN (RR:=fun acc C=>compPost (model prog w) A Er none Q acc C) (ds:=q.1) hsc X hres (fun d r hf cenv s₃ P' Q₁ Q₂ Er' hN X' h1 h2=>wpAny_tests_nil ?_) I (fun D C h tk m E hm hC=>(ah m hm (fun h' hs=>hQ _ (by rw [hq,Out.ok_bind,hres]; rfl) _ _ (E.sameBut hm hC hs)))) hcl
    rw [if_pos rfl]
    refine Out.bind_k hf fun y hy e=>?_
    (have oc:=Out.ok.inj e; clear e; (clear h1 hf; subst oc))
    refine Se (hN▸oe) X' (by rw [hy]; simp) (fun r hr v s' E=>h2 r (by rw [hy] at hr; (have oc:=Out.ok.inj hr; clear hr; (clear E; subst oc)); rfl) v s' E) fun c hc=>by rw [hy] at hc; cases hc
 ·  cases ok
theorem rH {elt c:E}{x:String}{it:It} (Si:dB fns k C XP it) (Se:SimE fns k C XP elt) (Sc:SimT fns k C XP c):SimE fns k C XP (.compif elt x it c):=by
 intro ex A env σ P s Q Er ok X nb hQ hE
 replace ok:=oH ok
 revert ok; refine fun Gb=>Or.elim Gb (fun F7=>?_) (fun ok=>?_)
 ·  clear Gb
    refine jl (F7) fun He GZ G9 Hz Hp Ho HG HD ok=>?_
    clear F7
    subst HD
    simp only [Bool.and_eq_true,beq_iff_eq] at ok
    refine ae (ok) fun F5 oe=>?_
    try clear ok
    refine ae (F5) fun F6 oc=>?_
    try clear F5
    refine ae (F6) fun Ga oi=>?_
    try clear F6
    refine ae (Ga) fun F9 hsc=>?_
    try clear Ga
    subst F9
    simp only [eP] at nb hQ hE
    refine aQ nb fun n1 n2=>?_
    refine lC hsc X (lm oi env) fun cl hcl=>Si oi X n1 (fun q hq i s₂ I=>?_) fun c hc=>hE c (by rw [hc]; rfl)
    refine aj (ei (a8 (n2 q hq)).1) fun res hres=>?_
    refine eN (RR:=fun acc C=>compPost (model prog w) A Er none Q acc C) (ds:=q.1) hsc X hres (fun d r hf cenv s₃ P' Q₁ Q₂ Er' hN X' h1 h2=>wpAny_tests_one ?_) I (fun D C h tk m E hm hC=>(ah m hm (fun h' hs=>hQ _ (by rw [hq,Out.ok_bind,hres]; rfl) _ _ (E.sameBut hm hC hs)))) hcl
    refine Out.bind_k hf fun t ht hf=>?_
    refine Out.bind_k hf fun b hb hf=>?_
    refine Sc (hN▸oc) X' (by rw [ht,Out.ok_bind,hb]; simp) (fun b' hb' s₄ k₄=>?_) fun c hc=>by rw [ht] at hc; cases hc
    rw [ht,Out.ok_bind,hb] at hb'
    (have oc:=Out.ok.inj hb'; clear hb'; subst oc)
    cases b with
    | false=>(have oc:=Out.ok.inj hf; clear hf; (clear h2; subst oc)); simpa using h1 rfl s₄ k₄
    | true=>
      rw [if_pos rfl] at hf ⊢
      refine Out.bind_k hf fun y hy e=>?_
      (have oc:=Out.ok.inj e; clear e; (clear h1; subst oc))
      exact Se (hN▸oe) (X'.k k₄.k) (by rw [hy]; simp) (fun r hr v s' E=>h2 r (by rw [hy] at hr; (have oc:=Out.ok.inj hr; clear hr; (clear E; subst oc)); rfl) v s' (E.after k₄)) fun c hc=>by rw [hy] at hc; cases hc
 ·  cases ok
end
end Mine
namespace Mine
open PySem PyProof.Rows
theorem iw (val:Nat→Int):∀ k,argBest (fun i j=>decide (val i > val j)) k≤k∧∀ j,j≤k→val j≤val (argBest (fun i j=>decide (val i > val j)) k)
 | 0=>⟨Nat.le_refl _,fun j hj=>by
    have:j=0:=by exact BW hj
    (clear hj; subst this)
    exact Int.le_refl _⟩
 | k + 1=>by
    refine ae (iw val k) fun h1 h2=>?_
    unfold argBest
    by_cases hc:val (k + 1) > val (argBest (fun i j=>decide (val i > val j)) k)
    · rw [if_pos (by simpa using hc)]
      refine ⟨Nat.le_refl _,fun j hj=>?_⟩
      by_cases e:j=k + 1
      · (clear hj; subst e); exact Int.le_refl _
      · have:=h2 j (by exact xh hj e); exact CQ hc this
    · rw [if_neg (by simpa using hc)]
      refine ⟨by exact Nat.le_succ_of_le (by assumption),fun j hj=>?_⟩
      by_cases e:j=k + 1
      · (clear hj; subst e); exact AU hc
      · exact h2 j (by exact xh hj e)
theorem mU {ns:List Int}{m:Int} (h:iG ns=some m):ns[argBest (fun i j=>decide (ns[i]?.getD 0 > ns[j]?.getD 0)) (ns.length - 1)]?.getD 0=m:=by
 refine ae (iw (fun i=>ns[i]?.getD 0) (ns.length - 1)) fun h1 h2=>?_
 refine ae (lS h) fun hm1 hm2=>?_
 have hn:0<ns.length:=List.length_pos_of_mem hm1
 generalize argBest (fun i j=>decide (ns[i]?.getD 0 > ns[j]?.getD 0)) (ns.length - 1)=b at *
 have hb:ns[b]? = some ns[b]:=List.getElem?_eq_getElem (by exact CF hn h1)
 rw [hb]
 dsimp only [Option.getD_some]
 have le1:=hm2 ns[b] (List.getElem_mem _)
 refine aj (List.getElem_of_mem hm1) fun j Gk=>?_
 refine aj (Gk) fun hj e=>?_
 try clear Gk
 have le2:=h2 j (by exact AT hj)
 rw [hb,List.getElem?_eq_getElem hj,e] at le2
 simp only [Option.getD_some] at le2
 exact xx le1 le2
section
variable {fns:Fns}{k:Nat}{C:Calls}{XP:String→Shared→Value→Shared→Prop}
variable {va:Value}{as:List Addr}{A:Around}{P:Addr→Prop}{s:Shared}{Q:Value→Shared→Prop}{Er:Value→Shared→Prop}
theorem yv {vs:List Value}{ns:List Int} (h:IntsAre vs ns):∀ {i:Nat}{v:Value},vs[i]? = some v→∃ t,v = .int (ns[i]?.getD 0) t:=by
 induction h with
 | nil=>intro i v h; simp at h
 | cons n t _ ih=>
    intro i v h
    cases i with
    | zero=>simp at h; exact ⟨t,by simp [← h]⟩
    | succ i=>simpa using ih (by simpa using h)
theorem rO {xs:List PyData}{ns:List Int}{G:Value→Shared→Prop} (hh:A.handled=none) (ra:R s.heap va (.list xs) as) (hi:aM xs=some ns)
    (hG:∀ I fp wr Pw St s₂,Walks prog w A I fp wr ns.length Pw St→St 0 s₂.heap→(∀ b∈fp,b<s₂.heap.objs.size)→(∀ i v,Pw i v→∃ t,v = .int (ns[i]?.getD 0) t)→(∀ b∈wr,s.heap.get? b=none∧∀ o,s₂.heap.get? b=some o→¬ Stay o)→Kp s s₂→G (.ref I) s₂) :
    wpAny (model prog w) A (pyIter va) G Er s:=by
 refine ra.isList_k fun a vs n cs FW ea ra' FX=>?_
 (clear ra; subst FW)
 subst FX
 refine aD (ra'.ints hi) fun hI FY FZ=>?_
 subst FY
 subst FZ
 have e:vs.toArray.size=ns.length:=by rw [List.size_toArray,ra'.length,List.length_map]
 have W:=Walks.list (prog:=prog) (w:=w) (A:=A) hh s.heap.objs.size a (dZ ea) vs.toArray
 rw [e] at W
 refine wpAny_pyIter_list (isL ea) (hG _ _ _ _ _ _ W ⟨(ax _ (Heap.get?_push_size _ rfl) rfl rfl),(isL ea).push _⟩ ?_ ?_ ?_ (.push s _ _))
 ·  intro b hb
    rw [show _=s.heap.objs.size + 1 from Heap.size_push ..]
    rcases List.mem_cons.mp hb with rfl | hb
    · exact Nat.lt_succ_self _
    · rw [List.mem_singleton.mp hb]; exact Nat.lt_succ_of_lt (Heap.lt_size ea)
 ·  intro i v hv
    exact yv hI (by simpa using hv)
 ·  intro b hb
    rw [List.mem_singleton.mp hb]
    refine ⟨be _,fun o e=>?_⟩
    rw [show _=some _ from Heap.get?_push_size _ rfl] at e
    (have oc:=Option.some.inj e; clear e; subst oc)
    exact Stay.not_cls (by simp) (by simp)
theorem Kp.after {s s₂:Shared}{h':Heap}{tk:Nat}{wr:List Addr} (kp:Kp s s₂) (hwr:∀ b∈wr,s.heap.get? b=Option.none∧∀ o,s₂.heap.get? b=some o→¬ Stay o) (hk:∀ b o,b∉wr→s₂.heap.get? b=some o→h'.get? b=some o):Kp s { s₂ with heap:=h',toks:=tk }:=by
 refine au (kp) fun h t F0 k=>?_
 try clear kp
 subst F0
 exact (aA h' tk rfl (K.step k (KG.ofW hk fun b hb=>(hwr b hb).2) fun b o e hb=>by rw [(hwr b hb).1] at e; cases e))
theorem uI {xs:List PyData}{ns:List Int}{m:Int} (hh:A.handled=none) (ra:R s.heap va (.list xs) as) (hi:aM xs=some ns) (hm:iG ns=some m) (hQ:∀ v s',EP P s (sI m) v s'→Q v s'):wpAny (model prog w) A (call (.builtin "max") [va]) Q Er s:=by
 refine call_max_walk (rO (A:=A.in1) hh ra hi fun I fp wr Pw St s₂ W hst hfp hval hwr kp=>(zy I fp wr _ Pw St _ rfl W hst hfp (List.length_pos_of_mem (lS hm).1) (CmpOf.ints_gt _ hval) (fun v h' tk hv hk=>?_)))
 refine aj (hval _ _ hv) fun t F1=>?_
 (clear hv; subst F1)
 rw [mU hm]
 exact hQ _ _ (.int (kp.after hwr hk))
noncomputable def Isi (s:Shared) (t:String) (v:Value) (b:Bool):Prop:=∀ (A:Around) (Q:Value→Shared→Prop) (Er:Value→Shared→Prop),(∀ s',Kp s s'→Q (.bool b) s')→wpAny (model prog w) A (call (.builtin "isinstance") [v,.type t]) Q Er s
theorem iH {t:String}{f:Nat→Bool} (h0:Isi s t .none (f 0)) (h1:∀ b,Isi s t (.bool b) (f 1)) (h2:∀ i u,Isi s t (.int i u) (f 2)) (h3:∀ x u,Isi s t (.str x u) (f 3))
    (h4:∀ {a:Addr}{n:Nat}{vs:List Value},s.heap.get? a=some ⟨.type "list", none,.seq vs.toArray n,#[]⟩→Isi s t (.ref a) (f 4)) (h5:∀ {a:Addr}{n:Nat}{vs:List Value},s.heap.get? a=some ⟨.type "tuple", none,.seq vs.toArray n,#[]⟩→Isi s t (.ref a) (f 5))
    {x:PyData} (ra:R s.heap va x as):Isi s t va (f (oB x)) :=
 (R.ind (M:=fun v d _=>Isi s t v (f (oB d))) (N:=fun uu uu uu=>True) h0 h1 h2 h3 (fun e _ _=>h4 e) (fun e _ _=>h5 e) trivial fun uu uu uu uu=>trivial).1 ra
theorem t8 {x:PyData}{t:String}{b:Bool} (he:ld t (oB x)=some b) (ra:R s.heap va x as) (hQ:∀ s',Kp s s'→Q (.bool b) s'):wpAny (model prog w) A (call (.builtin "isinstance") [va,.type t]) Q Er s :=
 have k0:=Kp.refl s
 have k1:=Kp.toks s (s.toks + 1)
 nI he (fun q eb=>q▸(iH (t := "int") (f:=fun k=>(k == 2 || k == 1)) (fun A Q Er h=>IsiPair.NoneType_int (h _ k1)) (fun uu A Q Er h=>IsiPair.bool_int (h _ k0)) (fun uu vv A Q Er h=>IsiPair.int_int (h _ k0)) (fun uu vv A Q Er h=>IsiPair.str_int (h _ k1)) (fun e A Q Er h=>IsiPair.list_int e rfl (h _ k1)) (fun e A Q Er h=>IsiPair.tuple_int e rfl (h _ k1)) ra) _ _ _ (eb▸hQ))
    (fun q eb=>q▸(iH (t := "bool") (f:=fun k=>(k == 1)) (fun A Q Er h=>IsiPair.NoneType_bool (h _ k1)) (fun uu A Q Er h=>IsiPair.bool_bool (h _ k0)) (fun uu vv A Q Er h=>IsiPair.int_bool (h _ k1)) (fun uu vv A Q Er h=>IsiPair.str_bool (h _ k1)) (fun e A Q Er h=>IsiPair.list_bool e rfl (h _ k1)) (fun e A Q Er h=>IsiPair.tuple_bool e rfl (h _ k1)) ra) _ _ _ (eb▸hQ))
    (fun q eb=>q▸(iH (t := "list") (f:=fun k=>(k == 4)) (fun A Q Er h=>IsiPair.NoneType_list (h _ k1)) (fun uu A Q Er h=>IsiPair.bool_list (h _ k1)) (fun uu vv A Q Er h=>IsiPair.int_list (h _ k1)) (fun uu vv A Q Er h=>IsiPair.str_list (h _ k1)) (fun e A Q Er h=>IsiPair.list_list e rfl (h _ k0)) (fun e A Q Er h=>IsiPair.tuple_list e rfl (h _ k1)) ra) _ _ _ (eb▸hQ))
    (fun q eb=>q▸(iH (t := "tuple") (f:=fun k=>(k == 5)) (fun A Q Er h=>IsiPair.NoneType_tuple (h _ k1)) (fun uu A Q Er h=>IsiPair.bool_tuple (h _ k1)) (fun uu vv A Q Er h=>IsiPair.int_tuple (h _ k1)) (fun uu vv A Q Er h=>IsiPair.str_tuple (h _ k1)) (fun e A Q Er h=>IsiPair.list_tuple e rfl (h _ k1)) (fun e A Q Er h=>IsiPair.tuple_tuple e rfl (h _ k0)) ra) _ _ _ (eb▸hQ))
    (fun q eb=>q▸(iH (t := "str") (f:=fun k=>(k == 3)) (fun A Q Er h=>IsiPair.NoneType_str (h _ k1)) (fun uu A Q Er h=>IsiPair.bool_str (h _ k1)) (fun uu vv A Q Er h=>IsiPair.int_str (h _ k1)) (fun uu vv A Q Er h=>IsiPair.str_str (h _ k0)) (fun e A Q Er h=>IsiPair.list_str e rfl (h _ k1)) (fun e A Q Er h=>IsiPair.tuple_str e rfl (h _ k1)) ra) _ _ _ (eb▸hQ))
end
end Mine
namespace Mine
open PySem PyProof.Rows
noncomputable def rkA (rk:Keyed→Nat) (arr:Array Keyed) (i:Nat):Nat:=match arr[i]? with
 | some p=>rk p
 | none=>0
noncomputable def dH (M:Model) (A:Around) (E:Value→Shared→Prop) (s:Shared) (rk:Keyed→Nat) (ok:Keyed→Prop) (κ:SortKind):Prop :=
 ∀ {x y:Keyed}{st:SortSt}{Q:Option Bool→SortSt→Prop},ok x→ok y→kindOf st=κ→Q (some (decide (rk x<rk y))) st→wpS M A E s (lt' x y) Q st
noncomputable def Up (rk:Keyed→Nat) (l:List Keyed):Prop:=l.Pairwise fun x y=>rk x≤rk y
structure Gd (rk:Keyed→Nat) (ok:Keyed→Prop) (κ:SortKind) (st:SortSt):Prop where
 ok:∀ p∈arrOf st,ok p
 kind:kindOf st=κ
noncomputable def SegUp (rk:Keyed→Nat) (arr:Array Keyed) (lo n:Nat):Prop:=∀ i j,lo≤i→i≤j→j<lo + n→rkA rk arr i≤rkA rk arr j
structure SG where
 A:Around
 E:Value→Shared→Prop
 s:Shared
 rk:Keyed→Nat
 ok:Keyed→Prop
 κ:SortKind
noncomputable def gM:Model:=model prog w
noncomputable def SP1 (x:SG):Prop:=dH gM x.A x.E x.s x.rk x.ok x.κ→∀ {st:SortSt}{Q:Unit→SortSt→Prop},Gd x.rk x.ok x.κ st→2≤(arrOf st).size→(arrOf st).size<64→pendingOf st = #[]→failedOf st=none→(∀ st',(arrOf st').Perm (arrOf st)→Up x.rk (arrOf st').toList→failedOf st' = none→Q () st')→wpS gM x.A x.E x.s sortRuns' Q st
noncomputable def SP2 (x:SG):Prop:=dH gM x.A x.E x.s x.rk x.ok x.κ→∀ {st:SortSt}{Q:Unit→SortSt→Prop},Gd x.rk x.ok x.κ st→2≤(arrOf st).size→(arrOf st).size<128→pendingOf st = #[]→failedOf st=none→SegUp x.rk (arrOf st) 0 (arrOf st).size→(∀ st',arrOf st' = arrOf st→failedOf st' = none→Q () st')→wpS gM x.A x.E x.s sortRuns' Q st
noncomputable def kS (x:SG):Prop:=SP1 x∧SP2 x
noncomputable def sg:SG:=@Classical.epsilon SG ⟨⟨{},fun _ _=>True,{},fun _=>0,fun _=>True,oneType'⟩⟩ fun x=>¬ kS x
theorem tW (h:kS sg):∀ x,kS x:=fun x=>Classical.byContradiction fun n=>@Classical.epsilon_spec SG (fun x=>¬ kS x) ⟨x,n⟩ h
noncomputable def gA:Around:=sg.A
noncomputable def gE:Value→Shared→Prop:=sg.E
noncomputable def gs:Shared:=sg.s
noncomputable def gr:Keyed→Nat:=sg.rk
noncomputable def go:Keyed→Prop:=sg.ok
noncomputable def gk:SortKind:=sg.κ
end Mine
namespace Mine
open PySem PyProof.Rows
section
theorem nK {arr:Array Keyed}{i:Nat}{st:SortSt}{Q:Keyed→SortSt→Prop} (hi:i<arr.size) (h:Q arr[i] st):wpS gM gA gE gs (elem' arr i) Q st:=by
 rw [elem'_eq,Array.getElem?_eq_getElem hi]
 exact wpS_pure h
theorem lz {arr:Array Keyed}{i:Nat} (hi:i<arr.size):rkA gr arr i=gr arr[i]:=by unfold rkA; rw [Array.getElem?_eq_getElem hi]
end
end Mine
namespace Mine
open PySem PyProof.Rows
structure MI (gr:Keyed→Nat) (a b o:List Keyed) (i j:Nat):Prop where
section
variable {a b o:List Keyed}{i j:Nat}
end
section
theorem nw {x:String}{st:SortSt}{Q:Unit→SortSt→Prop} (h:Q () st):wpS gM gA gE gs (liftM (rule x):StateT SortSt Sem Unit) Q st:=wpS_pure (M:=gM) (E:=gE) h
theorem jZ {arr:Array Keyed}{i:Nat} (hi:i<arr.toList.length):rkA gr arr i=gr arr.toList[i]:=by rw [Array.length_toList] at hi; rw [lz hi]; rfl
end
end Mine
namespace Mine
open PySem PyProof.Rows
section
structure Two (gr:Keyed→Nat) (go:Keyed→Prop) (a b:Array Keyed):Prop where
structure LoS (gr:Keyed→Nat) (a b:Array Keyed) (st:SortSt) (n:Nat) (out:Array Keyed) (ia ib:Nat) (st':SortSt):Prop where
section
variable {a b:Array Keyed}{st st':SortSt}{out:Array Keyed}{ia ib n m x mg k l ac bc:Nat}
end
end
end Mine
namespace Mine
open PySem PyProof.Rows
structure MH (gr:Keyed→Nat) (a b o:List Keyed) (i j:Nat):Prop where
section
variable {a b o:List Keyed}{i j:Nat}
end
section
structure HiS (gr:Keyed→Nat) (a b:Array Keyed) (st:SortSt) (n na nb:Nat) (out:Array Keyed) (st':SortSt):Prop where
section
variable {a b:Array Keyed}{st st':SortSt}{out:Array Keyed}{na nb n m x mg k l ac bc:Nat}
end
end
end Mine
namespace Mine
open PySem PyProof.Rows
section
structure Wn (lo hi:Nat) (st st':SortSt):Prop where
 kind:kindOf st' = kindOf st
 pend:pendingOf st' = pendingOf st
 fail:failedOf st' = failedOf st
 perm:(arrOf st').Perm (arrOf st)
 out:∀ k,(k<lo∨hi≤k)→(arrOf st')[k]? = (arrOf st)[k]?
theorem Wn.refl (lo hi:Nat) (st:SortSt):Wn lo hi st st:=⟨rfl,rfl,rfl,.refl _,fun uu uu=>rfl⟩
theorem Wn.trans {lo hi:Nat}{x y z:SortSt} (h:Wn lo hi x y) (g:Wn lo hi y z):Wn lo hi x z:=⟨g.kind.trans h.kind,g.pend.trans h.pend,g.fail.trans h.fail,g.perm.trans h.perm,fun k hk=>(g.out k hk).trans (h.out k hk)⟩
theorem Gd.of {lo hi:Nat}{st st':SortSt} (g:Gd gr go gk st) (h:Wn lo hi st st'):Gd gr go gk st':=⟨fun p hp=>g.ok p (h.perm.mem_iff.mp hp),h.kind.trans g.kind⟩
theorem Wn.size {lo hi:Nat}{st st':SortSt} (h:Wn lo hi st st'):(arrOf st').size=(arrOf st).size:=h.perm.size_eq
theorem cP {xs ys:Array Keyed}{i j:Nat} (h:xs[i]? = ys[j]?):rkA gr xs i=rkA gr ys j:=by unfold rkA; rw [h]
theorem eX (hlt:dH gM gA gE gs gr go gk) {st:SortSt}{i j:Nat}{Q:Option Bool→SortSt→Prop} (g:Gd gr go gk st) (hi:i<(arrOf st).size) (hj:j<(arrOf st).size) (h:Q (some (decide (rkA gr (arrOf st) i<rkA gr (arrOf st) j))) st):wpS gM gA gE gs (ltAt' i j) Q st:=by
 rw [ltAt'_eq]
 refine wpS_bind (wpS_get (wpS_bind (nK hi (wpS_bind (nK hj (hlt (g.ok _ (Array.getElem_mem _)) (g.ok _ (Array.getElem_mem _)) g.kind ?_))))))
 rw [lz hi,lz hj] at h
 exact h
def SegDn (gr:Keyed→Nat) (arr:Array Keyed) (lo n:Nat):Prop:=∀ i j,lo≤i→i≤j→j<lo + n→rkA gr arr j≤rkA gr arr i
theorem SegUp.succ {arr:Array Keyed}{lo n:Nat} (h:SegUp gr arr lo n) (h1:1≤n) (hn:rkA gr arr (lo + n - 1)≤rkA gr arr (lo + n)):SegUp gr arr lo (n + 1):=by
 intro i j hi hij hj
 by_cases e:j=lo + n
 ·  (clear hj; subst e)
    by_cases e':i=lo + n
    · (clear hi hij; subst e'); exact Nat.le_refl _
    · exact Nat.le_trans (h i (lo + n - 1) hi (by exact wQ hij e') (by exact qB h1)) hn
 ·  exact h i j hi hij (by exact wp hj e)
theorem SegDn.succ {arr:Array Keyed}{lo n:Nat} (h:SegDn gr arr lo n) (h1:1≤n) (hn:rkA gr arr (lo + n)≤rkA gr arr (lo + n - 1)):SegDn gr arr lo (n + 1):=by
 intro i j hi hij hj
 by_cases e:j=lo + n
 ·  (clear hj; subst e)
    by_cases e':i=lo + n
    · (clear hi hij; subst e'); exact Nat.le_refl _
    · exact Nat.le_trans hn (h i (lo + n - 1) hi (by exact wQ hij e') (by exact qB h1))
 ·  exact h i j hi hij (by exact wp hj e)
theorem iX {i j:Nat}{st:SortSt}{Q:Unit→SortSt→Prop} (h:Q () (setArr st (mirror (arrOf st) i j ((j - i) / 2)))):wpS gM gA gE gs (reverseSlice' i j) Q st:=by
 rw [reverseSlice'_eq]; exact wpS_modify h
noncomputable def tp (lo nrem n:Nat):StateT SortSt Sem (Option Nat):=do
 let mut n:=n
 reverseSlice' lo (lo + n)
 for _ in [n:nrem] do
    let some smaller ← ltAt' (lo + n) (lo + n - 1) | return none
    if smaller then break
    n:=n + 1
 return some n
noncomputable def sw (lo nrem n:Nat):StateT SortSt Sem (Option Nat):=do
 let mut n:=n
 rule "list.sort.descending-run"
 n:=n + 1
 let mut neq:=0
 for _ in [n:nrem] do
    let some smaller ← ltAt' (lo + n) (lo + n - 1) | return none
    if smaller then
      if neq > 0 then reverseSlice' (lo + n - (neq + 1)) (lo + n)
      neq:=0
    else
      let some larger ← ltAt' (lo + n - 1) (lo + n) | return none
      if larger then break
      neq:=neq + 1
    n:=n + 1
 if neq > 0 then reverseSlice' (lo + n - (neq + 1)) (lo + n)
 reverseSlice' lo (lo + n)
 for _ in [n:nrem] do
    let some smaller ← ltAt' (lo + n) (lo + n - 1) | return none
    if smaller then break
    n:=n + 1
 return some n
theorem hM {xs:Array Keyed}{i j:Nat} (hj:j≤xs.size) (he:∀ k,i≤k→k<j→rkA gr xs k=rkA gr xs (j - 1)) (k:Nat):rkA gr (mirror xs i j ((j - i) / 2)) k=rkA gr xs k:=by
 by_cases c:i≤k∧k<j
 ·  rw [cP (j:=i + j - 1 - k) (ys:=xs) (by rw [getElem?_mirror_all hj,if_pos c]),he (i + j - 1 - k) (by exact Do c) (by exact AK c),he k c.1 c.2]
 ·  exact cP (by rw [getElem?_mirror_all hj,if_neg c])
theorem fJ {lo hi i j:Nat}{st:SortSt} (hj:j≤(arrOf st).size) (h1:lo≤i) (h2:j≤hi):Wn lo hi st (setArr st (mirror (arrOf st) i j ((j - i) / 2))):=⟨rfl,rfl,rfl,mirror_perm _ _ _ _,fun k hk=>by
 show (mirror _ _ _ _)[k]? = _
 rw [getElem?_mirror_all hj,if_neg (by exact Aj h1 h2 hk)]⟩
theorem kD (hlt:dH gM gA gE gs gr go gk) {lo nrem n:Nat}{st:SortSt}{Q:Option Nat→SortSt→Prop} (g:Gd gr go gk st) (hn:lo + nrem≤(arrOf st).size) (h1:1≤n) (h2:n≤nrem) (dn:SegDn gr (arrOf st) lo n)
    (h:∀ n st',1≤n→n≤nrem→Wn lo (lo + nrem) st st'→SegUp gr (arrOf st') lo n→Q (some n) st'):wpS gM gA gE gs (tp lo nrem n) Q st:=by
 unfold tp
 refine wpS_bind (iX ?_)
 have hsz:lo + n≤(arrOf st).size:=by exact Am hn h2
 have w2:Wn lo (lo + nrem) st (setArr st (mirror (arrOf st) lo (lo + n) ((lo + n - lo) / 2))):=fJ hsz (Nat.le_refl _) (by exact Nat.add_le_add_left (by assumption) _)
 have up2:SegUp gr (mirror (arrOf st) lo (lo + n) ((lo + n - lo) / 2)) lo n:=by
    intro i j hi hij hj
    rw [cP (j:=lo + (lo + n) - 1 - i) (ys:=arrOf st) (by rw [getElem?_mirror_all hsz,if_pos ⟨hi,by exact Nat.lt_of_le_of_lt (by assumption) (by assumption)⟩]),cP (i:=j) (j:=lo + (lo + n) - 1 - j) (ys:=arrOf st) (by rw [getElem?_mirror_all hsz,if_pos ⟨by exact Nat.le_trans (by assumption) (by assumption),hj⟩])]
    exact dn _ _ (by exact C3 hj) (by exact Bf hij) (by exact A8 h1 hi)
 generalize hst:setArr st (mirror (arrOf st) lo (lo + n) ((lo + n - lo) / 2))=st2 at w2 ⊢
 have up2:SegUp gr (arrOf st2) lo n:=by rw [← hst]; exact up2
 have g2:=g.of w2
 have hs2:=w2.size
 refine wpS_bind (wpS_mono (wpS_forRange (I:=fun x c st'=>st' = st2∧c=(none,x)∧x≤nrem∧SegUp gr (arrOf st2) lo x)
    (Q:=fun c st'=>st' = st2∧∃ n,c=(none,n)∧1≤n∧n≤nrem∧SegUp gr (arrOf st2) lo n) ?_ ?_ (bx rfl rfl h2 up2)) ?_)
 ·  intro x c st' hx1 hx2 FW
    refine cJ (FW) fun FX FY gx up=>?_
    try clear FW
    (clear up2 w2; subst FX)
    subst FY
    refine wpS_bind (eX hlt g2 (by exact adl hx2 (Nat.le_trans hn (Nat.le_of_eq hs2.symm))) (by exact qt (adl hx2 (Nat.le_trans hn (Nat.le_of_eq hs2.symm)))) ?_)
    dsimp only
    by_cases w:rkA gr (arrOf st') (lo + x)<rkA gr (arrOf st') (lo + x - 1)
    · rw [decide_eq_true w,if_pos rfl]
      exact wpS_pure (aF rfl (ba x rfl (by exact Nat.lt_of_lt_of_le (by assumption) (by assumption)) gx up))
    · rw [decide_eq_false w,if_neg (by decide)]
      exact wpS_pure (bx rfl rfl (by assumption) (up.succ (by exact Nat.lt_of_lt_of_le (by assumption) (by assumption)) (Nat.le_of_not_lt w)))
 ·  intro c st' FZ
    refine cJ (FZ) fun F0 F1 gx up=>?_
    try clear FZ
    (clear g2 hs2 up2 w2; subst F0)
    subst F1
    rw [show max n nrem=nrem by exact AN gx] at *
    exact (aF rfl (ba nrem rfl (by exact Nat.lt_of_lt_of_le (by assumption) (by assumption)) (Nat.le_refl _) up))
 ·  intro c st' F2
    obtain ⟨F4,n',F5,p1,p2,up'⟩:=F2
    (clear g2 hs2 up2; subst F4)
    subst F5
    exact wpS_pure (h n' st' p1 p2 w2 up')
theorem SegDn.congr {xs ys:Array Keyed}{lo n:Nat} (h:SegDn gr xs lo n) (e:∀ k,rkA gr ys k=rkA gr xs k):SegDn gr ys lo n:=fun i j a b c=>by rw [e,e]; exact h i j a b c
theorem k6 (hlt:dH gM gA gE gs gr go gk) {lo nrem n:Nat}{st:SortSt}{Q:Option Nat→SortSt→Prop} (g:Gd gr go gk st) (hn:lo + nrem≤(arrOf st).size) (h1:1≤n) (h2:n<nrem) (dn:SegDn gr (arrOf st) lo (n + 1))
    (h:∀ n st',1≤n→n≤nrem→Wn lo (lo + nrem) st st'→SegUp gr (arrOf st') lo n→Q (some n) st'):wpS gM gA gE gs (sw lo nrem n) Q st:=by
 unfold sw
 refine wpS_bind (nw ?_)
 refine wpS_bind (wpS_mono (wpS_forRange (I:=fun x c st''=>∃ neq,c=(none,x,neq)∧Wn lo (lo + nrem) st st''∧(∀ k,rkA gr (arrOf st'') k=rkA gr (arrOf st) k)∧x≤nrem∧neq + 1≤x∧SegDn gr (arrOf st) lo x∧∀ k,x - (neq + 1)≤k→k<x→rkA gr (arrOf st) (lo + k)=rkA gr (arrOf st) (lo + x - 1))
    (Q:=fun c st''=>∃ x neq,c=(none,x,neq)∧Wn lo (lo + nrem) st st''∧(∀ k,rkA gr (arrOf st'') k=rkA gr (arrOf st) k)∧x≤nrem∧neq + 1≤x∧SegDn gr (arrOf st) lo x∧∀ k,x - (neq + 1)≤k→k<x→rkA gr (arrOf st) (lo + k)=rkA gr (arrOf st) (lo + x - 1)) ?_ ?_ (qy 0 rfl (.refl ..) (fun uu=>rfl) (by assumption) (by exact Nat.succ_pos _) dn (fun k k1 k2=>by rw [show lo + k=lo + (n + 1) - 1 by exact wZ k1 k2]))) ?_)
 ·  intro x c st'' hx1 hx2 F6
    refine xl (F6) fun neq Ga wn e gx nx dn eq=>?_
    try clear F6
    subst Ga
    have g':=g.of wn
    have hsz:=wn.size
    dsimp only
    refine wpS_bind (eX hlt g' (by exact mP hn hx2 hsz) (by exact xk hn hx2 hsz) ?_)
    dsimp only
    rw [e,e]
    by_cases w:rkA gr (arrOf st) (lo + x)<rkA gr (arrOf st) (lo + x - 1)
    · rw [decide_eq_true w,if_pos rfl]
      have fin:∀ st3,Wn lo (lo + nrem) st st3→(∀ k,rkA gr (arrOf st3) k=rkA gr (arrOf st) k)→∃ neq',((none:Option (Option Nat)),x + 1,0)=(none,x + 1,neq')∧Wn lo (lo + nrem) st st3∧(∀ k,rkA gr (arrOf st3) k=rkA gr (arrOf st) k)∧x + 1≤nrem∧neq' + 1≤x + 1∧SegDn gr (arrOf st) lo (x + 1)∧∀ k,x + 1 - (neq' + 1)≤k→k<x + 1→rkA gr (arrOf st) (lo + k)=rkA gr (arrOf st) (lo + (x + 1) - 1) :=
        fun st3 w3 e3=>(qy 0 rfl w3 e3 (by assumption) (by exact Nat.succ_pos _) (dn.succ (by exact Nat.lt_trans (by assumption) (by assumption)) (Nat.le_of_lt w)) (fun k k1 k2=>by rw [show lo + k=lo + (x + 1) - 1 by exact wZ k1 k2]))
      by_cases c1:neq > 0
      · rw [if_pos c1]
        refine wpS_bind (iX (wpS_pure (fin _ (wn.trans (fJ (by exact wC hn hx2 hsz) (by exact xn nx) (by exact Nat.add_le_add_left (by assumption) _))) fun k=>?_)))
        show rkA gr (mirror _ _ _ _) k=_
        rw [hM (by exact wC hn hx2 hsz) fun k k1 k2=>by rw [e,e]; have:=eq (k - lo) (by exact wl k1) (by exact xi hx1 k2); rwa [show lo + (k - lo)=k by exact xj nx k1] at this]
        exact e k
      · rw [if_neg c1]
        exact wpS_pure (fin _ wn e)
    · rw [decide_eq_false w,if_neg (by decide)]
      refine wpS_bind (eX hlt g' (by exact xk hn hx2 hsz) (by exact mP hn hx2 hsz) ?_)
      dsimp only
      rw [e,e]
      by_cases w':rkA gr (arrOf st) (lo + x - 1)<rkA gr (arrOf st) (lo + x)
      · rw [decide_eq_true w',if_pos rfl]
        exact wpS_pure (dy x neq rfl wn e gx nx dn eq)
      · rw [decide_eq_false w',if_neg (by decide)]
        refine wpS_pure (qy (neq + 1) rfl wn e (by assumption) (by exact Nat.lt_succ_of_le (by assumption)) (dn.succ (by exact Nat.lt_trans (by assumption) (by assumption)) (Nat.le_of_not_lt w')) (fun k k1 k2=>?_))
        have q:rkA gr (arrOf st) (lo + x - 1)=rkA gr (arrOf st) (lo + x):=by exact Ax w w'
        rw [show lo + (x + 1) - 1=lo + x by exact Db]
        by_cases e':k=x
        · rw [e']
        · rw [← q]; exact eq k (by exact DV k1) (by exact Dv k2 e')
 ·  intro c st'' F9
    refine xl (F9) fun neq Gh wn e gx nx dn eq=>?_
    try clear F9
    subst Gh
    rw [show max (n + 1) nrem=nrem by exact BM gx] at *
    exact (dy nrem neq rfl wn e gx nx dn eq)
 ·  intro c st'' Gi
    refine rE (Gi) fun x neq Gj wn e gx nx dn eq=>?_
    try clear Gi
    subst Gj
    have g':=g.of wn
    have hsz:=wn.size
    dsimp only
    by_cases c1:neq > 0
    · rw [if_pos c1]
      have w3:=wn.trans (fJ (lo:=lo) (hi:=lo + nrem) (i:=lo + x - (neq + 1)) (j:=lo + x) (st:=st'') (by exact xq hn gx hsz) (by exact xn nx) (by exact Nat.add_le_add_left (by assumption) _))
      refine wpS_bind (iX ?_)
      refine kD hlt (g.of w3) (by have:=w3.size; exact qZ hn this) (by exact Nat.lt_trans (by assumption) (by assumption)) gx (dn.congr fun k=>?_) fun n st' a b w4 u=>h n st' a b (w3.trans w4) u
      show rkA gr (mirror _ _ _ _) k=_
      rw [hM (by exact xq hn gx hsz) fun k k1 k2=>by rw [e,e]; have:=eq (k - lo) (by exact wl k1) (by exact xi nx k2); rwa [show lo + (k - lo)=k by exact xj nx k1] at this]
      exact e k
    · rw [if_neg c1]
      exact kD hlt g' (by exact qZ hn hsz) (by exact DP nx) gx (dn.congr e) fun n st' a b w4 u=>h n st' a b (wn.trans w4) u
theorem pi (hlt:dH gM gA gE gs gr go gk) {lo nrem:Nat}{st:SortSt}{Q:Option Nat→SortSt→Prop} (g:Gd gr go gk st) (hn:lo + nrem≤(arrOf st).size) (h1:1≤nrem)
    (h:∀ n st',1≤n→n≤nrem→Wn lo (lo + nrem) st st'→SegUp gr (arrOf st') lo n→Q (some n) st'):wpS gM gA gE gs (countRun' lo nrem) Q st:=by
 rw [countRun'_eq]
 refine wpS_bind (wpS_mono (wpS_forRange (I:=fun x c st'=>st' = st∧c=(none,x)∧x≤nrem∧SegUp gr (arrOf st) lo x)
    (Q:=fun c st'=>st' = st∧∃ n,c=(none,n)∧1≤n∧n≤nrem∧SegUp gr (arrOf st) lo n∧(n=nrem∨rkA gr (arrOf st) (lo + n)<rkA gr (arrOf st) (lo + n - 1))) ?_ ?_ (bx rfl rfl h1 (fun i j _ _ _=>by rw [show i=j by exact w5 (by assumption) (by assumption) (by assumption)]; exact Nat.le_refl _))) ?_)
 ·  intro x c st' hx1 hx2 Gr
    refine cJ (Gr) fun Gv Gs gx up=>?_
    try clear Gr
    (clear h; subst Gv)
    subst Gs
    refine wpS_bind (eX hlt g (by exact adl hx2 (by assumption)) (by exact qt (adl hx2 (by assumption))) ?_)
    dsimp only
    by_cases w:rkA gr (arrOf st') (lo + x)<rkA gr (arrOf st') (lo + x - 1)
    · rw [decide_eq_true w,if_pos rfl]
      exact wpS_pure (aF rfl (ij x rfl hx1 gx up (.inr w)))
    · rw [decide_eq_false w,if_neg (by decide)]
      exact wpS_pure (bx rfl rfl (by assumption) (up.succ hx1 (Nat.le_of_not_lt w)))
 ·  intro c st' Gx
    refine cJ (Gx) fun GB Gy gx up=>?_
    try clear Gx
    (clear g h hn; subst GB)
    subst Gy
    rw [show max 1 nrem=nrem by exact xr gx] at *
    exact (aF rfl (ij nrem rfl h1 (Nat.le_refl _) up (.inl rfl)))
 ·  intro c st' GI
    obtain ⟨GG,n,GT,n1,n2,up,hend⟩:=GI
    subst GG
    subst GT
    dsimp only
    by_cases c1:(n == nrem)=true
    · rw [if_pos c1]
      exact wpS_pure (h n st' n1 n2 (.refl ..) up)
    rw [if_neg c1]
    have hn3:n<nrem:=by have:n≠nrem:=fun e=>c1 (beq_iff_eq.mpr e); exact Bo n2 this
    have hdn:=hend.resolve_left (by exact Nat.ne_of_lt (by assumption))
    by_cases c2:n > 1
    · rw [if_pos c2]
      refine wpS_bind (eX hlt g (by exact AQ h1 hn) (by exact CU n1 n2 hn) ?_)
      dsimp only
      by_cases w:rkA gr (arrOf st') lo<rkA gr (arrOf st') (lo + n - 1)
      · rw [decide_eq_true w,if_pos rfl]
        exact wpS_pure (h n st' n1 n2 (.refl ..) up)
      rw [decide_eq_false w,if_neg (by decide)]
      have eq:∀ k,lo≤k→k<lo + n→rkA gr (arrOf st') k=rkA gr (arrOf st') (lo + n - 1):=fun k k1 k2=>by
        have a:=up lo k (Nat.le_refl _) k1 k2
        have b:=up k (lo + n - 1) k1 (by exact Da k2) (by exact qB n1)
        exact AD w a b
      have w3:Wn lo (lo + nrem) st' (setArr st' (mirror (arrOf st') lo (lo + n) ((lo + n - lo) / 2))):=fJ (by exact wU n2 hn) (Nat.le_refl _) (by exact Nat.add_le_add_left (by assumption) _)
      have e3:∀ k,rkA gr (mirror (arrOf st') lo (lo + n) ((lo + n - lo) / 2)) k=rkA gr (arrOf st') k:=hM (by exact wU n2 hn) eq
      refine wpS_bind (iX ?_)
      refine k6 hlt (g.of w3) (by have:=w3.size; exact qZ hn this) n1 hn3 ?_ fun n st' a b w4 u=>h n st' a b (w3.trans w4) u
      have d1:SegDn gr (arrOf st') lo n:=fun i j a b c=>by rw [eq i a (by exact Nat.lt_of_le_of_lt (by assumption) (by assumption)),eq j (by exact Nat.le_trans (by assumption) (by assumption)) c]; exact Nat.le_refl _
      exact (d1.succ n1 (Nat.le_of_lt hdn)).congr e3
    rw [if_neg c2]
    have e1:n=1:=by exact AI n1 c2
    (clear c1 c2 hend n2 up; subst e1)
    refine k6 hlt g hn n1 hn3 ?_ h
    have d1:SegDn gr (arrOf st') lo 1:=fun i j _ _ _=>by rw [show i=j by exact w5 (by assumption) (by assumption) (by assumption)]; exact Nat.le_refl _
    exact d1.succ (Nat.le_refl _) (Nat.le_of_lt hdn)
theorem v9 {src dst:Nat}{st:SortSt}{Q:Unit→SortSt→Prop} (h:Q () (setArr st (bubble (arrOf st) src (src - dst)))):wpS gM gA gE gs (moveDown' src dst) Q st:=by
 rw [moveDown'_eq]; exact wpS_modify h
theorem Ag {l r:Nat} (h:l<r):l≤(l + r) / 2∧(l + r) / 2<r:=by exact CJ h
theorem sJ (hlt:dH gM gA gE gs gr go gk) {lo n oo:Nat}{st:SortSt}{Q:Bool→SortSt→Prop} (g:Gd gr go gk st) (hn:lo + n≤(arrOf st).size) (hok:oo≤n) (hs:SegUp gr (arrOf st) lo oo)
    (h:∀ st',Wn lo (lo + n) st st'→SegUp gr (arrOf st') lo n→Q true st'):wpS gM gA gE gs (binarySort' lo n oo) Q st:=by
 rw [binarySort'_eq]
 refine wpS_bind (wpS_mono (wpS_forRange (I:=fun k c st'=>c=(none,())∧Wn lo (lo + n) st st'∧SegUp gr (arrOf st') lo (min k n))
    (Q:=fun c st'=>c=(none,())∧Wn lo (lo + n) st st'∧SegUp gr (arrOf st') lo n) ?_ ?_ ⟨rfl,.refl ..,?_⟩) ?_)
 ·  intro k c st' hk1 hk2 GF
    refine aD (GF) fun G8 wn up=>?_
    try clear GF
    subst G8
    have g':=g.of wn
    have hsz:=wn.size
    rw [show min k n=k by exact Cr hk2] at up
    refine wpS_bind (wpS_mono (wpS_forRange (I:=fun x c st''=>st'' = st'∧∃ l r,c=(none,l,r)∧l≤r∧r≤k∧r - l≤k - x∧(∀ i,i<l→rkA gr (arrOf st') (lo + i)≤rkA gr (arrOf st') (lo + k))∧(∀ i,r≤i→i<k→rkA gr (arrOf st') (lo + k)<rkA gr (arrOf st') (lo + i)))
      (Q:=fun c st''=>st'' = st'∧∃ l r,c=(none,l,r)∧l≤k∧(∀ i,i<l→rkA gr (arrOf st') (lo + i)≤rkA gr (arrOf st') (lo + k))∧(∀ i,l≤i→i<k→rkA gr (arrOf st') (lo + k)<rkA gr (arrOf st') (lo + i))) ?_ ?_ (aF rfl (ja 0 k rfl (by exact Nat.zero_le _) (by exact Nat.le_refl _) (by exact Nat.le_refl _) (fun i hi=>by exact Dd hi) (fun i h1 h2=>by exact AZ h1 h2)))) ?_)
    · intro x c st'' _ hx G2
      obtain ⟨GU,l,r,Hj,lr,rk',pr,lo',hi'⟩:=G2
      (clear wn; subst GU)
      subst Hj
      dsimp only
      by_cases c1:l ≥ r
      · rw [if_pos c1]
        exact wpS_pure (aF rfl (aU l r rfl (by exact Nat.le_trans (by assumption) (by assumption)) lo' (fun i h1 h2=>hi' i (by exact Nat.le_trans (by assumption) (by assumption)) h2)))
      rw [if_neg c1]
      refine ae (Ag (Nat.lt_of_not_le c1)) fun m1 m2=>?_
      generalize (l + r) / 2=m at m1 m2 ⊢
      refine wpS_bind (eX hlt g' (by exact mP hn hk2 hsz) (by exact DJ hn hk2 rk' hsz m2) ?_)
      dsimp only
      by_cases w:rkA gr (arrOf st'') (lo + k)<rkA gr (arrOf st'') (lo + m)
      · rw [decide_eq_true w,if_pos rfl]
        exact wpS_pure (aF rfl (ja _ _ rfl (by assumption) (by exact DW rk' m2) (by exact DM pr m2) lo' (fun i h1 h2=>Nat.lt_of_lt_of_le w (up _ _ (by exact Nat.le_add_right _ _) (by exact Nat.add_le_add_left (by assumption) _) (by exact Nat.add_le_add_left (by assumption) _)))))
      · rw [decide_eq_false w,if_neg (by decide)]
        exact wpS_pure (aF rfl (ja _ _ rfl (by assumption) (by assumption) (by exact Cf pr m1) (fun i h1=>Nat.le_trans (up _ (lo + m) (by exact Nat.le_add_right _ _) (by exact C8 h1) (by exact BJ rk' m2)) (Nat.le_of_not_lt w)) hi'))
    · intro c st'' G4
      obtain ⟨G1,l,r,GH,lr,rk',pr,lo',hi'⟩:=G4
      (clear g' hsz wn; subst G1)
      subst GH
      exact (aF rfl (aU l r rfl (by exact Nat.le_trans (by assumption) (by assumption)) lo' (fun i h1 h2=>hi' i (by exact DT pr h1) h2)))
    · intro c st'' GM
      obtain ⟨GR,l,r,GP,lk,lo',hi'⟩:=GM
      (clear g'; subst GR)
      subst GP
      dsimp only
      have hsrc:lo + k<(arrOf st'').size:=by exact mP hn hk2 hsz
      refine wpS_bind (v9 (wpS_pure ⟨rfl,wn.trans ⟨rfl,rfl,rfl,bubble_perm _ _ _,fun j hj=>?_⟩,?_⟩))
      · show (bubble _ _ _)[j]? = _
        rw [getElem?_bubble hsrc _ (by exact Nat.sub_le _ _),if_neg (by exact AB hk2 hj),if_neg (by exact AO hk2 hj)]
      · rw [show min (k + 1) n=k + 1 by exact Bx hk2]
        show SegUp gr (bubble (arrOf st'') (lo + k) (lo + k - (lo + l))) lo (k + 1)
        have at':∀ j,rkA gr (bubble (arrOf st'') (lo + k) (lo + k - (lo + l))) j=if j=lo + l then rkA gr (arrOf st'') (lo + k) else if lo + l<j∧j≤lo + k then rkA gr (arrOf st'') (j - 1) else rkA gr (arrOf st'') j:=fun j=>by
          have:=getElem?_bubble hsrc (lo + k - (lo + l)) (by exact Nat.sub_le _ _) j
          rw [show lo + k - (lo + k - (lo + l))=lo + l by exact Ar lk] at this
          by_cases e1:j=lo + l
          · rw [if_pos e1] at this ⊢; exact cP this
          · rw [if_neg e1] at this ⊢
            by_cases e2:lo + l<j∧j≤lo + k
            · rw [if_pos e2] at this ⊢; exact cP this
            · rw [if_neg e2] at this ⊢; exact cP this
        intro i j hi hij hj
        rw [at',at']
        by_cases e1:i=lo + l
        · rw [if_pos e1]
          by_cases e2:j=lo + l
          · rw [if_pos e2]; exact Nat.le_refl _
          · rw [if_neg e2,if_pos (by exact A0 hij hj e1 e2)]
            have:=hi' (j - 1 - lo) (by exact Cm hij e1 e2) (by exact CB hij hj e1 e2)
            rw [show lo + (j - 1 - lo)=j - 1 by exact BV hij e1 e2] at this
            exact Nat.le_of_lt this
        · rw [if_neg e1]
          by_cases e2:j=lo + l
          · rw [if_pos e2,if_neg (by exact BP hij e2)]
            have:=lo' (i - lo) (by exact DD hi hij e1 e2)
            rwa [show lo + (i - lo)=i by exact C9 hi] at this
          · rw [if_neg e2]
            by_cases e3:lo + l<i
            · rw [if_pos (by exact Al hij hj e3),if_pos (by exact Df hij hj e3)]
              exact up _ _ (by exact BY e3) (by exact An hij) (by exact Di hij hj e3)
            · rw [if_neg (by exact wK e3)]
              by_cases e4:lo + l<j
              · rw [if_pos (by exact Ck hj e4)]
                exact up _ _ (by assumption) (by exact CC e3 e4) (by exact C1 hj e4)
              · rw [if_neg (by exact wK e4)]
                exact up _ _ (by assumption) (by assumption) (by exact Bs lk e2 e4)
 ·  intro c st' G0
    refine aD (G0) fun Hl wn up=>?_
    try clear G0
    subst Hl
    rw [show min (max (max oo 1) n) n=n by exact Cv] at up
    exact ⟨rfl,wn,up⟩
 ·  intro i j hi hij hj
    by_cases e:oo=0
    · rw [show i=j by exact DU hi hij hj e]; exact Nat.le_refl _
    · exact hs i j hi hij (by exact BX hj e)
 ·  intro c st' Ha
    refine aD (Ha) fun HI wn up=>?_
    try clear Ha
    subst HI
    exact wpS_pure (h st' wn up)
end
end Mine
namespace Mine
open PySem PyProof.Rows
section
theorem zV {arr:Array Keyed}{lo n:Nat} (h:SegUp gr arr lo n) (hn:lo + n≤arr.size):Up gr ((arr.toList.drop lo).take n):=by
 unfold Up
 rw [List.pairwise_iff_getElem]
 intro i j hi hj hij
 rw [List.length_take,List.length_drop,Array.length_toList] at hi hj
 rw [List.getElem_take,List.getElem_take,List.getElem_drop,List.getElem_drop]
 have:=h (lo + i) (lo + j) (by exact Nat.le_add_right _ _) (by exact Nat.add_le_add_left (Nat.le_of_lt hij) lo) (by exact Nat.add_lt_add_left (Nat.lt_of_lt_of_le hj (Nat.min_le_left _ _)) lo)
 rwa [jZ (by rw [Array.length_toList]; exact Nat.lt_of_lt_of_le (Nat.add_lt_add_left (Nat.lt_of_lt_of_le hi (Nat.min_le_left _ _)) lo) hn),jZ (by rw [Array.length_toList]; exact Nat.lt_of_lt_of_le (Nat.add_lt_add_left (Nat.lt_of_lt_of_le hj (Nat.min_le_left _ _)) lo) hn)] at this
end
end Mine
namespace Mine
open PySem PyProof.Rows
section
structure Ph1 (gr:Keyed→Nat) (st st':SortSt) (n1:Nat):Prop where
 perm:(arrOf st').Perm (arrOf st)
 kind:kindOf st' = kindOf st
 fail:failedOf st' = none
 pend:pendingOf st' = #[(0,n1,0)]
 up:SegUp gr (arrOf st') 0 n1
structure Ph2 (gr:Keyed→Nat) (st st':SortSt):Prop where
structure Dn (gr:Keyed→Nat) (st st':SortSt):Prop where
end
end Mine
namespace Mine
open PySem PyProof.Rows
theorem lh:∀ a:List Int,ltL a a=false
 | []=>rfl
 | a :: as=>by simp [ltL,lh as]
theorem fH:∀ {a b c:List Int},ltL a b=true→ltL b c=true→ltL a c=true
 | [],[],_,h,_=>by simp [ltL] at h
 | [],_ :: _,[],_,h=>by simp [ltL] at h
 | [],_ :: _,_ :: _,_,_=>rfl
 | _ :: _,[],_,h,_=>by simp [ltL] at h
 | _ :: _,_ :: _,[],_,h=>by simp [ltL] at h
 | a :: as,b :: bs,c :: cs,h1,h2=>by
    unfold ltL at h1 h2 ⊢
    by_cases e1:a=b
    · subst e1
      rw [if_pos rfl] at h1
      by_cases e2:a=c
      · rw [if_pos e2] at h2 ⊢; exact fH h1 h2
      · rw [if_neg e2] at h2 ⊢; exact h2
    · rw [if_neg e1] at h1
      by_cases e2:b=c
      · subst e2; rw [if_neg e1]; exact h1
      · rw [if_neg e2] at h2
        simp only [decide_eq_true_eq] at h1 h2
        rw [if_neg (by exact DE h1 h2)]
        simp only [decide_eq_true_eq]; exact A3 h1 h2
theorem gg:∀ {a b:List Int},ltL a b=false→ltL b a=false→a=b
 | [],[],_,_=>rfl
 | [],_ :: _,h,_=>by simp [ltL] at h
 | _ :: _,[],_,h=>by simp [ltL] at h
 | a :: as,b :: bs,h1,h2=>by
    unfold ltL at h1 h2
    by_cases e:a=b
    · subst e
      rw [if_pos rfl] at h1 h2
      rw [gg h1 h2]
    · rw [if_neg e] at h1
      rw [if_neg (Ne.symm e)] at h2
      simp only [decide_eq_false_iff_not] at h1 h2
      exact BA e h1 h2
noncomputable def rkL (ks:List (List Int)) (k:List Int):Nat:=ks.countP fun x=>ltL x k
theorem lH {α:Type}{p q:α→Bool}:∀ {l:List α},(∀ x∈l,p x=true→q x=true)→l.countP p≤l.countP q
 | [],_=>Nat.le_refl _
 | x :: l,h=>by
    have ih:=lH fun y hy=>h y (.tail _ hy)
    rw [List.countP_cons,List.countP_cons]
    cases hp:p x with
    | true=>rw [h x (.head _) hp]; simp; exact ih
    | false=>simp; exact Bn ih
theorem lE {α:Type}{p q:α→Bool}:∀ {l:List α}{y:α},(∀ x∈l,p x=true→q x=true)→y∈l→p y=false→q y=true→l.countP p<l.countP q
 | x :: l,y,h,hy,h1,h2=>by
    rw [List.countP_cons,List.countP_cons]
    rcases List.mem_cons.mp hy with rfl | hy
    · rw [h1,h2]
      have:=lH fun z hz=>h z (.tail _ hz)
      simp; exact DS this
    · have ih:=lE (fun z hz=>h z (.tail _ hz)) hy h1 h2
      cases hp:p x with
      | true=>rw [h x (.head _) hp]; simp; exact ih
      | false=>simp; exact Cn ih
theorem tm {ks:List (List Int)}{a b:List Int} (ha:a∈ks) (hb:b∈ks):ltL a b=decide (rkL ks a<rkL ks b):=by
 have up:∀ {a b:List Int},a∈ks→ltL a b=true→rkL ks a<rkL ks b:=fun {a b} ha h=>lE (fun x _ hx=>fH hx h) ha (lh a) h
 cases h:ltL a b with
 | true=>rw [decide_eq_true (up ha h)]
 | false=>
    refine (decide_eq_false fun q=>?_).symm
    cases h':ltL b a with
    | true=>have:=up hb h'; exact Dr q this
    | false=>rw [gg h h'] at q; exact Nat.lt_irrefl _ q
noncomputable def hV:List Int→List Int→Option Bool
 | a :: as,b :: bs=>if a=b then hV as bs else some (decide (a<b))
 | _,_=>none
theorem nO:∀ a b:List Int,ltL a b=(hV a b).getD (decide (a.length<b.length))
 | [],[]=>rfl
 | [],_ :: _=>by simp [ltL,hV]
 | _ :: _,[]=>by simp [ltL,hV]
 | a :: as,b :: bs=>by
    unfold ltL hV
    by_cases e:a=b
    · rw [if_pos e,if_pos e,nO as bs]; simp
    · rw [if_neg e,if_neg e]; rfl
noncomputable def KeyOf (h:Heap) (v:Value) (k:List Int):Prop:=∃ a vs n,v = .ref a∧h.get? a=some ⟨.type "tuple", none,.seq vs.toArray n,#[]⟩∧IntsAre vs k
noncomputable def Fs (v:Value):Int:=match v with
 | .int i _=>i
 | _=>0
theorem IntsAre.read {vs:List Value}{k:List Int} (h:IntsAre vs k):k=vs.map Fs:=by
 induction h with
 | nil=>rfl
 | cons n t r ih=>exact congrArg (n :: ·) ih
theorem IntsAre.fn {vs:List Value}{k k':List Int} (a:IntsAre vs k) (b:IntsAre vs k'):k=k':=(IntsAre.read a).trans (IntsAre.read b).symm
theorem KeyOf.fn {h:Heap}{v:Value}{k k':List Int} (a:KeyOf h v k) (b:KeyOf h v k'):k=k':=by
 refine aL (a) fun x vs n FW e i=>?_
 try clear a
 subst FW
 refine aL (b) fun uu vs' n' q e' i'=>?_
 try clear b
 cases q
 rw [e] at e'
 have:vs=vs':=by cases e'; rfl
 subst this
 exact IntsAre.fn i i'
theorem KeyOf.ofR {h:Heap}{v:Value}{k:List Int}{as:List Addr} (r:R h v (.tuple (k.map .int)) as):KeyOf h v k:=by
 cases r with
 | @tuple a n xs as vs e ra=>
    have hi:aM (k.map PyData.int)=some k:=by
      clear ra e
      induction k with
      | nil=>rfl
      | cons x k ih=>show (aM (k.map PyData.int)).map (x :: ·)=_; rw [ih]; rfl
    exact (ce a vs n rfl e ((ra.ints hi).1))
open Classical in
section
variable {A:Around}{E:Value→Shared→Prop}{s:Shared}
theorem ki (c:Bool) {a b:Int}{t u:Tok}{Q:Bool→Shared→Prop} (h:Q (decide (a<b)) s):wpAny (model prog w) A (oneLt' c (.int a t) (.int b u)) Q E s:=by
 cases c with
 | true=>exact oneLt_int h
 | false=>
    rw [oneLt'_eq]
    simp only [Bool.false_eq_true,if_false]
    exact wpAny_bind (wpAny_lt_int (wpAny_truthy_bool h))
theorem nA (c:Bool) (x y:Value):keyLt' (tuples' c) x y=(do
    let xs ← Builtin.List.listItems x; let ys ← Builtin.List.listItems y
    for ((p,q),i) in (xs.toList.zip ys.toList).zipIdx do
      if !(← eqBool p q) then return ← oneLt' (c && i == 0) p q
    return xs.size<ys.size):=rfl
theorem vz {body:(Value × Value) × Nat→Option Bool × Unit→Sem (ForInStep (Option Bool × Unit))}{R:Option Bool × Unit→Shared→Prop}
    (hb:∀ (a b:Int) (t u:Tok) (i:Nat) (R':ForInStep (Option Bool × Unit)→Shared→Prop),R' (if a=b then .yield (none,()) else .done (some (decide (a<b)),())) s→wpAny (model prog w) A (body ((.int a t,.int b u),i) (none,())) R' E s)
    {vs:List Value}{k:List Int} (ia:IntsAre vs k):∀ {us:List Value}{k':List Int} (i:Nat),IntsAre us k'→R (hV k k',()) s→wpAny (model prog w) A (forIn ((vs.zip us).zipIdx i) (none,()) body) R E s:=by
 induction ia with
 | nil=>
    intro us k' i ib h
    rw [List.zip_nil_left,List.zipIdx_nil,List.forIn_nil]
    exact wpAny_pure h
 | cons a t r ih=>
    intro us k' i ib h
    induction ib with
    | nil=>
      rw [List.zip_nil_right,List.zipIdx_nil,List.forIn_nil]
      exact wpAny_pure h
    | cons b u q ih'=>
      rw [List.zip_cons_cons,List.zipIdx_cons,List.forIn_cons]
      refine wpAny_bind (hb a b t u i _ ?_)
      by_cases e:a=b
      · rw [if_pos e]
        exact ih (i + 1) q (by rw [hV,if_pos e] at h; exact h)
      · rw [if_neg e]
        exact wpAny_pure (by rw [hV,if_neg e] at h; exact h)
theorem s7 (c:Bool) {x y:Value}{k k':List Int}{Q:Bool→Shared→Prop} (hx:KeyOf s.heap x k) (hy:KeyOf s.heap y k') (h:Q (ltL k k') s):wpAny (model prog w) A (keyLt' (tuples' c) x y) Q E s:=by
 refine aL (hx) fun a vs n FX ea ia=>?_
 try clear hx
 subst FX
 refine aL (hy) fun b us m FY eb ib=>?_
 try clear hy
 subst FY
 rw [nA]
 refine wpAny_bind (listItems_at ea rfl (wpAny_bind (listItems_at eb rfl ?_)))
 simp only [List.toList_toArray]
 refine wpAny_bind (vz (fun p q t u i R' hR=>?_) ia 0 ib ?_)
 ·  dsimp only
    refine wpAny_bind (wpAny_eqBool_int ?_)
    by_cases e:p=q
    · subst e
      rw [if_pos rfl] at hR
      rw [if_neg (by simp)]
      exact wpAny_pure hR
    · rw [if_neg e] at hR
      rw [if_pos (by simpa using e)]
      exact wpAny_bind (ki _ (wpAny_pure hR))
 ·  rw [nO] at h
    have l1:=ia.length
    have l2:=ib.length
    cases e:hV k k' with
    | none=>
      rw [e] at h
      refine wpAny_pure ?_
      simp only [List.size_toArray]
      rw [← l1,← l2] at h
      exact h
    | some r=>rw [e] at h; exact wpAny_pure h
theorem mR (v:Value):firstOfTuple' v=(do
    if (← typeOf v) != .type "tuple" then return none
    return (← Builtin.List.listItems v)[0]?):=rfl
theorem ju {Q:List (Option Value)→Shared→Prop}:∀ {ks:List (List Int)}{vs:List Value},vs.length=ks.length→(∀ (i:Nat) (v:Value) (k:List Int),vs[i]? = some v→ks[i]? = some k→KeyOf s.heap v k∧k≠[])→(∀ fs:List Value,fs.length=vs.length→(∀ f∈fs,∃ a t,f = .int a t)→Q (fs.map some) s)→wpAny (model prog w) A (vs.mapM firstOfTuple') Q E s
 | [],[],_,_,h=>by rw [List.mapM_nil]; exact wpAny_pure (h [] rfl fun uu q=>nomatch q)
 | [],_ :: _,hl,_,_=>by simp at hl
 | _ :: _,[],hl,_,_=>by simp at hl
 | k :: ks,v :: vs,hl,hk,h=>by
    refine ae (hk 0 v k rfl rfl) fun FZ hne=>?_
    refine aL (FZ) fun a us n F0 ea ia=>?_
    try clear FZ
    subst F0
    rw [List.mapM_cons]
    refine wpAny_bind ?_
    rw [mR]
    refine wpAny_bind (wpAny_typeOf (T := "tuple") (ah _ ea rfl) ?_)
    rw [if_neg (by decide)]
    refine wpAny_bind (listItems_at ea rfl (wpAny_pure ?_))
    cases ia with
    | nil=>exact absurd rfl hne
    | cons x t r=>
      refine wpAny_bind (ju (ks:=ks) (vs:=vs) (by simpa using hl) (fun i v k h1 h2=>hk (i + 1) v k (by simpa using h1) (by simpa using h2)) fun fs hfl hfs=>wpAny_pure ?_)
      have:=h (.int x t :: fs) (by simp [hfl]) (fun f hf=>(List.mem_cons.mp hf).elim (fun e=>(bE x t e)) (hfs f))
      simpa using this
theorem lP {Q:List Value→Shared→Prop}:∀ {fs:List Value},(∀ f∈fs,∃ a t,f = .int a t)→Q (fs.map fun uu=>.type "int") s→wpAny (model prog w) A (fs.mapM typeOf) Q E s
 | [],_,h=>by rw [List.mapM_nil]; exact wpAny_pure h
 | f :: fs,hf,h=>by
    refine bi (hf f (.head _)) fun a t F1=>?_
    subst F1
    rw [List.mapM_cons]
    refine wpAny_bind (wpAny_pure (wpAny_bind (lP (fs:=fs) (fun f h=>hf f (.tail _ h)) (wpAny_pure h))))
theorem s6 {ks:List (List Int)}{vs:List Value}{Q:SortKind→Shared→Prop} (hl:vs.length=ks.length) (h1:1≤vs.length) (hk:∀ (i:Nat) (v:Value) (k:List Int),vs[i]? = some v→ks[i]? = some k→KeyOf s.heap v k∧k≠[]) (h:Q (tuples' true) s):wpAny (model prog w) A (keyKind' vs.toArray) Q E s:=by
 rw [keyKind'_eq,List.mapM_toArray,map_eq_pure_bind]
 refine wpAny_bind (wpAny_bind (ju hl hk fun fs hfl hfs=>wpAny_pure ?_))
 have hall:((fs.map some).toArray.all fun x=>x.isSome)=true:=by simp
 rw [if_pos hall]
 refine wpAny_bind (wpAny_rule ?_)
 have hfm:((fs.map some).toArray.filterMap id)=fs.toArray:=by simp
 rw [hfm,oneTypeOnly'_eq,List.mapM_toArray,map_eq_pure_bind]
 refine wpAny_bind (wpAny_bind (wpAny_bind (lP hfs (wpAny_pure ?_))))
 obtain ⟨f₁,fr,rfl⟩:∃ f₁ fr,fs=f₁ :: fr:=by
    cases fs with
    | nil=>simp at hfl; exact B0 h1 hfl
    | cons f₁ fr=>exact (bE f₁ fr rfl)
 have hall2:((List.map (fun uu=>Value.type "int") (f₁ :: fr)).toArray.all fun x=>x == Value.type "int")=true:=by
    simp only [List.all_toArray,List.all_map,List.all_eq_true]
    intro _ _
    rfl
 have h0:(List.map (fun uu=>Value.type "int") (f₁ :: fr)).toArray[0]? = some (Value.type "int"):=by simp
 rw [h0]
 simp only [hall2,if_true]
 exact wpAny_pure (wpAny_pure h)
end
end Mine
namespace Mine
open PySem PyProof.Rows
section
theorem uc (hlt:dH gM gA gE gs gr go gk) {st:SortSt}{Q:Unit→SortSt→Prop} (g:Gd gr go gk st) (h2:2≤(arrOf st).size) (h64:(arrOf st).size<64) (hp:pendingOf st = #[]) (hf:failedOf st=none)
    (h:∀ st',(arrOf st').Perm (arrOf st)→Up gr (arrOf st').toList→failedOf st' = none→Q () st'):wpS gM gA gE gs sortRuns' Q st:=by
 rw [sortRuns'_eq]
 refine wpS_bind (wpS_get ?_)
 dsimp only
 generalize hN:(arrOf st).size=N at *
 have hm:minRun' N N 0=N:=by
    obtain ⟨f,rfl⟩:∃ f,N=f + 1:=⟨N - 1,by exact Cp h2⟩
    rw [minRun'_succ,if_pos h64]
 rw [hm]
 refine wpS_bind (wpS_mono (wpS_forRange (I:=fun x c st'=>(x=0∧c=(none,0)∧st' = st)∨(c=(none,N)∧Ph1 gr st st' N)) (Q:=fun c st'=>c=(none,N)∧Ph1 gr st st' N) ?_ ?_ (.inl ⟨rfl,rfl,rfl⟩)) ?_)
 ·  rintro x c st' _ hx (⟨rfl,rfl,rfl⟩ | ⟨rfl,p1⟩)
    · dsimp only
      rw [if_neg (by exact Nat.not_le_of_lt (by assumption))]
      refine wpS_bind (pi hlt g (by exact wu hN) (by assumption) fun n st1 n1 n2 wn up=>?_)
      dsimp only
      by_cases c:n<N
      · rw [if_pos c]
        refine wpS_bind (nw (wpS_bind (sJ hlt (g.of wn) (by rw [wn.size]; exact Dt hN) (by exact B9 c) up fun st2 wn2 up2=>?_)))
        rw [if_neg (by decide)]
        refine wpS_bind (wpS_get ?_)
        have ep:pendingOf st2 = #[]:=by rw [wn2.pend,wn.pend,hp]
        have em:min (N - 0) N=N:=by exact At
        rw [em] at up2 ⊢
        rw [show (pendingOf st2).back? = none by rw [ep]; rfl]
        refine wpS_bind (wpS_modify (wpS_pure (.inr ⟨by rw [Nat.zero_add],⟨wn2.perm.trans wn.perm,wn2.kind.trans wn.kind,wn2.fail.trans (wn.fail.trans hf),?_,up2⟩⟩)))
        show (pendingOf st2).push (0,N,0)=_
        rw [ep]; rfl
      · rw [if_neg c]
        obtain rfl:n=N:=by exact As n2 c
        refine wpS_bind (wpS_get ?_)
        have ep:pendingOf st1 = #[]:=by rw [wn.pend,hp]
        rw [show (pendingOf st1).back? = none by rw [ep]; rfl]
        refine wpS_bind (wpS_modify (wpS_pure (.inr ⟨by rw [Nat.zero_add],⟨wn.perm,wn.kind,wn.fail.trans hf,?_,up⟩⟩)))
        show (pendingOf st1).push (0,n,0)=_
        rw [ep]; rfl
    · dsimp only
      rw [if_pos (Nat.le_refl _)]
      exact wpS_pure ⟨rfl,p1⟩
 ·  rintro c st' (⟨e,_⟩ | q)
    · exact AE h2 e
    · exact q
 ·  intro c st' FW
    refine ae (FW) fun FX p1=>?_
    try clear FW
    subst FX
    dsimp only
    have hs1:(arrOf st').size=N:=by rw [p1.perm.size_eq,hN]
    have up1:Up gr (arrOf st').toList:=by
      have:=zV p1.up (by exact BD hs1)
      rwa [List.drop_zero,List.take_of_length_le (by rw [Array.length_toList]; exact B7 hs1)] at this
    refine wpS_bind (wpS_mono (wpS_forRange (I:=fun x c st''=>c=(none,())∧st'' = st') (Q:=fun c st''=>c=(none,())∧st'' = st') ?_ ?_ ⟨rfl,rfl⟩) ?_)
    · intro x c st1 _ hx FY
      refine ae (FY) fun FZ F0=>?_
      try clear FY
      subst FZ
      (clear hs1 up1; subst F0)
      refine wpS_bind (wpS_get ?_)
      rw [if_pos (by rw [p1.pend]; exact Nat.le_refl _)]
      exact wpS_pure ⟨rfl,rfl⟩
    · rintro c st1 q; exact q
    · intro c st1 F1
      refine ae (F1) fun F2 F4=>?_
      try clear F1
      subst F2
      (clear hs1; subst F4)
      exact wpS_pure (h _ p1.perm up1 p1.fail)
theorem oZ (hlt:dH gM gA gE gs gr go gk) {lo nrem:Nat}{st:SortSt}{Q:Option Nat→SortSt→Prop} (g:Gd gr go gk st) (hn:lo + nrem≤(arrOf st).size) (h1:1≤nrem) (up:SegUp gr (arrOf st) lo nrem) (h:Q (some nrem) st):wpS gM gA gE gs (countRun' lo nrem) Q st:=by
 rw [countRun'_eq]
 refine wpS_bind (wpS_mono (wpS_forRange (I:=fun x c st'=>st' = st∧c=(none,x)∧x≤nrem) (Q:=fun c st'=>st' = st∧c=(none,nrem)) ?_ ?_ ⟨rfl,rfl,h1⟩) ?_)
 ·  intro x c st' hx1 hx2 F5
    refine aD (F5) fun F6 Ga gx=>?_
    try clear F5
    (clear h; subst F6)
    subst Ga
    refine wpS_bind (eX hlt g (by exact adl hx2 (by assumption)) (by exact qt (adl hx2 (by assumption))) ?_)
    dsimp only
    have w:¬ rkA gr (arrOf st') (lo + x)<rkA gr (arrOf st') (lo + x - 1):=Nat.not_lt.mpr (up (lo + x - 1) (lo + x) (by exact BC hx1) (by exact Nat.sub_le _ _) (by exact Nat.add_lt_add_left (by assumption) _))
    rw [decide_eq_false w,if_neg (by decide)]
    exact wpS_pure ⟨rfl,rfl,by assumption⟩
 ·  intro c st' F9
    refine aD (F9) fun Gh Gi gx=>?_
    try clear F9
    (clear g h hn up; subst Gh)
    subst Gi
    rw [show max 1 nrem=nrem by exact xr gx] at *
    exact ⟨rfl,rfl⟩
 ·  intro c st' Gj
    refine ae (Gj) fun Gr Gv=>?_
    try clear Gj
    (clear g hn up; subst Gr)
    subst Gv
    dsimp only
    rw [if_pos (by simp)]
    exact wpS_pure h
theorem rW:∀ n,n<128→minRun' n n 0≤n:=by decide +kernel
theorem vd (hlt:dH gM gA gE gs gr go gk) {st:SortSt}{Q:Unit→SortSt→Prop} (g:Gd gr go gk st) (h2:2≤(arrOf st).size) (h128:(arrOf st).size<128) (hp:pendingOf st = #[]) (hf:failedOf st=none) (up:SegUp gr (arrOf st) 0 (arrOf st).size)
    (h:∀ st',arrOf st' = arrOf st→failedOf st' = none→Q () st'):wpS gM gA gE gs sortRuns' Q st:=by
 rw [sortRuns'_eq]
 refine wpS_bind (wpS_get ?_)
 have m2:=rW _ h128
 dsimp only
 generalize hN:(arrOf st).size=N at *
 generalize minRun' N N 0=mr at *
 refine wpS_bind (wpS_mono (wpS_forRange (I:=fun x c st'=>(x=0∧c=(none,0)∧st' = st)∨(c=(none,N)∧arrOf st' = arrOf st∧failedOf st' = none∧(pendingOf st').size=1)) (Q:=fun c st'=>c=(none,N)∧arrOf st' = arrOf st∧failedOf st' = none∧(pendingOf st').size=1) ?_ ?_ (.inl ⟨rfl,rfl,rfl⟩)) ?_)
 ·  rintro x c st' _ hx (⟨rfl,rfl,rfl⟩ | ⟨rfl,p1⟩)
    · dsimp only
      rw [if_neg (by exact Nat.not_le_of_lt (by assumption))]
      refine wpS_bind (oZ hlt g (by exact wu hN) (by assumption) up ?_)
      dsimp only
      rw [if_neg (by exact Nat.not_lt_of_le (by assumption))]
      refine wpS_bind (wpS_get ?_)
      rw [show (pendingOf st').back? = none by rw [hp]; rfl]
      refine wpS_bind (wpS_modify (wpS_pure (.inr (bx (by rw [Nat.zero_add]; rfl) rfl hf ?_))))
      show ((pendingOf st').push (0,_,0)).size=1
      rw [hp]; rfl
    · dsimp only
      rw [if_pos (Nat.le_refl _)]
      exact wpS_pure ⟨rfl,p1⟩
 ·  rintro c st' (⟨e,_⟩ | q)
    · exact Bd h2 e
    · exact q
 ·  intro c st' Gs
    refine cJ (Gs) fun Gx p1 p2 p3=>?_
    try clear Gs
    subst Gx
    dsimp only
    refine wpS_bind (wpS_mono (wpS_forRange (I:=fun x c st''=>c=(none,())∧st'' = st') (Q:=fun c st''=>c=(none,())∧st'' = st') ?_ ?_ ⟨rfl,rfl⟩) ?_)
    · intro x c st1 _ hx GB
      refine ae (GB) fun Gy GI=>?_
      try clear GB
      subst Gy
      (clear p1 p2; subst GI)
      refine wpS_bind (wpS_get ?_)
      rw [if_pos (by rw [p3]; exact Nat.le_refl _)]
      exact wpS_pure ⟨rfl,rfl⟩
    · rintro c st1 q; exact q
    · intro c st1 GG
      refine ae (GG) fun GT GF=>?_
      try clear GG
      subst GT
      (clear p3; subst GF)
      exact wpS_pure (h _ p1 p2)
end
theorem pL:kS sg:=⟨fun hlt _ _ g h2 h64 hp hf h=>uc hlt g h2 h64 hp hf h,fun hlt _ _ g h2 h128 hp hf up h=>vd hlt g h2 h128 hp hf up h⟩
section
variable {A:Around}{E:Value→Shared→Prop}{s:Shared}{rk:Keyed→Nat}{ok:Keyed→Prop}{κ:SortKind}
theorem qC (hlt:dH (model prog w) A E s rk ok κ) {st:SortSt}{Q:Unit→SortSt→Prop} (g:Gd rk ok κ st) (h2:2≤(arrOf st).size) (h64:(arrOf st).size<64) (hp:pendingOf st = #[]) (hf:failedOf st=none)
    (h:∀ st',(arrOf st').Perm (arrOf st)→Up rk (arrOf st').toList→failedOf st' = none→Q () st'):wpS (model prog w) A E s sortRuns' Q st:=(tW pL ⟨A,E,s,rk,ok,κ⟩).1 hlt g h2 h64 hp hf h
theorem rx (hlt:dH (model prog w) A E s rk ok κ) {st:SortSt}{Q:Unit→SortSt→Prop} (g:Gd rk ok κ st) (h2:2≤(arrOf st).size) (h128:(arrOf st).size<128) (hp:pendingOf st = #[]) (hf:failedOf st=none) (up:SegUp rk (arrOf st) 0 (arrOf st).size)
    (h:∀ st',arrOf st' = arrOf st→failedOf st' = none→Q () st'):wpS (model prog w) A E s sortRuns' Q st:=(tW pL ⟨A,E,s,rk,ok,κ⟩).2 hlt g h2 h128 hp hf up h
end
section
variable {A:Around}{E:Value→Shared→Prop}{s:Shared}
noncomputable def oY (v:Value):Nat:=match v with
 | .int i _=>i.toNat
 | _=>0
theorem tw (x y:Value):keyLt' oneType' x y=oneLt' true x y:=rfl
theorem sD:dH (model prog w) A E s (fun p=>oY p.1) (fun p=>∃ i t,p.1 = .int i t∧0≤i) oneType':=by
 intro x y st Q hx hy hk h
 refine au (hx) fun i t ex hi=>?_
 try clear hx
 refine au (hy) fun j u ey hj=>?_
 try clear hy
 have e:(some (decide (oY x.1<oY y.1)))=some (decide (i<j)):=by
    rw [ex,ey]
    show some (decide (i.toNat<j.toNat))=_
    rw [decide_eq_decide.mpr (show i.toNat<j.toNat↔i<j by exact Ca hi)]
 dsimp only at h
 rw [e] at h
 rw [lt'_eq]
 refine wpS_bind (wpS_get ?_)
 rw [hk,ex,ey,tw]
 refine wpS_bind (wpS_lift (wpAny_attempt (ki true ⟨rfl,?_⟩)))
 exact wpS_pure h
end
end Mine
namespace Mine
open PySem PyProof.Rows
section
variable {A:Around}{E:Value→Shared→Prop}
theorem Kp.wr {s0 s:Shared}{a:Addr}{xs:Array Value}{n:Nat}{h':Heap} (k:Kp s0 s) (e:s.heap.get? a=some (seqObj "list" xs n)) (h0:s0.heap.get? a=Option.none) (hs:Heap.SameBut a s.heap h'):Kp s0 { s with heap:=h' }:=by
 revert k; intro G3
 refine au (G3) fun h tk FX k=>?_
 try clear G3
 subst FX
 refine ⟨h',tk,rfl,K.same k hs h0 fun o q=>?_⟩
 rw [e] at q; (have oc:=Option.some.inj q; clear q; subst oc); exact Stay.not_list
theorem vp {α:Type}{R:α→α→Prop}{l:List α} (h:l.length≤1):l.Pairwise R:=by
 rcases l with _ | ⟨x,_ | ⟨y,l⟩⟩
 ·  exact .nil
 ·  exact List.pairwise_singleton ..
 ·  cases h with
    | step h=>cases h
theorem dh {α β:Type} (a:Array α) (b:List β):(a.zip b.toArray).toList=a.toList.zip b:=by
 first
    | simp
    | (cases a; simp)
theorem pw {α β:Type}{a:List α}{b:List β}{i:Nat}{x:α}{y:β} (h1:a[i]? = some x) (h2:b[i]? = some y):(a.zip b)[i]? = some (x,y):=List.getElem?_zip_eq_some.mpr ⟨h1,h2⟩
end
end Mine
namespace Mine
open PySem PyProof.Rows
section
variable {A:Around}{E:Value→Shared→Prop}{s:Shared}
end
end Mine
namespace Mine
open PySem PyProof.Rows
theorem fC {α:Type}:∀ {ns:List Str}{vs:List α}{n:Str},vs.length=ns.length→n∈ns→((ns.zip vs).lookup n).isNone=false
 | [],_,_,_,h=>nomatch h
 | m :: ns,[],_,h,_=>by simp at h
 | m :: ns,v :: vs,n,hl,h=>by
    rw [List.zip_cons_cons,List.lookup_cons]
    by_cases e:n=m
    · (clear h hl; subst e); simp
    · have e':(n == m)=false:=by simpa using e
      rw [e']
      exact fC (by simpa using hl) ((List.mem_cons.mp h).resolve_left e)
theorem iq:∀ {ns:List Str}{vs:List Value},ns.Nodup→vs.length=ns.length→(ns.filterMap fun n=>((ns.zip vs).lookup n).map (n,·))=ns.zip vs
 | [],_,_,_=>rfl
 | m :: ns,[],_,h=>by simp at h
 | m :: ns,v :: vs,hn,hl=>by
    rw [List.nodup_cons] at hn
    rw [List.filterMap_cons]
    simp only [List.zip_cons_cons,List.lookup_cons,beq_self_eq_true,Option.map_some]
    congr 1
    have ih:=iq hn.2 (vs:=vs) (by simpa using hl)
    have key:∀ (l:List Str),(∀ n∈l,n≠m)→(l.filterMap fun n=>(match n == m with | true=>some v | false=>(ns.zip vs).lookup n).map (n,·))=l.filterMap fun n=>((ns.zip vs).lookup n).map (n,·):=by
      intro l hl'
      induction l with
      | nil=>rfl
      | cons n l ihl=>
        have e':(n == m)=false:=beq_eq_false_iff_ne.mpr (hl' n (.head _))
        rw [List.filterMap_cons,List.filterMap_cons,ihl fun x hx=>hl' x (.tail _ hx)]
        simp only [e']
    exact (key ns fun n hn' e=>hn.1 (e▸hn')).trans ih
theorem pb {α β:Type} (a:α) (f:α→Sem β):((pure a:Sem α) >>= f)=f a:=rfl
theorem zg {α β γ:Type}{l:List α}{i:β}{f:α→β→Sem (ForInStep β)}{k:β→Sem γ}{z:Sem γ} (h:l=[]) (e:k i=z):(forIn l i f >>= k)=z:=by subst h; exact e
theorem rT {α:Type}{c:Prop} [Decidable c] {x y z:α} (h:¬ c) (e:y=z):(if c then x else y)=z:=(if_neg h).trans e
theorem rF {fd:FuncData}{ps:List Str}{vals:List Value} (h1:fd.params.posonlyargs=[]) (h2:fd.params.args.map (·.arg)=ps) (h3:fd.params.vararg=none) (h4:fd.params.kwonlyargs=[]) (h5:fd.params.kwarg=none) (h6:fd.defaults = .none)
    (hn:ps.Nodup) (hl:vals.length=ps.length):bindArgs fd ⟨vals,[]⟩=pure (ps.zip vals):=by
 obtain ⟨nm,qn,⟨po,ar,va,ko,kd,kw,df⟩,bd,sc,gl,cl,de,kwd,doc,pm,an,cd,ct,bu⟩:=fd
 dsimp only at h1 h2 h3 h4 h5 h6
 subst h1 h3 h4 h5 h6
 have e2:(ps.take ps.length).filter (fun n=>((ps.zip vals).lookup n).isNone)=[]:=by
    rw [List.take_length,List.filter_eq_nil_iff]
    intro n hn'
    rw [fC hl hn']
    simp
 have e3:(ps ++ []).filterMap (fun n=>((ps.zip vals).lookup n).map fun x=>(n,x))=ps.zip vals:=by rw [List.append_nil]; exact iq hn hl
 subst h2
 refine rT (c:=(decide (vals.length > (ar.map (·.arg)).length) && true)=true) (by rw [hl]; simp) ?_
 have e0:List.drop (0 - (ar.map (·.arg)).length) ([]:List Value)=[]:=List.drop_nil
 refine rT (c:=(!(((ar.map (·.arg)).take ((ar.map (·.arg)).length - (List.drop (0 - (ar.map (·.arg)).length) ([]:List Value)).length)).filter fun n=>(((ar.map (·.arg)).zip vals).lookup n).isNone).isEmpty)=true) (by rw [e0]; show ¬ (!(((ar.map (·.arg)).take (ar.map (·.arg)).length).filter fun n=>(((ar.map (·.arg)).zip vals).lookup n).isNone).isEmpty)=true; rw [e2]; simp) ?_
 refine zg (l:=((ar.map (·.arg)).drop ((ar.map (·.arg)).length - (List.drop (0 - (ar.map (·.arg)).length) ([]:List Value)).length)).zip (List.drop (0 - (ar.map (·.arg)).length) ([]:List Value))) (by rw [e0]; exact List.zip_nil_right) ?_
 exact congrArg (fun x=>(pure x:Sem _)) e3
section
variable {M:Model}{A:Around}{E:Value→Shared→Prop}{s:Shared}
end
section
variable {A:Around}{s:Shared}
end
end Mine
namespace Mine
open PySem PyProof.Rows
section
variable {fns:Fns}{k:Nat}{C:Calls}{XP:String→Shared→Value→Shared→Prop}
end
end Mine
namespace Mine
open PySem PyProof.Rows
def RawD (h:Heap) (d:Addr) (es:Array DictEntry) (ep:Nat):Prop:=∃ o,h.get? d=some o∧o.cls = .type "dict" ∧ o.data = .dict es ep
theorem RawD.typ {s:Shared}{d:Addr}{es:Array DictEntry}{ep:Nat} (x:RawD s.heap d es ep):s.TypeIs (.ref d) "dict" := aq (x) fun o h1 h2 uu=>(ah o h1 h2)
theorem RawD.at {h h':Heap}{d:Addr}{es:Array DictEntry}{ep:Nat} (x:RawD h d es ep) (k:∀ o,h.get? d=some o→h'.get? d=some o):RawD h' d es ep:=ag (x) fun o h1 r=>(ah o (k o h1) r)
section
variable {A:Around}{E:Value→Shared→Prop}{s:Shared}{d it:Addr}{es:Array DictEntry}{ep i:Nat}
theorem wa {Q:Value→Shared→Prop} (hd:(d == sysModules)=false) (hm:RawD s.heap d es ep)
    (hQ:Q (.ref s.heap.objs.size) { s with heap:=s.heap.push { cls:=.type "dict_keyiterator", data:=.fields #[.ref d,.int 0 0,.int es.size 0,.int ep 0] } }) :
    wpAny (model prog w) A (pyIter (.ref d)) Q E s:=by
 have hT:=hm.typ
 refine aq (hm) fun o ho hc hdat=>?_
 try clear hm
 refine wpAny_pyIter_slot hT F.slot_dict_iter (wpAny_call_entry F.slot_dict_iter hT F.entry_dict_iter ?_ (F.args_dict_iter_1 _))
 unfold Builtin.«dict.__iter__»
 refine wpAny_bind ?_
 unfold Builtin.Dict.dictSlotNone
 refine wpAny_bind (wpAny_notOrdered_dict hT (wpAny_pure ?_))
 show wpAny _ _ (Builtin.Dict.showsAll d >>= _) _ _ s
 unfold Builtin.Dict.showsAll
 rw [if_neg (by rw [hd]; exact Bool.false_ne_true)]
 refine wpAny_bind (wpAny_pure (wpAny_bind (wpAny_dictEntries ho hdat (wpAny_bind (wpAny_dictEpoch ho hdat ?_)))))
 refine wpAny_bind (wpAny_newObj_type (wpAny_pure (ah _ rfl (aS ("dict_keyiterator") _ (ah _ (Heap.get?_push_size _ rfl) rfl) F.slot_dict_keyiterator_next.lookup ?_))))
 simpa [rawInt] using hQ
theorem nk {Q:Option Value→Shared→Prop} (hh:A.handled=none) (hit:s.heap.IsKeyIter it d i es.size ep) (hm:RawD s.heap d es ep)
    (hQ:∀ (hi:i<es.size) h',h'.IsKeyIter it d (i + 1) es.size ep→Heap.SameBut it s.heap h'→Q (some es[i].key) { s with heap:=h' })
    (hE:es.size≤i→∀ h',Heap.ExtBut it s.heap h'→Q none { s with heap:=h' }):wpAny (model prog w) A (pyNext (.ref it)) Q E s:=by
 refine aq (id hit) fun o ho hc hd=>?_
 refine aq (hm) fun od hod hcd hdd=>?_
 try clear hm
 unfold pyNext
 refine wpAny_bind (wpAny_attempt (wpAny_callSpecial?_slot (name:=Str.ofString "__next__") hit.typeIs F.slot_dict_keyiterator_next
    (wpAny_call_entry F.slot_dict_keyiterator_next hit.typeIs F.entry_dict_keyiterator_next ?_ (F.args_dict_keyiterator_next_1 _))))
 refine wpAny_bind (wpAny_pure (wpAny_bind (wpAny_bind ?_)))
 first | refine wpAny_bind (wpAny_typeNameOfWhole_keyiter hit.typeIs (wpAny_pure ?_)) | refine wpAny_bind (wpAny_typeNameOf_keyiter hit.typeIs (wpAny_pure ?_))
 refine wpAny_bind (wpAny_fieldsOf ho hd ?_)
 have hown:Builtin.Dict_items.ownsTuple "dict_keyiterator" = false:=by decide
 rw [hown,if_neg Bool.false_ne_true]
 show wpAny _ _ (if (Value.ref d == Value.none)=true then _ else _) _ _ s
 rw [if_neg (show ¬ ((Value.ref d == Value.none)=true) from Bool.false_ne_true)]
 refine wpAny_bind (wpAny_pure (wpAny_bind (wpAny_dictEntries hod hdd ?_)))
 rw [if_neg (by simp)]
 refine wpAny_bind (wpAny_pure (wpAny_bind (wpAny_dictEpoch hod hdd ?_)))
 rw [if_neg (by simp)]
 refine wpAny_pure ?_
 by_cases hi:i<es.size
 ·  dsimp only
    rw [if_neg (show ¬ ((i:Int)<0) from by exact xC),Int.toNat_natCast,Array.getElem?_eq_getElem hi]
    dsimp only
    refine wpAny_bind ?_
    first | refine wpAny_bind (wpAny_typeNameOfWhole_keyiter hit.typeIs (wpAny_pure ?_)) | refine wpAny_bind (wpAny_typeNameOf_keyiter hit.typeIs (wpAny_pure ?_))
    refine wpAny_bind (wpAny_isOneOf_keyiter hit.typeIs ?_)
    show wpAny _ _ (setField (.ref it) 1 (rawInt ((i:Int) + 1)) >>= _) _ _ s
    refine wpAny_bind (wpAny_setField ho hd (by simp) ?_)
    have hit':(s.heap.update it (Obj.mapFields (·.setIfInBounds 1 (rawInt ((i:Int) + 1))))).IsKeyIter it d (i + 1) es.size ep :=
      (ax _ (Heap.get?_update_self _ ho (Obj.isFreed_of_fields (Obj.data_mapFields hd _))) ((Obj.cls_mapFields ..).trans hc) (by rw [Obj.data_mapFields hd]; simp [rawInt]))
    refine wpAny_bind (wpAny_holding (wpAny_bind (wpAny_isOneOf_keyiter (s:={ s with heap:=s.heap.update it (Obj.mapFields (·.setIfInBounds 1 (rawInt ((i:Int) + 1)))) }) hit'.typeIs ?_)))
    show wpAny _ _ (pure es[i].key) _ _ _
    exact wpAny_pure (wpAny_pure (ah _ rfl (wpAny_pure (hQ hi _ hit' (Heap.SameBut.update ..)))))
 ·  have hge:es.size≤i:=by exact A5 hi
    dsimp only
    rw [if_neg (show ¬ ((i:Int)<0) from by exact xC),Int.toNat_natCast,Array.getElem?_eq_none hge]
    dsimp only
    refine wpAny_bind ?_
    first | refine wpAny_bind (wpAny_typeNameOfWhole_keyiter hit.typeIs (wpAny_pure ?_)) | refine wpAny_bind (wpAny_typeNameOf_keyiter hit.typeIs (wpAny_pure ?_))
    show wpAny _ _ (setField (.ref it) 0 .none >>= _) _ _ s
    refine wpAny_bind (wpAny_setField ho hd (by simp) ?_)
    show wpAny _ _ (newExc (.type "StopIteration") [] >>= _) _ _ _
    refine wpAny_bind ?_
    simp only [newExc,newTuple]
    refine wpAny_bind (wpAny_newObj_type ?_ (by size_fits))
    refine wpAny_bind (m:=firstArgMember _ _) (wpAny_of_eq (a:=Value.none) (by first | rfl | (simp only [firstArgMember]; rfl)) ?_)
    refine wpAny_newObj_type ?_ (by size_fits)
    simp only [raiseNew]
    refine wpAny_bind (wpAny_handled ?_)
    rw [show A.in1.handled=none from hh]
    refine wpAny_bind (wpAny_pure (wpAny_throw ?_))
    refine wpAny_bind (wpAny_isInstance (T := "StopIteration") (b:=true) (ah _ (Heap.get?_push_size _ rfl) rfl) isSubtype_stop ?_)
    exact wpAny_pure (hE hge _ (((Heap.SameBut.update ..).extBut.push _).push _))
end
theorem r7 {A:Around} (hh:A.handled=none) (I d:Addr) (hne:d≠I) (es:Array DictEntry) (ep:Nat) :
    Walks prog w A I [I,d] [I] es.size (fun i v=>∃ hi:i<es.size,v=es[i].key) (fun i h=>h.IsKeyIter I d i es.size ep∧RawD h d es ep) where
 sub:=fun b hb=>by simp at hb; simp [hb]
 frame:=fun uu uu uu st hk=>⟨st.1.at fun o e=>hk I (by simp) o e,st.2.at fun o e=>hk d (by simp) o e⟩
 item:=fun i s Q E hi st hQ=>nk hh st.1 st.2 (fun hi' h' hit' hs'=>hQ _ h' s.toks ⟨hi',rfl⟩ ⟨hit',st.2.at fun o e=>hs'.extBut d o hne e⟩ fun b o hb e=>hs'.extBut b o (fun h=>hb (by simp [h])) e) fun hge=>absurd hi (Nat.not_lt.mpr hge)
 done:=fun s Q E st hQ=>nk hh st.1 st.2 (fun hi=>absurd hi (Nat.lt_irrefl _)) fun uu h' he'=>hQ h' s.toks fun b o hb e=>he' b o (fun h=>hb (by simp [h])) e
 self:=fun uu uu uu uu st hQ=>wpAny_pyIter_keyiter st.1 hQ
section
variable {A:Around}{E:Value→Shared→Prop}{s:Shared}{d S:Addr}{es:Array DictEntry}{ep:Nat}
theorem sj {Q:Bool→Shared→Prop} (hT:s.TypeIs (.ref d) "dict") (h:Q false s):wpAny (model prog w) A (Builtin.List.listLengthHint (.ref d)) Q E s:=by
 unfold Builtin.List.listLengthHint
 refine wpAny_bind (wpAny_specialOf hT PySem.F.slot_dict_len.lookup ?_)
 generalize hid:("dict.__len__" : String)=id0
 wp_delta
 rw [show splitId id0=some ("dict", "__len__") from by subst hid; decide +kernel]
 subst hid
 refine wpAny_bind (wpAny_isInstance (T := "dict") (b:=true) hT (by rw [isSubtype_type]; kernel_rfl) ?_)
 refine wpAny_ite_split (fun q=>absurd q (by decide)) fun uu=>wpAny_ite_split (fun uu=>wpAny_bind (wpAny_typeOf hT (wpAny_pure h))) fun q=>absurd (by decide +kernel) q
theorem qu {R:Result→Shared→Prop} (lo:(d == sysModules)=false) (hh:A.handled=none) (hm:RawD s.heap d es ep) (hn:es.size≤sizeLine) (hSd:S≠d) {c₀:Nat} (hS:s.heap.get? S=some { cls:=.type "list", data:=.seq #[] c₀ })
    (hR:∀ h' tk acc' c',(∀ b o,b≠S→s.heap.get? b=some o→h'.get? b=some o)→h'.get? S=some { cls:=.type "list", dict:=none,data:=.seq acc' c',slots:=#[] }→ItemsOf (fun i v=>∃ hi:i<es.size,v=es[i].key) acc' es.size→R (.ok (.ret .none)) { s with heap:=h',toks:=tk }) :
    wpAny (model prog w) A.in1 (Builtin.List.listExtendWith (.ref S) (.ref d) .none)
      (fun fin s'=>match fin with | .done f=>R (.ok f) s' | .again c'=>c'.quiet=true∧codeAny (model prog w) A c' R s') (fun e s'=>R (.error e) s') s:=by
 have hSI:S≠s.heap.objs.size:=Nat.ne_of_lt (Heap.lt_size hS)
 have hdI:d≠s.heap.objs.size:=ag (hm) fun uu e uu=>Nat.ne_of_lt (Heap.lt_size e)
 have hSf:S∉[s.heap.objs.size,d]:=by simp only [List.mem_cons,List.not_mem_nil,or_false,not_or]; exact ⟨hSI,hSd⟩
 have W:=r7 (A:=A.in1) hh s.heap.objs.size d hdI es ep
 have loop:∀ (h:Heap) (c₁ tk:Nat),(h.IsKeyIter s.heap.objs.size d 0 es.size ep∧RawD h d es ep)→(∀ b o,b≠S→s.heap.get? b=some o→h.get? b=some o) →
      h.get? S=some { cls:=.type "list", data:=.seq #[] c₁ }→codeAny (model prog w) A (.builtin "list.extend.loop" ⟨[.ref S,.ref s.heap.objs.size,.none],[]⟩) R { s with heap:=h,toks:=tk }:=fun h c₁ tk hst hk hS₁=>by
    refine codeAny_extend_loopS W.toS hn S hSf .none es.size 0 _ #[] c₁ rfl (Nat.zero_le _) hst hS₁ (ItemsOf.nil _) fun s' acc' c' hmv hS' hacc=>?_
    rw [Moved.eq_with hmv]
    refine hR s'.heap s'.toks acc' c' (fun b o hb e=>hmv.heap b o (fun hmem=>?_) (hk b o hb e)) hS' hacc
    rcases List.mem_cons.mp hmem with e' | hmem
    · exact hb e'
    · exact absurd (Heap.lt_size e) (by rw [List.mem_singleton.mp hmem]; exact Nat.lt_irrefl _)
 unfold Builtin.List.listExtendWith
 refine wpAny_bind (wpAny_typeOf (T := "dict") hm.typ ?_)
 have h1:Builtin.List.listSameRef (.ref S) (.ref d)=false:=by simp [Builtin.List.listSameRef,hSd]
 simp only [h1,show (Value.type "dict" == Value.type "list")=false by decide,show (Value.type "dict" == Value.type "tuple")=false by decide,Bool.or_false,Bool.false_eq_true,if_false]
 refine wpAny_bind (wa lo hm ?_)
 have hS₁:=Heap.get?_push_of_some { cls:=.type "dict_keyiterator", data:=.fields #[.ref d,.int 0 0,.int es.size 0,.int ep 0] } hS
 have st:(s.heap.push { cls:=.type "dict_keyiterator", data:=.fields #[.ref d,.int 0 0,.int es.size 0,.int ep 0] }).IsKeyIter s.heap.objs.size d 0 es.size ep∧RawD (s.heap.push { cls:=.type "dict_keyiterator", data:=.fields #[.ref d,.int 0 0,.int es.size 0,.int ep 0] }) d es ep:=⟨(ax _ (Heap.get?_push_size _ rfl) rfl rfl),hm.at fun o e=>Heap.get?_push_of_some _ e⟩
 refine wpAny_bind (wpAny_holding (sj st.2.typ ?_))
 refine wpAny_ite_split (fun uu=>?_) (fun uu=>wpAny_pure ⟨plainId_quiet PySem.F.plain_extend_loop _,loop _ c₀ _ st (fun b o _ e=>Heap.get?_push_of_some _ e) hS₁⟩)
 refine wpAny_bind (wpAny_rule (wpAny_bind ?_))
 show wpAny _ _ (updateSeq S (·.push .none) >>= fun uu=>updateSeq S (·.pop)) _ _ _
 refine wpAny_bind (wpAny_updateSeq hS₁ rfl ?_)
 have hS₂:=Heap.get?_update_self (Obj.mapSeq (·.push Value.none)) hS₁ rfl
 refine wpAny_updateSeq (hz:=by seq_fits) hS₂ rfl ?_
 have hS₃:=Heap.get?_update_self (Obj.mapSeq (·.pop)) hS₂ rfl
 refine wpAny_pure ⟨plainId_quiet PySem.F.plain_extend_loop _,loop _ _ _ ?_ (fun b o hb e=>?_) hS₃⟩
 ·  refine W.frame 0 _ _ st fun b hb o e=>?_
    have hbS:b≠S:=fun h=>hSf (h▸hb)
    exact (Heap.get?_update_other _ _ (Ne.symm hbS)).trans ((Heap.get?_update_other _ _ (Ne.symm hbS)).trans e)
 ·  exact (Heap.get?_update_other _ _ (Ne.symm hb)).trans ((Heap.get?_update_other _ _ (Ne.symm hb)).trans (Heap.get?_push_of_some _ e))
theorem tZ {Q:Value→Shared→Prop} (lo:(d == sysModules)=false) (hh:A.handled=none) (hm:RawD s.heap d es ep) (hn:es.size≤sizeLine)
    (hQ:∀ h' tk acc' c',(∀ b o,s.heap.get? b=some o→h'.get? b=some o)→h'.get? s.heap.objs.size=some { cls:=.type "list", dict:=none,data:=.seq acc' c',slots:=#[] }→ItemsOf (fun i v=>∃ hi:i<es.size,v=es[i].key) acc' es.size→Q (.ref s.heap.objs.size) { s with heap:=h',toks:=tk }) :
    wpAny (model prog w) A (call (.type "list") [.ref d]) Q E s:=by
 refine callType_codes (Q₁:=fun obj s₁=>obj = .ref s.heap.objs.size∧s₁ = { s with heap:=s.heap.push { cls:=.type "list", data:=.seq #[] } }) PySem.F.called_list (PySem.F.typeCall_list_1 _) PySem.F.entry_list_init
    (code_list_new _ ⟨rfl,rfl⟩) fun obj s₁ h₁=>?_
 refine ae (h₁) fun FW FX=>?_
 try clear h₁
 subst FW
 subst FX
 have hS:(s.heap.push { cls:=.type "list", data:=.seq #[] }).get? s.heap.objs.size=some { cls:=.type "list", data:=.seq #[] }:=Heap.get?_push_size _ rfl
 have hdS:s.heap.objs.size≠d:=ag (hm) fun uu e uu=>Nat.ne_of_gt (Heap.lt_size e)
 refine ⟨(ah _ hS rfl),PySem.F.args_list_init_2 _ _,?_⟩
 show wpAny _ _ (do let old ← Builtin.List.listItems (.ref s.heap.objs.size); Builtin.List.listUpdate (.ref s.heap.objs.size) (fun uu=>#[]); letGo old.toList.reverse; Builtin.List.listExtendWith (.ref s.heap.objs.size) (.ref d) .none) _ _ _
 refine wpAny_bind ?_
 unfold Builtin.List.listItems
 refine wpAny_bind (wpAny_seqItems hS rfl (wpAny_pure ?_))
 show wpAny _ _ (updateSeq s.heap.objs.size (fun uu=>#[]) >>= fun uu=>letGo (#[]:Array Value).toList.reverse >>= fun uu=>Builtin.List.listExtendWith (.ref s.heap.objs.size) (.ref d) .none) _ _ _
 refine wpAny_bind (wpAny_updateSeq hS rfl ?_)
 have hS₂:=Heap.get?_update_self (Obj.mapSeq (fun uu=>(#[]:Array Value))) hS rfl
 have oth:∀ b o,b≠s.heap.objs.size→s.heap.get? b=some o→((s.heap.push { cls:=.type "list", data:=.seq #[] }).update s.heap.objs.size (Obj.mapSeq (fun uu=>(#[]:Array Value)))).get? b=some o :=
    fun b o hb e=>(Heap.get?_update_other _ _ (Ne.symm hb)).trans (Heap.get?_push_of_some _ e)
 refine wpAny_bind (wpAny_letGo ?_)
 refine qu (A:=A.in1) (S:=s.heap.objs.size) (s:={ s with heap:=(s.heap.push { cls:=.type "list", data:=.seq #[] }).update s.heap.objs.size (Obj.mapSeq (fun uu=>(#[]:Array Value))) }) lo hh (hm.at fun o e=>oth d o hdS.symm e) hn hdS hS₂ fun h' tk acc' c' hk hS' hacc=>?_
 exact ⟨rfl,hQ h' tk acc' c' (fun b o e=>hk b o (Nat.ne_of_lt (Heap.lt_size e)) (oth b o (Nat.ne_of_lt (Heap.lt_size e)) e)) hS' hacc⟩
end
end Mine
namespace Mine
open PySem PyProof.Rows
section
variable {A:Around}{E:Value→Shared→Prop}
theorem uF {rd:Value→List Int}{vs:List Value}{ks:List (List Int)} (hl:vs.length=ks.length) (hkey:∀ (i:Nat) (v:Value) (k:List Int),vs[i]? = some v→ks[i]? = some k→rd v=k):(vs.zip vs).map (fun p=>(rd p.1,p.2))=ks.zip vs:=by
 apply List.ext_getElem?
 intro i
 rw [List.getElem?_map]
 by_cases hi:i<ks.length
 ·  have q2:ks[i]? = some ks[i]:=List.getElem?_eq_getElem hi
    have q3:vs[i]? = some vs[i]:=List.getElem?_eq_getElem (by exact BQ hl hi)
    rw [pw q3 q3,pw q2 q3]
    simp only [Option.map_some]
    rw [hkey i _ _ q3 q2]
 ·  rw [List.getElem?_eq_none (by rw [List.length_zip]; exact B5 hl hi),List.getElem?_eq_none (by rw [List.length_zip]; exact Av hi)]
    rfl
theorem nl {s0 s:Shared}{D:Addr}{vs:List Value}{ks:List (List Int)}{e1:Nat}{st:SortSt}{rd:Value→List Int}{P:PySem.Fin→Shared→Prop} (k0:Kp s0 s) (hD:s.heap.get? D=some (seqObj "list" #[] e1)) (f2:s0.heap.get? D=none)
    (hl:vs.length=ks.length) (h64:vs.length<64) (hkey:∀ (i:Nat) (v:Value) (k:List Int),vs[i]? = some v→ks[i]? = some k→rd v=k)
    (hp:(arrOf st).Perm (vs.toArray.zip vs.toArray)) (hu:(arrOf st).toList.Pairwise fun x y=>ltL (rd y.1) (rd x.1)=false) (hf:failedOf st=none)
    (h:∀ s' out c,Kp s0 s'→s'.heap.get? D=some (seqObj "list" out c)→(∃ ps:List (List Int × Value),ps.Perm (ks.zip vs)∧out.toList=ps.map (·.2)∧ps.Pairwise fun x y=>ltL y.1 x.1=false)→P (.done (.ret .none)) s') :
    wpAny (model prog w) A (do
      let sorted:=(arrOf st).map (·.2)
      let touched:=(← seqEpoch D) != e1
      Builtin.List.listUpdate (.ref D) fun uu=>sorted
      if let some e:=failedOf st then rule "list.sort.comparison-raised"; throw e
      if touched then rule "list.sort.modified"; raiseError "ValueError" "list modified during sort"
      ret .none) P E s:=by
 have s2:=Heap.SameBut.update s.heap D (Obj.mapSeq fun uu=>(arrOf st).map (·.2))
 obtain ⟨c2,hc2⟩:∃ c2,(s.heap.update D (Obj.mapSeq fun uu=>(arrOf st).map (·.2))).get? D=some (seqObj "list" ((arrOf st).map (·.2)) c2):=⟨_,get?_update_seq hD fun uu=>(arrOf st).map (·.2)⟩
 have hsz:(arrOf st).size=vs.length:=by rw [hp.size_eq,Array.size_zip]; simp
 have k2:=Kp.wr k0 hD f2 s2
 dsimp only
 refine wpAny_bind (seqEpoch_at hD rfl ?_)
 refine wpAny_bind (listUpdate_at hD rfl ?_ (Nat.zero_le _) (by rw [Array.size_map,hsz,sizeLine_eq]; exact Cz h64))
 rw [hf]
 simp only [bne_self_eq_false,Bool.false_eq_true,if_false]
 refine wpAny_pure (h _ _ c2 k2 hc2 (ax ((arrOf st).toList.map fun p=>(rd p.1,p.2)) ?_ ?_ ?_))
 ·  have hl2:(arrOf st).toList.Perm (vs.zip vs):=by
      have:=Array.perm_iff_toList_perm.mp hp
      rwa [dh] at this
    exact (hl2.map _).trans (List.Perm.of_eq (uF hl hkey))
 ·  rw [Array.toList_map,List.map_map]; rfl
 ·  rw [List.pairwise_map]; exact hu
structure Keys (κ:SortKind) (Kd:Heap→Value→List Int→Prop) (ne:Prop):Prop where
 fn:∀ {h:Heap}{v:Value}{k k':List Int},Kd h v k→Kd h v k'→k=k'
 kind:∀ {A:Around}{E:Value→Shared→Prop}{s:Shared}{ks:List (List Int)}{vs:List Value}{Q:SortKind→Shared→Prop},vs.length=ks.length→1≤vs.length→(ne→[]∉ks)→(∀ (i:Nat) (v:Value) (k:List Int),vs[i]? = some v→ks[i]? = some k→Kd s.heap v k)→Q κ s→wpAny (model prog w) A (keyKind' vs.toArray) Q E s
 lt:∀ {A:Around}{E:Value→Shared→Prop}{s:Shared}{x y:Value}{k k':List Int}{Q:Bool→Shared→Prop},A.units<cLine→Kd s.heap x k→Kd s.heap y k'→Q (ltL k k') s→wpAny (model prog w) A (keyLt' κ x y) Q E s
section
variable {κ:SortKind}{Kd:Heap→Value→List Int→Prop}{ne:Prop}
open Classical in
noncomputable def dC (Kd:Heap→Value→List Int→Prop) (h:Heap) (v:Value):List Int:=if q:∃ k,Kd h v k then q.choose else []
theorem Keys.read (K:Keys κ Kd ne) {h:Heap}{v:Value}{k:List Int} (x:Kd h v k):dC Kd h v=k:=by
 unfold dC
 have q:∃ k,Kd h v k:=⟨k,x⟩
 rw [dif_pos q]
 exact K.fn q.choose_spec x
theorem Keys.ltOk (K:Keys κ Kd ne) {s:Shared} (hu:A.units<cLine) (ks:List (List Int)):dH (model prog w) A E s (fun p=>rkL ks (dC Kd s.heap p.1)) (fun p=>∃ k∈ks,Kd s.heap p.1 k) κ:=by
 intro x y st Q hx hy hk h
 revert hx; intro HF
 refine ag (HF) fun k hm hx=>?_
 try clear HF
 revert hy; intro G3
 refine ag (G3) fun k' hm' hy=>?_
 try clear G3
 have e:(some (decide ((fun p:Keyed=>rkL ks (dC Kd s.heap p.1)) x<(fun p:Keyed=>rkL ks (dC Kd s.heap p.1)) y)))=some (ltL k k'):=by
    rw [tm hm hm',← K.read hx,← K.read hy]
 rw [e] at h
 rw [lt'_eq]
 refine wpS_bind (wpS_get ?_)
 rw [hk]
 refine wpS_bind (wpS_lift (wpAny_attempt (K.lt hu hx hy ⟨rfl,?_⟩)))
 exact wpS_pure h
set_option maxHeartbeats 4000000 in
theorem lf (K:Keys κ Kd ne) {s0 s:Shared}{D:Addr}{vs:List Value}{ks:List (List Int)}{n:Nat}{P:PySem.Fin→Shared→Prop} (hun:A.units<cLine) (ho:s.heap.get? D=some (seqObj "list" vs.toArray n)) (f2:s0.heap.get? D=none) (k0:Kp s0 s)
    (hl:vs.length=ks.length) (h64:vs.length<64) (hne:ks.length<2∨(ne→[]∉ks)) (hkey:∀ H,KG (fun b=>b≠D) s.heap H→∀ (i:Nat) (v:Value) (k:List Int),vs[i]? = some v→ks[i]? = some k→Kd H v k)
    (h:∀ s' out c,Kp s0 s'→s'.heap.get? D=some (seqObj "list" out c)→(∃ ps:List (List Int × Value),ps.Perm (ks.zip vs)∧out.toList=ps.map (·.2)∧ps.Pairwise fun x y=>ltL y.1 x.1=false)→P (.done (.ret .none)) s') :
    wpAny (model prog w) A (Builtin.«list.sort» ⟨[.ref D],[]⟩) P E s:=by
 rw [list_sort_plain]
 have s1:=Heap.SameBut.update s.heap D (Obj.mapSeq fun uu=>(#[]:Array Value))
 obtain ⟨e1,ho1⟩:∃ e1,(s.heap.update D (Obj.mapSeq fun uu=>(#[]:Array Value))).get? D=some (seqObj "list" #[] e1):=⟨_,get?_update_seq ho fun uu=>#[]⟩
 have k1:=Kp.wr k0 ho f2 s1
 refine wpAny_bind (listItems_at ho rfl ?_)
 refine wpAny_bind (listUpdate_at ho rfl ?_ (by rw [List.size_toArray,sizeLine_eq]; exact wk h64) (Nat.zero_le _))
 refine wpAny_bind (seqEpoch_at ho1 rfl ?_)
 refine wpAny_bind (wpAny_newTuple ?_ (by show vs.length≤_; rw [sizeLine_eq]; exact wk h64))
 refine wpAny_bind (wpAny_newList ?_ (Nat.zero_le _))
 refine wpAny_holding ?_
 have k3:Kp s0 { s with heap:=((s.heap.update D (Obj.mapSeq fun uu=>(#[]:Array Value))).push (seqObj "tuple" vs.toArray 0)).push (seqObj "list" #[] 0) }:=(k1.trans (.push _ _ s.toks)).trans (.push _ _ s.toks)
 have hD3:(((s.heap.update D (Obj.mapSeq fun uu=>(#[]:Array Value))).push (seqObj "tuple" vs.toArray 0)).push (seqObj "list" #[] 0)).get? D=some (seqObj "list" #[] e1):=Heap.get?_push_of_some _ (Heap.get?_push_of_some _ ho1)
 have kg:KG (fun b=>b≠D) s.heap (((s.heap.update D (Obj.mapSeq fun uu=>(#[]:Array Value))).push (seqObj "tuple" vs.toArray 0)).push (seqObj "list" #[] 0)) :=
    (KG.same s1 (fun q=>q rfl) fun o q=>by rw [ho] at q; (have oc:=Option.some.inj q; clear q; subst oc); exact Stay.not_list).trans (.of fun b o _ e=>Heap.get?_push_of_some _ (Heap.get?_push_of_some _ e))
 generalize ((s.heap.update D (Obj.mapSeq fun uu=>(#[]:Array Value))).push (seqObj "tuple" vs.toArray 0)).push (seqObj "list" #[] 0)=H at k3 hD3 kg
 have hkey3:=hkey H kg
 have hrd:∀ (i:Nat) (v:Value) (k:List Int),vs[i]? = some v→ks[i]? = some k→dC Kd H v=k:=fun i v k a b=>K.read (hkey3 i v k a b)
 show wpAny (model prog w) A _ P E { s with heap:=H }
 by_cases h2:vs.toArray.size<2
 ·  rw [if_pos h2,if_pos h2]
    refine wpAny_bind (wpAny_pure ?_)
    dsimp only
    rw [StateT.run_pure]
    refine wpAny_bind (wpAny_pure ?_)
    dsimp only
    refine nl (s:={ s with heap:=H }) (st:=SortSt.mk' general' (vs.toArray.zip vs.toArray) #[] 7 none) k3 hD3 f2 hl h64 hrd (Array.Perm.refl _) ?_ rfl h
    have hz:(vs.toArray.zip vs.toArray).toList.length≤1:=by
      rw [dh,List.length_zip]; rw [List.size_toArray] at h2; simp; exact Aw h2
    show ((vs.toArray.zip vs.toArray).toList).Pairwise _
    exact vp hz
 ·  rw [if_neg h2,if_neg h2]
    rw [List.size_toArray] at h2
    refine wpAny_bind (K.kind (s:={ s with heap:=H }) (ks:=ks) hl (by exact Bl h2) (hne.resolve_left (by exact DR hl h2)) hkey3 ?_)
    have hzs:(vs.toArray.zip vs.toArray).size=vs.length:=by rw [Array.size_zip]; simp
    have mem:∀ p∈vs.zip vs,∃ k∈ks,Kd H p.1 k:=fun p hp=>by
      refine aj (List.getElem?_of_mem hp) fun i hi=>?_
      refine ae (List.getElem?_zip_eq_some.mp hi) fun q1 q2=>?_
      have hil:i<ks.length:=by rw [← hl]; exact (List.getElem?_eq_some_iff.mp q1).1
      exact (ah (ks[i]) (List.getElem_mem hil) (hkey3 i _ _ q1 (List.getElem?_eq_getElem hil)))
    refine wpAny_bind (wpAny_mono (qC (K.ltOk (E:=E) (s:={ s with heap:=H }) hun ks) (st:=SortSt.mk' κ (vs.toArray.zip vs.toArray) #[] 7 none)
      (Q:=fun uu st'=>(arrOf st').Perm (vs.toArray.zip vs.toArray)∧failedOf st' = none∧Up (fun p=>rkL ks (dC Kd H p.1)) (arrOf st').toList) ⟨fun p hp=>?_,rfl⟩ (by show 2≤(vs.toArray.zip vs.toArray).size; rw [hzs]; exact CM h2) (by show (vs.toArray.zip vs.toArray).size<64; rw [hzs]; exact h64) rfl rfl fun st' a1 a2 a3=>⟨a1,a3,a2⟩) ?_ fun uu uu e=>e)
    · have hp':p∈(vs.toArray.zip vs.toArray).toList:=Array.mem_def.mp hp
      rw [dh] at hp'
      exact mem p hp'
    · rintro ⟨⟨⟩,st'⟩ s'' ⟨rfl,hp,hf,hu⟩
      dsimp only
      refine nl (s:={ s with heap:=H }) k3 hD3 f2 hl h64 hrd hp ?_ hf h
      have hm:∀ p∈(arrOf st').toList,∃ k∈ks,Kd H p.1 k:=fun p hp'=>by
        have:=(Array.perm_iff_toList_perm.mp hp).mem_iff.mp hp'
        rw [dh] at this
        exact mem p this
      refine List.Pairwise.imp_of_mem (fun {a b} ha hb hab=>?_) hu
      refine ag (hm a ha) fun k hk x=>?_
      refine ag (hm b hb) fun k' hk' y=>?_
      have hab':rkL ks (dC Kd H a.1)≤rkL ks (dC Kd H b.1):=hab
      rw [K.read x,K.read y] at hab' ⊢
      rw [tm hk' hk]
      exact decide_eq_false (by exact Br hab')
end
theorem uT:Keys (tuples' true) KeyOf True where
 fn:=KeyOf.fn
 kind hl h1 hne hk h:=s6 hl h1 (fun i v k a b=>⟨hk i v k a b,fun q=>hne trivial (q▸List.mem_of_getElem? b)⟩) h
 lt _ hx hy h:=s7 true hx hy h
theorem RA.ofSub {h:Heap}{G:Addr→Prop}:∀ {vs:List Value}{ds:List PyData},vs.length=ds.length→(∀ (i:Nat) (v:Value) (d:PyData),vs[i]? = some v→ds[i]? = some d→∃ bs,R h v d bs∧∀ b∈bs,G b)→∃ cs,RA h vs ds cs∧∀ b∈cs,G b
 | [],[],_,_=>(ah ([]) .nil (fun uu q=>nomatch q))
 | v :: vs,d :: ds,hl,hr=>by
    refine ag (hr 0 v d rfl rfl) fun bs r hb=>?_
    refine ag (RA.ofSub (vs:=vs) (ds:=ds) (by simpa using hl) fun i u e h1 h2=>hr (i + 1) u e h1 h2) fun cs rs hc=>?_
    exact (ah _ (.cons r rs) (fun b q=>(List.mem_append.mp q).elim (hb b) (hc b)))
 | [],_ :: _,hl,_=>by cases hl
 | _ :: _,[],hl,_=>by cases hl
theorem RA.eachSub {h:Heap}{vs:List Value}{ds:List PyData}{as:List Addr} (r:RA h vs ds as):∀ (i:Nat) (v:Value) (d:PyData),vs[i]? = some v→ds[i]? = some d→∃ bs,R h v d bs∧∀ b∈bs,b∈as :=
 RA.ind (N:=fun vs ds as=>∀ (i:Nat) (v:Value) (d:PyData),vs[i]? = some v→ds[i]? = some d→∃ bs,R h v d bs∧∀ b∈bs,b∈as) (fun i v d h1 uu=>by simp at h1) (fun {v vs d ds as bs} r rs ih i u e h1 h2=>by
    cases i with
    | zero=>exact (ah as (Option.some.inj h1▸Option.some.inj h2▸r) (fun b q=>List.mem_append_left _ q))
    | succ i=>
      refine ag (ih i u e h1 h2) fun cs r' hb=>?_
      exact (ah cs r' (fun b q=>List.mem_append_right _ (hb b q)))) r
theorem RA.ofEach {h:Heap}:∀ {vs:List Value}{ds:List PyData},vs.length=ds.length→(∀ (i:Nat) (v:Value) (d:PyData),vs[i]? = some v→ds[i]? = some d→R h v d [])→RA h vs ds []
 | [],[],_,_=>.nil
 | v :: vs,d :: ds,hl,hr=>RA.cons (as:=[]) (bs:=[]) (hr 0 v d rfl rfl) (RA.ofEach (by simpa using hl) fun i u e h1 h2=>hr (i + 1) u e h1 h2)
 | [],_ :: _,hl,_=>by cases hl
 | _ :: _,[],hl,_=>by cases hl
theorem yS (k:List Int):dg (aJ k)=some k:=by
 show aM (k.map PyData.int)=some k
 induction k with
 | nil=>rfl
 | cons a k ih=>simp only [List.map_cons,aM,ih,Option.map_some]
theorem nj {x:PyData}{k:List Int} (h:dg x=some k):x=aJ k:=by
 cases x with
 | tuple xs=>
    have key:∀ {xs:List PyData}{k:List Int},aM xs=some k→xs=k.map .int:=fun {xs}=>by
      induction xs with
      | nil=>intro k h; (have oc:=Option.some.inj h; clear h; subst oc); rfl
      | cons y xs ih=>
        intro k h
        cases y with
        | int i=>
          simp only [aM,Option.map_eq_some_iff] at h
          refine ag (h) fun k' h' FW=>?_
          try clear h
          subst FW
          rw [ih h']; rfl
        | _=>exact nN h
    show PyData.tuple xs = .tuple (k.map .int)
    rw [key h]
 | _=>exact nN h
theorem kY:∀ {xs:List PyData}{ks:List (List Int)},c0 xs=some ks→xs=ks.map aJ
 | [],ks,h=>by (have oc:=Option.some.inj h; clear h; subst oc); rfl
 | x :: xs,ks,h=>by
    simp only [c0] at h
    refine bg h fun k hk h=>?_
    refine bp h fun ks' h' FX=>?_
    (clear h; subst FX)
    rw [List.map_cons,← kY h',nj hk]
theorem z9 {k:List Int} (h:k.length≤2 ^ 22):sz (aJ k)=true:=sz_tuple.mpr ⟨by rw [List.length_map]; exact h,gV k⟩
variable {P:Addr→Prop}{s:Shared}{Q:Value→Shared→Prop}{Er:Value→Shared→Prop}{va:Value}{as:List Addr}
theorem tT {ks:List (List Int)} (hh:A.handled=none) (ra:RV s.heap va (.dicT ks) as) (hk:ks.length≤lim) (hQ:∀ v s',EP P s (.d (.list (ks.map aJ)),fresh (ks.map aJ)) v s'→Q v s'):wpAny (model prog w) A (call (bval (b1n .list)) [va]) Q Er s:=by
 refine rE (ra) fun a xs FY _ lo FZ F0 hks htu=>?_
 try clear ra
 subst FY
 refine cH (FZ) fun o es ep e hx hd he _ _=>?_
 try clear FZ
 subst F0
 have raw:RawD s.heap a es ep:=(ax o e hx.1 hd)
 have hsz:es.size=xs.length:=size_of_entries he
 rw [List.length_map] at hk
 unfold lim at hk
 refine tZ lo hh raw (by rw [hsz,sizeLine_eq]; exact CO hk) fun h' tk acc' c' hkp hS hacc=>hQ _ _ ?_
 refine EP.aList (vs:=acc'.toList) (n:=c') (as:=[]) (aA h' tk rfl (.of hkp)) (Heap.get?_none_of_le (Nat.le_refl _)) (by simpa using hS) (RA.ofEach ?_ fun i v d hi hd'=>?_) (by rw [List.length_map,List.length_map]; exact wR hk) (fun x hx=>?_) fun uu h=>nomatch h
 ·  rw [Array.length_toList,List.length_map,List.length_map,hacc.1,hsz]
 ·  obtain ⟨hi',rfl⟩:=hacc.2 i v (by rw [← Array.getElem?_toList]; exact hi)
    have ee:=entry_at he i
    rw [Array.getElem?_eq_getElem hi'] at ee
    refine bp ee.symm fun x hxi hxe=>?_
    have ek:es[i].key = .ref x.2.1:=by rw [← hxe]; rfl
    rw [List.getElem?_map,List.getElem?_map,hxi] at hd'
    (have oc:=Option.some.inj hd'; clear hd'; subst oc)
    rw [ek]
    exact (htu x (List.mem_of_getElem? hxi)).keep hkp
 ·  refine aN hx fun k hk' F1=>?_
    (clear hx; subst F1)
    exact z9 (hks k hk')
theorem fx (ks:List (List Int)):(aE ks).Pairwise fun a b=>ltL b a=false:=by
 have:=List.pairwise_mergeSort (le:=fun a b:List Int=>!ltL b a) (fun a b c h1 h2=>by
    simp only [Bool.not_eq_true'] at h1 h2 ⊢
    cases q:ltL c a with
    | false=>rfl
    | true=>
      cases q2:ltL b c with
      | true=>rw [fH q2 q] at h1; exact nT h1
      | false=>rw [gg h2 q2,h1] at q; cases q) (fun a b=>by
    cases q:ltL b a with
    | false=>rfl
    | true=>
      cases q2:ltL a b with
      | false=>rfl
      | true=>have:=fH q q2; rw [lh] at this; cases this) ks
 exact this.imp fun h=>by simpa using h
theorem j7 {κ:SortKind}{Kd:Heap→Value→List Int→Prop}{ne:Prop} (K:Keys κ Kd ne) {g:List Int→PyData}{ks:List (List Int)} (hkd:∀ {h:Heap}{v:Value}{k:List Int}{bs:List Addr},R h v (g k) bs→Kd h v k) (hu:A.units + 200<cLine) (ra:R s.heap va (.list (ks.map g)) as) (ha:∀ b∈as,P b) (hz:sz (.list (ks.map g))=true) (h64:ks.length<64) (hne:ks.length<2∨(ne→[]∉ks)) (hQ:∀ v s',EP P s (.d (.list ((aE ks).map g)),fresh ((aE ks).map g)) v s'→Q v s') :
    wpAny (model prog w) A (call (.builtin "sorted") [va]) Q Er s:=by
 refine ra.isList_k fun a vs n cs F2 ea ra' F4=>?_
 (clear ra; subst F2)
 subst F4
 have hl:vs.length=ks.length:=by have:=ra'.length; rw [List.length_map] at this; exact Az this
 have each:∀ (i:Nat) (v:Value) (k:List Int),vs[i]? = some v→ks[i]? = some k→∃ bs,R s.heap v (g k) bs∧∀ b∈bs,b∈cs:=fun i v k h1 h2=>ra'.eachSub i v (g k) h1 (by rw [List.getElem?_map,h2]; rfl)
 have old:∀ b∈cs,∃ o,s.heap.get? b=some o:=fun b hb=>bi (ra'.there b hb) fun uu uu e=>⟨_,e⟩
 refine Calls.call_function_entry kind_sorted plain_sorted entry_sorted (args_sorted1 _) ?_
 unfold Builtin.«sorted»
 refine wpAny_bind (m:=checkCount "sorted" 1 1 _) (wpAny_pure ?_)
 refine wpAny_bind (collect_list (isL ea) ?_ (by rw [sizeLine_eq]; exact wv h64 hl))
 refine wpAny_bind (wpAny_newList ?_ (by rw [sizeLine_eq]; exact wv h64 hl))
 have hsz:((s.heap.push (seqObj "list" #[] 0)).update s.heap.objs.size (Obj.mapSeq (· ++ vs.toArray))).objs.size=s.heap.objs.size + 1:=by
    rw [Heap.size_update,size_push']
 have hoL:(((s.heap.push (seqObj "list" #[] 0)).update s.heap.objs.size (Obj.mapSeq (· ++ vs.toArray))).push (seqObj "list" vs.toArray 0)).get? (s.heap.objs.size + 1)=some (seqObj "list" vs.toArray 0):=by
    rw [← hsz]; exact Heap.get?_push_size _ rfl
 have keep:∀ b o,s.heap.get? b=some o→(((s.heap.push (seqObj "list" #[] 0)).update s.heap.objs.size (Obj.mapSeq (· ++ vs.toArray))).push (seqObj "list" vs.toArray 0)).get? b=some o:=fun b o q=>by
    have hlt:b<s.heap.objs.size:=Heap.lt_size q
    rw [Heap.get?_push_ne _ _ _ (by rw [hsz]; exact Nat.ne_of_lt (Nat.lt_succ_of_lt hlt)),Heap.get?_update_ne _ _ _ _ (Nat.ne_of_lt hlt),Heap.get?_push_ne _ _ _ (Nat.ne_of_lt hlt)]
    exact q
 have fnew:s.heap.get? (s.heap.objs.size + 1)=none:=Heap.get?_none_of_le (Nat.le_succ _)
 show wpAny _ _ _ _ _ { s with heap:=((s.heap.push (seqObj "list" #[] 0)).update s.heap.objs.size (Obj.mapSeq (· ++ vs.toArray))).push (seqObj "list" vs.toArray 0) }
 rw [hsz]
 refine wpAny_bind (wpAny_holding (wpAny_call_entry slot_list_sort (ah _ hoL rfl) entry_list_sort ?body (args_list_sort _)))
 case body=>
    refine lf K (s0:=s) (s:={ s with heap:=((s.heap.push (seqObj "list" #[] 0)).update s.heap.objs.size (Obj.mapSeq (· ++ vs.toArray))).push (seqObj "list" vs.toArray 0) }) (by show A.units + 1 + 1<cLine; exact Dj hu) hoL fnew (.of keep) hl (by exact wt h64 hl) hne (fun H kg i v k h1 h2=>?_) fun s' out c kp hD hps=>(ah _ rfl (wpAny_pure (ah _ rfl ?_)))
    · refine ag (each i v k h1 h2) fun bs r hb=>?_
      refine hkd ((r.keep keep).onG kg fun b q e=>?_)
      refine aj (old b (hb b q)) fun o eo=>?_
      rw [e,fnew] at eo; exact nN eo
    refine aq (hps) fun ps p1 p2 p3=>?_
    try clear hps
    have q1:(ps.map (·.1)).Perm ks:=by
      have:=p1.map (·.1)
      rwa [List.map_fst_zip (by exact DI hl)] at this
    have q2:ps.map (·.1)=aE ks:=eW (r:=fun a b=>ltL b a=false) (fun a b h1 h2=>gg h2 h1) (q1.trans (List.mergeSort_perm ks _).symm) (List.pairwise_map.mpr p3) (fx ks)
    have hlen:ps.length=ks.length:=by rw [← q1.length_eq,List.length_map]
    obtain ⟨cs',rs,hcs⟩:=RA.ofSub (h:=s'.heap) (G:=fun b=>b∈cs) (vs:=out.toList) (ds:=(aE ks).map g) (by rw [p2,List.length_map,List.length_map,← q2,List.length_map]) fun i v d h1 h2=>by
      rw [← q2,List.map_map,List.getElem?_map] at h2
      rw [p2,List.getElem?_map] at h1
      cases hp:ps[i]? with
      | none=>rw [hp] at h1; exact nN h1
      | some q=>
        rw [hp] at h1 h2
        (have oc:=Option.some.inj h1; clear h1; subst oc); (have oc:=Option.some.inj h2; clear h2; subst oc)
        refine aj (List.getElem?_of_mem (p1.mem_iff.mp (List.mem_of_getElem? hp))) fun j hj=>?_
        refine ae (List.getElem?_zip_eq_some.mp hj) fun j1 j2=>?_
        refine ag (each j _ _ j2 j1) fun bs r hb=>?_
        exact (ah bs (r.k kp.k) hb)
    refine hQ _ _ (EP.aList (vs:=out.toList) (n:=c) (as:=cs') kp fnew (by simpa [seqObj] using hD) rs ?_ (fun x hx=>?_) fun b hb=>⟨ha b (.tail _ (hcs b hb)),fun e=>?_⟩)
    · rw [List.length_map,← q2,List.length_map,hlen]; exact xA h64
    · refine aN hx fun k hk' F5=>?_
      (clear hx; subst F5)
      refine (sz_list.mp hz).2 _ (List.mem_map.mpr (ah k ?_ rfl))
      exact (List.mergeSort_perm ks _).mem_iff.mp hk'
    · refine aj (old b (hcs b hb)) fun o eo=>?_
      rw [e,fnew] at eo; exact nN eo
theorem qM {xs:List PyData}{ks:List (List Int)} (hu:A.units + 200<cLine) (ra:R s.heap va (.list xs) as) (ha:∀ b∈as,P b) (hz:sz (.list xs)=true) (hk:c0 xs=some ks) (h64:xs.length<64) (hne:ks.length<2∨[]∉ks) (hQ:∀ v s',EP P s (.d (.list ((aE ks).map aJ)),fresh ((aE ks).map aJ)) v s'→Q v s') :
    wpAny (model prog w) A (call (.builtin "sorted") [va]) Q Er s:=by
 cases kY hk
 rw [List.length_map] at h64
 exact j7 uT (fun r=>KeyOf.ofR r) hu ra ha hz h64 (hne.imp id fun h _=>h) hQ
end
end Mine
namespace Mine
open PySem PyProof.Rows
section
variable {A:Around}{E:Value→Shared→Prop}
theorem vw {vs:List Value}{ns:List Int} (h:IntsAre vs ns):(vs.zip vs).map (fun p=>oY p.1)=ns.map Int.toNat:=by
 induction h with
 | nil=>rfl
 | cons n t r ih=>exact congrArg (n.toNat :: ·) ih
theorem yN {vs:List Value}{ns:List Int} (h:IntsAre vs ns):(∀ i∈ns,0≤i)→∀ p∈vs.zip vs,∃ i t,p.1 = .int i t∧0≤i:=by
 induction h with
 | nil=>exact fun uu p hp=>nomatch hp
 | cons n t r ih=>
    intro h0 p hp
    rcases List.mem_cons.mp (show p∈(Value.int n t,Value.int n t) :: _ from hp) with rfl | hp
    · exact (aA n t rfl (h0 n (.head _)))
    · exact ih (fun i hi=>h0 i (.tail _ hi)) p hp
theorem qa {vs:List Value}{ns:List Int} (hI:IntsAre vs ns) (i:Nat):rkA (fun p=>oY p.1) (vs.toArray.zip vs.toArray) i=((ns.map Int.toNat)[i]?).getD 0:=by
 rw [← vw hI,List.getElem?_map,← dh,Array.getElem?_toList]
 unfold rkA
 cases (vs.toArray.zip vs.toArray)[i]? <;> rfl
set_option maxHeartbeats 4000000 in
theorem nH {s0 s:Shared}{D:Addr}{vs:List Value}{ns:List Int}{n:Nat}{P:PySem.Fin→Shared→Prop} (ho:s.heap.get? D=some (seqObj "list" vs.toArray n)) (f2:s0.heap.get? D=none) (k0:Kp s0 s)
    (hI:IntsAre vs ns) (h2:2≤vs.length) (h128:vs.length<128) (hup:ns.Pairwise (· < ·)) (h0:∀ i∈ns,0≤i)
    (h:∀ s' c,Kp s0 s'→s'.heap.get? D=some (seqObj "list" vs.toArray c)→P (.done (.ret .none)) s') :
    wpAny (model prog w) A (Builtin.«list.sort» ⟨[.ref D],[]⟩) P E s:=by
 rw [list_sort_plain]
 have s1:=Heap.SameBut.update s.heap D (Obj.mapSeq fun uu=>(#[]:Array Value))
 obtain ⟨e1,ho1⟩:∃ e1,(s.heap.update D (Obj.mapSeq fun uu=>(#[]:Array Value))).get? D=some (seqObj "list" #[] e1):=⟨_,get?_update_seq ho fun uu=>#[]⟩
 have k1:=Kp.wr k0 ho f2 s1
 refine wpAny_bind (listItems_at ho rfl ?_)
 refine wpAny_bind (listUpdate_at ho rfl ?_ (by rw [List.size_toArray,sizeLine_eq]; exact w9 h128) (Nat.zero_le _))
 refine wpAny_bind (seqEpoch_at ho1 rfl ?_)
 refine wpAny_bind (wpAny_newTuple ?_ (by show vs.length≤_; rw [sizeLine_eq]; exact w9 h128))
 refine wpAny_bind (wpAny_newList ?_ (Nat.zero_le _))
 refine wpAny_holding ?_
 have k3:Kp s0 { s with heap:=((s.heap.update D (Obj.mapSeq fun uu=>(#[]:Array Value))).push (seqObj "tuple" vs.toArray 0)).push (seqObj "list" #[] 0) }:=(k1.trans (.push _ _ s.toks)).trans (.push _ _ s.toks)
 have hD3:(((s.heap.update D (Obj.mapSeq fun uu=>(#[]:Array Value))).push (seqObj "tuple" vs.toArray 0)).push (seqObj "list" #[] 0)).get? D=some (seqObj "list" #[] e1):=Heap.get?_push_of_some _ (Heap.get?_push_of_some _ ho1)
 generalize ((s.heap.update D (Obj.mapSeq fun uu=>(#[]:Array Value))).push (seqObj "tuple" vs.toArray 0)).push (seqObj "list" #[] 0)=H at k3 hD3
 show wpAny (model prog w) A _ P E { s with heap:=H }
 have hn2:¬ vs.toArray.size<2:=by rw [List.size_toArray]; exact Bg h2
 rw [if_neg hn2,if_neg hn2]
 have hkk:keyKind' vs.toArray=pure oneType':=by
    rcases vs with _ | ⟨a,_ | ⟨b,vs⟩⟩
    · simp at h2
    · simp at h2
    · exact keyKind_ints hI
 rw [hkk]
 refine wpAny_bind (wpAny_pure ?_)
 have hlen:=hI.length
 have hzs:(vs.toArray.zip vs.toArray).size=vs.length:=by rw [Array.size_zip]; simp
 refine wpAny_bind (wpAny_mono (rx (sD (A:=A) (E:=E) (s:={ s with heap:=H })) (st:=SortSt.mk' oneType' (vs.toArray.zip vs.toArray) #[] 7 none)
      (Q:=fun uu st'=>arrOf st' = vs.toArray.zip vs.toArray∧failedOf st' = none) ⟨fun p hp=>?_,rfl⟩ (by show 2≤(vs.toArray.zip vs.toArray).size; rw [hzs]; exact Cj h2) (by show (vs.toArray.zip vs.toArray).size<128; rw [hzs]; exact h128) rfl rfl ?_ fun st' a1 a2=>⟨a1,a2⟩) ?_ fun uu uu e=>e)
 ·  have hp':p∈(vs.toArray.zip vs.toArray).toList:=Array.mem_def.mp hp
    rw [dh] at hp'
    exact yN hI h0 p hp'
 ·  intro i j _ hij hj
    replace hj:j<0 + (vs.toArray.zip vs.toArray).size:=hj
    rw [hzs] at hj
    show rkA _ (vs.toArray.zip vs.toArray) i≤rkA _ (vs.toArray.zip vs.toArray) j
    rw [qa hI,qa hI,List.getElem?_map,List.getElem?_map,List.getElem?_eq_getElem (show i<ns.length by exact w8 hlen hij hj),List.getElem?_eq_getElem (show j<ns.length by exact wS hlen hj)]
    show (ns[i]'_).toNat≤(ns[j]'_).toNat
    by_cases e:i=j
    · subst e; exact Nat.le_refl _
    · have:=List.pairwise_iff_getElem.mp hup i j (by exact w8 hlen hij hj) (by exact wS hlen hj) (by exact BT hij e)
      exact Int.toNat_le_toNat (Int.le_of_lt this)
 ·  rintro ⟨⟨⟩,st'⟩ s'' ⟨rfl,ha,hf⟩
    dsimp only
    have ev:(arrOf st').map (·.2)=vs.toArray:=by
      rw [ha]
      apply Array.toList_inj.mp
      rw [Array.toList_map,dh,List.map_snd_zip (Nat.le_refl _)]
    have s2:=Heap.SameBut.update H D (Obj.mapSeq fun uu=>vs.toArray)
    obtain ⟨c2,hc2⟩:∃ c2,(H.update D (Obj.mapSeq fun uu=>vs.toArray)).get? D=some (seqObj "list" vs.toArray c2):=⟨_,get?_update_seq hD3 fun uu=>vs.toArray⟩
    have k4:=Kp.wr (s:={ s with heap:=H }) k3 hD3 f2 s2
    refine wpAny_bind (seqEpoch_at (s:={ s with heap:=H }) hD3 rfl ?_)
    rw [show (arrOf st').map (fun x=>x.2)=vs.toArray from ev]
    refine wpAny_bind (listUpdate_at (s:={ s with heap:=H }) hD3 rfl ?_ (Nat.zero_le _) (by rw [List.size_toArray,sizeLine_eq]; exact CX h128))
    rw [show failedOf st' = none from hf]
    simp only [bne_self_eq_false,Bool.false_eq_true,if_false]
    exact wpAny_pure (h _ c2 k4 hc2)
variable {P:Addr→Prop}{s:Shared}{Q:Value→Shared→Prop}{Er:Value→Shared→Prop}{va:Value}{as:List Addr}
theorem qK {xs:List PyData}{ns:List Int} (ra:R s.heap va (.list xs) as) (hi:aM xs=some ns) (h64:¬ xs.length<64) (h128:xs.length<128) (h0:∀ i∈ns,0≤i) (hup:ns.Pairwise (· < ·)) (hQ:∀ v s',EP P s (.d (aa ns),.deep) v s'→Q v s') :
    wpAny (model prog w) A (call (.builtin "sorted") [va]) Q Er s:=by
 refine ra.isList_k fun a vs n cs FW ea ra' FX=>?_
 (clear ra; subst FW)
 subst FX
 have hl:=ra'.length
 refine aD (ra'.ints hi) fun hI FY FZ=>?_
 subst FY
 subst FZ
 rw [List.length_map] at hl h64 h128
 refine Calls.call_function_entry kind_sorted plain_sorted entry_sorted (args_sorted1 _) ?_
 unfold Builtin.«sorted»
 refine wpAny_bind (m:=checkCount "sorted" 1 1 _) (wpAny_pure ?_)
 refine wpAny_bind (collect_list (isL ea) ?_ (by rw [sizeLine_eq]; exact xu h128 hl))
 refine wpAny_bind (wpAny_newList ?_ (by rw [sizeLine_eq]; exact xu h128 hl))
 have hsz:((s.heap.push (seqObj "list" #[] 0)).update s.heap.objs.size (Obj.mapSeq (· ++ vs.toArray))).objs.size=s.heap.objs.size + 1:=by
    rw [Heap.size_update,size_push']
 have hoL:(((s.heap.push (seqObj "list" #[] 0)).update s.heap.objs.size (Obj.mapSeq (· ++ vs.toArray))).push (seqObj "list" vs.toArray 0)).get? (s.heap.objs.size + 1)=some (seqObj "list" vs.toArray 0):=by
    rw [← hsz]; exact Heap.get?_push_size _ rfl
 have keep:∀ b o,s.heap.get? b=some o→(((s.heap.push (seqObj "list" #[] 0)).update s.heap.objs.size (Obj.mapSeq (· ++ vs.toArray))).push (seqObj "list" vs.toArray 0)).get? b=some o:=fun b o q=>by
    have hlt:b<s.heap.objs.size:=Heap.lt_size q
    rw [Heap.get?_push_ne _ _ _ (by rw [hsz]; exact Nat.ne_of_lt (Nat.lt_succ_of_lt hlt)),Heap.get?_update_ne _ _ _ _ (Nat.ne_of_lt hlt),Heap.get?_push_ne _ _ _ (Nat.ne_of_lt hlt)]
    exact q
 show wpAny _ _ _ _ _ { s with heap:=((s.heap.push (seqObj "list" #[] 0)).update s.heap.objs.size (Obj.mapSeq (· ++ vs.toArray))).push (seqObj "list" vs.toArray 0) }
 rw [hsz]
 refine wpAny_bind (wpAny_holding (wpAny_call_entry slot_list_sort (ah _ hoL rfl) entry_list_sort ?body (args_list_sort _)))
 case body=>
    refine nH (s0:=s) (s:={ s with heap:=((s.heap.push (seqObj "list" #[] 0)).update s.heap.objs.size (Obj.mapSeq (· ++ vs.toArray))).push (seqObj "list" vs.toArray 0) }) hoL (Heap.get?_none_of_le (Nat.le_succ _)) (.of keep) hI (by exact A9 h64 hl) (by exact CN h128 hl) hup h0 fun s' c kp hD=>(ah _ rfl (wpAny_pure (ah _ rfl (hQ _ _ ?_))))
    have ep:EP P s (.d (.list (ns.map .int)),fresh (ns.map .int)) (.ref (s.heap.objs.size + 1)) s' :=
      EP.aList (vs:=vs) (n:=c) (as:=[]) kp (Heap.get?_none_of_le (Nat.le_succ _)) (by simpa [seqObj] using hD) (RA.of_ints hI) (by rw [List.length_map]; exact Ch h128) (gV _) fun uu h=>(nomatch h)
    have ef:fresh (ns.map .int) = .deep:=by
      unfold fresh
      rw [if_pos]
      rw [List.all_map,List.all_eq_true]
      intro _ _; rfl
    rw [ef] at ep
    exact ep
end
end Mine
namespace Mine
open PySem PyProof.Rows
section
open AutoSeq1 (wpAny_loadPart')
open MeetsSeq MeetsSeq2 MeetsSeq3
theorem s5 {vs:List Value}{ns:List Int} (h:IntsAre vs ns):∀ {i:Nat}{v:Value},vs[i]? = some v→∃ x t,v = .int x t∧ns[i]? = some x:=by
 induction h with
 | nil=>intro i v q; simp at q
 | cons x t _ ih=>
    intro i v q
    cases i with
    | zero=>simp only [List.getElem?_cons_zero,Option.some.injEq] at q; exact ⟨x,t,q.symm,rfl⟩
    | succ i=>exact ih (by simpa using q)
theorem sS (l b:Addr) (vs us:List Value) (n m:Nat) (ks js:List Int) (ia:IntsAre vs ks) (ib:IntsAre us js) (k:Nat) :
    ∀ i:Nat,vs.length - i=k→i≤vs.length→i≤us.length→Meets (Builtin.«list.__eq__.loop» ⟨[.ref l,.ref b,rawInt i,rawInt 0],[]⟩)
      (fun A R s=>s.heap.get? l=some ⟨.type "list", none,.seq vs.toArray n,#[]⟩∧s.heap.get? b=some ⟨.type "list", none,.seq us.toArray m,#[]⟩∧R (.ok (.ret (.bool (ltL (ks.drop i) (js.drop i))))) s):=by
 have l1:=ia.length
 have l2:=ib.length
 induction k with
 | zero=>
    intro i hk h1 h2 prog w A R s h
    obtain ⟨hp,g,d,tk,os⟩:=s; obtain ⟨hl,hb,h⟩:=h
    wp_walk using wpAny_loadPart' hl,wpAny_loadPart' hb
    have hi1:vs.toArray[((i:Nat):Int).toNat]? = none:=by simp; omega
    rw [hi1]
    wp_walk using wpAny_loadPart' hl,wpAny_loadPart' hb
    show R (.ok (.ret (.bool (decide (vs.toArray.size<us.toArray.size))))) _
    have e:ltL (ks.drop i) (js.drop i)=decide (vs.toArray.size<us.toArray.size):=by
      rw [List.size_toArray,List.size_toArray,List.drop_eq_nil_of_le (as:=ks) (by lia)]
      cases q:js.drop i with
      | nil=>
        have:=congrArg List.length q
        rw [List.length_drop,List.length_nil] at this
        exact (decide_eq_false (by lia)).symm
      | cons y r=>
        have:=congrArg List.length q
        rw [List.length_drop,List.length_cons] at this
        exact (decide_eq_true (by lia)).symm
    rwa [e] at h
 | succ k ih=>
    intro i hk h1 h2 prog w A R s h
    obtain ⟨hp,g,d,tk,os⟩:=s; obtain ⟨hl,hb,h⟩:=h
    wp_walk using wpAny_loadPart' hl,wpAny_loadPart' hb
    have hlt:i<vs.length:=by omega
    have hi1:vs.toArray[((i:Nat):Int).toNat]? = some vs[i]:=by simp [hlt]
    refine au (s5 ia (List.getElem?_eq_getElem hlt)) fun x t ex kx=>?_
    have dk:ks.drop i=x :: ks.drop (i + 1):=by
      refine aj (List.getElem?_eq_some_iff.mp kx) fun hi e=>?_
      rw [List.drop_eq_getElem_cons hi,e]
    rw [hi1]
    by_cases hlt2:i<us.length
    · have hi2:us.toArray[((i:Nat):Int).toNat]? = some us[i]:=by simp [hlt2]
      refine au (s5 ib (List.getElem?_eq_getElem hlt2)) fun y u ey jy=>?_
      have dj:js.drop i=y :: js.drop (i + 1):=by
        refine aj (List.getElem?_eq_some_iff.mp jy) fun hi e=>?_
        rw [List.drop_eq_getElem_cons hi,e]
      have hc:((i:Int) + 1)=((i + 1:Nat):Int):=by push_cast; rfl
      rw [hi2,ex,ey]
      rw [dk,dj] at h
      refine wpAny_bind (wpAny_eqBool_int ?_)
      by_cases e:x=y
      · subst e
        rw [show (x == x)=true from beq_self_eq_true x]
        wp_walk
        rw [hc]
        exact ⟨plainId_quiet plain_eq_loop _,codeAny_builtin entry_eq_loop (by
          rw [Around.under_plainId plain_eq_loop _]
          exact ih (i + 1) (by omega) (by omega) (by omega) prog w A R _ ⟨hl,hb,by simpa [ltL] using h⟩)⟩
      · rw [show (x == y)=false from beq_eq_false_iff_ne.mpr e]
        wp_walk using wpAny_loadPart' hl,wpAny_loadPart' hb
        rw [hi1,hi2,ex,ey]
        have e2:ltL (x :: ks.drop (i + 1)) (y :: js.drop (i + 1))=decide (x<y):=by unfold ltL; rw [if_neg e]
        rw [e2] at h
        exact wpAny_bind (wpAny_lt_int (wpAny_pure h))
    · have hi2:us.toArray[((i:Nat):Int).toNat]? = none:=by simp; omega
      rw [hi2]
      wp_walk using wpAny_loadPart' hl,wpAny_loadPart' hb
      show R (.ok (.ret (.bool (decide (vs.toArray.size<us.toArray.size))))) _
      have e:ltL (ks.drop i) (js.drop i)=decide (vs.toArray.size<us.toArray.size):=by
        rw [List.size_toArray,List.size_toArray,dk,List.drop_eq_nil_of_le (as:=js) (by lia)]
        exact (decide_eq_false (by lia)).symm
      rwa [e] at h
theorem tQ (l b:Addr) (vs us:List Value) (n m:Nat) (ks js:List Int) (ia:IntsAre vs ks) (ib:IntsAre us js) :
    Meets (Builtin.«list.__lt__» ⟨[.ref l,.ref b],[]⟩)
      (fun A R s=>s.heap.get? l=some ⟨.type "list", none,.seq vs.toArray n,#[]⟩∧s.heap.get? b=some ⟨.type "list", none,.seq us.toArray m,#[]⟩∧R (.ok (.ret (.bool (ltL ks js)))) s):=by
 intro prog w A R s h
 obtain ⟨hp,g,d,tk,os⟩:=s; obtain ⟨hl,hb,h⟩:=h
 have f3:=AutoSeq1.sub_list_list
 wp_walk using wpAny_loadPart' hl,wpAny_loadPart' hb
 exact ⟨plainId_quiet plain_eq_loop _,codeAny_builtin entry_eq_loop (by
    rw [Around.under_plainId plain_eq_loop _]
    exact sS l b vs us n m ks js ia ib _ 0 rfl (Nat.zero_le _) (Nat.zero_le _) prog w A R _ ⟨hl,hb,by simpa using h⟩)⟩
end
noncomputable def RowOf (h:Heap) (v:Value) (k:List Int):Prop:=∃ a vs n,v = .ref a∧h.get? a=some ⟨.type "list", none,.seq vs.toArray n,#[]⟩∧IntsAre vs k
theorem RowOf.fn {h:Heap}{v:Value}{k k':List Int} (a:RowOf h v k) (b:RowOf h v k'):k=k':=by
 refine aL (a) fun x vs n FW e i=>?_
 try clear a
 subst FW
 refine aL (b) fun uu vs' n' q e' i'=>?_
 try clear b
 cases q
 rw [e] at e'
 have:vs=vs':=by cases e'; rfl
 subst this
 exact IntsAre.fn i i'
section
variable {A:Around}{E:Value→Shared→Prop}{s:Shared}
theorem sf {x y:Value}{k k':List Int}{Q:Bool→Shared→Prop} (hu:A.units<cLine) (hx:RowOf s.heap x k) (hy:RowOf s.heap y k') (h:Q (ltL k k') s):wpAny (model prog w) A (oneLt' true x y) Q E s:=by
 refine aL (hx) fun a vs n FX ea ia=>?_
 try clear hx
 subst FX
 refine aL (hy) fun b us m FY eb ib=>?_
 try clear hy
 subst FY
 rw [oneLt'_eq]
 simp only [if_true]
 refine wpAny_bind (wpAny_cRoomFor hu ?_)
 refine wpAny_bind (wpAny_callSpecialIfBound?_slot ⟨_,ea,rfl⟩ F.slot_list_lt (call_meets F.slot_list_lt ⟨_,ea,rfl⟩ F.entry_list_lt (F.args_list_lt_2 _ _) (tQ a b vs us n m k k' ia ib) ⟨ea,eb,?_⟩))
 exact wpAny_truthy_bool h
theorem jw {Q:List (Option Value)→Shared→Prop}:∀ {vs:List Value},(∀ v∈vs,∃ k,RowOf s.heap v k)→Q (vs.map fun uu=>none) s→wpAny (model prog w) A (vs.mapM firstOfTuple') Q E s
 | [],_,h=>by rw [List.mapM_nil]; exact wpAny_pure h
 | v :: vs,hk,h=>by
    refine kA (hk v (.head _)) fun k a us n FZ ea ia=>?_
    subst FZ
    rw [List.mapM_cons]
    refine wpAny_bind ?_
    rw [mR]
    refine wpAny_bind (wpAny_typeOf (T := "list") ⟨_,ea,rfl⟩ ?_)
    rw [if_pos (by decide)]
    exact wpAny_pure (wpAny_bind (jw (vs:=vs) (fun v hv=>hk v (.tail _ hv)) (wpAny_pure h)))
theorem j9 {Q:List Value→Shared→Prop}:∀ {vs:List Value},(∀ v∈vs,∃ k,RowOf s.heap v k)→Q (vs.map fun uu=>.type "list") s→wpAny (model prog w) A (vs.mapM typeOf) Q E s
 | [],_,h=>by rw [List.mapM_nil]; exact wpAny_pure h
 | v :: vs,hk,h=>by
    refine kA (hk v (.head _)) fun k a us n F0 ea ia=>?_
    subst F0
    rw [List.mapM_cons]
    exact wpAny_bind (wpAny_typeOf (T := "list") ⟨_,ea,rfl⟩ (wpAny_bind (j9 (vs:=vs) (fun f h=>hk f (.tail _ h)) (wpAny_pure h))))
theorem r8 {vs:List Value}{Q:SortKind→Shared→Prop} (h1:1≤vs.length) (hk:∀ v∈vs,∃ k,RowOf s.heap v k) (h:Q oneType' s):wpAny (model prog w) A (keyKind' vs.toArray) Q E s:=by
 rw [keyKind'_eq,List.mapM_toArray,map_eq_pure_bind]
 refine wpAny_bind (wpAny_bind (jw hk (wpAny_pure ?_)))
 obtain ⟨f₁,fr,rfl⟩:∃ f₁ fr,vs=f₁ :: fr:=by
    cases vs with
    | nil=>simp at h1
    | cons f₁ fr=>exact ⟨f₁,fr,rfl⟩
 rw [if_neg (by simp),if_neg (by simp)]
 rw [oneTypeOnly'_eq,List.mapM_toArray,map_eq_pure_bind]
 refine wpAny_bind (wpAny_bind (wpAny_bind (j9 hk (wpAny_pure ?_))))
 have hall2:((List.map (fun uu=>Value.type "list") (f₁ :: fr)).toArray.all fun x=>x == Value.type "list")=true:=by
    simp only [List.all_toArray,List.all_map,List.all_eq_true]
    intro _ _
    rfl
 have h0:(List.map (fun uu=>Value.type "list") (f₁ :: fr)).toArray[0]? = some (Value.type "list"):=by simp
 rw [h0]
 simp only [hall2,if_true]
 exact wpAny_pure (wpAny_pure h)
theorem wb:Keys oneType' RowOf False where
 fn:=RowOf.fn
 kind hl h1 _ hk h:=r8 h1 (fun v hv=>by
    refine aj (List.getElem?_of_mem hv) fun i hi=>?_
    have hil:=(List.getElem?_eq_some_iff.mp hi).1
    rw [hl] at hil
    exact ⟨_,hk i v _ hi (List.getElem?_eq_getElem hil)⟩) h
 lt hu hx hy h:=sf hu hx hy h
end
section
variable {A:Around}{P:Addr→Prop}{s:Shared}{Q:Value→Shared→Prop}{Er:Value→Shared→Prop}{va:Value}{as:List Addr}
theorem kH:∀ {xs:List PyData}{ks:List (List Int)},eV xs=some ks→xs=ks.map aa
 | [],ks,h=>by (have oc:=Option.some.inj h; clear h; subst oc); rfl
 | x :: xs,ks,h=>by
    cases x with
    | list ys=>
      simp only [eV] at h
      refine bg h fun k hk h=>?_
      refine bp h fun ks' h' F1=>?_
      subst F1
      rw [List.map_cons,← kH h']
      have:=nj (x:=.tuple ys) (k:=k) hk
      unfold aJ at this
      injection this with e
      rw [e]; rfl
    | _=>exact nN h
theorem RowOf.ofR {h:Heap}{v:Value}{k:List Int}{bs:List Addr} (r:R h v (aa k) bs):RowOf h v k:=by
 refine R.isList_k r fun a vs n cs F2 ea ra _=>?_
 subst F2
 exact ⟨a,vs,n,rfl,ea,(ra.ints (yS k)).1⟩
theorem rc {xs:List PyData}{ks:List (List Int)} (hu:A.units + 200<cLine) (ra:R s.heap va (.list xs) as) (ha:∀ b∈as,P b) (hz:sz (.list xs)=true) (hk:eV xs=some ks) (h64:xs.length<64) (hQ:∀ v s',EP P s (.d (.list ((aE ks).map aa)),fresh ((aE ks).map aa)) v s'→Q v s') :
    wpAny (model prog w) A (call (.builtin "sorted") [va]) Q Er s:=by
 cases kH hk
 rw [List.length_map] at h64
 exact j7 wb (fun r=>RowOf.ofR r) hu ra ha hz h64 (.inr fun q=>q.elim) hQ
end
end Mine
namespace Mine
open PySem PyProof.Rows
section
variable (fns:Fns) (k:Nat) (C:Calls) (XP:String→Shared→Value→Shared→Prop)
noncomputable def bS:Prop:=∀ f g,C f=some g→1≤k∧(f = "law" → fns.lam=true)∧(f∈aO→f∈SF.excN)∧(f∉aO→∃ a,adr fns f=some a∧∀ {A:Around}{P:Addr→Prop}{s:Shared}{Q:Value→Shared→Prop}{Er:Value→Shared→Prop}{xs:List V}{vals:List Value}{as:List Addr},
 Room fns.hand k A→(∃ l,A.frames=some l∧FrOk s.heap l)→GE fns s.heap→RVs s.heap xs vals as→(∀ a∈as,P a)→g xs≠.bad→(∀ r,g xs = .ok r→∀ v s',EP P s r v s'→Q v s')→(∀ c,g xs = .exc c→∀ x s',XP c s x s'→Er x s') →
 wpAny (model prog w) A (call (.ref a) vals []) Q Er s)
end
section
variable {fns:Fns}{k:Nat}{C:Calls}{XP:String→Shared→Value→Shared→Prop}
theorem rY {ns:List (Str × NameKind)}{a:E}{v:Expr}{n:Str}{env:Env} (hs:rL a=true) (ok:okE ns a v=true):attributeBase v n env (eval v env)=eval v env:=by
 cases a with
 | name x=>
    refine Or.elim (rP ok) (fun F3=>?_) (fun q=>?_)
    · refine au (F3) fun GD GL Hc GX=>?_
      clear F3
      (clear ok; subst Hc)
      rfl
    · cases q
 | call f es=>
    refine Or.elim (sW ok) (fun F7=>?_) (fun q=>?_)
    · refine cz (F7) fun Hk GV xs Hh Hb h=>?_
      clear F7
      (clear ok; subst Hb)
      simp only [Bool.and_eq_true,Bool.not_eq_true'] at h
      cases xs with
      | nil=>have:=h.1.1.2; exact nT this
      | cons x xs=>rfl
    · cases q
 | _=>exact nF hs
theorem tD {h:Heap}{v:Value}{c n:Int}{d:PyData}{as:List Addr} (r:RV h v (.rule c d n) as):∃ x D vf bs t u mA,v = .ref x∧as=x :: D :: bs∧h.Inst x SF.rule mA∧mA "count" = some (.int c t)∧mA "full" = some vf∧mA "size" = some (.int n u)∧(∀ m∈methNames,mA (Str.ofString m)=none)∧R h vf d bs∧sz d=true:=by
 refine eU (r) fun x D o vf bs t u mA h1 h2 h3 h4 h5 h6 h7 h8 h9 h10 h11 h12 h13 h14=>?_
 try clear r
 exact ⟨x,D,vf,bs,t,u,mA,h1,h2,(ba o h3 h4 h5 (.inr (ax D h6 h7 h8))),h9,h10,h11,h12,h13,h14⟩
theorem jS:typeLookup (.type "object") "count" = pure none:=by rw [typeLookup_type,builtinLookup_eq_fast]; kernel_rfl
theorem iC:typeLookup (.type "object") "full" = pure none:=by rw [typeLookup_type,builtinLookup_eq_fast]; kernel_rfl
theorem lN:typeLookup (.type "object") "size" = pure none:=by rw [typeLookup_type,builtinLookup_eq_fast]; kernel_rfl
theorem tN {x:V}{n:String}{r:V × Mode}{va:Value}{as:List Addr}{A:Around}{P:Addr→Prop}{s:Shared}{Q:Value→Shared→Prop}{Er:Value→Shared→Prop}{expr:Bool} (ge:GE fns s.heap) (hi:fns.init.isSome=true) (he:jm x n = .ok r) (ra:RV s.heap va x as) (ha:∀ a∈as,P a)
    (hQ:∀ v s',EP P s r v s'→Q v s'):wpAny (model prog w) A (getAttr va (Str.ofString n) expr) Q Er s:=by
 replace he:=aP he
 revert he; intro G3
 refine ag (G3) fun FW hq he=>?_
 try clear G3
 obtain ⟨c,d,sz'⟩:=FW
 cases hU hq
 dsimp only at he ra
 refine zr (tD ra) fun y D vf bs t u mA FX FY I f1 f2 f3 f4 rd zd=>?_
 subst FX
 subst FY
 refine az (ge.cls (.inr hi)) fun N mN FZ quiet _=>?_
 obtain ⟨F0,hn⟩:=FZ
 refine dW (F0) fun nm q bs' sn sub col dd k0 k1 k2 k3 k5 hC=>?_
 try clear F0
 obtain ⟨hh,g,dr,tk,os⟩:=s
 have ga:=quiet "__getattribute__" (by simp)
 by_cases e1:n = "count"
 ·  subst e1
    rw [if_pos rfl] at he; (have oc:=Out.ok.inj he; clear he; subst oc)
    exact load_attr hC hn ga (quiet "count" (by simp)) jS I f1 rfl (hQ _ _ (.int (.toks _ _)))
 rw [if_neg e1] at he
 by_cases e2:n = "full"
 ·  (clear e1; subst e2)
    rw [if_pos rfl] at he; (have oc:=Out.ok.inj he; clear he; subst oc)
    have hf:handedOut vf=pure vf:=by cases rd <;> rfl
    refine load_attr hC hn ga (quiet "full" (by simp)) iC I f2 hf (hQ _ _ ?_)
    exact .after (.toks ⟨hh,g,dr,tk,os⟩ _) (qR (s:=⟨hh,g,dr,tk + 1,os⟩) (x:=.d d) ⟨rd,zd⟩ fun a h=>ha a (.tail _ (.tail _ h)))
 rw [if_neg e2] at he
 by_cases e3:n = "size"
 ·  (clear e1 e2; subst e3)
    rw [if_pos rfl] at he; (have oc:=Out.ok.inj he; clear he; subst oc)
    exact load_attr hC hn ga (quiet "size" (by simp)) lN I f3 rfl (hQ _ _ (.int (.toks _ _)))
 rw [if_neg e3] at he
 exact nB he
theorem wf (hC:bS fns k C XP) {a:E}{n:String} (Sa:SimE fns k C XP a):SimE fns k C XP (.attr a n):=by
 intro ex A env σ P s Q Er ok X nb hQ hE
 replace ok:=Ae ok
 revert ok; refine fun Gf=>Or.elim Gf (fun Gc=>?_) (fun ok=>?_)
 ·  clear Gf
    refine aZ (Gc) fun GZ G9 GY hn hs oa=>?_
    clear Gc
    subst GY
    simp only [jF] at nb hQ hE
    cases hR:C "Rule" with
    | none=>rw [hR] at nb; exact absurd rfl nb
    | some g=>
    have hi:fns.init.isSome=true:=by
      refine ag ((hC "Rule" g hR).2.2.2 (by decide)) fun fa hfa _=>?_
      unfold adr at hfa
      rw [if_pos rfl] at hfa
      refine bp hfa fun uu q _=>?_
      rw [q]; rfl
    rw [hR] at nb hQ hE
    simp only [av] at nb hQ hE
    refine aQ nb fun n1 n2=>?_
    rw [arm_eval_Attribute,rY hs oa]
    refine wpAny_bind (Sa oa X n1 (fun x hx va s₁ Ea=>?_) fun c hc=>hE c (by rw [hc]; rfl))
    obtain ⟨ka,as,ra,ha,_⟩:=Ea
    have:∃ r,jm x.1 n = .ok r:=by
      cases h:jm x.1 n with
      | ok r=>exact ⟨r,rfl⟩
      | exc c=>exact absurd h (uW c)
      | bad=>exact absurd h (n2 x hx)
    refine aj (this) fun r hr=>?_
    try clear this
    refine wpAny_bind (wpAny_standAt (wpAny_bind (wpAny_holding (tN (P:=fun a=>P a∨s.heap.get? a=none) (X.ge.k ka.k) hi hr ra ha fun v s' E=>?_))))
    exact wpAny_bind (wpAny_letTemporaryGo (wpAny_pure (hQ r (by rw [hx]; exact hr) v s' (E.shift ka))))
 ·  cases ok
theorem nu {ns:List (Str × NameKind)}{env:Env}:∀ {es:Es}{xs:List Expr},dE ns es xs=true→∀ pos:Pos,(backTo pos (starEach xs env)).any (·.1)=false∧(backTo pos (starEach xs env)).all (fun x=>!x.1)=true
 | .nil,xs,h,pos=>by
    refine Or.elim (rh h) (fun Ge=>?_) (fun q=>?_)
    · refine ae (Ge) fun Hi Ho=>?_
      clear Ge
      (clear h; subst Hi)
      exact ⟨rfl,rfl⟩
    · cases q
 | .cons e es,xs,h,pos=>by
    refine Or.elim (oz h) (fun Gg=>?_) (fun q=>?_)
    · refine au (Gg) fun x ys Ht h=>?_
      clear Gg
      subst Ht
      refine dF h fun h1 h2=>?_
      refine ae (nu (env:=env) h2 pos) fun a b=>?_
      rw [aK h1]
      constructor
      · show (false || (backTo pos (starEach ys env)).any (·.1))=false
        rw [a]; rfl
      · show (!false && (backTo pos (starEach ys env)).all (fun x=>!x.1))=true
        rw [b]; rfl
    · cases q
theorem mz {A:Around}{env:Env}{pos:Pos}{e:Expr}{rest:List Expr}{Q:Value→Shared→Prop}{E:Value→Shared→Prop}{s:Shared}{Cl N:Addr}{mN:Str→Option Value} (he:starEach (e :: rest) env=(false,eval e env) :: starEach rest env) (hp:(backTo pos (starEach rest env)).any (·.1)=false)
    (h:wpAny (model prog w) A (spliced (backTo pos (starEach (e :: rest) env))) (fun vs s₁=>ClsAt s₁.heap Cl N mN∧wpAny (model prog w) A (call (.ref Cl) vs) Q E s₁) E s) :
    wpAny (model prog w) A (callWith pos (.ref Cl) [] (backTo pos (starEach (e :: rest) env)) []) Q E s:=by
 rw [he] at h ⊢
 have hst:((backTo pos ((false,eval e env) :: starEach rest env)).any (fun x=>x.fst) || ([]:List (Option Str × Sem Value)).any fun x=>x.fst.isNone)=false:=by
    show ((false || (backTo pos (starEach rest env)).any (·.1)) || false)=false
    rw [hp]; rfl
 unfold callWith
 refine wpAny_bind (wpAny_holding (Calls.evalArgs_plain (wpAny_mono h (fun vs s₁ h₁=>?_) fun uu uu x=>x)))
 obtain ⟨hh,g,d,t,os⟩:=s₁
 revert h₁; intro G5
 refine ae (G5) fun F1 h₁=>?_
 try clear G5
 obtain ⟨F2,_⟩:=F1
 refine dW (F2) fun nm q bs sn sub col dd k0 k1 k2 k3 k5 hC=>?_
 try clear F2
 have f1:=tc_lookup
 have hT:(⟨hh,g,d,t,os⟩:Shared).TypeIs (.ref Cl) "type" := (ah _ hC rfl)
 refine wpAny_bind (wpAny_standAt ?_)
 show wpAny _ _ (keeperOf (.ref Cl) >>= _) _ _ _
 unfold keeperOf specialOf
 repeat (any_goals (first | assumption | with_reducible refine wpAny_loadPart_at hC ?_ | with_reducible refine wpAny_load' hC ?_ | wp_step))
 rw [if_pos (by rfl),hst]
 show wpAny _ _ (call (.ref Cl) vs [] >>= fun r=>do holding [r] point; pure r) _ _ _
 exact wpAny_bind (wpAny_mono h₁ (fun r s' hr=>wpAny_bind (wpAny_holding (wpAny_point (wpAny_pure hr)))) fun uu uu x=>x)
end
end Mine
namespace Mine
open PySem PyProof.Rows
section
variable {fns:Fns}{k:Nat}{C:Calls}{XP:String→Shared→Value→Shared→Prop}
theorem yK {f:B1}{x:V}{c:String}:b1V f x≠.exc c:=zj c
theorem b1_list' {β:Type}{v:V}{f:List PyData→Out β}{r:β} (h:(av (asD v) fun x=>av (asL x) f) = .ok r):∃ xs,v = .d (.list xs)∧f xs = .ok r:=by
 refine aV h fun x h1 h=>?_
 refine aV h fun xs h2 h=>?_
 exact (ah xs (by rw [cj h1,bt h2]) h)
set_option tactic.hygienic true in
theorem yo {f:B1}{x:V}{r:V × Mode}{va:Value}{as:List Addr}{A:Around}{P:Addr→Prop}{s:Shared}{Q:Value→Shared→Prop}{Er:Value→Shared→Prop} (hh:A.handled=none) (hu:A.units + 200<cLine) (he:b1V f x = .ok r) (ra:RV s.heap va x as) (ha:∀ a∈as,P a)
    (hQ:∀ v s',EP P s r v s'→Q v s'):wpAny (model prog w) A (call (bval (b1n f)) [va]) Q Er s:=by
 unfold b1V at he
 cases hd:qh x with
 | some ks=>
    rw [hd] at he
    cases vF hd
    simp only [mO] at he
    split at he
    · rename_i hk
      revert hk; intro H8
      refine ae (H8) fun FW hk=>?_
      try clear H8
      subst FW
      (have oc:=Out.ok.inj he; clear he; subst oc)
      exact tT hh ra hk hQ
    · exact nB he
 | none=>
 rw [hd] at he
 dsimp only at he
 cases f with
 | len=>exact vY he ra hQ
 | list=>
    replace he:=aP he
    revert he; intro Hr
    refine ag (Hr) fun y hy he=>?_
    try clear Hr
    cases cj hy
    cases ht:asT y with
    | none=>
      simp only [ht] at he
      replace he:=aP he
      revert he; intro Ik
      refine ag (Ik) fun xs hx he=>?_
      try clear Ik
      cases bt hx
      (have oc:=Out.ok.inj he; clear he; subst oc)
      refine ra.1.isList_k fun a vs n cs FX ea ra' FY=>?_
      subst FX
      subst FY
      have hz:=sz_list.mp ra.2
      exact lO (.inl rfl) ea ra' hz.1 hz.2 (fun b hb=>ha b (.tail _ hb)) hQ
    | some xs=>
      simp only [ht] at he
      (have oc:=Out.ok.inj he; clear he; subst oc)
      cases gn ht
      refine aL (ra.1.isTup) fun a vs n FZ ea ra'=>?_
      subst FZ
      have hz:=sz_tuple.mp ra.2
      exact lO (.inr rfl) ea ra' hz.1 hz.2 ha hQ
 | tuple=>
    replace he:=b1_list' he
    revert he; intro Gw
    refine ag (Gw) fun xs F0 he=>?_
    try clear Gw
    (clear hd; subst F0)
    (have oc:=Out.ok.inj he; clear he; subst oc)
    exact uQ ra.1 ra.2 ha hQ
 | sorted=>
    replace he:=b1_list' he
    revert he; intro Hw
    refine ag (Hw) fun xs F1 he=>?_
    try clear Hw
    (clear hd; subst F1)
    unfold cC at he
    split at he
    · rename_i h64
      split at he
      · rename_i ns hn
        (have oc:=Out.ok.inj he; clear he; subst oc)
        exact rB ra.1 hn h64 hQ
      · unfold dP at he
        cases ht:c0 xs with
        | some ks=>
          rw [ht] at he
          dsimp only at he
          split at he
          · rename_i hc
            (have oc:=Out.ok.inj he; clear he; subst oc)
            exact qM hu ra.1 ha ra.2 ht h64 hc hQ
          · exact nB he
        | none=>
          rw [ht] at he
          dsimp only at he
          refine aV he fun ks hk he=>?_
          (have oc:=Out.ok.inj he; clear he; subst oc)
          exact rc hu ra.1 ha ra.2 hk h64 hQ
    · rename_i h64
      split at he
      · rename_i h128
        refine aV he fun ns hn he=>?_
        split at he
        · rename_i hc
          (have oc:=Out.ok.inj he; clear he; subst oc)
          exact qK ra.1 hn h64 h128 hc.1 hc.2 hQ
        · exact nB he
      · exact nB he
 | max=>
    replace he:=b1_list' he
    revert he; intro G7
    refine ag (G7) fun xs F2 he=>?_
    try clear G7
    (clear hd; subst F2)
    replace he:=aP he
    revert he; intro HC
    refine ag (HC) fun i hi he=>?_
    try clear HC
    refine bg hi fun ns hi1 hi2=>?_
    (have oc:=Out.ok.inj he; clear he; subst oc)
    exact uI hh ra.1 hi1 hi2 hQ
theorem z7 (f:B1):b1n f∈bnames:=by cases f <;> decide
theorem Bh (f:B1):(Str.ofString (b1n f) == ("__debug__" : Str))=false:=by cases f <;> decide
theorem qc (hf:fns.hand=false) {f:B1}{a:E} (Sa:SimE fns k C XP a):SimE fns k C XP (.bi1 f a):=by
 intro ex A env σ P s Q Er ok X nb hQ hE
 replace ok:=wB ok
 revert ok; refine fun F8=>Or.elim F8 (fun F3=>?_) (fun ok=>?_)
 ·  clear F8
    refine cz (F3) fun GD GL Hg GX GJ ok=>?_
    clear F3
    subst GJ
    simp only [Bool.and_eq_true,beq_iff_eq] at ok
    refine ae (ok) fun F5 oa=>?_
    try clear ok
    refine ae (F5) fun F6 hg=>?_
    try clear F5
    subst F6
    simp only [ji] at nb hQ hE
    refine aQ nb fun n1 n2=>?_
    have fin:∀ {B:Value},B=bval (b1n f)→∀ {pos:Pos},wpAny (model prog w) A (spliced (backTo pos (starEach [_] env))) (fun vs s₁=>wpAny (model prog w) A (call B vs) Q Er s₁) Er s:=fun {B} hB {pos}=>by
      subst hB
      refine kX _ oa (Sa oa X n1 (fun r hr v s₁ Ea=>?_) fun c hc=>hE c (by rw [hc]; rfl))
      have n3:=n2 r hr
      cases h:b1V f r.1 with
      | bad=>exact absurd h n3
      | exc c=>exact absurd h yK
      | ok q=>
        obtain ⟨ka,as,ra,ha,_⟩:=Ea
        exact yo (P:=fun a=>P a∨s.heap.get? a=none) (X.room.1 hf) X.room.units h ra ha fun v s' E=>hQ q (by rw [hr]; exact h) v s' (E.shift ka)
    refine g9 X.eok X.ge (z7 f) hg (Bh f) ?_
    cases f with
    | list=>exact hH (T := "list") _ oa rfl (fin rfl)
    | tuple=>exact hH (T := "tuple") _ oa rfl (fin rfl)
    | _=>exact nR _ oa rfl (fin rfl)
 ·  cases ok
theorem vS {x:V}{t c:String}:fR x t≠.exc c:=xT c
theorem v7 {t:String}{k:Nat}{b:Bool} (h:ld t k=some b):t∈bnames∧bval t = .type t :=
 nI h (fun e uu=>e▸⟨by decide,rfl⟩) (fun e uu=>e▸⟨by decide,rfl⟩) (fun e uu=>e▸⟨by decide,rfl⟩) (fun e uu=>e▸⟨by decide,rfl⟩) fun e uu=>e▸⟨by decide,rfl⟩
theorem sC {id:Str}{p:Pos} (xs:List Expr) (env:Env):starEach (.Name id p :: xs) env=(false,eval (.Name id p) env) :: starEach xs env:=rfl
theorem yt {a:E}{t:String} (Sa:SimE fns k C XP a):SimE fns k C XP (.isi a t):=by
 intro ex A env σ P s Q Er ok X nb hQ hE
 replace ok:=C0 ok
 revert ok; refine fun Gp=>Or.elim Gp (fun Ge=>?_) (fun ok=>?_)
 ·  clear Gp
    refine mI (Ge) fun Iq HT I7 IU IZ Je IL ok=>?_
    clear Ge
    subst IL
    simp only [Bool.and_eq_true,beq_iff_eq] at ok
    refine ae (ok) fun G4 hdt=>?_
    try clear ok
    refine ae (G4) fun G1 hgt=>?_
    try clear G4
    refine ae (G1) fun GH GM=>?_
    try clear G1
    refine ae (GH) fun GR oa=>?_
    try clear GH
    refine ae (GR) fun GP hg=>?_
    try clear GR
    subst GP
    subst GM
    simp only [lu] at nb hQ hE
    refine aQ nb fun n1 n2=>?_
    refine g9 X.eok X.ge (id := "isinstance") (by decide) hg (by decide) (nR (id := "isinstance") _ oa rfl (wpAny_items_cons ?_ (aK oa _ env)))
    refine Sa oa X n1 (fun x hx va s₁ Ea=>?_) fun c hc=>hE c (by rw [hc]; rfl)
    cases h:fR x.1 t with
    | bad=>exact absurd h (a8 (n2 x hx)).1
    | exc c=>exact absurd h vS
    | ok b=>
      refine ag (uk h) fun xd hxd hi=>?_
      refine ae (v7 hi) fun hm hb=>?_
      have ge:=X.ge.k Ea.keeps.k
      refine aq (ge.glob) fun mg g1 _ g3=>?_
      refine ag (ge.blt) fun mb b1 b2=>?_
      refine wpAny_items_cons ?_ (sC [] env)
      refine Calls.Name_function_global X.eok.kind (fe hgt) (Calls.loadGlobal_builtin (X.eok.glob▸g1) (g3 t hm) (X.eok.blt▸b1) (b2 t hm) ?_) (nd hdt)
      refine wpAny_items_nil ?_
      obtain ⟨ka,as,ra,ha,_⟩:=Ea
      rw [hxd] at ra
      rw [hb]
      exact t8 hi ra.1 fun s' kp=>hQ (sB b) (by rw [hx,Out.ok_bind,h]; rfl) _ _ (.bool (ka.trans kp))
 ·  cases ok
set_option tactic.hygienic true in
theorem vP (hf:fns.hand=false) (hC:bS fns k C XP) (hXP:∀ c s s₁ x s',Kp s s₁→XP c s₁ x s'→XP c s x s') {f:String}{es:Es} (Ss:fM fns k C XP es):SimE fns k C XP (.call f es):=by
 intro ex A env σ P s Q Er ok X nb hQ hE
 replace ok:=sW ok
 revert ok; refine fun Gm=>Or.elim Gm (fun Gg=>?_) (fun ok=>?_)
 ·  clear Gm
    refine cz (Gg) fun IX p xs pos IT ok=>?_
    clear Gg
    subst IT
    simp only [Bool.and_eq_true,beq_iff_eq,Bool.not_eq_true',decide_eq_false_iff_not] at ok
    refine ae (ok) fun G0 oes=>?_
    try clear ok
    refine ae (G0) fun Hl hl=>?_
    try clear G0
    refine ae (Hl) fun Ha hne=>?_
    try clear Hl
    refine ae (Ha) fun HI hx=>?_
    try clear Ha
    refine ae (HI) fun Ig hm=>?_
    try clear HI
    refine ae (Ig) fun HH hd=>?_
    try clear Ig
    refine ae (HH) fun HP hg=>?_
    try clear HH
    subst HP
    simp only [jQ] at nb hQ hE
    split at nb
    · rename_i g hCf
      rw [hCf] at hQ hE
      dsimp only at hQ hE
      refine aQ nb fun n1 n2=>?_
      refine ag ((hC f g hCf).2.2.2 hx) fun fa hfa hcall=>?_
      refine aq (X.ge.glob) fun mg g1 g2 _=>?_
      refine wpAny_Call_NameR (Calls.Name_function_global X.eok.kind (fe hg) (Calls.loadGlobal_global (X.eok.glob▸g1) (g2 f fa hm hfa) ?_) (nd hd))
      cases xs with
      | nil=>simp at hne
      | cons y ys=>
        cases es with
        | nil=>exact Bool.noConfusion (show false=true from oes)
        | cons e es=>
          refine dF (show (okE env.scope.names e y && dE env.scope.names es ys)=true from oes) fun oy oys=>?_
          have fin:∀ l,evs C (.cons e es) σ = .ok l→∀ vs s₁,EPs P s l vs s₁→wpAny (model prog w) A (call (.ref fa) vs []) Q Er s₁:=fun l hl vs s₁ Es=>by
            obtain ⟨ks,as,rs,ha,_⟩:=Es
            exact hcall (P:=fun a=>P a∨s.heap.get? a=none) X.room (ag (X.frm hf) fun l' a' b'=>(ah l' a' (b'.k ks.k))) (X.ge.k ks.k) rs ha (n2 l hl) (fun r hr v s' E=>hQ r (by rw [hl]; exact hr) v s' (E.shift ks)) fun c hc z s' hz=>hE c (by rw [hl]; exact hc) z s' (hXP c s s₁ z s' ks hz)
          by_cases hR:f = "Rule"
          · have hi:fns.init.isSome=true:=by
              unfold adr at hfa
              rw [if_pos hR] at hfa
              refine bp hfa fun uu q _=>?_
              rw [q]; rfl
            have hfr:fa=SF.rule:=by
              unfold adr at hfa
              rw [if_pos hR] at hfa
              refine bp hfa fun uu uu q=>?_
              exact q.symm
            refine au (X.ge.cls (.inr hi)) fun N mN hcl _=>?_
            rw [← hfr] at hcl
            exact mz (aK oy _ env) (nu oys pos).1 (Ss (pos:=pos) oes X n1 (fun l hl vs s₁ Es=>⟨pH hcl Es.keeps.k,fin l hl vs s₁ Es⟩) fun c hc=>hE c (by rw [hc]; rfl))
          · rw [rQ hR hm] at hfa
            refine bp hfa fun q hq II=>?_
            (clear hcall; subst II)
            refine az (X.ge.funs f q hq) fun o fd ho hfd _=>?_
            refine Calls.callWith_function (o:=o) (fd:=fd) ?_
            have hS:=Ss (pos:=pos) (A:=A) (P:=P) (s:=s) (Er:=Er) (Q:=fun vs s₁=>(s₁.heap.get? q.1=some o∧o.data = .func fd)∧wpAny (model prog w) A (call (.ref q.1) ([] ++ vs) []) Q Er s₁) oes X n1 (fun l hl vs s₁ Es=>?_) fun c hc=>hE c (by rw [hc]; rfl)
            · rw [aK oy] at hS ⊢
              exact Calls.evalArgs_plain hS
            · refine ⟨⟨Es.keeps.k.exact ho (fun uu q=>by rw [hfd] at q; cases q) fun uu uu q=>(by rw [hfd] at q; cases q),hfd⟩,?_⟩
              rw [List.nil_append]
              exact fin l hl vs s₁ Es
    · exact absurd rfl nb
 ·  cases ok
noncomputable def tC:Expr→Bool
 | .UnaryOp .Not _ _=>false
 | .BoolOp _ _ _=>false
 | .IfExp _ _ _ _=>false
 | .Compare _ _ _ _=>false
 | _=>true
theorem nq {ex:Expr} (h:tC ex=true) (env:Env) (t:Sem Value):isTrue ex env t=(do let v ← t; standAt ex.pos; holding [v] (truthy v)):=by
 cases ex with
 | UnaryOp op x p=>cases op <;> first | rfl | exact nF h
 | _=>first | rfl | exact nF h
noncomputable def sU:E→Bool
 | .not _ | .cmp _ _ _ | .and _ _ | .or _ _=>false
 | _=>true
theorem v5 {ns:List (Str × NameKind)}{e:E}{ex:Expr} (hp:sU e=true) (h:okE ns e ex=true):tC ex=true:=by
 cases ex with
 | UnaryOp op x p=>
    cases e with
    | not _=>exact nF hp
    | neg a=>
      refine Or.elim (wV h) (fun Gz=>?_) (fun q=>?_)
      · refine au (Gz) fun I8 I9 q IW=>?_
        clear Gz
        cases q; rfl
      · cases q
    | _=>exact Bool.noConfusion (show false=true from h)
 | BoolOp _ _ _=>
    cases e with
    | and _ _=>exact nF hp
    | or _ _=>exact nF hp
    | _=>exact Bool.noConfusion (show false=true from h)
 | Compare _ _ _ _=>
    cases e with
    | cmp _ _ _=>exact nF hp
    | _=>exact Bool.noConfusion (show false=true from h)
 | IfExp _ _ _ _=>cases e <;> exact Bool.noConfusion (show false=true from h)
 | _=>rfl
variable (fns k C XP)
structure SimAll (ee:E):Prop where
 e:SimE fns k C XP ee
 t:SimT fns k C XP ee
 a:SimA fns k C XP ee
 o:SimO fns k C XP ee
 ta:SimTA fns k C XP ee
 to:SimTO fns k C XP ee
variable {fns k C XP}
noncomputable def nc:E→Bool
 | .and _ _=>false
 | _=>true
noncomputable def rM:E→Bool
 | .or _ _=>false
 | _=>true
theorem fK {ns:List (Str × NameKind)}{e:E}{vs:List Expr} (h:nc e=true):okA ns e vs=false:=by cases e <;> first | rfl | exact nF h
theorem fE {ns:List (Str × NameKind)}{e:E}{vs:List Expr} (h:rM e=true):okO ns e vs=false:=by cases e <;> first | rfl | exact nF h
theorem SimAll.ofET {e:E} (S:SimE fns k C XP e) (T:SimT fns k C XP e) (ha:nc e=true) (ho:rM e=true):SimAll fns k C XP e where
 e:=S
 t:=T
 a:=jM S fun ok=>by rw [fK ha] at ok; exact nF ok
 o:=jD S fun ok=>by rw [fE ho] at ok; exact nF ok
 ta:=iD T fun ok=>by rw [fK ha] at ok; exact nF ok
 to:=iF T fun ok=>by rw [fE ho] at ok; exact nF ok
theorem SimAll.ofE {e:E} (S:SimE fns k C XP e) (hp:sU e=true) (ha:nc e=true) (ho:rM e=true):SimAll fns k C XP e :=
 .ofET S (qH S fun uu uu env t ok=>nq (v5 hp ok) env t) ha ho
section
variable (hf:fns.hand=false) (hC:bS fns k C XP) (hXP:∀ c s s₁ x s',Kp s s₁→XP c s₁ x s'→XP c s x s')
include hXP
theorem kJ {a b:E} (Sa:SimAll fns k C XP a) (Sb:SimAll fns k C XP b):SimAll fns k C XP (.and a b) :=
    have S:SimE fns k C XP (.and a b):=yq hXP Sa.e Sb.a
    have T:SimT fns k C XP (.and a b):=uH hXP Sa.t Sb.ta
    { e:=S,t:=T,o:=jD S fun ok=>(by rw [fE rfl] at ok; cases ok),to:=iF T fun ok=>(by rw [fE rfl] at ok; cases ok),
      a:=jM S fun {vs} _ _ _ _ _ _ _ _ ok X nb hQ hE=>(by
        replace ok:=i_A ok
        revert ok; refine fun HB=>Or.elim HB (fun Hs=>?_) (fun ok=>?_)
        · clear HB
          refine au (Hs) fun Jg I6 IG ok=>?_
          clear Hs
          subst IG
          simp only [Bool.and_eq_true] at ok
          exact zI hXP Sa.e Sb.a ok.1 ok.2 X nb hQ hE
        · cases ok),
      ta:=iD T fun {vs} _ _ _ _ _ _ _ ok X nb hQ hE=>(by
        replace ok:=i_A ok
        revert ok; refine fun Ih=>Or.elim Ih (fun Ie=>?_) (fun ok=>?_)
        · clear Ih
          refine au (Ie) fun I0 Jc IR ok=>?_
          clear Ie
          subst IR
          simp only [Bool.and_eq_true] at ok
          exact wL hXP Sa.t Sb.ta ok.1 ok.2 X nb hQ hE
        · cases ok) }
theorem lF {a b:E} (Sa:SimAll fns k C XP a) (Sb:SimAll fns k C XP b):SimAll fns k C XP (.or a b) :=
    have S:SimE fns k C XP (.or a b):=y4 hXP Sa.e Sb.o
    have T:SimT fns k C XP (.or a b):=yb hXP Sa.t Sb.to
    { e:=S,t:=T,a:=jM S fun ok=>(by rw [fK rfl] at ok; cases ok),ta:=iD T fun ok=>(by rw [fK rfl] at ok; cases ok),
      o:=jD S fun {vs} _ _ _ _ _ _ _ _ ok X nb hQ hE=>(by
        replace ok:=i_O ok
        revert ok; refine fun Ip=>Or.elim Ip (fun Ic=>?_) (fun ok=>?_)
        · clear Ip
          refine au (Ic) fun IY Jb IN ok=>?_
          clear Ic
          subst IN
          simp only [Bool.and_eq_true] at ok
          exact orL hXP Sa.e Sb.o ok.1 ok.2 X nb hQ hE
        · cases ok),
      to:=iF T fun {vs} _ _ _ _ _ _ _ ok X nb hQ hE=>(by
        replace ok:=i_O ok
        revert ok; refine fun Io=>Or.elim Io (fun ID=>?_) (fun ok=>?_)
        · clear Io
          refine au (ID) fun Ja Jf IM ok=>?_
          clear ID
          subst IM
          simp only [Bool.and_eq_true] at ok
          exact yW hXP Sa.t Sb.to ok.1 ok.2 X nb hQ hE
        · cases ok) }
mutual
theorem db:∀ e:E,hOk e=true→SimAll fns k C XP e
 | .name x,_=>.ofE (jI x) rfl rfl rfl
 | .int i,_=>.ofE (la i) rfl rfl rfl
 | .bool b,_=>.ofE (nP b) rfl rfl rfl
 | .bin o a b,h=>.ofE (pX hXP (db a (Bool.and_eq_true_iff.mp h).1).e (db b (Bool.and_eq_true_iff.mp h).2).e) rfl rfl rfl
 | .not a,h=>.ofET (pO (db a h).e) (ow (db a h).t) rfl rfl
 | .cmp o a b,h=>.ofET (qe hXP (db a (Bool.and_eq_true_iff.mp h).1).e (db b (Bool.and_eq_true_iff.mp h).2).e) (ov hXP (db a (Bool.and_eq_true_iff.mp h).1).e (db b (Bool.and_eq_true_iff.mp h).2).e) rfl rfl
 | .and a b,h=>kJ hXP (db a (Bool.and_eq_true_iff.mp h).1) (db b (Bool.and_eq_true_iff.mp h).2)
 | .or a b,h=>lF hXP (db a (Bool.and_eq_true_iff.mp h).1) (db b (Bool.and_eq_true_iff.mp h).2)
 | .list es,h=>.ofE (oJ (wq es h)) rfl rfl rfl
 | .str _,h | .none,h | .neg _,h | .tup _,h | .edic,h | .comp _ _ _,h | .compif _ _ _ _,h | .sub _ _,h | .attr _ _,h | .bi1 _ _,h | .isi _ _,h | .call _ _,h=>Bool.noConfusion h
termination_by structural e=>e
theorem wq:∀ es:Es,vG es=true→fM fns k C XP es
 | .nil,_=>lJ
 | .cons e es,h=>j8 hXP (db e (Bool.and_eq_true_iff.mp h).1).e (wq es (Bool.and_eq_true_iff.mp h).2)
termination_by structural es=>es
end
include hf hC
mutual
theorem ay:∀ e:E,SimAll fns k C XP e
 | .name x=>.ofE (jI x) rfl rfl rfl
 | .int i=>.ofE (la i) rfl rfl rfl
 | .str s=>.ofE (yD s) rfl rfl rfl
 | .bool b=>.ofE (nP b) rfl rfl rfl
 | .none=>.ofE vX rfl rfl rfl
 | .bin o a b=>.ofE (pX hXP (ay a).e (ay b).e) rfl rfl rfl
 | .neg a=>.ofE (ya (ay a).e) rfl rfl rfl
 | .not a=>.ofET (pO (ay a).e) (ow (ay a).t) rfl rfl
 | .cmp o a b=>.ofET (qe hXP (ay a).e (ay b).e) (ov hXP (ay a).e (ay b).e) rfl rfl
 | .and a b=>kJ hXP (ay a) (ay b)
 | .or a b=>lF hXP (ay a) (ay b)
 | .list es=>.ofE (oJ (jk es)) rfl rfl rfl
 | .tup es=>.ofE (yn (jk es)) rfl rfl rfl
 | .edic=>.ofE vB rfl rfl rfl
 | .comp elt x it=>.ofE (vn (dS it) (ay elt).e) rfl rfl rfl
 | .compif elt x it c=>.ofE (rH (dS it) (ay elt).e (ay c).t) rfl rfl rfl
 | .sub a i=>.ofE (pz hXP (ay a).e (ay i).e) rfl rfl rfl
 | .attr a n=>.ofE (wf hC (ay a).e) rfl rfl rfl
 | .bi1 f a=>.ofE (qc hf (ay a).e) rfl rfl rfl
 | .isi a t=>.ofE (yt (ay a).e) rfl rfl rfl
 | .call f es=>.ofE (vP hf hC hXP (jk es)) rfl rfl rfl
termination_by structural e=>e
theorem jk:∀ es:Es,fM fns k C XP es
 | .nil=>lJ
 | .cons e es=>j8 hXP (ay e).e (jk es)
termination_by structural es=>es
theorem dS:∀ it:It,dB fns k C XP it
 | .e a=>xJ hf (ay a).e
 | .r1 n=>vW hf (ay n).e
 | .r2 a b=>vA hf hXP (ay a).e (ay b).e
termination_by structural it=>it
end
end
end
end Mine
namespace Mine
open PySem PyProof.Rows
theorem ir {σ τ:St}{x:String}{v:V × Mode}{ns:List String} (h:∀ y∈ns,σ y=τ y):∀ y∈ns,upd σ x v y=upd τ x v y:=by
 intro y hy
 unfold upd
 split
 ·  rfl
 ·  exact h y hy
mutual
theorem aC (C:Calls):∀ (e:E) (σ τ:St),(∀ y∈fv e,σ y=τ y)→ev C e σ=ev C e τ
 | .name x,σ,τ,h=>by simp only [c9]; rw [h x (by simp [d7])]
 | .int _,_,_,_=>by simp only [eT]
 | .str _,_,_,_=>by simp only [xI]
 | .bool _,_,_,_=>by simp only [mT]
 | .none,_,_,_=>by simp only [oS]
 | .bin o a b,σ,τ,h=>by
    simp only [xD,List.mem_append] at h
    simp only [k8]; rw [aC C a σ τ fun y hy=>h y (.inl hy),aC C b σ τ fun y hy=>h y (.inr hy)]
 | .neg a,σ,τ,h=>by simp only [yz] at h; simp only [lb]; rw [aC C a σ τ h]
 | .not a,σ,τ,h=>by simp only [xY] at h; simp only [gw]; rw [aC C a σ τ h]
 | .cmp o a b,σ,τ,h=>by
    simp only [xF,List.mem_append] at h
    simp only [jg]; rw [aC C a σ τ fun y hy=>h y (.inl hy),aC C b σ τ fun y hy=>h y (.inr hy)]
 | .and a b,σ,τ,h=>by
    simp only [yd,List.mem_append] at h
    simp only [gy]; rw [aC C a σ τ fun y hy=>h y (.inl hy),aC C b σ τ fun y hy=>h y (.inr hy)]
 | .or a b,σ,τ,h=>by
    simp only [zA,List.mem_append] at h
    simp only [iy]; rw [aC C a σ τ fun y hy=>h y (.inl hy),aC C b σ τ fun y hy=>h y (.inr hy)]
 | .list es,σ,τ,h=>by simp only [v8] at h; simp only [b7]; rw [fG C es σ τ h]
 | .tup es,σ,τ,h=>by simp only [yG] at h; simp only [jc]; rw [fG C es σ τ h]
 | .edic,_,_,_=>by simp only [oC]
 | .comp elt x it,σ,τ,h=>by
    simp only [wg,List.mem_append] at h
    simp only [gL]
    rw [dI C it σ τ fun y hy=>h y (.inl hy)]
    have e:∀ d,(ev C elt (upd σ x (mk (.d d))))=ev C elt (upd τ x (mk (.d d))):=fun d=>aC C elt _ _ (ir fun y hy=>h y (.inr hy))
    simp only [e]
 | .compif elt x it c,σ,τ,h=>by
    simp only [qw,List.mem_append] at h
    simp only [eP]
    rw [dI C it σ τ fun y hy=>h y (.inl hy)]
    have e:∀ d,(ev C elt (upd σ x (mk (.d d))))=ev C elt (upd τ x (mk (.d d))):=fun d=>aC C elt _ _ (ir fun y hy=>h y (.inr (.inr hy)))
    have e':∀ d,(ev C c (upd σ x (mk (.d d))))=ev C c (upd τ x (mk (.d d))):=fun d=>aC C c _ _ (ir fun y hy=>h y (.inr (.inl hy)))
    simp only [e,e']
 | .sub a b,σ,τ,h=>by
    simp only [pD,List.mem_append] at h
    simp only [je]; rw [aC C a σ τ fun y hy=>h y (.inl hy),aC C b σ τ fun y hy=>h y (.inr hy)]
 | .attr a n,σ,τ,h=>by simp only [vr] at h; simp only [jF]; rw [aC C a σ τ h]
 | .bi1 f a,σ,τ,h=>by simp only [xK] at h; simp only [ji]; rw [aC C a σ τ h]
 | .isi a t,σ,τ,h=>by simp only [yp] at h; simp only [lu]; rw [aC C a σ τ h]
 | .call f es,σ,τ,h=>by simp only [ua] at h; simp only [jQ]; rw [fG C es σ τ h]
termination_by structural e=>e
theorem fG (C:Calls):∀ (es:Es) (σ τ:St),(∀ y∈fvs es,σ y=τ y)→evs C es σ=evs C es τ
 | .nil,_,_,_=>by simp only [br]
 | .cons e es,σ,τ,h=>by
    simp only [sv,List.mem_append] at h
    simp only [bl]; rw [aC C e σ τ fun y hy=>h y (.inl hy),fG C es σ τ fun y hy=>h y (.inr hy)]
termination_by structural es=>es
theorem dI (C:Calls):∀ (it:It) (σ τ:St),(∀ y∈bI it,σ y=τ y)→bj C it σ=bj C it τ
 | .e a,σ,τ,h=>by simp only [jn] at h; simp only [gv]; rw [aC C a σ τ h]
 | .r1 a,σ,τ,h=>by simp only [we] at h; simp only [e8]; rw [aC C a σ τ h]
 | .r2 a b,σ,τ,h=>by
    simp only [vZ,List.mem_append] at h
    simp only [fm]; rw [aC C a σ τ fun y hy=>h y (.inl hy),aC C b σ τ fun y hy=>h y (.inr hy)]
termination_by structural it=>it
end
noncomputable def b6 (σ:St) (ns:List String):St:=fun x=>if x∈ns then σ x else none
theorem bN (σ:St) (ns:List String):∀ y∈ns,b6 σ ns y=σ y:=fun y hy=>by unfold b6; rw [if_pos hy]
theorem lW {M:Model}{A:Around}{E:Value→Shared→Prop}{s:Shared}{a:Addr}{m:Str→Option Value}{name:Str}{v:Value}{T:Value}{Q:Unit→Shared→Prop} (hn:s.heap.Ns a m) (hc:∃ o,s.heap.get? a=some o∧o.cls=T)
    (h:∀ h',h'.Ns a (fun x=>if x=name then some v else m x)→Heap.SameBut a s.heap h'→(∃ o,h'.get? a=some o∧o.cls=T)→Q () { s with heap:=h',toks:=s.toks + 1 }):wpAny M A (nsSet a name v) Q E s:=by
 refine eh (hn) fun o es ep ho hd hk hm=>?_
 try clear hn
 refine ag (hc) fun o' ho' hT=>?_
 try clear hc
 rw [ho] at ho'
 obtain rfl:=Option.some.inj ho'
 have hany:es.any (·.refKey)=false:=by
    rw [Array.any_eq_false']; intro e he; obtain ⟨n,t,h⟩:=hk e he; simp [DictEntry.refKey,h]
 intro Γ p _
 simp only [nsSet,strHash,Sem.wp_bind',Sem.wp_cmd_ask,Sem.wp_pure',Sem.wp_cmd_mkText]
 rw [Sem.wp_loadPart_of M Γ _ p { s with toks:=s.toks + 1 } (o:=o) _ ho]
 simp only [hd,aRefKeyMayBeTheName_eq,aRefKeyMayBeTheNameByArray,hany,Bool.and_false,Bool.false_eq_true,if_false,Sem.wp_cmd_updatePart]
 refine ⟨by rw [ho]; rfl,h _ ?_ (Heap.SameBut.update ..) ?_⟩
 ·  obtain ⟨c,d,dt,sl⟩:=o
    (clear hT ho'; subst hd)
    cases hi:es.findIdx? (·.key.isStr name) with
    | some i=>
      refine (fB _ _ ep (Heap.get?_update_self _ ho (by simp only [Obj.putName_eq,Obj.putNameByArray,hi]; rfl)) (by simp only [Obj.putName_eq,Obj.putNameByArray,hi]; rfl) (hk.modify _ _) (fun x=>?_))
      show _=if x=name then some v else m x
      rw [← hm]; exact findBy_modify (fun n v=>v.isStr n) Value.isStr_inj es name x v i hi
    | none=>
      refine (fB _ _ (ep + 1) (Heap.get?_update_self _ ho (by simp only [Obj.putName_eq,Obj.putNameByArray,hi]; rfl)) (by simp only [Obj.putName_eq,Obj.putNameByArray,hi]; rfl) (hk.push _ _ _ _) (fun x=>?_))
      show _=if x=name then some v else m x
      rw [← hm]
      exact findBy_push (fun n v=>v.isStr n) es name x _ _ v (fun y=>by
        show (name == y)=decide (y=name)
        by_cases h:y=name
        · (clear hi; subst h); simp
        · have:¬ name=y:=fun e=>h e.symm
          simp [h,this]) hi
 ·  obtain ⟨c,d,dt,sl⟩:=o
    (clear ho'; subst hd)
    cases hi:es.findIdx? (·.key.isStr name) with
    | some i=>exact (ah _ (Heap.get?_update_self _ ho (by simp only [Obj.putName_eq,Obj.putNameByArray,hi]; rfl)) (by simp only [Obj.putName_eq,Obj.putNameByArray,hi]; exact hT))
    | none=>exact (ah _ (Heap.get?_update_self _ ho (by simp only [Obj.putName_eq,Obj.putNameByArray,hi]; rfl)) (by simp only [Obj.putName_eq,Obj.putNameByArray,hi]; exact hT))
structure Loc (env:Env) (Z:Addr→Prop) (h:Heap) (vals:String→Option Value):Prop where
 cls:∃ o,h.get? env.locals=some o∧o.cls = .type "frame"
 ns:∃ m,h.Ns env.locals m∧∀ x v,vals x=some v→env.kindOf (Str.ofString x)=some .local→m (Str.ofString x)=some v
 nz:¬ Z env.locals
 cell:∀ n c,env.kindOf n=some .cell→env.cells.lookup n=some c→c≠env.locals∧¬ Z c∧∃ v,h.IsCell c v
 cval:∀ x v c,vals x=some v→env.kindOf (Str.ofString x)=some .cell→env.cells.lookup (Str.ofString x)=some c→h.IsCell c (some v)
 apart:∀ n n' c,env.cells.lookup n=some c→env.cells.lookup n' = some c→n=n'
 kinds:∀ x v,vals x=some v→env.kindOf (Str.ofString x)=some .local∨env.kindOf (Str.ofString x)=some .cell
noncomputable def dK (vals:String→Option Value) (x:String) (v:Value):String→Option Value:=fun y=>if y=x then some v else vals y
noncomputable def vH (T:Addr) (h h':Heap):Prop:=(∃ v,h.IsCell T v)→∀ o,h.get? T=some o→∃ o',h'.get? T=some o'∧o'.cls=o.cls∧o'.dict=o.dict∧∀ c,o'.data≠.cls c
theorem wj {M:Model}{A:Around}{E:Value→Shared→Prop}{s:Shared}{env:Env}{name:Str}{c:Addr}{v₀:Option Value}{v:Value}{Q:Unit→Shared→Prop} (hk:env.scope.kind = .function) (hl:env.kindOf name=some .cell) (hc:env.cells.lookup name=some c) (hv:s.heap.IsCell c v₀)
    (h:∀ h',h'.IsCell c (some v)→Heap.SameBut c s.heap h'→vH c s.heap h'→Q () { s with heap:=h' }):wpAny M A (storeName env name v) Q E s:=by
 unfold storeName
 simp only [hl,hk]
 refine wpAny_bind (wpAny_cellOf hc ?_)
 refine ag (hv) fun o ho hd=>?_
 try clear hv
 unfold cellSet
 refine wpAny_bind (wpAny_load ho ?_)
 rw [hd]
 refine wpAny_update ho (h _ (ah ({ o with data:=.cell (some v) }) (Heap.get?_update_self _ ho rfl) rfl) (.update ..) fun uu o' e=>?_)
 rw [ho] at e; (have oc:=Option.some.inj e; clear e; subst oc)
 exact (ba ({ o with data:=.cell (some v) }) (Heap.get?_update_self _ ho rfl) rfl rfl (fun uu q=>by cases q))
noncomputable def Spot (env:Env) (h:Heap) (T:Addr):Prop:=(T=env.locals∧∃ m,h.Ns T m)∨∃ v,h.IsCell T v
theorem Spot.noseq {env:Env}{h:Heap}{T:Addr} (t:Spot env h T) (o:Obj) (e:h.get? T=some o) (vs:Array Value) (n:Nat):o.data≠.seq vs n:=by
 intro q
 rcases t with ⟨_,m,o',es,ep,e',hd,_⟩ | ⟨v,o',e',hd⟩
 ·  rw [e'] at e; (have oc:=Option.some.inj e; clear e; subst oc); rw [hd] at q; cases q
 ·  rw [e'] at e; (have oc:=Option.some.inj e; clear e; subst oc); rw [hd] at q; cases q
theorem Spot.nostay {env:Env}{h:Heap}{T:Addr} (t:Spot env h T) (o:Obj) (e:h.get? T=some o):¬ Stay o:=by
 rcases t with ⟨_,m,o',es,ep,e',hd,_⟩ | ⟨v,o',e',hd⟩
 ·  rw [e'] at e; (have oc:=Option.some.inj e; clear e; subst oc); exact Stay.not_dict hd
 ·  rw [e'] at e; (have oc:=Option.some.inj e; clear e; subst oc); exact Stay.not_data (fun uu q=>by rw [hd] at q; cases q) fun uu uu q=>by rw [hd] at q; cases q
section
variable {fns:Fns}{k:Nat}{C:Calls}{XP:String→Shared→Value→Shared→Prop}
theorem Loc.onK {env:Env}{Z:Addr→Prop}{h h':Heap}{vals:String→Option Value} (L:Loc env Z h vals) (kp:K h h'):Loc env Z h' vals where
 cls:=ag (L.cls) fun o e c=>ag (kp _ o (.inl trivial) e) fun o' e' l=>(ah o' e' (l.cls.trans c))
 ns:=ag (L.ns) fun m a b=>(ah m (fc a kp) b)
 nz:=L.nz
 cell:=fun n c a b=>let ⟨h1,h2,v,h3⟩:=L.cell n c a b; (bW h1 h2 (bJ v (iN h3 kp)))
 cval:=fun x v c a b d=>iN (L.cval x v c a b d) kp
 apart:=L.apart
 kinds:=L.kinds
theorem Loc.var {env:Env}{Z:Addr→Prop}{h:Heap}{vals:String→Option Value} (L:Loc env Z h vals) (eok:EnvOk env) {x:String}{v:Value} (hv:vals x=some v):VarIs h env (Str.ofString x) v:=by
 rcases L.kinds x v hv with hk | hk
 ·  refine ag (L.ns) fun m a b=>?_
    exact .loc m hk a (b x v hv hk)
 ·  refine aj (eok.cells _ (.inl hk)) fun c hc=>?_
    exact .cell c (.inl hk) hc (L.cval x v c hv hk hc)
theorem Loc.store {A:Around}{env:Env}{Z:Addr→Prop}{vals:String→Option Value}{s:Shared}{x:String}{v:Value}{Q:Unit→Shared→Prop}{Er:Value→Shared→Prop} (L:Loc env Z s.heap vals) (eok:EnvOk env)
    (hx:env.kindOf (Str.ofString x)=some .local∨env.kindOf (Str.ofString x)=some .cell)
    (hQ:∀ T h' tk,Heap.SameBut T s.heap h'→Spot env s.heap T→vH T s.heap h'→¬ Z T→Loc env Z h' (dK vals x v)→Q () { s with heap:=h',toks:=tk }):wpAny (model prog w) A (storeName env (Str.ofString x) v) Q Er s:=by
 have inj:∀ y,Str.ofString y=Str.ofString x→y=x:=fun y e=>cO e
 have kinds':∀ y u,dK vals x v y=some u→env.kindOf (Str.ofString y)=some .local∨env.kindOf (Str.ofString y)=some .cell:=fun y u hu=>by
    unfold dK at hu
    split at hu
    · rename_i e; (clear hQ inj; subst e); exact hx
    · exact L.kinds y u hu
 refine ag (L.ns) fun m hm hmv=>?_
 rcases hx with hk | hk
 ·  rw [storeName_local hk (by rw [eok.kind]; rfl)]
    refine lW hm L.cls (fun h' hn hs hcl=>hQ env.locals h' _ hs (.inl (aF rfl (bJ m hm))) (fun ⟨u,o,e,q⟩=>by obtain ⟨o',es,ep,e',q',_⟩:=hm; rw [e] at e'; (have oc:=Option.some.inj e'; clear e'; subst oc); rw [q] at q'; cases q') L.nz ?_)
    refine ⟨hcl,(ah _ hn (fun y u hu hky=>?_)),L.nz,fun n c hkn hc=>?_,fun y u c hu hky hc=>?_,L.apart,kinds'⟩
    · unfold dK at hu
      split at hu
      · rename_i e; (clear hQ hk hn inj kinds'; subst e); (have oc:=Option.some.inj hu; clear hu; subst oc); simp
      · rename_i e
        rw [if_neg fun q=>e (inj y q)]
        exact hmv y u hu hky
    · refine aD (L.cell n c hkn hc) fun h1 h2 Gn=>?_
      refine au (Gn) fun u o h3 h4=>?_
      try clear Gn
      exact (bW h1 h2 (aA u o (hs.extBut c o h1 h3) h4))
    · unfold dK at hu
      split at hu
      · rename_i e; (clear hQ hn inj kinds'; subst e); rw [hk] at hky; cases hky
      · refine ae (L.cell _ c hky hc) fun h1 _=>?_
        refine ag (L.cval y u c hu hky hc) fun o h3 h4=>?_
        exact (ah o (hs.extBut c o h1 h3) h4)
 ·  refine aj (eok.cells _ (.inl hk)) fun c₀ hc₀=>?_
    refine aD (L.cell _ c₀ hk hc₀) fun h1 h2 Gu=>?_
    refine aj (Gu) fun v₀ h3=>?_
    try clear Gu
    refine wj eok.kind hk hc₀ h3 fun h' hn hs hkp=>hQ c₀ h' s.toks hs (.inr ⟨v₀,h3⟩) hkp h2 ?_
    refine ⟨(ag (L.cls) fun o e c=>(ah o (hs.extBut _ o (Ne.symm h1) e) c)),(ah m (hm.sameBut hs (Ne.symm h1)) (fun y u hu hky=>?_)),L.nz,fun n c hkn hc=>?_,fun y u c hu hky hc=>?_,L.apart,kinds'⟩
    · unfold dK at hu
      split at hu
      · rename_i e; (clear hQ hc₀ inj kinds'; subst e); rw [hk] at hky; cases hky
      · exact hmv y u hu hky
    · refine aD (L.cell n c hkn hc) fun g1 g2 GA=>?_
      refine au (GA) fun u o g3 g4=>?_
      try clear GA
      by_cases e:c=c₀
      · (clear h1 h2 h3 hc₀ hkp hs; subst e); exact (bW g1 g2 (bJ _ hn))
      · exact (bW g1 g2 (aA u o (hs.extBut c o e g3) g4))
    · unfold dK at hu
      split at hu
      · rename_i e; (clear hQ hk inj kinds'; subst e); (have oc:=Option.some.inj hu; clear hu; subst oc)
        rw [hc₀] at hc; (have oc:=Option.some.inj hc; clear hc; subst oc)
        exact hn
      · rename_i e
        refine ag (L.cval y u c hu hky hc) fun o g3 g4=>?_
        refine (ah o (hs.extBut c o (fun q=>?_) g3) g4)
        (clear h1 h2 h3 hkp hn hs; subst q)
        exact e (inj y (L.apart _ _ c hc hc₀))
theorem RV.spot {env:Env}{h h':Heap}{T:Addr}{v:Value}{x:V}{as:List Addr} (r:RV h v x as) (tt:Spot env h T) (hkp:vH T h h') (hL:∀ a∈as,a≠env.locals) (hs:Heap.SameBut T h h'):RV h' v x as:=by
 have kp:∀ b o,b≠T→h.get? b=some o→h'.get? b=some o:=fun b o hb e=>hs.extBut b o hb e
 have dne:∀ a∈as,∀ o es ep,h.get? a=some o→o.data = .dict es ep→a≠T:=fun a ha o es ep e hd q=>by
    (clear hkp hs kp; subst q)
    rcases tt with ⟨t,_⟩ | ⟨v,o',e',hd'⟩
    · exact hL a ha t
    · rw [e'] at e; (have oc:=Option.some.inj e; clear e; subst oc); rw [hd'] at hd; cases hd
 have key:∀ ks a,IsTupleKey (intKind prog w) h ks a→IsTupleKey (intKind prog w) h' ks a:=fun ks a hk=>by
    refine aL (hk) fun o it n a1 a2 a3=>?_
    try clear hk
    refine (ce o it n (kp a o (fun q=>?_) a1) a2 a3)
    (clear dne hkp hs kp; subst q)
    exact tt.noseq o a1 _ _ a3.1
 cases x with
 | d x=>exact ⟨r.1.off (wr:=[T]) (fun b hb o e=>.inl (by rw [List.mem_singleton.mp hb] at e; exact tt.noseq o e)) fun b o hb e=>kp b o (fun q=>hb (by simp [q])) e,r.2⟩
 | dic0=>
    refine iV (r) fun a h1 h2 h3 FW FX=>?_
    try clear r
    refine eh (FW) fun o es ep e hx hd hr=>?_
    try clear FW
    refine cH (FX) fun o' es' ep' e' h4 h5 h6 h7 h8=>?_
    try clear FX
    (clear hL; subst h2)
    have hne:=dne a (.head _) o es ep e hd
    exact (ij a h1 rfl h3 (fB o es ep (kp a o hne e) hx hd hr) (eO o' es' ep' (kp a o' hne e') h4 h5 h6 (fun y hy=>key _ _ (h7 y hy)) h8))
 | dicI ks=>
    refine cy (r) fun a h1 h2 h3 FY=>?_
    try clear r
    refine eh (FY) fun o es ep e hx hd hr=>?_
    try clear FY
    (clear hL; subst h2)
    have hne:=dne a (.head _) o es ep e hd
    exact (ba a h1 rfl h3 (fB o es ep (kp a o hne e) hx hd hr))
 | dicT ks=>
    refine kn (r) fun a xs h1 h2 h3 FZ h9=>?_
    try clear r
    refine cH (FZ) fun o' es' ep' e' h4 h5 h6 h7 h8=>?_
    try clear FZ
    (clear hL; subst h2)
    have hne:=dne a (.head _) o' es' ep' e' h5
    exact (dy a xs h1 rfl h3 (eO o' es' ep' (kp a o' hne e') h4 h5 h6 (fun y hy=>key _ _ (h7 y hy)) h8) h9.1 h9.2.1 (fun x hx=>(h9.2.2 x hx).off (wr:=[T]) (fun b hb o e=>.inl (by rw [List.mem_singleton.mp hb] at e; exact tt.noseq o e)) fun b o hb e=>kp b o (fun q=>hb (by simp [q])) e))
 | rule c d n=>
    refine eU (r) fun x D o vf bs t u mA h1 h2 h3 h4 h5 h6 h7 F0 h9 h10 h11 h12 h13 h14=>?_
    try clear r
    refine bh (F0) fun oD es ep e hd=>?_
    try clear F0
    subst h2
    have hneD:D≠T:=dne D (.tail _ (.head _)) oD es ep e hd.1
    have hx:∃ o',h'.get? x=some o'∧o'.cls = .ref SF.rule∧o'.dict=some D∧∀ c,o'.data≠.cls c:=by
      by_cases q:x=T
      · (clear dne hneD hs kp; subst q)
        revert tt; refine fun F8=>Or.elim F8 (fun F3=>?_) (fun tt=>?_)
        · clear F8
          refine ae (F3) fun tt GD=>?_
          clear F3
          exact absurd tt (hL x (.head _))
        · refine cy (hkp tt o h3) fun o' k1 k2 k3 k4=>?_
          exact (ba o' k1 (k2.trans h4) (k3.trans h6) k4)
      · exact (ba o (kp x o q h3) h4 h6 h5)
    refine cy (hx) fun o' x1 x2 x3 x4=>?_
    try clear hx
    exact (gc x D o' vf bs t u mA h1 rfl x1 x2 x4 x3 h7 (bT oD es ep (kp D oD hneD e) hd) h9 h10 h11 h12 (h13.off (wr:=[T]) (fun b hb o e=>.inl (by rw [List.mem_singleton.mp hb] at e; exact tt.noseq o e)) fun b o hb e=>kp b o (fun q=>hb (by simp [q])) e) h14)
end
end Mine
namespace Mine
open PySem PyProof.Rows
section
variable (fns:Fns) (k:Nat)
structure SOK (h0:Heap) (P Z:Addr→Prop) (A:Around) (env:Env) (h:Heap) (σ:St) (vals:String→Option Value) (fp:String→List Addr):Prop where
 room:Room fns.hand k A
 eok:EnvOk env
 ge:GE fns h0
 z0:∀ b o,h0.get? b=some o→Z b
 kp0:K h0 h
 code:fns.lam=true→∃ q,CodeOk h0 env.code q
 out:fns.hand=false→∃ l,A.frames=some (env :: l)∧FrOk h0 l∧env.frame=some env.locals∧¬ SF.old env.locals
 zdom:∀ b,Z b→∃ o,h.get? b=some o
 loc:Loc env Z h vals
 val:∀ x p,σ x=some p→varK env.scope.names x=true∧∃ v,vals x=some v∧RV h v p.1 (fp x)∧∀ a∈fp x,a≠env.locals∧(P a∨h0.get? a=none)
 top:∀ x p,σ x=some p→p.2 = .top→∃ a bs,fp x=a :: bs∧¬ Z a∧a∉bs∧∀ y q,y≠x→σ y=some q→a∉fp y
 deep:∀ x p,σ x=some p→p.2 = .deep→(∀ a∈fp x,¬ Z a∧∀ y q,y≠x→σ y=some q→a∉fp y)∧(fp x).Nodup
noncomputable def Stp (Z:Addr→Prop) (s s':Shared):Prop:=∃ h' tk,s' = { s with heap:=h',toks:=tk }∧KG Z s.heap h'
noncomputable def lp (h0:Heap) (P:Addr→Prop) (r:V × Mode) (v:Value) (s':Shared):Prop :=
 ∃ as,RV s'.heap v r.1 as∧(∀ a∈as,P a∨h0.get? a=none)∧(r.2 = .top→∃ a bs,as=a :: bs∧h0.get? a=none∧a∉bs)∧(r.2 = .deep→(∀ a∈as,h0.get? a=none)∧as.Nodup)
end
theorem Stp.refl (Z:Addr→Prop) (s:Shared):Stp Z s s:=(aA s.heap s.toks rfl KG.refl)
theorem Stp.trans {Z:Addr→Prop}{s s₁ s₂:Shared} (a:Stp Z s s₁) (b:Stp Z s₁ s₂):Stp Z s s₂:=by
 refine au (a) fun h t FW k=>?_
 try clear a
 subst FW
 refine au (b) fun h' t' FX k'=>?_
 try clear b
 subst FX
 exact (aA h' t' rfl (k.trans k'))
theorem Kp.stp {Z:Addr→Prop}{s s₁:Shared} (a:Kp s s₁):Stp Z s s₁:=by
 refine au (a) fun h t FY k=>?_
 try clear a
 subst FY
 exact (aA h t rfl (k.mono fun uu uu=>trivial))
theorem Stp.mono {Z Z':Addr→Prop}{s s₁:Shared} (a:Stp Z' s s₁) (h:∀ b,Z b→Z' b):Stp Z s s₁:=by
 refine au (a) fun h' t FZ k=>?_
 try clear a
 subst FZ
 exact (aA h' t rfl (k.mono h))
theorem Stp.same {Z:Addr→Prop}{s s₁:Shared}{h':Heap}{tk:Nat}{a:Addr} (st:Stp Z s s₁) (hs:Heap.SameBut a s₁.heap h') (hz:¬ Z a) (hn:∀ o,s₁.heap.get? a=some o→¬ Stay o):Stp Z s { s₁ with heap:=h',toks:=tk }:=by
 refine au (st) fun h t F1 k=>?_
 try clear st
 subst F1
 exact (aA h' tk rfl (k.trans (KG.same hs hz hn)))
section
variable {fns:Fns}{k:Nat}{C:Calls}{XP:String→Shared→Value→Shared→Prop}
variable {h0:Heap}{P Z:Addr→Prop}{A:Around}{env:Env}{h h':Heap}{σ:St}{vals:String→Option Value}{fp:String→List Addr}
theorem SOK.onK (K:SOK fns k h0 P Z A env h σ vals fp) (kp:KG (fun uu=>True) h h'):SOK fns k h0 P Z A env h' σ vals fp where
 room:=K.room
 eok:=K.eok
 ge:=K.ge
 z0:=K.z0
 kp0:=KG.trans K.kp0 kp
 code:=K.code
 out:=K.out
 zdom:=fun b hb=>aj (K.zdom b hb) fun uu e=>Mine.K.there kp e
 loc:=K.loc.onK kp
 val:=fun x p hp=>let ⟨a,v,b,c,d⟩:=K.val x p hp; (aF a (ax v b (c.k kp) d))
 top:=K.top
 deep:=K.deep
theorem SOK.h0n (K:SOK fns k h0 P Z A env h σ vals fp) {a:Addr} (ha:¬ Z a):h0.get? a=none:=by
 cases q:h0.get? a with
 | none=>rfl
 | some o=>exact absurd (K.z0 a o q) ha
theorem eS {v:V} (h:(mk v).2 = .deep):nC v=true:=by
 unfold mk at h; dsimp only at h
 split at h
 ·  assumption
 ·  cases h
theorem f9 {v:V}:(mk v).2≠.top:=by
 unfold mk; dsimp only; split <;> simp
theorem RV.scal_nil {v:Value}{x:V}{as:List Addr} (r:RV h v x as) (hs:nC x=true):as=[]:=by
 cases x with
 | d x=>exact r.1.sx_nil hs
 | _=>exact nF hs
theorem bO {σ:St}{ns:List String}{x:String}{p:V × Mode} (h:demote σ ns x=some p):∃ q,σ x=some q∧p.1=q.1∧((x∈ns∧p=mk q.1)∨(x∉ns∧p=q)):=by
 unfold demote at h
 split at h
 ·  refine bp h fun q hq F2=>?_
    subst F2
    exact (ax q hq rfl (.inl ⟨by assumption,rfl⟩))
 ·  exact (ax p h rfl (.inr ⟨by assumption,rfl⟩))
theorem dQ {σ:St}{ns:List String}{x:String}{p:V × Mode}{G:Prop} (h:demote σ ns x=some p) (k:∀ q,σ x=some q→p.1=q.1→((x∈ns∧p=mk q.1)∨(x∉ns∧p=q))→G):G:=aq (bO h) k
theorem SOK.demote (K:SOK fns k h0 P Z A env h σ vals fp) (ns:List String):SOK fns k h0 P Z A env h (demote σ ns) vals fp where
 room:=K.room
 eok:=K.eok
 ge:=K.ge
 z0:=K.z0
 kp0:=K.kp0
 code:=K.code
 out:=K.out
 zdom:=K.zdom
 loc:=K.loc
 val:=fun x p hp=>by
    refine dQ hp fun q hq e _=>?_
    rw [e]
    exact K.val x q hq
 top:=fun x p hp ht=>by
    refine dQ hp fun q hq e hc=>?_
    rcases hc with ⟨_,rfl⟩ | ⟨_,rfl⟩
    · exact absurd ht f9
    · refine aZ (K.top x p hq ht) fun a bs h1 h2 h3 h4=>?_
      refine (aU a bs h1 h2 h3 (fun y r hy hr=>?_))
      refine ag (bO hr) fun r' hr' _=>?_
      exact h4 y r' hy hr'
 deep:=fun x p hp hd=>by
    refine dQ hp fun q hq e hc=>?_
    rcases hc with ⟨_,rfl⟩ | ⟨_,rfl⟩
    · refine ae (K.val x q hq) fun uu Gk=>?_
      refine aq (Gk) fun v _ hr _=>?_
      try clear Gk
      rw [hr.scal_nil (eS hd)]
      exact ⟨fun uu h=>(nomatch h),.nil⟩
    · refine ae (K.deep x p hq hd) fun h1 h2=>?_
      refine ⟨fun a ha=>⟨(h1 a ha).1,fun y r hy hr=>?_⟩,h2⟩
      refine ag (bO hr) fun r' hr' _=>?_
      exact (h1 a ha).2 y r' hy hr'
theorem SOK.consume (K:SOK fns k h0 P Z A env h σ vals fp) (ns:List String) (m:Mode):SOK fns k h0 P Z A env h (consume σ ns m) vals fp:=by
 unfold Mine.consume
 split
 ·  exact K
 ·  exact K.demote ns
noncomputable def Own (σ:St) (fp:String→List Addr) (ns:List String) (a:Addr):Prop:=∃ y q,y∈ns∧σ y=some q∧a∈fp y
theorem SOK.cx {s:Shared} (K:SOK fns k h0 P Z A env s.heap σ vals fp) (ns:List String):Cx fns k A (Own σ fp ns) s.heap env (b6 σ ns) where
 room:=K.room
 eok:=K.eok
 ge:=K.ge.k K.kp0
 code:=fun e=>aj (K.code e) fun q c=>⟨q,c.k K.kp0⟩
 frm:=fun e=>by
    refine cy (K.out e) fun l h1 h2 h3 h4=>?_
    refine (ah _ h1 (fun env' he=>?_))
    rcases List.mem_cons.mp he with rfl | he
    · refine ag (K.loc.ns) fun m F4 _=>?_
      refine aL (F4) fun o es ep e1 e2 _=>?_
      try clear F4
      refine ag (K.loc.cls) fun o' e3 e4=>?_
      rw [e1] at e3; (have oc:=Option.some.inj e3; clear e3; subst oc)
      exact (aF K.eok.kind (jd _ _ es ep h3 h4 e1 e4 e2))
    · exact (h2.k K.kp0) env' he
 vars:=fun x p hp _=>by
    unfold b6 at hp
    split at hp
    · refine ae (K.val x p hp) fun uu Go=>?_
      refine aq (Go) fun v hv hr _=>?_
      try clear Go
      exact (aS v (fp x) (K.loc.var K.eok hv) hr (fun a ha=>(aS x p (by assumption) hp ha)))
    · exact nN hp
theorem SOK.eval {s:Shared}{e:E}{exx:Expr}{r:V × Mode}{Q:Value→Shared→Prop}{Er:Value→Shared→Prop} (K:SOK fns k h0 P Z A env s.heap σ vals fp) (S:SimE fns k C XP e) (ok:okE env.scope.names e exx=true) (he:ev C e σ = .ok r)
    (hQ:∀ v s',EP (Own σ fp (fv e)) s r v s'→Q v s'):wpAny (model prog w) A (eval exx env) Q Er s:=by
 have e1:ev C e (b6 σ (fv e)) = .ok r:=by rw [aC C e _ σ (bN σ (fv e))]; exact he
 exact S ok (K.cx (fv e)) (by rw [e1]; simp) (fun r' hr v s' E=>by rw [e1] at hr; (have oc:=Out.ok.inj hr; clear hr; subst oc); exact hQ v s' E) fun c hc=>by rw [e1] at hc; cases hc
theorem SOK.evalT {s:Shared}{e:E}{exx:Expr}{b:Bool}{Q:Bool→Shared→Prop}{Er:Value→Shared→Prop} (K:SOK fns k h0 P Z A env s.heap σ vals fp) (S:SimT fns k C XP e) (ok:okE env.scope.names e exx=true) (he:((ev C e σ).bind fun r=>ao r.1) = .ok b)
    (hQ:∀ s',Kp s s'→Q b s'):wpAny (model prog w) A (isTrue exx env (PySem.eval exx env)) Q Er s:=by
 have e1:ev C e (b6 σ (fv e))=ev C e σ:=aC C e _ σ (bN σ (fv e))
 refine S ok (K.cx (fv e)) (by rw [e1,he]; simp) (fun r' hr s' kp=>by rw [e1,he] at hr; (have oc:=Out.ok.inj hr; clear hr; subst oc); exact hQ s' kp) fun c hc=>?_
 rw [e1] at hc; rw [hc] at he; exact nE he
theorem SOK.own (K:SOK fns k h0 P Z A env h σ vals fp) {ns:List String}{a:Addr} (ha:Own σ fp ns a):(∃ o,h.get? a=some o)∧a≠env.locals∧(P a∨h0.get? a=none):=by
 refine az (ha) fun y q _ hq hy=>?_
 try clear ha
 refine ae (K.val y q hq) fun uu Gn=>?_
 refine aq (Gn) fun v _ hr hd=>?_
 try clear Gn
 exact ⟨hr.there a hy,hd a hy⟩
noncomputable def Frm (Z:Addr→Prop) (xs:List String) (σ:St) (vals:String→Option Value) (fp:String→List Addr) (σ':St) (vals':String→Option Value) (fp':String→List Addr):Prop :=
 (∀ y,y∉xs→vals' y=vals y∧fp' y=fp y)∧∀ b,Z b→(∀ z q,σ z=some q→b∉fp z)→∀ z q,σ' z=some q→b∉fp' z
section
variable {xs ys:List String}{σ₁ σ₂:St}{vals₁ vals₂:String→Option Value}{fp₁ fp₂:String→List Addr}{Z':Addr→Prop}
theorem Frm.id (h:∀ z q,σ₁ z=some q→∃ q',σ z=some q'):Frm Z xs σ vals fp σ₁ vals fp :=
 ⟨fun uu uu=>⟨rfl,rfl⟩,fun b _ hb z q hq=>aj (h z q hq) fun q' hq'=>hb z q' hq'⟩
theorem Frm.more (f:Frm Z xs σ vals fp σ₁ vals₁ fp₁) (h:∀ y∈xs,y∈ys):Frm Z ys σ vals fp σ₁ vals₁ fp₁:=⟨fun y hy=>f.1 y fun q=>hy (h y q),f.2⟩
theorem Frm.trans (f:Frm Z xs σ vals fp σ₁ vals₁ fp₁) (g:Frm Z ys σ₁ vals₁ fp₁ σ₂ vals₂ fp₂):Frm Z (xs ++ ys) σ vals fp σ₂ vals₂ fp₂ :=
 ⟨fun y hy=>let a:=f.1 y fun q=>hy (List.mem_append_left _ q); let b:=g.1 y fun q=>hy (List.mem_append_right _ q); ⟨b.1.trans a.1,b.2.trans a.2⟩,fun b hz hb=>g.2 b hz (f.2 b hz hb)⟩
theorem Frm.less (f:Frm Z' xs σ vals fp σ₁ vals₁ fp₁) (h:∀ b,Z b→Z' b):Frm Z xs σ vals fp σ₁ vals₁ fp₁:=⟨f.1,fun b hz=>f.2 b (h b hz)⟩
theorem Frm.one {x:String}{r:V × Mode}{as:List Addr}{σ₁:St}{vals₁:String→Option Value} (hv:∀ y,y≠x→vals₁ y=vals y) (h:∀ z q,σ₁ z=some q→∃ q',σ z=some q') (ha:∀ b∈as,Z b→∃ z q,σ z=some q∧b∈fp z) :
    Frm Z [x] σ vals fp (upd σ₁ x r) vals₁ (fun y=>if y=x then as else fp y):=by
 refine ⟨fun y hy=>⟨hv y fun q=>hy (by simp [q]),if_neg fun q=>hy (by simp [q])⟩,fun b hz hb z q hq hm=>?_⟩
 unfold upd at hq
 dsimp only at hm
 by_cases e:z=x
 ·  have hm':b∈as:=by rwa [if_pos e] at hm
    refine au (ha b hm' hz) fun z' q' h1 h2=>?_
    exact hb z' q' h1 h2
 ·  rw [if_neg e] at hq hm
    refine aj (h z q hq) fun q' hq'=>?_
    exact hb z q' hq' hm
end
theorem cU {σ:St}{ns:List String}{m:Mode}{y:String}{q:V × Mode} (hq:Mine.consume σ ns m y=some q):∃ q',σ y=some q':=by
 unfold Mine.consume at hq
 split at hq
 ·  exact ⟨q,hq⟩
 ·  obtain ⟨q',hq',_⟩:=bO hq; exact ⟨q',hq'⟩
theorem SOK.put {s:Shared}{x:String}{v:Value}{r:V × Mode}{as:List Addr}{Q:Unit→Shared→Prop}{Er:Value→Shared→Prop} (K:SOK fns k h0 P Z A env s.heap σ vals fp)
    (hvk:varK env.scope.names x=true) (hk:env.kindOf (Str.ofString x)=some .local∨env.kindOf (Str.ofString x)=some .cell)
    (rv:RV s.heap v r.1 as) (ha:∀ a∈as,a≠env.locals∧(P a∨h0.get? a=none))
    (ht:r.2 = .top→∃ a bs,as=a :: bs∧¬ Z a∧a∉bs∧∀ y q,y≠x→σ y=some q→a∉fp y) (hd:r.2 = .deep→(∀ a∈as,¬ Z a∧∀ y q,y≠x→σ y=some q→a∉fp y)∧as.Nodup)
    (hdis:∀ y q,y≠x→σ y=some q→(q.2 = .top→∀ a bs,fp y=a :: bs→a∉as)∧(q.2 = .deep→∀ a∈fp y,a∉as))
    (hQ:∀ s',Stp Z s s'→(∀ b o,b≠env.locals→(∀ u,o.data≠.cell u)→s.heap.get? b=some o→s'.heap.get? b=some o)→SOK fns k h0 P Z A env s'.heap (upd σ x r) (dK vals x v) (fun y=>if y=x then as else fp y)→Q () s'):wpAny (model prog w) A (storeName env (Str.ofString x) v) Q Er s:=by
 refine K.loc.store K.eok hk fun T h' tk hs hT hKp hZ L=>hQ _ ((Stp.refl Z s).same hs hZ hT.nostay) (fun b o hb hc e=>hs.extBut b o (fun q=>?_) e) ?_
 ·  rcases hT with ⟨hT,_⟩ | ⟨u,o',e',hd'⟩
    · exact hb (q.trans hT)
    · (clear hKp hZ hs; subst q)
      rw [e'] at e; (have oc:=Option.some.inj e; clear e; subst oc)
      exact hc u hd'
 have h0n:∀ a,¬ Z a→h0.get? a=none:=fun a ha=>by
    cases q:h0.get? a with
    | none=>rfl
    | some o=>exact absurd (K.z0 a o q) ha
 have kz:∀ b o,Z b→s.heap.get? b=some o→h'.get? b=some o:=fun b o hb e=>hs.extBut b o (fun q=>hZ (q▸hb)) e
 refine ⟨K.room,K.eok,K.ge,K.z0,Mine.K.same K.kp0 hs (h0n _ hZ) hT.nostay,K.code,K.out,fun b hb=>aj (K.zdom b hb) fun o e=>⟨o,kz b o hb e⟩,L,fun y p hp=>?_,fun y p hp htp=>?_,fun y p hp hdp=>?_⟩
 ·  unfold upd at hp
    by_cases hy:y=x
    · (clear L hQ hd hdis hk ht; subst hy)
      rw [if_pos rfl] at hp; (have oc:=Option.some.inj hp; clear hp; subst oc)
      refine (aF hvk (ax v (by simp [dK]) ?_ ?_))
      · rw [if_pos rfl]; exact rv.spot hT hKp (fun a h=>(ha a h).1) hs
      · rw [if_pos rfl]; exact ha
    · rw [if_neg hy] at hp
      refine ae (K.val y p hp) fun h1 Gu=>?_
      refine aq (Gu) fun u h2 h3 h4=>?_
      try clear Gu
      refine (aF h1 (ax u (by simpa [dK,hy] using h2) ?_ ?_))
      · rw [if_neg hy]; exact h3.spot hT hKp (fun a h=>(h4 a h).1) hs
      · rw [if_neg hy]; exact h4
 ·  unfold upd at hp
    by_cases hy:y=x
    · (clear L hQ hd hdis hk hvk; subst hy)
      rw [if_pos rfl] at hp; (have oc:=Option.some.inj hp; clear hp; subst oc)
      refine aZ (ht htp) fun a bs h1 h2 h3 h4=>?_
      refine (aU a bs (by rw [if_pos rfl]; exact h1) h2 h3 (fun z q hz hq=>?_))
      unfold upd at hq
      rw [if_neg hz] at hq ⊢
      exact h4 z q hz hq
    · rw [if_neg hy] at hp
      refine aZ (K.top y p hp htp) fun a bs h1 h2 h3 h4=>?_
      refine (aU a bs (by rw [if_neg hy]; exact h1) h2 h3 (fun z q hz hq=>?_))
      unfold upd at hq
      by_cases hzx:z=x
      · rw [if_pos hzx]
        exact (hdis y p hy hp).1 htp a bs h1
      · rw [if_neg hzx] at hq ⊢
        exact h4 z q hz hq
 ·  unfold upd at hp
    by_cases hy:y=x
    · (clear L hQ hdis hk ht hvk; subst hy)
      rw [if_pos rfl] at hp; (have oc:=Option.some.inj hp; clear hp; subst oc)
      refine ae (hd hdp) fun h1 h2=>?_
      rw [if_pos rfl]
      refine ⟨fun a h=>⟨(h1 a h).1,fun z q hz hq=>?_⟩,h2⟩
      unfold upd at hq
      rw [if_neg hz] at hq ⊢
      exact (h1 a h).2 z q hz hq
    · rw [if_neg hy] at hp ⊢
      refine ae (K.deep y p hp hdp) fun h1 h2=>?_
      refine ⟨fun a h=>⟨(h1 a h).1,fun z q hz hq=>?_⟩,h2⟩
      unfold upd at hq
      by_cases hzx:z=x
      · rw [if_pos hzx]
        exact (hdis y p hy hp).2 hdp a h
      · rw [if_neg hzx] at hq ⊢
        exact (h1 a h).2 z q hz hq
theorem SOK.put_ep {s s₁:Shared}{x:String}{v:Value}{r:V × Mode}{ns:List String}{Q:Unit→Shared→Prop}{Er:Value→Shared→Prop} (K:SOK fns k h0 P Z A env s.heap σ vals fp)
    (hvk:varK env.scope.names x=true) (hk:env.kindOf (Str.ofString x)=some .local∨env.kindOf (Str.ofString x)=some .cell) (E:EP (Own σ fp ns) s r v s₁)
    (hQ:∀ s' as,RV s₁.heap v r.1 as→Stp Z s₁ s'→(∀ b o,b≠env.locals→(∀ u,o.data≠.cell u)→s₁.heap.get? b=some o→s'.heap.get? b=some o)→SOK fns k h0 P Z A env s'.heap (upd (Mine.consume σ ns r.2) x r) (dK vals x v) (fun y=>if y=x then as else fp y)→Frm Z [x] σ vals fp (upd (Mine.consume σ ns r.2) x r) (dK vals x v) (fun y=>if y=x then as else fp y)→Q () s'):wpAny (model prog w) A (storeName env (Str.ofString x) v) Q Er s₁:=by
 obtain ⟨kp,as,rv,ha,ht,hd⟩:=E
 have K₁:=(K.onK kp.k).consume ns r.2
 have nz:∀ a,s.heap.get? a=none→¬ Z a:=fun a e hz=>by
    refine aj (K.zdom a hz) fun o e'=>?_
    rw [e] at e'; exact nN e'
 have nf:∀ a,s.heap.get? a=none→∀ y q,σ y=some q→a∉fp y:=fun a e y q hq hm=>by
    refine ae (K.val y q hq) fun uu GC=>?_
    refine aq (GC) fun u _ hr _=>?_
    try clear GC
    refine aj (hr.there a hm) fun o e'=>?_
    rw [e] at e'; exact nN e'
 have cs:∀ y q,Mine.consume σ ns r.2 y=some q→∃ q',σ y=some q':=fun y q hq=>by
    unfold Mine.consume at hq
    split at hq
    · exact ⟨q,hq⟩
    · obtain ⟨q',hq',_⟩:=bO hq; exact ⟨q',hq'⟩
 refine ag (K.loc.ns) fun mL hmL _=>?_
 refine K₁.put hvk hk rv (fun a h=>?_) (fun htop=>?_) (fun hdeep=>?_) (fun y q hy hq=>?_) (fun s' st kk K'=>hQ s' as rv st kk K' (.one (fun y hy=>if_neg hy) (fun z q hq=>cU hq) fun b hb hz=>(ha b hb).elim (fun ⟨y,q,_,h1,h2⟩=>(aA y q h1 h2)) fun e=>absurd hz (nz b e)))
 ·  rcases ha a h with h1 | h1
    · exact (K.own h1).2
    · refine ⟨fun q=>?_,.inr ?_⟩
      · refine bh (hmL) fun o _ _ e _=>?_
        try clear hmL
        rw [← q] at e
        rw [h1] at e; exact nN e
      · cases e:h0.get? a with
        | none=>rfl
        | some o=>obtain ⟨_,e'⟩:=Mine.K.there K.kp0 e; rw [e'] at h1; exact nM h1
 ·  refine az (ht htop) fun a bs h1 h2 h3=>?_
    exact (aU a bs h1 (nz a h2) h3 (fun y q _ hq=>aj (cs y q hq) fun q' hq'=>nf a h2 y q' hq'))
 ·  refine ae (hd hdeep) fun h1 h2=>?_
    exact ⟨fun a h=>⟨nz a (h1 a h),fun y q _ hq=>aj (cs y q hq) fun q' hq'=>nf a (h1 a h) y q' hq'⟩,h2⟩
 ·  have main:∀ a,(a∈as)→(∀ y' q',σ y' = some q'→a∈fp y'→y'≠y∨(y'∈ns∧r.2≠.deep))∨True:=fun uu uu=>.inr trivial
    clear main
    by_cases hdp:r.2 = .deep
    · have h1:=(hd hdp).1
      refine aj (cs y q hq) fun q' hq'=>?_
      exact ⟨fun uu a bs e hm=>nf a (h1 a hm) y q' hq' (by rw [e]; exact .head _),fun uu a ha' hm=>nf a (h1 a hm) y q' hq' ha'⟩
    · have hq2:Mine.demote σ ns y=some q:=by unfold Mine.consume at hq; rwa [if_neg hdp] at hq
      refine dQ hq2 fun q' hq' e1 hc=>?_
      rcases hc with ⟨_,rfl⟩ | ⟨hn,rfl⟩
      · refine ⟨fun h=>absurd h f9,fun h a ha'=>?_⟩
        refine ae (K.val y q' hq') fun uu Hx=>?_
        refine aq (Hx) fun u _ hr _=>?_
        try clear Hx
        rw [hr.scal_nil (eS h)] at ha'
        cases ha'
      · refine ⟨fun h a bs e hm=>?_,fun h a ha' hm=>?_⟩
        · refine Or.elim (ha a hm) (fun F3=>?_) (fun h1=>?_)
          · refine az (F3) fun z p hz hp hf=>?_
            clear F3
            refine aZ (K.top y q hq' h) fun a' bs' e' _ _ h4=>?_
            rw [e] at e'; cases e'
            exact h4 z p (fun q=>hn (q▸hz)) hp hf
          · exact nf a h1 y q hq' (by rw [e]; exact .head _)
        · refine Or.elim (ha a hm) (fun F7=>?_) (fun h1=>?_)
          · refine az (F7) fun z p hz hp hf=>?_
            clear F7
            exact ((K.deep y q hq' h).1 a ha').2 z p (fun q=>hn (q▸hz)) hp hf
          · exact nf a h1 y q hq' ha'
theorem SOK.freeze (K:SOK fns k h0 P Z A env h σ vals fp) {G:Addr→Prop} (hdom:∀ b,G b→∃ o,h.get? b=some o) (hL:¬ G env.locals) (hc:∀ n c,env.kindOf n=some .cell→env.cells.lookup n=some c→¬ G c)
    (ht:∀ x p,σ x=some p→p.2 = .top→∀ a bs,fp x=a :: bs→¬ G a) (hd:∀ x p,σ x=some p→p.2 = .deep→∀ a∈fp x,¬ G a):SOK fns k h0 P (fun b=>Z b∨G b) A env h σ vals fp where
 room:=K.room
 eok:=K.eok
 ge:=K.ge
 z0:=fun b o e=>.inl (K.z0 b o e)
 kp0:=K.kp0
 code:=K.code
 out:=K.out
 zdom:=fun b hb=>hb.elim (K.zdom b) (hdom b)
 loc:={ K.loc with
    nz:=fun q=>q.elim K.loc.nz hL
    cell:=fun n c a b=>by
      refine aD (K.loc.cell n c a b) fun h1 h2 GQ=>?_
      refine au (GQ) fun v o h3 h4=>?_
      try clear GQ
      exact (bW h1 (fun q=>q.elim h2 (hc n c a b)) (aA v o h3 h4)) }
 val:=K.val
 top:=fun x p hp hq=>by
    refine aZ (K.top x p hp hq) fun a bs h1 h2 h3 h4=>?_
    exact (aU a bs h1 (fun q=>q.elim h2 (ht x p hp hq a bs h1)) h3 h4)
 deep:=fun x p hp hq=>by
    refine ae (K.deep x p hp hq) fun h1 h2=>?_
    exact ⟨fun a ha=>⟨fun q=>q.elim (h1 a ha).1 (hd x p hp hq a ha),(h1 a ha).2⟩,h2⟩
theorem SOK.thaw {Z':Addr→Prop} (K:SOK fns k h0 P Z' A env h σ vals fp) (hz:∀ b,Z b→Z' b) (h0z:∀ b o,h0.get? b=some o→Z b):SOK fns k h0 P Z A env h σ vals fp where
 room:=K.room
 eok:=K.eok
 ge:=K.ge
 z0:=h0z
 kp0:=K.kp0
 code:=K.code
 out:=K.out
 zdom:=fun b hb=>K.zdom b (hz b hb)
 loc:={ K.loc with
    nz:=fun q=>K.loc.nz (hz _ q)
    cell:=fun n c a b=>by
      refine aD (K.loc.cell n c a b) fun h1 h2 h3=>?_
      exact ⟨h1,fun q=>h2 (hz _ q),h3⟩ }
 val:=K.val
 top:=fun x p hp hq=>by
    refine aZ (K.top x p hp hq) fun a bs h1 h2 h3 h4=>?_
    exact (aU a bs h1 (fun q=>h2 (hz _ q)) h3 h4)
 deep:=fun x p hp hq=>by
    refine ae (K.deep x p hp hq) fun h1 h2=>?_
    exact ⟨fun a ha=>⟨fun q=>(h1 a ha).1 (hz _ q),(h1 a ha).2⟩,h2⟩
end
end Mine
namespace Mine
open PySem PyProof.Rows
section
variable {fns:Fns}{k:Nat}{C:Calls}{XP:String→Shared→Value→Shared→Prop}
variable {h0:Heap}{P Z:Addr→Prop}{A:Around}{env:Env}{h h':Heap}{σ:St}{vals:String→Option Value}{fp:String→List Addr}
theorem RV.offA {a:Addr}{o:Obj}{v:Value}{x:V}{as:List Addr} (r:RV h v x as) (ho:h.get? a=some o) (hc:o.cls≠.type "tuple") (hn:a∉as) (hs:Heap.SameBut a h h'):RV h' v x as:=by
 have kp:∀ b o,b≠a→h.get? b=some o→h'.get? b=some o:=fun b o hb e=>hs.extBut b o hb e
 have key:∀ ks b,IsTupleKey (intKind prog w) h ks b→IsTupleKey (intKind prog w) h' ks b:=fun ks b hk=>by
    refine aL (hk) fun o' it n a1 a2 a3=>?_
    try clear hk
    refine (ce o' it n (kp b o' (fun q=>?_) a1) a2 a3)
    (clear hn hs kp; subst q)
    rw [ho] at a1; (have oc:=Option.some.inj a1; clear a1; (clear a3; subst oc))
    exact hc a2
 cases x with
 | d x=>exact ⟨r.1.off (wr:=[a]) (fun b hb o' e=>.inr (by
      rw [List.mem_singleton.mp hb] at e ⊢
      rw [ho] at e; (have oc:=Option.some.inj e; clear e; subst oc)
      exact ⟨hc,hn⟩)) fun b o hb e=>kp b o (fun q=>hb (by simp [q])) e,r.2⟩
 | dic0=>
    refine iV (r) fun b h1 h2 h3 FW FX=>?_
    try clear r
    refine bh (FW) fun o es ep e hr=>?_
    try clear FW
    refine cH (FX) fun o' es' ep' e' h4 h5 h6 h7 h8=>?_
    try clear FX
    subst h2
    have hne:b≠a:=fun q=>hn (by simp [q])
    exact (ij b h1 rfl h3 (bT o es ep (kp b o hne e) hr) (eO o' es' ep' (kp b o' hne e') h4 h5 h6 (fun y hy=>key _ _ (h7 y hy)) h8))
 | dicI ks=>
    refine cy (r) fun b h1 h2 h3 FY=>?_
    try clear r
    refine bh (FY) fun o es ep e hr=>?_
    try clear FY
    subst h2
    have hne:b≠a:=fun q=>hn (by simp [q])
    exact (ba b h1 rfl h3 (bT o es ep (kp b o hne e) hr))
 | dicT ks=>
    refine kn (r) fun b xs h1 h2 h3 FZ h9=>?_
    try clear r
    refine cH (FZ) fun o' es' ep' e' h4 h5 h6 h7 h8=>?_
    try clear FZ
    subst h2
    have hne:b≠a:=fun q=>hn (by simp [q])
    exact (dy b xs h1 rfl h3 (eO o' es' ep' (kp b o' hne e') h4 h5 h6 (fun y hy=>key _ _ (h7 y hy)) h8) h9.1 h9.2.1 (fun x hx=>(h9.2.2 x hx).off (wr:=[a]) (fun b hb o' e=>.inr (by
      rw [List.mem_singleton.mp hb] at e ⊢
      rw [ho] at e; (have oc:=Option.some.inj e; clear e; subst oc)
      exact ⟨hc,fun q=>nomatch q⟩)) fun b o hb e=>kp b o (fun q=>hb (by simp [q])) e))
 | rule c d n=>
    refine eU (r) fun y D oy vf bs t u mA h1 h2 h3 h4 h5 h6 h7 F0 h9 h10 h11 h12 h13 h14=>?_
    try clear r
    refine bh (F0) fun oD es ep e hd=>?_
    try clear F0
    subst h2
    have n1:y≠a:=fun q=>hn (by simp [q])
    have n2:D≠a:=fun q=>hn (by simp [q])
    exact (gc y D oy vf bs t u mA h1 rfl (kp y oy n1 h3) h4 h5 h6 h7 (bT oD es ep (kp D oD n2 e) hd) h9 h10 h11 h12 (h13.off (wr:=[a]) (fun b hb o' e=>.inr (by
      rw [List.mem_singleton.mp hb] at e ⊢
      rw [ho] at e; (have oc:=Option.some.inj e; clear e; subst oc)
      exact ⟨hc,fun q=>hn (.tail _ (.tail _ q))⟩)) fun b o hb e=>kp b o (fun q=>hb (by simp [q])) e) h14)
theorem Loc.offA {a:Addr}{o:Obj} (L:Loc env Z h vals) (ho:h.get? a=some o) (hc:∀ v,o.data≠.cell v) (hL:a≠env.locals) (hs:Heap.SameBut a h h'):Loc env Z h' vals where
 cls:=ag (L.cls) fun o e c=>(ah o (hs.extBut _ o (Ne.symm hL) e) c)
 ns:=ag (L.ns) fun m x y=>(ah m (x.sameBut hs (Ne.symm hL)) y)
 nz:=L.nz
 cell:=fun n c x y=>by
    refine aD (L.cell n c x y) fun h1 h2 Gk=>?_
    refine au (Gk) fun v o' h3 h4=>?_
    try clear Gk
    refine (bW h1 h2 (aA v o' (hs.extBut c o' (fun q=>?_) h3) h4))
    (clear hL hs; subst q)
    rw [ho] at h3; (have oc:=Option.some.inj h3; clear h3; subst oc)
    exact hc v h4
 cval:=fun x v c p q r=>by
    refine ag (L.cval x v c p q r) fun o' h3 h4=>?_
    refine (ah o' (hs.extBut c o' (fun q=>?_) h3) h4)
    (clear hL hs; subst q)
    rw [ho] at h3; (have oc:=Option.some.inj h3; clear h3; subst oc)
    exact hc _ h4
 apart:=L.apart
 kinds:=L.kinds
theorem SOK.write {x:String}{p:V × Mode}{a:Addr}{o:Obj}{v':V}{m':Mode}{bs':List Addr} (K:SOK fns k h0 P Z A env h σ vals fp) (hp:σ x=some p) (hval:vals x=some (.ref a)) (ho:h.get? a=some o) (hoc:o.cls≠.type "tuple") (hst:¬ Stay o) (hod:∀ v,o.data≠.cell v)
    (hnz:¬ Z a) (hne:∀ y q,y≠x→σ y=some q→a∉fp y) (haL:a≠env.locals∧(P a∨h0.get? a=none)) (hs:Heap.SameBut a h h') (rv:RV h' (.ref a) v' (a :: bs')) (hb:∀ b∈bs',b≠env.locals∧(P b∨h0.get? b=none))
    (ht:m' = .top→a∉bs') (hd:m' = .deep→(∀ b∈bs',¬ Z b∧∀ y q,y≠x→σ y=some q→b∉fp y)∧(a :: bs').Nodup)
    (hdis:∀ y q,y≠x→σ y=some q→(q.2 = .top→∀ b cs,fp y=b :: cs→b∉bs')∧(q.2 = .deep→∀ b∈fp y,b∉bs')) :
    SOK fns k h0 P Z A env h' (upd σ x (v',m')) vals (fun y=>if y=x then a :: bs' else fp y):=by
 have h0n:h0.get? a=none:=by
    cases q:h0.get? a with
    | none=>rfl
    | some o=>exact absurd (K.z0 a o q) hnz
 have kz:∀ b o,Z b→h.get? b=some o→h'.get? b=some o:=fun b o hb e=>hs.extBut b o (fun q=>hnz (q▸hb)) e
 refine ⟨K.room,K.eok,K.ge,K.z0,Mine.K.same K.kp0 hs h0n (fun o' e=>by rw [ho] at e; (have oc:=Option.some.inj e; clear e; subst oc); exact hst),K.code,K.out,fun b hb=>aj (K.zdom b hb) fun o e=>⟨o,kz b o hb e⟩,K.loc.offA ho hod haL.1 hs,fun y q hq=>?_,fun y q hq htp=>?_,fun y q hq hdp=>?_⟩
 ·  unfold upd at hq
    by_cases hy:y=x
    · (clear hd hdis hne; subst hy)
      rw [if_pos rfl] at hq; (have oc:=Option.some.inj hq; clear hq; subst oc)
      rw [if_pos rfl]
      refine (aF ((K.val y p hp).1) (ax (.ref a) hval rv (fun b hb'=>?_)))
      rcases List.mem_cons.mp hb' with rfl | hb'
      · exact haL
      · exact hb b hb'
    · rw [if_neg hy] at hq ⊢
      refine ae (K.val y q hq) fun h1 Go=>?_
      refine aq (Go) fun u h2 h3 h4=>?_
      try clear Go
      exact (aF h1 (ax u h2 (h3.offA ho hoc (hne y q hy hq) hs) h4))
 ·  unfold upd at hq
    by_cases hy:y=x
    · (clear hd hdis hp hval; subst hy)
      rw [if_pos rfl] at hq; (have oc:=Option.some.inj hq; clear hq; subst oc)
      rw [if_pos rfl]
      refine (aU a bs' rfl hnz (ht htp) (fun z r hz hr=>?_))
      unfold upd at hr
      rw [if_neg hz] at hr ⊢
      exact hne z r hz hr
    · rw [if_neg hy] at hq ⊢
      refine aZ (K.top y q hq htp) fun b cs h1 h2 h3 h4=>?_
      refine (aU b cs h1 h2 h3 (fun z r hz hr=>?_))
      unfold upd at hr
      by_cases hzx:z=x
      · rw [if_pos hzx]
        intro hm
        rcases List.mem_cons.mp hm with e | hm
        · exact hne y q hy hq (by rw [h1,e]; exact .head _)
        · exact (hdis y q hy hq).1 htp b cs h1 hm
      · rw [if_neg hzx] at hr ⊢
        exact h4 z r hz hr
 ·  unfold upd at hq
    by_cases hy:y=x
    · (clear hdis hp hval; subst hy)
      rw [if_pos rfl] at hq; (have oc:=Option.some.inj hq; clear hq; subst oc)
      rw [if_pos rfl]
      refine ae (hd hdp) fun h1 h2=>?_
      refine ⟨fun b hb'=>?_,h2⟩
      rcases List.mem_cons.mp hb' with rfl | hb'
      · refine ⟨hnz,fun z r hz hr=>?_⟩
        unfold upd at hr
        rw [if_neg hz] at hr ⊢
        exact hne z r hz hr
      · refine ⟨(h1 b hb').1,fun z r hz hr=>?_⟩
        unfold upd at hr
        rw [if_neg hz] at hr ⊢
        exact (h1 b hb').2 z r hz hr
    · rw [if_neg hy] at hq ⊢
      refine ae (K.deep y q hq hdp) fun h1 h2=>?_
      refine ⟨fun b hb'=>⟨(h1 b hb').1,fun z r hz hr=>?_⟩,h2⟩
      unfold upd at hr
      by_cases hzx:z=x
      · rw [if_pos hzx]
        intro hm
        rcases List.mem_cons.mp hm with e | hm
        · exact hne y q hy hq (e▸hb')
        · exact (hdis y q hy hq).2 hdp b hb' hm
      · rw [if_neg hzx] at hr ⊢
        exact (h1 b hb').2 z r hz hr
theorem SOK.head {x:String}{xs:List PyData}{m:Mode} (K:SOK fns k h0 P Z A env h σ vals fp) (hp:σ x=some (.d (.list xs),m)) (hm:m≠.sh) :
    ∃ a vs n bs,vals x=some (.ref a)∧h.get? a=some ⟨.type "list", none,.seq vs.toArray n,#[]⟩∧RA h vs xs bs∧fp x=a :: bs∧sz (.list xs)=true∧¬ Z a∧a∉bs∧(∀ y q,y≠x→σ y=some q→a∉fp y)∧(∀ b∈a :: bs,b≠env.locals∧(P b∨h0.get? b=none)) ∧
      (m = .deep→(∀ b∈bs,¬ Z b∧∀ y q,y≠x→σ y=some q→b∉fp y)∧bs.Nodup):=by
 refine ae (K.val x _ hp) fun uu Gn=>?_
 refine aq (Gn) fun v hv F1 hb=>?_
 try clear Gn
 refine ae (F1) fun hr hz=>?_
 try clear F1
 refine hr.isList_k fun a vs n bs F2 ea ra e=>?_
 (clear hr; subst F2)
 refine ⟨a,vs,n,bs,hv,ea,ra,e,hz,?_⟩
 rw [e] at hb
 cases m with
 | sh=>exact absurd rfl hm
 | top=>
    refine aZ (K.top x _ hp rfl) fun a' bs' e' h1 h2 h3=>?_
    rw [e] at e'; cases e'
    exact (cf h1 h2 h3 hb (fun h=>(by cases h)))
 | deep=>
    refine ae (K.deep x _ hp rfl) fun h1 h2=>?_
    rw [e] at h1 h2
    rw [List.nodup_cons] at h2
    exact (cf ((h1 a (.head _)).1) h2.1 ((h1 a (.head _)).2) hb (fun uu=>⟨fun b hb=>h1 b (.tail _ hb),h2.2⟩))
end
end Mine
namespace Mine
open PySem PyProof.Rows
section
variable (fns:Fns) (k:Nat) (C:Calls)
noncomputable def cM (st:S):Prop:=∀ {stmt:Stmt}{h0:Heap}{P Z:Addr→Prop}{A:Around}{env:Env}{σ:St}{vals:String→Option Value}{fp:String→List Addr}{s:Shared}{Q:Flow→Shared→Prop}{Er:Value→Shared→Prop}{σ':St}{fl:Flw},
 okS env.scope.names st stmt=true→SOK fns k h0 P Z A env s.heap σ vals fp→ex C st σ = .ok (σ',fl) →
 (fl = .next→∀ s' vals' fp',Stp Z s s'→SOK fns k h0 P Z A env s'.heap σ' vals' fp'→Frm Z (asg st) σ vals fp σ' vals' fp'→Q .next s')→(∀ r,fl = .ret r→∀ v s',Stp Z s s'→lp h0 P r v s'→Q (.ret v) s') →
 wpAny (model prog w) A (exec stmt env) Q Er s
noncomputable def ej (st:Ss):Prop:=∀ {stmts:List Stmt}{h0:Heap}{P Z:Addr→Prop}{A:Around}{env:Env}{σ:St}{vals:String→Option Value}{fp:String→List Addr}{s:Shared}{Q:Flow→Shared→Prop}{Er:Value→Shared→Prop}{σ':St}{fl:Flw},
 cE env.scope.names st stmts=true→SOK fns k h0 P Z A env s.heap σ vals fp→exs C st σ = .ok (σ',fl) →
 (fl = .next→∀ s' vals' fp',Stp Z s s'→SOK fns k h0 P Z A env s'.heap σ' vals' fp'→Frm Z (gP st) σ vals fp σ' vals' fp'→Q .next s')→(∀ r,fl = .ret r→∀ v s',Stp Z s s'→lp h0 P r v s'→Q (.ret v) s') →
 wpAny (model prog w) A (execs stmts env) Q Er s
end
section
variable {fns:Fns}{k:Nat}{C:Calls}{XP:String→Shared→Value→Shared→Prop}
theorem bnd {env:Env}{x:String} (h:bC env.scope.names x=true):varK env.scope.names x=true∧aT x=true∧(env.kindOf (Str.ofString x)=some .local∨env.kindOf (Str.ofString x)=some .cell):=by
 unfold bC at h
 simp only [Bool.and_eq_true,Bool.or_eq_true,beq_iff_eq] at h
 exact ⟨h.1.1,h.1.2,h.2⟩
theorem hJ {env:Env}{x:String}{G:Prop} (h:bC env.scope.names x=true) (k:varK env.scope.names x=true→aT x=true→(env.kindOf (Str.ofString x)=some .local∨env.kindOf (Str.ofString x)=some .cell)→G):G:=aD (bnd h) k
theorem x9 {h0:Heap}{P Z:Addr→Prop}{A:Around}{env:Env}{σ:St}{vals:String→Option Value}{fp:String→List Addr}{s s':Shared}{ns:List String}{r:V × Mode}{v:Value} (K:SOK fns k h0 P Z A env s.heap σ vals fp) (E:EP (Own σ fp ns) s r v s') :
    lp h0 P r v s':=by
 obtain ⟨kp,as,rv,ha,ht,hd⟩:=E
 have nh:∀ a,s.heap.get? a=none→h0.get? a=none:=fun a e=>by
    cases q:h0.get? a with
    | none=>rfl
    | some o=>obtain ⟨_,e'⟩:=Mine.K.there K.kp0 q; rw [e'] at e; exact nM e
 exact (ba as rv (fun a h=>(ha a h).elim (fun q=>(K.own q).2.2) fun q=>.inr (nh a q)) (fun q=>az (ht q) fun a bs h1 h2 h3=>(aS a bs h1 (nh a h2) h3)) (fun q=>⟨fun a h=>nh a ((hd q).1 a h),(hd q).2⟩))
theorem gD {σ₁ σ':St}{fl:Flw}{l:List String}{h0:Heap}{P Z:Addr→Prop}{A:Around}{env:Env}{σ:St}{vals:String→Option Value}{fp:String→List Addr}{s:Shared}{Q:Flow→Shared→Prop} (he:(Out.ok (σ₁,Flw.next):Out (St × Flw)) = .ok (σ',fl))
    (hN:fl = .next→∀ s' vals' fp',Stp Z s s'→SOK fns k h0 P Z A env s'.heap σ' vals' fp'→Frm Z l σ vals fp σ' vals' fp'→Q .next s'):∀ s' vals' fp',Stp Z s s'→SOK fns k h0 P Z A env s'.heap σ₁ vals' fp'→Frm Z l σ vals fp σ₁ vals' fp'→Q .next s':=by
 cases he
 exact hN rfl
theorem Dk {σ₁ σ':St}{fl:Flw}{r:V × Mode}{N:V × Mode→Prop} (he:(Out.ok (σ₁,Flw.ret r):Out (St × Flw)) = .ok (σ',fl)) (hN:∀ r,fl = .ret r→N r):N r:=by
 cases he
 exact hN r rfl
theorem oL {e:E} (S:SimE fns k C XP e):cM fns k C (.ret e):=by
 intro stmt h0 P Z A env σ vals fp s Q Er σ' fl ok K he hN hR
 replace ok:=tr ok
 revert ok; refine fun F8=>Or.elim F8 (fun F3=>?_) (fun ok=>?_)
 ·  clear F8
    refine au (F3) fun GD GL Hc ok=>?_
    clear F3
    subst Hc
    simp only [iY] at he
    refine Out.bind_k he fun r hr he=>?_
    exact wpAny_Return_some (K.eval S ok hr fun v s' E=>Dk he hR v s' E.keeps.stp (x9 K E))
 ·  cases ok
theorem qj {c:String}:cM fns k C (.raise c):=by
 intro stmt h0 P Z A env σ vals fp s Q Er σ' fl ok K he hN hR
 exfalso
 simp only [eu] at he
 refine aV he fun uu uu he=>?_
 split at he <;> cases he
set_option tactic.hygienic true in
theorem rS {x:String}:cM fns k C (.retn x):=by
 intro stmt h0 P Z A env σ vals fp s Q Er σ' fl ok K he hN hR
 replace ok:=yB ok
 revert ok; refine fun Gb=>Or.elim Gb (fun F7=>?_) (fun ok=>?_)
 ·  clear Gb
    refine bh (F7) fun GX Hk GV HE ok=>?_
    clear F7
    subst HE
    simp only [Bool.and_eq_true,beq_iff_eq] at ok
    refine ae (ok) fun F4 hb=>?_
    try clear ok
    subst F4
    refine hJ hb fun h1 h2 h3=>?_
    simp only [jH] at he
    split at he
    · rename_i r hr
      cases he
      refine ae (K.val x r hr) fun uu Go=>?_
      refine aq (Go) fun v hv hrv hd=>?_
      try clear Go
      have nh:∀ a,¬ Z a→h0.get? a=none:=fun a e=>by
        cases q:h0.get? a with
        | none=>rfl
        | some o=>exact absurd (K.z0 a o q) e
      refine wpAny_Return_some (cR K.eok.kind h2 (K.loc.var K.eok hv) (hR r rfl v s (.refl Z s) (ba (fp x) hrv (fun a h=>(hd a h).2) (fun q=>?_) (fun q=>?_))))
      · refine aZ (K.top x r hr q) fun a bs e1 e2 e3 _=>?_
        exact (aS a bs e1 (nh a e2) e3)
      · refine ae (K.deep x r hr q) fun e1 e2=>?_
        exact ⟨fun a h=>nh a (e1 a h).1,e2⟩
    · exact nB he
 ·  cases ok
theorem uU {c:E}{a b:Ss} (T:SimT fns k C XP c) (Sa:ej fns k C a) (Sb:ej fns k C b):cM fns k C (.ite c a b):=by
 intro stmt h0 P Z A env σ vals fp s Q Er σ' fl ok K he hN hR
 replace ok:=th ok
 revert ok; refine fun Gf=>Or.elim Gf (fun Gc=>?_) (fun ok=>?_)
 ·  clear Gf
    refine cz (Gc) fun He GZ G9 Hz Hi ok=>?_
    clear Gc
    subst Hi
    simp only [Bool.and_eq_true] at ok
    simp only [gd] at he
    refine Out.bind_k he fun r hr he=>?_
    refine Out.bind_k he fun t ht he=>?_
    refine wpAny_If (K.evalT T ok.1.1 (b:=t) (by rw [hr]; exact ht) fun s₁ kp=>?_)
    have K₁:=K.onK kp.k
    cases t with
    | true=>
      rw [if_pos rfl] at he ⊢
      exact Sa ok.1.2 K₁ he (fun e s' vals' fp' st K' F=>hN e s' vals' fp' (kp.stp.trans st) K' (F.more fun y hy=>List.mem_append_left _ hy)) fun r e v s' st R=>hR r e v s' (kp.stp.trans st) R
    | false=>
      simp only [Bool.false_eq_true,if_false] at he ⊢
      exact Sb ok.2 K₁ he (fun e s' vals' fp' st K' F=>hN e s' vals' fp' (kp.stp.trans st) K' (F.more fun y hy=>List.mem_append_right _ hy)) fun r e v s' st R=>hR r e v s' (kp.stp.trans st) R
 ·  cases ok
theorem sq:ej fns k C .nil:=by
 intro stmts h0 P Z A env σ vals fp s Q Er σ' fl ok K he hN hR
 replace ok:=Ad ok
 revert ok; refine fun Gp=>Or.elim Gp (fun Ge=>?_) (fun ok=>?_)
 ·  clear Gp
    refine ae (Ge) fun HA ok=>?_
    clear Ge
    subst HA
    simp only [da] at he
    cases he
    exact wpAny_execs_nil (hN rfl s vals fp (.refl Z s) K (.id fun z q h=>⟨q,h⟩))
 ·  cases ok
theorem qG {st:S}{r:Ss} (S:cM fns k C st) (T:ej fns k C r):ej fns k C (.cons st r):=by
 intro stmts h0 P Z A env σ vals fp s Q Er σ' fl ok K he hN hR
 replace ok:=pE ok
 revert ok; refine fun Gm=>Or.elim Gm (fun Gg=>?_) (fun ok=>?_)
 ·  clear Gm
    refine au (Gg) fun HG HL Hf ok=>?_
    clear Gg
    subst Hf
    simp only [Bool.and_eq_true] at ok
    simp only [bP] at he
    refine Out.bind_k he fun F5 h1 he=>?_
    obtain ⟨σ₁,fl₁⟩:=F5
    dsimp only at he
    refine wpAny_execs_cons (S ok.1 K h1 (fun e s' vals' fp' st K' F=>?_) fun q e v s' st R=>?_)
    · (clear h1; subst e)
      dsimp only at he ⊢
      exact T ok.2 K' he (fun e s'' vals'' fp'' st' K'' F'=>hN e s'' vals'' fp'' (st.trans st') K'' (F.trans F')) fun r e v s'' st' R=>hR r e v s'' (st.trans st') R
    · (clear h1; subst e)
      cases he
      exact hR q rfl v s' st R
 ·  cases ok
theorem r4 {e:E} (S:SimE fns k C XP e):cM fns k C (.expr e):=by
 intro stmt h0 P Z A env σ vals fp s Q Er σ' fl ok K he hN hR
 replace ok:=lc ok
 revert ok; refine fun GO=>Or.elim GO (fun Gz=>?_) (fun ok=>?_)
 ·  clear GO
    refine i0 (Gz) fun HY IF Jd Iq HT HO ok=>?_
    clear Gz
    subst HO
    simp only [dT] at he
    refine Out.bind_k he fun r hr he=>?_
    replace hN:=gD he hN
    clear he hR
    have hi:interactive env=false:=by unfold interactive; rw [K.eok.kind]; rfl
    exact wpAny_Expr_any (K.eval S ok hr fun v s' E=>hN s' vals fp E.keeps.stp ((K.onK E.keeps.k).consume _ _) (.id fun z q h=>cU h)) hi
 ·  cases ok
theorem SOK.same {h0:Heap}{P Z:Addr→Prop}{A:Around}{env:Env}{h h':Heap}{σ:St}{vals:String→Option Value}{fp:String→List Addr}{D:Addr}{m:Str→Option Value} (K:SOK fns k h0 P Z A env h σ vals fp) (hm:h.Ns D m) (hZ:¬ Z D) (hL:D≠env.locals) (hf:∀ y q,σ y=some q→D∉fp y)
    (hs:Heap.SameBut D h h'):SOK fns k h0 P Z A env h' σ vals fp:=by
 have kz:∀ b o,Z b→h.get? b=some o→h'.get? b=some o:=fun b o hb e=>hs.extBut b o (fun q=>hZ (q▸hb)) e
 have hm':=hm
 refine aL (hm') fun o es ep ho hd _=>?_
 try clear hm'
 refine ⟨K.room,K.eok,K.ge,K.z0,Mine.K.same K.kp0 hs (K.h0n hZ) (fun o' e=>by rw [ho] at e; (have oc:=Option.some.inj e; clear e; subst oc); exact Stay.not_dict hd),K.code,K.out,fun b hb=>aj (K.zdom b hb) fun o e=>⟨o,kz b o hb e⟩,K.loc.offA ho (fun v q=>by rw [hd] at q; cases q) hL hs,fun y q hq=>?_,K.top,K.deep⟩
 refine ae (K.val y q hq) fun h1 Gu=>?_
 refine aq (Gu) fun u h2 h3 h4=>?_
 try clear Gu
 exact (aF h1 (ax u h2 (h3.spot (env:={ env with locals:=D }) (.inl (aF rfl (bJ m hm))) (fun ⟨u,o,e,q⟩=>by obtain ⟨o',es,ep,e',q',_⟩:=hm; rw [e] at e'; (have oc:=Option.some.inj e'; clear e'; subst oc); rw [q] at q'; cases q') (fun a ha (e:a=D)=>hf y q hq (e▸ha)) hs) h4))
end
end Mine
namespace Mine
open PySem PyProof.Rows
noncomputable def TrAt (N:Addr→Prop) (h:Heap) (e:Addr) (vs:Array Value) (fl:Value):Prop :=
 ∃ T oT ts,vs[1]? = some (.ref T)∧¬ N T∧T≠e∧h.get? T=some oT∧oT.cls = .type "traceback" ∧ oT.data = .fields ts∧ts[3]? = some fl
noncomputable def Ex0 (N:Addr→Prop) (h:Heap) (c:String) (e:Addr) (vs:Array Value):Prop:=¬ N e∧c∈SF.excN∧∃ oe,h.get? e=some oe∧oe.cls = .ref (SF.exc c)∧oe.data = .fields vs
noncomputable def Exc (N:Addr→Prop) (h:Heap) (c:String) (L:Addr) (x:Value):Prop:=∃ e vs,x = .ref e∧Ex0 N h c e vs∧(vs[1]? = some .none∨∃ fl,(fl = .none∨fl=rawInt L)∧TrAt N h e vs fl)
noncomputable def FlyA (N:Addr→Prop) (h:Heap) (c:String) (fl:Value) (x:Value):Prop:=∃ e vs,x = .ref e∧Ex0 N h c e vs∧TrAt N h e vs fl
noncomputable def Fly (N:Addr→Prop) (h:Heap) (c:String) (x:Value):Prop:=FlyA N h c .none x
theorem Fly.exc {N:Addr→Prop}{h:Heap}{c:String}{L:Addr}{x:Value} (f:Fly N h c x):Exc N h c L x:=az (f) fun e vs h1 h2 h3=>(aS e vs h1 h2 (.inr (ah _ (.inl rfl) h3)))
theorem FlyA.exc {N:Addr→Prop}{h:Heap}{c:String}{L:Addr}{x:Value} (f:FlyA N h c (rawInt L) x):Exc N h c L x:=az (f) fun e vs h1 h2 h3=>(aS e vs h1 h2 (.inr (ah _ (.inr rfl) h3)))
theorem TrAt.old {N N':Addr→Prop}{h:Heap}{e:Addr}{vs:Array Value}{fl:Value} (t:TrAt N h e vs fl) (hn:∀ b,N' b→N b):TrAt N' h e vs fl:=aL (t) fun T oT ts a b r=>(ce T oT ts a (fun q=>b (hn _ q)) r)
theorem FlyA.old {N N':Addr→Prop}{h:Heap}{c:String}{fl x:Value} (f:FlyA N h c fl x) (hn:∀ b,N' b→N b):FlyA N' h c fl x:=az (f) fun e vs h1 h2 h3=>(aS e vs h1 ⟨fun q=>h2.1 (hn _ q),h2.2⟩ (h3.old hn))
theorem Exc.old {N N':Addr→Prop}{h:Heap}{c:String}{L:Addr}{x:Value} (f:Exc N h c L x) (hn:∀ b,N' b→N b):Exc N' h c L x:=az (f) fun e vs h1 h2 h3=>(aS e vs h1 ⟨fun q=>h2.1 (hn _ q),h2.2⟩ (h3.imp id fun ⟨fl,q,t⟩=>(ah fl q (t.old hn))))
noncomputable def Chg (N:Addr→Prop) (h h':Heap):Prop:=∀ b o,h.get? b=some o→h'.get? b=some o∨(∃ es ep,¬ SF.old b∧o.cls = .type "frame" ∧ o.data = .dict es ep∧∃ sl,h'.get? b=some { o with slots:=sl })∨(¬ N b∧¬ Stay o∧∃ fs,o.data = .fields fs)
theorem Chg.kg {N:Addr→Prop}{h h':Heap} (c:Chg N h h'):KG N h h':=fun b o hb e=>by
 rcases c b o e with q | ⟨es,ep,h1,h2,h3,sl,h4⟩ | ⟨h1,h2,_⟩
 ·  exact (ah o q (.same rfl))
 ·  exact (ah _ h4 (.frame es ep h1 h2 h3 rfl rfl rfl))
 ·  exact absurd hb (fun q=>q.elim h1 h2)
theorem Chg.frames {N:Addr→Prop}{h h':Heap}{l:List Env} (c:Chg N h h') (x:FrOk h l):FrOk h' l:=fun env he=>by
 obtain ⟨h0,L,o,es,ep,h1,h2,h3,h4,h5⟩:=x env he
 rcases c L o h3 with q | ⟨_,_,_,_,_,sl,q⟩ | ⟨_,_,fs,q⟩
 ·  exact (aF h0 (jd L o es ep h1 h2 q h4 h5))
 ·  exact (aF h0 (jd L _ es ep h1 h2 q h4 h5))
 ·  rw [h5] at q; cases q
noncomputable def noH (h:Heap):Heap:={ h with objs:=#[] }
theorem yw (h:Heap) (b:Addr):(noH h).get? b=none:=rfl
theorem FrOk.fun {h:Heap}:∀ {l:List Env},FrOk h l→h.FunFrames (noH h) l
 | [],_=>trivial
 | env :: l,x=>by
    obtain ⟨f0,L,o,es,ep,f1,f2,f3,f4,f5⟩:=x env (.head _)
    exact ⟨by rw [f0]; decide,(aU L o f1 (yw h L) f3 (fun ws q=>by rw [f5] at q; cases q)),FrOk.fun fun y hy=>x y (.tail _ hy)⟩
section
variable {M:Model}{A:Around}{E:Value→Shared→Prop}{env:Env}{l:List Env}{h:Heap}{g:Array GenState}{dr:Drawn}{tk:Nat}{os:OsState}{c:String}{x:Value}{Q:Unit→Shared→Prop}{N:Addr→Prop}{L:Addr}
theorem wM {e:Addr}{vs:Array Value}{head:Value}{hadNext:Bool} (hN:∀ b,N b→∃ o,h.get? b=some o) (hfr:A.frames=some (env :: l)) (hF:FrOk h (env :: l)) (hf:env.frame=some L) (he:Ex0 N h c e vs) (hsz:1<vs.size)
    (hQ:∀ h',FlyA N h' c (rawInt L) (.ref e)→Chg N h h'→Q () ⟨h',g,dr,tk,os⟩) :
    wpAny M A (do let a ← frameOf env; let pl ← entryPlaceOf L hadNext; let b ← EntryCells.newEntry head a .none (rawInt L) .none pl; setField (.ref e) 1 b) Q E ⟨h,g,dr,tk,os⟩:=by
 refine aD (he) fun ne cn Gn=>?_
 try clear he
 refine aq (Gn) fun oe ee hc hd=>?_
 try clear Gn
 have hl:=hF.fun
 have notf:∀ b o fs,h.get? b=some o→o.data = .fields fs→b∉(env :: l).filterMap (·.frame):=fun b o fs eb hb hm=>by
    refine ae (hl.mem hm) fun uu Gu=>?_
    refine ag (Gu) fun o' e' hnf=>?_
    try clear Gu
    rw [eb] at e'; (have oc:=Option.some.inj e'; clear e'; subst oc)
    exact hnf fs hb
 refine wpAny_bind (wpAny_frameOf_fun (s:=⟨h,g,dr,tk,os⟩) hfr hl hf fun h₁ hs₁=>?_)
 refine wpAny_bind (wpAny_entryPlaceOf fun pl hpl=>?_)
 unfold EntryCells.newEntry newFields
 refine wpAny_bind (wpAny_newObj_type ?_ (hpl.sizeOk5 _ _ _ _ _))
 generalize hts:([head,.ref L,.none,rawInt L,.none] ++ (if pl.isEmpty then List.replicate 6 Value.none else pl)).toArray=ts
 have h3:ts[3]? = some (rawInt L):=by rw [← hts]; simp
 have e₁:h₁.get? e=some oe:=(hs₁.2.1 e (notf e oe vs ee hd)).trans ee
 have e₂:=Heap.get?_push_of_some (h:=h₁) { cls:=.type "traceback", dict:=none,data:=.fields ts } e₁
 have hTe:h₁.objs.size≠e:=Nat.ne_of_gt (Heap.lt_size e₁)
 have hTN:¬ N h₁.objs.size:=fun q=>by
    refine aj (hN _ q) fun o eo=>?_
    have:=Heap.lt_size eo
    rw [hs₁.1] at this
    exact Nat.lt_irrefl _ this
 have hd₃:=Obj.data_mapFields hd (·.setIfInBounds 1 (Value.ref h₁.objs.size))
 refine wpAny_setField e₂ hd hsz (hQ _ (aS e _ rfl (bW ne cn (ax _ (Heap.get?_update_self _ e₂ (Obj.isFreed_of_fields hd₃)) ((Obj.cls_mapFields _ _).trans hc) hd₃)) (jW h₁.objs.size _ ts (by simp [hsz]) hTN hTe ((Heap.get?_update_other _ _ (Ne.symm hTe)).trans (Heap.get?_push_size h₁ rfl)) rfl rfl h3)) fun b o eb=>?_)
 by_cases hbe:b=e
 ·  (clear e₁ e₂ hQ hTe; subst hbe)
    rw [ee] at eb; (have oc:=Option.some.inj eb; clear eb; subst oc)
    exact .inr (.inr (bW ne (Stay.not_cls (by rw [hc]; simp) (by rw [hc]; simp)) (bJ vs hd)))
 ·  have keep:∀ o',h₁.get? b=some o'→((h₁.push { cls:=.type "traceback", dict:=none,data:=.fields ts }).update e (Obj.mapFields (·.setIfInBounds 1 (Value.ref h₁.objs.size)))).get? b=some o':=fun o' e'=>by
      rw [Heap.get?_update_other _ _ (Ne.symm hbe)]
      exact Heap.get?_push_of_some _ e'
    by_cases hm:b∈(env :: l).filterMap (·.frame)
    · refine ag (List.mem_filterMap.mp hm) fun env' he' hb'=>?_
      obtain ⟨_,L',o',es,ep,f1,f2,f3,f4,f5⟩:=hF env' he'
      rw [hb'] at f1; (have oc:=Option.some.inj f1; clear f1; subst oc)
      rw [eb] at f3; (have oc:=Option.some.inj f3; clear f3; subst oc)
      refine aj (hs₁.2.2 b o eb) fun sl e'=>?_
      exact .inr (.inl (aU es ep f2 f4 f5 (bJ sl (keep _ e'))))
    · exact .inl (keep o ((hs₁.2.1 b hm).trans eb))
theorem Chg.upd {T:Addr}{oT:Obj}{ts:Array Value}{v:Value} (ht:h.get? T=some oT) (hc:oT.cls = .type "traceback") (hd:oT.data = .fields ts) (hn:¬ N T):Chg N h (h.update T (Obj.mapFields (·.setIfInBounds 3 v))):=fun b o eb=>by
 by_cases hb:b=T
 ·  subst hb
    rw [ht] at eb; (have oc:=Option.some.inj eb; clear eb; subst oc)
    exact .inr (.inr (bW hn (Stay.not_cls (by rw [hc]; simp) (by rw [hc]; simp)) (bJ ts hd)))
 ·  exact .inl ((Heap.get?_update_other _ _ (Ne.symm hb)).trans eb)
theorem vg (hN:∀ b,N b→∃ o,h.get? b=some o) (hfr:A.frames=some (env :: l)) (hF:FrOk h (env :: l)) (hf:env.frame=some L) (hx:Exc N h c L x)
    (hQ:∀ h',FlyA N h' c (rawInt L) x→KG N h h'→FrOk h' (env :: l)→Q () ⟨h',g,dr,tk,os⟩):wpAny M A (noteFrame x env) Q E ⟨h,g,dr,tk,os⟩:=by
 refine az (hx) fun e vs FW h0 hv=>?_
 try clear hx
 subst FW
 refine aD (h0) fun ne cn GC=>?_
 try clear h0
 refine aq (GC) fun oe ee hc hd=>?_
 try clear GC
 unfold noteFrame
 simp only [hf]
 rcases hv with hv | ⟨fl,hfl,T,oT,ts,h1,hTN,hTe,hT,hTc,hTd,h3⟩
 ·  refine wpAny_bind (wpAny_field ee hd hv ?_)
    rw [if_neg (by decide)]
    exact wM hN hfr hF hf (bW ne cn (ax oe ee hc hd)) (Array.getElem?_eq_some_iff.mp hv).1 fun h' f k=>hQ h' f k.kg (k.frames hF)
 ·  refine wpAny_bind (wpAny_field ee hd h1 ?_)
    rw [if_pos (show (Value.ref T != Value.none)=true from by simp)]
    refine wpAny_bind (wpAny_field hT hTd h3 ?_)
    rcases hfl with rfl | rfl
    · rw [if_neg (show ¬ ((Value.none == rawInt L)=true) from by simp [rawInt])]
      refine wpAny_bind (wpAny_setField hT hTd (Array.getElem?_eq_some_iff.mp h3).1 ?_)
      have ch:Chg N h (h.update T (Obj.mapFields (·.setIfInBounds 3 Value.none))):=Chg.upd hT hTc hTd hTN
      refine wM (fun b hb=>?_) hfr (ch.frames hF) hf (bW ne cn (ax oe ((Heap.get?_update_other _ _ hTe).trans ee) hc hd)) (Array.getElem?_eq_some_iff.mp h1).1 fun h' f k=>hQ h' f (ch.kg.trans k.kg) (k.frames (ch.frames hF))
      refine aj (hN b hb) fun o e=>?_
      exact ⟨o,(Heap.get?_update_other _ _ (show T≠b from fun q=>hTN (by rw [q]; exact hb))).trans e⟩
    · rw [if_pos (show (rawInt L == rawInt L)=true from by simp)]
      exact wpAny_pure (hQ h (aS e vs rfl (bW ne cn (ax oe ee hc hd)) (jW T oT ts h1 hTN hTe hT hTc hTd h3)) .refl hF)
theorem j6 {fl:Value}{fr:Option Addr} (hF:FrOk h l) (hx:FlyA N h c fl x) (hQ:∀ h',FlyA N h' c (fr.elim .none fun f=>rawInt f) x→KG N h h'→FrOk h' l→Q () ⟨h',g,dr,tk,os⟩):wpAny M A (setFlight x fr) Q E ⟨h,g,dr,tk,os⟩:=by
 obtain ⟨e,vs,FX,FY,T,oT,ts,h1,hTN,hTe,hT,hTc,hTd,h3⟩:=hx
 subst FX
 refine aD (FY) fun ne cn GQ=>?_
 try clear FY
 refine aq (GQ) fun oe ee hc hd=>?_
 try clear GQ
 unfold setFlight
 refine wpAny_bind (wpAny_field ee hd h1 ?_)
 rw [if_pos (show (Value.ref T != Value.none)=true from by simp)]
 have hsz:=(Array.getElem?_eq_some_iff.mp h3).1
 have ch:Chg N h (h.update T (Obj.mapFields (·.setIfInBounds 3 (fr.elim .none fun f=>rawInt f)))):=Chg.upd hT hTc hTd hTN
 exact wpAny_setField hT hTd hsz (hQ _ (aS e vs rfl (bW ne cn (ax oe ((Heap.get?_update_other _ _ hTe).trans ee) hc hd)) (jW T _ _ h1 hTN hTe (Heap.get?_update_self _ hT (Obj.isFreed_of_fields (Obj.data_mapFields hTd _))) ((Obj.cls_mapFields _ _).trans hTc) (Obj.data_mapFields hTd _) (by simp [hsz]))) ch.kg (ch.frames hF))
theorem Bm (hN:∀ b,N b→∃ o,h.get? b=some o) (hfr:A.frames=some (env :: l)) (hF:FrOk h (env :: l)) (hf:env.frame=some L) (hx:Exc N h c L x)
    (hQ:∀ h',Fly N h' c x→KG N h h'→Q () ⟨h',g,dr,tk,os⟩):wpAny M A (leaving env x) Q E ⟨h,g,dr,tk,os⟩:=by
 unfold leaving
 exact wpAny_bind (vg hN hfr hF hf hx fun h₁ f₁ k₁ F₁=>j6 F₁ f₁ fun h₂ f₂ k₂ _=>hQ h₂ f₂ (k₁.trans k₂))
theorem CA {E':Value→Shared→Prop} (hN:∀ b,N b→∃ o,h.get? b=some o) (hfr:A.frames=some (env :: l)) (hF:FrOk h (env :: l)) (hf:env.frame=some L) (hx:Exc N h c L x)
    (hQ:∀ h',Exc N h' c L x→KG N h h'→FrOk h' (env :: l)→E' x ⟨h',g,dr,tk,os⟩):notedBy (model prog w) A env (cameBackBy (model prog w) A env E') x ⟨h,g,dr,tk,os⟩:=by
 refine vg hN hfr hF hf hx fun h₁ f₁ k₁ F₁=>?_
 refine az (f₁) fun e vs FZ F0 GS=>?_
 try clear f₁
 refine bh (GS) fun T oT ts h1 hTr=>?_
 try clear GS
 (clear hx; subst FZ)
 refine aD (F0) fun ne cn Hq=>?_
 try clear F0
 refine aq (Hq) fun oe ee hc hd=>?_
 try clear Hq
 refine wpAny_bind (wpAny_field ee hd h1 ?_)
 rw [if_neg (show ¬ (Value.ref T == Value.none)=true from by simp),hf]
 exact j6 F₁ (aS e vs rfl (bW ne cn (ax oe ee hc hd)) (bT T oT ts h1 hTr)) fun h₂ f₂ k₂ F₂=>hQ h₂ f₂.exc (k₁.trans k₂) F₂
end
noncomputable def dom (h:Heap) (b:Addr):Prop:=∃ o,h.get? b=some o
noncomputable def XPc (c:String) (s:Shared) (x:Value) (s':Shared):Prop:=Kp s s'∧Fly (dom s.heap) s'.heap c x
theorem XPc.of {c:String}{s s₁:Shared}{x:Value}{s':Shared} (k:Kp s s₁) (h:XPc c s₁ x s'):XPc c s x s':=⟨k.trans h.1,h.2.old fun uu ⟨_,e⟩=>ag (k.k _ _ (.inl trivial) e) fun o' e' uu=>⟨o',e'⟩⟩
theorem bB:∀ (c:String) (s s₁:Shared) (x:Value) (s':Shared),Kp s s₁→XPc c s₁ x s'→XPc c s x s':=fun uu uu uu uu uu k h=>.of k h
noncomputable def Lv (A:Around) (env:Env) (h:Heap):Prop:=∃ l,A.frames=some (env :: l)∧FrOk h (env :: l)∧env.frame=some env.locals
section
variable (fns:Fns) (k:Nat) (C:Calls)
noncomputable def cQ (st:S):Prop:=∀ {stmt:Stmt}{h0:Heap}{P Z:Addr→Prop}{A:Around}{env:Env}{σ:St}{vals:String→Option Value}{fp:String→List Addr}{s:Shared}{Q:Flow→Shared→Prop}{Er:Value→Shared→Prop}{c:String},
 okS env.scope.names st stmt=true→SOK fns k h0 P Z A env s.heap σ vals fp→ex C st σ = .exc c→(∀ x s',Stp Z s s'→Lv A env s'.heap→Exc Z s'.heap c env.locals x→Er x s')→wpAny (model prog w) A (exec stmt env) Q Er s
noncomputable def el (st:Ss):Prop:=∀ {stmts:List Stmt}{h0:Heap}{P Z:Addr→Prop}{A:Around}{env:Env}{σ:St}{vals:String→Option Value}{fp:String→List Addr}{s:Shared}{Q:Flow→Shared→Prop}{Er:Value→Shared→Prop}{c:String},
 cE env.scope.names st stmts=true→SOK fns k h0 P Z A env s.heap σ vals fp→exs C st σ = .exc c→(∀ x s',Stp Z s s'→Lv A env s'.heap→Exc Z s'.heap c env.locals x→Er x s')→wpAny (model prog w) A (execs stmts env) Q Er s
end
end Mine
namespace Mine
open PySem PyProof.Rows
section
variable {fns:Fns}{k:Nat}{C:Calls}{XP:String→Shared→Value→Shared→Prop}
noncomputable def tv:Expr→Bool
 | .ListComp .. | .SetComp .. | .DictComp ..=>false
 | _=>true
theorem fX {v:Expr} (h:tv v=true) (t:Option Expr) (l:Nat) (env:Env):swapsWith v t l env=pure false:=by
 cases v <;> first | rfl | exact nF h
theorem kW {e:Expr}{gs:List Comprehension}{sc:Scope}{p:Pos}{t:Str}{q:Pos}{l:Nat}{env:Env}:swapsWith (.ListComp e gs sc p) (some (.Name t q)) l env=pure true∨swapsWith (.ListComp e gs sc p) (some (.Name t q)) l env=pure false:=by
 have e1:swapsWith (.ListComp e gs sc p) (some (.Name t q)) l env=pure (env.blockKind == .function && env.kindOf t == some .local && q.line == (Expr.ListComp e gs sc p).pos.line && !(sc.names.any fun (n,k)=>n == t && (k == .local || k == .cell))):=rfl
 rw [e1]
 generalize (env.blockKind == .function && env.kindOf t == some .local && q.line == (Expr.ListComp e gs sc p).pos.line && !(sc.names.any fun (n,k)=>n == t && (k == .local || k == .cell)))=b
 cases b
 ·  exact .inr rfl
 ·  exact .inl rfl
theorem iO {ns:List (Str × NameKind)}{e:E}{ex:Expr} (hp:gq e=false) (h:okE ns e ex=true):tv ex=true:=by
 cases ex with
 | ListComp _ _ _ _=>
    cases e with
    | comp _ _ _=>exact nT hp
    | compif _ _ _ _=>exact nT hp
    | _=>exact Bool.noConfusion (show false=true from h)
 | _=>first | rfl | (cases e <;> exact Bool.noConfusion (show false=true from h))
theorem kG {x t:String}{px pt:Pos}{elt iter:Expr}{ifs:List Expr}{sc:Scope}{pos spos:Pos}{A:Around}{env:Env}{σ:St}{P:Addr→Prop}{s:Shared}{Q:Flow→Shared→Prop}{Er:Value→Shared→Prop}{h:Heap}
    (hsc:f7 env.scope.names sc x=true) (X:Cx fns k A P h env σ) (hset:∀ v,foldedSetIterable iter env v=pure v) (hsw:swapsWith (.ListComp elt [⟨.Name (Str.ofString x) px,iter,ifs,0⟩] sc pos) (some (.Name (Str.ofString t) pt)) spos.line env=pure true)
    (h:∀ cl:List (Str × Addr),(∀ n,(n,NameKind.free)∈sc.names→cl.lookup n=env.cells.lookup n)→wpAny (model prog w) A (eval iter env) (fun v s₁=>wpAny (model prog w) A (pyIter v) (fun i s₂=>wpAny (model prog w) A (newObj (.type "list") (.seq #[]) none) (fun acc s₃=>
      wpAny (model prog w) A (newFunctionEnv sc env.globals cl [] env.qual none .none (some env)) (fun cenv s₄=>
        codeAny (model prog w) A (.compStart (.ListComp elt [⟨.Name (Str.ofString x) px,iter,ifs,0⟩] sc pos) 0 i acc { cenv with scope:=relabel sc env }) (compPost (model prog w) A Er (some (assign (.Name (Str.ofString t) pt) env)) (fun uu s'=>Q .next s') acc cenv.locals) s₄) Er s₃) Er s₂) Er s₁) Er s) :
    wpAny (model prog w) A (exec (.Assign [.Name (Str.ofString t) pt] (.ListComp elt [⟨.Name (Str.ofString x) px,iter,ifs,0⟩] sc pos) spos) env) Q Er s:=by
 refine cJ (gS hsc) fun hk hnd htg hnames=>?_
 obtain ⟨cl,hcl,hclk⟩:=kP (scope:=sc) (env:=env) (fun p hp e=>by
    rcases hnames p hp with h | h | h | h
    · rw [h.1] at e; cases e
    · rw [h] at e; cases e
    · rw [h.1] at e; cases e
    · exact X.eok.cells p.1 h.2)
 rw [exec_Assign_Name_used _ _ _ _ hsw]
 refine wpAny_bind (wpAny_standAt (wpAny_bind ?_))
 show wpAny _ A (do let _ ← comprehension (.ListComp elt [⟨.Name (Str.ofString x) px,iter,ifs,0⟩] sc pos) sc env _ (newList []) false (eval iter env) (some (assign (.Name (Str.ofString t) pt) env))) _ _ s
 exact wpAny_bind (wpAny_mono (wpAny_comprehension_free (use:=some (assign (.Name (Str.ofString t) pt) env)) (Q:=fun uu s'=>Q .next s') rfl hset hcl hk (fun y hy e=>by rw [← e]; exact ig hnd hy) (h cl hclk)) (fun uu s' hq=>wpAny_pure (wpAny_pure hq)) fun uu uu e=>e)
theorem ot {h0:Heap}{P Z:Addr→Prop}{A:Around}{env:Env}{σ:St}{vals:String→Option Value}{fp:String→List Addr}{s s₂:Shared}{Q:Flow→Shared→Prop}{Er:Value→Shared→Prop}{x:String}{px:Pos}{ns:List String}{d:PyData}{md:Mode}{v:Value}{h:Heap}{tk:Nat}{D:Addr}{m:Str→Option Value}
    (K:SOK fns k h0 P Z A env s.heap σ vals fp) (hb:bC env.scope.names x=true) (E:EP (Own σ fp ns) s (.d d,md) v { s₂ with heap:=h,toks:=tk }) (hm:h.Ns D m) (hD:s.heap.get? D=none)
    (hN:∀ s' vals' fp',Stp Z s s'→SOK fns k h0 P Z A env s'.heap (upd (consume σ ns md) x (.d d,md)) vals' fp'→Frm Z [x] σ vals fp (upd (consume σ ns md) x (.d d,md)) vals' fp'→Q .next s') :
    compPost (model prog w) A Er (some (assign (.Name (Str.ofString x) px) env)) (fun uu s'=>Q .next s') v D (.ok .next) { s₂ with heap:=h,toks:=tk }:=by
 refine hJ hb fun h1 h2 h3=>?_
 show wpAny _ A (assign (.Name (Str.ofString x) px) env v) _ _ _
 refine wpAny_assign_Name (K.put_ep h1 h3 E fun s' as rv st kk K' F=>?_)
 have dL:D≠env.locals:=fun q=>by
    refine ag (K.loc.ns) fun m' FW _=>?_
    refine bh (FW) fun o _ _ e _=>?_
    try clear FW
    rw [← q] at e
    rw [hD] at e; exact nN e
 have hmo:=hm
 refine aL (hmo) fun o es ep ho hd hr=>?_
 try clear hmo
 have ho':=kk D o dL (fun u q=>by rw [hd] at q; cases q) ho
 have hm':s'.heap.Ns D m:=(ce o es ep ho' hd hr)
 refine (ah m hm' (fun h' hs=>hN _ _ _ ?_ (K'.same hm' (fun hz=>?_) dL (fun y q hq hf=>?_) hs) F))
 ·  refine (E.keeps.stp.trans st).same hs (fun hz=>?_) fun o' e=>by rw [ho'] at e; (have oc:=Option.some.inj e; clear e; subst oc); exact Stay.not_dict hd
    refine aj (K.zdom D hz) fun o e=>?_
    rw [hD] at e; exact nN e
 ·  refine aj (K.zdom D hz) fun o e=>?_
    rw [hD] at e; exact nN e
 ·  split at hf
    · refine bi (rv.1.there D hf) fun uu uu e=>?_
      rw [ho] at e; (have oc:=Option.some.inj e; clear e; (clear ho ho'; subst oc)); cases hd
    · rename_i hy
      unfold upd at hq
      rw [if_neg hy] at hq
      have:∃ q',σ y=some q':=by
        unfold consume at hq
        split at hq
        · exact ⟨q,hq⟩
        · obtain ⟨q',hq',_⟩:=bO hq; exact ⟨q',hq'⟩
      refine aj (this) fun q' hq'=>?_
      try clear this
      refine ae (K.val y q' hq') fun uu Gk=>?_
      refine aq (Gk) fun u _ hr _=>?_
      try clear Gk
      refine aj (hr.there D hf) fun o e=>?_
      rw [hD] at e; exact nN e
theorem rg {e:E} (h:gq e=true):(∃ elt y it,e = .comp elt y it)∨∃ elt y it c,e = .compif elt y it c:=by
 cases e with
 | comp elt y it=>exact .inl ⟨_,_,_,rfl⟩
 | compif elt y it c=>exact .inr ⟨_,_,_,_,rfl⟩
 | _=>exact nF h
theorem jo {x:String}{e:E} (S:SimE fns k C XP e) (Sc:(∀ elt y it,e = .comp elt y it→dB fns k C XP it∧SimE fns k C XP elt)∧∀ elt y it c,e = .compif elt y it c→dB fns k C XP it∧SimE fns k C XP elt∧SimT fns k C XP c):cM fns k C (.assign x e):=by
 intro stmt h0 P Z A env σ vals fp s Q Er σ' fl ok K he hN hR
 replace ok:=iu ok
 revert ok; refine fun F8=>Or.elim F8 (fun F3=>?_) (fun ok=>?_)
 ·  clear F8
    refine cz (F3) fun t pt v spos GJ ok=>?_
    clear F3
    subst GJ
    simp only [Bool.and_eq_true,beq_iff_eq] at ok
    refine ae (ok) fun FX oe=>?_
    try clear ok
    refine ae (FX) fun FY hb=>?_
    try clear FX
    subst FY
    refine hJ hb fun h1 h2 h3=>?_
    simp only [cw] at he
    refine Out.bind_k he fun r hr he=>?_
    replace hr:=zE hr
    replace hN:=gD he hN
    clear he hR
    have plain:swapsWith v (some (.Name (Str.ofString x) pt)) spos.line env=pure false→wpAny (model prog w) A (exec (.Assign [.Name (Str.ofString x) pt] v spos) env) Q Er s:=fun hsw=>by
      refine wpAny_Assign_Name (K.eval S oe hr fun u s' E=>?_) hsw
      exact K.put_ep h1 h3 E fun s'' as rv st kk K' F=>hN s'' _ _ (E.keeps.stp.trans st) K' F
    cases hc:gq e with
    | false=>exact plain (fX (iO hc oe) _ _ _)
    | true=>
      refine Or.elim (rg hc) (fun q0=>?_) (fun q0=>?_)
      · refine BZ (q0) fun elt y it e0=>?_
        clear q0
        refine ae (Sc.1 elt y it e0) fun Si Se=>?_
        clear Sc S hc
        subst e0
        replace oe:=sA oe
        revert oe; refine fun Gb=>Or.elim Gb (fun F7=>?_) (fun oe=>?_)
        · clear Gb
          refine mI (F7) fun ee ty py iter sc pos Hi oe=>?_
          clear F7
          subst Hi
          rcases kW (e:=ee) (gs:=[⟨.Name ty py,iter,[],0⟩]) (sc:=sc) (p:=pos) (t:=Str.ofString x) (q:=pt) (l:=spos.line) (env:=env) with hsw | hsw
          · simp only [Bool.and_eq_true,beq_iff_eq] at oe
            revert oe; intro G5
            refine ae (G5) fun FZ oe=>?_
            try clear G5
            refine ae (FZ) fun F0 oi=>?_
            try clear FZ
            refine ae (F0) fun F1 hsc=>?_
            try clear F0
            (clear plain; subst F1)
            have X:=K.cx (fv (.comp elt y it))
            have e1:ev C (.comp elt y it) (b6 σ (fv (.comp elt y it))) = .ok r:=by rw [aC C _ _ σ (bN σ _)]; exact hr
            simp only [gL] at e1
            refine Out.bind_k e1 fun q hq e1=>?_
            refine Out.bind_k e1 fun res hres e1=>?_
            (have oc:=Out.ok.inj e1; clear e1; (clear hr; subst oc))
            refine kG hsc X (lm oi env) hsw fun cl hcl=>Si oi X (by rw [hq]; simp) (fun q' hq' i s₂ I=>?_) fun c hc=>by rw [hq] at hc; cases hc
            rw [hq] at hq'; (have oc:=Out.ok.inj hq'; clear hq'; subst oc)
            obtain ⟨res',hres'⟩:=ei (by rw [hres]; simp:(bw _ q.1).calm≠.bad)
            rw [hres'] at hres; (have oc:=Out.ok.inj hres; clear hres; subst oc)
            refine eN (RR:=fun acc C=>compPost (model prog w) A Er (some (assign (.Name (Str.ofString x) pt) env)) (fun uu s'=>Q .next s') acc C) (ds:=q.1) hsc X hres' (fun d r hf cenv s₃ P' Q₁ Q₂ Er' hNm X' g1 g2=>wpAny_tests_nil ?_) I (fun D C h tk m E hm hC=>ot K hb E hm hC fun s' vals' fp' st K' F=>hN s' vals' fp' st K' F) hcl
            rw [if_pos rfl]
            refine Out.bind_k hf fun z hz e=>?_
            (have oc:=Out.ok.inj e; clear e; (clear g1 hf; subst oc))
            exact Se (hNm▸oe) X' (by rw [hz]; simp) (fun r hr v s' E=>g2 r (by rw [hz] at hr; (have oc:=Out.ok.inj hr; clear hr; (clear E; subst oc)); rfl) v s' E) fun c hc=>by rw [hz] at hc; cases hc
          · exact plain hsw
        · cases oe
      · refine Bz (q0) fun elt y it c e0=>?_
        clear q0
        refine aD (Sc.2 elt y it c e0) fun Si Se Sc'=>?_
        clear Sc S hc
        subst e0
        replace oe:=oH oe
        revert oe; refine fun Gf=>Or.elim Gf (fun Gc=>?_) (fun oe=>?_)
        · clear Gf
          refine jl (Gc) fun ee ty py iter ff sc pos IK oe=>?_
          clear Gc
          subst IK
          rcases kW (e:=ee) (gs:=[⟨.Name ty py,iter,[ff],0⟩]) (sc:=sc) (p:=pos) (t:=Str.ofString x) (q:=pt) (l:=spos.line) (env:=env) with hsw | hsw
          · simp only [Bool.and_eq_true,beq_iff_eq] at oe
            revert oe; intro G6
            refine ae (G6) fun F2 oe=>?_
            try clear G6
            refine ae (F2) fun F4 oc=>?_
            try clear F2
            refine ae (F4) fun F5 oi=>?_
            try clear F4
            refine ae (F5) fun F6 hsc=>?_
            try clear F5
            (clear plain; subst F6)
            have X:=K.cx (fv (.compif elt y it c))
            have e1:ev C (.compif elt y it c) (b6 σ (fv (.compif elt y it c))) = .ok r:=by rw [aC C _ _ σ (bN σ _)]; exact hr
            simp only [eP] at e1
            refine Out.bind_k e1 fun q hq e1=>?_
            refine Out.bind_k e1 fun res hres e1=>?_
            (have oc:=Out.ok.inj e1; clear e1; (clear hr; subst oc))
            refine kG hsc X (lm oi env) hsw fun cl hcl=>Si oi X (by rw [hq]; simp) (fun q' hq' i s₂ I=>?_) fun c hc=>by rw [hq] at hc; cases hc
            rw [hq] at hq'; (have oc:=Out.ok.inj hq'; clear hq'; subst oc)
            obtain ⟨res',hres'⟩:=ei (by rw [hres]; simp:(bw _ q.1).calm≠.bad)
            rw [hres'] at hres; (have oc:=Out.ok.inj hres; clear hres; subst oc)
            refine eN (RR:=fun acc C=>compPost (model prog w) A Er (some (assign (.Name (Str.ofString x) pt) env)) (fun uu s'=>Q .next s') acc C) (ds:=q.1) hsc X hres' (fun d r hf cenv s₃ P' Q₁ Q₂ Er' hNm X' g1 g2=>wpAny_tests_one ?_) I (fun D C h tk m E hm hC=>ot K hb E hm hC fun s' vals' fp' st K' F=>hN s' vals' fp' st K' F) hcl
            refine Out.bind_k hf fun t ht hf=>?_
            refine Out.bind_k hf fun b hb' hf=>?_
            refine Sc' (hNm▸oc) X' (by rw [ht,Out.ok_bind,hb']; simp) (fun b'' hb'' s₄ k₄=>?_) fun c hc=>by rw [ht] at hc; cases hc
            rw [ht,Out.ok_bind,hb'] at hb''
            (have oc:=Out.ok.inj hb''; clear hb''; subst oc)
            cases b with
            | false=>(have oc:=Out.ok.inj hf; clear hf; (clear g2; subst oc)); simpa using g1 rfl s₄ k₄
            | true=>
              rw [if_pos rfl] at hf ⊢
              refine Out.bind_k hf fun z hz e=>?_
              (have oc:=Out.ok.inj e; clear e; (clear g1; subst oc))
              exact Se (hNm▸oe) (X'.k k₄.k) (by rw [hz]; simp) (fun r hr v s' E=>g2 r (by rw [hz] at hr; (have oc:=Out.ok.inj hr; clear hr; (clear E; subst oc)); rfl) v s' (E.after k₄)) fun c hc=>by rw [hz] at hc; cases hc
          · exact plain hsw
        · cases oe
 ·  cases ok
end
end Mine
namespace Mine
open PySem PyProof.Rows
section
variable {fns:Fns}{k:Nat}{C:Calls}{XP:String→Shared→Value→Shared→Prop}
variable {h0:Heap}{P Z:Addr→Prop}{A:Around}{env:Env}{σ:St}{vals:String→Option Value}{fp:String→List Addr}
theorem SOK.putl {s s₂:Shared}{h':Heap}{ns:List String}{x:String}{xs zs:List PyData}{mx m:Mode}{as:List Addr}{σ':St}{fl:Flw}{a:Addr}{vs vs':List Value}{n n':Nat}{bs bs':List Addr}
    (K:SOK fns k h0 P Z A env s.heap σ vals fp) (kp:Kp s s₂) (ha:∀ b∈as,Own σ fp ns b∨s.heap.get? b=none) (hdp:m = .deep→(∀ b∈as,s.heap.get? b=none)∧as.Nodup)
    (hx:σ x=some (.d (.list xs),mx)) (hput:fU σ x ns mx zs m = .ok (σ',fl)) (hm:mx≠.sh)
    (hv:vals x=some (.ref a)) (ea:s.heap.get? a=some ⟨.type "list", none,.seq vs.toArray n,#[]⟩) (hfp:fp x=a :: bs) (hZ:¬ Z a) (hab:a∉bs) (hne:∀ y q,y≠x→σ y=some q→a∉fp y) (hP:∀ b∈a :: bs,b≠env.locals∧(P b∨h0.get? b=none))
    (hdx:mx = .deep→(∀ b∈bs,¬ Z b∧∀ y q,y≠x→σ y=some q→b∉fp y)∧bs.Nodup)
    (hs:Heap.SameBut a s₂.heap h') (ea':h'.get? a=some ⟨.type "list", none,.seq vs'.toArray n',#[]⟩) (rr:RA s₂.heap vs' zs bs') (hz:∀ z∈zs,sz z=true) (hbs:∀ b∈bs',b∈bs∨b∈as) (hnd:(bs ++ as).Nodup→bs'.Nodup) :
    fl = .next∧∃ fp',SOK fns k h0 P Z A env h' σ' vals fp'∧Frm Z [x] σ vals fp σ' vals fp':=by
 have nz:∀ a,s.heap.get? a=none→¬ Z a:=fun a e hz=>by
    refine aj (K.zdom a hz) fun o e'=>?_
    rw [e] at e'; exact nN e'
 have nf:∀ a,s.heap.get? a=none→∀ y q,σ y=some q→a∉fp y:=fun a e y q hq hm=>by
    refine ae (K.val y q hq) fun uu Gk=>?_
    refine aq (Gk) fun u _ hr _=>?_
    try clear Gk
    refine aj (hr.there a hm) fun o e'=>?_
    rw [e] at e'; exact nN e'
 unfold fU at hput
 split at hput
 ·  rename_i hlen
    have ea₂:=kp.k.get ea rfl
    have main:∀ (hcase:m = .deep∨x∉ns),a∉as:=fun hcase hm=>by
      refine Or.elim (ha a hm) (fun F3=>?_) (fun h1=>?_)
      · refine az (F3) fun z q hz hq hf=>?_
        clear F3
        rcases hcase with hc | hc
        · have:=(hdp hc).1 a hm
          rw [ea] at this; exact nM this
        · exact hne z q (fun e=>hc (e▸hz)) hq hf
      · rw [ea] at h1; exact nM h1
    have rv':(hcase:m = .deep∨x∉ns)→RV h' (.ref a) (.d (.list zs)) (a :: bs'):=fun hcase=>by
      refine ⟨.list ea' (rr.off (wr:=[a]) (fun b hb o e=>.inr ?_) fun b o hb e=>hs.extBut b o (fun q=>hb (by simp [q])) e),sz_list.mpr ⟨?_,hz⟩⟩
      · rw [List.mem_singleton.mp hb] at e ⊢
        rw [ea₂] at e; (have oc:=Option.some.inj e; clear e; subst oc)
        exact ⟨by simp,fun hm=>(hbs a hm).elim hab (main hcase)⟩
      · unfold lim at hlen; exact wR hlen
    have pb:∀ b∈bs',b≠env.locals∧(P b∨h0.get? b=none):=fun b hb=>by
      rcases hbs b hb with h1 | h1
      · exact hP b (.tail _ h1)
      · rcases ha b h1 with h2 | h2
        · exact (K.own h2).2
        · refine ⟨fun q=>?_,.inr ?_⟩
          · refine ag (K.loc.ns) fun m' FW _=>?_
            refine bh (FW) fun o _ _ e _=>?_
            try clear FW
            rw [← q] at e
            rw [h2] at e; exact nN e
          · cases e:h0.get? b with
            | none=>rfl
            | some o=>obtain ⟨_,e'⟩:=Mine.K.there K.kp0 e; rw [e'] at h2; exact nM h2
    have abs:(hcase:m = .deep∨x∉ns)→a∉bs':=fun hcase hm=>(hbs a hm).elim hab (main hcase)
    have org:∀ b∈a :: bs',Z b→∃ z q,σ z=some q∧b∈fp z:=fun b hb hz=>by
      rcases List.mem_cons.mp hb with rfl | hb
      · exact absurd hz hZ
      · rcases hbs b hb with hb | hb
        · exact (aA x _ hx (by rw [hfp]; exact .tail _ hb))
        · refine Or.elim (ha b hb) (fun F7=>?_) (fun h1=>?_)
          · refine az (F7) fun y q GD h1 h2=>?_
            clear F7
            exact (aA y q h1 h2)
          · exact absurd hz (nz b h1)
    split at hput
    · rename_i hmd
      cases hput
      refine (aF rfl (ah _ ?_ (.one (fun uu uu=>rfl) (fun z q h=>⟨q,h⟩) org)))
      refine ((K.onK kp.k).write hx hv ea₂ (by simp) Stay.not_list (fun uu q=>by cases q) hZ hne (hP a (.head _)) hs (rv' (.inl hmd)) pb (fun uu=>abs (.inl hmd)) (fun hdeep=>?_) fun y' q hy hq=>?_)
      · refine ae (hdx hdeep) fun g1 g2=>?_
        refine ae (hdp hmd) fun g3 g4=>?_
        refine ⟨fun b hb=>?_,List.nodup_cons.mpr ⟨abs (.inl hmd),hnd (List.nodup_append.mpr ⟨g2,g4,fun b hb c hc q=>?_⟩)⟩⟩
        · rcases hbs b hb with h1 | h1
          · exact g1 b h1
          · exact ⟨nz b (g3 b h1),fun y q _ hq=>nf b (g3 b h1) y q hq⟩
        · subst q
          exact nf b (g3 b hc) x _ hx (by rw [hfp]; exact .tail _ hb)
      · have g3:=(hdp hmd).1
        refine ⟨fun ht b cs e hm=>?_,fun hd b hb hm=>?_⟩
        · refine aZ (K.top y' q hq ht) fun b' cs' e' _ _ h4=>?_
          rw [e] at e'; cases e'
          rcases hbs b hm with h1 | h1
          · exact h4 x _ (Ne.symm hy) hx (by rw [hfp]; exact .tail _ h1)
          · exact nf b (g3 b h1) y' q hq (by rw [e]; exact .head _)
        · rcases hbs b hm with h1 | h1
          · exact ((K.deep y' q hq hd).1 b hb).2 x _ (Ne.symm hy) hx (by rw [hfp]; exact .tail _ h1)
          · exact nf b (g3 b h1) y' q hq hb
    · split at hput
      · exact nB hput
      · rename_i hmd hxn
        cases hput
        have hx':Mine.demote σ ns x=some (V.d (.list xs),mx):=by unfold Mine.demote; rw [if_neg hxn]; exact hx
        refine (aF rfl (ah _ ?_ (.one (fun uu uu=>rfl) (fun z q h=>ag (bO h) fun q' h' uu=>⟨q',h'⟩) org)))
        refine (((K.onK kp.k).demote ns).write hx' hv ea₂ (by simp) Stay.not_list (fun uu q=>by cases q) hZ (fun y' q hy hq=>?_) (hP a (.head _)) hs (rv' (.inr hxn)) pb (fun uu=>abs (.inr hxn)) (fun hdeep=>by cases hdeep) fun y' q hy hq=>?_)
        · refine ag (bO hq) fun q' hq' _=>?_
          exact hne y' q' hy hq'
        · refine dQ hq fun q' hq' e1 hc=>?_
          rcases hc with ⟨_,rfl⟩ | ⟨hn,rfl⟩
          · refine ⟨fun h=>absurd h f9,fun h b hb=>?_⟩
            refine ae (K.val y' q' hq') fun uu Go=>?_
            refine aq (Go) fun u _ hr _=>?_
            try clear Go
            rw [hr.scal_nil (eS h)] at hb
            cases hb
          · refine ⟨fun ht b cs e hm=>?_,fun hd b hb hm=>?_⟩
            · refine aZ (K.top y' q hq' ht) fun b' cs' e' _ _ h4=>?_
              rw [e] at e'; cases e'
              rcases hbs b hm with h1 | h1
              · exact h4 x _ (Ne.symm hy) hx (by rw [hfp]; exact .tail _ h1)
              · refine Or.elim (ha b h1) (fun Gc=>?_) (fun h2=>?_)
                · refine az (Gc) fun z p hz hp hf=>?_
                  clear Gc
                  exact h4 z p (fun q=>hn (q▸hz)) hp hf
                · exact nf b h2 y' q hq' (by rw [e]; exact .head _)
            · rcases hbs b hm with h1 | h1
              · exact ((K.deep y' q hq' hd).1 b hb).2 x _ (Ne.symm hy) hx (by rw [hfp]; exact .tail _ h1)
              · refine Or.elim (ha b h1) (fun Ge=>?_) (fun h2=>?_)
                · refine az (Ge) fun z p hz hp hf=>?_
                  clear Ge
                  exact ((K.deep y' q hq' hd).1 b hb).2 z p (fun q=>hn (q▸hz)) hp hf
                · exact nf b h2 y' q hq' hb
 ·  exact nB hput
theorem mK {env:Env} (eok:EnvOk env):interactive env=false:=by unfold interactive; rw [eok.kind]; rfl
set_option tactic.hygienic true in
theorem ph {x:String}{e:E} (S:SimE fns k C XP e):cM fns k C (.append x e):=by
 intro stmt h0 P Z A env σ vals fp s Q Er σ' fl ok K he hN hR
 replace ok:=se ok
 revert ok; refine fun Gm=>Or.elim Gm (fun Gg=>?_) (fun ok=>?_)
 ·  clear Gm
    refine jl (Gg) fun t pt mm ap v pos spos HK ok=>?_
    clear Gg
    subst HK
    simp only [Bool.and_eq_true,beq_iff_eq] at ok
    refine ae (ok) fun FX oe=>?_
    try clear ok
    refine ae (FX) fun FY hb=>?_
    try clear FX
    refine ae (FY) fun FZ F0=>?_
    try clear FY
    refine ae (FZ) fun F1 hl=>?_
    try clear FZ
    subst F1
    subst F0
    refine hJ hb fun h1 h2 h3=>?_
    simp only [dG] at he
    refine gB he fun r hr he=>?_
    obtain ⟨ry,m⟩:=r
    dsimp only at he
    split at he
    · rename_i y vv mx hx0
      split at he
      rotate_left
      · exact nB he
      rename_i xs hxx
      cases iL hxx
      have hx:=hx0
      split at he
      · exact nB he
      · rename_i hmx
        refine tq (K.head hx hmx) fun a vs n bs hv ea ra hfp hz hZ hab hne hP hdx=>?_
        refine wpAny_Expr_any (wpAny_Call_append rfl (by rw [aK oe]; rfl) (by simpa using hl) (by rw [aK oe]; rfl) ?_) (mK K.eok)
        refine cR K.eok.kind h2 (K.loc.var K.eok hv) (aS a vs.toArray rfl (aU _ n ea rfl rfl rfl) (K.eval S oe hr fun u s₂ E=>?_))
        obtain ⟨kp,as,F2,ha,ht,hd⟩:=E
        refine ae (F2) fun ru zu=>?_
        try clear F2
        have hlen:=ra.length
        have hzl:=(sz_list.mp hz)
        refine wpAny_list_append_plain (hsz:=by rw [List.size_toArray,hlen]; unfold sizeLine; exact wm hzl) ⟨n,kp.k.get ea rfl⟩ fun h' hp hs=>?_
        refine aj (hp) fun n' ep=>?_
        try clear hp
        have:=K.putl kp ha hd hx he hmx hv ea hfp hZ hab hne hP hdx hs (vs':=vs ++ [u]) (by simpa using ep) ((ra.k kp.k).append (.cons ru .nil)) (fun z hz'=>by
          rcases List.mem_append.mp hz' with h | h
          · exact hzl.2 z h
          · rw [List.mem_singleton.mp h]; exact zu) (fun b hb=>by
          rcases List.mem_append.mp hb with h | h
          · exact .inl h
          · exact .inr (by simpa using h)) (fun h=>by simpa using h)
        refine ae (this) fun hfl GA=>?_
        try clear this
        refine ag (GA) fun fp' K' F'=>?_
        try clear GA
        exact hN hfl _ vals fp' (kp.stp.same hs hZ fun o e=>by rw [kp.k.get ea rfl] at e; (have oc:=Option.some.inj e; clear e; subst oc); exact Stay.not_list) K' F'
    · exact nB he
 ·  cases ok
end
end Mine
namespace Mine
open PySem PyProof.Rows
section
variable {fns:Fns}{k:Nat}{C:Calls}{XP:String→Shared→Value→Shared→Prop}
variable {h0:Heap}{P Z:Addr→Prop}{A:Around}{env:Env}{σ:St}{vals:String→Option Value}{fp:String→List Addr}
theorem RA.erase {h:Heap}{vs:List Value}{xs:List PyData}{bs:List Addr} (i:Nat) (r:RA h vs xs bs):∃ bs',RA h (vs.eraseIdx i) (xs.eraseIdx i) bs'∧∀ b∈bs',b∈bs :=
 RA.ind (N:=fun vs xs bs=>∀ i,∃ bs',RA h (vs.eraseIdx i) (xs.eraseIdx i) bs'∧∀ b∈bs',b∈bs) (fun uu=>(ah ([]) RA.nil (fun uu h=>(nomatch h)))) (fun x r ih i=>by
    cases i with
    | zero=>exact (ah _ r (fun b hb=>List.mem_append_right _ hb))
    | succ i=>
      refine ag (ih i) fun bs' q hs=>?_
      exact (ah _ (RA.cons x q) (fun b hb=>(List.mem_append.mp hb).elim (List.mem_append_left _) fun h=>List.mem_append_right _ (hs b h)))) r i
theorem ub (l:List Value) (i:Nat):l.toArray.eraseIdxIfInBounds i=(l.eraseIdx i).toArray:=by
 apply Array.toList_inj.mp
 unfold Array.eraseIdxIfInBounds
 split
 ·  simp
 ·  rename_i h
    simp at h
    simp [List.eraseIdx_of_length_le h]
set_option tactic.hygienic true in
theorem vL {x:String}{i:E} (Si:SimE fns k C XP i):cM fns k C (.pop x i):=by
 intro stmt h0 P Z A env σ vals fp s Q Er σ' fl ok K he hN hR
 replace ok:=Aa ok
 revert ok; refine fun F8=>Or.elim F8 (fun F3=>?_) (fun ok=>?_)
 ·  clear F8
    refine jl (F3) fun t pt mm ap vi pos spos Hb ok=>?_
    clear F3
    subst Hb
    simp only [Bool.and_eq_true,beq_iff_eq] at ok
    refine ae (ok) fun FW oi=>?_
    try clear ok
    refine ae (FW) fun FX hb=>?_
    try clear FW
    refine ae (FX) fun FY FZ=>?_
    try clear FX
    refine ae (FY) fun F0 hl=>?_
    try clear FY
    subst F0
    subst FZ
    refine hJ hb fun h1 h2 h3=>?_
    simp only [li] at he
    refine gB he fun q hq he1=>?_
    clear he
    obtain ⟨ri,mi⟩:=q
    dsimp only at he1
    split at he1
    · rename_i j vv mx hx0
      split at he1
      rotate_left
      · exact nB he1
      rename_i xs hxx
      cases iL hxx
      have hx:=hx0
      split at he1
      · exact nB he1
      · rename_i hmx
        replace hN:=gD he1 hN
        clear he1 hR
        have hmx':mx≠.sh:=fun q=>hmx (.inl q)
        have hj0:0≤j:=Int.not_lt.mp fun q=>hmx (.inr (.inl q))
        have hjl:j<xs.length:=Int.not_le.mp fun q=>hmx (.inr (.inr q))
        refine tq (K.head hx hmx') fun a vs n bs hv ea ra hfp hz hZ hab hne hP hdx=>?_
        have hlen:=ra.length
        have hzl:=(sz_list.mp hz)
        refine wpAny_Expr_any (wpAny_Call_method (T := "list") (id := "list.pop") rfl (by rw [aK oi]; rfl) (by simpa using hl) F.plainAttrs_list F.slot_list_pop F.type_list_pop ?_) (mK K.eok)
        refine cR K.eok.kind h2 (K.loc.var K.eok hv) ⟨(ah _ ea rfl),fun b hb=>?_,?_⟩
        · cases hb; exact (ah _ ea rfl)
        have fin:wpAny (model prog w) A (spliced (backTo pos (starEach [vi] env))) (fun ws s₁=>wpAny (model prog w) A (call (.builtin "list.pop") ([.ref a] ++ ws)) (fun uu=>Q .next) Er s₁) Er s:=by
          refine kX _ oi (K.eval Si oi hq fun vj s₂ Ei=>?_)
          obtain ⟨kk,is,F1,_⟩:=Ei
          refine ae (F1) fun rj _=>?_
          try clear F1
          cases rj
          have hlt:j.toNat<vs.length:=by exact AR hmx hlen
          refine call_meets F.slot_list_pop (ah _ (kk.k.get ea rfl) rfl) F.entry_list_pop (F.args_list_pop_2 _ _) (PySem.MeetsSeq.list_pop_at a vs.toArray n j _ j.toNat vs[j.toNat] ?_ ?_ ?_ ?_) ⟨kk.k.get ea rfl,?_⟩
          · unfold Builtin.List.listFitsIndex
            simp
            exact CY hmx hzl
          · unfold seqIndex?
            rw [List.size_toArray,hlen]
            simp only [if_neg (Int.not_lt.mpr hj0)]
            simp [hj0,hjl]
          · simp [hlt]
          · rw [List.size_toArray,hlen]; unfold sizeLine; exact wm hzl
          · refine ag ((ra.k kk.k).erase j.toNat) fun bs' q1 q2=>?_
            obtain ⟨n',hup⟩:∃ n',IsL (s₂.heap.update a (Obj.mapSeq fun xs=>xs.eraseIdxIfInBounds j.toNat)) a (vs.eraseIdx j.toNat).toArray n':=by
              have:=IsL.update (kk.k.get ea rfl) (fun xs:Array Value=>xs.eraseIdxIfInBounds j.toNat)
              rw [ub] at this
              exact ⟨_,this⟩
            have hs:Heap.SameBut a s₂.heap (s₂.heap.update a (Obj.mapSeq fun xs=>xs.eraseIdxIfInBounds j.toNat)):=Heap.SameBut.update ..
            have hab':a∉bs':=fun h=>hab (q2 a h)
            have rv:RV (s₂.heap.update a (Obj.mapSeq fun xs=>xs.eraseIdxIfInBounds j.toNat)) (.ref a) (.d (.list (xs.eraseIdx j.toNat))) (a :: bs'):=by
              refine ⟨.list hup (q1.off (wr:=[a]) (fun b hb o e=>.inr ?_) fun b o hb e=>hs.extBut b o (fun q=>hb (by simp [q])) e),sz_list.mpr ⟨Nat.le_trans (List.length_eraseIdx_le ..) hzl.1,fun z hz=>hzl.2 z (List.mem_of_mem_eraseIdx hz)⟩⟩
              rw [List.mem_singleton.mp hb] at e ⊢
              rw [kk.k.get ea rfl] at e; (have oc:=Option.some.inj e; clear e; subst oc)
              exact ⟨by simp,hab'⟩
            have K':=(K.onK kk.k).write (m':=.top) hx hv (kk.k.get ea rfl) (by simp) Stay.not_list (fun uu q=>by cases q) hZ hne (hP a (.head _)) hs rv (fun b hb=>hP b (.tail _ (q2 b hb))) (fun uu=>hab') (fun h=>by cases h) fun y' q hy hq=>⟨fun ht b cs e hm=>by
              refine aZ (K.top y' q hq ht) fun b' cs' e' _ _ h4=>?_
              rw [e] at e'; cases e'
              exact h4 x _ (Ne.symm hy) hx (by rw [hfp]; exact .tail _ (q2 b hm)),fun hd b hb hm=>((K.deep y' q hq hd).1 b hb).2 x _ (Ne.symm hy) hx (by rw [hfp]; exact .tail _ (q2 b hm))⟩
            exact hN _ vals _ (kk.stp.same hs hZ fun o e=>by rw [kk.k.get ea rfl] at e; (have oc:=Option.some.inj e; clear e; subst oc); exact Stay.not_list) K' (.one (fun uu uu=>rfl) (fun z q h=>⟨q,h⟩) fun b hb hz=>(List.mem_cons.mp hb).elim (fun q=>absurd hz (q▸hZ)) fun hb=>(aA x _ hx (by rw [hfp]; exact .tail _ (q2 b hb))))
        rw [aK oi] at fin ⊢
        exact Calls.callWith_builtin rfl (Calls.evalArgs_plain (wpAny_mono fin (fun vs s₁ h₁=>h₁) fun uu uu e=>e))
    · exact nB he1
 ·  cases ok
theorem SOK.dict {x:String}{v:V}{h:Heap} (K:SOK fns k h0 P Z A env h σ vals fp) (hx:σ x=some (v,.deep)) {a:Addr} (hfp:fp x=[a]) :
    ¬ Z a∧(∀ y q,y≠x→σ y=some q→a∉fp y)∧a≠env.locals∧(P a∨h0.get? a=none):=by
 refine ae (K.deep x _ hx rfl) fun h1 _=>?_
 refine ae (K.val x _ hx) fun uu Gn=>?_
 refine aq (Gn) fun u _ _ h2=>?_
 try clear Gn
 have hm:a∈fp x:=by rw [hfp]; exact .head _
 exact ⟨(h1 a hm).1,(h1 a hm).2,h2 a hm⟩
theorem pj (ks:List Int) (i:Int):stored (ks.map fun k=>(k,Value.bool true)) i (.bool true)=(if i∈ks then ks else ks ++ [i]).map fun k=>(k,.bool true):=by
 unfold stored
 by_cases hi:i∈ks
 ·  rw [if_pos (by simpa using hi),if_pos hi,List.map_map]
    apply List.map_congr_left
    intro a _
    simp only [Function.comp]
    split <;> rfl
 ·  rw [if_neg (by simpa using hi),if_neg hi,List.map_append]
    rfl
theorem nQ {h h':Heap}{a a':Addr}{o:Obj}{es:Array DictEntry}{ep:Nat}{xs:List (List Int × Addr × Value)}{t:List Int}{v:Value} (ho:h.get? a=some o) (hd:o.data = .dict es ep) (hs:Heap.SameBut a h h') (r:R h (.ref a') (aJ t) []) (hx:∀ x∈xs,R h (.ref x.2.1) (aJ x.1) []):∀ x∈storedH xs t a' v,R h' (.ref x.2.1) (aJ x.1) []:=by
 have off:∀ {v:Value}{d:PyData},R h v d []→R h' v d []:=fun r=>r.off (wr:=[a]) (fun b hb o' e=>.inl fun vs n q=>by rw [List.mem_singleton.mp hb,ho] at e; (have oc:=Option.some.inj e; clear e; subst oc); rw [hd] at q; cases q) fun b o hb e=>hs.extBut b o (fun q=>hb (by simp [q])) e
 intro x hm
 rcases mem_storedH hm with ⟨y,hy,e1,e2⟩ | ⟨e1,e2⟩
 ·  rw [e1,e2]; exact off (hx y hy)
 ·  rw [e1,e2]; exact off r
theorem iM (xs:List (List Int × Addr × Value)) (t:List Int) (a:Addr) (v:Value):(storedH xs t a v).map (·.1)=if t∈xs.map (·.1) then xs.map (·.1) else xs.map (·.1) ++ [t]:=by
 unfold storedH
 rw [iS]
 by_cases hi:t∈xs.map (·.1)
 ·  rw [if_pos (by simpa using hi),if_pos hi,List.map_map]
    apply List.map_congr_left
    intro y _
    simp only [Function.comp,putAt]
    split <;> rfl
 ·  rw [if_neg (by simpa using hi),if_neg hi,List.map_append]
    rfl
theorem kF:∀ {xs:List PyData}{ns:List Int},aM xs=some ns→ns.length=xs.length
 | [],ns,h=>by simp [aM] at h; subst h; rfl
 | y :: xs,ns,h=>by
    cases y <;> simp only [aM] at h <;> try (cases h)
    refine bp h fun ms e F2=>?_
    (clear h; subst F2)
    rw [List.length_cons,List.length_cons,kF e]
theorem mV {x:PyData}{t:List Int} (h:dg x=some t) (z:sz x=true):t.length≤2 ^ 22:=by
 cases x <;> simp only [dg] at h <;> try (cases h)
 rw [kF h]
 exact (sz_tuple.mp z).1
set_option tactic.hygienic true in
theorem oA {x:String}{e:E} (S:SimE fns k C XP e):cM fns k C (.setitem x e):=by
 intro stmt h0 P Z A env σ vals fp s Q Er σ' fl ok K he hN hR
 replace ok:=qO ok
 revert ok; refine fun Gb=>Or.elim Gb (fun F7=>?_) (fun ok=>?_)
 ·  clear Gb
    refine jl (F7) fun t pt ix ps c1 c2 spos Hf ok=>?_
    clear F7
    subst Hf
    simp only [Bool.and_eq_true,beq_iff_eq] at ok
    refine ae (ok) fun F4 oe=>?_
    try clear ok
    refine ae (F4) fun F5 hb=>?_
    try clear F4
    subst F5
    refine hJ hb fun h1 h2 h3=>?_
    simp only [cB] at he
    refine gB he fun r hr he1=>?_
    clear he
    obtain ⟨ri,mi⟩:=r
    dsimp only at he1
    split at he1
    · rename_i kd v hx
      refine wpAny_Assign_Subscript (wpAny_Constant_bool ?_)
      refine ae (K.val x _ hx) fun uu GA=>?_
      refine aq (GA) fun u hv hrv _=>?_
      try clear GA
      dsimp only at hrv
      refine cR K.eok.kind h2 (K.loc.var K.eok hv) (K.eval S oe hr fun vk s₂ E=>?_)
      obtain ⟨kk,is,F6,_⟩:=E
      refine ae (F6) fun rk zk=>?_
      try clear F6
      have K₂:=K.onK kk.k
      have hrv₂:=hrv.k kk.k
      have fin:∀ {a:Addr}{o:Obj}{v':V}{h':Heap}{tk':Nat},u = .ref a→fp x=[a]→s₂.heap.get? a=some o→o.ExactDict→(∃ es ep,o.data = .dict es ep)→Heap.SameBut a s₂.heap h'→RV h' (.ref a) v' [a]→(Out.ok (upd σ x (v',.deep),Flw.next):Out (St × Flw)) = .ok (σ',fl)→Q .next { s₂ with heap:=h',toks:=tk' }:=fun {a} {o} {v'} {h'} {tk'} hu hfp ho hox hdd hs rv he=>by
        (clear hrv hrv₂; subst hu)
        refine cJ (K.dict hx hfp) fun d1 d2 d3 d4=>?_
        have hoc:o.cls≠.type "tuple" := fun q=>by
          rw [hox.1] at q; simp at q
        have hod:∀ v,o.data≠.cell v:=fun v q=>by
          refine bi (hdd) fun es ep e=>?_
          try clear hdd
          rw [e] at q; cases q
        have K':=K₂.write (m':=.deep) (bs':=[]) hx hv ho hoc (hdd.elim fun es hdd=>hdd.elim fun ep hdd=>Stay.not_dict hdd) hod d1 d2 ⟨d3,d4⟩ hs rv (fun uu h=>(nomatch h)) (fun uu h=>(nomatch h)) (fun uu=>⟨fun uu h=>(nomatch h),by simp⟩) fun y q hy hq=>⟨fun uu uu uu uu h=>(nomatch h),fun uu uu uu h=>(nomatch h)⟩
        exact gD he hN _ vals _ (kk.stp.same hs d1 fun o' e=>by rw [ho] at e; (have oc:=Option.some.inj e; clear e; subst oc); exact hdd.elim fun es hdd=>hdd.elim fun ep hdd=>Stay.not_dict hdd) K' (.one (fun uu uu=>rfl) (fun z q h=>⟨q,h⟩) fun b hb hz=>absurd hz (List.mem_singleton.mp hb▸d1))
      cases v with
      | dic0=>
        refine iV (hrv₂) fun a Ga hfp hsm hdI hdT=>?_
        try clear hrv₂
        (clear hrv hv; subst Ga)
        simp only [fg] at he1
        split at he1
        · rename_i i hi
          (have oc:=cu hi; (clear hr zk; subst oc))
          refine R.isInt_k rk fun ti oqi _=>?_
          (clear rk; subst oqi)
          have hd':=hdI
          refine eh (hd') fun o es ep ho hox hdd _=>?_
          try clear hd'
          refine wpAny_setItem_pairs (intKind_is prog w _ _) hdI (fun h' hm' hs=>fin (v':=.dicI [_]) rfl hfp ho hox (bE _ _ hdd) hs (ba a rfl rfl hsm ?_) he1) (by simp [sizeLine])
          simpa [stored] using hm'
        · split at he1
          · rename_i t ht
            refine ag (eg rk ht) fun a' F9 hk=>?_
            subst F9
            have hd':=hdT
            refine eh (hd') fun o es ep ho hox hdd _=>?_
            try clear hd'
            refine wpAny_setItem_heap (tupleKind_room_in1 (by exact rm1 K.room.2.2)) hk hdT (fun h' hm' hs=>fin (v':=.dicT [_]) rfl hfp ho hox (bE _ _ hdd) hs (dy a _ rfl rfl hsm hm' ?_ ?_ ?_) he1) (by simp [sizeLine])
            · rw [iM]; simp
            · intro z hz
              rw [List.mem_singleton.mp hz]
              exact mV ht zk
            · exact nQ ho hdd hs (pK rk ht) fun x hx=>nomatch hx
          · exact nB he1
      | dicI ks=>
        refine cy (hrv₂) fun a Gh hfp hsm hdI=>?_
        try clear hrv₂
        (clear hrv hv; subst Gh)
        simp only [fg] at he1
        split at he1
        · rename_i i hi
          split at he1
          · rename_i hlen
            (have oc:=cu hi; (clear hr zk; subst oc))
            refine R.isInt_k rk fun ti oqi _=>?_
            (clear rk; subst oqi)
            have hd':=hdI
            refine eh (hd') fun o es ep ho hox hdd _=>?_
            try clear hd'
            refine wpAny_setItem_pairs (intKind_is prog w _ _) hdI (fun h' hm' hs=>fin (v':=.dicI _) rfl hfp ho hox (bE _ _ hdd) hs (ba a rfl rfl hsm ?_) he1) (by rw [List.length_map]; unfold lim at hlen; unfold sizeLine; exact wY hlen)
            rw [pj] at hm'
            exact hm'
          · exact nB he1
        · exact nB he1
      | dicT ks=>
        refine rE (hrv₂) fun a xs Gi hfp hsm hdT Gj hks htu=>?_
        try clear hrv₂
        (clear hrv hv; subst Gi)
        subst Gj
        simp only [fg] at he1
        split at he1
        · rename_i t ht
          split at he1
          · rename_i hlen
            refine ag (eg rk ht) fun a' Gr hk=>?_
            subst Gr
            have hd':=hdT
            refine eh (hd') fun o es ep ho hox hdd _=>?_
            try clear hd'
            refine wpAny_setItem_heap (tupleKind_room_in1 (by exact rm1 K.room.2.2)) hk hdT (fun h' hm' hs=>fin (v':=.dicT _) rfl hfp ho hox (bE _ _ hdd) hs (dy a _ rfl rfl hsm hm' ?_ ?_ ?_) he1) (by rw [List.length_map] at hlen; unfold lim at hlen; unfold sizeLine; exact wY hlen)
            · rw [iM]
            · intro z hz
              split at hz
              · exact hks z hz
              · rcases List.mem_append.mp hz with h | h
                · exact hks z h
                · rw [List.mem_singleton.mp h]; exact mV ht zk
            · exact nQ ho hdd hs (pK rk ht) htu
          · exact nB he1
        · exact nB he1
      | _=>simp only [fg] at he1; exact nB he1
    · exact nB he1
 ·  cases ok
def AtV (h:Heap):List Int→Value→Value→Prop
 | [],v,u=>u=v
 | k :: p,v,u=>∃ v1,ItemV h v k v1∧AtV h p v1 u
theorem AtV.snoc {h:Heap}{k:Int}{u u1:Value} (i:ItemV h u k u1):∀ {p:List Int}{v:Value},AtV h p v u→AtV h (p ++ [k]) v u1
 | [],v,a=>(ah u1 (a▸i) rfl)
 | j :: p,v,a=>ag (a) fun v1 b a=>(ah v1 b (AtV.snoc i a))
theorem ItemV.keep {h h':Heap}{v u:Value}{k:Int} (i:ItemV h v k u) (kp:K h h'):ItemV h' v k u:=BN (i) fun a T vs n j e1 e2 e3=>⟨a,T,vs,n,j,e1,kp.exact e2 (by simp) (by simp),e3⟩
theorem AtV.keep {h h':Heap}{u:Value} (kp:K h h'):∀ {p:List Int}{v:Value},AtV h p v u→AtV h' p v u
 | [],_,a=>a
 | _ :: _,_,a=>ag (a) fun v1 b a=>(ah v1 (b.keep kp) (AtV.keep kp a))
theorem RA.setAt {h:Heap}{vs:List Value}{xs:List PyData}{bs:List Addr} (r:RA h vs xs bs):∀ (j:Nat) {v:Value}{e:PyData},vs[j]? = some v→xs[j]? = some e→∃ b1 c b2,bs=b1 ++ (c ++ b2)∧R h v e c ∧
    ∀ h' e',(∀ u d cs,(∀ b∈cs,b∈b1∨b∈b2)→R h u d cs→R h' u d cs)→R h' v e' c→RA h' vs (xs.set j e') bs:=by
 refine RA.ind (N:=fun vs xs bs=>∀ (j:Nat) {v:Value}{e:PyData},vs[j]? = some v→xs[j]? = some e→∃ b1 c b2,bs=b1 ++ (c ++ b2)∧R h v e c ∧
    ∀ h' e',(∀ u d cs,(∀ b∈cs,b∈b1∨b∈b2)→R h u d cs→R h' u d cs)→R h' v e' c→RA h' vs (xs.set j e') bs) (fun j v e hv=>by cases hv) (fun {v vs d ds as bs} x r ih j u e hv he=>?_) r
 have rest:∀ (B:Addr→Prop) (h':Heap) {vs:List Value}{ds:List PyData}{bs:List Addr},RA h vs ds bs→(∀ b∈bs,B b)→(∀ u d cs,(∀ b∈cs,B b)→R h u d cs→R h' u d cs)→RA h' vs ds bs:=fun B h' _ _ _ r=>RA.ind (N:=fun vs ds bs=>(∀ b∈bs,B b)→(∀ u d cs,(∀ b∈cs,B b)→R h u d cs→R h' u d cs)→RA h' vs ds bs) (fun uu uu=>.nil)
    (fun x _ i hb k=>.cons (k _ _ _ (fun b q=>hb b (List.mem_append_left _ q)) x) (i (fun b q=>hb b (List.mem_append_right _ q)) k)) r
 cases j with
 | zero=>
    (have oc:=Option.some.inj hv; clear hv; subst oc); (have oc:=Option.some.inj he; clear he; subst oc)
    exact (ce ([]) as bs rfl x (fun h' e' k q=>.cons q (rest (fun b=>b∈[]∨b∈bs) h' r (fun b hb=>.inr hb) k)))
 | succ j=>
    refine aL (ih j hv he) fun b1 c b2 Gs q1 q2=>?_
    (clear ih r; subst Gs)
    exact (ce (as ++ b1) c b2 (by rw [List.append_assoc]) q1 (fun h' e' k q=>.cons (k _ _ _ (fun b hb=>.inl (List.mem_append_left _ hb)) x) (q2 h' e' (fun u d cs hc=>k u d cs fun b hb=>(hc b hb).imp (List.mem_append_right _) id) q)))
theorem R.modP {h:Heap}{y:PyData}{u:Value}:∀ (p:List Int) {v:Value}{d d':PyData}{as:List Addr},R h v d as→as.Nodup→modP y p d=some d'→AtV h p v u →
    ∃ a vs n,u = .ref a∧h.get? a=some ⟨.type "list", Option.none,.seq vs.toArray n,#[]⟩∧a∈as∧vs.length<lim ∧
      ∀ (h':Heap) (w:Value) (n':Nat),KG (fun b=>b≠a) h h'→h'.get? a=some ⟨.type "list", Option.none,.seq (vs ++ [w]).toArray n',#[]⟩→R h' w y []→R h' v d' as
 | [],v,d,d',as,r,nd,hm,at'=>by
    replace hm:=Option.bind_eq_some_iff.mp hm
    revert hm; intro Is
    refine ag (Is) fun xs hx hm=>?_
    try clear Is
    cases bt hx
    by_cases hl:xs.length<lim
    · rw [if_pos hl] at hm
      (have oc:=Option.some.inj hm; clear hm; subst oc)
      refine r.isList_k fun a vs n bs Gx ea ra GB=>?_
      (clear r; subst Gx)
      subst GB
      subst at'
      refine (qJ a vs n rfl ea (.head _) (by rw [ra.length]; exact hl) (fun h' w n' kp ea' rw'=>?_))
      have q:RA h' vs xs bs:=ra.onG kp fun b hb q=>(List.nodup_cons.mp nd).1 (q▸hb)
      have:=R.list ea' (q.append (.cons rw' .nil))
      rwa [List.append_nil,List.append_nil] at this
    · rw [if_neg hl] at hm; exact nN hm
 | k :: p,v,d,d',as,r,nd,hm,at'=>by
    revert at'; intro H5
    refine ag (H5) fun v1 Gy at'=>?_
    try clear H5
    refine qS (Gy) fun a0 T vs0 n0 j0 GI ea0 hj0 hv0=>?_
    try clear Gy
    subst GI
    unfold Mine.modP at hm
    cases hx:asL d with
    | some xs=>
      rw [hx] at hm
      cases bt hx
      replace hm:=Option.bind_eq_some_iff.mp hm
      revert hm; intro Ij
      refine ag (Ij) fun j hj hm=>?_
      try clear Ij
      replace hm:=Option.bind_eq_some_iff.mp hm
      revert hm; intro HV
      refine ag (HV) fun e he hm=>?_
      try clear HV
      replace hm:=Option.map_eq_some_iff.mp hm
      refine ag (hm) fun e' he' GG=>?_
      try clear hm
      subst GG
      refine r.isList_k fun a1 vs n bs e1 ea ra GT=>?_
      (clear r; subst GT)
      cases e1
      rw [ea] at ea0
      have hvs:vs=vs0:=by cases ea0; rfl
      subst hvs
      rw [ra.length] at hj0
      cases hj.symm.trans hj0
      refine aL (ra.setAt j0 hv0 he) fun b1 c b2 GF q1 q2=>?_
      subst GF
      have nd2:=(List.nodup_cons.mp nd).2
      refine aD (List.nodup_append.mp nd2) fun n1 n2 n3=>?_
      refine aD (List.nodup_append.mp n2) fun n4 n5 n6=>?_
      refine qD (R.modP p q1 n4 he' at') fun a ws m G8 eb hac hl hu=>?_
      (clear at'; subst G8)
      refine (qJ a ws m rfl eb (.tail _ (List.mem_append_right _ (List.mem_append_left _ hac))) hl (fun h' w n' kp ea' rw'=>?_))
      refine .list (kp.hard (.inl fun q=>(List.nodup_cons.mp nd).1 (q▸List.mem_append_right _ (List.mem_append_left _ hac))) ea rfl) (q2 h' e' (fun u d cs hc ru=>ru.onG kp fun b hb q=>?_) (hu h' w n' kp ea' rw'))
      subst q
      exact (hc b hb).elim (fun h1=>n3 b h1 b (List.mem_append_left _ hac) rfl) fun h1=>n6 b hac b h1 rfl
    | none=>
      rw [hx] at hm
      replace hm:=Option.bind_eq_some_iff.mp hm
      revert hm; intro H6
      refine ag (H6) fun xs ht hm=>?_
      try clear H6
      cases gn ht
      replace hm:=Option.bind_eq_some_iff.mp hm
      revert hm; intro Iw
      refine ag (Iw) fun j hj hm=>?_
      try clear Iw
      replace hm:=Option.bind_eq_some_iff.mp hm
      revert hm; intro Iv
      refine ag (Iv) fun e he hm=>?_
      try clear Iv
      replace hm:=Option.map_eq_some_iff.mp hm
      refine ag (hm) fun e' he' G2=>?_
      try clear hm
      subst G2
      refine aL (r.isTup) fun a1 vs n e1 ea ra=>?_
      cases e1
      rw [ea] at ea0
      have hvs:vs=vs0:=by cases ea0; rfl
      subst hvs
      rw [ra.length] at hj0
      cases hj.symm.trans hj0
      refine aL (ra.setAt j0 hv0 he) fun b1 c b2 GU q1 q2=>?_
      (clear r ra; subst GU)
      refine aD (List.nodup_append.mp nd) fun n1 n2 n3=>?_
      refine aD (List.nodup_append.mp n2) fun n4 n5 n6=>?_
      refine qD (R.modP p q1 n4 he' at') fun a ws m Hj eb hac hl hu=>?_
      (clear at'; subst Hj)
      refine (qJ a ws m rfl eb (List.mem_append_right _ (List.mem_append_left _ hac)) hl (fun h' w n' kp ea' rw'=>?_))
      refine .tuple (kp.stay ea (.inr (aF rfl (bE _ _ rfl)))) (q2 h' e' (fun u d cs hc ru=>ru.onG kp fun b hb q=>?_) (hu h' w n' kp ea' rw'))
      subst q
      exact (hc b hb).elim (fun h1=>n3 b h1 b (List.mem_append_left _ hac) rfl) fun h1=>n6 b hac b h1 rfl
theorem k7 {y:PyData} (hy:sz y=true):∀ (p:List Int) {d d':PyData},modP y p d=some d'→sz d=true→sz d' = true
 | [],d,d',hm,hd=>by
    replace hm:=Option.bind_eq_some_iff.mp hm
    revert hm; intro Il
    refine ag (Il) fun xs hx hm=>?_
    try clear Il
    cases bt hx
    by_cases hl:xs.length<lim
    · rw [if_pos hl] at hm
      (have oc:=Option.some.inj hm; clear hm; subst oc)
      have h:=sz_list.mp hd
      unfold lim at hl
      exact sz_list.mpr ⟨by rw [List.length_append,List.length_singleton]; exact Dx hl,fun x hx=>(List.mem_append.mp hx).elim (h.2 x) fun q=>List.mem_singleton.mp q▸hy⟩
    · rw [if_neg hl] at hm; exact nN hm
 | k :: p,d,d',hm,hd=>by
    unfold modP at hm
    cases hx:asL d with
    | some xs=>
      rw [hx] at hm
      cases bt hx
      replace hm:=Option.bind_eq_some_iff.mp hm
      revert hm; intro Iz
      refine ag (Iz) fun j hj hm=>?_
      try clear Iz
      replace hm:=Option.bind_eq_some_iff.mp hm
      revert hm; intro IC
      refine ag (IC) fun e he hm=>?_
      try clear IC
      replace hm:=Option.map_eq_some_iff.mp hm
      refine ag (hm) fun e' he' G4=>?_
      try clear hm
      subst G4
      have h:=sz_list.mp hd
      exact sz_list.mpr ⟨by rw [List.length_set]; exact h.1,fun x hx=>(List.mem_or_eq_of_mem_set hx).elim (h.2 x) fun q=>q▸k7 hy p he' (h.2 e (List.mem_of_getElem? he))⟩
    | none=>
      rw [hx] at hm
      replace hm:=Option.bind_eq_some_iff.mp hm
      revert hm; intro H0
      refine ag (H0) fun xs ht hm=>?_
      try clear H0
      cases gn ht
      replace hm:=Option.bind_eq_some_iff.mp hm
      revert hm; intro Im
      refine ag (Im) fun j hj hm=>?_
      try clear Im
      replace hm:=Option.bind_eq_some_iff.mp hm
      revert hm; intro Ix
      refine ag (Ix) fun e he hm=>?_
      try clear Ix
      replace hm:=Option.map_eq_some_iff.mp hm
      refine ag (hm) fun e' he' G1=>?_
      try clear hm
      subst G1
      have h:=sz_tuple.mp hd
      exact sz_tuple.mpr ⟨by rw [List.length_set]; exact h.1,fun x hx=>(List.mem_or_eq_of_mem_set hx).elim (h.2 x) fun q=>q▸k7 hy p he' (h.2 e (List.mem_of_getElem? he))⟩
theorem SOK.inner {h h':Heap}{x:String}{V0 V1:V}{v0:Value}{a:Addr}{o:Obj} (K:SOK fns k h0 P Z A env h σ vals fp) (hx:σ x=some (V0,.deep)) (hv:vals x=some v0) (ha:a∈fp x) (ho:h.get? a=some o) (hoc:o.cls≠.type "tuple") (hst:¬ Stay o) (hod:∀ v,o.data≠.cell v)
    (hs:Heap.SameBut a h h') (rv:RV h' v0 V1 (fp x)):SOK fns k h0 P Z A env h' (upd σ x (V1,.deep)) vals fp:=by
 refine ae (K.deep x _ hx rfl) fun hd1 hd2=>?_
 have hnz:=(hd1 a ha).1
 have kz:∀ b o,Z b→h.get? b=some o→h'.get? b=some o:=fun b o hb e=>hs.extBut b o (fun q=>hnz (q▸hb)) e
 have back:∀ y q,y≠x→upd σ x (V1,.deep) y=some q→σ y=some q:=fun y q hy hq=>(if_neg hy).symm.trans hq
 have here:∀ q,upd σ x (V1,.deep) x=some q→q=(V1,.deep):=fun q hq=>(Option.some.inj ((if_pos rfl).symm.trans hq)).symm
 refine ⟨K.room,K.eok,K.ge,K.z0,Mine.K.same K.kp0 hs (K.h0n hnz) (fun o' e=>by rw [ho] at e; (have oc:=Option.some.inj e; clear e; subst oc); exact hst),K.code,K.out,fun b hb=>aj (K.zdom b hb) fun o e=>⟨o,kz b o hb e⟩,K.loc.offA ho hod ((K.val x _ hx).2.choose_spec.2.2 a ha).1 hs,fun y q hq=>?_,fun y q hq htp=>?_,fun y q hq hdp=>?_⟩
 ·  by_cases hy:y=x
    · (clear back ha hd1 hd2; subst hy)
      cases here q hq
      refine ae (K.val y _ hx) fun h1 GQ=>?_
      refine aq (GQ) fun u h2 h3 h4=>?_
      try clear GQ
      exact (aF h1 (ax v0 hv rv h4))
    · refine ae (K.val y q (back y q hy hq)) fun h1 GS=>?_
      refine aq (GS) fun u h2 h3 h4=>?_
      try clear GS
      exact (aF h1 (ax u h2 (h3.offA ho hoc ((hd1 a ha).2 y q hy (back y q hy hq)) hs) h4))
 ·  by_cases hy:y=x
    · (clear back ha hd1 hd2 hv hx rv; subst hy)
      cases here q hq
      cases htp
    · refine aZ (K.top y q (back y q hy hq) htp) fun b cs h1 h2 h3 h4=>?_
      refine (aU b cs h1 h2 h3 (fun z r hz hr=>?_))
      by_cases hzx:z=x
      · (clear back ha hd1 hd2 here hq hr hv hy rv; subst hzx); exact h4 z _ hz hx
      · exact h4 z r hz (back z r hzx hr)
 ·  by_cases hy:y=x
    · (clear ha here hq hv hx rv; subst hy)
      refine ⟨fun b hb=>⟨(hd1 b hb).1,fun z r hz hr=>(hd1 b hb).2 z r hz (back z r hz hr)⟩,hd2⟩
    · refine ae (K.deep y q (back y q hy hq) hdp) fun h1 h2=>?_
      refine ⟨fun b hb=>⟨(h1 b hb).1,fun z r hz hr=>?_⟩,h2⟩
      by_cases hzx:z=x
      · (clear back ha hd1 hd2 here hq hr hv hy rv; subst hzx); exact (h1 b hb).2 z _ hz hx
      · exact (h1 b hb).2 z r hz (back z r hzx hr)
end
end Mine
namespace Mine
open PySem PyProof.Rows
section
variable {fns:Fns}{k:Nat}{C:Calls}{XP:String→Shared→Value→Shared→Prop}
variable {h0:Heap}{P Z:Addr→Prop}{A:Around}{env:Env}{σ:St}{vals:String→Option Value}{fp:String→List Addr}
theorem pG (hC:bS fns k C XP) {g:List V→Out (V × Mode)} (hR:C "Rule" = some g):fns.init.isSome=true:=by
 refine ag ((hC "Rule" g hR).2.2.2 (by decide)) fun fa hfa _=>?_
 unfold adr at hfa
 rw [if_pos rfl] at hfa
 refine bp hfa fun uu q _=>?_
 rw [q]; rfl
theorem l4 {s:Shared}{x:String}{d:PyData}{vf:Value}{y:Addr}{bs:List Addr}{mA:Str→Option Value}{Er:Value→Shared→Prop}{Q:Value→Shared→Prop}{exx:Expr} (hi:fns.init.isSome=true) (K:SOK fns k h0 P Z A env s.heap σ vals fp) (hv:vals x=some (.ref y))
    (I:s.heap.Inst y SF.rule mA) (f2:mA "full" = some vf) (rd:R s.heap vf d bs) (ok:gG env.scope.names x exx=true) (hQ:∀ s',Kp s s'→Q vf s'):wpAny (model prog w) A (eval exx env) Q Er s:=by
 refine au (kQ ok) fun p pa FW hb=>?_
 (clear ok; subst FW)
 refine az ((K.ge.k K.kp0).cls (.inr hi)) fun N mN FZ quiet _=>?_
 obtain ⟨F0,hn⟩:=FZ
 refine dW (F0) fun nm q bs' sn sub col dd k0 k1 k2 k3 k5 hC=>?_
 have ga:=quiet "__getattribute__" (by simp)
 have hf:handedOut vf=pure vf:=by cases rd <;> rfl
 rw [arm_eval_Attribute]
 refine wpAny_bind (cR K.eok.kind (bnd hb).2.1 (K.loc.var K.eok hv) ?_)
 obtain ⟨hh,g,dr,tk,os⟩:=s
 exact wpAny_bind (wpAny_standAt (wpAny_bind (wpAny_holding (load_attr hC hn ga (quiet "full" (by simp)) iC I f2 hf (wpAny_bind (wpAny_letTemporaryGo (wpAny_pure (hQ _ (.toks ⟨hh,g,dr,tk,os⟩ _)))))))))
theorem ol (S:∀ i,SimE fns k C XP i) {s:Shared}{x:String}{d:PyData}{v0:Value}{bs0:List Addr}{Er:Value→Shared→Prop} (K:SOK fns k h0 P Z A env s.heap σ vals fp) (hr:R s.heap v0 d bs0) (hz:sz d=true)
    (base:∀ {exx:Expr}{Q:Value→Shared→Prop},gG env.scope.names x exx=true→(∀ s',Kp s s'→Q v0 s')→wpAny (model prog w) A (eval exx env) Q Er s) :
    ∀ {is:Es}{exx:Expr}{p:List Int × PyData},qX env.scope.names x is exx=true→evP C d is σ = .ok p→∀ {Q:Value→Shared→Prop},(∀ u s' bs,Kp s s'→AtV s'.heap p.1 v0 u→R s'.heap u p.2 bs→sz p.2=true→Q u s')→wpAny (model prog w) A (eval exx env) Q Er s
 | .nil,exx,p,ok,he,Q,hQ=>by
    (have oc:=Out.ok.inj he; clear he; subst oc)
    exact base ok fun s' kp=>hQ v0 s' bs0 kp rfl (hr.k kp.k) hz
 | .cons i r,exx,p,ok,he,Q,hQ=>by
    refine ak ok fun q e1 h=>?_
    refine dF h fun o1 o2=>?_
    rw [fq e1]
    refine Out.bind_k he fun p1 hp1 he=>?_
    refine Out.bind_k he fun r1 hr1 he=>?_
    refine aV he fun k1 hk1 he=>?_
    refine aV he fun k2 hk2 he=>?_
    refine aV he fun e2 he2 he=>?_
    (have oc:=Out.ok.inj he; clear he; subst oc)
    refine Subscript_ (ol S K hr hz base o1 hp1 fun u s₁ bs kp at1 ru zu=>?_)
    refine (K.onK kp.k).eval (S i) o2 hr1 fun vb s₂ E=>?_
    obtain ⟨k2',cs,rb,_⟩:=E
    rw [cj hk1,cu hk2] at rb
    refine rb.1.isInt_k fun t Gv _=>?_
    subst Gv
    exact oV (eJ o2) he2 (ru.k k2'.k) zu fun v ds it rv z hd=>hQ v s₂ ds (kp.trans k2') (.snoc it (at1.keep k2'.k)) rv z
theorem SOK.drop {h h':Heap}{x:String}{V0:V}{a:Addr}{o:Obj} (K:SOK fns k h0 P Z A env h σ vals fp) (hx:σ x=some (V0,.deep)) (ha:a∈fp x) (ho:h.get? a=some o) (hoc:o.cls≠.type "tuple") (hst:¬ Stay o) (hod:∀ v,o.data≠.cell v)
    (hs:Heap.SameBut a h h'):SOK fns k h0 P Z A env h' (fun y=>if y=x then none else σ y) vals fp:=by
 refine ae (K.deep x _ hx rfl) fun hd1 hd2=>?_
 have hnz:=(hd1 a ha).1
 have kz:∀ b o,Z b→h.get? b=some o→h'.get? b=some o:=fun b o hb e=>hs.extBut b o (fun q=>hnz (q▸hb)) e
 have back:∀ y q,(if y=x then none else σ y)=some q→y≠x∧σ y=some q:=fun y q hq=>by
    by_cases e:y=x
    · rw [if_pos e] at hq; exact nN hq
    · rw [if_neg e] at hq; exact ⟨e,hq⟩
 refine ⟨K.room,K.eok,K.ge,K.z0,Mine.K.same K.kp0 hs (K.h0n hnz) (fun o' e=>by rw [ho] at e; (have oc:=Option.some.inj e; clear e; subst oc); exact hst),K.code,K.out,fun b hb=>aj (K.zdom b hb) fun o e=>⟨o,kz b o hb e⟩,K.loc.offA ho hod ((K.val x _ hx).2.choose_spec.2.2 a ha).1 hs,fun y q hq=>?_,fun y q hq htp=>?_,fun y q hq hdp=>?_⟩
 ·  refine ae (back y q hq) fun hy hq=>?_
    refine ae (K.val y q hq) fun h1 GS=>?_
    refine aq (GS) fun u h2 h3 h4=>?_
    exact (aF h1 (ax u h2 (h3.offA ho hoc ((hd1 a ha).2 y q hy hq) hs) h4))
 ·  refine ae (back y q hq) fun hy hq=>?_
    refine aZ (K.top y q hq htp) fun b cs h1 h2 h3 h4=>?_
    exact (aU b cs h1 h2 h3 (fun z r hz hr=>h4 z r hz (back z r hr).2))
 ·  refine ae (back y q hq) fun hy hq=>?_
    refine ae (K.deep y q hq hdp) fun h1 h2=>?_
    exact ⟨fun b hb=>⟨(h1 b hb).1,fun z r hz hr=>(h1 b hb).2 z r hz (back z r hr).2⟩,h2⟩
theorem sd {x:String}{is:Es}{e:E} (hC:bS fns k C XP) (Si:∀ i,SimE fns k C XP i) (S:SimE fns k C XP e):cM fns k C (.appF x is e):=by
 intro stmt h0 P Z A env σ vals fp s Q Er σ' fl ok K he hN hR
 replace ok:=xR ok
 refine z8 (ok.resolve_right id) fun yy ii pp mm ap v pos sp HM ok1=>?_
 clear ok
 subst HM
 revert ok1; intro ok
 simp only [Bool.and_eq_true,beq_iff_eq] at ok
 refine ae (ok) fun GH oe=>?_
 clear ok
 refine ae (GH) fun GM op=>?_
 clear GH
 refine ae (GM) fun GR hl=>?_
 clear GM
 subst GR
 cases hx:σ x with
 | none=>simp only [g6,hx] at he; exact nB he
 | some q=>
    obtain ⟨vx,mx⟩:=q
    simp only [g6,hx] at he
    cases mx with
    | sh=>exact nB he
    | top=>exact nB he
    | deep=>
      refine aV he fun g hg he=>?_
      refine aV he fun q hq he=>?_
      refine gB he fun p1 hp1 he=>?_
      refine gB he fun r hr he=>?_
      refine aV he fun y hy he=>?_
      by_cases hsy:sx y=true
      · rw [if_pos hsy] at he
        refine aV he fun d' hd' he=>?_
        replace hN:=gD he hN
        obtain ⟨c,d,n⟩:=q
        cases hU hq
        dsimp only at hp1 hd' hN
        refine ae (K.val x _ hx) fun uu GW=>?_
        refine aq (GW) fun v0 hv0 GP hb=>?_
        refine ae (K.deep x _ hx rfl) fun hd1 hd2=>?_
        refine eU (GP) fun X D o vf bs t u mA h1 h2 h3 h4 h5 h6 h7 h8 h9 h10 h11 h12 h13 h14=>?_
        (clear GP; subst h1)
        have nd:(X :: D :: bs).Nodup:=h2▸hd2
        have nd1:=List.nodup_cons.mp nd
        have nd2:=List.nodup_cons.mp nd1.2
        have I:s.heap.Inst X SF.rule mA:=(ba o h3 h4 h5 (.inr (ax D h6 h7 h8)))
        refine wpAny_Expr_any (wpAny_Call_append rfl (by rw [aK oe]; rfl) (by simpa using hl) (by rw [aK oe]; rfl) ?_) (mK K.eok)
        refine ol Si K h13 h14 (fun ok' hq'=>l4 (pG hC hg) K hv0 I h10 h13 ok' hq') op hp1 fun u2 s₁ bs1 kp at1 ru zu=>?_
        refine qD (R.modP p1.1 (h13.k kp.k) nd2.2 hd' at1) fun a vs m G0 ea ham hlen hup=>?_
        (clear at1 ru; subst G0)
        refine (aS a vs.toArray rfl (aU _ m ea rfl rfl rfl) ((K.onK kp.k).eval S oe hr fun u2 s₂ E=>?_))
        obtain ⟨kp2,as2,ru2,_⟩:=E
        rw [cj hy] at ru2
        revert ru2; intro H9
        refine ae (H9) fun ru2 zu2=>?_
        clear H9
        cases ru2.sx_nil hsy
        unfold lim at hlen
        refine wpAny_list_append_plain (hsz:=by rw [List.size_toArray]; unfold sizeLine; exact w6 hlen) ⟨m,kp2.k.get ea rfl⟩ fun h' hp hs=>?_
        refine aj (hp) fun n' ep=>?_
        have ea2:=kp2.k.get ea rfl
        have ru3:R h' u2 y []:=ru2.off (wr:=[a]) (fun b hb o eo=>.inr (by
          rw [List.mem_singleton.mp hb] at eo ⊢
          rw [ea2] at eo; (have oc:=Option.some.inj eo; clear eo; subst oc)
          exact ⟨by simp,fun hm=>by cases hm⟩)) fun b o hb eo=>hs.extBut b o (fun q=>hb (by simp [q])) eo
        have kg1:KG (fun b=>b≠a) s₁.heap h':=(kp2.k.mono fun uu uu=>trivial).trans (KG.same hs (fun q=>q rfl) fun o eo=>by rw [ea2] at eo; (have oc:=Option.some.inj eo; clear eo; subst oc); exact Stay.not_list)
        have rn:=hup h' u2 n' kg1 (by simpa using ep) ru3
        have kg0:KG (fun b=>b≠a) s.heap h':=(kp.k.mono fun uu uu=>trivial).trans kg1
        have neX:X≠a:=fun q=>nd1.1 (q▸List.mem_cons_of_mem _ ham)
        have neD:D≠a:=fun q=>nd2.1 (q▸ham)
        have rvn:RV h' (.ref X) (.rule c d' n) (fp x):=by
          rw [h2]
          refine bh (h8) fun oD es ep' e hd=>?_
          obtain ⟨oD',eD,q,_⟩:=kg0.dataG (.inl neD) e fun fs q=>by rw [hd.1] at q; cases q
          exact gc X D o vf bs t u mA rfl rfl (kg0.hard (.inl neX) h3 (by unfold hardB; rw [h4])) h4 h5 h6 h7 (bT oD' es ep' eD ⟨q.trans hd.1,hd.2⟩) h9 h10 h11 h12 rn (k7 zu2 p1.1 hd' h14)
        have hax:a∈fp x:=by rw [h2]; exact List.mem_cons_of_mem _ (List.mem_cons_of_mem _ ham)
        have K':=((K.onK kp.k).onK kp2.k).inner hx hv0 hax ea2 (by simp) Stay.not_list (fun uu q=>by cases q) hs (V1:=.rule c d' n) rvn
        exact hN _ vals fp ((kp.trans kp2).stp.same hs (hd1 a hax).1 fun o eo=>by rw [ea2] at eo; (have oc:=Option.some.inj eo; clear eo; subst oc); exact Stay.not_list) K' (.id fun z q h=>by
          by_cases ez:z=x
          · exact ⟨_,ez▸hx⟩
          · exact ⟨q,(if_neg ez).symm.trans h⟩)
      · rw [if_neg hsy] at he; exact nB he
theorem sF {x:String}{e:E} (hC:bS fns k C XP) (S:SimE fns k C XP e):cM fns k C (.addF x e):=by
 intro stmt h0 P Z A env σ vals fp s Q Er σ' fl ok K he hN hR
 replace ok:=yM ok
 refine mI (ok.resolve_right id) fun yy mm ap v pos sp HM ok1=>?_
 clear ok
 subst HM
 revert ok1; intro ok
 simp only [Bool.and_eq_true,beq_iff_eq] at ok
 refine ae (ok) fun GH oe=>?_
 clear ok
 refine ae (GH) fun GM op=>?_
 clear GH
 refine ae (GM) fun GR hl=>?_
 clear GM
 subst GR
 cases hx:σ x with
 | none=>simp only [gK,hx] at he; exact nB he
 | some q=>
    obtain ⟨vx,mx⟩:=q
    simp only [gK,hx] at he
    cases mx with
    | sh=>exact nB he
    | top=>exact nB he
    | deep=>
      refine aV he fun g hg he=>?_
      refine aV he fun q hq he=>?_
      refine aV he fun xs hxs he=>?_
      by_cases hlim:xs.length<lim
      · rw [if_pos hlim] at he
        refine gB he fun r hr he=>?_
        replace hN:=gD he hN
        obtain ⟨c,d,n⟩:=q
        cases hU hq
        cases bt hxs
        refine ae (K.val x _ hx) fun uu GW=>?_
        refine aq (GW) fun v0 hv0 GP hb=>?_
        refine ae (K.deep x _ hx rfl) fun hd1 hd2=>?_
        refine eU (GP) fun X D o vf bs t u mA h1 h2 h3 h4 h5 h6 h7 h8 h9 h10 h11 h12 h13 h14=>?_
        (clear GP; subst h1)
        have I:s.heap.Inst X SF.rule mA:=(ba o h3 h4 h5 (.inr (ax D h6 h7 h8)))
        refine h13.isList_k fun a vs m cs e1 ea ra e2=>?_
        have hax:a∈fp x:=by rw [h2,e2]; exact .tail _ (.tail _ (.head _))
        refine wpAny_Expr_any (wpAny_Call_append (by refine au (kQ op) fun p pa FW hb=>?_; rw [FW]; rfl) (by rw [aK oe]; rfl) (by simpa using hl) (by rw [aK oe]; rfl) ?_) (mK K.eok)
        refine l4 (pG hC hg) K hv0 I h10 h13 op fun s₁ kp=>?_
        (clear h10 h13; subst e1)
        have ea1:=kp.k.get ea rfl
        refine (aS a vs.toArray rfl (aU _ m ea1 rfl rfl rfl) ((K.onK kp.k).eval S oe hr fun u2 s₂ E=>?_))
        have kp2:=E.keeps
        have ea2:=kp2.k.get ea1 rfl
        have hlen:vs.length<lim:=by rw [ra.length]; exact hlim
        unfold lim at hlen
        refine wpAny_list_append_plain (hsz:=by rw [List.size_toArray]; unfold sizeLine; exact w6 hlen) ⟨m,ea2⟩ fun h' hp hs=>?_
        have K':=((K.onK kp.k).onK kp2.k).drop hx hax ea2 (by simp) Stay.not_list (fun uu q=>by cases q) hs
        exact hN _ vals fp ((kp.trans kp2).stp.same hs (hd1 a hax).1 fun o eo=>by rw [ea2] at eo; (have oc:=Option.some.inj eo; clear eo; subst oc); exact Stay.not_list) K' (.id fun z q h=>by
          by_cases ez:z=x
          · rw [if_pos ez] at h; exact nN h
          · exact ⟨q,(if_neg ez).symm.trans h⟩)
      · rw [if_neg hlim] at he; exact nB he
end
end Mine
namespace Mine
open PySem PyProof.Rows
section
variable {fns:Fns}{k:Nat}{C:Calls}
variable {h0:Heap}{P Z:Addr→Prop}{A:Around}{env:Env}{σ:St}{vals:String→Option Value}{fp:String→List Addr}{s:Shared}
theorem SOK.lv (hf:fns.hand=false) {h:Heap} (K:SOK fns k h0 P Z A env h σ vals fp):Lv A env h:=by
 refine cy (K.out hf) fun l h1 h2 h3 h4=>?_
 refine (ax l h1 (fun env' he'=>?_) h3)
 rcases List.mem_cons.mp he' with rfl | he'
 ·  refine ag (K.loc.ns) fun m FW _=>?_
    refine aL (FW) fun o es ep e hd _=>?_
    try clear FW
    refine ag (K.loc.cls) fun o' e' hc=>?_
    rw [e] at e'; (have oc:=Option.some.inj e'; clear e'; subst oc)
    exact (aF K.eok.kind (jd _ o es ep h3 h4 e hc hd))
 ·  exact h2.k K.kp0 env' he'
theorem SOK.zd {h:Heap} (K:SOK fns k h0 P Z A env h σ vals fp) (b:Addr) (hb:Z b):dom h b:=K.zdom b hb
theorem SOK.evalX (hf:fns.hand=false) {e:E}{exx:Expr}{c:String}{Q:Value→Shared→Prop}{Er:Value→Shared→Prop} (K:SOK fns k h0 P Z A env s.heap σ vals fp) (S:SimE fns k C XPc e) (ok:okE env.scope.names e exx=true) (he:ev C e σ = .exc c)
    (hE:∀ x s',Stp Z s s'→Lv A env s'.heap→Exc Z s'.heap c env.locals x→Er x s'):wpAny (model prog w) A (PySem.eval exx env) Q Er s:=by
 have e1:ev C e (b6 σ (fv e)) = .exc c:=by rw [aC C e _ σ (bN σ (fv e))]; exact he
 refine S ok (K.cx (fv e)) (by rw [e1]; simp) (fun r hr=>by rw [e1] at hr; cases hr) fun c' hc x s' X=>?_
 rw [e1] at hc; cases hc
 exact hE x s' X.1.stp ((K.onK X.1.k).lv hf) (Fly.exc (X.2.old K.zd))
theorem SOK.evalTX (hf:fns.hand=false) {e:E}{exx:Expr}{c:String}{Q:Bool→Shared→Prop}{Er:Value→Shared→Prop} (K:SOK fns k h0 P Z A env s.heap σ vals fp) (S:SimT fns k C XPc e) (ok:okE env.scope.names e exx=true) (he:ev C e σ = .exc c)
    (hE:∀ x s',Stp Z s s'→Lv A env s'.heap→Exc Z s'.heap c env.locals x→Er x s'):wpAny (model prog w) A (isTrue exx env (PySem.eval exx env)) Q Er s:=by
 have e1:ev C e (b6 σ (fv e)) = .exc c:=by rw [aC C e _ σ (bN σ (fv e))]; exact he
 refine S ok (K.cx (fv e)) (by rw [e1]; simp) (fun r hr=>by rw [e1] at hr; cases hr) fun c' hc x s' X=>?_
 rw [e1] at hc; cases hc
 exact hE x s' X.1.stp ((K.onK X.1.k).lv hf) (Fly.exc (X.2.old K.zd))
theorem t6 {v:V}:NE (ao v):=fun c h=>by
 unfold ao at h
 split at h <;> cases h
theorem uw (hf:fns.hand=false) {e:E} (S:SimE fns k C XPc e):cQ fns k C (.ret e):=by
 intro stmt h0 P Z A env σ vals fp s Q Er c ok K he hE
 replace ok:=tr ok
 revert ok; refine fun F8=>Or.elim F8 (fun F3=>?_) (fun ok=>?_)
 ·  clear F8
    refine au (F3) fun GD GL Hc ok=>?_
    clear F3
    subst Hc
    simp only [iY] at he
    rcases bG he with he | ⟨_,_,he⟩
    · exact wpAny_Return_some (K.evalX hf S ok he hE)
    · cases he
 ·  cases ok
theorem sO (hf:fns.hand=false) {e:E} (S:SimE fns k C XPc e):cQ fns k C (.expr e):=by
 intro stmt h0 P Z A env σ vals fp s Q Er c ok K he hE
 replace ok:=lc ok
 revert ok; refine fun Gb=>Or.elim Gb (fun F7=>?_) (fun ok=>?_)
 ·  clear Gb
    refine i0 (F7) fun GX Hk GV Hh He HK ok=>?_
    clear F7
    subst HK
    simp only [dT] at he
    have hi:interactive env=false:=by unfold interactive; rw [K.eok.kind]; rfl
    rcases bG he with he | ⟨_,_,he⟩
    · exact wpAny_Expr_any (K.evalX hf S ok he hE) hi
    · cases he
 ·  cases ok
theorem o6 (hf:fns.hand=false) {x:String}{e:E} (S:SimE fns k C XPc e):cQ fns k C (.assign x e):=by
 intro stmt h0 P Z A env σ vals fp s Q Er c ok K he hE
 replace ok:=iu ok
 revert ok; refine fun Gf=>Or.elim Gf (fun Gc=>?_) (fun ok=>?_)
 ·  clear Gf
    refine cz (Gc) fun G9 Hz Hp Ho Ht ok=>?_
    clear Gc
    subst Ht
    simp only [Bool.and_eq_true,beq_iff_eq] at ok
    refine ae (ok) fun FX oe=>?_
    try clear ok
    refine ae (FX) fun FY hb=>?_
    try clear FX
    subst FY
    simp only [cw] at he
    rcases bG he with he | ⟨_,_,he⟩
    · refine ae (pM he) fun he hc=>?_
      exact wpAny_Assign_Name (K.evalX hf S oe he hE) (fX (iO hc oe) _ _ _)
    · cases he
 ·  cases ok
theorem vO (hf:fns.hand=false) {c:E}{a b:Ss} (T:SimT fns k C XPc c) (Xa:el fns k C a) (Xb:el fns k C b):cQ fns k C (.ite c a b):=by
 intro stmt h0 P Z A env σ vals fp s Q Er c' ok K he hE
 replace ok:=th ok
 revert ok; refine fun Gp=>Or.elim Gp (fun Ge=>?_) (fun ok=>?_)
 ·  clear Gp
    refine cz (Ge) fun HL Ib HY IF IV ok=>?_
    clear Ge
    subst IV
    simp only [Bool.and_eq_true] at ok
    simp only [gd] at he
    rcases bG he with he | ⟨r,hr,he⟩
    · exact wpAny_If (K.evalTX hf T ok.1.1 he hE)
    · rcases bG he with he | ⟨t,ht,he⟩
      · exact absurd he (t6 c')
      · refine wpAny_If (K.evalT T ok.1.1 (b:=t) (by rw [hr]; exact ht) fun s₁ kp=>?_)
        have K₁:=K.onK kp.k
        cases t with
        | true=>
          rw [if_pos rfl] at he ⊢
          exact Xa ok.1.2 K₁ he fun x s' st=>hE x s' (kp.stp.trans st)
        | false=>
          simp only [Bool.false_eq_true,if_false] at he ⊢
          exact Xb ok.2 K₁ he fun x s' st=>hE x s' (kp.stp.trans st)
 ·  cases ok
theorem qx {st:S}{r:Ss} (S:cM fns k C st) (X:cQ fns k C st) (Xr:el fns k C r):el fns k C (.cons st r):=by
 intro stmts h0 P Z A env σ vals fp s Q Er c ok K he hE
 replace ok:=pE ok
 revert ok; refine fun Gm=>Or.elim Gm (fun Gg=>?_) (fun ok=>?_)
 ·  clear Gm
    refine au (Gg) fun Iq HT HO ok=>?_
    clear Gg
    subst HO
    simp only [Bool.and_eq_true] at ok
    simp only [bP] at he
    rcases bG he with he | ⟨⟨σ₁,fl₁⟩,h1,he⟩
    · exact wpAny_execs_cons (X ok.1 K he hE)
    · dsimp only at he
      cases fl₁ with
      | ret v=>cases he
      | next=>
        refine wpAny_execs_cons (S ok.1 K h1 (fun uu s' vals' fp' st K' F=>?_) fun q e=>by cases e)
        exact Xr ok.2 K' he fun x s'' st'=>hE x s'' (st.trans st')
 ·  cases ok
theorem s9:el fns k C .nil:=by
 intro stmts h0 P Z A env σ vals fp s Q Er c ok K he hE
 simp only [da] at he
 cases he
theorem rq (hf:fns.hand=false) (hC:bS fns k C XPc) {c:String}:cQ fns k C (.raise c):=by
 intro stmt h0 P Z A env σ vals fp s Q Er c' ok K he hE
 replace ok:=ve ok
 revert ok; refine fun GO=>Or.elim GO (fun Gz=>?_) (fun ok=>?_)
 ·  clear GO
    refine jl (Gz) fun IU np t kk p2 cp pos IP ok=>?_
    clear Gz
    subst IP
    simp only [Bool.and_eq_true,beq_iff_eq,decide_eq_true_eq] at ok
    refine ae (ok) fun FZ hl=>?_
    try clear ok
    refine ae (FZ) fun F0 hd=>?_
    try clear FZ
    refine ae (F0) fun F1 hg=>?_
    try clear F0
    subst F1
    simp only [eu] at he
    cases hc:C c with
    | none=>rw [hc] at he; cases he
    | some g=>
      rw [hc] at he
      simp only [av] at he
      split at he
      · rename_i hn
        cases he
        have hN:=(hC c g hc).2.2.1 hn
        have ge:=K.ge.k K.kp0
        refine aq (ge.exc) fun mg g1 g2 _=>?_
        obtain ⟨gm,N,nm,q,bs,hdct,sn,sub,ab,col,dd,k0,k1,k2,k3,k5,mN,e1,e2,e3,e4⟩:=g2 c hN
        refine wpAny_Raise_call_subT (C:=SF.exc c) (nm:=nm) (q:=q) (N:=N) (bs:=bs) (bm:=dU c) (hdct:=hdct) (sn:=sn) (sub:=sub) (ab:=ab) (col:=col) (dd:=dd) (k0:=k0) (k1:=k1) (k2:=k2) (k3:=k3) (k5:=k5)
          PySem.F.excBase_ValueError (mN:=mN) (e4.hasType PySem.F.excBase_ValueError.hasBase) (K.room.1 hf) rfl e3 (Calls.Name_function_global K.eok.kind (fe hg) (Calls.loadGlobal_global (K.eok.glob▸g1) gm ⟨rfl,?_⟩) (nd hd))
        refine Calls.evalArgs_plain (wpAny_items_cons (wpAny_Constant_str (wpAny_items_nil (c8 rfl (by show 1≤sizeLine; rw [sizeLine_eq]; exact DB) e1 e2 e4 (fun h' e Mk=>?_)))) rfl)
        refine aq (Mk.there) fun tt m1 m2 m3=>?_
        have kp:Kp s { s with heap:=h',toks:=s.toks + 1 }:=.of Mk.keeps
        refine hE _ _ kp.stp ((K.onK kp.k).lv hf) (aS e _ rfl (bW (fun q=>(by obtain ⟨o,eo⟩:=K.zdom e q; rw [Mk.new] at eo; cases eo)) hN (ax _ m1 rfl rfl)) (.inl rfl))
      · cases he
 ·  cases ok
theorem io {α β:Type}{o:Out α}{f:α→Out β}{c:String} (h:o.calm.bind f = .exc c):∃ a,f a = .exc c:=by
 cases o with
 | ok a=>exact ⟨a,h⟩
 | exc c=>cases h
 | bad=>cases h
theorem dN {α β:Type}{o:Out α}{f:α→Out β}{c:String}{G:Prop} (h:o.calm.bind f = .exc c) (k:∀ a,f a = .exc c→G):G:=aj (io h) k
theorem oM {α β:Type}{o:Option α}{f:α→Out β}{c:String} (h:av o f = .exc c):∃ a,f a = .exc c:=by
 cases o with
 | some a=>exact ⟨a,h⟩
 | none=>cases h
theorem bv {α β:Type}{o:Option α}{f:α→Out β}{c:String}{G:Prop} (h:av o f = .exc c) (k:∀ a,f a = .exc c→G):G:=aj (oM h) k
theorem xH {σ:St}{x:String}{v:V}{k:PyData}{c:String} (h:fg σ x v k = .exc c):False:=by
 unfold fg at h
 repeat' (split at h)
 all_goals cases h
theorem yU {σ:St}{x:String}{ns:List String}{mx m:Mode}{xs:List PyData}{c:String} (h:fU σ x ns mx xs m = .exc c):False:=by
 unfold fU at h
 repeat' (split at h)
 all_goals cases h
theorem dm {st:S} (h:∀ σ c,ex C st σ≠.exc c):cQ fns k C st:=by
 intro stmt h0 P Z A env σ vals fp s Q Er c ok K he hE
 exact absurd he (h σ c)
theorem oR {x:String}{e:E}:cQ fns k C (.setitem x e):=dm fun σ c h=>by
 simp only [cB] at h
 refine dN h fun r h=>?_
 split at h
 ·  exact xH h
 ·  cases h
theorem pd {x:String}{e:E}:cQ fns k C (.append x e):=dm fun σ c h=>by
 simp only [dG] at h
 refine dN h fun r h=>?_
 split at h
 ·  split at h
    · split at h
      · cases h
      · exact yU h
    · cases h
 ·  cases h
theorem sK {x:String}{is:Es}{e:E}:cQ fns k C (.appF x is e):=dm fun σ c h=>by
 simp only [g6] at h
 split at h
 ·  refine bv h fun uu h=>?_
    refine bv h fun d h=>?_
    refine dN h fun p h=>?_
    refine dN h fun r h=>?_
    refine bv h fun y h=>?_
    split at h
    · obtain ⟨d',h⟩:=oM h; cases h
    · cases h
 ·  cases h
theorem tA {x:String}{e:E}:cQ fns k C (.addF x e):=dm fun σ c h=>by
 simp only [gK] at h
 split at h
 ·  refine bv h fun uu h=>?_
    refine bv h fun d h=>?_
    refine bv h fun xs h=>?_
    split at h
    · obtain ⟨r,h⟩:=io h; cases h
    · cases h
 ·  cases h
theorem uY {x:String}{i:E}:cQ fns k C (.pop x i):=dm fun σ c h=>by
 simp only [li] at h
 refine dN h fun q h=>?_
 split at h
 ·  split at h
    · split at h <;> cases h
    · cases h
 ·  cases h
theorem sT {x:String}:cQ fns k C (.retn x):=dm fun σ c h=>by
 simp only [jH] at h
 split at h <;> cases h
theorem ut:cQ fns k C .bad:=dm fun σ c h=>by simp only [yk] at h; cases h
end
end Mine
namespace Mine
open PySem PyProof.Rows
section
variable {M:Model}{A:Around}{E:Value→Shared→Prop}{g:Array GenState}{dr:Drawn}{tk:Nat}{os:OsState}
theorem o0 {h:Heap}{C D N N':Addr}{nm nm' q q':Str}{bs bs' bm bm':List Value}{hdct hdct':Bool}{sn sn':List Str}{sub sub':List Value}{ab ab':Bool}{col col':Option Bool}{dd dd':Option Addr}{k0 k1 k2 k3 k5 j0 j1 j2 j3 j5:Option Value}{ni ni':String}{e:Addr}{oe:Obj}{Q:Bool→Shared→Prop}
    (hC:h.get? C=some (excClassObj nm q C N bs bm hdct sn sub ab col dd k0 k1 k2 k3 k5 ni)) (hD:h.get? D=some (excClassObj nm' q' D N' bs' bm' hdct' sn' sub' ab' col' dd' j0 j1 j2 j3 j5 ni')) (he:h.get? e=some oe) (hcls:oe.cls = .ref C) (hbase:bm'.contains (.type "BaseException")=true)
    (hq:Q ((Value.ref C :: bm).contains (.ref D)) ⟨h,g,dr,tk,os⟩):wpAny M A (excMatches (.ref e) (.ref D)) Q E ⟨h,g,dr,tk,os⟩:=by
 have hcB:(Value.ref D :: bm').contains (.type "BaseException")=true:=by rw [List.contains_cons,hbase,Bool.or_true]
 have f:=tc_notTuple
 unfold excMatches
 repeat (first | (with_reducible refine wpAny_loadPart_at he ?_; rw [hcls]) | with_reducible refine wpAny_loadPart_at hD ?_ | (with_reducible refine wpAny_isSubtype_exc hD ?_; rw [hcB]) | with_reducible refine wpAny_isSubtype_exc hC ?_ | wp_step)
 cases hb:(Value.ref C :: bm).contains (.ref D) <;> (rw [hb] at hq; wp_walk; exact hq)
end
section
variable {fns:Fns}{k:Nat}{C:Calls}
variable {h0:Heap}{P Z:Addr→Prop}{A:Around}{env:Env}{σ:St}{vals:String→Option Value}{fp:String→List Addr}{s:Shared}
theorem SOK.hand (hf:fns.hand=false) {h:Heap} (K:SOK fns k h0 P Z A env h σ vals fp) (v:Value):SOK { fns with hand:=true } k h0 P Z (A.mark (some v)) env h σ vals fp where
 room:=by
    refine ae (K.room.at hf) fun h1 h2=>?_
    refine ⟨(fun q=>by cases q),?_,?_⟩
    · show A.depth + 2 * k + 1<_; exact A2 h1
    · show A.units + 100 * k + 200<_; exact AS h2
 eok:=K.eok
 ge:=K.ge.flag _ _
 z0:=K.z0
 kp0:=K.kp0
 code:=K.code
 out:=fun q=>by exact nT q
 zdom:=K.zdom
 loc:=K.loc
 val:=K.val
 top:=K.top
 deep:=K.deep
theorem SOK.back {h h₁:Heap}{σ₁:St}{vals₁:String→Option Value}{fp₁:String→List Addr}{v:Value} (K:SOK { fns with hand:=true } k h0 P Z (A.mark (some v)) env h σ vals fp) (K₀:SOK fns k h0 P Z A env h₁ σ₁ vals₁ fp₁):SOK fns k h0 P Z A env h σ vals fp where
 room:=K₀.room
 eok:=K.eok
 ge:=K₀.ge
 z0:=K.z0
 kp0:=K.kp0
 code:=K.code
 out:=K₀.out
 zdom:=K.zdom
 loc:=K.loc
 val:=K.val
 top:=K.top
 deep:=K.deep
theorem calm_bind_ok' {α β:Type}{o:Out α}{f:α→Out β}{b:β} (h:o.calm.bind f = .ok b):∃ a,o = .ok a∧f a = .ok b:=by
 cases o with
 | ok a=>exact (ah a rfl h)
 | exc c=>exact nB h
 | bad=>exact nB h
theorem xv:∀ (b:List H1) {stmts:List Stmt}{h0:Heap}{P Z:Addr→Prop}{A:Around}{env:Env}{σ:St}{vals:String→Option Value}{fp:String→List Addr}{s:Shared}{Q:Flow→Shared→Prop}{Er:Value→Shared→Prop}{σ':St}{fl:Flw},
    ux env.scope.names b stmts=true→SOK fns k h0 P Z A env s.heap σ vals fp→exH b σ = .ok (σ',fl) →
    (fl = .next→∀ s' vals' fp',Stp Z s s'→SOK fns k h0 P Z A env s'.heap σ' vals' fp'→Frm Z (vJ b) σ vals fp σ' vals' fp'→Q .next s')→(∀ r,fl = .ret r→∀ v s',Stp Z s s'→lp h0 P r v s'→Q (.ret v) s') →
    wpAny (model prog w) A (execs stmts env) Q Er s
 | [],stmts,h0,P,Z,A,env,σ,vals,fp,s,Q,Er,σ',fl,ok,K,he,hN,hR=>by
    refine bF (show (dA stmts).isSome=true from ok) fun uu e=>?_
    rw [b8 e]
    cases he
    exact wpAny_execs_nil (hN rfl s vals fp (.refl Z s) K (.id fun z q h=>⟨q,h⟩))
 | .asg x e :: r,stmts,h0,P,Z,A,env,σ,vals,fp,s,Q,Er,σ',fl,ok,K,he,hN,hR=>by
    refine ak ok fun q e1 ok=>?_
    refine dF ok fun o1 o2=>?_
    rw [ck e1]
    unfold exH at he
    split at he
    · rename_i hh
      refine ag (calm_bind_ok' he) fun v hv he=>?_
      have S:SimE fns k noC XPc e:=(db bB e hh).e
      refine wpAny_execs_cons (jo (x:=x) S ⟨fun uu uu uu q=>(by (clear S hN he hv o1 ok; subst q); cases hh),fun uu uu uu uu q=>(by (clear S hN he hv o1 ok; subst q); cases hh)⟩ (show okS env.scope.names (.assign x e) q.1=true from o1) K (σ':=upd (consume σ (fv e) v.2) x v) (fl:=.next) (by simp only [cw]; rw [jV hv]; rfl) (fun uu s₁ vals₁ fp₁ st₁ K₁ F₁=>?_) fun r q=>by cases q)
      exact xv r o2 K₁ he (fun e s' vals' fp' st K' F=>hN e s' vals' fp' (st₁.trans st) K' (F₁.trans F)) fun r e v s' st=>hR r e v s' (st₁.trans st)
    · exact nB he
 | .ret e :: r,stmts,h0,P,Z,A,env,σ,vals,fp,s,Q,Er,σ',fl,ok,K,he,hN,hR=>by
    refine ak ok fun q e1 ok=>?_
    refine dF ok fun o1 o2=>?_
    rw [ck e1]
    unfold exH at he
    split at he
    · rename_i hh
      refine ag (calm_bind_ok' he) fun v hv he=>?_
      cases he
      have S:SimE fns k noC XPc e:=(db bB e hh).e
      exact wpAny_execs_cons (oL S (show okS env.scope.names (.ret e) q.1=true from o1) K (σ':=σ) (fl:=.ret v) (by simp only [iY]; rw [hv]; rfl) (fun q=>by cases q) fun r q u s' st R=>hR r q u s' st R)
    · exact nB he
noncomputable def En (fns:Fns) (k:Nat) (C:Calls) (st:S):Prop:=∀ {stmt:Stmt}{h0:Heap}{P Z:Addr→Prop}{A:Around}{env:Env}{σ:St}{vals:String→Option Value}{fp:String→List Addr}{s:Shared}{Q:Flow→Shared→Prop}{Er:Value→Shared→Prop}{c:String},
 okS env.scope.names st stmt=true→SOK fns k h0 P Z A env s.heap σ vals fp→ex C st σ = .exc c→(∀ x s',XPc c s x s'→Er x s')→wpAny (model prog w) A (exec stmt env) Q Er s
theorem SOK.evalK {e:E}{exx:Expr}{c:String}{Q:Value→Shared→Prop}{Er:Value→Shared→Prop} (K:SOK fns k h0 P Z A env s.heap σ vals fp) (S:SimE fns k C XPc e) (ok:okE env.scope.names e exx=true) (he:ev C e σ = .exc c)
    (hE:∀ x s',XPc c s x s'→Er x s'):wpAny (model prog w) A (PySem.eval exx env) Q Er s:=by
 have e1:ev C e (b6 σ (fv e)) = .exc c:=by rw [aC C e _ σ (bN σ (fv e))]; exact he
 refine S ok (K.cx (fv e)) (by rw [e1]; simp) (fun r hr=>by rw [e1] at hr; cases hr) fun c' hc x s' X=>?_
 rw [e1] at hc; cases hc
 exact hE x s' X
theorem t7 {b:S} (hb:qq b=true) (Se:∀ e,b = .expr e→SimE fns k C XPc e) (Sa:∀ x e,b = .assign x e→SimE fns k C XPc e):En fns k C b:=by
 intro stmt h0 P Z A env σ vals fp s Q Er c ok K he hE
 cases b with
 | expr e=>
    replace ok:=lc ok
    revert ok; refine fun F8=>Or.elim F8 (fun F3=>?_) (fun ok=>?_)
    · clear F8
      refine i0 (F3) fun GD GL Hg GX Hk HN ok=>?_
      clear F3
      subst HN
      simp only [dT] at he
      have hi:interactive env=false:=by unfold interactive; rw [K.eok.kind]; rfl
      rcases bG he with he | ⟨_,_,he⟩
      · exact wpAny_Expr_any (K.evalK (Se e rfl) ok he hE) hi
      · cases he
    · cases ok
 | assign x e=>
    replace ok:=iu ok
    revert ok; refine fun Gb=>Or.elim Gb (fun F7=>?_) (fun ok=>?_)
    · clear Gb
      refine cz (F7) fun Hh He GZ G9 GY ok=>?_
      clear F7
      subst GY
      simp only [Bool.and_eq_true,beq_iff_eq] at ok
      refine ae (ok) fun FW oe=>?_
      try clear ok
      refine ae (FW) fun FX hb=>?_
      try clear FW
      subst FX
      simp only [cw] at he
      rcases bG he with he | ⟨_,_,he⟩
      · refine ae (pM he) fun he hc=>?_
        exact wpAny_Assign_Name (K.evalK (Sa x e rfl) oe he hE) (fX (iO hc oe) _ _ _)
      · cases he
    · cases ok
 | _=>exact nF hb
theorem uA {c d:String} (inj:∀ c∈SF.excN,∀ c' ∈ "PickError" :: SF.excN,SF.exc c=SF.exc c'→c=c') (hc:c∈SF.excN) (hd:d∈SF.excN):(Value.ref (SF.exc c) :: dU c).contains (.ref (SF.exc d))=decide (d=c∨d = "PickError"):=by
 have hb:bmV.contains (.ref (SF.exc d))=false:=by unfold bmV; simp
 by_cases h1:d=c
 ·  (clear hc; subst h1); simp
 ·  have n1:SF.exc d≠SF.exc c:=fun q=>h1 (inj d hd c (.tail _ hc) q)
    rw [List.contains_cons]
    have e1:(Value.ref (SF.exc d) == Value.ref (SF.exc c))=false:=by simpa using n1
    rw [e1,Bool.false_or]
    unfold dU
    by_cases h2:d = "PickError"
    · (clear e1 hb hd n1; subst h2)
      have:c ≠ "PickError" := fun q=>h1 q.symm
      rw [if_neg this]
      simp
    · have n2:SF.exc d≠SF.exc "PickError" := fun q=>h2 (inj d hd _ (.head _) q)
      have:decide (d=c∨d = "PickError")=false:=by simp [h1,h2]
      rw [this]
      split
      · exact hb
      · rw [List.contains_cons,hb,Bool.or_false]
        simpa using n2
theorem sY (hf:fns.hand=false) (hC:bS fns k C XPc) {c:String}{x:Value}{Q:Flow→Shared→Prop}{Er:Value→Shared→Prop}{σ':St}{fl:Flw}{l:List Env} (K₀:SOK fns k h0 P Z A env s.heap σ vals fp):∀ (hs:List (String × List H1)) (ds:List ExceptHandler) {h:Heap}{tk:Nat},qp env.scope.names hs ds=true →
    K s.heap h→FlyA (dom s.heap) h c .none x→FrOk h l→iE C c hs σ = .ok (σ',fl) →
    (fl = .next→∀ s' vals' fp',Stp Z s s'→SOK fns k h0 P Z A env s'.heap σ' vals' fp'→Frm Z (qg hs) σ vals fp σ' vals' fp'→Q .next s')→(∀ r,fl = .ret r→∀ v s',Stp Z s s'→lp h0 P r v s'→Q (.ret v) s') →
    wpAny (model prog w) A (handleBy x env ds) Q Er { s with heap:=h,toks:=tk }
 | [],ds,h,tk,ok,kk,fly,fr,he,hN,hR=>by exact nB he
 | p :: r,[],h,tk,ok,kk,fly,fr,he,hN,hR=>by exact nF ok
 | p :: r,d :: ds,h,tk,ok,kk,fly,fr,he,hN,hR=>by
    refine dF ok fun o1 o2=>?_
    refine ak o1 fun q e1 o1=>?_
    refine ak o1 fun n e2 o1=>?_
    simp only [Bool.and_eq_true,beq_iff_eq] at o1
    refine ae (o1) fun FY ob=>?_
    try clear o1
    refine ae (FY) fun FZ hd=>?_
    try clear FY
    refine ae (FZ) fun hn hg=>?_
    try clear FZ
    refine aj (uC e1) fun pos e3=>?_
    rw [e3,aY e2,hn]
    unfold iE at he
    refine aV he fun gC hgC he=>?_
    split at he
    · rename_i hne
      have hdN:=(hC p.1 gC hgC).2.2.1 hne
      have ge:=K₀.ge.k (KG.trans K₀.kp0 kk)
      refine aq (ge.exc) fun mg g1 g2 g3=>?_
      obtain ⟨gm,N',nm',q',bs',hdct',sn',sub',ab',col',dd',j0,j1,j2,j3,j5,mN',d1,d2,d3,d4⟩:=g2 p.1 hdN
      have fly':=fly
      refine az (fly) fun e vs F0 F1 _=>?_
      try clear fly
      subst F0
      refine aD (F1) fun ne cn Go=>?_
      try clear F1
      refine aq (Go) fun oe ee hc hdt=>?_
      try clear Go
      obtain ⟨_,N,nm,qn,bs,hdct,sn,sub,ab,col,dd,k0,k1,k2,k3,k5,mN,c1,c2,c3,c4⟩:=g2 c cn
      refine wpAny_handleBy_cons (codeAny_handlers_test (Calls.Name_function_global K₀.eok.kind (fe hg) (Calls.loadGlobal_global (K₀.eok.glob▸g1) gm ?_) (nd hd))) (by intro q; cases q)
      refine o0 c1 d1 ee hc (d4.hasType PySem.F.excBase_ValueError.hasBase) ?_
      rw [uA g3 cn hdN]
      split at he
      · rename_i hm
        rw [decide_eq_true hm]
        refine codeAny_handlers_suite (j6 (l:=l) fr fly' fun h₄ f₄ k₄ F₄=>?_)
        have k04:K s.heap h₄:=Mine.K.step kk k₄ fun b o e=>⟨o,e⟩
        have st₄:Stp Z s { s with heap:=h₄,toks:=tk }:=(aA h₄ tk rfl (k04.mono fun uu uu=>trivial))
        refine xv (fns:={ fns with hand:=true }) (s:={ s with heap:=h₄,toks:=tk }) p.2 ob ((K₀.onK k04).hand hf (.ref e)) he (fun e s' vals' fp' st K' F=>?_) fun r e v s' st R=>hR r e v s' (st₄.trans st) R
        (clear hR; subst e)
        exact hN rfl s' vals' fp' (st₄.trans st) (K'.back K₀) (F.more fun y hy=>List.mem_append_left _ hy)
      · rename_i hm
        rw [decide_eq_false hm]
        exact sY hf hC K₀ r ds o2 kk fly' fr he (fun e s' vals' fp' st K' F=>hN e s' vals' fp' st K' (F.more fun y hy=>List.mem_append_right _ hy)) hR
    · exact nB he
theorem ym {b:S}{hs:List (String × List H1)}{o:Out (St × Flw)}{r:St × Flw} (h:orH C b hs σ o = .ok r):o = .ok r∨∃ c,o = .exc c∧qq b=true∧iE C c hs σ = .ok r:=by
 cases o with
 | ok a=>exact .inl h
 | exc c=>
    simp only [orH] at h
    split at h
    · rename_i q; exact .inr (ax c rfl q h)
    · exact nB h
 | bad=>exact nB h
theorem vI (hf:fns.hand=false) (hC:bS fns k C XPc) {b:S}{hs:List (String × List H1)} (Sb:cM fns k C b) (Se:∀ e,b = .expr e→SimE fns k C XPc e) (Sa:∀ x e,b = .assign x e→SimE fns k C XPc e):cM fns k C (.tryS b hs):=by
 intro stmt h0 P Z A env σ vals fp s Q Er σ' fl ok K he hN hR
 refine kA (ze ok) fun t d ds p F2 ob oh=>?_
 (clear ok; subst F2)
 simp only [jO] at he
 refine wpAny_Try_except (wpAny_execs_cons ?_)
 rcases ym he with he | ⟨c,he,h1,h2⟩
 ·  refine Sb ob K he (fun e s' vals' fp' st K' F=>?_) fun r e v s' st R=>hR r e v s' st R
    exact wpAny_execs_nil (wpAny_execs_nil (hN e s' vals' fp' st K' (F.more fun y hy=>List.mem_append_left _ hy)))
 ·  refine t7 h1 Se Sa ob K he fun x s₁ X=>?_
    refine ae (X) fun F4 fly=>?_
    try clear X
    refine au (F4) fun h₁ tk₁ F5 k₁=>?_
    try clear F4
    subst F5
    refine aq ((K.onK k₁).lv hf) fun l l1 l2 l3=>?_
    have hN':∀ b,dom s.heap b→∃ o,h₁.get? b=some o:=fun b ⟨o,e⟩=>ag (k₁ b o (.inl trivial) e) fun o' e' uu=>⟨o',e'⟩
    refine vg hN' l1 l2 l3 (Fly.exc fly) fun h₂ f₂ k₂ F₂=>j6 F₂ f₂ fun h₃ f₃ k₃ F₃=>?_
    exact sY hf hC K hs (d :: ds) oh (Mine.K.step (Mine.K.step k₁ k₂ fun b o e=>⟨o,e⟩) k₃ fun b o e=>⟨o,e⟩) f₃ F₃ h2 (fun e s' vals' fp' st K' F=>hN e s' vals' fp' st K' (F.more fun y hy=>List.mem_append_right _ hy)) hR
theorem r6 {c:String}:∀ (b:List H1) (σ:St),exH b σ≠.exc c
 | [],σ,h=>by cases h
 | .asg x e :: r,σ,h=>by
    unfold exH at h
    split at h
    · refine dN h fun q h=>?_
      exact r6 r _ h
    · cases h
 | .ret e :: r,σ,h=>by
    unfold exH at h
    split at h
    · refine dN h fun q h=>?_
      cases h
    · cases h
theorem pJ {c c':String}:∀ (hs:List (String × List H1)) (σ:St),iE C c hs σ≠.exc c'
 | [],σ,h=>by cases h
 | p :: r,σ,h=>by
    unfold iE at h
    refine bv h fun uu h=>?_
    split at h
    · split at h
      · exact r6 _ _ h
      · exact pJ r σ h
    · cases h
theorem uo {b:S}{hs:List (String × List H1)}:cQ fns k C (.tryS b hs):=dm fun σ c h=>by
 simp only [jO] at h
 cases o:ex C b σ with
 | ok a=>rw [o] at h; cases h
 | exc c=>
    rw [o] at h
    simp only [orH] at h
    split at h
    · exact pJ _ _ h
    · cases h
 | bad=>rw [o] at h; cases h
end
end Mine
namespace Mine
open PySem PyProof.Rows
section
variable {fns:Fns}{k:Nat}{C:Calls}{XP:String→Shared→Value→Shared→Prop}
variable {h0:Heap}{P Z:Addr→Prop}{A:Around}{env:Env}{σ:St}{vals:String→Option Value}{fp:String→List Addr}
theorem RV.fields {h h':Heap}{wr:List Addr}{v:Value}{x:V}{as:List Addr} (r:RV h v x as) (hw:∀ b∈wr,∃ o,h.get? b=some o∧(∀ C,o.cls≠.ref C)∧∃ fs,o.data = .fields fs) (kp:∀ b o,b∉wr→h.get? b=some o→h'.get? b=some o):RV h' v x as:=by
 have out:∀ b o,h.get? b=some o→(∀ fs,o.data≠.fields fs)→b∉wr:=fun b o e hd hm=>by
    refine aq (hw b hm) fun o' e' _ Gk=>?_
    refine aj (Gk) fun fs q=>?_
    try clear Gk
    rw [e] at e'; (have oc:=Option.some.inj e'; clear e'; subst oc)
    exact hd fs q
 have key:∀ ks b,IsTupleKey (intKind prog w) h ks b→IsTupleKey (intKind prog w) h' ks b:=fun ks b hk=>by
    refine aL (hk) fun o' it n a1 a2 a3=>?_
    try clear hk
    exact (ce o' it n (kp b o' (out b o' a1 fun fs q=>by rw [a3.1] at q; cases q) a1) a2 a3)
 cases x with
 | d x=>exact ⟨r.1.off (wr:=wr) (fun b hb o e=>.inl fun vs n q=>by
      refine aq (hw b hb) fun o' e' _ Go=>?_
      refine aj (Go) fun fs q'=>?_
      try clear Go
      rw [e] at e'; (have oc:=Option.some.inj e'; clear e'; subst oc)
      rw [q] at q'; cases q') kp,r.2⟩
 | dic0=>
    refine iV (r) fun b h1 h2 h3 FW FX=>?_
    try clear r
    refine eh (FW) fun o es ep e hx hd hr=>?_
    try clear FW
    refine cH (FX) fun o' es' ep' e' h4 h5 h6 h7 h8=>?_
    try clear FX
    exact (ij b h1 h2 h3 (fB o es ep (kp b o (out b o e fun fs q=>by rw [hd] at q; cases q) e) hx hd hr) (eO o' es' ep' (kp b o' (out b o' e' fun fs q=>by rw [h5] at q; cases q) e') h4 h5 h6 (fun y hy=>key _ _ (h7 y hy)) h8))
 | dicI ks=>
    refine cy (r) fun b h1 h2 h3 FY=>?_
    try clear r
    refine eh (FY) fun o es ep e hx hd hr=>?_
    try clear FY
    exact (ba b h1 h2 h3 (fB o es ep (kp b o (out b o e fun fs q=>by rw [hd] at q; cases q) e) hx hd hr))
 | dicT ks=>
    refine kn (r) fun b xs h1 h2 h3 FZ h9=>?_
    try clear r
    refine cH (FZ) fun o' es' ep' e' h4 h5 h6 h7 h8=>?_
    try clear FZ
    exact (dy b xs h1 h2 h3 (eO o' es' ep' (kp b o' (out b o' e' fun fs q=>by rw [h5] at q; cases q) e') h4 h5 h6 (fun y hy=>key _ _ (h7 y hy)) h8) h9.1 h9.2.1 (fun x hx=>(h9.2.2 x hx).off (wr:=wr) (fun b hb o e=>.inl fun vs n q=>by
      refine aq (hw b hb) fun o' e' _ Gn=>?_
      refine aj (Gn) fun fs q'=>?_
      try clear Gn
      rw [e] at e'; (have oc:=Option.some.inj e'; clear e'; subst oc)
      rw [q] at q'; cases q') kp))
 | rule c d n=>
    refine eU (r) fun x D o vf bs t u mA h1 h2 h3 h4 h5 h6 h7 F0 h9 h10 h11 h12 h13 h14=>?_
    try clear r
    refine bh (F0) fun oD es ep e hd=>?_
    try clear F0
    have nx:x∉wr:=fun hm=>by
      refine aq (hw x hm) fun o' e' hn _=>?_
      rw [h3] at e'; (have oc:=Option.some.inj e'; clear e'; subst oc)
      exact hn _ h4
    have nD:D∉wr:=out D oD e fun fs q=>by rw [hd.1] at q; cases q
    exact (gc x D o vf bs t u mA h1 h2 (kp x o nx h3) h4 h5 h6 h7 (bT oD es ep (kp D oD nD e) hd) h9 h10 h11 h12 (h13.off (wr:=wr) (fun b hb o e=>.inl fun vs n q=>by
      refine aq (hw b hb) fun o' e' _ Gu=>?_
      refine aj (Gu) fun fs q'=>?_
      try clear Gu
      rw [e] at e'; (have oc:=Option.some.inj e'; clear e'; subst oc)
      rw [q] at q'; cases q') kp) h14)
theorem SOK.iter {h h':Heap}{wr:List Addr} (K:SOK fns k h0 P Z A env h σ vals fp) (hw:∀ b∈wr,∃ o,h.get? b=some o∧(∀ C,o.cls≠.ref C)∧∃ fs,o.data = .fields fs) (hw':∀ b∈wr,Z b→∃ o,h'.get? b=some o) (hw0:∀ b∈wr,h0.get? b=none) (hns:∀ b∈wr,∀ o,h.get? b=some o→¬ Stay o) (kp:∀ b o,b∉wr→h.get? b=some o→h'.get? b=some o):SOK fns k h0 P Z A env h' σ vals fp:=by
 have out:∀ b o,h.get? b=some o→(∀ fs,o.data≠.fields fs)→b∉wr:=fun b o e hd hm=>by
    refine aq (hw b hm) fun o' e' _ GA=>?_
    refine aj (GA) fun fs q=>?_
    try clear GA
    rw [e] at e'; (have oc:=Option.some.inj e'; clear e'; subst oc)
    exact hd fs q
 refine ⟨K.room,K.eok,K.ge,K.z0,Mine.K.step K.kp0 (KG.ofW kp hns) (fun b o e hm=>by rw [hw0 b hm] at e; cases e),K.code,K.out,fun b hb=>?_,⟨(let ⟨m,⟨o',es,ep,e',hd,_⟩,_⟩:=K.loc.ns; ag (K.loc.cls) fun o e c=>(ah o (kp _ o (out _ o e fun fs q=>by rw [e] at e'; (have oc:=Option.some.inj e'; clear e'; subst oc); rw [hd] at q; cases q) e) c)),?_,K.loc.nz,fun n c a b=>?_,fun x v c a b d=>?_,K.loc.apart,K.loc.kinds⟩,fun x p hp=>?_,K.top,K.deep⟩
 ·  by_cases hm:b∈wr
    · exact hw' b hm hb
    · refine aj (K.zdom b hb) fun o e=>?_
      exact ⟨o,kp b o hm e⟩
 ·  refine ag (K.loc.ns) fun m F1 hv=>?_
    refine aL (F1) fun o es ep e hd hr=>?_
    try clear F1
    exact (ah m (ce o es ep (kp _ o (out _ o e fun fs q=>by rw [hd] at q; cases q) e) hd hr) hv)
 ·  refine aD (K.loc.cell n c a b) fun h1 h2 GC=>?_
    refine au (GC) fun v o h3 h4=>?_
    try clear GC
    exact (bW h1 h2 (aA v o (kp c o (out c o h3 fun fs q=>by rw [h4] at q; cases q) h3) h4))
 ·  refine ag (K.loc.cval x v c a b d) fun o h3 h4=>?_
    exact (ah o (kp c o (out c o h3 fun fs q=>by rw [h4] at q; cases q) h3) h4)
 ·  refine ae (K.val x p hp) fun h1 Hx=>?_
    refine aq (Hx) fun v h2 h3 h4=>?_
    try clear Hx
    exact (aF h1 (ax v h2 (h3.fields hw kp) h4))
theorem SOK.excl {s:Shared}{ns:List String}{m:Mode}{F:List Addr} (K:SOK fns k h0 P Z A env s.heap σ vals fp) (ha:∀ a∈F,Own σ fp ns a∨s.heap.get? a=none) (hd:m = .deep→∀ a∈F,s.heap.get? a=none) :
    ∀ y q,Mine.consume σ ns m y=some q→(q.2 = .top→∀ a bs,fp y=a :: bs→a∉F)∧(q.2 = .deep→∀ a∈fp y,a∉F):=by
 have nf:∀ a,s.heap.get? a=none→∀ y q,σ y=some q→a∉fp y:=fun a e y q hq hm=>by
    refine ae (K.val y q hq) fun uu GQ=>?_
    refine aq (GQ) fun u _ hr _=>?_
    try clear GQ
    refine aj (hr.there a hm) fun o e'=>?_
    rw [e] at e'; exact nN e'
 intro y q hq
 by_cases hdp:m = .deep
 ·  have hq':σ y=some q:=by unfold Mine.consume at hq; rwa [if_pos hdp] at hq
    exact ⟨fun uu a bs e hm=>nf a (hd hdp a hm) y q hq' (by rw [e]; exact .head _),fun uu a ha' hm=>nf a (hd hdp a hm) y q hq' ha'⟩
 ·  have hq2:Mine.demote σ ns y=some q:=by unfold Mine.consume at hq; rwa [if_neg hdp] at hq
    refine dQ hq2 fun q' hq' e1 hc=>?_
    rcases hc with ⟨_,rfl⟩ | ⟨hn,rfl⟩
    · refine ⟨fun h=>absurd h f9,fun h a ha'=>?_⟩
      refine ae (K.val y q' hq') fun uu GS=>?_
      refine aq (GS) fun u _ hr _=>?_
      try clear GS
      rw [hr.scal_nil (eS h)] at ha'
      cases ha'
    · refine ⟨fun h a bs e hm=>?_,fun h a ha' hm=>?_⟩
      · refine Or.elim (ha a hm) (fun F3=>?_) (fun h1=>?_)
        · refine az (F3) fun z p hz hp hf=>?_
          clear F3
          refine aZ (K.top y q hq' h) fun a' bs' e' _ _ h4=>?_
          rw [e] at e'; cases e'
          exact h4 z p (fun q=>hn (q▸hz)) hp hf
        · exact nf a h1 y q hq' (by rw [e]; exact .head _)
      · refine Or.elim (ha a hm) (fun F7=>?_) (fun h1=>?_)
        · refine az (F7) fun z p hz hp hf=>?_
          clear F7
          exact ((K.deep y q hq' h).1 a ha').2 z p (fun q=>hn (q▸hz)) hp hf
        · exact nf a h1 y q hq' ha'
noncomputable def FI (fns:Fns) (k:Nat) (C:Calls) (h0:Heap) (P Z:Addr→Prop) (A:Around) (env:Env) (x:String) (b:Ss) (s s₂:Shared) (ds:List PyData) (F wr:List Addr) (L:Addr→Prop) (St:Nat→Heap→Prop) (out:Out (Mine.St × Flw)) (σ₀:Mine.St) (vals:String→Option Value) (fp:String→List Addr) (n:Nat) (s':Shared):Prop :=
 ∃ (j:Nat) (σj:Mine.St) (vals':String→Option Value) (fp':String→List Addr),Stp Z s s'∧SOK fns k h0 P (fun b=>Z b∨(b∈F∨b∈wr∨L b)) A env s'.heap σj vals' fp'∧St j s'.heap∧j≤ds.length∧n=ds.length + 1 - j ∧
        cK (fun y σ=>exs C b (upd σ x (mk (.d y)))) (ds.drop j) σj=out∧KG (fun b=>Z b∨(b∈F∨L b)) s₂.heap s'.heap∧Frm (fun b=>Z b∨L b) (x :: gP b) σ₀ vals fp σj vals' fp'
set_option maxHeartbeats 1000000 in
theorem rV {x:String}{it:It}{b:Ss} (Si:dB fns k C XP it) (Sb:ej fns k C b) (Xb:el fns k C b) {stmt:Stmt}{s:Shared}{Q:Flow→Shared→Prop}{Er:Value→Shared→Prop}{σ₀:Mine.St}{out:Out (Mine.St × Flw)}{ds:List PyData}{md:Mode} (L:Addr→Prop)
    (ok:okS env.scope.names (.for1 x it b) stmt=true) (K:SOK fns k h0 P Z A env s.heap σ vals fp) (e1:bj C it (b6 σ (bI it)) = .ok (ds,md)) (he1:cK (fun y σ=>exs C b (upd σ x (mk (.d y)))) ds σ₀=out) (hnb:out≠.bad)
    (hK:∀ h',Mine.K s.heap h'→SOK fns k h0 P Z A env h' σ₀ vals fp) (cs:∀ y q,σ₀ y=some q→∃ q',σ y=some q')
    (hex:∀ F:List Addr,(∀ a∈F,Own σ fp (bI it) a∨s.heap.get? a=none)→(md = .deep→∀ a∈F,s.heap.get? a=none)→∀ y q,σ₀ y=some q→(q.2 = .top→∀ a bs,fp y=a :: bs→a∉F)∧(q.2 = .deep→∀ a∈fp y,a∉F))
    (hL1:∀ a,L a→a≠env.locals∧∃ vs n,s.heap.get? a=some ⟨.type "list", none,.seq vs n,#[]⟩) (hL2:∀ y q,σ₀ y=some q→∀ a∈fp y,¬ L a) (hsc:(∀ d∈ds,sx d=true)∨∀ y q,σ y=some q→∃ q',σ₀ y=some q')
    (hN:∀ σ',out = .ok (σ',.next)→∀ s' vals' fp',Stp Z s s'→KG (fun b=>Z b∨L b) s.heap s'.heap→SOK fns k h0 P Z A env s'.heap σ' vals' fp'→Frm (fun b=>Z b∨L b) (x :: gP b) σ₀ vals fp σ' vals' fp'→Q .next s')
    (hR:∀ σ' r,out = .ok (σ',.ret r)→∀ v s',Stp Z s s'→lp h0 P r v s'→Q (.ret v) s') (hX:∀ c,out = .exc c→∀ x s',Stp Z s s'→Lv A env s'.heap→Exc Z s'.heap c env.locals x→Er x s'):wpAny (model prog w) A (exec stmt env) Q Er s:=by
 replace ok:=pR ok
 revert ok; refine fun Gf=>Or.elim Gf (fun Gc=>?_) (fun ok=>?_)
 ·  clear Gf
    refine i0 (Gc) fun t pt iter body spos HN ok=>?_
    clear Gc
    subst HN
    simp only [Bool.and_eq_true,beq_iff_eq] at ok
    refine ae (ok) fun F2 ob=>?_
    try clear ok
    refine ae (F2) fun F4 oi=>?_
    try clear F2
    refine ae (F4) fun F5 hb=>?_
    try clear F4
    subst F5
    refine hJ hb fun g1 g2 g3=>?_
    refine wpAny_For (Si oi (K.cx (bI it)) (by rw [e1]; simp) (fun q' hq' i s₂ I=>?_) fun c hc=>by rw [e1] at hc; cases hc) (lm oi env)
    rw [e1] at hq'; (have oc:=Out.ok.inj hq'; clear hq'; subst oc)
    obtain ⟨kp₂,F6,hsm⟩:=I
    refine sm (F6) fun I fpw wr Pw St F Ga W hst hwr hfp hPw hF hFP hFd=>?_
    try clear F6
    subst Ga
    have exists_s:∀ b o,s.heap.get? b=some o→b∉wr:=fun b o e hm=>by rw [(hwr b hm).1] at e; exact nN e
    have hLs:∃ o es ep,s.heap.get? env.locals=some o∧o.data = .dict es ep:=by
      refine ag (K.loc.ns) fun m F9 _=>?_
      refine aL (F9) fun o es ep e hd _=>?_
      try clear F9
      exact (bT o es ep e hd)
    have hFL:env.locals∉F:=fun hm=>by
      refine bh (hLs) fun o es ep e hd=>?_
      try clear hLs
      refine bi (hF _ hm) fun vs n e'=>?_
      obtain ⟨_,e1,d1,_⟩:=kp₂.k.data e fun fs q=>by rw [hd] at q; cases q
      rw [e1] at e'; (have oc:=Option.some.inj e'; clear e'; (clear e1 right; subst oc)); rw [hd] at d1; cases d1
    have ex0:=hex F hFP hFd
    have nf:∀ y q,σ₀ y=some q→∀ a∈fp y,a∉wr:=fun y q hq a ha hm=>by
      refine aj (cs y q hq) fun q' hq'=>?_
      refine ae (K.val y q' hq') fun uu GW=>?_
      refine aq (GW) fun u _ hr _=>?_
      try clear GW
      refine aj (hr.there a ha) fun o e=>?_
      exact exists_s a o e hm
    have wz:∀ b∈wr,¬ Z b:=fun b hm hz=>by
      refine aj (K.zdom b hz) fun o e=>?_
      exact exists_s b o e hm
    have w0:∀ b∈wr,h0.get? b=none:=fun b hm=>by
      cases e:h0.get? b with
      | none=>rfl
      | some o=>exact absurd (K.z0 b o e) (wz b hm)
    have K₂:SOK fns k h0 P (fun b=>Z b∨(b∈F∨b∈wr∨L b)) A env s₂.heap σ₀ vals fp:=by
      refine (hK _ kp₂.k).freeze (fun b hb=>?_) (fun hm=>?_) (fun n c hkn hc hm=>?_) (fun y q hq hqt a bs e hm=>?_) (fun y q hq hqd a ha hm=>?_)
      · rcases hb with hb | hb | hb
        · obtain ⟨vs,n,e⟩:=hF b hb; exact ⟨_,e⟩
        · obtain ⟨o,e,_⟩:=(hwr b hb).2.2 0 _ hst; exact ⟨o,e⟩
        · obtain ⟨_,vs,n,e⟩:=hL1 b hb; exact ⟨_,kp₂.k.get e rfl⟩
      · rcases hm with hm | hm | hm
        · exact hFL hm
        · refine bh (hLs) fun o es ep e hd=>?_
          try clear hLs
          exact exists_s _ o e hm
        · exact (hL1 _ hm).1 rfl
      · refine aD (K.loc.cell n c hkn hc) fun uu uu Ir=>?_
        refine au (Ir) fun v o e hd=>?_
        try clear Ir
        rcases hm with hm | hm | hm
        · refine bi (hF c hm) fun vs n e'=>?_
          obtain ⟨_,e1,d1,_⟩:=kp₂.k.data e fun fs q=>by rw [hd] at q; cases q
          rw [e1] at e'; (have oc:=Option.some.inj e'; clear e'; (clear e1 right; subst oc)); rw [hd] at d1; cases d1
        · exact exists_s c o e hm
        · refine ae (hL1 c hm) fun uu IB=>?_
          refine bi (IB) fun vs n e'=>?_
          try clear IB
          rw [e] at e'; (have oc:=Option.some.inj e'; clear e'; (clear e; subst oc)); cases hd
      · rcases hm with hm | hm | hm
        · exact (ex0 y q hq).1 hqt a bs e hm
        · exact nf y q hq a (by rw [e]; exact .head _) hm
        · exact hL2 y q hq a (by rw [e]; exact .head _) hm
      · rcases hm with hm | hm | hm
        · exact (ex0 y q hq).2 hqd a ha hm
        · exact nf y q hq a ha hm
        · exact hL2 y q hq a ha hm
    have FP:∀ a∈F,a≠env.locals∧(P a∨h0.get? a=none):=fun a ha=>by
      refine ⟨fun q=>hFL (q▸ha),?_⟩
      rcases hFP a ha with h | h
      · exact (K.own h).2.2
      · right
        cases e:h0.get? a with
        | none=>rfl
        | some o=>obtain ⟨_,e'⟩:=Mine.K.there K.kp0 e; rw [e'] at h; exact nM h
    have stp₂:Stp Z s s₂:=kp₂.stp
    refine codeAny_forLoop_any
      (FI fns k C h0 P Z A env x b s s₂ ds F wr L St out σ₀ vals fp) ?_ (ds.length + 1)
      (tH 0 _ vals fp stp₂ K₂ hst (Nat.zero_le _) rfl (by simpa using he1) KG.refl (.id fun z q h=>⟨q,h⟩))
    intro n s' Gh
    refine zh (Gh) fun j σj vals' fp' stp' K' hst' hj Gi hloop hkp hfr=>?_
    try clear Gh
    subst Gi
    have hLw:∀ b,L b→b∉wr:=fun b hb=>let ⟨_,vs,n,e⟩:=hL1 b hb; exists_s b _ e
    have hwf:∀ b∈wr,∃ o,s'.heap.get? b=some o∧(∀ C,o.cls≠.ref C)∧∃ fs,o.data = .fields fs:=fun b hm=>aq ((hwr b hm).2.2 j _ hst') fun o e g f=>(ax o e g.2.2 f)
    have hFw:∀ a∈F,a∉wr:=fun a ha hm=>(hwr a hm).2.1 ha
    have hns:∀ b∈wr,∀ o,s'.heap.get? b=some o→¬ Stay o:=fun b hm o e=>by
      refine aq ((hwr b hm).2.2 j _ hst') fun o' e' Gj IE=>?_
      refine aj (IE) fun fs q=>?_
      try clear IE
      refine ae (Gj) fun uu hc=>?_
      try clear Gj
      rw [e] at e'; (have oc:=Option.some.inj e'; clear e'; (clear uu; subst oc))
      exact fun x=>x.elim (fun x=>hc.1 x.1) fun x=>let ⟨_,vs,n,e⟩:=x; by rw [q] at e; cases e
    have step1:∀ h₁ tk₁,(∀ b∈wr,∃ o,h₁.get? b=some o)→(∀ b o,b∉wr→s'.heap.get? b=some o→h₁.get? b=some o)→SOK fns k h0 P (fun b=>Z b∨(b∈F∨b∈wr∨L b)) A env h₁ σj vals' fp'∧Stp Z s { s' with heap:=h₁,toks:=tk₁ }:=fun h₁ tk₁ hw₁ hk₁=>by
      refine ⟨K'.iter hwf (fun b hm _=>hw₁ b hm) w0 hns hk₁,?_⟩
      refine au (stp') fun hh tk' Gr kk=>?_
      try clear stp'
      (clear K' hkp hst' hwf; subst Gr)
      exact (aA h₁ tk₁ rfl (kk.trans ((KG.ofW hk₁ hns).mono fun b hz hm=>wz b hm hz)))
    by_cases hlt:j<ds.length
    · obtain ⟨d,hd⟩:∃ d,ds[j]? = some d:=⟨_,List.getElem?_eq_getElem hlt⟩
      have hdd:ds.drop j=d :: ds.drop (j + 1):=by
        rw [List.drop_eq_getElem_cons hlt]
        rw [List.getElem?_eq_getElem hlt] at hd
        (have oc:=Option.some.inj hd; clear hd; subst oc); rfl
      rw [hdd] at hloop
      simp only [cK] at hloop
      refine W.item j _ _ _ hlt hst' fun v h₁ tk₁ hPv hst₁ hk₁=>?_
      obtain ⟨K₁,stp₁⟩:=step1 h₁ tk₁ (fun b hm=>ag ((hwr b hm).2.2 (j + 1) h₁ hst₁) fun o e uu=>⟨o,e⟩) hk₁
      refine ag (hPw j v hPv d hd) fun bs hrv hbs=>?_
      have hkp₁:KG (fun b=>Z b∨(b∈F∨L b)) s₂.heap h₁:=hkp.trans ((KG.ofW hk₁ hns).mono fun b hb hm=>hb.elim (wz b hm) fun hf=>hf.elim (fun hf=>hFw b hf hm) fun hf=>hLw b hf hm)
      have hrv₁:R h₁ v d bs:=hrv.onG hkp₁ fun b hb=>.inr (.inl (hbs b hb))
      have hfpH:∀ b∈fpw,∀ o,h₁.get? b=some o→hardB o=true:=fun b hb o e=>by
        rcases hfp b hb with hb | hb
        · refine aq ((hwr b hb).2.2 _ _ hst₁) fun o' e' Gv _=>?_
          refine ae (Gv) fun hh _=>?_
          try clear Gv
          rw [e] at e'; (have oc:=Option.some.inj e'; clear e'; subst oc); exact hh
        · refine bi (hF b hb) fun vs' n' e'=>?_
          rw [hkp₁.hard (.inl (.inr (.inl hb))) e' rfl] at e
          (have oc:=Option.some.inj e; clear e; subst oc); rfl
      have hzd:sz d=true:=hsm.2 d (List.mem_of_getElem? hd)
      refine wpAny_of_eq rfl ?_
      refine wpAny_assign_Name (K₁.put (r:=mk (.d d)) (as:=bs) g1 g3 ⟨hrv₁,hzd⟩ (fun a ha=>FP a (hbs a ha)) (fun h=>absurd h f9) (fun h=>?_) (fun y q hy hq=>⟨fun ht a cs e hm=>?_,fun hdp a ha hm=>?_⟩) fun s₃ st₃ kk₃ K₃=>?_)
      · have:bs=[]:=hrv₁.sx_nil (eS h)
        (clear hbs hrv hrv₁; subst this)
        exact ⟨fun uu h=>(nomatch h),.nil⟩
      · refine az (K₁.top y q hq ht) fun a' bs' e' h1 _=>?_
        rw [e] at e'; cases e'
        exact h1 (.inr (.inl (hbs a hm)))
      · exact ((K₁.deep y q hq hdp).1 a ha).1 (.inr (.inl (hbs a hm)))
      · have hfx:Frm (fun b=>Z b∨L b) (x :: gP b) σ₀ vals fp (upd σj x (mk (.d d))) (dK vals' x v) (fun y=>if y=x then bs else fp' y):=by
          refine ⟨fun y hy=>?_,fun b' hz hb' z q hq hm=>?_⟩
          · have hyx:y≠x:=fun q=>hy (q▸.head _)
            have:=hfr.1 y hy
            exact ⟨(if_neg hyx).trans this.1,(if_neg hyx).trans this.2⟩
          · unfold upd at hq
            dsimp only at hm
            by_cases e:z=x
            · rw [if_pos e] at hm
              rcases hsc with h | h
              · rw [hrv₁.sx_nil (h d (List.mem_of_getElem? hd))] at hm; cases hm
              · refine Or.elim (hFP b' (hbs b' hm)) (fun Ge=>?_) (fun h1=>?_)
                · refine az (Ge) fun y q Hh h1 h2=>?_
                  clear Ge
                  refine aj (h y q h1) fun q' hq'=>?_
                  exact hb' y q' hq' h2
                · rcases hz with hz | hz
                  · refine aj (K.zdom b' hz) fun o e=>?_
                    rw [h1] at e; exact nN e
                  · refine ae (hL1 b' hz) fun uu Id=>?_
                    refine bi (Id) fun vs n e=>?_
                    try clear Id
                    rw [h1] at e; exact nN e
            · rw [if_neg e] at hq hm
              exact hfr.2 b' hz hb' z q hq hm
        have body₃:∀ s₄,Stp (fun b=>Z b∨(b∈F∨b∈wr∨L b)) s₃ s₄→Stp Z s s₄∧St (j + 1) s₄.heap∧KG (fun b=>Z b∨(b∈F∨L b)) s₂.heap s₄.heap:=fun s₄ st₄=>by
          have st:=st₃.trans st₄
          refine ⟨stp₁.trans (st.mono fun b hb=>.inl hb),?_,?_⟩
          · refine au (st) fun h₄ tk₄ Gs kk₄=>?_
            try clear st
            (clear st₄; subst Gs)
            exact W.frame _ _ _ hst₁ fun b hb o e=>kk₄.hard (.inl (.inr ((hfp b hb).elim (fun h=>.inr (.inl h)) .inl))) e (hfpH b hb o e)
          · refine au (st) fun h₄ tk₄ Gx kk₄=>?_
            try clear st
            (clear st₄; subst Gx)
            exact hkp₁.trans (kk₄.mono fun b hb=>hb.imp id fun h=>h.imp id .inr)
        cases hbody:exs C b (upd σj x (mk (.d d))) with
        | bad=>rw [hbody] at hloop; exact absurd hloop.symm hnb
        | exc c=>
          rw [hbody] at hloop
          refine Xb ob K₃ hbody fun z s₄ st₄ lv exc=>?_
          refine aq (lv) fun l l1 l2 l3=>?_
          try clear lv
          refine au ((body₃ s₄ st₄).1) fun h₄ tk₄ e₄ kk₄=>?_
          (clear st₄; subst e₄)
          refine CA (N:=Z) (fun b hb=>?_) l1 l2 l3 (exc.old fun b hb=>.inl hb) fun h' ex' kg' fr'=>hX c hloop.symm z _ (aA h' tk₄ rfl (kk₄.trans kg')) (ax l l1 fr' l3) ex'
          refine aj (K.zdom b hb) fun o e=>?_
          refine ag (kk₄ b o (.inl hb) e) fun o' e' _=>?_
          exact ⟨o',e'⟩
        | ok o=>
        obtain ⟨σ₁,fl₁⟩:=o
        rw [hbody] at hloop
        simp only [Out.ok_bind] at hloop
        refine Sb ob K₃ hbody (fun e s₄ vals₄ fp₄ st₄ K₄ F₄=>?_) fun r e v s₄ st₄ R₄=>?_
        · (clear hbody; subst e)
          refine aD (body₃ s₄ st₄) fun q1 q2 q3=>?_
          refine (ah (ds.length + 1 - (j + 1)) (by exact rz hlt) (tH (j + 1) σ₁ vals₄ fp₄ q1 K₄ q2 hlt rfl hloop q3 ((hfx.trans (F₄.less fun b hb=>hb.imp id fun h=>.inr (.inr h))).more fun y hy=>(List.mem_append.mp hy).elim (fun h=>h) (.tail _))))
        · (clear hbody; subst e)
          exact hR σ₁ r hloop.symm v s₄ (body₃ s₄ st₄).1 R₄
    · have hjl:j=ds.length:=by exact wx hj hlt
      (clear hj hlt; subst hjl)
      rw [List.drop_length] at hloop
      simp only [cK] at hloop
      refine W.done _ _ _ hst' fun h₁ tk₁ hk₁=>?_
      have st1:Stp Z s { s' with heap:=h₁,toks:=tk₁ }:=by
        refine au (stp') fun hh tk' GB kk=>?_
        try clear stp'
        (clear K' hkp hst' hwf step1; subst GB)
        exact (aA h₁ tk₁ rfl (kk.trans ((KG.ofW hk₁ hns).mono fun b hz hm=>wz b hm hz)))
      have kgL:KG (fun b=>Z b∨L b) s.heap h₁:=((kp₂.k.mono fun uu uu=>trivial).trans (hkp.mono fun b hb=>hb.imp id .inr)).trans ((KG.ofW hk₁ hns).mono fun b hb hm=>hb.elim (wz b hm) fun h=>hLw b h hm)
      exact wpAny_execs_nil (hN σj hloop.symm { s' with heap:=h₁,toks:=tk₁ } vals' fp' st1 kgL ((K'.thaw (Z:=Z) (fun b hb=>.inl hb) K.z0).iter hwf (fun b hm hz=>absurd hz (wz b hm)) w0 hns hk₁) hfr)
 ·  cases ok
theorem wy {σ:Mine.St}{ns:List String}{md:Mode} (y:String) (q:V × Mode) (hy:σ y=some q):∃ q',Mine.consume σ ns md y=some q':=by
 unfold Mine.consume
 split
 ·  exact ⟨q,hy⟩
 ·  unfold Mine.demote
    split
    · exact ⟨_,by rw [hy]; rfl⟩
    · exact ⟨q,hy⟩
theorem uZ {x:String}{it:It}{b:Ss} (Si:dB fns k C XP it) (Sb:ej fns k C b) (Xb:el fns k C b):cM fns k C (.for1 x it b):=by
 intro stmt h0 P Z A env σ vals fp s Q Er σ' fl ok K he hN hR
 simp only [g8] at he
 refine Out.bind_k he fun Gy hq he1=>?_
 obtain ⟨ds,md⟩:=Gy
 have e1:bj C it (b6 σ (bI it)) = .ok (ds,md):=by rw [dI C it _ σ (bN σ _)]; exact hq
 exact rV Si Sb Xb (fun uu=>False) ok K e1 he1 (by simp) (fun h' kp=>(K.onK kp).consume (bI it) md) (fun y q hq=>cU hq) (fun F h1 h2=>K.excl h1 h2) (fun a h=>h.elim) (fun uu uu uu uu uu h=>h) (.inr wy)
    (fun σ'' e s' vals' fp' st _ K' F=>by cases e; exact hN rfl s' vals' fp' st K' ⟨F.1,fun b hz hb=>F.2 b (.inl hz) fun z q hq=>aj (cU hq) fun q' hq'=>hb z q' hq'⟩) (fun σ'' r e=>by cases e; exact hR r rfl) fun c e=>by cases e
theorem uf (hf:fns.hand=false) {x:String}{it:It}{b:Ss} (Si:dB fns k C XPc it) (Sb:ej fns k C b) (Xb:el fns k C b):cQ fns k C (.for1 x it b):=by
 intro stmt h0 P Z A env σ vals fp s Q Er c ok K he hE
 simp only [g8] at he
 rcases bG he with he | ⟨⟨ds,md⟩,hq,he1⟩
 ·  replace ok:=pR ok
    revert ok; refine fun Gm=>Or.elim Gm (fun Gg=>?_) (fun ok=>?_)
    · clear Gm
      refine i0 (Gg) fun He GZ G9 Hz Hp HA ok=>?_
      clear Gg
      subst HA
      simp only [Bool.and_eq_true,beq_iff_eq] at ok
      have e1:bj C it (b6 σ (bI it)) = .exc c:=by rw [dI C it _ σ (bN σ _)]; exact he
      refine wpAny_For (Si ok.1.2 (K.cx (bI it)) (by rw [e1]; simp) (fun q' hq'=>by rw [e1] at hq'; cases hq') fun c' hc x s' X=>?_) (lm ok.1.2 env)
      rw [e1] at hc; cases hc
      exact hE x s' X.1.stp ((K.onK X.1.k).lv hf) (Fly.exc (X.2.old K.zd))
    · cases ok
 ·  have e1:bj C it (b6 σ (bI it)) = .ok (ds,md):=by rw [dI C it _ σ (bN σ _)]; exact hq
    exact rV Si Sb Xb (fun uu=>False) ok K e1 he1 (by simp) (fun h' kp=>(K.onK kp).consume (bI it) md) (fun y q hq=>cU hq) (fun F h1 h2=>K.excl h1 h2) (fun a h=>h.elim) (fun uu uu uu uu uu h=>h) (.inr wy)
      (fun σ'' e=>by cases e) (fun σ'' r e=>by cases e) fun c' e=>by cases e; exact hE
section
variable (hf:fns.hand=false) (hC:bS fns k C XPc)
include hf hC
mutual
theorem fL:∀ st:S,cM fns k C st∧cQ fns k C st
 | .assign x e=>⟨jo (ay hf hC bB e).e ⟨fun elt y it _=>⟨dS hf hC bB it,(ay hf hC bB elt).e⟩,fun elt y it c _=>⟨dS hf hC bB it,(ay hf hC bB elt).e,(ay hf hC bB c).t⟩⟩,o6 hf (ay hf hC bB e).e⟩
 | .setitem x e=>⟨oA (ay hf hC bB e).e,oR⟩
 | .append x e=>⟨ph (ay hf hC bB e).e,pd⟩
 | .appF x is e=>⟨sd hC (fun i=>(ay hf hC bB i).e) (ay hf hC bB e).e,sK⟩
 | .addF x e=>⟨sF hC (ay hf hC bB e).e,tA⟩
 | .pop x i=>⟨vL (ay hf hC bB i).e,uY⟩
 | .expr e=>⟨r4 (ay hf hC bB e).e,sO hf (ay hf hC bB e).e⟩
 | .ret e=>⟨oL (ay hf hC bB e).e,uw hf (ay hf hC bB e).e⟩
 | .retn x=>⟨rS,sT⟩
 | .ite c a b=>⟨uU (ay hf hC bB c).t (a9 a).1 (a9 b).1,vO hf (ay hf hC bB c).t (a9 a).2 (a9 b).2⟩
 | .for1 x it b=>⟨uZ (dS hf hC bB it) (a9 b).1 (a9 b).2,uf hf (dS hf hC bB it) (a9 b).1 (a9 b).2⟩
 | .raise _=>⟨qj,rq hf hC⟩
 | .tryS b hs=>⟨vI hf hC (fL b).1 (fun e _=>(ay hf hC bB e).e) (fun x e _=>(ay hf hC bB e).e),uo⟩
 | .bad=>⟨fun ok=>Bool.noConfusion (show false=true from ok),ut⟩
termination_by structural s=>s
theorem a9:∀ st:Ss,ej fns k C st∧el fns k C st
 | .nil=>⟨sq,s9⟩
 | .cons s r=>⟨qG (fL s).1 (a9 r).1,qx (fL s).1 (fL s).2 (a9 r).2⟩
termination_by structural s=>s
end
theorem l7 (st:Ss):ej fns k C st:=(a9 hf hC st).1
theorem l6 (st:Ss):el fns k C st:=(a9 hf hC st).2
end
end
end Mine
namespace Mine
open PySem PyProof.Rows
structure InF (s₀:Shared) (L:Addr) (m:Str→Option Value) (cs:List (Str × Addr)) (cm:Str→Option Value) (s:Shared):Prop where
 x:InCallC s₀ L m cs cm s
 c:∃ o,s.heap.get? L=some o∧o.cls = .type "frame"
section
variable {M:Model}{A:Around}{E:Value→Shared→Prop}{s₀:Shared}{env:Env}
theorem iP (f:Str × Value→PUnit→Sem (ForInStep PUnit)) (hf:∀ n v u,f (n,v) u=(do storeName env n v; pure (.yield ⟨⟩))) (hk:env.scope.kind = .function) :
    ∀ (binds:List (Str × Value)) (m cm:Str→Option Value) (s:Shared) (Q:PUnit→Shared→Prop),InF s₀ env.locals m env.cells cm s →
      (∀ x∈binds,env.kindOf x.1=some .local∨(env.kindOf x.1=some .cell∧(env.cells.lookup x.1).isSome=true)) →
      (∀ s',InF s₀ env.locals (bindL env.kindOf binds m) env.cells (bindC env.kindOf binds cm) s'→Q ⟨⟩ s')→wpAny M A (forIn binds ⟨⟩ f) Q E s
 | [],m,cm,s,Q,x,_,h=>by rw [List.forIn_nil]; exact wpAny_pure (h s x)
 | (n,v) :: r,m,cm,s,Q,⟨x,c⟩,hkind,h=>by
    rw [List.forIn_cons,hf]
    have hr:∀ y∈r,env.kindOf y.1=some .local∨(env.kindOf y.1=some .cell∧(env.cells.lookup y.1).isSome=true):=fun y hy=>hkind y (List.mem_cons_of_mem _ hy)
    refine bi (x.toInCall.same) fun h₁ tk e₁=>?_
    rcases hkind (n,v) List.mem_cons_self with hl | ⟨hl,hc⟩
    · refine wpAny_bind (wpAny_bind ?_)
      rw [storeName_local hl (by rw [hk]; rfl)]
      refine lW x.toInCall.ns c fun h' hn' hs' hc'=>wpAny_pure (iP f hf hk r (fun x=>if x=n then some v else m x) cm _ Q ⟨⟨⟨(bE h' (s.toks + 1) (by rw [e₁])),hn',fun b o e=>?_,x.toInCall.fresh⟩,fun k c hc=>?_,x.apart,x.above⟩,hc'⟩ hr fun s'' x''=>h s'' ?_)
      · exact hs'.extBut b o (Nat.ne_of_lt (Nat.lt_of_lt_of_le (Heap.lt_size e) x.toInCall.fresh)) (x.toInCall.keep b o e)
      · exact (x.cell k c hc).sameBut hs' (Nat.ne_of_gt (x.above k c (mem_of_lookup hc)))
      · unfold bindL bindC; rw [if_pos hl,if_pos hl]; exact x''
    · refine bF hc fun cc hc=>?_
      have hnl:¬ env.kindOf n=some .local:=by rw [hl]; decide
      have hLc:=x.above n cc (mem_of_lookup hc)
      refine wpAny_bind (wpAny_bind (wpAny_storeName_cell hk hl hc (x.cell n cc hc) fun h' hc' hs'=>wpAny_pure (iP f hf hk r m (fun y=>if y=n then some v else cm y) _ Q ⟨⟨⟨(bE h' s.toks (by rw [e₁])),x.toInCall.ns.sameBut hs' (Nat.ne_of_lt hLc),fun b o e=>?_,x.toInCall.fresh⟩,fun k c' hk'=>?_,x.apart,x.above⟩,ag (c) fun o e q=>(ah o (hs'.extBut _ o (Nat.ne_of_lt hLc) e) q)⟩ hr fun s'' x''=>h s'' ?_)))
      · exact hs'.extBut b o (Nat.ne_of_lt (Nat.lt_trans (Nat.lt_of_lt_of_le (Heap.lt_size e) x.toInCall.fresh) hLc)) (x.toInCall.keep b o e)
      · by_cases hkn:k=n
        · (clear h hkind hl hnl; subst hkn)
          rw [hc] at hk'; (have oc:=Option.some.inj hk'; clear hk'; subst oc)
          show h'.IsCell _ (if _=_ then some v else cm _)
          rw [if_pos rfl]; exact hc'
        · show h'.IsCell _ (if _=_ then some v else cm _)
          rw [if_neg hkn]
          exact (x.cell k c' hk').sameBut hs' fun e=>hkn (name_of_addr x.apart (mem_of_lookup hk') (e▸mem_of_lookup hc))
      · unfold bindL bindC; rw [if_neg hnl,if_neg hnl]; exact x''
end
section
variable {A:Around}{s:Shared}
theorem pZ {R:Result→Shared→Prop}{a:Addr}{o:Obj}{fd:FuncData}{body:List Stmt}{vals:List Value}{binds:List (Str × Value)}
    (hroom:A.depth<recursionLimit) (ho:s.heap.get? a=some o) (hdata:o.data = .func fd) (hlim:s.heap.NoLimit) (hcd:s.heap.CodeRec fd.code fd.qualname)
    (hbody:fd.body = .stmts body) (hbind:bindArgs fd ⟨vals,[]⟩=pure binds) (hclo:fd.closure=[])
    (hkind:∀ x∈binds,fd.scope.names.lookup x.1=some .local∨(fd.scope.names.lookup x.1=some .cell∧((cellsFrom (s.heap.objs.size + 1) fd.scope.names []).lookup x.1).isSome=true))
    (h:∀ s₁,InF s (callEnvC fd s.heap.objs.size a).locals (bindL (callEnvC fd s.heap.objs.size a).kindOf binds fun uu=>none) (callEnvC fd s.heap.objs.size a).cells
        (bindC (callEnvC fd s.heap.objs.size a).kindOf binds fun uu=>none) s₁ →
      wpAny (model prog w) (A.deeper (callEnvC fd s.heap.objs.size a)) (execs body (callEnvC fd s.heap.objs.size a)) (fun f s'=>R (.ok (.ret (match f with | .ret v=>v | _=>.none))) s')
        (fun e s'=>wpAny (model prog w) (A.deeper (callEnvC fd s.heap.objs.size a)) (leaving (callEnvC fd s.heap.objs.size a) e) (fun uu s''=>R (.error e) s'') (fun e' s''=>R (.error e') s'') s') s₁)
    (hco:fd.scope.isCoroutine=false) (hgen:fd.scope.isGenerator=false) (hk:fd.scope.kind = .function) :
    codeAny (model prog w) A (.call (.ref a) ⟨vals,[]⟩) R s:=by
 refine codeAny_call_function hroom ho hdata hco hgen hbody hcd ?_
 rw [hbind,hclo]
 refine wpAny_pure ?_
 simp only [newFunctionEnv,Option.isSome_none,Bool.false_eq_true,if_false]
 refine wpAny_bind (wpAny_alloc ?_)
 refine wpAny_bind (wpAny_layCells _ (fun name kind cells=>by cases hkc:kind == NameKind.cell <;> simp [hkc]) _ _ _ _ ?_)
 have ok:=cellsFrom_ok fd.scope.names (s.heap.push { cls:=.type "frame", data:=.dict #[] }) (s.heap.objs.size + 1) [] ⟨fun uu uu hm=>(nomatch hm),List.Pairwise.nil⟩ (by rw [Heap.size_push]; exact Nat.le_refl _)
 rw [Heap.size_push] at ok
 rw [show ({ s with heap:=s.heap.push { cls:=.type "frame", data:=.dict #[] } }:Shared).heap.objs.size=s.heap.objs.size + 1 from Heap.size_push ..]
 refine wpAny_bind (iP (s₀:=s) (env:=callEnvC fd s.heap.objs.size a) _ (fun uu uu uu=>rfl) hk binds (fun uu=>none) (fun uu=>none) _ _
    ⟨⟨⟨(bE _ _ rfl),(Heap.Ns.new s.heap (.type "frame")).keeps (pushCells_keeps _ _),fun b o e=>pushCells_keeps _ _ b o (Heap.get?_push_of_some _ e),Nat.le_refl _⟩,
      fun n c hc=>(ok.empty n c (mem_of_lookup hc)).1,ok.apart,fun n c hm=>(ok.empty n c hm).2⟩,_,pushCells_keeps _ _ _ _ (Heap.get?_push_size _ rfl),rfl⟩
    hkind fun s' x=>wpAny_pure ⟨hlim.keeps x.x.toInCall.keep,codeAny_func (h s' x)⟩)
end
end Mine
namespace Mine
open PySem PyProof.Rows
theorem cY {n:Str}:∀ (names:List (Str × NameKind)) (k:Nat) (acc:List (Str × Addr)),(names.lookup n=some .cell∨(acc.lookup n).isSome=true)→((cellsFrom k names acc).lookup n).isSome=true
 | [],_,acc,h=>h.elim (fun e=>by cases e) id
 | (m,kd) :: r,k,acc,h=>by
    unfold cellsFrom
    by_cases hk:kd = .cell
    · subst hk
      simp only [beq_self_eq_true,if_true]
      by_cases e:n=m
      · (clear h; subst e)
        exact cY r _ _ (.inr (by simp))
      · have e':(n == m)=false:=by simpa using e
        refine cY r _ _ (h.imp (fun h=>?_) fun h=>?_)
        · rw [List.lookup_cons,e'] at h; exact h
        · rw [List.lookup_cons,e']; exact h
    · have hb:(kd == NameKind.cell)=false:=by simpa using hk
      simp only [hb,Bool.false_eq_true,if_false]
      by_cases e:n=m
      · subst e
        rcases h with h | h
        · simp at h; exact absurd h hk
        · exact cY r _ _ (.inr h)
      · have e':(n == m)=false:=by simpa using e
        refine cY r _ _ (h.imp (fun h=>?_) id)
        rw [List.lookup_cons,e'] at h; exact h
theorem jp {kd:Str→Option NameKind}{y:Str}:∀ (bs:List (Str × Value)) (m:Str→Option Value),(∀ p∈bs,p.1≠y)→bindL kd bs m y=m y
 | [],_,_=>rfl
 | (n,v) :: r,m,h=>by
    unfold bindL
    rw [jp r _ fun p hp=>h p (.tail _ hp)]
    split
    · exact if_neg fun (e:y=n)=>h (n,v) (.head _) e.symm
    · rfl
theorem jr {kd:Str→Option NameKind}{y:Str}:∀ (bs:List (Str × Value)) (m:Str→Option Value),(∀ p∈bs,p.1≠y)→bindC kd bs m y=m y
 | [],_,_=>rfl
 | (n,v) :: r,m,h=>by
    unfold bindC
    rw [jr r _ fun p hp=>h p (.tail _ hp)]
    split
    · rfl
    · exact if_neg fun (e:y=n)=>h (n,v) (.head _) e.symm
theorem tz {p:String}{ps:List String}{vs:List Value} (h:p∉ps):∀ q∈(ps.map Str.ofString).zip vs,q.1≠Str.ofString p:=by
 intro q hq e
 have:=(List.of_mem_zip hq).1
 refine aN this fun y hy e'=>?_
 exact h (cO (e'.trans e)▸hy)
theorem mn {kd:Str→Option NameKind}{x:String}{v:Value}:∀ (ps:List String) (vs:List Value) (m:Str→Option Value),ps.Nodup→(ps.zip vs).lookup x=some v→kd (Str.ofString x)=some .local→bindL kd ((ps.map Str.ofString).zip vs) m (Str.ofString x)=some v
 | [],_,_,_,h,_=>by simp at h
 | _ :: _,[],_,_,h,_=>by simp at h
 | p :: ps,u :: vs,m,hn,h,hk=>by
    rw [List.nodup_cons] at hn
    rw [List.zip_cons_cons,List.lookup_cons] at h
    rw [List.map_cons,List.zip_cons_cons]
    unfold bindL
    by_cases e:x=p
    · subst e
      simp at h
      subst h
      rw [jp _ _ (tz hn.1),if_pos hk]
      simp
    · have e':(x == p)=false:=by simpa using e
      rw [e'] at h
      exact mn ps vs _ hn.2 h hk
theorem lQ {kd:Str→Option NameKind}{x:String}{v:Value}:∀ (ps:List String) (vs:List Value) (m:Str→Option Value),ps.Nodup→(ps.zip vs).lookup x=some v→kd (Str.ofString x)=some .cell→bindC kd ((ps.map Str.ofString).zip vs) m (Str.ofString x)=some v
 | [],_,_,_,h,_=>by simp at h
 | _ :: _,[],_,_,h,_=>by simp at h
 | p :: ps,u :: vs,m,hn,h,hk=>by
    rw [List.nodup_cons] at hn
    rw [List.zip_cons_cons,List.lookup_cons] at h
    rw [List.map_cons,List.zip_cons_cons]
    unfold bindC
    by_cases e:x=p
    · subst e
      simp at h
      subst h
      rw [jr _ _ (tz hn.1),if_neg (by rw [hk]; simp)]
      simp
    · have e':(x == p)=false:=by simpa using e
      rw [e'] at h
      exact lQ ps vs _ hn.2 h hk
section
variable {fns:Fns}{k:Nat}{C:Calls}{XP:String→Shared→Value→Shared→Prop}
theorem ou {h:Heap}{xs:List V}{vals:List Value}{as:List Addr} (rs:RVs h xs vals as):∀ {ps:List String}{σ:St},bz ps xs=some σ →
    vals.length=ps.length∧∃ fp:String→List Addr,∀ x q,σ x=some q→x∈ps∧∃ V v,q=mk V∧(ps.zip vals).lookup x=some v∧RV h v V (fp x)∧∀ a∈fp x,a∈as:=by
 induction rs with
 | nil=>
    intro ps σ hb
    cases ps with
    | nil=>exact (aF rfl (bJ (fun uu=>[]) (fun x q h=>nN ((congrFun (Option.some.inj hb) x).trans h))))
    | cons p ps=>exact nN hb
 | @cons V xs v vs a1 bs r rs IH=>
    intro ps σ hb
    cases ps with
    | nil=>exact nN hb
    | cons p ps=>
    replace hb:=Option.map_eq_some_iff.mp (show (bz ps xs).map _=_ from hb)
    refine ag (hb) fun σ' hb' FW=>?_
    clear hb
    subst FW
    obtain ⟨hl,fp',ih⟩:=IH hb'
    refine (aF (by rw [List.length_cons,List.length_cons,hl]) (bJ (fun x=>if x=p then a1 else fp' x) (fun x q hq=>?_)))
    unfold upd at hq
    by_cases e:x=p
    · subst e
      rw [if_pos rfl] at hq; (have oc:=Option.some.inj hq; clear hq; subst oc)
      have e1:(if x=x then a1 else fp' x)=a1:=if_pos rfl
      refine (aF (.head _) (aU V v rfl (by simp) ?_ (fun a ha=>?_)))
      · show RV h v V (if x=x then a1 else fp' x)
        rw [e1]; exact r
      · have ha':a∈(if x=x then a1 else fp' x):=ha
        rw [e1] at ha'
        exact List.mem_append_left _ ha'
    · rw [if_neg e] at hq
      obtain ⟨h1,V',v',h2,h3,h4,h5⟩:=ih x q hq
      have e':(x == p)=false:=by simpa using e
      exact (aF (.tail _ h1) (aU V' v' h2 (by rw [List.zip_cons_cons,List.lookup_cons,e']; exact h3) (by show RV h v' V' (if x=p then a1 else fp' x); rw [if_neg e]; exact h4) (fun a ha=>List.mem_append_right _ (h5 a (by have ha':a∈(if x=p then a1 else fp' x):=ha; rwa [if_neg e] at ha')))))
theorem lX {ft:FnT}{fd:FuncData}{fa:Addr}{A:Around}{P:Addr→Prop}{s:Shared}{h₁:Heap}{tk₁:Nat}{σ:St}{pn:List String}{pv:List Value}{fp:String→List Addr}
    (hf:fns.hand=false) (hnd:pn.Nodup) (hpb:∀ x∈pn,bC ft.scope.names x=true) (hfree:∀ p∈ft.scope.names,(p.2 != .free)=true) (hh:fns.hand=false→A.handled=none) (r1:A.depth + 2 * k + 5<recursionLimit) (r2:A.units + 100 * k + 303<cLine) (hfr:∃ l,A.frames=some l∧FrOk s.heap l) (ge:GE fns s.heap)
    (hsc:fd.scope=ft.scope) (hgl:fd.globals=mainGlobals) (hbl:fd.builtins=builtinsNs) (hkind:fd.scope.kind = .function) (hcode:ft.lam=true→CodeOk s.heap fd.code fd.qualname)
    (X:InF s (callEnvC fd s.heap.objs.size fa).locals (bindL (callEnvC fd s.heap.objs.size fa).kindOf ((pn.map Str.ofString).zip pv) fun uu=>none) (callEnvC fd s.heap.objs.size fa).cells (bindC (callEnvC fd s.heap.objs.size fa).kindOf ((pn.map Str.ofString).zip pv) fun uu=>none) { s with heap:=h₁,toks:=tk₁ })
    (hfp:∀ x q,σ x=some q→x∈pn∧∃ V v,q=mk V∧(pn.zip pv).lookup x=some v∧RV s.heap v V (fp x)∧∀ a∈fp x,P a) :
    SOK { fns with lam:=ft.lam } k s.heap P (fun b=>∃ o,s.heap.get? b=some o) (A.deeper (callEnvC fd s.heap.objs.size fa)) (callEnvC fd s.heap.objs.size fa) h₁ σ (fun x=>(pn.zip pv).lookup x) fp:=by
 have hin:=X.x.toInCall
 have hnames:(callEnvC fd s.heap.objs.size fa).scope.names=ft.scope.names:=by show fd.scope.names=_; rw [hsc]
 have hloc:(callEnvC fd s.heap.objs.size fa).locals=s.heap.objs.size:=rfl
 have hko:∀ n,(callEnvC fd s.heap.objs.size fa).kindOf n=ft.scope.names.lookup n:=fun n=>by show fd.scope.names.lookup n=_; rw [hsc]
 have nofree:∀ n,(callEnvC fd s.heap.objs.size fa).kindOf n≠some .free:=fun n e=>by
    rw [hko] at e
    have:=hfree _ (mem_of_lookup e)
    simp at this
 have hold:¬ SF.old s.heap.objs.size:=fun q=>by
    refine aj (ge.old _ q) fun o e=>?_
    rw [be] at e; exact nN e
 refine ⟨⟨hh,?_,?_⟩,⟨hkind,hgl,hbl,fun n hn=>?_⟩,ge.flag ft.lam fns.hand,fun b o e=>⟨o,e⟩,.of hin.keep,fun q=>⟨_,hcode q⟩,fun uu=>?_,fun b ⟨o,e⟩=>⟨o,hin.keep b o e⟩,⟨X.c,(ah _ hin.ns (fun x v hv hk=>?_)),fun ⟨o,e⟩=>?_,fun n c hk hc=>?_,fun x v c hv hk hc=>?_,fun n n' c h1 h2=>?_,fun x v hv=>?_⟩,fun x p hp=>?_,fun x p hp ht=>?_,fun x p hp hdp=>?_⟩
 ·  show A.depth + 1 + 2 * k + (if fns.hand then 1 else 4)<_
    rw [hf]; simp only [Bool.false_eq_true,if_false]; exact Ay r1
 ·  show A.units + 3 + 100 * k + (if fns.hand then 200 else 300)<_
    rw [hf]; simp only [Bool.false_eq_true,if_false]; exact Cs r2
 ·  rcases hn with hn | hn
    · rw [hko] at hn
      exact Option.isSome_iff_exists.mp (by show ((cellsFrom _ fd.scope.names []).lookup n).isSome=true; rw [hsc]; exact cY _ _ _ (.inl hn))
    · exact absurd hn (nofree n)
 ·  refine ag (hfr) fun l e1 e2=>?_
    try clear hfr
    exact (ba l (Around.frames_deeper e1) e2 rfl hold)
 ·  exact mn pn pv _ hnd hv hk
 ·  rw [hloc] at e
    rw [be] at e; exact nN e
 ·  have hm:=mem_of_lookup hc
    have hlt:=X.x.above n c hm
    refine (bW (Nat.ne_of_gt hlt) (fun ⟨o,e⟩=>?_) (bJ _ (X.x.cell n c hc)))
    have:=Heap.lt_size e
    rw [hloc] at hlt
    exact Nat.lt_irrefl _ (Nat.lt_trans this hlt)
 ·  have:=X.x.cell _ c hc
    rw [lQ pn pv _ hnd hv hk] at this
    exact this
 ·  exact name_of_addr X.x.apart (mem_of_lookup h1) (mem_of_lookup h2)
 ·  have hm:x∈pn:=by
      have:(x,v)∈pn.zip pv:=by
        generalize pn.zip pv=l at hv
        induction l with
        | nil=>exact nN hv
        | cons q l ih=>
          rw [List.lookup_cons] at hv
          split at hv
          · rename_i e
            (have oc:=Option.some.inj hv; clear hv; (clear ih; subst oc))
            rw [beq_iff_eq.mp e]
            exact .head _
          · exact .tail _ (ih hv)
      exact (List.of_mem_zip this).1
    have hb:=hpb x hm
    unfold bC at hb
    simp only [Bool.and_eq_true,Bool.or_eq_true,beq_iff_eq] at hb
    rw [hko]
    exact hb.2
 ·  obtain ⟨h1,V,v,FX,h3,h4,h5⟩:=hfp x p hp
    (clear hp; subst FX)
    have hb:=hpb x h1
    unfold bC at hb
    simp only [Bool.and_eq_true] at hb
    refine (aF (by rw [hnames]; exact hb.1.1) (ax v h3 (h4.keep hin.keep) (fun a h=>⟨fun q=>?_,.inl (h5 a h)⟩)))
    refine aj (h4.there a h) fun o e=>?_
    rw [q,hloc,be] at e; exact nN e
 ·  obtain ⟨h1,V,v,FY,_⟩:=hfp x p hp
    (clear hp; subst FY)
    exact absurd ht f9
 ·  obtain ⟨h1,V,v,FZ,h3,h4,h5⟩:=hfp x p hp
    (clear hp; subst FZ)
    rw [h4.scal_nil (eS hdp)]
    exact ⟨fun uu h=>(nomatch h),.nil⟩
theorem ku {ft:FnT}{fd:FuncData}{pn:List String}{vals:List Value}{n:Nat} (hsc:fd.scope=ft.scope) (hbk:∀ x∈pn,bC ft.scope.names x=true):∀ x∈(pn.map Str.ofString).zip vals,fd.scope.names.lookup x.1=some .local∨(fd.scope.names.lookup x.1=some .cell∧((cellsFrom n fd.scope.names []).lookup x.1).isSome=true):=by
 intro x hx
 refine aN (List.of_mem_zip hx).1 fun y hy e=>?_
 have hb:=hbk y hy
 unfold bC at hb
 simp only [Bool.and_eq_true,Bool.or_eq_true,beq_iff_eq] at hb
 rw [hsc,← e]
 rcases hb.2 with h | h
 ·  exact .inl h
 ·  exact .inr ⟨h,cY _ _ _ (.inl h)⟩
section
variable {f:Fn}{vs:List V}{σ σ':St}
theorem t0 (h:bz f.params vs=some σ) (e:exs C f.body σ = .bad):aB C f vs = .bad:=by unfold aB; rw [h]; dsimp only; rw [e]; rfl
theorem vD {c:String} (h:bz f.params vs=some σ) (e:exs C f.body σ = .exc c):aB C f vs = .exc c:=by unfold aB; rw [h]; dsimp only; rw [e]; rfl
theorem sE (h:bz f.params vs=some σ) (e:exs C f.body σ = .ok (σ',.next)):aB C f vs = .ok (.d .none,.deep):=by unfold aB; rw [h]; dsimp only; rw [e]; rfl
theorem uv {r:V × Mode} (h:bz f.params vs=some σ) (e:exs C f.body σ = .ok (σ',.ret r)):aB C f vs = .ok r:=by unfold aB; rw [h]; dsimp only; rw [e]; rfl
theorem uz (h:bz f.params vs=some σ) (e:exs C f.body σ = .bad):cG C f vs = .bad:=by unfold cG; rw [h]; dsimp only; rw [e]; rfl
theorem um {c:String} (h:bz f.params vs=some σ) (e:exs C f.body σ = .exc c):cG C f vs = .exc c:=by unfold cG; rw [h]; dsimp only; rw [e]; rfl
theorem lY (h:bz f.params vs=some σ) (e:exs C f.body σ = .ok (σ',.next)):cG C f vs=eA σ':=by unfold cG; rw [h]; dsimp only; rw [e]; rfl
theorem vM {r:V × Mode} (h:bz f.params vs=some σ) (e:exs C f.body σ = .ok (σ',.ret r)):cG C f vs = .bad:=by unfold cG; rw [h]; dsimp only; rw [e]; rfl
end
theorem m0 {A:Around}{env:Env}{s s₁:Shared}{c:String}{x:Value}{R:Shared→Prop}{E:Value→Shared→Prop} (kp:Kp s s₁) (lv:Lv A env s₁.heap) (ex:Exc (dom s.heap) s₁.heap c env.locals x) (hR:∀ s',XPc c s x s'→R s') :
    wpAny (model prog w) A (leaving env x) (fun uu s'=>R s') E s₁:=by
 refine aq (lv) fun l l1 l2 l3=>?_
 try clear lv
 refine au (kp) fun h₁ tk₁ F0 k₁=>?_
 try clear kp
 subst F0
 refine Bm (N:=dom s.heap) (fun b hb=>?_) l1 l2 l3 ex fun h' fl kg=>hR _ ⟨(aA h' tk₁ rfl (Mine.K.step k₁ kg fun b o e=>⟨o,e⟩)),fl⟩
 refine aj (hb) fun o e=>?_
 try clear hb
 refine ag (k₁ b o (.inl trivial) e) fun o' e' _=>?_
 exact ⟨o',e'⟩
set_option maxHeartbeats 1000000 in
theorem k9 (hf:fns.hand=false) {fn:Fn}{ft:FnT}{fa:Addr} (hC:bS { fns with lam:=ft.lam } k C XPc) (hok:okF ft fn=true) {A:Around}{P:Addr→Prop}{s:Shared}{Q:Value→Shared→Prop}{Er:Value→Shared→Prop}{xs:List V}{vals:List Value}{as:List Addr}
    (hroom:Room fns.hand (k + 1) A) (hfr:∃ l,A.frames=some l∧FrOk s.heap l) (ge:GE fns s.heap) (hfa:FnAt s.heap ft fa) (rs:RVs s.heap xs vals as) (ha:∀ a∈as,P a) (nb:aB C fn xs≠.bad) (hQ:∀ r,aB C fn xs = .ok r→∀ v s',EP P s r v s'→Q v s') (hE:∀ c,aB C fn xs = .exc c→∀ x s',XPc c s x s'→Er x s') :
    wpAny (model prog w) A (call (.ref fa) vals []) Q Er s:=by
 unfold okF at hok
 simp only [Bool.and_eq_true,decide_eq_true_eq,List.all_eq_true] at hok
 refine ae (hok) fun F1 hfree=>?_
 try clear hok
 refine ae (F1) fun F2 hbody=>?_
 try clear F1
 refine ae (F2) fun F4 hnd=>?_
 try clear F2
 refine ae (F4) fun hps hbk=>?_
 try clear F4
 cases hσ:bz fn.params xs with
 | none=>exact absurd (by unfold aB; rw [hσ]) nb
 | some σ=>
 obtain ⟨hlen,fp,hfp⟩:=ou rs hσ
 refine rX (hfa) fun o fd ho hd hbd hsc hgl hcl hbl hcr hcode hbind hco hgen hkind=>?_
 try clear hfa
 rw [hps] at hbind
 refine wpAny_call (pZ (by have:=hroom.at hf; exact Bv this) ho hd ge.nolim hcr hbd (hbind vals hlen) hcl (ku hsc hbk) (fun s₁ X=>?_) hco hgen hkind)
 refine bi (X.x.toInCall.same) fun h₁ tk₁ F5=>?_
 subst F5
 have K:=lX (k:=k) (ft:=ft) (fa:=fa) (σ:=σ) (pn:=fn.params) (pv:=vals) (fp:=fp) (P:=P) hf hnd hbk hfree hroom.1 (Nat.lt_of_le_of_lt (by exact Nat.le_succ _) (hroom.at hf).1) (Nat.lt_of_le_of_lt (by exact BH) (hroom.at hf).2) hfr ge hsc hgl hbl hkind hcode X fun x q hq=>by
    obtain ⟨h1,V,v,h2,h3,h4,h5⟩:=hfp x q hq
    exact (aF h1 (aU V v h2 h3 h4 (fun a h=>ha a (h5 a h))))
 have kp:∀ s',Stp (fun b=>∃ o,s.heap.get? b=some o) { s with heap:=h₁,toks:=tk₁ } s'→Kp s s':=fun s' st=>by
    refine au (st) fun h' tk' F6 kk=>?_
    try clear st
    subst F6
    exact (aA h' tk' rfl (Mine.K.step (Mine.K.of X.x.toInCall.keep) kk fun b o e=>⟨o,e⟩))
 have okb:cE (callEnvC fd s.heap.objs.size fa).scope.names fn.body ft.body=true:=by show cE fd.scope.names fn.body ft.body=true; rw [hsc]; exact hbody
 cases hex:exs C fn.body σ with
 | bad=>exact absurd (t0 hσ hex) nb
 | exc c=>exact l6 (fns:={ fns with lam:=ft.lam }) hf hC fn.body okb K hex fun x s' st lv ex=>m0 (kp s' st) lv ex fun s'' X=>hE c (vD hσ hex) x s'' X
 | ok o=>
    obtain ⟨σ',fl⟩:=o
    refine l7 (fns:={ fns with lam:=ft.lam }) hf hC fn.body okb K hex (fun e s' vals' fp' st K' _=>?_) fun q e v s' st R=>?_
    · subst e
      exact hQ _ (sE hσ hex) _ _ (.scalar (kp s' st) .none rfl (by simp))
    · subst e
      refine cy (R) fun as' h1 h2 h3 h4=>?_
      try clear R
      exact hQ _ (uv hσ hex) _ _ ⟨kp s' st,as',h1,h2,h3,h4⟩
end
end Mine
namespace Mine
open PySem PyProof.Rows
theorem l5 {env:Env}:∀ (l1 l2:List Stmt),execs (l1 ++ l2) env=(execs l1 env >>= fun f=>match f with | .next=>execs l2 env | f=>pure f)
 | [],l2=>rfl
 | st :: l1,l2=>by
    rw [List.cons_append,execs_cons,execs_cons,bind_assoc]
    congr 1
    funext f
    cases f with
    | next=>exact l5 l1 l2
    | _=>rfl
section
variable {fns:Fns}{k:Nat}{C:Calls}
noncomputable def But2 (x D:Addr) (h h':Heap):Prop:=∀ b o,b≠x→b≠D→h.get? b=some o→h'.get? b=some o
theorem But2.kk {x D:Addr}{h0 h h':Heap} (a:But2 x D h h') (k:K h0 h) (hx:h0.get? x=none) (hD:h0.get? D=none) (nx:∀ o,h.get? x=some o→¬ Stay o) (nD:∀ o,h.get? D=some o→¬ Stay o):K h0 h' :=
 K.step k (G:=fun b=>b≠x∧b≠D) (.of fun b o hb e=>a b o (fun q=>hb.elim (fun h=>h.1 q) (nx o (q▸e))) (fun q=>hb.elim (fun h=>h.2 q) (nD o (q▸e))) e) fun b o e=>⟨fun q=>(by rw [q,hx] at e; cases e),fun q=>(by rw [q,hD] at e; cases e)⟩
theorem Loc.but2 {x D:Addr}{h h':Heap}{env:Env}{Z:Addr→Prop}{vals:String→Option Value} (L:Loc env Z h vals) (a:But2 x D h h') (hx:Z x) (hD:Z D):Loc env Z h' vals where
 cls:=ag (L.cls) fun o e c=>(ah o (a _ o (fun q=>L.nz (q▸hx)) (fun q=>L.nz (q▸hD)) e) c)
 ns:=let ⟨m,⟨o,es,ep,e,r⟩,q⟩:=L.ns; (ah m (bT o es ep (a _ o (fun q=>L.nz (q▸hx)) (fun q=>L.nz (q▸hD)) e) r) q)
 nz:=L.nz
 cell:=fun n c q1 q2=>by
    refine aD (L.cell n c q1 q2) fun h1 h2 Gk=>?_
    refine au (Gk) fun v o e r=>?_
    try clear Gk
    exact (bW h1 h2 (aA v o (a c o (fun q=>h2 (q▸hx)) (fun q=>h2 (q▸hD)) e) r))
 cval:=fun y v c q1 q2 q3=>by
    refine aD (L.cell _ c q2 q3) fun uu h2 _=>?_
    refine ag (L.cval y v c q1 q2 q3) fun o e r=>?_
    exact (ah o (a c o (fun q=>h2 (q▸hx)) (fun q=>h2 (q▸hD)) e) r)
 apart:=L.apart
 kinds:=L.kinds
theorem iJ {A:Around}{h:Heap}{g:Array GenState}{dr:Drawn}{tk:Nat}{os:OsState}{E:Value→Shared→Prop}{x D:Addr}{mA:Str→Option Value}{n:String}{v:Value}{Q:Unit→Shared→Prop}{ns:List Str} (ge:RuleAt fns h) (hn:n∈fieldNames) (hw:Within mA ns) (hs:ns.length≤8) (hxC:x≠SF.rule)
    (I:h.Inst x SF.rule mA) (hd:∀ o,h.get? x=some o→o.dict=some D)
    (hQ:∀ h' tk',h'.Inst x SF.rule (fun y=>if y=Str.ofString n then some v else mA y)→But2 x D h h'→(∀ o,h'.get? x=some o→o.dict=some D)→Q () ⟨h',g,dr,tk',os⟩) :
    wpAny (model prog w) A (setAttr (.ref x) (Str.ofString n) v) Q E ⟨h,g,dr,tk,os⟩:=by
 refine az (ge) fun N mN FW quiet _=>?_
 try clear ge
 obtain ⟨FX,hN⟩:=FW
 refine dW (FX) fun nm q bs' sn sub col dd k0 k1 k2 k3 k5 hC=>?_
 try clear FX
 have hB:typeLookup (.type "object") (Str.ofString n)=pure none:=by
    simp only [fieldNames,List.mem_cons,List.not_mem_nil,or_false] at hn
    rcases hn with rfl | rfl | rfl
    · exact jS
    · exact iC
    · exact lN
 have hq:mN (Str.ofString n)=none:=quiet n (by
    simp only [fieldNames,List.mem_cons,List.not_mem_nil,or_false] at hn
    rcases hn with rfl | rfl | rfl <;> simp)
 refine store_attr PySem.F.store_object hC hN (quiet "__setattr__" (by simp)) hq hB hxC I (fun h' tk' I' hk hsame=>?_) hw (by rw [sizeLine_eq]; exact CH hs)
 refine ag (I) fun o e _=>?_
 try clear I
 have hdo:=hd o e
 refine hQ h' tk' I' (fun b ob h1 h2 eb=>hk b ob h1 (fun o₀ dx e₀ ed=>by rw [e] at e₀; (have oc:=Option.some.inj e₀; clear e₀; subst oc); rw [hdo] at ed; (have oc:=Option.some.inj ed; clear ed; subst oc); exact h2) eb) fun o' e'=>?_
 refine iV (hsame o e) fun o₁ e₁ _ _ _ hdd=>?_
 rw [e'] at e₁; (have oc:=Option.some.inj e₁; clear e₁; subst oc)
 exact hdd D hdo
theorem Inst.ns1 {h:Heap}{x Cl D:Addr}{mA:Str→Option Value} (I:h.Inst x Cl mA) (hd:∀ o,h.get? x=some o→o.dict=some D):∃ o,h.get? x=some o∧o.cls = .ref Cl∧(∀ c,o.data≠.cls c)∧o.dict=some D∧D≠x∧h.Ns1 D mA:=by
 refine cy (I) fun o e h1 h2 h3=>?_
 try clear I
 have:=hd o e
 rcases h3 with ⟨q,_⟩ | ⟨d,q1,q2,q3⟩
 ·  rw [this] at q; exact nM q
 ·  rw [this] at q1; (have oc:=Option.some.inj q1; clear q1; subst oc)
    exact (jf o e h1 h2 this q2 q3)
theorem Inst.kk {h h':Heap}{x Cl D:Addr}{mA:Str→Option Value} (I:h.Inst x Cl mA) (hd:∀ o,h.get? x=some o→o.dict=some D) (k:K h h'):h'.Inst x Cl mA∧∀ o,h'.get? x=some o→o.dict=some D:=by
 refine g7 (Inst.ns1 I hd) fun o e h1 h2 h3 h4 FY=>?_
 refine aL (FY) fun oD es ep eD hdD r=>?_
 try clear FY
 have e':=K.get k e (by unfold hardB; rw [h1])
 obtain ⟨oD',eD',q,_⟩:=K.data k eD fun fs q=>by rw [hdD] at q; cases q
 exact ⟨(ba o e' h1 h2 (.inr (ax D h3 h4 (ce oD' es ep eD' (q.trans hdD) r)))),fun o' q=>by rw [e'] at q; (have oc:=Option.some.inj q; clear q; subst oc); exact h3⟩
theorem tR {σ:St}{c:String} (h:eA σ = .exc c):False:=by
 unfold eA at h
 refine bv h fun uu h=>?_
 refine bv h fun uu h=>?_
 refine bv h fun uu h=>?_
 refine bv h fun uu h=>?_
 refine bv h fun uu h=>?_
 refine bv h fun uu h=>?_
 refine bv h fun uu h=>?_
 refine bv h fun uu h=>?_
 split at h <;> cases h
set_option maxHeartbeats 2000000 in
theorem qU {σ:St}{r:V × Mode} (h:eA σ = .ok r):∃ ci mc rows ys,r=(.rule ci (.list rows) (ys:List PyData).length,.deep)∧σ "count" = some (.d (.int ci),mc)∧σ "full" = some (.d (.list rows),.deep)∧rows[0]? = some (.list ys):=by
 unfold eA at h
 obtain ⟨⟨pc,mc⟩,hc1,h⟩:=aP h
 obtain ⟨dc,hc2,h⟩:=aP h
 obtain ⟨ci,hc3,h⟩:=aP h
 obtain ⟨⟨pf,mf⟩,hf1,h⟩:=aP h
 obtain ⟨df,hf2,h⟩:=aP h
 obtain ⟨rows,hf3,h⟩:=aP h
 obtain ⟨row0,hf4,h⟩:=aP h
 obtain ⟨ys,hf5,h⟩:=aP h
 by_cases hd:mf = .deep
 ·  rw [if_pos hd] at h
    have e1:=cj hc2
    have e2:=cu hc3
    have e3:=cj hf2
    have e4:=bt hf3
    have e5:=bt hf5
    dsimp only at e1 e3
    rw [e1,e2] at hc1
    rw [e3,e4,hd] at hf1
    rw [e5] at hf4
    exact (gN ci mc rows ys ((Out.ok.inj h).symm) hc1 hf1 hf4)
 ·  rw [if_neg hd] at h; exact nB h
theorem uD {σ:St}{rows ys:List PyData} (hf1:σ "full" = some (.d (.list rows),.deep)) (hf4:rows[0]? = some (.list ys)):ev C dO (b6 σ ["full"]) = .ok (sI ys.length):=by
 have h1:b6 σ ["full"] "full" = some (.d (.list rows),.deep):=by unfold b6; rw [if_pos (by simp)]; exact hf1
 have h2:jJ (.list rows) 0=some (.list ys):=by
    show (a7 0 rows.length).bind (fun k=>rows[k]?)=_
    have hl:0<rows.length:=(List.getElem?_eq_some_iff.mp hf4).1
    unfold a7
    rw [if_pos (Int.le_refl 0),if_pos (by exact la3 hl)]
    exact hf4
 unfold dO
 rw [ji,je,c9,eT,h1]
 show ((eG (.list rows) (.int 0)).bind _)=_
 unfold eG
 rw [show dJ (.int 0)=some 0 from rfl]
 simp only [av,h2,Out.ok_bind]
 rfl
theorem tJ (C:Calls) (hf:fns.hand=false) {A:Around}{env:Env}{P:Addr→Prop}{hh h' hs:Heap}{g:Array GenState}{dr:Drawn}{tk tk':Nat}{os:OsState}{x D:Addr}{σ:St}{vals:String→Option Value}{fp:String→List Addr}{Q:Flow→Shared→Prop}{Er:Value→Shared→Prop}
    {ci:Int}{mc:Mode}{rows ys:List PyData}{a3 b3 c3:Stmt} (Mk:Heap.MadeObj hh h' x D SF.rule) (hxC:x≠SF.rule) (kh:K h' hs) (ge:GE fns hh) (R0:RuleAt fns hh) (hlam:fns.lam=false)
    (K':SOK fns k h' P (fun b=>∃ o,h'.get? b=some o) A env hs σ vals fp) (hfr:∃ l,A.frames=some (env :: l)∧FrOk hh l) (hvs:vals "self" = some (.ref x))
    (hc1:σ "count" = some (.d (.int ci),mc)) (hf1:σ "full" = some (.d (.list rows),.deep)) (hf4:rows[0]? = some (.list ys))
    (o1:dY env.scope.names "count" (.name "count") a3=true) (o2:dY env.scope.names "full" (.name "full") b3=true) (o3:dY env.scope.names "size" dO c3=true)
    (hQ:∀ s',EP P ⟨hh,g,dr,tk,os⟩ (.rule ci (.list rows) ys.length,.deep) (.ref x) s'→Q .next s'):wpAny (model prog w) A (execs [a3,b3,c3] env) Q Er ⟨hs,g,dr,tk',os⟩:=by
 have kM:K hh h':=.of Mk.keeps
 have Zx:∃ o,h'.get? x=some o:=by obtain ⟨o,e,_⟩:=Mk.inst; exact ⟨o,e⟩
 refine g7 (Inst.ns1 Mk.inst Mk.dict) fun ox ex hxc hxd hxdict hDx hNs=>?_
 have ZD:∃ o,h'.get? D=some o:=by obtain ⟨o,_,_,e,_⟩:=hNs; exact ⟨o,e⟩
 have kall:K hh hs:=KG.trans kM kh
 refine ae (K'.val "count" _ hc1) fun uu Hq=>?_
 refine aq (Hq) fun vc hvc Gr _=>?_
 try clear Hq
 refine ae (Gr) fun rvc _=>?_
 try clear Gr
 refine rvc.isInt_k fun tc Gv _=>?_
 (clear rvc; subst Gv)
 refine ae (K'.val "full" _ hf1) fun uu GW=>?_
 refine aq (GW) fun vf hvf Gs _=>?_
 try clear GW
 refine ae (Gs) fun rvf zvf=>?_
 try clear Gs
 refine ae (K'.deep "full" _ hf1 rfl) fun dp1 dp2=>?_
 refine ae (Inst.kk Mk.inst Mk.dict kh) fun I1 D1=>?_
 refine cz (jK o1) fun q1 q2 v1 q3 Gx ov1=>?_
 (clear o1; subst Gx)
 refine cz (jK o2) fun q4 q5 v2 q6 GB ov2=>?_
 (clear o2; subst GB)
 refine cz (jK o3) fun q7 q8 v3 q9 Gy ov3=>?_
 (clear o3; subst Gy)
 refine aq (jC ov1) fun q10 GI _ nd1=>?_
 subst GI
 refine aq (jC ov2) fun q11 GG _ nd2=>?_
 subst GG
 have nds:aT "self" = true:=by decide
 have xStay:∀ {h:Heap}{mA:Str→Option Value},h.Inst x SF.rule mA→∀ o,h.get? x=some o→¬ Stay o:=fun I o e=>by
    refine aq (I) fun o' e' c' _=>?_
    try clear I
    rw [e] at e'; (have oc:=Option.some.inj e'; clear e'; subst oc)
    exact Stay.not_cls (by rw [c']; simp) (by rw [c']; simp)
 have dStay:∀ {h:Heap}{mA:Str→Option Value},h.Inst x SF.rule mA→(∀ o,h.get? x=some o→o.dict=some D)→(∀ o,h.get? D=some o→¬ Stay o)∧∀ o,h.get? D=some o→∀ vs n,o.data≠.seq vs n:=fun I d=>by
    obtain ⟨_,_,_,_,_,_,o',es,ep,e',hd',_⟩:=Inst.ns1 I d
    exact ⟨fun o e=>by rw [e] at e'; (have oc:=Option.some.inj e'; clear e'; subst oc); exact Stay.not_dict hd',fun o e vs n q=>by rw [e] at e'; (have oc:=Option.some.inj e'; clear e'; subst oc); rw [hd'] at q; cases q⟩
 have nxf:x∉fp "full" := fun q=>(dp1 x q).1 Zx
 have nDf:D∉fp "full" := fun q=>(dp1 D q).1 ZD
 have keepR:∀ {h h2:Heap}{mA:Str→Option Value},h.Inst x SF.rule mA→(∀ o,h.get? x=some o→o.dict=some D)→But2 x D h h2→R h vf (.list rows) (fp "full")→R h2 vf (.list rows) (fp "full"):=fun I d b r=>by
    refine r.on2 fun a o ha ⟨vs,n,hs⟩ e=>b a o (fun q=>?_) (fun q=>?_) e
    · (clear D1 I1 Mk Zx b d dStay ex hDx hQ hvs hxC xStay; subst q)
      refine aq (I) fun o' e' c' _=>?_
      try clear I
      rw [e] at e'; (have oc:=Option.some.inj e'; clear e'; subst oc)
      rcases ha with ha | ha
      · exact nxf ha
      · rw [c'] at ha; cases ha
    · (clear D1 Mk ZD b hDx hNs hxdict nDf; subst q)
      exact (dStay I d).2 o e vs n hs
 refine wpAny_execs_cons (plainObj_wpAny_Assign_Attribute (cR K'.eok.kind nd1 (K'.loc.var K'.eok hvc) (cR K'.eok.kind nds (K'.loc.var K'.eok hvs) (iJ (fns:=fns) (R0.k kall) (by simp [fieldNames]) Within.nil (by simp) hxC I1 D1 fun h2 tk2 I2 b2 D2=>?_))) rfl)
 have k2:K hh h2:=b2.kk kall Mk.newX Mk.newD (xStay I1) (dStay I1 D1).1
 have L2:=K'.loc.but2 b2 Zx ZD
 refine wpAny_execs_cons (plainObj_wpAny_Assign_Attribute (cR K'.eok.kind nd2 (L2.var K'.eok hvf) (cR K'.eok.kind nds (L2.var K'.eok hvs) (iJ (fns:=fns) (R0.k k2) (by simp [fieldNames]) (Within.cons _ _ Within.nil) (by simp) hxC I2 D2 fun h3 tk3 I3 b3 D3=>?_))) rfl)
 have k3:K hh h3:=b3.kk k2 Mk.newX Mk.newD (xStay I2) (dStay I2 D2).1
 have L3:=L2.but2 b3 Zx ZD
 have rf3:R h3 vf (.list rows) (fp "full"):=keepR I2 D2 b3 (keepR I1 D1 b2 rvf)
 have he:ev C dO (b6 σ ["full"]) = .ok (sI ys.length):=uD hf1 hf4
 have cx3:Cx fns k A (fun uu=>True) h3 env (b6 σ ["full"]):=by
    refine ⟨K'.room,K'.eok,ge.k k3,(fun q=>by rw [hlam] at q; cases q),fun q=>?_,fun y py hy _=>?_⟩
    · refine cy (K'.out q) fun l e1 e2 e3 e4=>?_
      refine ag (hfr) fun l' f1 f2=>?_
      refine (ah _ f1 (fun env' he'=>?_))
      rcases List.mem_cons.mp he' with rfl | he'
      · refine ag (L3.ns) fun m GT _=>?_
        refine aL (GT) fun o es ep g1 g2 _=>?_
        refine ag (L3.cls) fun o' g3 g4=>?_
        rw [g1] at g3; (have oc:=Option.some.inj g3; clear g3; subst oc)
        exact (aF K'.eok.kind (jd _ _ es ep e3 e4 g1 g4 g2))
      · exact (f2.k k3) env' he'
    · unfold b6 at hy
      split at hy
      · rename_i hm
        rw [List.mem_singleton.mp hm] at hy ⊢
        rw [hf1] at hy; (have oc:=Option.some.inj hy; clear hy; subst oc)
        exact (aS vf (fp "full") (L3.var K'.eok hvf) ⟨rf3,zvf⟩ (fun uu uu=>trivial))
      · exact nN hy
 have S3:SimE fns k C XPc dO:=qc hf (pz bB (jI "full") (la 0))
 refine wpAny_execs_cons (plainObj_wpAny_Assign_Attribute (S3 ov3 cx3 (by rw [he]; simp) (fun r hr v s4 E4=>?_) (fun c hc=>by rw [he] at hc; cases hc)) (by
    refine Or.elim (wB ov3) (fun F3=>?_) (fun q=>?_)
    · refine cz (F3) fun GD GL Hg GX GJ GV=>?_
      clear F3
      subst GJ
      rfl
    · cases q))
 rw [he] at hr; (have oc:=Out.ok.inj hr; clear hr; subst oc)
 obtain ⟨GF,as4,G8,_⟩:=E4
 refine au (GF) fun h4 tk4 G2 k34=>?_
 try clear GF
 subst G2
 refine ae (G8) fun rv4 _=>?_
 try clear G8
 refine rv4.isInt_k fun t4 GU _=>?_
 (clear rv4; subst GU)
 refine ae (Inst.kk I3 D3 k34) fun I4 D4=>?_
 have k4:K hh h4:=KG.trans k3 k34
 have L4:=L3.onK k34
 refine cR K'.eok.kind nds (L4.var K'.eok hvs) (iJ (fns:=fns) (R0.k k4) (by simp [fieldNames]) (Within.cons _ _ (Within.cons _ _ Within.nil)) (by simp) hxC I4 D4 fun h5 tk5 I5 b5 D5=>?_)
 have k5':K hh h5:=b5.kk k4 Mk.newX Mk.newD (xStay I4) (dStay I4 D4).1
 have rf5:R h5 vf (.list rows) (fp "full"):=keepR I4 D4 b5 (rf3.k k34)
 refine g7 (Inst.ns1 I5 D5) fun o5 e5 c5 d5 di5 ne5 ns5=>?_
 have nh:∀ a,¬ (∃ o,h'.get? a=some o)→hh.get? a=none:=fun a q=>by
    cases e:hh.get? a with
    | none=>rfl
    | some o=>exact absurd ⟨o,Mk.keeps a o e⟩ q
 refine wpAny_execs_nil (hQ _ ⟨(aA h5 tk5 rfl k5'),x :: D :: fp "full", (gc x D o5 vf (fp "full") tc t4 _ rfl rfl e5 c5 d5 di5 ne5 ns5 ?_ ?_ ?_ ?_ rf5 zvf),fun a ha'=>.inr ?_,(fun q=>by cases q),fun uu=>⟨fun a ha'=>?_,?_⟩⟩)
 ·  rfl
 ·  rfl
 ·  rfl
 ·  intro m hm
    simp only [methNames,List.mem_cons,List.not_mem_nil,or_false] at hm
    rcases hm with rfl | rfl | rfl | rfl | rfl <;> rfl
 ·  rcases List.mem_cons.mp ha' with rfl | ha'
    · exact Mk.newX
    · rcases List.mem_cons.mp ha' with rfl | ha'
      · exact Mk.newD
      · exact nh a (dp1 a ha').1
 ·  rcases List.mem_cons.mp ha' with rfl | ha'
    · exact Mk.newX
    · rcases List.mem_cons.mp ha' with rfl | ha'
      · exact Mk.newD
      · exact nh a (dp1 a ha').1
 ·  refine List.nodup_cons.mpr ⟨fun q=>?_,List.nodup_cons.mpr ⟨nDf,dp2⟩⟩
    rcases List.mem_cons.mp q with q | q
    · exact ne5 q.symm
    · exact nxf q
theorem tx (hf:fns.hand=false) {fn:Fn}{p:Addr × FnT} (hp:fns.init=some p) (hC:bS { fns with lam:=p.2.lam } k C XPc) (hok:okI p.2 fn=true) {A:Around}{P:Addr→Prop}{s:Shared}{Q:Value→Shared→Prop}{Er:Value→Shared→Prop}{xs:List V}{vals:List Value}{as:List Addr}
    (hroom:Room fns.hand (k + 1) A) (hfr:∃ l,A.frames=some l∧FrOk s.heap l) (ge:GE fns s.heap) (rs:RVs s.heap xs vals as) (ha:∀ a∈as,P a) (nb:cG C fn xs≠.bad) (hQ:∀ r,cG C fn xs = .ok r→∀ v s',EP P s r v s'→Q v s') (hE:∀ c,cG C fn xs = .exc c→∀ x s',XPc c s x s'→Er x s') :
    wpAny (model prog w) A (call (.ref SF.rule) vals []) Q Er s:=by
 unfold okI at hok
 simp only [Bool.and_eq_true,decide_eq_true_eq,List.all_eq_true,Bool.not_eq_true'] at hok
 refine ae (hok) fun FZ hlam=>?_
 try clear hok
 refine ae (FZ) fun F0 hfree=>?_
 try clear FZ
 refine ae (F0) fun F1 hself=>?_
 try clear F0
 refine ae (F1) fun F2 hlast=>?_
 try clear F1
 refine ae (F2) fun F4 hbody=>?_
 try clear F2
 refine ae (F4) fun F5 hnd=>?_
 try clear F4
 refine ae (F5) fun hps hbk=>?_
 try clear F5
 refine eh (xP hlast) fun a3 b3 c3 hl3 o1 o2 o3=>?_
 cases hσ:bz fn.params xs with
 | none=>exact absurd (by unfold cG; rw [hσ]) nb
 | some σ=>
    refine ae (ou rs hσ) fun hlen Gn=>?_
    refine aj (Gn) fun fp hfp=>?_
    try clear Gn
    have R0:=ge.cls (.inr (by rw [hp]; rfl))
    refine aZ (R0) fun N mN F6 quiet Ga _=>?_
    try clear R0
    obtain ⟨F9,hN⟩:=F6
    refine dW (F9) fun nm q bs' sn sub col dd k0 k1 k2 k3 k5 hCl=>?_
    try clear F9
    refine kn (Ga) fun p' oI i1 i2 i3 i4 i5=>?_
    try clear Ga
    rw [hp] at i1; (have oc:=Option.some.inj i1; clear i1; subst oc)
    obtain ⟨hh,g,dr,tk,os⟩:=s
    refine wpAny_call_obj_init PySem.F.objNew hCl hN i2 i4 i5 fun h' x D Mk=>?_
    have hxC:x≠SF.rule:=fun q=>by have:=Mk.newX; rw [q] at this; rw [this] at hCl; exact nN hCl
    have kM:K hh h':=.of Mk.keeps
    refine rX (i3.k kM) fun o fd ho hd hbd hsc hgl hcl hbl hcr hcode hbind hco hgen hkind=>?_
    rw [hps] at hbind
    refine ae (hroom.at hf) fun r1 r2=>?_
    have ge':GE fns h':=ge.k kM
    have K0fp:∀ y q,σ y=some q→y ∈ "self" :: fn.params∧∃ V v,q=mk V∧(("self" :: fn.params).zip (.ref x :: vals)).lookup y=some v∧RV h' v V (fp y)∧∀ a∈fp y,P a:=fun y q hq=>by
      refine ae (hfp y q hq) fun h1 GC=>?_
      refine aZ (GC) fun V v h2 h3 h4 h5=>?_
      try clear GC
      have hys:y ≠ "self" := fun e=>by
        rw [hps] at hnd
        exact (List.nodup_cons.mp hnd).1 (e▸h1)
      refine (aF (.tail _ h1) (aU V v h2 ?_ (h4.k kM) (fun a h=>ha a (h5 a h))))
      rw [List.zip_cons_cons,List.lookup_cons,beq_eq_false_iff_ne.mpr hys]
      exact h3
    have hu:(A.under (.builtin "type.__call__" ⟨.ref SF.rule :: vals,[]⟩)).units≤A.units + 50:=by
      have:(Code.builtin "type.__call__" ⟨.ref SF.rule :: vals,[]⟩).cUnits≤50:=by
        have:(Code.builtin "type.__call__" ⟨.ref SF.rule :: vals,[]⟩).cUnits=1 + 3 * (Code.builtin "type.__call__" ⟨.ref SF.rule :: vals,[]⟩).frames:=rfl
        rw [this]
        have:(Code.builtin "type.__call__" ⟨.ref SF.rule :: vals,[]⟩).frames≤1:=by first | exact Nat.le_refl _ | exact Nat.zero_le _
        exact AJ this
      show A.units + _≤_
      exact BU this
    refine wpAny_call (pZ (s:=⟨h',g,dr,tk,os⟩) (A:=A.under (.builtin "type.__call__" ⟨.ref SF.rule :: vals,[]⟩)) (by rw [depth_under_make]; exact De r1) ho hd (pP ge.nolim kM) hcr hbd (hbind (.ref x :: vals) (by rw [List.length_cons,List.length_cons,hlen])) hcl (ku hsc (fun y hy=>hbk y (hps▸hy))) (fun s₁ X=>?_) hco hgen hkind)
    refine bi (X.x.toInCall.same) fun h₁ tk₁ Gh=>?_
    subst Gh
    have hk₁:=X.x.toInCall.keep
    have KS:=lX (k:=k) (ft:=p.2) (fa:=p.1) (σ:=σ) (pn := "self" :: fn.params) (pv:=.ref x :: vals) (fp:=fp) (P:=P) (s:=⟨h',g,dr,tk,os⟩) hf (hps▸hnd) (fun y hy=>hbk y (hps▸hy)) hfree (A:=A.under (.builtin "type.__call__" ⟨.ref SF.rule :: vals,[]⟩)) hroom.1 (by rw [depth_under_make]; exact Cw r1) (Nat.lt_of_le_of_lt (by exact BI hu) r2) (by
      refine ag (hfr) fun l e1 e2=>?_
      try clear hfr
      exact (ah l e1 (e2.k kM))) ge' hsc hgl hbl hkind hcode X K0fp
    have hsplit:p.2.body=p.2.body.take (p.2.body.length - 3) ++ [a3,b3,c3]:=by rw [← hl3]; exact (List.take_append_drop _ _).symm
    rw [hsplit,l5]
    refine wpAny_bind ?_
    have okb:cE (callEnvC fd h'.objs.size p.1).scope.names fn.body (p.2.body.take (p.2.body.length - 3))=true:=by show cE fd.scope.names fn.body _=true; rw [hsc]; exact hbody
    cases hex:exs C fn.body σ with
    | bad=>exact absurd (uz hσ hex) nb
    | exc c=>
      refine l6 (fns:={ fns with lam:=p.2.lam }) hf hC fn.body okb KS hex fun x s' st lv ex=>?_
      have kp:Kp ⟨h',g,dr,tk,os⟩ s':=by
        refine au (st) fun h₂ tk' Gi kk=>?_
        try clear st
        (clear ex lv; subst Gi)
        exact (aA h₂ tk' rfl (Mine.K.step (Mine.K.of hk₁) kk fun b o e=>⟨o,e⟩))
      exact m0 kp lv ex fun s'' X=>hE c (um hσ hex) x s'' (.of (aA h' tk rfl kM) X)
    | ok o=>
    obtain ⟨σ',fl⟩:=o
    cases fl with
    | ret q=>exact absurd (vM hσ hex) nb
    | next=>
    cases hfl:eA σ' with
    | bad=>exact absurd ((lY hσ hex).trans hfl) nb
    | exc c=>
      exact (tR hfl).elim
    | ok r=>
    replace hQ:=hQ r ((lY hσ hex).trans hfl)
    refine fI (qU hfl) fun ci mc rows ys er hc1 hf1 hf4=>?_
    refine l7 (fns:={ fns with lam:=p.2.lam }) hf hC fn.body okb KS hex (fun uu s' vals' fp' st K' F=>?_) fun q e=>by cases e
    refine au (st) fun hs' tk' Gj kgs=>?_
    (clear st; subst Gj)
    rw [er] at hQ
    have R0:=ge.cls (.inr (by rw [hp]; rfl))
    refine tJ (fns:={ fns with lam:=p.2.lam }) C hf Mk hxC (Mine.K.step (Mine.K.of hk₁) kgs fun b o e=>⟨o,e⟩) (ge.flag _ _) R0 hlam K' ?_ ?_ hc1 hf1 hf4 (by show dY fd.scope.names _ _ _=true; rw [hsc]; exact o1) (by show dY fd.scope.names _ _ _=true; rw [hsc]; exact o2) (by show dY fd.scope.names _ _ _=true; rw [hsc]; exact o3) fun s' E=>⟨rfl,hQ _ _ E⟩
    · refine ag (hfr) fun l' f1 f2=>?_
      exact (ah l' (Around.frames_deeper (A:=A.under (.builtin "type.__call__" ⟨.ref SF.rule :: vals,[]⟩)) f1) f2)
    · rw [(F.1 "self" hself).1]
      show (("self" :: fn.params).zip (Value.ref x :: vals)).lookup "self" = _
      rw [List.zip_cons_cons,List.lookup_cons,beq_self_eq_true]
end
end Mine
namespace Mine
open PySem PyProof.Rows
section
variable {fns:Fns}{L:List (String × Fn)}
noncomputable def ww (fns:Fns) (L:List (String × Fn)):Prop:=∀ f fn,L.lookup f=some fn→(f∈aO→f∈SF.excN)∧(f∉aO→if f = "Rule" then ∃ p,fns.init=some p∧okI p.2 fn=true else if f∈methNames then ∃ p,fns.mth f=some p∧okF p.2 fn=true∧p.2.lam=false else ∃ p,fns.fn f=some p∧okF p.2 fn=true∧p.2.lam=true)
theorem xW {ft:FnT}{f:Fn} (h:okI ft f=true):ft.lam=false:=by
 unfold okI at h
 simp only [Bool.and_eq_true,Bool.not_eq_true'] at h
 exact h.2
theorem sH (hf:fns.hand=false) (hL:ww fns L):∀ n,bS { fns with lam:=true } n (mkC L n) XPc∧bS { fns with lam:=false } n (bL (mkC L n)) XPc
 | 0=>⟨(fun f g h=>by cases h),fun f g h=>by
    unfold bL at h
    split at h <;> cases h⟩
 | n + 1=>by
    refine ae (sH hf hL n) fun i1 i2=>?_
    have main:∀ (b:Bool) (f:String) (g:List V→Out (V × Mode)),mkC L (n + 1) f=some g→(f∈aO→f∈SF.excN)∧(f∉aO→∃ a,adr { fns with lam:=b } f=some a∧∀ {A:Around}{P:Addr→Prop}{s:Shared}{Q:Value→Shared→Prop}{Er:Value→Shared→Prop}{xs:List V}{vals:List Value}{as:List Addr},
        Room fns.hand (n + 1) A→(∃ l,A.frames=some l∧FrOk s.heap l)→GE { fns with lam:=b } s.heap→RVs s.heap xs vals as→(∀ a∈as,P a)→g xs≠.bad→(∀ r,g xs = .ok r→∀ v s',EP P s r v s'→Q v s')→(∀ c,g xs = .exc c→∀ x s',XPc c s x s'→Er x s') →
        wpAny (model prog w) A (call (.ref a) vals []) Q Er s):=fun b f g h=>by
      refine bp (show (L.lookup f).map (fun fn vs=>cT f (mkC L n) fn vs)=some g from h) fun fn hfn FW=>?_
      (clear h; subst FW)
      refine ae (hL f fn hfn) fun h1 h2=>?_
      refine ⟨h1,fun he=>?_⟩
      replace h2:=h2 he
      by_cases hr:f = "Rule"
      · rw [if_pos hr] at h2
        refine ag (h2) fun p hp hok=>?_
        try clear h2
        refine (ah SF.rule (by unfold adr; rw [if_pos hr]; show (fns.init).map _=_; rw [hp]; rfl) (fun room fr ge rs ha nb hQ hE=>?_))
        have hk:∀ xs,cT f (mkC L n) fn xs=cG (bL (mkC L n)) fn xs:=fun xs=>by unfold cT; rw [if_pos hr]
        dsimp only at nb
        rw [hk] at nb
        refine tx (fns:={ fns with lam:=b }) hf (p:=p) hp (by rw [xW hok]; exact i2) hok room fr ge rs ha nb (fun r e=>hQ r ((hk _).trans e)) fun c e=>hE c ((hk _).trans e)
      · rw [if_neg hr] at h2
        by_cases hm:f∈methNames
        · rw [if_pos hm] at h2
          refine aq (h2) fun p hp hok hl=>?_
          try clear h2
          refine (ah p.1 (by rw [yT hr hm]; show (fns.mth f).map _=_; rw [hp]; rfl) (fun room fr ge rs ha nb hQ hE=>?_))
          have hk:∀ xs,cT f (mkC L n) fn xs=aB (bL (mkC L n)) fn xs:=fun xs=>by unfold cT; rw [if_neg hr,if_pos hm]
          dsimp only at nb
          rw [hk] at nb
          refine aZ (ge.cls (.inl (bE f p hp))) fun uu uu uu uu uu hmt=>?_
          refine aq (hmt f p hp) fun uu uu hat _=>?_
          exact k9 (fns:={ fns with lam:=b }) hf (ft:=p.2) (by rw [hl]; exact i2) hok room fr ge hat rs ha nb (fun r e=>hQ r ((hk _).trans e)) fun c e=>hE c ((hk _).trans e)
        · rw [if_neg hm] at h2
          refine aq (h2) fun p hp hok hl=>?_
          try clear h2
          refine (ah p.1 (by rw [rQ hr hm]; show (fns.fn f).map _=_; rw [hp]; rfl) (fun room fr ge rs ha nb hQ hE=>?_))
          have hk:∀ xs,cT f (mkC L n) fn xs=aB (mkC L n) fn xs:=fun xs=>by unfold cT; rw [if_neg hr,if_neg hm]
          dsimp only at nb
          rw [hk] at nb
          exact k9 (fns:={ fns with lam:=b }) hf (ft:=p.2) (by rw [hl]; exact i1) hok room fr ge (ge.funs f p hp) rs ha nb (fun r e=>hQ r ((hk _).trans e)) fun c e=>hE c ((hk _).trans e)
    refine ⟨fun f g h=>⟨Nat.le_add_left 1 n,fun uu=>rfl,main true f g h⟩,fun f g h=>?_⟩
    unfold bL at h
    split at h
    · exact nN h
    · rename_i hn
      exact ⟨Nat.le_add_left 1 n,fun q=>absurd q hn,main false f g h⟩
end
end Mine
namespace Mine
open PySem PyProof.Rows
noncomputable def bU (p:Program) (loose:List Str) (mg mN:Str→Option Value) (L:List (String × Fn)):Fns where
 fn f:=if f = "Rule" ∨ f∈methNames∨f∈aO then none else (L.lookup f).bind fun fn=>((recsOf p).find? fun d=>d.name == Str.ofString f).bind fun d=>(eZ (mg (Str.ofString f))).map fun a=>(a,⟨fn.params,d.body,d.scope,true⟩)
 mth m:=if m∈methNames then (L.lookup m).bind fun fn=>(di p loose m).bind fun r=>(eZ (mN (Str.ofString m))).map fun a=>(a,⟨fn.params,r.body,r.scope,false⟩) else none
 init:=(L.lookup "Rule").bind fun fn=>(di p loose "__init__").bind fun r=>(eZ (mN "__init__")).map fun a=>(a,⟨"self" :: fn.params,r.body,r.scope,false⟩)
 lam:=true
 hand:=false
theorem fQ {α:Type}:∀ {l:List (String × α)}{x:String}{v:α},l.lookup x=some v→(x,v)∈l
 | (y,u) :: l,x,v,h=>by
    rw [List.lookup_cons] at h
    split at h
    · rename_i e; (have oc:=Option.some.inj h; clear h; subst oc); rw [beq_iff_eq.mp e]; exact .head _
    · exact .tail _ (fQ h)
theorem rD {ps:List String} (h:ps.Nodup):(ps.map Str.ofString).Nodup:=List.pairwise_map.mpr (List.Pairwise.imp (fun h e=>h (cO e)) h)
theorem pI {fd:FuncData}{ps:List String} (h:fu fd.params ps=true) (hd:fd.defaults = .none) (hn:ps.Nodup) (vals:List Value) (hl:vals.length=ps.length):bindArgs fd ⟨vals,[]⟩=pure ((ps.map Str.ofString).zip vals):=by
 unfold fu at h
 simp only [Bool.and_eq_true,beq_iff_eq,List.isEmpty_iff,Option.isNone_iff_eq_none] at h
 refine ae (h) fun FY h6=>?_
 try clear h
 refine ae (FY) fun FZ h5=>?_
 try clear FY
 refine ae (FZ) fun F0 h4=>?_
 try clear FZ
 refine ae (F0) fun h2 h3=>?_
 try clear F0
 exact rF h2 h3 h4 h5 h6 hd (rD hn) (by rw [List.length_map]; exact hl)
theorem mq {ft:FnT}{f:Fn} (h:okF ft f=true):f.params.Nodup:=by
 unfold okF at h
 simp only [Bool.and_eq_true,decide_eq_true_eq] at h
 exact h.1.1.2
theorem si {ft:FnT}{f:Fn} (h:okI ft f=true):ft.params.Nodup:=by
 unfold okI at h
 simp only [Bool.and_eq_true,decide_eq_true_eq] at h
 exact h.1.1.1.1.1.2
theorem jX {sc:Scope} (h:fo sc=true):sc.isCoroutine=false∧sc.isGenerator=false∧sc.kind = .function:=by
 unfold fo at h
 simp only [Bool.and_eq_true,Bool.not_eq_true',beq_iff_eq] at h
 exact ⟨h.1.1,h.1.2,h.2⟩
section
variable {p:Program}{loose:List Str}{mean:ExcName→Option Value}{mg mb:Str→Option Value}{h:Heap}{L:List (String × Fn)}
theorem DN (hS:∀ c P,h.TableAt c P #[]→SF.tab P) (T:Top p loose mean mg mb h) {f:String}{ps:List String}{d:DefRec} (hd:(recsOf p).find? (fun d=>d.name == Str.ofString f)=some d) (hn:ps.Nodup) (h1:fu d.params ps=true) (h2:fo d.scope=true) :
    ∃ a,mg (Str.ofString f)=some (.ref a)∧FnAt h ⟨ps,d.body,d.scope,true⟩ a:=by
 have hm:=List.mem_of_find?_eq_some hd
 have hnm:=List.find?_some hd
 simp only [beq_iff_eq] at hnm
 refine qS (T.fn d hm) fun a o pm code doc t1 t2 t3 t4=>?_
 have hcode:CodeOk h code d.name:=by
    refine yZ (T.tab d hm) fun a' o' fd c P u1 u2 u3 u4 u5 u6=>?_
    rw [t1] at u1; cases u1
    rw [t2] at u2; (have oc:=Option.some.inj u2; clear u2; subst oc)
    rw [t3] at u3; cases u3
    exact ⟨c,P,#[],u4,t4,u5,u6,⟨trivial,fun pos cv q=>by cases q⟩,hS c P u6⟩
 refine aD (jX h2) fun h7 h8 h9=>?_
 exact ⟨a,by rw [← hnm]; exact t1,o,_,t2,t3,rfl,rfl,rfl,rfl,rfl,t4,fun uu=>hcode,fun vals hl=>pI (by exact h1) rfl hn vals hl,h7,h8,h9⟩
theorem pY {C N:Addr}{mN:Str→Option Value}{c:ClsRec} (P:PlainAt h c C N mN) {m:String}{ps:List String}{r:MethRec} (hr:c.meths.find? (fun r=>r.name == Str.ofString m)=some r) (hn:ps.Nodup) (h1:fu r.params ps=true) (h2:fo r.scope=true) :
    ∃ a o,mN (Str.ofString m)=some (.ref a)∧FnAt h ⟨ps,r.body,r.scope,false⟩ a∧h.get? a=some o∧o.cls = .type "function" := by
 have hnm:=List.find?_some hr
 simp only [beq_iff_eq] at hnm
 refine zS (P.meths r (List.mem_of_find?_eq_some hr)) fun a o pm cd doc t1 t2 t3 t4 t5=>?_
 refine aD (jX h2) fun h7 h8 h9=>?_
 exact ⟨a,o,by rw [← hnm]; exact t1,⟨o,_,t2,t4,rfl,rfl,rfl,rfl,rfl,t5,(fun q=>by cases q),fun vals hl=>pI (by exact h1) rfl hn vals hl,h7,h8,h9⟩,t2,t3⟩
theorem yx (TE:TopE p loose mg h) (Y:fA (bn L) h) (T:Top p loose mean mg mb h) (hr:(eQ p loose).isSome=true):∃ c C N mN,eQ p loose=some c∧mg "Rule" = some (.ref C)∧PlainAt h c C N mN∧∀ n∈fieldNames,mN (Str.ofString n)=none:=by
 refine bF hr fun c hc=>?_
 have hm:=List.mem_of_find?_eq_some hc
 have hn:=List.find?_some hc
 simp only [beq_iff_eq] at hn
 refine bh (TE c hm) fun C N mN h1 P=>?_
 rw [hn] at h1
 refine ⟨c,C,N,mN,hc,h1,P.ofCmp,fun n hf=>?_⟩
 obtain ⟨mg',g',ad,_,_,C',o,cd,mN',b1,b2,b3,b4,b5⟩:=Y
 have hg:mg' = mg:=g'.eq_nsMap.trans T.g.eq_nsMap.symm
 (clear T TE; subst hg)
 have e1:mg' "Rule" = some (.ref C):=h1
 rw [b1] at e1; cases e1
 refine dW (P.cls.obj) fun nm q bs sn sub col dd k0 k1 k2 k3 k5 e=>?_
 rw [b2] at e; (have oc:=Option.some.inj e; clear e; (clear b2; subst oc))
 cases b3
 have hN:mN' = mN:=b4.eq_nsMap.trans P.cls.ns.eq_nsMap.symm
 rw [← hN]
 exact b5 n hf
theorem zw (Y:fA (bn L) h) (T:Top p loose mean mg mb h) (ht:kN p loose L=true) {ad:String→Addr} (had:∀ c∈bn L,mg (Str.ofString c)=some (.ref (ad c))) (hP:bn L=[] ∨ "PickError" ∈ bn L) (hSF:∀ c,SF.exc c=ad c) :
    (∀ c∈bn L,ExcAt h c)∧∀ c∈bn L,∀ c' ∈ "PickError" :: bn L,ad c=ad c'→c=c':=by
 obtain ⟨mg',g',ad',a1,a2,_⟩:=Y
 have hg:mg' = mg:=g'.eq_nsMap.trans T.g.eq_nsMap.symm
 subst hg
 have ea:∀ c∈bn L,ad' c=ad c:=fun c hc=>by
    refine au (a1 c hc) fun uu uu q _=>?_
    rw [had c hc] at q
    exact (Value.ref.inj (Option.some.inj q)).symm
 refine ⟨fun c hc=>?_,fun c hc c' hc' q=>?_⟩
 ·  have hP' : "PickError" ∈ bn L:=hP.resolve_left fun q=>by rw [q] at hc; cases hc
    refine aZ (a1 c hc) fun o cd b1 b2 b3 b4=>?_
    refine uR hc fun hcm hce=>?_
    refine aN hcm fun F1 hq F2=>?_
    obtain ⟨f,fn⟩:=F1
    (clear hcm; subst F2)
    have ht1:=List.all_eq_true.mp ht _ hq
    unfold gu at ht1
    rw [if_pos (of_decide_eq_true hce),beq_iff_eq] at ht1
    refine ag (T.ownAt ht1) fun C O _=>?_
    obtain ⟨bm,N,nm,q,bs,hdct,sn,sub,ab,col,dd,k0,k1,k2,k3,k5,mN,c1,c2,c3,c4⟩:=O.obj
    have eC:=O.bound
    rw [b1] at eC; cases eC
    rw [b2] at c1; (have oc:=Option.some.inj c1; clear c1; subst oc)
    cases b3
    dsimp only at b4
    injection b4 with _ b4
    have e1:SF.exc f=ad' f:=by rw [hSF,ea f hc]
    have e2:SF.exc "PickError" = ad' "PickError" := by rw [hSF,ea _ hP']
    have e3:bm=dU f:=by rw [b4]; unfold dU; rw [e2]
    subst e3
    rw [← e1] at b2
    exact ⟨N,nm,q,bs,hdct,sn,sub,ab,col,dd,k0,k1,k2,k3,k5,mN,by rw [e1] at b2 ⊢; exact b2,c2,c3 _ (.head _),c4.tail⟩
 ·  have hP' : "PickError" ∈ bn L:=hP.resolve_left fun q=>by rw [q] at hc; cases hc
    have hc'':c'∈bn L:=(List.mem_cons.mp hc').elim (fun q=>q▸hP') id
    exact a2 c hc c' hc'' (by rw [ea c hc,ea c' hc'']; exact q)
theorem x5 (Y:fA (bn L) h) (T:Top p loose mean mg mb h):∀ c∈bn L,∃ a,mg (Str.ofString c)=some (.ref a):=fun c hc=>by
 obtain ⟨mg',g',ad',a1,_⟩:=Y
 have hg:mg' = mg:=g'.eq_nsMap.trans T.g.eq_nsMap.symm
 (clear T; subst hg)
 refine au (a1 c hc) fun uu uu q _=>?_
 exact ⟨_,q⟩
theorem lw (ht:kN p loose L=true) {f:String}{fn:Fn} (hf:L.lookup f=some fn):gu p loose f fn=true:=List.all_eq_true.mp ht _ (fQ hf)
theorem vK {f:String}{fn:Fn} (hf:L.lookup f=some fn) (he:f∈aO):f∈bn L:=List.mem_filter.mpr ⟨List.mem_map.mpr ⟨_,fQ hf,rfl⟩,decide_eq_true he⟩
theorem tL (hS:∀ c P,h.TableAt c P #[]→SF.tab P) (hO:∀ b,SF.old b→∃ o,h.get? b=some o) (T:Top p loose mean mg mb h) (TE:TopE p loose mg h) (Y:fA (bn L) h) (ht:kN p loose L=true) (hb:uE p loose=true) (hr:(eQ p loose).isSome=true) (hL:(L.lookup "Rule").isSome=true) (hP:bn L=[] ∨ "PickError" ∈ bn L)
    (hN:SF.excN=bn L) (hA:∀ c,SF.exc c=((eZ (mg (Str.ofString c))).getD 0)) (hR:SF.rule=(eZ (mg "Rule")).getD 0):∃ mN,GE (bU p loose mg mN L) h∧ww (bU p loose mg mN L) L:=by
 refine fI (yx TE Y T hr) fun c C N mN hc hC Pl hfn=>?_
 have eR:SF.rule=C:=by rw [hR,hC]; rfl
 have had:∀ c∈bn L,mg (Str.ofString c)=some (.ref (SF.exc c)):=fun c hc=>by
    refine aj (x5 Y T c hc) fun a e=>?_
    rw [hA,e]; rfl
 refine ae (zw Y T ht (ad:=SF.exc) had hP fun uu=>rfl) fun x1 x2=>?_
 have mrec:∀ m,di p loose m=c.meths.find? fun r=>r.name == Str.ofString m:=fun m=>by unfold di; rw [hc]; rfl
 have tM:∀ m fn,L.lookup m=some fn→m∈methNames→∃ a o r,di p loose m=some r∧mN (Str.ofString m)=some (.ref a)∧FnAt h ⟨fn.params,r.body,r.scope,false⟩ a∧h.get? a=some o∧o.cls = .type "function" ∧ okF ⟨fn.params,r.body,r.scope,false⟩ fn=true:=fun m fn hm hmm=>by
    have h1:=lw ht hm
    have n1:m∉aO:=fun q=>by
      simp only [methNames,List.mem_cons,List.not_mem_nil,or_false] at hmm
      rcases hmm with rfl | rfl | rfl | rfl | rfl <;> revert q <;> decide
    have n2:m ≠ "Rule" := fun q=>by (clear h1 hm n1; subst q); revert hmm; decide
    unfold gu at h1
    rw [if_neg n1,if_neg n2,if_pos hmm] at h1
    refine ak h1 fun r hr h1=>?_
    simp only [Bool.and_eq_true] at h1
    refine aZ (pY Pl ((mrec m).symm.trans hr) (mq h1.1.1) h1.1.2 h1.2) fun a o e1 e2 e3 e4=>?_
    exact ⟨a,o,r,hr,e1,e2,e3,e4,h1.1.1⟩
 have tI:∀ fn,L.lookup "Rule" = some fn→∃ a o r,di p loose "__init__" = some r∧mN "__init__" = some (.ref a)∧FnAt h ⟨"self" :: fn.params,r.body,r.scope,false⟩ a∧h.get? a=some o∧o.cls = .type "function" ∧ okI ⟨"self" :: fn.params,r.body,r.scope,false⟩ fn=true:=fun fn hm=>by
    have h1:=lw ht hm
    unfold gu at h1
    rw [if_neg (by decide),if_pos rfl] at h1
    refine ak h1 fun r hr h1=>?_
    simp only [Bool.and_eq_true] at h1
    refine aZ (pY Pl (ps := "self" :: fn.params) ((mrec "__init__").symm.trans hr) (si h1.1.1) h1.1.2 h1.2) fun a o e1 e2 e3 e4=>?_
    exact ⟨a,o,r,hr,e1,e2,e3,e4,h1.1.1⟩
 have tF:∀ f fn,L.lookup f=some fn→¬ (f = "Rule" ∨ f∈methNames∨f∈aO)→∃ a d,(recsOf p).find? (fun d=>d.name == Str.ofString f)=some d∧mg (Str.ofString f)=some (.ref a)∧FnAt h ⟨fn.params,d.body,d.scope,true⟩ a∧okF ⟨fn.params,d.body,d.scope,true⟩ fn=true:=fun f fn hm hn=>by
    have h1:=lw ht hm
    unfold gu at h1
    rw [if_neg (fun q=>hn (.inr (.inr q))),if_neg (fun q=>hn (.inl q)),if_neg (fun q=>hn (.inr (.inl q)))] at h1
    refine ak h1 fun d hd h1=>?_
    simp only [Bool.and_eq_true] at h1
    refine ag (DN hS T hd (mq h1.1.1) h1.1.2 h1.2) fun a e1 e2=>?_
    exact ⟨a,d,hd,e1,e2,h1.1.1⟩
 have gF:∀ f p',(bU p loose mg mN L).fn f=some p'→¬ (f = "Rule" ∨ f∈methNames∨f∈aO)∧mg (Str.ofString f)=some (.ref p'.1)∧FnAt h p'.2 p'.1:=fun f p' hp=>by
    simp only [bU] at hp
    split at hp
    · exact nN hp
    · rename_i hn
      refine bg hp fun fn hfn hp=>?_
      refine aZ (tF f fn hfn hn) fun a d e1 e2 e3 _=>?_
      rw [e1,e2] at hp
      (have oc:=Option.some.inj hp; clear hp; subst oc)
      exact ⟨hn,e2,e3⟩
 have gM:∀ m p',(bU p loose mg mN L).mth m=some p'→m∈methNames∧∃ o,mN (Str.ofString m)=some (.ref p'.1)∧FnAt h p'.2 p'.1∧h.get? p'.1=some o∧o.cls = .type "function" := fun m p' hp=>by
    simp only [bU] at hp
    split at hp
    · rename_i hn
      refine bg hp fun fn hfn hp=>?_
      refine cH (tM m fn hfn hn) fun a o r e1 e2 e3 e4 e5 _=>?_
      rw [e1,e2] at hp
      (have oc:=Option.some.inj hp; clear hp; subst oc)
      exact ⟨hn,o,e2,e3,e4,e5⟩
    · exact nN hp
 have gI:∀ p',(bU p loose mg mN L).init=some p'→∃ o,mN "__init__" = some (.ref p'.1)∧FnAt h p'.2 p'.1∧h.get? p'.1=some o∧o.cls = .type "function" := fun p' hp=>by
    simp only [bU] at hp
    refine bg hp fun fn hfn hp=>?_
    refine cH (tI fn hfn) fun a o r e1 e2 e3 e4 e5 _=>?_
    rw [e1,e2] at hp
    (have oc:=Option.some.inj hp; clear hp; subst oc)
    exact ⟨o,e2,e3,e4,e5⟩
 refine ⟨mN,⟨⟨mg,T.g,fun f a hf hq=>?_,fun x hx=>?_⟩,fun f p' hp=>(gF f p' hp).2.2,fun uu=>?_,⟨mb,T.b,fun x hx=>?_⟩,T.nolimit,hO,⟨mg,T.g,fun c hc=>?_,?_⟩,xz (T.bmain) fun bm ob a b c d e f=>⟨mg,bm,ob,T.g,a,b,c,d,e,f⟩⟩,fun f fn hf=>⟨fun he=>by rw [hN]; exact vK hf he,fun he=>?_⟩⟩
 ·  unfold adr at hq
    by_cases h1:f = "Rule"
    · rw [if_pos h1] at hq
      refine bp hq fun uu uu F4=>?_
      subst F4
      rw [h1,eR]; exact hC
    · rw [if_neg h1,if_neg hf] at hq
      refine bp hq fun p' hp F5=>?_
      subst F5
      exact (gF f p' hp).2.1
 ·  have:=List.all_eq_true.mp hb x hx
    simp only [Bool.and_eq_true,Bool.not_eq_true',List.contains_eq_mem,decide_eq_false_iff_not] at this
    refine ae (this) fun F6 h5=>?_
    try clear this
    refine ae (F6) fun Ga h4=>?_
    try clear F6
    refine ae (Ga) fun F9 h3=>?_
    try clear Ga
    refine ae (F9) fun h1 h2=>?_
    try clear F9
    exact T.free _ h1 h2 h3 h4 h5
 ·  refine bF hL fun fn hfn'=>?_
    refine cH (tI fn hfn') fun a o r e1 e2 e3 e4 e5 _=>?_
    refine ⟨N,mN,eR▸Pl.cls,fun n hn=>?_,⟨(a,⟨"self" :: fn.params,r.body,r.scope,false⟩),o,?_,e2,e3,e4,e5⟩,fun m p' hp=>(gM m p' hp).2⟩
    · simp only [List.mem_cons,List.not_mem_nil,or_false] at hn
      rcases hn with rfl | rfl | rfl | rfl | rfl | rfl
      · exact Pl.quiet _ (List.mem_append_left _ (.head _))
      · exact Pl.quiet _ (List.mem_append_left _ (.tail _ (.head _)))
      · exact Pl.quiet _ (List.mem_append_left _ (.tail _ (.tail _ (.head _))))
      · exact hfn _ (.head _)
      · exact hfn _ (.tail _ (.head _))
      · exact hfn _ (.tail _ (.tail _ (.head _)))
    · simp only [bU,hfn',e1,e2,Option.bind_some,eZ,Option.map_some]
 ·  simp only [bnames,List.mem_cons,List.not_mem_nil,or_false] at hx
    rcases hx with rfl | rfl | rfl | rfl | rfl | rfl | rfl | rfl | rfl | rfl | rfl | rfl <;> (rw [T.builtins _ (by decide +kernel)]; kernel_rfl)
 ·  rw [hN] at hc
    exact ⟨had c hc,x1 c hc⟩
 ·  rw [hN]; exact x2
 ·  by_cases h1:f = "Rule"
    · rw [if_pos h1]
      (clear he; subst h1)
      refine cH (tI fn hf) fun a o r e1 e2 e3 e4 e5 e6=>?_
      exact ⟨(a,⟨"self" :: fn.params,r.body,r.scope,false⟩),by simp only [bU,hf,e1,e2,Option.bind_some,eZ,Option.map_some],e6⟩
    · rw [if_neg h1]
      by_cases h2:f∈methNames
      · rw [if_pos h2]
        refine cH (tM f fn hf h2) fun a o r e1 e2 e3 e4 e5 e6=>?_
        exact ⟨(a,⟨fn.params,r.body,r.scope,false⟩),by simp only [bU,if_pos h2,hf,e1,e2,Option.bind_some,eZ,Option.map_some],e6,rfl⟩
      · rw [if_neg h2]
        refine aZ (tF f fn hf fun q=>q.elim h1 fun q=>q.elim h2 he) fun a d e1 e2 e3 e6=>?_
        exact ⟨(a,⟨fn.params,d.body,d.scope,true⟩),by simp only [bU,if_neg (show ¬ (f = "Rule" ∨ f∈methNames∨f∈aO) from fun q=>q.elim h1 fun q=>q.elim h2 he),hf,e1,e2,Option.bind_some,eZ,Option.map_some],e6,rfl⟩
theorem pg {n:Nat} (h:n≤60):Room false n callerA:=⟨fun uu=>rfl,by show 1 + claimMargin + 2 * n + 4<recursionLimit; unfold claimMargin recursionLimit; exact C6 h,by show 4 + 100 * n + 300<cLine; unfold cLine; exact Bk h⟩
theorem Ac:oj gl:=by
 intro p loose mean mg mb L s fn fa a n ns vs m Q Er hSF T TE Y ht hb hr hL hP hf hmg hn hrun ea hI hlen hQ
 replace hSF:SF=m8 mg L s.heap:=hSF
 show wpAny (model prog w) callerA (call (.ref fa) [.ref a]) Q Er s
 refine ag (tL (fun c P x=>by rw [hSF]; exact ⟨c,x⟩) (fun b hb=>by rw [hSF] at hb; exact hb) T TE Y ht hb hr hL hP (by rw [hSF]; rfl) (fun uu=>by rw [hSF]; rfl) (by rw [hSF]; rfl)) fun mN ge tab=>?_
 obtain ⟨p',hp,hok,hlam⟩:∃ p',(bU p loose mg mN L).fn "law" = some p'∧okF p'.2 fn=true∧p'.2.lam=true:=(tab "law" fn hf).2 (by decide)
 have ha:p'.1=fa:=by
    have:(bU p loose mg mN L).fn "law" = some p':=hp
    simp only [bU] at this
    rw [if_neg (by decide),hf] at this
    refine bg (show ((recsOf p).find? _).bind _=some p' from this) fun d _ this=>?_
    rw [hmg] at this
    (have oc:=Option.some.inj this; clear this; (clear hlam hok hp; subst oc)); rfl
 have hC:bS { (bU p loose mg mN L) with lam:=p'.2.lam } n (mkC L n) XPc:=by rw [hlam]; exact (sH (fns:=bU p loose mg mN L) rfl tab n).1
 have rs:RVs s.heap [.d (aa ns)] [.ref a] ([a] ++ []):=by
    refine .cons ⟨.list ea (RA.of_ints hI),?_⟩ .nil
    exact sz_list.mpr ⟨by rw [List.length_map]; exact hlen,gV ns⟩
 have hat:FnAt s.heap p'.2 fa:=ha▸ge.funs "law" p' hp
 refine k9 (fns:=bU p loose mg mN L) (P:=fun uu=>True) rfl hC hok (pg (by exact A7 hn)) ⟨[],rfl,fun uu h=>nomatch h⟩ ge hat rs (fun uu uu=>trivial) (by rw [hrun]; simp) (fun r hr v s' E=>?_) fun c hc=>by rw [hrun] at hc; cases hc
 rw [hrun] at hr; (have oc:=Out.ok.inj hr; clear hr; subst oc)
 obtain ⟨Gh,as,Gi,_⟩:=E
 refine au (Gh) fun h' tk Gj kp=>?_
 try clear Gh
 subst Gj
 refine ae (Gi) fun r _=>?_
 try clear Gi
 cases r
 refine hQ h' tk ⟨fun b o e=>?_,fun b o e=>K.there kp e⟩
 refine ag (kp b o (.inl trivial) e) fun o' e' l=>?_
 cases l with
 | same q=>exact .inl (q▸e')
 | tab ps more q1 q2 q3 _=>
    rw [hSF] at q1; revert q1; intro H7
    refine aj (H7) fun c q1=>?_
    try clear H7
    (clear e; subst q2 q3)
    exact .inr (.inl ⟨q1.isCodeTable,rfl,ps,more,rfl,e'⟩)
 | frame es ep q1 _ _ _ _ _=>rw [hSF] at q1; exact absurd ⟨o,e⟩ q1
end
theorem qV {P:Params}{h:Heap}{a:Addr}{vs:List Value}{xs:List W.WData} (x:W.Well P h (.ref a) (.list xs)) (hL:h.IsList a vs.toArray):h.get? a=some { cls:=.type "list", data:=.seq vs.toArray }:=by
 obtain ⟨o,e,hc,n,hd⟩:=hL
 cases x with
 | list e' _=>
    rw [e] at e'; (have oc:=Option.some.inj e'; clear e'; (clear hc; subst oc))
    dsimp only at hd
    injection hd with h1 h2
    rw [e,h1]
end Mine
namespace Mine
open PySem PyProof.Rows
theorem uK {p:Program}{loose:List Str}{mean:ExcName→Option Value}{mg mb:Str→Option Value}{L:List (String × Fn)}{w:World}{prog:Program}{s:Shared}{fn:Fn}{fa a:Addr}{n:Nat}{ns:List Int}{vs:List Value}{m:Mode}{Q:Value→Shared→Prop}{Er:Value→Shared→Prop} (T:Top p loose mean mg mb s.heap) (TE:TopE p loose mg s.heap) (Y:fA (bn L) s.heap) (ht:kN p loose L=true) (hb:uE p loose=true) (hr:(eQ p loose).isSome=true) (hL:(L.lookup "Rule").isSome=true) (hP:bn L=[] ∨ "PickError" ∈ bn L)
    (hf:L.lookup "law" = some fn) (hmg:mg (Str.ofString "law")=some (.ref fa)) (hn:n≤50) (hrun:aB (mkC L n) fn [.d (aa ns)] = .ok (.d (.bool true),m)) (ea:s.heap.get? a=some { cls:=.type "list", data:=.seq vs.toArray }) (hI:IntsAre vs ns) (hlen:ns.length≤2 ^ 22)
    (hQ:∀ h' tk,OldK s.heap h'→Q (.bool true) { s with heap:=h',toks:=tk }):wpAny (model prog w) callerA (call (.ref fa) [.ref a]) Q Er s :=
 zQ Ac ⟨prog,w,m8 mg L s.heap⟩ rfl T TE Y ht hb hr hL hP hf hmg hn hrun ea hI hlen hQ
end Mine
namespace Mine
open PySem
theorem jq {n:Nat}:∀ {xs:List PyData},(∀ x∈xs,x.depth≤n)→PyData.depthAll xs≤n
 | [],_=>by simp [PyData.depthAll]
 | x :: xs,h=>by
    rw [PyData.depthAll]
    exact Nat.max_le.mpr ⟨h x (.head _),jq fun y hy=>h y (.tail _ hy)⟩
theorem ip:∀ {xs:List PyData},(∀ x∈xs,x.canLay0=true)→PyData.canLayAll0 xs=true
 | [],_=>by simp [PyData.canLayAll0]
 | x :: xs,h=>by
    rw [PyData.canLayAll0,h x (.head _),ip fun y hy=>h y (.tail _ hy)]; rfl
noncomputable def Low (n:Nat) (d:PyData):Prop:=d.canLay0=true∧d.depth≤n
theorem Low.okc {n:Nat}{d:PyData} (h:Low n d) (hn:n≤64:=by decide):okc d=true:=by
 unfold Mine.okc
 rw [h.1,decide_eq_true (Nat.le_trans h.2 hn)]; rfl
theorem Low.int (i:Int) (n:Nat):Low (n + 1) (.int i):=⟨rfl,by simp [PyData.depth]⟩
theorem Low.list {n:Nat}{xs:List PyData} (h:∀ x∈xs,Low n x):Low (n + 1) (.list xs) :=
 ⟨by rw [PyData.canLay0]; exact ip fun x hx=>(h x hx).1,by rw [PyData.depth]; have:=jq fun x hx=>(h x hx).2; exact mG this⟩
theorem nr (ns:List Int) (n:Nat):Low (n + 2) (aa ns):=.list fun x hx=>by
 refine aN hx fun i _ FW=>?_
 (clear hx; subst FW)
 exact .int i n
theorem v6 (t:List (List Int)) (n:Nat):Low (n + 3) (af t):=.list fun x hx=>by
 refine aN hx fun i _ FY=>?_
 (clear hx; subst FY)
 exact nr i n
@[simp] theorem gp (i:Int):okc (.int i)=true:=(Low.int i 0).okc
@[simp] theorem EK:okc .none=true:=rfl
@[simp] theorem cL (ns:List Int):okc (aa ns)=true:=(nr ns 0).okc
@[simp] theorem okc_ints' (ns:List Int):okc (.list (ns.map .int))=true:=cL ns
@[simp] theorem d0 (t:List (List Int)):okc (af t)=true:=(v6 t 0).okc
@[simp] theorem okc_rows' (t:List (List Int)):okc (.list (t.map aa))=true:=d0 t
@[simp] theorem FN:okc (.list [])=true:=cL []
@[simp] theorem ls (a b:Int):PyData.eqv (.int a) (.int b)=decide (a=b):=by
 rw [PyData.eqv]; by_cases h:a=b <;> simp [h]
theorem jA:∀ (a b:List Int),PyData.eqvAll (a.map .int) (b.map .int)=decide (a=b)
 | [],[]=>by simp [PyData.eqvAll]
 | [],y :: b=>by simp [PyData.eqvAll]
 | x :: a,[]=>by simp [PyData.eqvAll]
 | x :: a,y :: b=>by
    rw [List.map_cons,List.map_cons,PyData.eqvAll,jA a b,ls]
    by_cases h1:x=y <;> by_cases h2:a=b <;> simp [h1,h2]
@[simp] theorem eY (a b:List Int):PyData.eqv (aa a) (aa b)=decide (a=b):=by
 unfold aa; rw [PyData.eqv]; exact jA a b
@[simp] theorem eqv_ints' (a b:List Int):PyData.eqv (.list (a.map .int)) (.list (b.map .int))=decide (a=b):=eY a b
theorem jB:∀ (a b:List (List Int)),PyData.eqvAll (a.map aa) (b.map aa)=decide (a=b)
 | [],[]=>by simp [PyData.eqvAll]
 | [],y :: b=>by simp [PyData.eqvAll]
 | x :: a,[]=>by simp [PyData.eqvAll]
 | x :: a,y :: b=>by
    rw [List.map_cons,List.map_cons,PyData.eqvAll,jB a b,eY]
    by_cases h1:x=y <;> by_cases h2:a=b <;> simp [h1,h2]
@[simp] theorem oE (a b:List (List Int)):PyData.eqv (af a) (af b)=decide (a=b):=by
 unfold af; rw [PyData.eqv]; exact jB a b
@[simp] theorem z5 (a:List Int):PyData.eqv (aa a) (.list [])=decide (a=[]):=eY a []
@[simp] theorem nU (k:Int) (ns:List Int):inV (.int k) (.d (aa ns)) = .ok (decide (k∈ns)):=by
 show (if okc (.int k) && okc (aa ns) then Out.ok ((ns.map PyData.int).any fun y=>PyData.eqv y (.int k)) else .bad)=_
 rw [gp,cL,if_pos (by decide)]
 congr 1
 rw [Bool.eq_iff_iff,List.any_map]
 simp [List.any_eq_true]
@[simp] theorem uq (k:List Int) (t:List (List Int)):inV (aa k) (.d (af t)) = .ok (decide (k∈t)):=by
 show (if okc (aa k) && okc (af t) then Out.ok ((t.map aa).any fun y=>PyData.eqv y (aa k)) else .bad)=_
 rw [cL,d0,if_pos (by decide)]
 congr 1
 rw [Bool.eq_iff_iff,List.any_map]
 simp [List.any_eq_true]
@[simp] theorem cW:∀ ns:List Int,aM (ns.map .int)=some ns
 | []=>rfl
 | i :: ns=>by rw [List.map_cons,aM,cW ns]; rfl
theorem sQ (ns:List Int):(ns.map PyData.int).all sx=true:=by rw [List.all_map,List.all_eq_true]; intro _ _; rfl
@[simp] theorem lT (ns:List Int):fresh (ns.map .int) = .deep:=by unfold fresh; rw [sQ]; rfl
@[simp] theorem zf (i:Int):mk (.d (.int i))=sI i:=rfl
@[simp] theorem FK (ns:List Int):mk (.d (aa ns))=(.d (aa ns),.sh):=rfl
theorem jU {F:PyData→Out (Option (V × Mode))}{f:Int→Int}{p:Int→Bool}:∀ {ns:List Int},(∀ i∈ns,F (.int i) = .ok (if p i then some (sI (f i)) else none))→bw F (ns.map .int) = .ok (((ns.filter p).map f).map .int,true)
 | [],_=>rfl
 | i :: ns,h=>by
    rw [List.map_cons,bw,h i (.head _),jU fun j hj=>h j (.tail _ hj)]
    simp only [Out.ok_bind]
    cases hp:p i <;> simp [hp,sI,List.filter_cons]
theorem nW {α:Type}{F:PyData→Out (Option (V × Mode))}{e:α→PyData}{f:α→Int}:∀ {l:List α},(∀ i∈l,F (e i) = .ok (some (sI (f i))))→bw F (l.map e) = .ok ((l.map f).map .int,true)
 | [],_=>rfl
 | i :: l,h=>by
    rw [List.map_cons,bw,h i (.head _),nW fun j hj=>h j (.tail _ hj)]
    rfl
theorem gT {α:Type}{F:PyData→Out (Option (V × Mode))}{e:α→PyData}{f:α→List Int}{p:α→Bool}{m:α→Mode}:∀ {l:List α},(∀ i∈l,F (e i) = .ok (if p i then some (.d (aa (f i)),m i) else none)) →
    ∃ b,bw F (l.map e) = .ok (((l.filter p).map f).map aa,b)∧((∀ i∈l,m i = .deep)→b=true)
 | [],_=>(ah true rfl (fun uu=>rfl))
 | i :: l,h=>by
    refine ag (gT (l:=l) fun j hj=>h j (.tail _ hj)) fun b e1 e2=>?_
    rw [List.map_cons,bw,h i (.head _),e1]
    simp only [Out.ok_bind]
    cases hp:p i
    · exact (ah b (by simp [hp,List.filter_cons]) (fun q=>e2 fun j hj=>q j (.tail _ hj)))
    · refine (ah (decide (m i = .deep) && b) (by simp [hp,List.filter_cons]) (fun q=>?_))
      rw [q i (.head _),e2 fun j hj=>q j (.tail _ hj)]; rfl
theorem kj (a b:Int):cS a b=((List.range (b - a).toNat).map fun (k:Nat)=>a + (k:Int)).map .int:=by
 unfold cS; rw [List.map_map]; rfl
noncomputable def aR (n:Nat):List Int:=(List.range n).map fun (k:Nat)=>(k:Int)
theorem sV {n:Nat} (h:n≤1000000):bY 0 n = .ok ((aR n).map .int,.deep):=by
 unfold bY
 rw [if_pos (cf (by unfold lim; exact By h) (by exact Dz) (by exact DO) (by exact AX) (by exact A1 h)),kj]
 simp [aR]
theorem mem_upTo {n:Nat}{i:Int}:i∈aR n↔0≤i∧i<n:=by
 unfold aR
 simp only [List.mem_map,List.mem_range]
 constructor
 ·  rintro ⟨k,hk,rfl⟩; exact Dw hk
 ·  rintro ⟨h1,h2⟩; exact (ah i.toNat (by exact la1 h1 h2) (by exact DG h1))
theorem lB {xs:List PyData}{i:Int}{k:Nat}{y:PyData} (hk:a7 i xs.length=some k) (h:xs[k]? = some y):eG (.list xs) (.int i) = .ok (mk (.d y)):=by
 show (av ((a7 i xs.length).bind fun k=>xs[k]?) fun z=>Out.ok (mk (.d z)))=_
 rw [hk,Option.bind_some,h]; rfl
theorem eM {i:Int}{n:Nat} (h0:0≤i) (h:i<n):a7 i n=some i.toNat:=by unfold a7; rw [if_pos h0,if_pos h]
theorem rU {ns:List Int}{i:Int}{x:Int} (h0:0≤i) (h:ns[i.toNat]? = some x):eG (aa ns) (.int i) = .ok (sI x):=by
 have hlt:i.toNat<ns.length:=(List.getElem?_eq_some_iff.mp h).1
 exact lB (eM h0 (by rw [List.length_map]; exact wH hlt)) (by rw [List.getElem?_map,h]; rfl)
section
variable (a b:Int) (xs ys:List Int) (t u:List (List Int)) (σ:St) (x y:String) (v:V × Mode)
@[simp] theorem FR:upd σ x v y=if y=x then some v else σ y:=rfl
@[simp] theorem bM (b:Bool):ao (.d (.bool b)) = .ok b:=rfl
@[simp] theorem FT:b9 .lt (.d (.int a)) (.d (.int b)) = .ok (decide (a<b)):=rfl
@[simp] theorem FS:b9 .gt (.d (.int a)) (.d (.int b)) = .ok (decide (b<a)):=rfl
@[simp] theorem FU:b9 .ge (.d (.int a)) (.d (.int b)) = .ok (decide (b≤a)):=rfl
@[simp] theorem zX:b9 .eq (.d (.int a)) (.d (.int b)) = .ok (decide (a=b)):=by
 show (if okc (.int a) && okc (.int b) then Out.ok (PyData.eqv (.int a) (.int b)) else .bad)=_
 rw [gp,gp,ls,if_pos (by decide)]
@[simp] theorem zq:b9 .ne (.d (.int a)) (.d (.int b)) = .ok (!decide (a=b)):=by
 show (if okc (.int a) && okc (.int b) then Out.ok (!PyData.eqv (.int a) (.int b)) else .bad)=_
 rw [gp,gp,ls,if_pos (by decide)]
@[simp] theorem yO:b9 .eq (.d (aa xs)) (.d (aa ys)) = .ok (decide (xs=ys)):=by
 show (if okc (aa xs) && okc (aa ys) then Out.ok (PyData.eqv (aa xs) (aa ys)) else .bad)=_
 rw [cL,cL,eY,if_pos (by decide)]
@[simp] theorem FH:b9 .ne (.d (aa xs)) (.d (aa ys)) = .ok (!decide (xs=ys)):=by
 show (if okc (aa xs) && okc (aa ys) then Out.ok (!PyData.eqv (aa xs) (aa ys)) else .bad)=_
 rw [cL,cL,eY,if_pos (by decide)]
@[simp] theorem lx:b9 .eq (.d (af t)) (.d (af u)) = .ok (decide (t=u)):=by
 show (if okc (af t) && okc (af u) then Out.ok (PyData.eqv (af t) (af u)) else .bad)=_
 rw [d0,d0,oE,if_pos (by decide)]
@[simp] theorem FO:b9 .ne (.d (af t)) (.d (af u)) = .ok (!decide (t=u)):=by
 show (if okc (af t) && okc (af u) then Out.ok (!PyData.eqv (af t) (af u)) else .bad)=_
 rw [d0,d0,oE,if_pos (by decide)]
@[simp] theorem zT:b9 .isin (.d (.int a)) (.d (aa xs)) = .ok (decide (a∈xs)):=nU a xs
@[simp] theorem x7:b9 .notin (.d (.int a)) (.d (aa xs)) = .ok (!decide (a∈xs)):=by
 show ((inV (.int a) (.d (aa xs))).bind fun b=>Out.ok (!b))=_
 rw [nU]; rfl
@[simp] theorem pS:b9 .isin (.d (aa xs)) (.d (af t)) = .ok (decide (xs∈t)):=uq xs t
@[simp] theorem FM:cZ .add (.int a) (.int b) = .ok (sI (a + b)):=rfl
@[simp] theorem FG:cZ .sub (.int a) (.int b) = .ok (sI (a - b)):=rfl
@[simp] theorem FQ:cZ .xor (.int a) (.int b) = .ok (sI (Builtin.bitXor a b)):=rfl
theorem rR (h:a.natAbs<2 ^ 63):cZ .mul (.int a) (.int b) = .ok (sI (a * b)):=by
 show (if a.natAbs<2 ^ 63∨b.natAbs<2 ^ 63 then Out.ok (sI (a * b)) else .bad)=_
 rw [if_pos (.inl h)]
theorem sX (h:b.natAbs<2 ^ 63):cZ .mul (.int a) (.int b) = .ok (sI (a * b)):=by
 show (if a.natAbs<2 ^ 63∨b.natAbs<2 ^ 63 then Out.ok (sI (a * b)) else .bad)=_
 rw [if_pos (.inr h)]
theorem xU (h:0<b):cZ .mod (.int a) (.int b) = .ok (sI (a % b)):=by
 show (if b=0 then Out.bad else Out.ok (sI (a.fmod b)))=_
 rw [if_neg (by exact Dg h),Int.fmod_eq_emod_of_nonneg _ (by exact wO h)]
theorem xX (h:0<b) (h':b<1000000000):cZ .fdiv (.int a) (.int b) = .ok (sI (a / b)):=by
 show (if b=0∨1000000000≤b.natAbs then Out.bad else Out.ok (sI (a.fdiv b)))=_
 rw [if_neg (by lia),Int.fdiv_eq_ediv_of_nonneg _ (by exact wO h)]
theorem wh (h:xs.length + ys.length≤1000000):cZ .add (aa xs) (aa ys) = .ok (.d (aa (xs ++ ys)),.deep):=by
 show (if (xs.map PyData.int).length + (ys.map PyData.int).length≤lim then Out.ok (V.d (.list (xs.map .int ++ ys.map .int)),fresh (xs.map .int ++ ys.map .int)) else .bad)=_
 rw [List.length_map,List.length_map,if_pos (show _≤lim from h),← List.map_append,lT]; rfl
@[simp] theorem zl:b1V .len (.d (aa xs)) = .ok (sI xs.length):=by
 show Out.ok (sI (xs.map PyData.int).length)=_
 rw [List.length_map]
@[simp] theorem yR:b1V .len (.d (af t)) = .ok (sI t.length):=by
 show Out.ok (sI (t.map aa).length)=_
 rw [List.length_map]
@[simp] theorem xO:b1V .list (.d (aa xs)) = .ok (.d (aa xs),.deep):=by
 show Out.ok (V.d (.list (xs.map PyData.int)),fresh (xs.map PyData.int))=_
 rw [lT]; rfl
@[simp] theorem uy:b1V .tuple (.d (aa xs)) = .ok (.d (aJ xs),.deep):=by
 show Out.ok (V.d (.tuple (xs.map PyData.int)),if (xs.map PyData.int).all sx then Mode.deep else .sh)=_
 rw [sQ,if_pos rfl]; rfl
noncomputable def fO (xs:List Int):List Int:=xs.mergeSort fun a b=>decide (a≤b)
theorem ma (h:xs.length<64):b1V .sorted (.d (aa xs)) = .ok (.d (aa (fO xs)),.deep):=by
 show cC (xs.map PyData.int)=_
 unfold cC
 rw [List.length_map,if_pos h,cW]; rfl
theorem pk (h:xs.length<128) (h0:∀ i∈xs,0≤i) (hu:xs.Pairwise (· < ·)) (hs:fO xs=xs):b1V .sorted (.d (aa xs)) = .ok (.d (aa xs),.deep):=by
 by_cases h1:xs.length<64
 ·  rw [ma xs h1,hs]
 show cC (xs.map PyData.int)=_
 unfold cC
 rw [List.length_map,if_neg h1,if_pos h,cW]
 show (if _ then _ else _)=_
 rw [if_pos ⟨h0,hu⟩]
@[simp] theorem Ah:fR (.d (.int a)) "int" = .ok true:=rfl
@[simp] theorem zF:fR (.d (.int a)) "bool" = .ok false:=rfl
@[simp] theorem yV:fR (.d (aa xs)) "list" = .ok true:=rfl
@[simp] theorem zG:(sI a).1 = .d (.int a):=rfl
@[simp] theorem EL:(sI a).2 = .deep:=rfl
@[simp] theorem ik (b:Bool):(sB b).1 = .d (.bool b):=rfl
@[simp] theorem FV (b:Bool):(sB b).2 = .deep:=rfl
@[simp] theorem Fa:bH []=some []:=rfl
@[simp] theorem DZ (m:Mode) (l:List (V × Mode)):bH ((.d (.int a),m) :: l)=(bH l).map (.int a :: ·):=rfl
@[simp] theorem FJ (l:List (V × Mode)):bH (sI a :: l)=(bH l).map (.int a :: ·):=rfl
@[simp] theorem Ai:allDeep []=true:=rfl
@[simp] theorem CD (l:List (V × Mode)):allDeep (sI a :: l)=allDeep l:=by simp [allDeep]
end
theorem gR (xs:List Int):(fO xs).Perm xs:=List.mergeSort_perm ..
theorem iB (xs:List Int):(fO xs).Pairwise (·≤·):=by
 have:=List.pairwise_mergeSort (le:=fun a b:Int=>decide (a≤b)) (fun a b c h1 h2=>by simp at *; exact w7 h1 h2) (fun a b=>by simp; exact xt) xs
 exact this.imp (by intro a b h; simpa using h)
theorem mj:∀ {l l':List Int},l.Perm l'→l.Pairwise (·≤·)→l'.Pairwise (·≤·)→l=l'
 | [],l',p,_,_=>by rw [p.nil_eq]
 | a :: l,[],p,_,_=>by cases p.eq_nil
 | a :: l,b :: l',p,h,h'=>by
    refine ae (List.pairwise_cons.mp h) fun h1 h2=>?_
    refine ae (List.pairwise_cons.mp h') fun h3 h4=>?_
    have e:a=b:=by
      rcases List.mem_cons.mp (p.mem_iff.mp (List.mem_cons_self (a:=a) (l:=l))) with e | e
      · exact e
      · rcases List.mem_cons.mp (p.mem_iff.mpr (List.mem_cons_self (a:=b) (l:=l'))) with e' | e'
        · exact e'.symm
        · have:=h1 b e'; have:=h3 a e; exact xx (by assumption) this
    (clear h' h3; subst e)
    rw [mj ((List.perm_cons a).mp p) h2 h4]
theorem oF {xs ys:List Int} (p:xs.Perm ys) (h:ys.Pairwise (·≤·)):fO xs=ys:=mj ((gR xs).trans p) (iB xs) h
@[simp] theorem tB (xs:List Int):fY (.d (aa xs))=some (xs.map .int):=rfl
@[simp] theorem iA (t:List (List Int)):fY (.d (af t))=some (t.map aa):=rfl
@[simp] theorem cr (xs:List Int) (m:Mode):itV (.d (aa xs),m) = .ok (xs.map .int,m):=rfl
@[simp] theorem aH (t:List (List Int)) (m:Mode):itV (.d (af t),m) = .ok (t.map aa,m):=rfl
@[simp] theorem o8 (xs:List Int) (a:Int):PyData.list (xs.map .int ++ [.int a])=aa (xs ++ [a]):=by unfold aa; rw [List.map_append]; rfl
theorem lU {σ:St}{x:String}{ns:List String}{mx:Mode}{xs:List PyData} (h:xs.length≤1000000):fU σ x ns mx xs .deep = .ok (upd σ x (.d (.list xs),mx),.next):=by
 unfold fU
 rw [if_pos (show _≤lim from h),if_pos rfl]
@[simp] theorem bR (n:Nat):(aR n).length=n:=by simp [aR]
theorem ic {C:Calls}{s:S}{r:Ss}{σ σ':St} (h:ex C s σ = .ok (σ',.next)):exs C (.cons s r) σ=exs C r σ':=by
 simp only [bP,h,Out.ok_bind]
theorem xG {C:Calls}{s:S}{r:Ss}{σ σ':St}{v:V × Mode} (h:ex C s σ = .ok (σ',.ret v)):exs C (.cons s r) σ = .ok (σ',.ret v):=by
 simp only [bP,h,Out.ok_bind]
section
variable {C:Calls}{a b:E}{σ:St}{x y:PyData}{mx my:Mode}
theorem kl (ha:ev C a σ = .ok (.d x,mx)) (hb:ev C b σ = .ok (.d y,my)):ev C (.sub a b) σ=eG x y:=by simp only [je,ha,hb,Out.ok_bind]
theorem c6 {o:BOp} (ha:ev C a σ = .ok (.d x,mx)) (hb:ev C b σ = .ok (.d y,my)):ev C (.bin o a b) σ=cZ o x y:=by simp only [k8,ha,hb,Out.ok_bind]
theorem zp {r:V × Mode} (h:ev C a σ = .ok r):ex C (.ret a) σ = .ok (σ,.ret r):=by simp only [iY,h,Out.ok_bind]
theorem iQ {z:String}{r:V × Mode} (h:ev C a σ = .ok r) (hd:r.2 = .deep):ex C (.assign z a) σ = .ok (upd σ z r,.next):=by
 simp only [cw,jV h,Out.ok_bind,consume,hd,if_true]
end
section
variable {C:Calls}{a b c:E}{σ:St}{x y:V}{mx my:Mode}
theorem iW {f:String}{g:List V→Out (V × Mode)}{es:Es}{l:List (V × Mode)} (hC:C f=some g) (he:evs C es σ = .ok l):ev C (.call f es) σ=g (l.map (·.1)):=by simp only [jQ,hC,he,Out.ok_bind]
theorem ai {es:Es}{r:V × Mode}{l:List (V × Mode)} (h:ev C a σ = .ok r) (hs:evs C es σ = .ok l):evs C (.cons a es) σ = .ok (r :: l):=by simp only [bl,h,hs,Out.ok_bind]
theorem aw:evs C .nil σ = .ok []:=by simp only [br]
theorem bq {o:COp}{t:Bool} (ha:ev C a σ = .ok (x,mx)) (hb:ev C b σ = .ok (y,my)) (h:b9 o x y = .ok t):ev C (.cmp o a b) σ = .ok (sB t):=by simp only [jg,ha,hb,h,Out.ok_bind]
theorem bZ {t:Bool} (ha:ev C a σ = .ok (sB t)):ev C (.not a) σ = .ok (sB (!t)):=by simp only [gw,ha,Out.ok_bind,ik,bM]
theorem xS {t:Bool} (ha:ev C a σ = .ok (sB false)) (hb:ev C b σ = .ok (sB t)):ev C (.or a b) σ = .ok (sB t):=by
 simp only [iy,ha,hb,Out.ok_bind,ik,bM,Bool.false_eq_true,if_false]
theorem x8 (ha:ev C a σ = .ok (sB true)):ev C (.or a b) σ = .ok (sB true):=by
 simp only [iy,ha,Out.ok_bind,ik,bM,if_true]
theorem uJ {t:Bool} (ha:ev C a σ = .ok (sB true)) (hb:ev C b σ = .ok (sB t)):ev C (.and a b) σ = .ok (sB t):=by
 simp only [gy,ha,hb,Out.ok_bind,ik,bM,if_true]
theorem uV (ha:ev C a σ = .ok (sB false)):ev C (.and a b) σ = .ok (sB false):=by
 simp only [gy,ha,Out.ok_bind,ik,bM,Bool.false_eq_true,if_false]
theorem iU {u v:Ss} (h:ev C c σ = .ok (sB false)):ex C (.ite c u v) σ=exs C v σ:=by simp only [gd,h,Out.ok_bind,ik,bM,Bool.false_eq_true,if_false]
theorem lg {u v:Ss} (h:ev C c σ = .ok (sB true)):ex C (.ite c u v) σ=exs C u σ:=by simp only [gd,h,Out.ok_bind,ik,bM,if_true]
theorem gH:exs C .nil σ = .ok (σ,.next):=by simp only [da]
theorem dz {f:B1} (ha:ev C a σ = .ok (x,mx)):ev C (.bi1 f a) σ=b1V f x:=by simp only [ji,ha,Out.ok_bind]
theorem rG {z:String}{p r:V × Mode} (h:σ z=some p) (hr:mk p.1=r):ev C (.name z) σ = .ok r:=by simp only [c9,h,hr]
theorem aG {r:V × Mode}{q:List PyData × Mode} (h:ev C a σ = .ok r) (hq:itV r = .ok q):bj C (.e a) σ = .ok q:=by simp only [gv,h,Out.ok_bind,hq]
theorem bQ {n:Nat}{m:Mode} (h:ev C a σ = .ok (.d (.int n),m)) (hn:n≤1000000):bj C (.r1 a) σ = .ok ((aR n).map .int,.deep):=by
 simp only [e8,h,Out.ok_bind]; exact sV hn
theorem qb {elt:E}{z:String}{it:It}{q:List PyData × Mode}{r:List PyData × Bool} (h:bj C it σ = .ok q) (hr:bw (fun y=>(ev C elt (upd σ z (mk (.d y)))).bind fun r=>.ok (some r)) q.1 = .ok r):ev C (.comp elt z it) σ = .ok (.d (.list r.1),if r.2 then .deep else .top):=by
 simp only [gL,h,Out.ok_bind,hr,Out.calm_ok]
theorem mh {elt c:E}{z:String}{it:It}{q:List PyData × Mode}{r:List PyData × Bool} (h:bj C it σ = .ok q) (hr:bw (fun y=>(ev C c (upd σ z (mk (.d y)))).bind fun t=>(ao t.1).bind fun b=>if b then (ev C elt (upd σ z (mk (.d y)))).bind fun r=>.ok (some r) else .ok none) q.1 = .ok r):ev C (.compif elt z it c) σ = .ok (.d (.list r.1),if r.2 then .deep else .top):=by
 simp only [eP,h,Out.ok_bind,hr,Out.calm_ok]
theorem iT {c:E}{z:String}{it:It}{ns:List Int}{m:Mode} (p:Int→Bool) (h:bj C it σ = .ok (ns.map .int,m)) (hc:∀ i∈ns,ev C c (upd σ z (sI i)) = .ok (sB (p i))):ev C (.compif (.name z) z it c) σ = .ok (.d (aa (ns.filter p)),.deep):=by
 rw [mh h (r:=((ns.filter p).map .int,true))]
 ·  rfl
 ·  have:=jU (F:=fun y=>(ev C c (upd σ z (mk (.d y)))).bind fun t=>(ao t.1).bind fun b=>if b then (ev C (.name z) (upd σ z (mk (.d y)))).bind fun r=>.ok (some r) else .ok none) (f:=fun i=>i) (p:=p) (ns:=ns) fun i hi=>by
      rw [zf,hc i hi]
      cases p i <;> simp [c9]
    simpa using this
theorem tu {z:String}{xs:List Int}{m:Mode}{i:Int} (hz:σ z=some (.d (aa xs),m)) (hm:m≠.sh) (h:ev C a σ = .ok (sI i)) (hl:xs.length<1000000):ex C (.append z a) σ = .ok (upd σ z (.d (aa (xs ++ [i])),m),.next):=by
 simp only [dG,h,Out.calm_ok,Out.ok_bind,hz,tB,if_neg hm,zG,EL]
 rw [lU (by rw [List.length_append,List.length_map]; exact hl),o8]
theorem sR {t:List (List Int)}{i:Int}{r:List Int} (h0:0≤i) (h:t[i.toNat]? = some r):eG (af t) (.int i) = .ok (.d (aa r),.sh):=by
 have hlt:i.toNat<t.length:=(List.getElem?_eq_some_iff.mp h).1
 exact lB (eM h0 (by rw [List.length_map]; exact wH hlt)) (by rw [List.getElem?_map,h]; rfl)
end
end Mine
namespace Mine
open PySem
def Val (σ:St) (x:String) (v:V):Prop:=∃ m,σ x=some (v,m)
def Has (σ:St) (l:List (String × V)):Prop:=∀ x v,l.lookup x=some v→Val σ x v
def Sub (l:List (String × V)):List (String × V)→Prop
 | []=>True
 | p :: r=>l.lookup p.1=some p.2∧Sub l r
theorem fj (σ:St) (x:String) (r:V × Mode):upd σ x r x=some r:=if_pos rfl
theorem lM {β:Type} (x:String) (v:β) (l:List (String × β)):List.lookup x ((x,v) :: l)=some v:=by
 rw [List.lookup_cons,beq_self_eq_true]
theorem mt {β:Type}{x y:String} (h:x≠y) (v:β) (l:List (String × β)):List.lookup x ((y,v) :: l)=l.lookup x:=by
 rw [List.lookup_cons,beq_eq_false_iff_ne.mpr h]
section
variable {C:Calls}{σ:St}{l l':List (String × V)}
theorem Has.nil:Has σ []:=fun uu uu h=>by exact nN h
theorem Has.ev {x:String}{v:V} (H:Has σ l) (h:l.lookup x=some v):ev C (.name x) σ = .ok (mk v):=by
 refine aj (H x v h) fun m e=>?_
 exact rG e rfl
theorem Has.upd (H:Has σ l) (x:String) (v:V) (m:Mode):Has (Mine.upd σ x (v,m)) ((x,v) :: l):=by
 intro y u h
 by_cases e:y=x
 ·  subst e
    rw [lM] at h
    (have oc:=Option.some.inj h; clear h; subst oc)
    exact ⟨m,if_pos rfl⟩
 ·  rw [mt e] at h
    refine aj (H y u h) fun m' q=>?_
    exact ⟨m',(if_neg e).trans q⟩
theorem Has.demote (H:Has σ l) (ns:List String):Has (Mine.demote σ ns) l:=by
 intro x v h
 refine aj (H x v h) fun m q=>?_
 by_cases e:x∈ns
 ·  exact ⟨(mk v).2,(if_pos e).trans (by rw [q]; rfl)⟩
 ·  exact ⟨m,(if_neg e).trans q⟩
theorem Has.consume (H:Has σ l) (ns:List String) (m:Mode):Has (Mine.consume σ ns m) l:=by
 unfold Mine.consume
 by_cases e:m = .deep
 ·  rw [if_pos e]; exact H
 ·  rw [if_neg e]; exact H.demote ns
theorem Has.sub (H:Has σ l) (h:Sub l l'):Has σ l':=by
 induction l' with
 | nil=>exact .nil
 | cons p r ih=>
    intro x v hx
    by_cases e:x=p.1
    · subst e
      rw [lM] at hx
      (have oc:=Option.some.inj hx; clear hx; subst oc)
      exact H _ _ h.1
    · rw [mt e] at hx
      exact ih h.2 x v hx
noncomputable def Runs (C:Calls) (b:Ss) (σ:St) (Post:St→Flw→Prop):Prop:=∃ σ' fl,exs C b σ = .ok (σ',fl)∧Post σ' fl
noncomputable def Cont (C:Calls) (b:Ss) (Post:St→Flw→Prop) (σ:St):Flw→Prop
 | .next=>Runs C b σ Post
 | .ret v=>Post σ (.ret v)
variable {b u v:Ss}{s:S}{e c:E}{Post Post':St→Flw→Prop}{r:V × Mode}{x:String}
theorem Cont.ret (h:Post σ (.ret r)):Cont C b Post σ (.ret r):=h
theorem Runs.mono (h:Runs C b σ Post) (k:∀ σ' fl,Post σ' fl→Post' σ' fl):Runs C b σ Post':=au (h) fun a f h1 h2=>(aA a f h1 (k a f h2))
theorem Runs.nil (h:Post σ .next):Runs C .nil σ Post:=(aA σ .next gH h)
theorem Runs.cons {o:St × Flw} (he:ex C s σ = .ok o) (k:Cont C b Post o.1 o.2):Runs C (.cons s b) σ Post:=by
 obtain ⟨σ',fl⟩:=o
 cases fl with
 | next=>
    refine au (k) fun a f h1 h2=>?_
    try clear k
    exact (aA a f (by rw [ic he]; exact h1) h2)
 | ret v=>exact (aA σ' (.ret v) (xG he) k)
theorem Runs.set (H:Has σ l) (he:Mine.ev C e σ = .ok r) (k:∀ σ',Has σ' ((x,r.1) :: l)→σ' x=some r→Runs C b σ' Post):Runs C (.cons (.assign x e) b) σ Post :=
 Runs.cons (o:=(Mine.upd (Mine.consume σ (fv e) r.2) x r,.next)) (by simp only [cw,jV he,Out.ok_bind]) (k _ ((H.consume _ _).upd x r.1 r.2) (if_pos rfl))
theorem Runs.expr (H:Has σ l) (he:Mine.ev C e σ = .ok r) (k:∀ σ',Has σ' l→(∀ y,y∉fv e→σ' y=σ y)→Runs C b σ' Post):Runs C (.cons (.expr e) b) σ Post :=
 Runs.cons (o:=(Mine.consume σ (fv e) r.2,.next)) (by simp only [dT,he,Out.ok_bind]) (k _ (H.consume _ _) fun y hy=>by
    unfold Mine.consume
    by_cases q:r.2 = .deep
    · rw [if_pos q]
    · rw [if_neg q]; exact if_neg hy)
theorem Runs.ret (he:Mine.ev C e σ = .ok r) (k:Post σ (.ret r)):Runs C (.cons (.ret e) b) σ Post:=Runs.cons (o:=(σ,.ret r)) (zp he) k
theorem Runs.retn (he:σ x=some r) (k:Post σ (.ret r)):Runs C (.cons (.retn x) b) σ Post:=Runs.cons (o:=(σ,.ret r)) (by simp only [jH,he]) k
theorem Runs.no (he:Mine.ev C c σ = .ok (sB false)) (k:Runs C b σ Post):Runs C (.cons (.ite c u .nil) b) σ Post:=Runs.cons (o:=(σ,.next)) ((iU he).trans gH) k
theorem Runs.ite {t:Bool} (he:Mine.ev C c σ = .ok (sB t)) (kt:t=true→Runs C u σ (Cont C b Post)) (kf:t=false→Runs C v σ (Cont C b Post)):Runs C (.cons (.ite c u v) b) σ Post:=by
 cases t with
 | true=>
    refine au (kt rfl) fun a f h1 h2=>?_
    exact Runs.cons (o:=(a,f)) ((lg he).trans h1) h2
 | false=>
    refine au (kf rfl) fun a f h1 h2=>?_
    exact Runs.cons (o:=(a,f)) ((iU he).trans h1) h2
theorem Runs.next {σ':St} (he:ex C s σ = .ok (σ',.next)) (k:Runs C b σ' Post):Runs C (.cons s b) σ Post:=Runs.cons (o:=(σ',.next)) he k
theorem Runs.iteTo {t:Bool} (Inv:St→Prop) (he:Mine.ev C c σ = .ok (sB t)) (kt:t=true→Runs C u σ (fun σ' fl=>fl = .next∧Inv σ')) (kf:t=false→Runs C v σ (fun σ' fl=>fl = .next∧Inv σ')) (k:∀ σ',Inv σ'→Runs C b σ' Post):Runs C (.cons (.ite c u v) b) σ Post :=
 Runs.ite he (fun q=>(kt q).mono fun σ' fl h=>by obtain ⟨rfl,h⟩:=h; exact k σ' h) fun q=>(kf q).mono fun σ' fl h=>by obtain ⟨rfl,h⟩:=h; exact k σ' h
theorem fZ {ns:List String}{m:Mode}:(∀ l,Has σ l→Has (Mine.consume σ ns m) l)∧∀ y,y∉ns→Mine.consume σ ns m y=σ y:=⟨fun uu H=>H.consume ns m,fun y hy=>by
 unfold Mine.consume
 by_cases q:m = .deep
 ·  rw [if_pos q]
 ·  rw [if_neg q]; exact if_neg hy⟩
theorem lL {α:Type}{body:Ss}{z:String}{g:α→PyData}{xs:List α} (Inv:List α→St→Prop)
    (hs:∀ pre y post,xs=pre ++ y :: post→∀ σ,Inv pre σ→Runs C body (Mine.upd σ z (mk (.d (g y)))) (fun σ' fl=>match fl with | .next=>Inv (pre ++ [y]) σ' | .ret v=>Post σ' (.ret v))) :
    ∀ (post pre:List α) (σ:St),xs=pre ++ post→Inv pre σ→∃ o,cK (fun y σ=>exs C body (Mine.upd σ z (mk (.d y)))) (post.map g) σ = .ok o∧match o.2 with | .next=>Inv xs o.1 | .ret v=>Post o.1 (.ret v)
 | [],pre,σ,hl,h=>(ah (σ,.next) rfl (by rw [hl,List.append_nil]; exact h))
 | y :: post,pre,σ,hl,h=>by
    refine au (hs pre y post hl σ h) fun a f h1 h2=>?_
    cases f with
    | ret v=>exact (ah (a,.ret v) (by rw [List.map_cons,cK,h1]; rfl) h2)
    | next=>
      obtain ⟨o,h3,h4⟩:=lL Inv hs post (pre ++ [y]) a (by rw [hl,List.append_assoc]; rfl) h2
      exact (ah o (by rw [List.map_cons,cK,h1]; exact h3) h4)
theorem Runs.for {α:Type}{body:Ss}{z:String}{it:It}{g:α→PyData}{xs:List α}{m:Mode} (Inv:List α→St→Prop) (hit:bj C it σ = .ok (xs.map g,m)) (h0:∀ σ0,(∀ l,Has σ l→Has σ0 l)→(∀ y,y∉bI it→σ0 y=σ y)→Inv [] σ0)
    (hs:∀ pre y post,xs=pre ++ y :: post→∀ σ,Inv pre σ→Runs C body (Mine.upd σ z (mk (.d (g y)))) (fun σ' fl=>match fl with | .next=>Inv (pre ++ [y]) σ' | .ret v=>Post σ' (.ret v)))
    (k:∀ σ',Inv xs σ'→Runs C b σ' Post):Runs C (.cons (.for1 z it body) b) σ Post:=by
 refine ag (lL Inv hs xs [] (Mine.consume σ (bI it) m) rfl (h0 _ fZ.1 fZ.2)) fun o h1 h2=>?_
 refine Runs.cons (o:=o) (by simp only [g8,hit,Out.ok_bind]; exact h1) ?_
 obtain ⟨a,f⟩:=o
 cases f with
 | next=>exact k a h2
 | ret v=>exact h2
noncomputable def Sk {β:Type} (o:Option β) (Inv:St→Prop) (rv:β→V × Mode) (σ:St) (fl:Flw):Prop:=match o with
 | none=>fl = .next∧Inv σ
 | some q=>fl = .ret (rv q)
theorem Sk.next {β:Type}{o:Option β}{Inv:St→Prop}{rv:β→V × Mode} (h:o=none) (hI:Inv σ):Sk o Inv rv σ .next:=by subst h; exact ⟨rfl,hI⟩
theorem Sk.ret {β:Type}{o:Option β}{q:β}{Inv:St→Prop}{rv:β→V × Mode} (h:o=some q):Sk o Inv rv σ (.ret (rv q)):=by subst h; exact rfl
theorem Runs.seek {α β:Type}{body:Ss}{z:String}{it:It}{g:α→PyData}{xs:List α}{m:Mode} (Inv:St→Prop) (f:α→Option β) (rv:β→V × Mode) (hit:bj C it σ = .ok (xs.map g,m)) (h0:∀ σ0,(∀ l,Has σ l→Has σ0 l)→(∀ y,y∉bI it→σ0 y=σ y)→Inv σ0)
    (hs:∀ y∈xs,∀ σ,Inv σ→Runs C body (Mine.upd σ z (mk (.d (g y)))) (Sk (f y) Inv rv))
    (k:xs.findSome? f=none→∀ σ',Inv σ'→Runs C b σ' Post) (kr:∀ q,xs.findSome? f=some q→∀ σ',Post σ' (.ret (rv q))):Runs C (.cons (.for1 z it body) b) σ Post:=by
 refine Runs.for (fun pre σ=>Inv σ∧pre.findSome? f=none) hit (fun σ0 h1 h2=>⟨h0 σ0 h1 h2,rfl⟩) (fun pre y post hl σ1 h1=>?_) fun σ' h=>k h.2 σ' h.1
 refine (hs y (by rw [hl]; exact List.mem_append_right _ (.head _)) σ1 h1.1).mono fun σ' fl h=>?_
 cases hf:f y with
 | none=>
    rw [hf] at h
    revert h; intro Hm
    refine ae (Hm) fun FW h=>?_
    try clear Hm
    subst FW
    exact ⟨h,by rw [List.findSome?_append,h1.2,List.findSome?_cons,hf]; rfl⟩
 | some q=>
    rw [hf] at h
    subst h
    exact kr q (by rw [hl,List.findSome?_append,h1.2,List.findSome?_cons,hf]; rfl) σ'
theorem dl:∀ (ps:List String) (vs:List V),ps.length=vs.length→∃ σ,bz ps vs=some σ∧Has σ (ps.zip vs)
 | [],[],_=>(ah _ rfl .nil)
 | [],v :: vs,h=>by cases h
 | p :: ps,[],h=>by cases h
 | p :: ps,v :: vs,h=>by
    refine ag (dl ps vs (Nat.succ.inj h)) fun σ h1 h2=>?_
    exact (ah _ (by rw [bz,h1]; rfl) (h2.upd p (mk v).1 (mk v).2))
theorem b0 {ps:List String}{vs:List V}{P:V × Mode→Prop} (hl:ps.length=vs.length) (h:∀ σ,Has σ (ps.zip vs)→Runs C b σ (fun uu fl=>∃ r,fl = .ret r∧P r)):∃ r,aB C ⟨ps,b⟩ vs = .ok r∧P r:=by
 refine ag (dl ps vs hl) fun σ h1 h2=>?_
 obtain ⟨a,f,h3,r,FX,h4⟩:=h σ h2
 subst FX
 exact (ah r (by unfold aB; dsimp only; rw [h1]; dsimp only; rw [h3]; rfl) h4)
theorem cI {ps:List String}{vs:List V}{r:V × Mode} (hl:ps.length=vs.length) (h:∀ σ,Has σ (ps.zip vs)→Runs C b σ (fun uu fl=>fl = .ret r)):aB C ⟨ps,b⟩ vs = .ok r:=by
 refine ag (b0 (P:=fun q=>q=r) hl fun σ H=>(h σ H).mono fun uu uu e=>(ah r e rfl)) fun q h1 FY=>?_
 (clear h; subst FY)
 exact h1
noncomputable def gj (f:String):Bool:=!decide (f = "Rule") && !decide (f∈methNames)
theorem lj {f:String} (h:gj f=true) (fn:Fn) (vs:List V):cT f C fn vs=aB C fn vs:=by
 unfold gj at h
 simp only [Bool.and_eq_true,Bool.not_eq_true',decide_eq_false_iff_not] at h
 unfold cT
 rw [if_neg h.1,if_neg h.2]
theorem bk {L:List (String × Fn)}{n:Nat}{f:String}{fn:Fn}{es:Es}{q:List (V × Mode)}{vs:List V} (hL:L.lookup f=some fn) (he:evs (mkC L (n + 1)) es σ = .ok q) (hv:q.map (·.1)=vs) (h:aB (mkC L n) fn vs = .ok r) (hp:gj f=true:=by decide):Mine.ev (mkC L (n + 1)) (.call f es) σ = .ok r:=by
 have hC:mkC L (n + 1) f=some fun vs=>cT f (mkC L n) fn vs:=by show (L.lookup f).map _=_; rw [hL]; rfl
 rw [iW hC he,hv,lj hp,h]
end
section
variable {C:Calls}{σ:St}{a b c:E}{x y:Int}{p q:Bool}{xs ys:List Int}{t u:List (List Int)}{m m':Mode}
theorem al (i:Int):ev C (.int i) σ = .ok (sI i):=by simp only [eT]
theorem dw (i:Bool):ev C (.bool i) σ = .ok (sB i):=by simp only [mT]
theorem iK:ev C .none σ = .ok (.d .none,.deep):=by simp only [oS]
theorem sr:ev C .edic σ = .ok (.dic0,.deep):=by simp only [oC]
theorem mJ:ev C (.list .nil) σ = .ok (.d (aa []),.deep):=by simp only [b7,br]; rfl
theorem il (h:ev C a σ = .ok (sI x)):ev C (.list (.cons a .nil)) σ = .ok (.d (aa [x]),.deep):=by simp only [b7,br,bl,h,Out.ok_bind]; rfl
theorem Dq (h:ev C a σ = .ok (sI x)) (h':ev C b σ = .ok (sI y)):ev C (.list (.cons a (.cons b .nil))) σ = .ok (.d (aa [x,y]),.deep):=by simp only [b7,br,bl,h,h',Out.ok_bind]; rfl
theorem ca (ha:ev C a σ = .ok (sI x)) (hb:ev C b σ = .ok (sI y)):ev C (.bin .add a b) σ = .ok (sI (x + y)):=(c6 ha hb).trans rfl
theorem kB (ha:ev C a σ = .ok (sI x)) (hb:ev C b σ = .ok (sI y)):ev C (.bin .sub a b) σ = .ok (sI (x - y)):=(c6 ha hb).trans rfl
theorem Cd (ha:ev C a σ = .ok (sI x)) (hb:ev C b σ = .ok (sI y)):ev C (.bin .xor a b) σ = .ok (sI (Builtin.bitXor x y)):=(c6 ha hb).trans rfl
theorem kU (ha:ev C a σ = .ok (sI x)) (hb:ev C b σ = .ok (sI y)) (h:x.natAbs<2 ^ 63):ev C (.bin .mul a b) σ = .ok (sI (x * y)):=(c6 ha hb).trans (rR x y h)
theorem aX (ha:ev C a σ = .ok (sI x)) (hb:ev C b σ = .ok (sI y)) (h:0<y):ev C (.bin .mod a b) σ = .ok (sI (x % y)):=(c6 ha hb).trans (xU x y h)
theorem eL (ha:ev C a σ = .ok (sI x)) (hb:ev C b σ = .ok (sI y)) (h:0<y) (h':y<1000000000):ev C (.bin .fdiv a b) σ = .ok (sI (x / y)):=(c6 ha hb).trans (xX x y h h')
theorem jP (ha:ev C a σ = .ok (sI x)) (hb:ev C b σ = .ok (sI y)):ev C (.cmp .lt a b) σ = .ok (sB (decide (x<y))):=bq ha hb rfl
theorem ln (ha:ev C a σ = .ok (sI x)) (hb:ev C b σ = .ok (sI y)):ev C (.cmp .gt a b) σ = .ok (sB (decide (y<x))):=bq ha hb rfl
theorem y3 (ha:ev C a σ = .ok (sI x)) (hb:ev C b σ = .ok (sI y)):ev C (.cmp .ge a b) σ = .ok (sB (decide (y≤x))):=bq ha hb rfl
theorem cN (ha:ev C a σ = .ok (sI x)) (hb:ev C b σ = .ok (sI y)):ev C (.cmp .eq a b) σ = .ok (sB (decide (x=y))):=bq ha hb (zX x y)
theorem jG (ha:ev C a σ = .ok (sI x)) (hb:ev C b σ = .ok (sI y)):ev C (.cmp .ne a b) σ = .ok (sB (!decide (x=y))):=bq ha hb (zq x y)
theorem B6 (ha:ev C a σ = .ok (.d (aa xs),m)) (hb:ev C b σ = .ok (.d (aa ys),m')):ev C (.cmp .eq a b) σ = .ok (sB (decide (xs=ys))):=bq ha hb (yO xs ys)
theorem nZ (ha:ev C a σ = .ok (sI x)) (hb:ev C b σ = .ok (.d (aa xs),m)):ev C (.cmp .isin a b) σ = .ok (sB (decide (x∈xs))):=bq ha hb (zT x xs)
theorem jj (ha:ev C a σ = .ok (sI x)) (hb:ev C b σ = .ok (.d (aa xs),m)):ev C (.cmp .notin a b) σ = .ok (sB (!decide (x∈xs))):=bq ha hb (x7 x xs)
theorem AW (ha:ev C a σ = .ok (.d (aa xs),m)) (hb:ev C b σ = .ok (.d (af t),m')):ev C (.cmp .isin a b) σ = .ok (sB (decide (xs∈t))):=bq ha hb (pS xs t)
theorem f8 (ha:ev C a σ = .ok (.d (aa xs),m)) (hb:ev C b σ = .ok (.d (aa ys),m')) (h:xs.length + ys.length≤1000000):ev C (.bin .add a b) σ = .ok (.d (aa (xs ++ ys)),.deep):=(c6 ha hb).trans (wh xs ys h)
theorem uG (t u:List (List Int)) (h:t.length + u.length≤1000000):∃ m,cZ .add (af t) (af u) = .ok (.d (af (t ++ u)),m):=by
 refine ⟨fresh ((t ++ u).map aa),?_⟩
 show (if (t.map aa).length + (u.map aa).length≤lim then Out.ok (V.d (.list (t.map aa ++ u.map aa)),fresh (t.map aa ++ u.map aa)) else .bad)=_
 rw [List.length_map,List.length_map,if_pos (show _≤lim from h),← List.map_append]; rfl
theorem kO (ha:ev C a σ = .ok (.d (af t),m)) (hb:ev C b σ = .ok (.d (af u),m')) (h:t.length + u.length≤1000000):∃ m,ev C (.bin .add a b) σ = .ok (.d (af (t ++ u)),m):=by
 refine aj (uG t u h) fun m q=>?_
 exact ⟨m,(c6 ha hb).trans q⟩
theorem du (ha:ev C a σ = .ok (.d (aa xs),m)):ev C (.bi1 .len a) σ = .ok (sI xs.length):=(dz ha).trans (zl xs)
theorem eB (ha:ev C a σ = .ok (.d (af t),m)):ev C (.bi1 .len a) σ = .ok (sI t.length):=(dz ha).trans (yR t)
theorem s8 (ha:ev C a σ = .ok (.d (aa xs),m)):ev C (.bi1 .list a) σ = .ok (.d (aa xs),.deep):=(dz ha).trans (xO xs)
theorem pW (ha:ev C a σ = .ok (.d (aa xs),m)):ev C (.bi1 .tuple a) σ = .ok (.d (aJ xs),.deep):=(dz ha).trans (uy xs)
theorem tY (ha:ev C a σ = .ok (.d (aa xs),m)) (h:xs.length<64):ev C (.bi1 .sorted a) σ = .ok (.d (aa (fO xs)),.deep):=(dz ha).trans (ma xs h)
theorem oU {r:List Int} (h:r.Pairwise (· < ·)):fO r=r:=oF (.refl _) (h.imp fun h=>Int.le_of_lt h)
theorem kK (ha:ev C a σ = .ok (.d (aa xs),m)) (h:xs.length<128) (h0:∀ i∈xs,0≤i) (hu:xs.Pairwise (· < ·)):ev C (.bi1 .sorted a) σ = .ok (.d (aa xs),.deep):=(dz ha).trans (pk xs h h0 hu (oU hu))
theorem fy {i:Int} (ha:ev C a σ = .ok (.d (aa xs),m)) (hb:ev C b σ = .ok (sI i)) (h0:0≤i) (h:xs[i.toNat]? = some x):ev C (.sub a b) σ = .ok (sI x):=(kl ha hb).trans (rU h0 h)
theorem ky {i:Int} (ha:ev C a σ = .ok (.d (af t),m)) (hb:ev C b σ = .ok (sI i)) (h0:0≤i) (h:t[i.toNat]? = some xs):ev C (.sub a b) σ = .ok (.d (aa xs),.sh):=(kl ha hb).trans (sR h0 h)
theorem gO (ha:ev C a σ = .ok (sB p)) (hb:p=true→ev C b σ = .ok (sB q)):ev C (.and a b) σ = .ok (sB (p && q)):=by
 cases p with
 | true=>exact uJ ha (hb rfl)
 | false=>exact uV ha
theorem d6 (ha:ev C a σ = .ok (sB p)) (hb:p=false→ev C b σ = .ok (sB q)):ev C (.or a b) σ = .ok (sB (p || q)):=by
 cases p with
 | true=>exact x8 ha
 | false=>exact xS ha (hb rfl)
theorem yh {i j:Int} (ha:ev C a σ = .ok (sI i)) (hb:ev C b σ = .ok (sI j)) (h1:0≤i) (h2:i≤1000) (h3:0≤j) (h4:j≤1000):bj C (.r2 a b) σ = .ok (((List.range (j - i).toNat).map fun (k:Nat)=>i + (k:Int)).map .int,.deep):=by
 simp only [fm,ha,hb,Out.ok_bind]
 show bY i j=_
 unfold bY
 rw [if_pos (cf (by unfold lim; exact C5 h1 h4) (by exact wA h1) (by exact xy h2) (by exact wA h3) (by exact xy h4)),kj]
theorem cA {α:Type}{g:α→PyData}{l:List α}{z:String}{it:It}{q:Mode} (f:α→List Int) (mm:Mode) (h:bj C it σ = .ok (l.map g,q)) (hc:∀ i∈l,ev C a (upd σ z (mk (.d (g i)))) = .ok (.d (aa (f i)),mm)) :
    ∃ m,ev C (.comp a z it) σ = .ok (.d (af (l.map f)),m)∧(mm = .deep→m = .deep)∧m≠.sh:=by
 obtain ⟨b,h1,h2⟩:=gT (F:=fun y=>(ev C a (upd σ z (mk (.d y)))).bind fun r=>.ok (some r)) (e:=g) (f:=f) (p:=fun uu=>true) (m:=fun uu=>mm) (l:=l) fun i hi=>by rw [hc i hi]; rfl
 rw [List.filter_eq_self.mpr (fun uu uu=>rfl)] at h1
 exact (ax (if b then .deep else .top) (qb h h1) (fun hm=>by rw [h2 fun uu uu=>hm]; rfl) (by cases b <;> simp))
theorem dD {α:Type}{g:α→PyData}{l:List α}{z:String}{it:It}{r:Mode} (f:α→List Int) (p:α→Bool) (mm:Mode) (h:bj C it σ = .ok (l.map g,r)) (hp:∀ i∈l,ev C c (upd σ z (mk (.d (g i)))) = .ok (sB (p i)))
    (hc:∀ i∈l,p i=true→ev C a (upd σ z (mk (.d (g i)))) = .ok (.d (aa (f i)),mm)):∃ m,ev C (.compif a z it c) σ = .ok (.d (af ((l.filter p).map f)),m)∧(mm = .deep→m = .deep)∧m≠.sh:=by
 obtain ⟨b,h1,h2⟩:=gT (F:=fun y=>(ev C c (upd σ z (mk (.d y)))).bind fun t=>(ao t.1).bind fun b=>if b then (ev C a (upd σ z (mk (.d y)))).bind fun r=>.ok (some r) else .ok none) (e:=g) (f:=f) (p:=p) (m:=fun uu=>mm) (l:=l) fun i hi=>by
    rw [hp i hi]
    cases hq:p i with
    | true=>simp only [Out.ok_bind,ik,bM,if_true,hc i hi hq]
    | false=>simp only [Out.ok_bind,ik,bM,Bool.false_eq_true,if_false]
 exact (ax (if b then .deep else .top) (mh h h1) (fun hm=>by rw [h2 fun uu uu=>hm]; rfl) (by cases b <;> simp))
theorem jb {α:Type}{g:α→PyData}{l:List α}{z:String}{it:It}{q:Mode} (f:α→Int) (h:bj C it σ = .ok (l.map g,q)) (hc:∀ i∈l,ev C a (upd σ z (mk (.d (g i)))) = .ok (sI (f i))):ev C (.comp a z it) σ = .ok (.d (aa (l.map f)),.deep):=by
 rw [qb h (r:=((l.map f).map .int,true))]
 ·  rfl
 ·  exact nW (F:=fun y=>(ev C a (upd σ z (mk (.d y)))).bind fun r=>.ok (some r)) (e:=g) fun i hi=>by rw [hc i hi]; rfl
theorem tV {xs:List Int} (h:xs≠[]):∃ i,iG xs=some i∧i∈xs:=by
 cases xs with
 | nil=>exact absurd rfl h
 | cons x xs=>
    refine (ah _ rfl ?_)
    have key:∀ (l:List Int) (a:Int),l.foldl (fun a b=>if a<b then b else a) a=a∨l.foldl (fun a b=>if a<b then b else a) a∈l:=by
      intro l
      induction l with
      | nil=>exact fun a=>.inl rfl
      | cons y l ih=>
        intro a
        rw [List.foldl_cons]
        by_cases q:a<y
        · rw [if_pos q]
          rcases ih y with e | e
          · exact .inr (by rw [e]; exact .head _)
          · exact .inr (.tail _ e)
        · rw [if_neg q]
          exact (ih a).imp id fun e=>.tail _ e
    rcases key xs x with e | e
    · rw [e]; exact .head _
    · exact .tail _ e
theorem Bc (ha:ev C a σ = .ok (.d (aa xs),m)) (h:xs≠[]):∃ i,ev C (.bi1 .max a) σ = .ok (sI i)∧i∈xs:=by
 refine ag (tV h) fun i h1 h2=>?_
 refine (ah i ((dz ha).trans ?_) h2)
 show (av ((aM (xs.map PyData.int)).bind iG) fun i=>Out.ok (sI i))=_
 rw [cW,Option.bind_some,h1]; rfl
theorem kE:ev C (.list (.cons (.list .nil) .nil)) σ = .ok (.d (af [[]]),.deep):=by simp only [b7,br,bl]; rfl
theorem dR:ev C (.list .nil) σ = .ok (.d (af []),.deep):=by simp only [b7,br]; rfl
theorem jz {α:Type}{l:List α}{Q:α→Bool→Prop} (h:∀ i∈l,∃ b,Q i b):∃ p:α→Bool,∀ i∈l,Q i (p i):=by
 classical
 exact ⟨fun i=>if hi:i∈l then (h i hi).choose else false,fun i hi=>by dsimp only; rw [dif_pos hi]; exact (h i hi).choose_spec⟩
theorem Has.mk {l:List (String × V)} (H:Has σ l) (z:String) (v:V):Has (Mine.upd σ z (Mine.mk v)) ((z,v) :: l):=H.upd z v (Mine.mk v).2
variable {l:List (String × V)}{z:String}{bb:Ss}{Post:St→Flw→Prop}
theorem Runs.app (H:Has σ l) (hz:σ z=some (.d (aa xs),m)) (hm:m≠.sh) (h:ev C a σ = .ok (sI x)) (hl:xs.length<1000000) (k:∀ σ',Has σ' ((z,.d (aa (xs ++ [x]))) :: l)→σ' z=some (.d (aa (xs ++ [x])),m)→(∀ y,y≠z→σ' y=σ y)→Runs C bb σ' Post):Runs C (.cons (.append z a) bb) σ Post :=
 Runs.cons (o:=(upd σ z (.d (aa (xs ++ [x])),m),.next)) (tu hz hm h hl) (k _ (H.upd z _ m) (if_pos rfl) fun y hy=>if_neg hy)
theorem Runs.appR (H:Has σ l) (hz:σ z=some (.d (af t),m)) (hm:m≠.sh) (h:ev C a σ = .ok (.d (aa xs),.deep)) (hl:t.length<1000000) (k:∀ σ',Has σ' ((z,.d (af (t ++ [xs]))) :: l)→σ' z=some (.d (af (t ++ [xs])),m)→(∀ y,y≠z→σ' y=σ y)→Runs C bb σ' Post):Runs C (.cons (.append z a) bb) σ Post:=by
 refine Runs.cons (o:=(upd σ z (.d (af (t ++ [xs])),m),.next)) ?_ (k _ (H.upd z _ m) (if_pos rfl) fun y hy=>if_neg hy)
 simp only [dG,h,Out.calm_ok,Out.ok_bind,hz,iA,if_neg hm]
 rw [lU (by rw [List.length_append,List.length_map]; exact hl)]
 unfold af; rw [List.map_append]; rfl
theorem me {α β:Type} (f:α→β):∀ (l:List α) (i:Nat),(l.map f).eraseIdx i=(l.eraseIdx i).map f
 | [],_=>rfl
 | _ :: _,0=>rfl
 | a :: l,i + 1=>congrArg (f a :: ·) (me f l i)
theorem Runs.popR (H:Has σ l) (hz:σ z=some (.d (af t),m)) (hm:m≠.sh) (h:ev C a σ = .ok (sI x)) (h0:0≤x) (h1:x<t.length) (k:∀ σ',Has σ' ((z,.d (af (t.eraseIdx x.toNat))) :: l)→σ' z=some (.d (af (t.eraseIdx x.toNat)),.top)→Runs C bb σ' Post):Runs C (.cons (.pop z a) bb) σ Post:=by
 refine Runs.cons (o:=(upd σ z (.d (af (t.eraseIdx x.toNat)),.top),.next)) ?_ (k _ (H.upd z _ .top) (if_pos rfl))
 simp only [li,h,Out.calm_ok,Out.ok_bind,hz,iA,zG]
 rw [if_neg (by rw [List.length_map]; exact fun q=>q.elim hm fun q=>by exact Dy h0 h1 q)]
 unfold af; rw [me]
theorem qE {r:PyData}{q:List PyData} (h:ev C a σ = .ok (.d (.tuple (r :: q)),m)) (hb:ev C b σ = .ok (sI 0)):ev C (.sub a b) σ = .ok (mk (.d r)):=by
 rw [kl h hb]
 show (av ((a7 0 (r :: q).length).bind fun k=>(r :: q)[k]?) fun z=>Out.ok (mk (.d z)))=_
 rw [eM (by decide) (by rw [List.length_cons]; exact wN)]; rfl
theorem rt {r r':PyData}{q:List PyData} (h:ev C a σ = .ok (.d (.tuple (r :: r' :: q)),m)) (hb:ev C b σ = .ok (sI 1)):ev C (.sub a b) σ = .ok (mk (.d r')):=by
 rw [kl h hb]
 show (av ((a7 1 (r :: r' :: q).length).bind fun k=>(r :: r' :: q)[k]?) fun z=>Out.ok (mk (.d z)))=_
 rw [eM (by decide) (by rw [List.length_cons,List.length_cons]; exact C2)]; rfl
theorem y7 (ha:ev C a σ = .ok (sI x)) (hb:ev C b σ = .ok (.d (af t),m)):∃ m,ev C (.tup (.cons a (.cons b .nil))) σ = .ok (.d (.tuple [.int x,af t]),m):=by
 refine ⟨if allDeep [sI x,(.d (af t),m)] then .deep else .sh,?_⟩
 simp only [jc,br,bl,ha,hb,Out.ok_bind]
 rfl
theorem cq {G:Prop} (ha:ev C a σ = .ok (sI x)) (hb:ev C b σ = .ok (.d (af t),m)) (k:∀ m,ev C (.tup (.cons a (.cons b .nil))) σ = .ok (.d (.tuple [.int x,af t]),m)→G):G:=aj (y7 ha hb) k
theorem mH {v:V}{ty:String} (h:ev C a σ = .ok (v,m)) (hi:fR v ty = .ok p):ev C (.isi a ty) σ = .ok (sB p):=by simp only [lu,h,Out.ok_bind,hi]
theorem sk {x y z:PyData}{m1 m2 m3:Mode} (ha:ev C a σ = .ok (.d x,m1)) (hb:ev C b σ = .ok (.d y,m2)) (hc:ev C c σ = .ok (.d z,m3)):ev C (.tup (.cons a (.cons b (.cons c .nil)))) σ = .ok (.d (.tuple [x,y,z]),if allDeep [(.d x,m1),(.d y,m2),(.d z,m3)] then .deep else .sh):=by
 simp only [jc,br,bl,ha,hb,hc,Out.ok_bind]; rfl
end
end Mine
namespace Mine
open PySem
noncomputable def p_exchanged:Fn:=⟨["choice", "out", "thing"],
 (.cons (.ret (.bi1 .sorted (.bin .add (.compif (.name "one") "one" (.e (.name "choice")) (.cmp .ne (.name "one") (.name "out"))) (.list (.cons (.name "thing") .nil)))))
 .nil)⟩
noncomputable def p_known_of:Fn:=⟨["table"],
 (.cons (.assign "known" .edic)
 (.cons (.for1 "choice" (.e (.name "table"))
 (.cons (.setitem "known" (.bi1 .tuple (.name "choice")))
 .nil))
 (.cons (.retn "known")
 .nil)))⟩
noncomputable def p_goes:Fn:=⟨["known", "one", "other", "thing"],
 (.cons (.for1 "out" (.e (.name "one"))
 (.cons (.ite (.and (.cmp .notin (.name "out") (.name "other")) (.cmp .isin (.bi1 .tuple (.call "exchanged" (.cons (.name "one") (.cons (.name "out") (.cons (.name "thing") .nil))))) (.name "known")))
 (.cons (.ret (.bool true))
 .nil)
 .nil)
 .nil))
 (.cons (.ret (.bool false))
 .nil))⟩
noncomputable def p_fault:Fn:=⟨["count", "table"],
 (.cons (.assign "known" (.call "known_of" (.cons (.name "table") .nil)))
 (.cons (.for1 "one" (.e (.name "table"))
 (.cons (.for1 "thing" (.r1 (.name "count"))
 (.cons (.ite (.cmp .notin (.name "thing") (.name "one"))
 (.cons (.for1 "other" (.e (.name "table"))
 (.cons (.ite (.and (.cmp .isin (.name "thing") (.name "other")) (.not (.call "goes" (.cons (.name "known") (.cons (.name "one") (.cons (.name "other") (.cons (.name "thing") .nil)))))))
 (.cons (.ret (.tup (.cons (.bi1 .list (.name "one")) (.cons (.bi1 .list (.name "other")) (.cons (.name "thing") .nil)))))
 .nil)
 .nil)
 .nil))
 .nil)
 .nil)
 .nil))
 .nil))
 (.cons (.ret .none)
 .nil)))⟩
noncomputable def l_cell_at:Fn:=⟨["_law_script", "_law_k"],
 (.cons (.ite (.cmp .lt (.name "_law_k") (.bi1 .len (.name "_law_script")))
 (.cons (.ret (.sub (.name "_law_script") (.name "_law_k")))
 .nil)
 .nil)
 (.cons (.ite (.cmp .eq (.name "_law_script") (.list .nil))
 (.cons (.ret (.int 0))
 .nil)
 .nil)
 (.cons (.ret (.bin .add (.bin .mul (.sub (.name "_law_script") (.bin .mod (.name "_law_k") (.bi1 .len (.name "_law_script")))) (.int 7)) (.name "_law_k")))
 .nil)))⟩
noncomputable def l_whole:Fn:=⟨["_law_found"],
 (.cons (.ret (.and (.isi (.name "_law_found") "int") (.not (.isi (.name "_law_found") "bool"))))
 .nil)⟩
noncomputable def l_subsets:Fn:=⟨["_law_count"],
 (.cons (.assign "_law_rows" (.list (.cons (.list .nil) .nil)))
 (.cons (.for1 "_law_thing" (.r1 (.name "_law_count"))
 (.cons (.assign "_law_rows" (.bin .add (.name "_law_rows") (.comp (.bin .add (.name "_law_row") (.list (.cons (.name "_law_thing") .nil))) "_law_row" (.e (.name "_law_rows")))))
 .nil))
 (.cons (.retn "_law_rows")
 .nil)))⟩
noncomputable def l_apart:Fn:=⟨["_law_vectors", "_law_row"],
 (.cons (.assign "_law_sums" (.list (.cons (.int 0) .nil)))
 (.cons (.for1 "_law_thing" (.e (.name "_law_row"))
 (.cons (.ite (.cmp .isin (.sub (.name "_law_vectors") (.name "_law_thing")) (.name "_law_sums"))
 (.cons (.ret (.bool false))
 .nil)
 .nil)
 (.cons (.assign "_law_sums" (.bin .add (.name "_law_sums") (.comp (.bin .xor (.name "_law_one") (.sub (.name "_law_vectors") (.name "_law_thing"))) "_law_one" (.e (.name "_law_sums")))))
 .nil)))
 (.cons (.ret (.bool true))
 .nil)))⟩
noncomputable def l_parts:Fn:=⟨["_law_script", "_law_kind", "_law_count", "_law_more"],
 (.cons (.assign "_law_rows" (.call "_law_subsets" (.cons (.name "_law_count") .nil)))
 (.cons (.ite (.cmp .eq (.name "_law_kind") (.int 0))
 (.cons (.ret (.tup (.cons (.name "_law_count") (.cons (.comp (.sub (.name "_law_rows") (.bin .mod (.call "_law_cell_at" (.cons (.name "_law_script") (.cons (.bin .add (.int 6) (.name "_law_k")) .nil))) (.bi1 .len (.name "_law_rows")))) "_law_k" (.r1 (.bin .mod (.name "_law_more") (.int 6)))) .nil))))
 .nil)
 .nil)
 (.cons (.ite (.cmp .eq (.bin .mod (.name "_law_more") (.int 9)) (.int 8))
 (.cons (.assign "_law_count" (.bin .add (.int 7) (.bin .mod (.bin .fdiv (.name "_law_more") (.int 9)) (.int 3))))
 (.cons (.assign "_law_rows" (.list .nil))
 (.cons (.for1 "_law_one" (.r1 (.name "_law_count"))
 (.cons (.assign "_law_rows" (.bin .add (.name "_law_rows") (.comp (.list (.cons (.name "_law_one") (.cons (.name "_law_thing") .nil))) "_law_thing" (.r2 (.bin .add (.name "_law_one") (.int 1)) (.name "_law_count")))))
 .nil))
 (.cons (.ret (.tup (.cons (.name "_law_count") (.cons (.name "_law_rows") .nil))))
 .nil))))
 .nil)
 (.cons (.ret (.tup (.cons (.name "_law_count") (.cons (.compif (.name "_law_row") "_law_row" (.e (.name "_law_rows")) (.cmp .eq (.bi1 .len (.name "_law_row")) (.bin .mod (.name "_law_more") (.bin .add (.name "_law_count") (.int 1))))) .nil))))
 .nil))))⟩
noncomputable def l_few:Fn:=⟨["_law_script"],
 (.cons (.assign "_law_kind" (.bin .mod (.call "_law_cell_at" (.cons (.name "_law_script") (.cons (.int 0) .nil))) (.int 9)))
 (.cons (.assign "_law_count" (.sub (.list (.cons (.int 6) (.cons (.int 5) (.cons (.int 4) (.cons (.int 3) (.cons (.int 6) (.cons (.int 1) (.cons (.int 0) .nil)))))))) (.bin .mod (.bin .fdiv (.call "_law_cell_at" (.cons (.name "_law_script") (.cons (.int 0) .nil))) (.int 9)) (.int 7))))
 (.cons (.assign "_law_more" (.call "_law_cell_at" (.cons (.name "_law_script") (.cons (.int 1) .nil))))
 (.cons (.ite (.cmp .eq (.name "_law_kind") (.int 7))
 (.cons (.assign "_law_many" (.bin .add (.int 1) (.bin .mod (.name "_law_more") (.int 4))))
 (.cons (.ite (.cmp .gt (.bi1 .len (.name "_law_script")) (.int 63))
 (.cons (.assign "_law_many" (.bin .add (.int 1) (.bin .mod (.name "_law_more") (.int 5))))
 .nil)
 .nil)
 (.cons (.ret (.tup (.cons (.bin .mul (.int 2) (.name "_law_many")) (.cons (.call "_law_pairs_by" (.cons (.name "_law_many") .nil)) .nil))))
 .nil)))
 .nil)
 (.cons (.ite (.cmp .lt (.name "_law_kind") (.int 2))
 (.cons (.ret (.call "_law_parts" (.cons (.name "_law_script") (.cons (.name "_law_kind") (.cons (.name "_law_count") (.cons (.name "_law_more") .nil))))))
 .nil)
 .nil)
 (.cons (.assign "_law_count" (.sub (.list (.cons (.int 6) (.cons (.int 5) (.cons (.int 4) (.cons (.int 3) (.cons (.int 7) (.cons (.int 7) (.cons (.int 2) .nil)))))))) (.bin .mod (.bin .fdiv (.call "_law_cell_at" (.cons (.name "_law_script") (.cons (.int 0) .nil))) (.int 9)) (.int 7))))
 (.cons (.assign "_law_rows" (.list (.cons (.list .nil) .nil)))
 (.cons (.for1 "_law_thing" (.r1 (.name "_law_count"))
 (.cons (.assign "_law_rows" (.bin .add (.name "_law_rows") (.compif (.bin .add (.name "_law_row") (.list (.cons (.name "_law_thing") .nil))) "_law_row" (.e (.name "_law_rows")) (.cmp .lt (.bi1 .len (.name "_law_row")) (.int 3)))))
 .nil))
 (.cons (.assign "_law_vectors" (.comp (.bin .mod (.call "_law_cell_at" (.cons (.name "_law_script") (.cons (.bin .add (.int 6) (.name "_law_thing")) .nil))) (.int 8)) "_law_thing" (.r1 (.name "_law_count"))))
 (.cons (.assign "_law_good" (.compif (.name "_law_row") "_law_row" (.e (.name "_law_rows")) (.call "_law_apart" (.cons (.name "_law_vectors") (.cons (.name "_law_row") .nil)))))
 (.cons (.assign "_law_most" (.bi1 .max (.comp (.bi1 .len (.name "_law_row")) "_law_row" (.e (.name "_law_good")))))
 (.cons (.assign "_law_table_here" (.compif (.name "_law_row") "_law_row" (.e (.name "_law_good")) (.cmp .eq (.bi1 .len (.name "_law_row")) (.name "_law_most"))))
 (.cons (.ite (.cmp .eq (.name "_law_kind") (.int 3))
 (.cons (.pop "_law_table_here" (.bin .mod (.name "_law_more") (.bi1 .len (.name "_law_table_here"))))
 .nil)
 .nil)
 (.cons (.ret (.tup (.cons (.name "_law_count") (.cons (.name "_law_table_here") .nil))))
 .nil))))))))))))))⟩
noncomputable def l_pairs_by:Fn:=⟨["_law_many"],
 (.cons (.assign "_law_rows" (.list (.cons (.list .nil) .nil)))
 (.cons (.for1 "_law_k" (.r1 (.name "_law_many"))
 (.cons (.assign "_law_rows" (.bin .add (.comp (.bin .add (.name "_law_row") (.list (.cons (.bin .mul (.int 2) (.name "_law_k")) .nil))) "_law_row" (.e (.name "_law_rows"))) (.comp (.bin .add (.name "_law_row") (.list (.cons (.bin .add (.bin .mul (.int 2) (.name "_law_k")) (.int 1)) .nil))) "_law_row" (.e (.name "_law_rows")))))
 .nil))
 (.cons (.retn "_law_rows")
 .nil)))⟩
noncomputable def l_table:Fn:=⟨["_law_script"],
 (.cons (.assign "_law_kind" (.bin .mod (.call "_law_cell_at" (.cons (.name "_law_script") (.cons (.int 0) .nil))) (.int 9)))
 (.cons (.assign "_law_more" (.call "_law_cell_at" (.cons (.name "_law_script") (.cons (.int 1) .nil))))
 (.cons (.ite (.cmp .eq (.name "_law_kind") (.int 4))
 (.cons (.assign "_law_count" (.bin .add (.int 7) (.bin .mod (.name "_law_more") (.int 12))))
 (.cons (.assign "_law_step" (.bin .add (.int 1) (.bin .mod (.bin .fdiv (.name "_law_more") (.int 12)) (.int 4))))
 (.cons (.ret (.tup (.cons (.name "_law_count") (.cons (.compif (.list (.cons (.name "_law_thing") .nil)) "_law_thing" (.r1 (.name "_law_count")) (.cmp .eq (.bin .mod (.name "_law_thing") (.name "_law_step")) (.int 0))) .nil))))
 .nil)))
 .nil)
 (.cons (.ite (.cmp .eq (.name "_law_kind") (.int 5))
 (.cons (.assign "_law_count" (.bin .add (.int 7) (.bin .mod (.name "_law_more") (.int 6))))
 (.cons (.ret (.tup (.cons (.name "_law_count") (.cons (.comp (.compif (.name "_law_thing") "_law_thing" (.r1 (.name "_law_count")) (.cmp .ne (.name "_law_thing") (.name "_law_gone"))) "_law_gone" (.r1 (.name "_law_count"))) .nil))))
 .nil))
 .nil)
 (.cons (.assign "_law_made" (.call "_law_few" (.cons (.name "_law_script") .nil)))
 (.cons (.assign "_law_far" (.call "_law_cell_at" (.cons (.name "_law_script") (.cons (.int 12) .nil))))
 (.cons (.ite (.or (.cmp .ne (.bin .mod (.name "_law_far") (.int 3)) (.int 1)) (.or (.cmp .gt (.bi1 .len (.sub (.name "_law_made") (.int 1))) (.int 8)) (.cmp .gt (.sub (.name "_law_made") (.int 0)) (.int 9))))
 (.cons (.retn "_law_made")
 .nil)
 .nil)
 (.cons (.assign "_law_step" (.bin .add (.int 1) (.bin .mod (.bin .fdiv (.name "_law_far") (.int 3)) (.int 9))))
 (.cons (.assign "_law_first" (.bin .mod (.bin .fdiv (.name "_law_far") (.int 27)) (.int 9)))
 (.cons (.assign "_law_table_here" (.list .nil))
 (.cons (.for1 "_law_choice" (.e (.sub (.name "_law_made") (.int 1)))
 (.cons (.append "_law_table_here" (.comp (.bin .add (.name "_law_first") (.bin .mul (.name "_law_step") (.name "_law_thing"))) "_law_thing" (.e (.name "_law_choice"))))
 .nil))
 (.cons (.ret (.tup (.cons (.bin .add (.name "_law_first") (.bin .mul (.name "_law_step") (.sub (.name "_law_made") (.int 0)))) (.cons (.name "_law_table_here") .nil))))
 .nil))))))))))))⟩
noncomputable def l_can:Fn:=⟨["_law_table_here", "_law_one", "_law_other", "_law_thing"],
 (.cons (.for1 "_law_out" (.e (.name "_law_one"))
 (.cons (.assign "_law_made" (.bi1 .sorted (.bin .add (.compif (.name "_law_left") "_law_left" (.e (.name "_law_one")) (.cmp .ne (.name "_law_left") (.name "_law_out"))) (.list (.cons (.name "_law_thing") .nil)))))
 (.cons (.ite (.and (.cmp .notin (.name "_law_out") (.name "_law_other")) (.cmp .isin (.name "_law_made") (.name "_law_table_here")))
 (.cons (.ret (.bool true))
 .nil)
 .nil)
 .nil)))
 (.cons (.ret (.bool false))
 .nil))⟩
noncomputable def l_fault:Fn:=⟨["_law_count", "_law_table_here"],
 (.cons (.for1 "_law_one" (.e (.name "_law_table_here"))
 (.cons (.for1 "_law_thing" (.r1 (.name "_law_count"))
 (.cons (.ite (.cmp .notin (.name "_law_thing") (.name "_law_one"))
 (.cons (.for1 "_law_other" (.e (.name "_law_table_here"))
 (.cons (.ite (.and (.cmp .isin (.name "_law_thing") (.name "_law_other")) (.not (.call "_law_can" (.cons (.name "_law_table_here") (.cons (.name "_law_one") (.cons (.name "_law_other") (.cons (.name "_law_thing") .nil)))))))
 (.cons (.ret (.tup (.cons (.name "_law_one") (.cons (.name "_law_other") (.cons (.name "_law_thing") .nil)))))
 .nil)
 .nil)
 .nil))
 .nil)
 .nil)
 .nil))
 .nil))
 (.cons (.ret .none)
 .nil))⟩
structure Lib (L:List (String × Fn)):Prop where
 cell:L.lookup "_law_cell_at" = some l_cell_at
 whole:L.lookup "_law_whole" = some l_whole
 subs:L.lookup "_law_subsets" = some l_subsets
 apart:L.lookup "_law_apart" = some l_apart
 parts:L.lookup "_law_parts" = some l_parts
 few:L.lookup "_law_few" = some l_few
 pairs:L.lookup "_law_pairs_by" = some l_pairs_by
 table:L.lookup "_law_table" = some l_table
 can:L.lookup "_law_can" = some l_can
 lfault:L.lookup "_law_fault" = some l_fault
 exch:L.lookup "exchanged" = some p_exchanged
 known:L.lookup "known_of" = some p_known_of
 goes:L.lookup "goes" = some p_goes
 fault:L.lookup "fault" = some p_fault
noncomputable def bf (s:List Int) (k:Int):Int:=if k<s.length then s[k.toNat]?.getD 0 else if s=[] then 0 else s[(k % s.length).toNat]?.getD 0 * 7 + k
theorem getD_some {s:List Int}{i:Nat} (h:i<s.length):s[i]? = some (s[i]?.getD 0):=by rw [List.getElem?_eq_getElem h]; rfl
theorem oK (C:Calls) (s:List Int) (k:Int) (hk:0≤k):aB C l_cell_at [.d (aa s),.d (.int k)] = .ok (sI (bf s k)):=by
 unfold l_cell_at
 refine cI rfl fun σ H=>?_
 have e1:=jP (C:=C) (H.ev (x := "_law_k") rfl) (du (H.ev (x := "_law_script") rfl))
 unfold bf
 by_cases h1:k<s.length
 ·  rw [if_pos h1]
    refine Runs.ite (e1.trans (by rw [decide_eq_true h1])) (fun uu=>Runs.ret (fy (H.ev rfl) (H.ev rfl) hk (getD_some (by exact la1 hk h1))) rfl) fun q=>by cases q
 ·  rw [if_neg h1]
    refine Runs.no (e1.trans (by rw [decide_eq_false h1])) ?_
    have e2:=B6 (C:=C) (H.ev (x := "_law_script") rfl) mJ
    by_cases h2:s=[]
    · rw [if_pos h2]
      exact Runs.ite (e2.trans (by rw [decide_eq_true h2])) (fun uu=>Runs.ret (al 0) rfl) fun q=>by cases q
    · rw [if_neg h2]
      refine Runs.no (e2.trans (by rw [decide_eq_false h2])) ?_
      have hl:0<s.length:=List.length_pos_iff.mpr h2
      have h3:0≤k % s.length:=Int.emod_nonneg _ (by exact la2 hl)
      have h4:k % s.length<s.length:=Int.emod_lt_of_pos _ (by exact la3 hl)
      refine Runs.ret (ca ((c6 (fy (H.ev rfl) (aX (H.ev rfl) (du (H.ev rfl)) (by exact la3 hl)) h3 (getD_some (by exact la4 hl h4))) (al 7)).trans (sX _ 7 (by decide))) (H.ev rfl)) rfl
theorem gZ (C:Calls) (i:Int):aB C l_whole [.d (.int i)] = .ok (sB true):=by
 unfold l_whole
 refine cI rfl fun σ H=>Runs.ret (gO (p:=true) (q:=true) ?_ fun uu=>?_) rfl
 ·  exact mH (H.ev rfl) rfl
 ·  exact bZ (t:=false) (mH (H.ev rfl) rfl)
def Srt (c:Int) (r:List Int):Prop:=r.Pairwise (· < ·)∧∀ x∈r,0≤x∧x<c
theorem Srt.snoc {c x:Int}{r:List Int} (h:Srt c r) (h0:0≤c) (hx:c≤x):Srt (x + 1) (r ++ [x]):=by
 refine ⟨List.pairwise_append.mpr ⟨h.1,List.pairwise_singleton _ _,fun a ha b hb=>?_⟩,fun a ha=>?_⟩
 ·  rw [List.mem_singleton.mp hb]; have:=h.2 a ha; exact la5 hx this
 ·  rcases List.mem_append.mp ha with ha | ha
    · have:=h.2 a ha; exact la6 hx this
    · rw [List.mem_singleton.mp ha]; exact la7 h0 hx
theorem Srt.mono {c d:Int}{r:List Int} (h:Srt c r) (hd:c≤d):Srt d r:=⟨h.1,fun x hx=>by have:=h.2 x hx; exact la8 hd this⟩
theorem Srt.nil (c:Int):Srt c []:=⟨.nil,fun uu h=>by cases h⟩
theorem ud {c:Nat}{pre post:List Int}{y:Int} (h:aR c=pre ++ y :: post):y=pre.length∧pre.length<c:=by
 have hl:=congrArg List.length h
 rw [bR,List.length_append,List.length_cons] at hl
 have hy:(aR c)[pre.length]? = some y:=by rw [h,List.getElem?_append_right (Nat.le_refl _),Nat.sub_self]; rfl
 have hp:pre.length<c:=by exact la9 hl
 unfold aR at hy
 rw [List.getElem?_map,List.getElem?_range hp] at hy
 exact ⟨(Option.some.inj hy).symm,hp⟩
theorem kC {c:Nat}{pre post:List Int}{y:Int}{G:Prop} (h:aR c=pre ++ y :: post) (k:y=pre.length→pre.length<c→G):G:=ae (ud h) k
def mS (k n:Nat) (c:Int) (t:List (List Int)):Prop:=t≠[]∧t.length≤n∧∀ r∈t,r.length≤k∧Srt c r
noncomputable def subs:Nat→List (List Int)
 | 0=>[[]]
 | k + 1=>subs k ++ (subs k).map fun r=>r ++ [(k:Int)]
noncomputable def kL:Nat→List (List Int)
 | 0=>[[]]
 | k + 1=>kL k ++ ((kL k).filter fun r=>decide ((r.length:Int)<3)).map fun r=>r ++ [(k:Int)]
theorem vT:∀ c≤6,∀ r∈subs c,((subs c).filter fun r'=>decide ((r'.length:Int)=r.length)).length≤63:=by decide +kernel
theorem sG:∀ c≤7,∀ r∈kL c,((kL c).filter fun r'=>decide ((r'.length:Int)=r.length)).length≤63:=by decide +kernel
theorem oX {t:List (List Int)} (h:∀ r∈t,(t.filter fun r'=>decide ((r'.length:Int)=r.length)).length≤63) (k:Int):(t.filter fun r=>decide ((r.length:Int)=k)).length≤63:=by
 cases e:t.filter fun r=>decide ((r.length:Int)=k) with
 | nil=>exact Nat.zero_le _
 | cons r u=>
    obtain ⟨h1,h2⟩:=List.mem_filter.mp (show r∈t.filter fun r=>decide ((r.length:Int)=k) by rw [e]; exact .head _)
    have:=h r h1
    rw [of_decide_eq_true h2,e] at this
    exact this
theorem oW (C:Calls) (c:Nat) (hc:c≤7):∃ r,aB C l_subsets [.d (.int c)] = .ok r∧∃ t,r.1 = .d (af t)∧t=subs c∧[]∈t∧mS c 128 c t:=by
 unfold l_subsets
 refine b0 rfl fun σ H=>?_
 refine Runs.set H kE fun σ H _=>?_
 refine Runs.for (g:=PyData.int) (xs:=aR c) (fun pre σ=>∃ t,Has σ [("_law_rows", .d (af t)),("_law_count", .d (.int c))]∧t=subs pre.length∧[]∈t∧mS pre.length (2 ^ pre.length) pre.length t) (bQ (H.ev rfl) (by exact EY hc)) (fun σ0 h _=>(jf ([[]]) ((h _ H).sub ⟨rfl,rfl,trivial⟩) rfl (.head _) (by simp) (by simp) (fun r hr=>?_))) ?_ ?_
 ·  cases List.mem_singleton.mp hr; exact ⟨Nat.le_refl _,.nil _⟩
 ·  intro pre y post hl σ FW
    refine g7 (FW) fun t H ht h0 g1 g2 g3=>?_
    try clear FW
    refine kC hl fun hy hp=>?_
    have hpow:2 ^ pre.length≤2 ^ 6:=Nat.pow_le_pow_right (by decide) (by exact zt hc hp)
    have H1:=H.mk "_law_thing" (.d (.int y))
    obtain ⟨m1,e1,_⟩:=cA (fun r=>r ++ [y]) .deep (aG (H1.ev (C:=C) (x := "_law_rows") rfl) (aH t .sh)) (a:=.bin .add (.name "_law_row") (.list (.cons (.name "_law_thing") .nil))) (z := "_law_row") (fun r hr=>by
      have H2:=H1.mk "_law_row" (.d (aa r))
      exact f8 (H2.ev rfl) (il (H2.ev rfl)) (by have:=(g3 r hr).1; rw [List.length_singleton]; exact Fv hc hp this))
    obtain ⟨m2,e2⟩:=kO (H1.ev (C:=C) (x := "_law_rows") rfl) e1 (by rw [List.length_map]; exact Ed g2 hpow)
    refine Runs.set H1 e2 fun σ H _=>Runs.nil (jf _ (H.sub ⟨rfl,rfl,trivial⟩) (by rw [ht,hy,List.length_append,List.length_singleton]; rfl) (List.mem_append_left _ h0) ?_ ?_ (fun r hr=>?_))
    · exact fun q=>g1 (List.append_eq_nil_iff.mp q).1
    · rw [List.length_append,List.length_append,List.length_map,List.length_singleton,Nat.pow_succ]; exact zz g2
    · rw [List.length_append,List.length_singleton]
      rcases List.mem_append.mp hr with hr | hr
      · obtain ⟨q1,q2⟩:=g3 r hr; exact ⟨by exact Nat.le_succ_of_le (by assumption),q2.mono (by exact zc)⟩
      · refine aN hr fun r' hr' FX=>?_
        (clear hr; subst FX)
        refine ae (g3 r' hr') fun q1 q2=>?_
        rw [List.length_append,List.length_singleton]
        exact ⟨by exact Nat.lt_succ_of_le (by assumption),(q2.snoc (by exact Int.natCast_nonneg _) (x:=y) (by exact zM hy)).mono (by exact zm hy)⟩
 ·  intro σ' FY
    refine g7 (FY) fun t H ht h0 g1 g2 g3=>?_
    try clear FY
    refine aj (H "_law_rows" _ rfl) fun m e=>?_
    rw [bR] at ht g2 g3
    have hpow:2 ^ c≤2 ^ 7:=Nat.pow_le_pow_right (by decide) (by assumption)
    exact Runs.retn e (ah _ rfl (jf t rfl ht h0 g1 (by exact Nat.le_trans (by assumption) (by assumption)) g3))
section
variable {L:List (String × Fn)}{n:Nat}{σ:St}
theorem bX (lib:Lib L) {s:List Int}{k:Int}{m:Mode}{a b:E} (ha:ev (mkC L (n + 1)) a σ = .ok (.d (aa s),m)) (hb:ev (mkC L (n + 1)) b σ = .ok (sI k)) (hk:0≤k):ev (mkC L (n + 1)) (.call "_law_cell_at" (.cons a (.cons b .nil))) σ = .ok (sI (bf s k)) :=
 bk lib.cell (ai ha (ai hb aw)) rfl (oK _ s k hk)
end
theorem qk (C:Calls) (vec row:List Int) (h:∀ i∈row,0≤i∧i<vec.length) (hl:row.length≤7):∃ r,aB C l_apart [.d (aa vec),.d (aa row)] = .ok r∧∃ b,r=sB b∧(row=[]→b=true):=by
 unfold l_apart
 refine b0 rfl fun σ H=>?_
 refine Runs.set H (il (al 0)) fun σ H _=>?_
 refine Runs.for (g:=PyData.int) (xs:=row) (fun pre σ=>∃ ss:List Int,Has σ [("_law_sums", .d (aa ss)),("_law_vectors", .d (aa vec))]∧ss.length=2 ^ pre.length) (aG (H.ev rfl) (cr row .sh)) (fun σ0 h _=>(ah ([0]) ((h _ H).sub ⟨rfl,rfl,trivial⟩) rfl)) ?_ ?_
 ·  intro pre y post hr σ FZ
    refine ag (FZ) fun ss H hs=>?_
    try clear FZ
    have hp:pre.length<row.length:=by rw [hr,List.length_append,List.length_cons]; exact uj
    have hpow:2 ^ pre.length≤2 ^ 6:=Nat.pow_le_pow_right (by decide) (by exact zt hl hp)
    obtain ⟨y0,y1⟩:=h y (by rw [hr]; exact List.mem_append_right _ (.head _))
    have H1:=H.mk "_law_thing" (.d (.int y))
    have ev1:∀ {σ:St}{l:List (String × V)},Has σ l→l.lookup "_law_vectors" = some (.d (aa vec))→l.lookup "_law_thing" = some (.d (.int y))→ev C (.sub (.name "_law_vectors") (.name "_law_thing")) σ = .ok (sI (vec[y.toNat]?.getD 0)):=fun H a b=>fy (H.ev a) (H.ev b) y0 (getD_some (by exact la1 y0 y1))
    refine Runs.ite (nZ (ev1 H1 rfl rfl) (H1.ev rfl)) (fun uu=>Runs.ret (dw false) (ah _ rfl (ah false rfl (fun q=>?_)))) fun uu=>Runs.nil ?_
    · rw [q] at hr; exact absurd hr (by simp)
    refine Runs.set H1 (f8 (H1.ev rfl) (jb (g:=PyData.int) (fun i=>Builtin.bitXor i (vec[y.toNat]?.getD 0)) (aG (H1.ev rfl) (cr ss .sh)) fun i _=>?_) ?_) fun σ H _=>Runs.nil (ah _ (H.sub ⟨rfl,rfl,trivial⟩) ?_)
    · have H2:=H1.mk "_law_one" (.d (.int i))
      exact Cd (H2.ev rfl) (ev1 H2 rfl rfl)
    · rw [List.length_map]; exact Fx hs hpow
    · rw [List.length_append,List.length_append,List.length_map,List.length_singleton,Nat.pow_succ]; exact FC hs
 ·  intro σ' F0
    refine ag (F0) fun ss H hs=>?_
    try clear F0
    exact Runs.ret (dw true) (ah _ rfl (ah true rfl (fun uu=>rfl)))
def Tb (c:Int) (t:List (List Int)):Prop:=0≤c∧c≤100∧t.length≤63∧∀ r∈t,r.length≤12∧Srt c r
def qr (r:V × Mode):Prop:=∃ c t,r.1 = .d (.tuple [.int c,af t])∧Tb c t
theorem qY (C:Calls) (c:Nat) (hc:c≤5):∃ r,aB C l_pairs_by [.d (.int c)] = .ok r∧∃ t,r.1 = .d (af t)∧mS c 32 (2 * c) t:=by
 unfold l_pairs_by
 refine b0 rfl fun σ H=>?_
 refine Runs.set H kE fun σ H _=>?_
 refine Runs.for (g:=PyData.int) (xs:=aR c) (fun pre σ=>∃ t,Has σ [("_law_rows", .d (af t)),("_law_many", .d (.int c))]∧mS pre.length (2 ^ pre.length) (2 * pre.length) t) (bQ (H.ev rfl) (by exact Ep hc)) (fun σ0 h _=>(ba ([[]]) ((h _ H).sub ⟨rfl,rfl,trivial⟩) (by simp) (by simp) (fun r hr=>?_))) ?_ ?_
 ·  cases List.mem_singleton.mp hr; exact ⟨Nat.le_refl _,.nil _⟩
 ·  intro pre y post hl σ F1
    refine cy (F1) fun t H g1 g2 g3=>?_
    try clear F1
    refine kC hl fun hy hp=>?_
    have hpow:2 ^ pre.length≤2 ^ 5:=Nat.pow_le_pow_right (by decide) (by exact Fz hc hp)
    have H1:=H.mk "_law_k" (.d (.int y))
    obtain ⟨m1,e1,_⟩:=cA (fun r=>r ++ [2 * y]) .deep (aG (H1.ev (C:=C) (x := "_law_rows") rfl) (aH t .sh)) (a:=.bin .add (.name "_law_row") (.list (.cons (.bin .mul (.int 2) (.name "_law_k")) .nil))) (z := "_law_row") (fun r hr=>by
      have H2:=H1.mk "_law_row" (.d (aa r))
      exact f8 (H2.ev rfl) (il (kU (al 2) (H2.ev rfl) (by decide))) (by have:=(g3 r hr).1; rw [List.length_singleton]; exact zH hc hp this))
    obtain ⟨m2,e2,_⟩:=cA (fun r=>r ++ [2 * y + 1]) .deep (aG (H1.ev (C:=C) (x := "_law_rows") rfl) (aH t .sh)) (a:=.bin .add (.name "_law_row") (.list (.cons (.bin .add (.bin .mul (.int 2) (.name "_law_k")) (.int 1)) .nil))) (z := "_law_row") (fun r hr=>by
      have H2:=H1.mk "_law_row" (.d (aa r))
      exact f8 (H2.ev rfl) (il (ca (kU (al 2) (H2.ev rfl) (by decide)) (al 1))) (by have:=(g3 r hr).1; rw [List.length_singleton]; exact zH hc hp this))
    obtain ⟨m3,e3⟩:=kO e1 e2 (by rw [List.length_map,List.length_map]; exact Fi g2 hpow)
    refine Runs.set H1 e3 fun σ H _=>Runs.nil (ba _ (H.sub ⟨rfl,rfl,trivial⟩) ?_ ?_ (fun r hr=>?_))
    · exact fun q=>g1 (List.map_eq_nil_iff.mp (List.append_eq_nil_iff.mp q).1)
    · rw [List.length_append,List.length_append,List.length_map,List.length_map,List.length_singleton,Nat.pow_succ]; exact zz g2
    · rw [List.length_append,List.length_singleton]
      rcases List.mem_append.mp hr with hr | hr
      · refine aN hr fun r' hr' F2=>?_
        (clear hr; subst F2)
        refine ae (g3 r' hr') fun q1 q2=>?_
        rw [List.length_append,List.length_singleton]
        exact ⟨by exact Nat.lt_succ_of_le (by assumption),(q2.snoc (by exact Int.natCast_nonneg _) (x:=2 * y) (by exact Ev hy)).mono (by exact ER hy)⟩
      · refine aN hr fun r' hr' F4=>?_
        (clear hr; subst F4)
        refine ae (g3 r' hr') fun q1 q2=>?_
        rw [List.length_append,List.length_singleton]
        exact ⟨by exact Nat.lt_succ_of_le (by assumption),(q2.snoc (by exact Int.natCast_nonneg _) (x:=2 * y + 1) (by exact E9 hy)).mono (by exact D6 hy)⟩
 ·  intro σ' F5
    refine cy (F5) fun t H g1 g2 g3=>?_
    try clear F5
    refine aj (H "_law_rows" _ rfl) fun m e=>?_
    rw [bR] at g2 g3
    have hpow:2 ^ c≤2 ^ 5:=Nat.pow_le_pow_right (by decide) (by assumption)
    exact Runs.retn e (ah _ rfl (ba t rfl g1 (by exact Nat.le_trans (by assumption) (by assumption)) g3))
theorem c7 {L:List (String × Fn)}{n:Nat}{σ:St}{f:String}{fn:Fn}{es:Es}{q:List (V × Mode)}{vs:List V}{P:V × Mode→Prop} (hL:L.lookup f=some fn) (he:evs (mkC L (n + 1)) es σ = .ok q) (hv:q.map (·.1)=vs) (h:∃ r,aB (mkC L n) fn vs = .ok r∧P r) (hp:gj f=true:=by decide):∃ r,ev (mkC L (n + 1)) (.call f es) σ = .ok r∧P r:=by
 refine ag (h) fun r h1 h2=>?_
 try clear h
 exact (ah r (bk hL he hv h1 hp) h2)
noncomputable def tri (k:Nat):Nat:=((List.range k).map fun i=>8 - i).sum
theorem tn:∀ k≤9,tri k≤36:=by decide
theorem vm (k:Nat):tri (k + 1)=tri k + (8 - k):=by unfold tri; rw [List.range_succ,List.map_append,List.sum_append]; rfl
theorem rp {L:List (String × Fn)} (lib:Lib L) (n:Nat) (s:List Int) (kind more:Int) (c:Nat) (hc:c≤6):∃ r,aB (mkC L (n + 1)) l_parts [.d (aa s),.d (.int kind),.d (.int c),.d (.int more)] = .ok r∧qr r:=by
 unfold l_parts
 refine b0 rfl fun σ H=>?_
 obtain ⟨F6,e1,t,ht,hsub,h0,g1,g2,g3⟩:=c7 (σ:=σ) (n:=n) lib.subs (es:=.cons (.name "_law_count") .nil) (ai (H.ev rfl) aw) rfl (oW _ c (by exact Nat.le_succ_of_le (by assumption)))
 obtain ⟨rv,rm⟩:=F6
 cases ht
 refine Runs.set H e1 fun σ H _=>?_
 have m6:=Int.emod_nonneg more (show (6:Int)≠0 by decide)
 have m6':=Int.emod_lt_of_pos more (show (0:Int)<6 by decide)
 have hpos:0<t.length:=List.length_pos_iff.mpr g1
 refine Runs.ite (cN (H.ev rfl) (al 0)) (fun uu=>?_) fun uu=>Runs.nil ?_
 ·  obtain ⟨k,hk⟩:∃ k:Nat,more % 6=k:=⟨(more % 6).toNat,by exact EX⟩
    have idx:∀ i:Int,∃ r,t[(bf s (6 + i) % t.length).toNat]? = some r:=fun i=>⟨_,List.getElem?_eq_getElem (by have:=Int.emod_lt_of_pos (bf s (6 + i)) (show (0:Int)<t.length by exact la3 hpos); have:=Int.emod_nonneg (bf s (6 + i)) (show (t.length:Int)≠0 by exact la2 hpos); exact la4 hpos (by assumption))⟩
    obtain ⟨m1,e2,_⟩:=cA (C:=mkC L (n + 1)) (σ:=σ) (g:=PyData.int) (l:=aR k) (z := "_law_k") (it:=.r1 (.bin .mod (.name "_law_more") (.int 6))) (a:=.sub (.name "_law_rows") (.bin .mod (.call "_law_cell_at" (.cons (.name "_law_script") (.cons (.bin .add (.int 6) (.name "_law_k")) .nil))) (.bi1 .len (.name "_law_rows")))) (fun i=>(t[(bf s (6 + i) % t.length).toNat]?).getD []) .sh (bQ (n:=k) (m:=.deep) ((aX (H.ev rfl) (al 6) (by decide)).trans (by rw [hk]; rfl)) (by exact EW hk)) (fun i hi=>by
      have H2:=H.mk "_law_k" (.d (.int i))
      have:=mem_upTo.mp hi
      refine aj (idx i) fun r hr=>?_
      rw [hr]
      exact ky (H2.ev rfl) (aX (bX lib (H2.ev rfl) (ca (al 6) (H2.ev rfl)) (by exact zv this)) (eB (H2.ev rfl)) (by exact la3 hpos)) (Int.emod_nonneg _ (by exact la2 hpos)) hr)
    refine cq (H.ev (x := "_law_count") rfl) e2 fun m2 e3=>?_
    refine Runs.ret e3 (ah _ rfl (d9 c _ rfl (by exact Int.natCast_nonneg _) (by exact zK hc) (by rw [List.length_map,bR]; exact Ec hk) (fun r hr=>?_)))
    refine aN hr fun i _ Ga=>?_
    (clear hr; subst Ga)
    refine aj (idx i) fun r hr=>?_
    rw [hr]
    refine ae (g3 r (List.mem_of_getElem? hr)) fun q1 q2=>?_
    exact ⟨by show r.length≤12; exact z6 hc q1,q2⟩
 ·  refine Runs.ite (cN (aX (H.ev rfl) (al 9) (by decide)) (al 8)) (fun uu=>?_) fun uu=>Runs.nil ?_
    · have a1:=Int.emod_nonneg (more / 9) (show (3:Int)≠0 by decide)
      have a2:=Int.emod_lt_of_pos (more / 9) (show (0:Int)<3 by decide)
      obtain ⟨d,hd⟩:∃ d:Nat,7 + more / 9 % 3=d:=⟨(7 + more / 9 % 3).toNat,by exact Ek⟩
      refine Runs.set H (ca (al 7) (aX (eL (H.ev rfl) (al 9) (by decide) (by decide)) (al 3) (by decide))) fun σ H _=>?_
      rw [hd] at H
      refine Runs.set H dR fun σ H _=>?_
      refine Runs.for (g:=PyData.int) (xs:=aR d) (fun pre σ=>∃ t,Has σ [("_law_rows", .d (af t)),("_law_count", .d (.int d))]∧t.length≤tri pre.length∧∀ r∈t,r.length≤12∧Srt d r) (bQ (H.ev rfl) (by exact Fc hd)) (fun σ0 h _=>(ax ([]) ((h _ H).sub ⟨rfl,rfl,trivial⟩) (by simp) (fun uu q=>by cases q))) ?_ ?_
      · intro pre y post hl σ F9
        refine aq (F9) fun t H q1 q2=>?_
        try clear F9
        refine kC hl fun hy hp=>?_
        have H1:=H.mk "_law_one" (.d (.int y))
        obtain ⟨m1,e2,_⟩:=cA (C:=mkC L (n + 1)) (σ:=upd σ "_law_one" (mk (.d (.int y)))) (g:=PyData.int) (z := "_law_thing") (it:=.r2 (.bin .add (.name "_law_one") (.int 1)) (.name "_law_count")) (a:=.list (.cons (.name "_law_one") (.cons (.name "_law_thing") .nil))) (fun i=>[y,i]) .deep (yh (ca (H1.ev rfl) (al 1)) (H1.ev rfl) (by exact Ft hy) (by exact Fy hd hy hp) (by exact Int.natCast_nonneg _) (by exact Fd hd)) (fun i hi=>by
          have H2:=H1.mk "_law_thing" (.d (.int i))
          exact Dq (H2.ev rfl) (H2.ev rfl))
        obtain ⟨m2,e3⟩:=kO (H1.ev (C:=mkC L (n + 1)) (x := "_law_rows") rfl) e2 (by rw [List.length_map,List.length_map,List.length_range]; have:=tn pre.length (by exact Et hd hp); exact Eu hd q1 hy this)
        refine Runs.set H1 e3 fun σ H _=>Runs.nil (ax _ (H.sub ⟨rfl,rfl,trivial⟩) ?_ (fun r hr=>?_))
        · rw [List.length_append,List.length_append,List.length_map,List.length_map,List.length_range,List.length_singleton,vm]; exact Ff hd q1 hy
        · rcases List.mem_append.mp hr with hr | hr
          · exact q2 r hr
          · refine aN hr fun i hi Gh=>?_
            (clear hr; subst Gh)
            refine aN hi fun k hk Gi=>?_
            (clear hi hr; subst Gi)
            have:=List.mem_range.mp hk
            exact ⟨by simp,by simp; exact DY,fun x hx=>by
              rcases List.mem_cons.mp hx with rfl | hx
              · exact E1 hp hy
              · rw [List.mem_singleton.mp hx]; exact Eo hy this⟩
      · intro σ' Gj
        refine aq (Gj) fun t H q1 q2=>?_
        try clear Gj
        refine cq (H.ev (C:=mkC L (n + 1)) (x := "_law_count") rfl) (H.ev (x := "_law_rows") rfl) fun m2 e3=>?_
        rw [bR] at q1
        have:=tn d (by exact Fr hd)
        exact Runs.ret e3 (ah _ rfl (d9 d t rfl (by exact Int.natCast_nonneg _) (by exact D7 hd) (by exact E6 q1 this) q2))
    · obtain ⟨m1,e2,_⟩:=dD (C:=mkC L (n + 1)) (σ:=σ) (g:=aa) (l:=t) (z := "_law_row") (it:=.e (.name "_law_rows")) (a:=.name "_law_row") (c:=.cmp .eq (.bi1 .len (.name "_law_row")) (.bin .mod (.name "_law_more") (.bin .add (.name "_law_count") (.int 1)))) (fun r=>r) (fun r=>decide ((r.length:Int)=more % (c + 1))) .sh (aG (H.ev rfl) (aH t .sh)) (fun r hr=>by
        have H2:=H.mk "_law_row" (.d (aa r))
        exact cN (du (H2.ev rfl)) (aX (H2.ev rfl) (ca (H2.ev rfl) (al 1)) (by exact Ez))) (fun r hr _=>(H.mk "_law_row" (.d (aa r))).ev rfl)
      refine cq (H.ev (x := "_law_count") rfl) e2 fun m2 e3=>?_
      refine Runs.ret e3 (ah _ rfl (d9 c _ rfl (by exact Int.natCast_nonneg _) (by exact zK hc) ?_ (fun r hr=>?_)))
      · rw [List.map_id']; exact oX (by rw [hsub]; exact vT c hc) _
      · rw [List.map_id'] at hr
        refine ae (g3 r (List.mem_filter.mp hr).1) fun q1 q2=>?_
        exact ⟨by exact z6 hc q1,q2⟩
theorem wD {l:List Int}{x:Int}{b:Int} (h:l.length=7) (hb:∀ i∈l,0≤i∧i≤b):∃ c:Nat,l[(x / 9 % 7).toNat]? = some (c:Int)∧(c:Int)≤b:=by
 have h1:=Int.emod_nonneg (x / 9) (show (7:Int)≠0 by decide)
 have h2:=Int.emod_lt_of_pos (x / 9) (show (0:Int)<7 by decide)
 have hl:(x / 9 % 7).toNat<l.length:=by exact Fp h
 have:=hb _ (List.getElem_mem hl)
 exact (ah (l[(x / 9 % 7).toNat].toNat) (by rw [List.getElem?_eq_getElem hl]; congr 1; exact Fq this) (by exact Fk this))
theorem qd {C:Calls}{σ:St} (a b c d e f g:Int):ev C (.list (.cons (.int a) (.cons (.int b) (.cons (.int c) (.cons (.int d) (.cons (.int e) (.cons (.int f) (.cons (.int g) .nil)))))))) σ = .ok (.d (aa [a,b,c,d,e,f,g]),.deep):=by
 simp only [eT,b7,br,bl,Out.ok_bind]; rfl
theorem uL {L:List (String × Fn)} (lib:Lib L) (n:Nat) (s:List Int) (hs:s.length≤63):∃ r,aB (mkC L (n + 2)) l_few [.d (aa s)] = .ok r∧qr r:=by
 unfold l_few
 refine b0 rfl fun σ H=>?_
 refine Runs.set H (aX (bX lib (H.ev rfl) (al 0) (by decide)) (al 9) (by decide)) fun σ H _=>?_
 refine ag (wD (l:=[6,5,4,3,6,1,0]) (x:=bf s 0) (b:=6) rfl (by decide)) fun c hc1 hc2=>?_
 refine Runs.set H (fy (qd 6 5 4 3 6 1 0) (aX (eL (bX lib (H.ev rfl) (al 0) (by decide)) (al 9) (by decide) (by decide)) (al 7) (by decide)) (Int.emod_nonneg _ (by decide)) hc1) fun σ H _=>?_
 refine Runs.set H (bX lib (H.ev rfl) (al 1) (by decide)) fun σ H _=>?_
 generalize bf s 0 % 9=kind at H
 generalize bf s 1=more at H
 refine Runs.ite (cN (H.ev rfl) (al 7)) (fun uu=>?_) fun uu=>Runs.nil ?_
 ·  have a1:=Int.emod_nonneg more (show (4:Int)≠0 by decide)
    have a2:=Int.emod_lt_of_pos more (show (0:Int)<4 by decide)
    obtain ⟨d,hd⟩:∃ d:Nat,1 + more % 4=d:=⟨(1 + more % 4).toNat,by exact ET⟩
    refine Runs.set H (ca (al 1) (aX (H.ev rfl) (al 4) (by decide))) fun σ H _=>?_
    rw [hd] at H
    refine Runs.no ((ln (du (H.ev rfl)) (al 63)).trans (by rw [decide_eq_false (by exact Em hs)])) ?_
    obtain ⟨Gr,e1,t,ht,g1,g2,g3⟩:=c7 (σ:=σ) (n:=n + 1) lib.pairs (es:=.cons (.name "_law_many") .nil) (ai (H.ev rfl) aw) rfl (qY _ d (by exact El hd))
    obtain ⟨rv,rm⟩:=Gr
    cases ht
    refine cq (kU (al 2) (H.ev (x := "_law_many") rfl) (by decide)) e1 fun m2 e3=>?_
    exact Runs.ret e3 (ah _ rfl (d9 _ t rfl (by exact Int.natCast_nonneg _) (by exact EA hd) (by exact Fe g2) (fun r hr=>ae (g3 r hr) fun q1 q2=>⟨by exact EF hd q1,q2⟩)))
 ·  refine Runs.ite (jP (H.ev rfl) (al 2)) (fun uu=>?_) fun uu=>Runs.nil ?_
    · refine ag (c7 (σ:=σ) (n:=n + 1) lib.parts (es:=.cons (.name "_law_script") (.cons (.name "_law_kind") (.cons (.name "_law_count") (.cons (.name "_law_more") .nil)))) (ai (H.ev rfl) (ai (H.ev rfl) (ai (H.ev rfl) (ai (H.ev rfl) aw)))) rfl (rp lib n s kind more c (by exact E2 hc2))) fun r e1 h=>?_
      exact Runs.ret e1 (ah r rfl h)
    · clear hc1 hc2
      refine ag (wD (l:=[6,5,4,3,7,7,2]) (x:=bf s 0) (b:=7) rfl (by decide)) fun c hc1 hc2=>?_
      refine Runs.set H (fy (qd 6 5 4 3 7 7 2) (aX (eL (bX lib (H.ev rfl) (al 0) (by decide)) (al 9) (by decide) (by decide)) (al 7) (by decide)) (Int.emod_nonneg _ (by decide)) hc1) fun σ H _=>?_
      refine Runs.set H kE fun σ H _=>?_
      refine Runs.for (g:=PyData.int) (xs:=aR c) (fun pre σ=>∃ t,Has σ [("_law_rows", .d (af t)),("_law_count", .d (.int c)),("_law_script", .d (aa s)),("_law_kind", .d (.int kind)),("_law_more", .d (.int more))]∧t=kL pre.length∧[]∈t∧mS pre.length (2 ^ pre.length) pre.length t) (bQ (H.ev rfl) (by exact y9 hc2)) (fun σ0 h _=>(jf ([[]]) ((h _ H).sub (c8 rfl rfl rfl rfl rfl trivial)) rfl (.head _) (by simp) (by simp) (fun r hr=>?_))) ?_ ?_
      · cases List.mem_singleton.mp hr; exact ⟨Nat.le_refl _,.nil _⟩
      · intro pre y post hl σ Gv
        refine g7 (Gv) fun t H h3 h0 g1 g2 g3=>?_
        try clear Gv
        refine kC hl fun hy hp=>?_
        have hpow:2 ^ pre.length≤2 ^ 6:=Nat.pow_le_pow_right (by decide) (by exact EQ hc2 hp)
        have H1:=H.mk "_law_thing" (.d (.int y))
        obtain ⟨m1,e1,_⟩:=dD (C:=mkC L (n + 2)) (fun r=>r ++ [y]) (fun r=>decide ((r.length:Int)<3)) .deep (aG (H1.ev (x := "_law_rows") rfl) (aH t .sh)) (a:=.bin .add (.name "_law_row") (.list (.cons (.name "_law_thing") .nil))) (c:=.cmp .lt (.bi1 .len (.name "_law_row")) (.int 3)) (z := "_law_row") (fun r hr=>jP (du ((H1.mk "_law_row" (.d (aa r))).ev rfl)) (al 3)) (fun r hr _=>by
          have H2:=H1.mk "_law_row" (.d (aa r))
          exact f8 (H2.ev rfl) (il (H2.ev rfl)) (by have:=(g3 r hr).1; rw [List.length_singleton]; exact FE hc2 hp this))
        have hf:=List.length_filter_le (fun r:List Int=>decide ((r.length:Int)<3)) t
        obtain ⟨m2,e2⟩:=kO (H1.ev (C:=mkC L (n + 2)) (x := "_law_rows") rfl) e1 (by rw [List.length_map]; exact FF g2 hpow hf)
        refine Runs.set H1 e2 fun σ H _=>Runs.nil (jf _ (H.sub (c8 rfl rfl rfl rfl rfl trivial)) (by rw [h3,hy,List.length_append,List.length_singleton]; rfl) (List.mem_append_left _ h0) ?_ ?_ (fun r hr=>?_))
        · exact fun q=>g1 (List.append_eq_nil_iff.mp q).1
        · rw [List.length_append,List.length_append,List.length_map,List.length_singleton,Nat.pow_succ]; exact EH g2 hf
        · rw [List.length_append,List.length_singleton]
          rcases List.mem_append.mp hr with hr | hr
          · obtain ⟨q1,q2⟩:=g3 r hr; exact ⟨by exact Nat.le_succ_of_le (by assumption),q2.mono (by exact zc)⟩
          · refine aN hr fun r' hr' Gs=>?_
            (clear hr; subst Gs)
            refine ae (g3 r' (List.mem_filter.mp hr').1) fun q1 q2=>?_
            rw [List.length_append,List.length_singleton]
            exact ⟨by exact Nat.lt_succ_of_le (by assumption),(q2.snoc (by exact Int.natCast_nonneg _) (x:=y) (by exact zM hy)).mono (by exact zm hy)⟩
      · intro σ Gx
        refine g7 (Gx) fun t H h3 h0 g1 g2 g3=>?_
        try clear Gx
        rw [bR] at h3 g2 g3
        have hpow:2 ^ c≤2 ^ 7:=Nat.pow_le_pow_right (by decide) (by exact y8 hc2)
        obtain ⟨vec,hvec⟩:∃ vec,(aR c).map (fun i=>bf s (6 + i) % 8)=vec:=⟨_,rfl⟩
        have hvl:vec.length=c:=by rw [← hvec,List.length_map,bR]
        refine Runs.set H (r:=(.d (aa vec),.deep)) ((jb (g:=PyData.int) (fun i=>bf s (6 + i) % 8) (bQ (n:=c) (H.ev rfl) (by exact y9 hc2)) fun i hi=>?_).trans (by rw [hvec])) fun σ H _=>?_
        · have H2:=H.mk "_law_thing" (.d (.int i))
          have:=mem_upTo.mp hi
          exact aX (bX lib (H2.ev rfl) (ca (al 6) (H2.ev rfl)) (by exact zv this)) (al 8) (by decide)
        obtain ⟨p,hp⟩:=jz (l:=t) (Q:=fun r b=>ev (mkC L (n + 2)) (.call "_law_apart" (.cons (.name "_law_vectors") (.cons (.name "_law_row") .nil))) (upd σ "_law_row" (mk (.d (aa r)))) = .ok (sB b)∧(r=[]→b=true)) fun r hr=>by
          have H2:=H.mk "_law_row" (.d (aa r))
          refine ae (g3 r hr) fun q1 q2=>?_
          obtain ⟨_,e1,b,rfl,hb⟩:=c7 (n:=n + 1) lib.apart (es:=.cons (.name "_law_vectors") (.cons (.name "_law_row") .nil)) (ai (H2.ev rfl) (ai (H2.ev rfl) aw)) rfl (qk _ vec r (fun i hi=>by have:=q2.2 i hi; exact Eg hvl this) (by exact Fj hc2 q1))
          exact (ah b e1 hb)
        refine ag (dD (C:=mkC L (n + 2)) (σ:=σ) (g:=aa) (l:=t) (z := "_law_row") (it:=.e (.name "_law_rows")) (a:=.name "_law_row") (c:=.call "_law_apart" (.cons (.name "_law_vectors") (.cons (.name "_law_row") .nil))) (fun r=>r) p .sh (aG (H.ev rfl) (aH t .sh)) (fun r hr=>(hp r hr).1) (fun r hr _=>(H.mk "_law_row" (.d (aa r))).ev rfl)) fun m1 e1 _=>?_
        rw [List.map_id'] at e1
        refine Runs.set H e1 fun σ H _=>?_
        have hne:(t.filter p).map (fun r=>(r.length:Int))≠[]:=fun q=>by
          have:[]∈t.filter p:=List.mem_filter.mpr ⟨h0,(hp [] h0).2 rfl⟩
          rw [List.map_eq_nil_iff.mp q] at this
          cases this
        refine ag (Bc (jb (C:=mkC L (n + 2)) (σ:=σ) (g:=aa) (l:=t.filter p) (z := "_law_row") (it:=.e (.name "_law_good")) (a:=.bi1 .len (.name "_law_row")) (fun r=>(r.length:Int)) (aG (H.ev rfl) (aH _ .sh)) fun r _=>du ((H.mk "_law_row" (.d (aa r))).ev rfl)) hne) fun mo e2 hmo=>?_
        refine Runs.set H e2 fun σ H _=>?_
        refine aN hmo fun r0 hr0 hr1=>?_
        obtain ⟨tt,htt⟩:∃ tt,(t.filter p).filter (fun r=>decide ((r.length:Int)=mo))=tt:=⟨_,rfl⟩
        have hpos:0<tt.length:=List.length_pos_iff.mpr fun q=>by
          have:r0∈tt:=by rw [← htt]; exact List.mem_filter.mpr ⟨hr0,decide_eq_true hr1⟩
          rw [q] at this; cases this
        have hsub:∀ r∈tt,r∈t:=fun r hr=>by rw [← htt] at hr; exact (List.mem_filter.mp (List.mem_filter.mp hr).1).1
        have hlen:tt.length≤63:=by
          have q1:=List.length_filter_le p (t.filter fun r:List Int=>decide ((r.length:Int)=mo))
          have q2:=oX (t:=t) (by rw [h3]; exact sG c (by exact y8 hc2)) mo
          rw [← htt,List.filter_filter]
          rw [List.filter_filter] at q1
          simp only [Bool.and_comm] at q1 ⊢
          exact EC q1 q2
        obtain ⟨m3,e3,_,hm3⟩:=dD (C:=mkC L (n + 2)) (σ:=σ) (g:=aa) (l:=t.filter p) (z := "_law_row") (it:=.e (.name "_law_good")) (a:=.name "_law_row") (c:=.cmp .eq (.bi1 .len (.name "_law_row")) (.name "_law_most")) (fun r=>r) (fun r=>decide ((r.length:Int)=mo)) .sh (aG (H.ev rfl) (aH _ .sh)) (fun r hr=>by
          have H2:=H.mk "_law_row" (.d (aa r))
          exact cN (du (H2.ev rfl)) (H2.ev rfl)) (fun r hr _=>(H.mk "_law_row" (.d (aa r))).ev rfl)
        rw [List.map_id',htt] at e3
        refine Runs.set H e3 fun σ H hσ=>?_
        have fin:∀ {σ:St}{l:List (String × V)} (t':List (List Int)),Has σ l→l.lookup "_law_count" = some (.d (.int c))→l.lookup "_law_table_here" = some (.d (af t'))→(∀ r∈t',r∈t)→t'.length≤63→Runs (mkC L (n + 2)) (.cons (.ret (.tup (.cons (.name "_law_count") (.cons (.name "_law_table_here") .nil)))) .nil) σ (fun uu fl=>∃ r,fl = .ret r∧qr r):=fun t' H a b ht' hl'=>by
          refine cq (H.ev (C:=mkC L (n + 2)) a) (H.ev b) fun m2 e4=>?_
          exact Runs.ret e4 (ah _ rfl (d9 c t' rfl (by exact Int.natCast_nonneg _) (by exact EN hc2) hl' (fun r hr=>ae (g3 r (ht' r hr)) fun q1 q2=>⟨by exact Fw hc2 q1,q2⟩)))
        refine Runs.ite (cN (H.ev rfl) (al 3)) (fun uu=>?_) fun uu=>Runs.nil (fin tt H rfl rfl hsub hlen)
        refine Runs.popR H hσ hm3 (aX (H.ev rfl) (eB (H.ev rfl)) (by exact la3 hpos)) (Int.emod_nonneg _ (by exact la2 hpos)) (Int.emod_lt_of_pos _ (by exact la3 hpos)) fun σ H _=>Runs.nil (fin _ H rfl rfl (fun r hr=>hsub r (List.mem_of_mem_eraseIdx hr)) (Nat.le_trans (List.length_eraseIdx_le ..) hlen))
theorem Srt.affine {c a b:Int}{r:List Int} (h:Srt c r) (ha:0≤a) (hb:0<b):Srt (a + b * c) (r.map fun x=>a + b * x):=by
 refine ⟨?_,fun x hx=>?_⟩
 ·  rw [List.pairwise_map]
    refine h.1.imp fun {x y} q=>?_
    have:=Int.mul_lt_mul_of_pos_left q hb
    exact EB this
 ·  refine aN hx fun y hy GB=>?_
    (clear hx; subst GB)
    refine ae (h.2 y hy) fun h0 h1=>?_
    have q1:=Int.mul_nonneg (Int.le_of_lt hb) h0
    have q2:=Int.mul_lt_mul_of_pos_left h1 hb
    exact E5 ha q1 q2
theorem jx (c:Nat):(aR c).Pairwise (· < ·):=by
 unfold aR
 rw [List.pairwise_map]
 exact List.pairwise_lt_range.imp fun {a b} h=>by exact EG h
theorem ql {L:List (String × Fn)} (lib:Lib L) (n:Nat) (s:List Int) (hs:s.length≤63):∃ r,aB (mkC L (n + 3)) l_table [.d (aa s)] = .ok r∧qr r:=by
 unfold l_table
 refine b0 rfl fun σ H=>?_
 refine Runs.set H (aX (bX lib (H.ev rfl) (al 0) (by decide)) (al 9) (by decide)) fun σ H _=>?_
 refine Runs.set H (bX lib (H.ev rfl) (al 1) (by decide)) fun σ H _=>?_
 generalize bf s 0 % 9=kind at H
 generalize bf s 1=more at H
 refine Runs.ite (cN (H.ev rfl) (al 4)) (fun uu=>?_) fun uu=>Runs.nil ?_
 ·  have a1:=Int.emod_nonneg more (show (12:Int)≠0 by decide)
    have a2:=Int.emod_lt_of_pos more (show (0:Int)<12 by decide)
    have a3:=Int.emod_nonneg (more / 12) (show (4:Int)≠0 by decide)
    obtain ⟨d,hd⟩:∃ d:Nat,7 + more % 12=d:=⟨(7 + more % 12).toNat,by exact E7⟩
    refine Runs.set H (ca (al 7) (aX (H.ev rfl) (al 12) (by decide))) fun σ H _=>?_
    rw [hd] at H
    refine Runs.set H (ca (al 1) (aX (eL (H.ev rfl) (al 12) (by decide) (by decide)) (al 4) (by decide))) fun σ H _=>?_
    obtain ⟨m1,e1,_⟩:=dD (C:=mkC L (n + 3)) (σ:=σ) (g:=PyData.int) (l:=aR d) (z := "_law_thing") (it:=.r1 (.name "_law_count")) (a:=.list (.cons (.name "_law_thing") .nil)) (c:=.cmp .eq (.bin .mod (.name "_law_thing") (.name "_law_step")) (.int 0)) (fun i=>[i]) (fun i=>decide (i % (1 + more / 12 % 4)=0)) .deep (bQ (H.ev rfl) (by exact E0 hd)) (fun i _=>by
      have H2:=H.mk "_law_thing" (.d (.int i))
      exact cN (aX (H2.ev rfl) (H2.ev rfl) (by exact EJ)) (al 0)) (fun i _ _=>il ((H.mk "_law_thing" (.d (.int i))).ev rfl))
    refine cq (H.ev (C:=mkC L (n + 3)) (x := "_law_count") rfl) e1 fun m2 e2=>?_
    refine Runs.ret e2 (ah _ rfl (d9 d _ rfl (by exact Int.natCast_nonneg _) (by exact EI hd) ?_ (fun r hr=>?_)))
    · rw [List.length_map]
      have:=List.length_filter_le (fun i=>decide (i % (1 + more / 12 % 4)=0)) (aR d)
      rw [bR] at this; exact D8 hd this
    · refine aN hr fun i hi Gy=>?_
      (clear hr; subst Gy)
      have:=mem_upTo.mp (List.mem_filter.mp hi).1
      exact ⟨by simp,by simp,fun x hx=>by rw [List.mem_singleton.mp hx]; exact zY this⟩
 ·  refine Runs.ite (cN (H.ev rfl) (al 5)) (fun uu=>?_) fun uu=>Runs.nil ?_
    · have a1:=Int.emod_nonneg more (show (6:Int)≠0 by decide)
      have a2:=Int.emod_lt_of_pos more (show (0:Int)<6 by decide)
      obtain ⟨d,hd⟩:∃ d:Nat,7 + more % 6=d:=⟨(7 + more % 6).toNat,by exact Fg⟩
      refine Runs.set H (ca (al 7) (aX (H.ev rfl) (al 6) (by decide))) fun σ H _=>?_
      rw [hd] at H
      obtain ⟨m1,e1,_⟩:=cA (C:=mkC L (n + 3)) (σ:=σ) (g:=PyData.int) (l:=aR d) (z := "_law_gone") (it:=.r1 (.name "_law_count")) (a:=.compif (.name "_law_thing") "_law_thing" (.r1 (.name "_law_count")) (.cmp .ne (.name "_law_thing") (.name "_law_gone"))) (fun g=>(aR d).filter fun i=>!decide (i=g)) .deep (bQ (H.ev rfl) (by exact y5 hd)) (fun g _=>by
        have H2:=H.mk "_law_gone" (.d (.int g))
        exact iT (fun i=>!decide (i=g)) (bQ (H2.ev rfl) (by exact y5 hd)) fun i _=>by
          have H3:Has (upd (upd σ "_law_gone" (mk (.d (.int g)))) "_law_thing" (sI i)) _:=H2.upd "_law_thing" (.d (.int i)) .deep
          exact jG (H3.ev rfl) (H3.ev rfl))
      refine cq (H.ev (C:=mkC L (n + 3)) (x := "_law_count") rfl) e1 fun m2 e2=>?_
      refine Runs.ret e2 (ah _ rfl (d9 d _ rfl (by exact Int.natCast_nonneg _) (by exact Fb hd) (by rw [List.length_map,bR]; exact ES hd) (fun r hr=>?_)))
      refine aN hr fun g _ GI=>?_
      (clear hr; subst GI)
      refine ⟨?_,(jx d).filter _,fun x hx=>?_⟩
      · have:=List.length_filter_le (fun i=>!decide (i=g)) (aR d)
        rw [bR] at this; exact Ee hd this
      · have:=mem_upTo.mp (List.mem_filter.mp hx).1
        exact zY this
    · obtain ⟨GG,e1,c,t,hr,h0,h1,h2,h3⟩:=c7 (σ:=σ) (n:=n + 2) lib.few (es:=.cons (.name "_law_script") .nil) (ai (H.ev rfl) aw) rfl (uL lib n s hs)
      obtain ⟨rv,rm⟩:=GG
      cases hr
      refine Runs.set H e1 fun σ H hσ=>?_
      refine Runs.set H (bX lib (H.ev rfl) (al 12) (by decide)) fun σ' H hσ'=>?_
      generalize bf s 12=far at H
      have made:∀ {σ:St}{l:List (String × V)},Has σ l→l.lookup "_law_made" = some (.d (.tuple [.int c,af t]))→ev (mkC L (n + 3)) (.sub (.name "_law_made") (.int 0)) σ = .ok (sI c)∧ev (mkC L (n + 3)) (.sub (.name "_law_made") (.int 1)) σ = .ok (.d (af t),.sh):=fun H a=>⟨qE (m:=.sh) (H.ev a) (al 0),rt (m:=.sh) (H.ev a) (al 1)⟩
      refine ae (made H rfl) fun d1 d2=>?_
      refine Runs.ite (d6 (jG (aX (H.ev rfl) (al 3) (by decide)) (al 1)) fun uu=>d6 (ln (eB d2) (al 8)) fun uu=>ln d1 (al 9)) (fun uu=>?_) fun q=>Runs.nil ?_
      · refine aj (H "_law_made" _ rfl) fun m e=>?_
        exact Runs.retn e (ah _ rfl (d9 c t rfl h0 h1 h2 h3))
      · have hc9:c≤9:=by
          have:=(Bool.or_eq_false_iff.mp (Bool.or_eq_false_iff.mp q).2).2
          have:=of_decide_eq_false this
          exact D9 this
        have ht8:t.length≤8:=by
          have:=(Bool.or_eq_false_iff.mp (Bool.or_eq_false_iff.mp q).2).1
          have:=of_decide_eq_false this
          exact EM this
        clear q d1 d2
        refine Runs.set H (ca (al 1) (aX (eL (H.ev rfl) (al 3) (by decide) (by decide)) (al 9) (by decide))) fun σ H _=>?_
        refine Runs.set H (aX (eL (H.ev rfl) (al 27) (by decide) (by decide)) (al 9) (by decide)) fun σ H _=>?_
        have b1:=Int.emod_nonneg (far / 3) (show (9:Int)≠0 by decide)
        have b2:=Int.emod_lt_of_pos (far / 3) (show (0:Int)<9 by decide)
        have b3:=Int.emod_nonneg (far / 27) (show (9:Int)≠0 by decide)
        have b4:=Int.emod_lt_of_pos (far / 27) (show (0:Int)<9 by decide)
        generalize hst:1 + far / 3 % 9=st at H
        generalize hfi:far / 27 % 9=fi at H
        refine Runs.set H dR fun σ H hσ=>?_
        refine Runs.for (g:=aa) (xs:=t) (fun pre σ=>Has σ [("_law_table_here", .d (af (pre.map fun r=>r.map fun x=>fi + st * x))),("_law_made", .d (.tuple [.int c,af t])),("_law_step", .d (.int st)),("_law_first", .d (.int fi))]∧σ "_law_table_here" = some (.d (af (pre.map fun r=>r.map fun x=>fi + st * x)),.deep)) (aG (made H rfl).2 (aH t .sh)) (fun σ0 h hh=>⟨(h _ H).sub (cf rfl rfl rfl rfl trivial),(hh _ (by simp [jn,d7,yE,pD])).trans hσ⟩) ?_ ?_
        · intro pre y post hl σ GT
          refine ae (GT) fun H hσ=>?_
          try clear GT
          have hp:pre.length<t.length:=by rw [hl,List.length_append,List.length_cons]; exact uj
          have H1:=H.mk "_law_choice" (.d (aa y))
          refine Runs.appR H1 (t:=pre.map fun r=>r.map fun x=>fi + st * x) (m:=.deep) ((if_neg (by decide)).trans hσ) (by decide) (jb (g:=PyData.int) (fun x=>fi + st * x) (aG (H1.ev rfl) (cr y .sh)) fun i _=>?_) (by rw [List.length_map]; exact Ey ht8 hp) fun σ H hσ _=>Runs.nil ?_
          · have H2:=H1.mk "_law_thing" (.d (.int i))
            exact ca (H2.ev rfl) (kU (H2.ev rfl) (H2.ev rfl) (by lia))
          · have e:(pre ++ [y]).map (fun r=>r.map fun x=>fi + st * x)=pre.map (fun r=>r.map fun x=>fi + st * x) ++ [y.map fun x=>fi + st * x]:=by rw [List.map_append]; rfl
            show Has σ _∧_
            rw [e]
            exact ⟨H.sub (cf rfl rfl rfl rfl trivial),hσ⟩
        · intro σ GF
          refine ae (GF) fun H _=>?_
          try clear GF
          refine cq (ca (H.ev (C:=mkC L (n + 3)) (x := "_law_first") rfl) (kU (H.ev (x := "_law_step") rfl) (made H rfl).1 (by lia))) (H.ev (x := "_law_table_here") rfl) fun m2 e2=>?_
          have q1:=Int.mul_nonneg (show 0≤st by exact Ex hst) h0
          have q2:st * c≤9 * 9:=Int.mul_le_mul (by exact Ej hst) hc9 h0 (by decide)
          refine Runs.ret e2 (ah _ rfl (d9 _ _ rfl (by exact DX hfi q1) (by exact FB hfi q2) (by rw [List.length_map]; exact EO ht8) (fun r hr=>?_)))
          refine aN hr fun r' hr' G8=>?_
          (clear hr; subst G8)
          refine ae (h3 r' hr') fun q3 q4=>?_
          exact ⟨by rw [List.length_map]; exact EZ q3,q4.affine (by exact ED hfi) (by exact E8 hst)⟩
noncomputable def bD (one:List Int) (o x:Int):List Int:=fO (one.filter (fun y=>!decide (y=o)) ++ [x])
noncomputable def cF (t:List (List Int)) (one other:List Int) (x:Int):Bool:=one.any fun o=>!decide (o∈other) && decide (bD one o x∈t)
noncomputable def ew (c:Nat) (t:List (List Int)):Option (List Int × List Int × Int) :=
 t.findSome? fun one=>(aR c).findSome? fun x=>if x∈one then none else t.findSome? fun other=>if (decide (x∈other) && !cF t one other x)=true then some (one,other,x) else none
theorem ie {α:Type} (p:α→Bool) (l:List α):l.findSome? (fun x=>if p x=true then some () else none)=if l.any p=true then some () else none:=by
 induction l with
 | nil=>rfl
 | cons a l ih=>
    rw [List.findSome?_cons,List.any_cons]
    cases p a with
    | true=>rfl
    | false=>simpa using ih
theorem pA {C:Calls}{σ:St}{c:List Int}{o t:Int}{m:Mode}{a b d:E}{z:String}{l:List (String × V)} (H:Has σ l) (hz:z ≠ "x") (ha:ev C a σ = .ok (.d (aa c),m)) (hd:ev C d σ = .ok (sI t)) (hb:∀ i:Int,ev C b (upd σ z (sI i)) = .ok (sI o)) (h:c.length<63) :
    ev C (.bi1 .sorted (.bin .add (.compif (.name z) z (.e a) (.cmp .ne (.name z) b)) (.list (.cons d .nil)))) σ = .ok (.d (aa (bD c o t)),.deep):=by
 have hl:(c.filter fun x=>!decide (x=o)).length≤c.length:=List.length_filter_le ..
 refine tY (f8 (iT (fun i=>!decide (i=o)) (aG ha (cr c m)) fun i _=>jG (rG (p:=sI i) (if_pos rfl) rfl) (hb i)) (il hd) (by rw [List.length_singleton]; exact E3 h hl)) ?_
 rw [List.length_append,List.length_singleton]; exact D0 h hl
theorem ly (C:Calls) (c:List Int) (o t:Int) (h:c.length<63):aB C p_exchanged [.d (aa c),.d (.int o),.d (.int t)] = .ok (.d (aa (bD c o t)),.deep):=by
 unfold p_exchanged
 exact cI rfl fun σ H=>Runs.ret (pA H (by decide) (H.ev rfl) (H.ev rfl) (fun i=>(H.upd "one" (.d (.int i)) .deep).ev rfl) h) rfl
theorem vV (C:Calls) (t:List (List Int)) (one other:List Int) (x:Int) (h:one.length<63):aB C l_can [.d (af t),.d (aa one),.d (aa other),.d (.int x)] = .ok (sB (cF t one other x)):=by
 unfold l_can cF
 refine cI rfl fun σ H=>?_
 refine Runs.seek (g:=PyData.int) (xs:=one) (fun σ=>Has σ [("_law_table_here", .d (af t)),("_law_one", .d (aa one)),("_law_other", .d (aa other)),("_law_thing", .d (.int x))]) (fun o=>if (!decide (o∈other) && decide (bD one o x∈t))=true then some () else none) (fun uu=>sB true) (aG (H.ev rfl) (cr one .sh)) (fun σ0 h _=>(h _ H).sub (cf rfl rfl rfl rfl trivial)) (fun o ho σ H=>?_) (fun q σ' _=>?_) fun uu q σ'=>?_
 ·  have H1:=H.mk "_law_out" (.d (.int o))
    refine Runs.set H1 (pA H1 (by decide) (H1.ev rfl) (H1.ev rfl) (fun i=>(H1.upd "_law_left" (.d (.int i)) .deep).ev rfl) h) fun σ H2 _=>?_
    refine Runs.ite (gO (jj (H2.ev rfl) (H2.ev rfl)) fun uu=>AW (H2.ev rfl) (H2.ev rfl)) (fun q=>Runs.ret (dw true) ?_) fun q=>Runs.nil (Runs.nil ?_)
    · exact Cont.ret (Sk.ret (q:=()) (if_pos q))
    · exact Sk.next (if_neg (by rw [q]; decide)) (H2.sub (cf rfl rfl rfl rfl trivial))
 ·  rw [ie] at q
    refine Runs.ret (dw false) ?_
    by_cases e:(one.any fun o=>!decide (o∈other) && decide (bD one o x∈t))=true
    · rw [if_pos e] at q; cases q
    · rw [Bool.eq_false_iff.mpr e]
 ·  rw [ie] at q
    by_cases e:(one.any fun o=>!decide (o∈other) && decide (bD one o x∈t))=true
    · rw [e]
    · rw [if_neg e] at q; cases q
theorem pe {L:List (String × Fn)} (lib:Lib L) (n:Nat) (c:Nat) (t:List (List Int)) (hc:c≤1000) (h:∀ r∈t,r.length<63):aB (mkC L (n + 1)) l_fault [.d (.int c),.d (af t)] = .ok (match ew c t with | none=>(.d .none,.deep) | some (a,b,x)=>(.d (.tuple [aa a,aa b,.int x]),.sh)):=by
 unfold l_fault ew
 refine cI rfl fun σ H=>?_
 let rv:List Int × List Int × Int→V × Mode:=fun q=>(.d (.tuple [aa q.1,aa q.2.1,.int q.2.2]),.sh)
 let Inv:St→Prop:=fun σ=>Has σ [("_law_table_here", .d (af t)),("_law_count", .d (.int c))]
 refine Runs.seek (g:=aa) (xs:=t) Inv (fun one=>(aR c).findSome? fun x=>if x∈one then none else t.findSome? fun other=>if (decide (x∈other) && !cF t one other x)=true then some (one,other,x) else none) rv (aG (H.ev rfl) (aH t .sh)) (fun σ0 h _=>(h _ H).sub ⟨rfl,rfl,trivial⟩) (fun one hone σ H=>?_) (fun q σ' _=>?_) fun q hq σ'=>?_
 ·  have H1:=H.mk "_law_one" (.d (aa one))
    refine Runs.seek (g:=PyData.int) (xs:=aR c) (fun σ=>Has σ [("_law_table_here", .d (af t)),("_law_count", .d (.int c)),("_law_one", .d (aa one))]) (fun x=>if x∈one then none else t.findSome? fun other=>if (decide (x∈other) && !cF t one other x)=true then some (one,other,x) else none) rv (bQ (H1.ev rfl) (by exact ny hc)) (fun σ0 h _=>(h _ H1).sub (bx rfl rfl rfl trivial)) (fun x hx σ H=>?_) (fun q σ' H=>Runs.nil ?_) fun q hq σ'=>?_
    · have H2:=H.mk "_law_thing" (.d (.int x))
      refine Runs.ite (jj (H2.ev rfl) (H2.ev rfl)) (fun q=>?_) fun q=>Runs.nil (Runs.nil ?_)
      · have hx':x∉one:=by simpa using q
        refine Runs.seek (g:=aa) (xs:=t) (fun σ=>Has σ [("_law_table_here", .d (af t)),("_law_count", .d (.int c)),("_law_one", .d (aa one)),("_law_thing", .d (.int x))]) (fun other=>if (decide (x∈other) && !cF t one other x)=true then some (one,other,x) else none) rv (aG (H2.ev rfl) (aH t .sh)) (fun σ0 h _=>(h _ H2).sub (cf rfl rfl rfl rfl trivial)) (fun other ho σ H=>?_) (fun q σ' H=>Runs.nil (Runs.nil ?_)) fun q hq σ'=>?_
        · have H3:=H.mk "_law_other" (.d (aa other))
          refine Runs.ite (gO (nZ (H3.ev rfl) (H3.ev rfl)) fun uu=>bZ (bk lib.can (ai (H3.ev rfl) (ai (H3.ev rfl) (ai (H3.ev rfl) (ai (H3.ev rfl) aw)))) rfl (vV _ t one other x (h one hone)))) (fun q=>?_) fun q=>Runs.nil (Runs.nil ?_)
          · have e3:ev (mkC L (n + 1)) (.tup (.cons (.name "_law_one") (.cons (.name "_law_other") (.cons (.name "_law_thing") .nil)))) (upd σ "_law_other" (mk (.d (aa other)))) = .ok (rv (one,other,x)):=by
              exact sk (m1:=.sh) (m2:=.sh) (m3:=.deep) (H3.ev rfl) (H3.ev rfl) (H3.ev rfl)
            exact Runs.ret e3 (Cont.ret (Sk.ret (q:=(one,other,x)) (if_pos q)))
          · exact Sk.next (if_neg (by rw [q]; decide)) (H3.sub (cf rfl rfl rfl rfl trivial))
        · exact Sk.next ((if_neg hx').trans q) (H.sub (bx rfl rfl rfl trivial))
        · exact Cont.ret (Sk.ret ((if_neg hx').trans hq))
      · have hx':x∈one:=by simpa using q
        exact Sk.next (if_pos hx') (H2.sub (bx rfl rfl rfl trivial))
    · exact Sk.next q (H.sub ⟨rfl,rfl,trivial⟩)
    · exact Sk.ret hq
 ·  rw [q]; exact Runs.ret iK rfl
 ·  rw [hq]
def Kn (pre:List (List Int)) (v:V):Prop:=(pre=[]∧v = .dic0)∨∃ ks,v = .dicT ks∧ks.length≤pre.length∧(∀ k,k∈ks↔k∈pre)∧ks.Nodup
theorem gW (r:List Int):dg (aJ r)=some r:=cW r
theorem Kn.add {pre:List (List Int)}{v:V}{σ:St}{z:String} (K:Kn pre v) (r:List Int) (hl:pre.length≤1000):∃ v',fg σ z v (aJ r) = .ok (upd σ z (v',.deep),.next)∧Kn (pre ++ [r]) v':=by
 rcases K with ⟨rfl,rfl⟩ | ⟨ks,rfl,h1,h2,h3⟩
 ·  refine (ah (.dicT [r]) ?_ (.inr (ba ([r]) rfl (Nat.le_refl _) (fun k=>Iff.rfl) (by simp))))
    simp only [fg,gW,show dJ (aJ r)=none from rfl]
 ·  refine (ah (.dicT (if r∈ks then ks else ks ++ [r])) ?_ (.inr (ba _ rfl ?_ (fun k=>?_) ?_)))
    · show (match dg (aJ r) with | some i=>if ks.length≤lim then Out.ok (upd σ z (V.dicT (if i∈ks then ks else ks ++ [i]),Mode.deep),Flw.next) else .bad | none=>.bad)=_
      rw [gW]
      show (if ks.length≤lim then _ else _)=_
      rw [if_pos (by unfold lim; exact zP hl h1)]
    · rw [List.length_append,List.length_singleton]
      by_cases e:r∈ks
      · rw [if_pos e]; exact mM h1
      · rw [if_neg e,List.length_append,List.length_singleton]; exact mG h1
    · by_cases e:r∈ks
      · rw [if_pos e,h2,List.mem_append,List.mem_singleton]
        exact ⟨.inl,fun q=>q.elim id fun q=>q▸(h2 r).mp e⟩
      · rw [if_neg e,List.mem_append,List.mem_append,h2]
    · by_cases e:r∈ks
      · rw [if_pos e]; exact h3
      · rw [if_neg e]; exact List.nodup_append.mpr ⟨h3,by simp,fun a ha b hb q=>e (by rw [List.mem_singleton.mp hb] at q; exact q▸ha)⟩
theorem km (C:Calls) (t:List (List Int)) (hl:t.length≤1000):∃ r,aB C p_known_of [.d (af t)] = .ok r∧∃ v,r=(v,.deep)∧Kn t v:=by
 unfold p_known_of
 refine b0 rfl fun σ H=>?_
 refine Runs.set H sr fun σ H hσ=>?_
 refine Runs.for (g:=aa) (xs:=t) (fun pre σ=>∃ v,σ "known" = some (v,.deep)∧Kn pre v) (aG (H.ev rfl) (aH t .sh)) (fun σ0 _ hh=>(ah .dic0 ((hh _ (by simp [jn,d7])).trans hσ) (.inl ⟨rfl,rfl⟩))) ?_ ?_
 ·  intro pre y post hl' σ G2
    refine ag (G2) fun v hv K=>?_
    try clear G2
    have hp:pre.length<t.length:=by rw [hl',List.length_append,List.length_cons]; exact uj
    refine ag (K.add (σ:=upd σ "choice" (mk (.d (aa y)))) (z := "known") y (by exact B3 hl hp)) fun v' h1 h2=>?_
    have hv':upd σ "choice" (mk (.d (aa y))) "known" = some (v,.deep):=(if_neg (by decide)).trans hv
    refine Runs.next (σ':=upd (upd σ "choice" (mk (.d (aa y)))) "known" (v',.deep)) ?_ (Runs.nil (ah v' (fj _ _ _) h2))
    simp only [cB,pW (C:=C) (rG (C:=C) (σ:=upd σ "choice" (mk (.d (aa y)))) (z := "choice") (p:=(.d (aa y),.sh)) (if_pos rfl) rfl),Out.ok_bind,hv']
    exact h1
 ·  intro σ' GU
    refine ag (GU) fun v hv K=>?_
    try clear GU
    exact Runs.retn hv (ah _ rfl (ah v rfl K))
theorem td {L:List (String × Fn)} (lib:Lib L) (n:Nat) (t:List (List Int)) (v:V) (K:Kn t v) (one other:List Int) (x:Int) (ht:t≠[]) (h:one.length<63):aB (mkC L (n + 1)) p_goes [v,.d (aa one),.d (aa other),.d (.int x)] = .ok (sB (cF t one other x)):=by
 rcases K with ⟨q,_⟩ | ⟨ks,rfl,_,hk,_⟩
 ·  exact absurd q ht
 unfold p_goes cF
 refine cI rfl fun σ H=>?_
 refine Runs.seek (g:=PyData.int) (xs:=one) (fun σ=>Has σ [("known", .dicT ks),("one", .d (aa one)),("other", .d (aa other)),("thing", .d (.int x))]) (fun o=>if (!decide (o∈other) && decide (bD one o x∈t))=true then some () else none) (fun uu=>sB true) (aG (H.ev rfl) (cr one .sh)) (fun σ0 h _=>(h _ H).sub (cf rfl rfl rfl rfl trivial)) (fun o ho σ H=>?_) (fun q σ' _=>?_) fun uu q σ'=>?_
 ·  have H1:=H.mk "out" (.d (.int o))
    have e1:ev (mkC L (n + 1)) (.cmp .isin (.bi1 .tuple (.call "exchanged" (.cons (.name "one") (.cons (.name "out") (.cons (.name "thing") .nil))))) (.name "known")) (upd σ "out" (mk (.d (.int o)))) = .ok (sB (decide (bD one o x∈t))):=by
      refine bq (pW (bk lib.exch (ai (H1.ev rfl) (ai (H1.ev rfl) (ai (H1.ev rfl) aw))) rfl (ly _ one o x h))) (H1.ev (x := "known") rfl) ?_
      show (av (dg (aJ (bD one o x))) fun i=>Out.ok (decide (i∈ks)))=_
      rw [gW]
      exact congrArg Out.ok (decide_eq_decide.mpr (hk _))
    refine Runs.ite (gO (jj (H1.ev rfl) (H1.ev rfl)) fun uu=>e1) (fun q=>Runs.ret (dw true) (Cont.ret (Sk.ret (q:=()) (if_pos q)))) fun q=>Runs.nil (Runs.nil (Sk.next (if_neg (by rw [q]; decide)) (H1.sub (cf rfl rfl rfl rfl trivial))))
 ·  rw [ie] at q
    refine Runs.ret (dw false) ?_
    by_cases e:(one.any fun o=>!decide (o∈other) && decide (bD one o x∈t))=true
    · rw [if_pos e] at q; cases q
    · rw [Bool.eq_false_iff.mpr e]
 ·  rw [ie] at q
    by_cases e:(one.any fun o=>!decide (o∈other) && decide (bD one o x∈t))=true
    · rw [e]
    · rw [if_neg e] at q; cases q
noncomputable def rl:Option (List Int × List Int × Int)→V × Mode
 | none=>(.d .none,.deep)
 | some q=>(.d (.tuple [aa q.1,aa q.2.1,.int q.2.2]),.deep)
theorem qF {L:List (String × Fn)} (lib:Lib L) (n:Nat) (c:Nat) (t:List (List Int)) (hc:c≤1000) (hl:t.length≤1000) (h:∀ one∈t,∀ other∈t,∀ x∈other,x∉one→one.length<63):aB (mkC L (n + 2)) p_fault [.d (.int c),.d (af t)] = .ok (rl (ew c t)):=by
 unfold p_fault ew
 refine cI rfl fun σ H=>?_
 obtain ⟨_,e0,v,Hj,K⟩:=c7 (σ:=σ) (n:=n + 1) lib.known (es:=.cons (.name "table") .nil) (ai (H.ev rfl) aw) rfl (km _ t hl)
 subst Hj
 refine Runs.set H e0 fun σ H _=>?_
 refine Runs.seek (g:=aa) (xs:=t) (fun σ=>Has σ [("table", .d (af t)),("count", .d (.int c)),("known", v)]) (fun one=>(aR c).findSome? fun x=>if x∈one then none else t.findSome? fun other=>if (decide (x∈other) && !cF t one other x)=true then some (one,other,x) else none) (fun q=>rl (some q)) (aG (H.ev rfl) (aH t .sh)) (fun σ0 h _=>(h _ H).sub (bx rfl rfl rfl trivial)) (fun one hone σ H=>?_) (fun q σ' _=>?_) fun q hq σ'=>?_
 ·  have H1:=H.mk "one" (.d (aa one))
    refine Runs.seek (g:=PyData.int) (xs:=aR c) (fun σ=>Has σ [("table", .d (af t)),("count", .d (.int c)),("known", v),("one", .d (aa one))]) (fun x=>if x∈one then none else t.findSome? fun other=>if (decide (x∈other) && !cF t one other x)=true then some (one,other,x) else none) (fun q=>rl (some q)) (bQ (H1.ev rfl) (by exact ny hc)) (fun σ0 h _=>(h _ H1).sub (cf rfl rfl rfl rfl trivial)) (fun x hx σ H=>?_) (fun q σ' H=>Runs.nil ?_) fun q hq σ'=>?_
    · have H2:=H.mk "thing" (.d (.int x))
      refine Runs.ite (jj (H2.ev rfl) (H2.ev rfl)) (fun q=>?_) fun q=>Runs.nil (Runs.nil ?_)
      · have hx':x∉one:=by simpa using q
        refine Runs.seek (g:=aa) (xs:=t) (fun σ=>Has σ [("table", .d (af t)),("count", .d (.int c)),("known", v),("one", .d (aa one)),("thing", .d (.int x))]) (fun other=>if (decide (x∈other) && !cF t one other x)=true then some (one,other,x) else none) (fun q=>rl (some q)) (aG (H2.ev rfl) (aH t .sh)) (fun σ0 h _=>(h _ H2).sub (c8 rfl rfl rfl rfl rfl trivial)) (fun other ho σ H=>?_) (fun q σ' H=>Runs.nil (Runs.nil ?_)) fun q hq σ'=>?_
        · have H3:=H.mk "other" (.d (aa other))
          refine Runs.ite (gO (nZ (H3.ev rfl) (H3.ev rfl)) fun hp=>bZ (bk lib.goes (ai (H3.ev rfl) (ai (H3.ev rfl) (ai (H3.ev rfl) (ai (H3.ev rfl) aw)))) rfl (td lib n t v K one other x (List.ne_nil_of_mem hone) (h one hone other ho x (of_decide_eq_true hp) hx')))) (fun q=>?_) fun q=>Runs.nil (Runs.nil ?_)
          · exact Runs.ret (sk (s8 (H3.ev rfl)) (s8 (H3.ev rfl)) (H3.ev rfl)) (Cont.ret (Sk.ret (q:=(one,other,x)) (if_pos q)))
          · exact Sk.next (if_neg (by rw [q]; decide)) (H3.sub (c8 rfl rfl rfl rfl rfl trivial))
        · exact Sk.next ((if_neg hx').trans q) (H.sub (cf rfl rfl rfl rfl trivial))
        · exact Cont.ret (Sk.ret ((if_neg hx').trans hq))
      · have hx':x∈one:=by simpa using q
        exact Sk.next (if_pos hx') (H2.sub (cf rfl rfl rfl rfl trivial))
    · exact Sk.next q (H.sub (bx rfl rfl rfl trivial))
    · exact Sk.ret hq
 ·  rw [q]; exact Runs.ret iK rfl
 ·  rw [hq]
end Mine
namespace Mine
open PySem
noncomputable def p_need_row:Fn:=⟨["count", "things"],
 (.cons (.assign "seen" .edic)
 (.cons (.for1 "thing" (.e (.name "things"))
 (.cons (.ite (.or (.cmp .lt (.name "thing") (.int 0)) (.or (.cmp .ge (.name "thing") (.name "count")) (.cmp .isin (.name "thing") (.name "seen"))))
 (.cons (.raise "NoThing")
 .nil)
 .nil)
 (.cons (.setitem "seen" (.name "thing"))
 .nil)))
 .nil))⟩
noncomputable def hW:Ss:=(.cons (.ite (.or (.cmp .lt (.name "thing") (.int 0)) (.or (.cmp .ge (.name "thing") (.name "count")) (.cmp .isin (.name "thing") (.name "seen"))))
 (.cons (.raise "NoThing")
 .nil)
 .nil)
 (.cons (.setitem "seen" (.name "thing"))
 .nil))
def iR (c:Int) (xs:List Int):Prop:=(∀ x∈xs,0≤x∧x<c)∧xs.Nodup
def Sn (pre:List Int) (v:V):Prop:=(pre=[]∧v = .dic0)∨∃ ks,v = .dicI ks∧ks.length≤pre.length∧∀ k,k∈ks↔k∈pre
theorem Sn.has {pre:List Int}{v:V} (K:Sn pre v) (x:Int):b9 .isin (.d (.int x)) v = .ok (decide (x∈pre)):=by
 rcases K with ⟨rfl,rfl⟩ | ⟨ks,rfl,h1,h2⟩
 ·  rfl
 ·  show Out.ok (decide (x∈ks))=_
    rw [decide_eq_decide.mpr (h2 x)]
theorem Sn.add {pre:List Int}{v:V}{σ:St}{z:String} (K:Sn pre v) (x:Int) (hl:pre.length≤1000):∃ v',fg σ z v (.int x) = .ok (upd σ z (v',.deep),.next)∧Sn (pre ++ [x]) v':=by
 rcases K with ⟨rfl,rfl⟩ | ⟨ks,rfl,h1,h2⟩
 ·  exact (ah (.dicI [x]) rfl (.inr (ax ([x]) rfl (Nat.le_refl _) (fun k=>Iff.rfl))))
 ·  refine (ah (.dicI (if x∈ks then ks else ks ++ [x])) ?_ (.inr (ax _ rfl ?_ (fun k=>?_))))
    · show (if ks.length≤lim then _ else _)=_
      rw [if_pos (by unfold lim; exact zP hl h1)]
    · rw [List.length_append,List.length_singleton]
      by_cases e:x∈ks
      · rw [if_pos e]; exact mM h1
      · rw [if_neg e,List.length_append,List.length_singleton]; exact mG h1
    · by_cases e:x∈ks
      · rw [if_pos e,h2,List.mem_append,List.mem_singleton]
        exact ⟨.inl,fun q=>q.elim id fun q=>q▸(h2 x).mp e⟩
      · rw [if_neg e,List.mem_append,List.mem_append,h2]
theorem lI {C:Calls}{g:List V→Out (V × Mode)} (hC:C "NoThing" = some g) (c:Int):∀ (xs pre:List Int) (σ:St) (v:V),Has σ [("count", .d (.int c))]→σ "seen" = some (v,.deep)→Sn pre v→iR c pre→pre.length + xs.length≤1000 →
    (iR c (pre ++ xs)→∃ σ',cK (fun y σ=>exs C hW (upd σ "thing" (mk (.d y)))) (xs.map .int) σ = .ok (σ',.next))∧(¬ iR c (pre ++ xs)→cK (fun y σ=>exs C hW (upd σ "thing" (mk (.d y)))) (xs.map .int) σ = .exc "NoThing")
 | [],pre,σ,v,H,hs,K,hg,hl=>by
    rw [List.append_nil]
    exact ⟨fun uu=>⟨σ,rfl⟩,fun q=>absurd hg q⟩
 | x :: xs,pre,σ,v,H,hs,K,hg,hl=>by
    have H1:Has (upd σ "thing" (mk (.d (.int x)))) [("thing", .d (.int x)),("count", .d (.int c))]:=H.mk "thing" (.d (.int x))
    have hs1:upd σ "thing" (mk (.d (.int x))) "seen" = some (v,.deep):=(if_neg (by decide)).trans hs
    have et:=H1.ev (C:=C) (x := "thing") rfl
    have e2:ev C (.cmp .isin (.name "thing") (.name "seen")) (upd σ "thing" (mk (.d (.int x)))) = .ok (sB (decide (x∈pre))):=bq et (by simp only [c9,hs1]; rfl) (K.has x)
    have ec:ev C (.or (.cmp .lt (.name "thing") (.int 0)) (.or (.cmp .ge (.name "thing") (.name "count")) (.cmp .isin (.name "thing") (.name "seen")))) (upd σ "thing" (mk (.d (.int x)))) = .ok (sB (decide (x<0) || (decide (c≤x) || decide (x∈pre)))) :=
      d6 (jP et (al 0)) fun uu=>d6 (y3 et (H1.ev rfl)) fun uu=>e2
    simp only [List.map_cons,cK]
    by_cases bad:x<0∨c≤x∨x∈pre
    · have eb:(decide (x<0) || (decide (c≤x) || decide (x∈pre)))=true:=by simpa using bad
      rw [eb] at ec
      have ng:¬ iR c (pre ++ x :: xs):=fun ⟨h1,h2⟩=>by
        have hx:=h1 x (by simp)
        rcases bad with q | q | q
        · exact CZ hx q
        · exact DA hx q
        · exact (List.nodup_append.mp h2).2.2 x q x (.head _) rfl
      have er:exs C hW (upd σ "thing" (mk (.d (.int x)))) = .exc "NoThing" := by
        unfold hW
        simp only [da,bP]
        rw [lg ec]
        simp only [da,bP,cB,eu,hC,av]
        rfl
      refine ⟨fun q=>absurd q ng,fun uu=>?_⟩
      rw [er]; rfl
    · have eb:(decide (x<0) || (decide (c≤x) || decide (x∈pre)))=false:=by simpa using bad
      rw [eb] at ec
      obtain ⟨v',e4,K'⟩:=K.add (σ:=upd σ "thing" (mk (.d (.int x)))) (z := "seen") x (by rw [List.length_cons] at hl; exact qI hl)
      have er:exs C hW (upd σ "thing" (mk (.d (.int x)))) = .ok (upd (upd σ "thing" (mk (.d (.int x)))) "seen" (v',.deep),.next):=by
        unfold hW
        rw [ic ((iU ec).trans gH)]
        refine (ic (σ':=upd (upd σ "thing" (mk (.d (.int x)))) "seen" (v',.deep)) ?_).trans gH
        simp only [cB,et,Out.calm_ok,Out.ok_bind,hs1]
        exact e4
      have hg':iR c (pre ++ [x]):=by
        refine ⟨fun y hy=>?_,List.nodup_append.mpr ⟨hg.2,by simp,fun a ha b hb q=>?_⟩⟩
        · rcases List.mem_append.mp hy with h | h
          · exact hg.1 y h
          · rw [List.mem_singleton.mp h]; exact CG bad
        · rw [List.mem_singleton.mp hb] at q; (clear H1 K' e2 e4 eb er et hb hl hs1; subst q); exact bad (.inr (.inr ha))
      have ih:=lI hC c xs (pre ++ [x]) (upd (upd σ "thing" (mk (.d (.int x)))) "seen" (v',.deep)) v' ((H1.upd "seen" v' .deep).sub ⟨rfl,trivial⟩) (fj _ _ _) K' hg' (by rw [List.length_append,List.length_singleton]; rw [List.length_cons] at hl; exact Aq hl)
      rw [List.append_assoc] at ih
      rw [er]
      exact ih
theorem mD {C:Calls}{g:List V→Out (V × Mode)} (hC:C "NoThing" = some g) (c:Int) (xs:List Int) (hl:xs.length≤1000) :
    (iR c xs→aB C p_need_row [.d (.int c),.d (aa xs)] = .ok (.d .none,.deep))∧(¬ iR c xs→aB C p_need_row [.d (.int c),.d (aa xs)] = .exc "NoThing"):=by
 refine ag (dl ["count", "things"] [.d (.int c),.d (aa xs)] rfl) fun σ hσ H=>?_
 have hb:bz p_need_row.params [.d (.int c),.d (aa xs)]=some σ:=hσ
 have e1:ex C (.assign "seen" .edic) σ = .ok (upd σ "seen" (.dic0,.deep),.next):=by
    simp only [cw]
    rw [jV (sr (C:=C) (σ:=σ))]
    rfl
 have H1:Has (upd σ "seen" (.dic0,.deep)) [("seen", .dic0),("count", .d (.int c)),("things", .d (aa xs))]:=H.upd "seen" .dic0 .deep
 have hit:=aG (C:=C) (H1.ev (C:=C) (x := "things") rfl) (cr xs .sh)
 refine ae (lI hC c xs [] (consume (upd σ "seen" (.dic0,.deep)) (bI (.e (.name "things"))) .sh) .dic0 ((H1.sub (l':=[("count", .d (.int c))]) ⟨rfl,trivial⟩).consume _ _) ((fZ.2 "seen" (by simp [jn,d7])).trans (fj _ _ _)) (.inl ⟨rfl,rfl⟩) ⟨fun uu h=>(nomatch h),.nil⟩ (by simpa using hl)) fun l1 l2=>?_
 have e2:exs C p_need_row.body σ=(cK (fun y σ=>exs C hW (upd σ "thing" (mk (.d y)))) (xs.map .int) (consume (upd σ "seen" (.dic0,.deep)) (bI (.e (.name "things"))) .sh)).bind fun q=>match q.2 with | .next=>exs C .nil q.1 | .ret v=>.ok (q.1,.ret v):=by
    show exs C (.cons (.assign "seen" .edic) _) σ=_
    rw [ic e1]
    simp only [da,bP,cB,gd,g8,eu,hit,Out.ok_bind]
    rfl
 refine ⟨fun q=>?_,fun q=>?_⟩
 ·  refine aj (l1 q) fun σ' l1=>?_
    rw [l1] at e2
    unfold aB
    rw [hb]
    dsimp only
    rw [e2]
    simp only [Out.ok_bind,gH]
 ·  rw [l2 q] at e2
    unfold aB
    rw [hb]
    dsimp only
    rw [e2]
    rfl
end Mine
namespace Mine
open PySem
def NoF (c:Nat) (t:List (List Int)):Prop:=∀ one∈t,∀ x∈aR c,x∉one→∀ other∈t,x∈other→cF t one other x=true
theorem fault_none {c:Nat}{t:List (List Int)}:ew c t=none↔NoF c t:=by
 unfold ew NoF
 rw [List.findSome?_eq_none_iff]
 refine forall_congr' fun one=>imp_congr_right fun uu=>?_
 rw [List.findSome?_eq_none_iff]
 refine forall_congr' fun x=>imp_congr_right fun uu=>?_
 by_cases hx:x∈one
 ·  simp [hx]
 ·  rw [if_neg hx,List.findSome?_eq_none_iff]
    refine ⟨fun h _ other ho hxo=>?_,fun h other ho=>?_⟩
    · have:=h other ho
      cases hc:cF t one other x with
      | true=>rfl
      | false=>rw [if_pos (by simp [hxo,hc])] at this; cases this
    · by_cases hxo:x∈other
      · rw [if_neg (by simp [h hx other ho hxo])]
      · rw [if_neg (by simp [hxo])]
theorem ur {t u:List (List Int)} (h:∀ r,r∈t↔r∈u) (one other:List Int) (x:Int):cF t one other x=cF u one other x:=by
 unfold cF
 congr 1
 funext o
 rw [decide_eq_decide.mpr (h (bD one o x))]
theorem NoF.set {c:Nat}{t u:List (List Int)} (n:NoF c t) (h:∀ r,r∈t↔r∈u):NoF c u:=fun one ho x hx hn other hot hxo=>by
 rw [← ur h]
 exact n one ((h one).mpr ho) x hx hn other ((h other).mpr hot) hxo
theorem NoF.empty {c:Nat}{t:List (List Int)} (n:NoF c t) (hr:∀ r∈t,Srt c r) (h:[]∈t):∀ r∈t,r=[]:=fun r hr'=>by
 cases r with
 | nil=>rfl
 | cons x r=>
    have hx:=(hr _ hr').2 x (.head _)
    have:=n [] h x (mem_upTo.mpr hx) (fun q=>nomatch q) _ hr' (.head _)
    cases this
theorem NoF.one (c:Nat) (r:List Int):NoF c [r]:=fun one ho x hx hn other hot hxo=>by
 rw [List.mem_singleton.mp ho] at hn
 rw [List.mem_singleton.mp hot] at hxo
 exact absurd hxo hn
end Mine
namespace Mine
open PySem
noncomputable def p_Rule:Fn:=⟨["count", "table"],
 (.cons (.ite (.cmp .eq (.bi1 .len (.name "table")) (.int 0))
 (.cons (.raise "NoChoice")
 .nil)
 .nil)
 (.cons (.for1 "choice" (.e (.name "table"))
 (.cons (.expr (.call "need_row" (.cons (.name "count") (.cons (.name "choice") .nil))))
 .nil))
 (.cons (.assign "known" (.call "known_of" (.cons (.comp (.bi1 .sorted (.name "choice")) "choice" (.e (.name "table"))) .nil)))
 (.cons (.assign "full" (.comp (.bi1 .list (.name "choice")) "choice" (.e (.bi1 .sorted (.bi1 .list (.name "known"))))))
 (.cons (.ite (.cmp .isnot (.call "fault" (.cons (.name "count") (.cons (.name "full") .nil))) .none)
 (.cons (.raise "NoExchange")
 .nil)
 .nil)
 .nil)))))⟩
structure LibR (L:List (String × Fn)):Prop extends Lib L where
 need:L.lookup "need_row" = some p_need_row
 rule:L.lookup "Rule" = some p_Rule
 nth:∃ f,L.lookup "NoThing" = some f
theorem mW {L:List (String × Fn)}{n:Nat}{σ:St}{f:String}{fn:Fn}{es:Es}{q:List (V × Mode)}{vs:List V}{r:V × Mode} (hL:L.lookup f=some fn) (he:evs (bL (mkC L (n + 1))) es σ = .ok q) (hv:q.map (·.1)=vs) (h:aB (mkC L n) fn vs = .ok r) (hp:gj f=true:=by decide) (hl:f ≠ "law" := by decide):ev (bL (mkC L (n + 1))) (.call f es) σ = .ok r:=by
 have hC:bL (mkC L (n + 1)) f=some fun vs=>cT f (mkC L n) fn vs:=by
    unfold bL
    rw [if_neg hl]
    show (L.lookup f).map _=_; rw [hL]; rfl
 rw [iW hC he,hv,lj hp,h]
theorem Srt.good {c:Int}{r:List Int} (h:Srt c r):iR c r:=⟨h.2,h.1.imp fun q e=>by rw [e] at q; exact Int.lt_irrefl _ q⟩
theorem jt:∀ ks:List (List Int),c0 (ks.map aJ)=some ks
 | []=>rfl
 | k :: ks=>by simp only [List.map_cons,c0,gW,jt ks,Option.bind_some,Option.map_some]
theorem pu {ks:List (List Int)} (h0:ks≠[]) (h64:ks.length<64) (hne:ks.length<2∨[]∉ks):∃ m,b1V .sorted (.d (.list (ks.map aJ))) = .ok (.d (.list ((aE ks).map aJ)),m):=by
 refine ⟨fresh ((aE ks).map aJ),?_⟩
 show cC (ks.map aJ)=_
 unfold cC
 have hi:aM (ks.map aJ)=none:=by
    cases ks with
    | nil=>exact absurd rfl h0
    | cons k ks=>rfl
 rw [if_pos (by rw [List.length_map]; exact h64),hi]
 show dP _=_
 unfold dP
 rw [jt]
 show (if ks.length<2∨[]∉ks then _ else _)=_
 rw [if_pos hne]
theorem uN (r:List Int):b1V .list (.d (aJ r)) = .ok (.d (aa r),.deep):=by
 show Out.ok (V.d (.list (r.map PyData.int)),fresh (r.map PyData.int))=_
 have:fresh (r.map PyData.int) = .deep:=by
    unfold fresh
    rw [if_pos]
    rw [List.all_map,List.all_eq_true]
    intro _ _; rfl
 rw [this]; rfl
theorem yH {t:List (List Int)}{a b:List Int} (h:t.length≤1) (ha:a∈t) (hb:b∈t):b=a:=by
 rcases t with _ | ⟨x,_ | ⟨y,t⟩⟩
 ·  cases ha
 ·  rw [List.mem_singleton.mp ha,List.mem_singleton.mp hb]
 ·  simp at h
theorem tP {L:List (String × Fn)} (lib:LibR L) (n:Nat) (c:Nat) (t:List (List Int)) (hc:c≤1000) (ht:t≠[]) (hl:t.length≤63) (hr:∀ r∈t,r.length≤100∧Srt c r) (h1:1<t.length→∀ r∈t,r.length≤60) (nf:NoF c t) :
    ∃ u x,cG (bL (mkC L (n + 3))) p_Rule [.d (.int c),.d (af t)] = .ok (.rule c (af u) (x:List Int).length,.deep)∧(∀ r,r∈u↔r∈t)∧u[0]? = some x∧∃ ks,u=aE ks∧ks.Nodup∧ks.length≤t.length:=by
 refine aj (lib.nth) fun nt hnt=>?_
 have hNT:mkC L (n + 2) "NoThing" = some fun vs=>cT "NoThing" (mkC L (n + 1)) nt vs:=by show (L.lookup "NoThing").map _=_; rw [hnt]; rfl
 have main:∀ σ,Has σ (["count", "table"].zip [V.d (.int c),V.d (af t)])→Runs (bL (mkC L (n + 3))) p_Rule.body σ (fun σ' fl=>fl = .next∧∃ u:List (List Int),Has σ' [("count", .d (.int c))]∧σ' "full" = some (.d (af u),.deep)∧(∀ r,r∈u↔r∈t)∧∃ ks,u=aE ks∧ks.Nodup∧ks.length≤t.length):=fun σ H=>by
    refine Runs.no ((cN (eB (H.ev (x := "table") rfl)) (al 0)).trans (by rw [decide_eq_false (fun q=>ht (List.eq_nil_of_length_eq_zero (by exact qQ q)))])) ?_
    refine Runs.for (g:=aa) (xs:=t) (fun pre σ=>Has σ [("count", .d (.int c)),("table", .d (af t))]) (aG (H.ev (x := "table") rfl) (aH t .sh)) (fun σ0 h _=>(h _ H).sub ⟨rfl,rfl,trivial⟩) ?_ ?_
    · rintro pre y post hl' σ H
      have hy:y∈t:=by rw [hl']; simp
      have H1:=H.mk "choice" (.d (aa y))
      refine Runs.expr H1 (mW lib.need (ai (H1.ev (x := "count") rfl) (ai (H1.ev (x := "choice") rfl) aw)) rfl ((mD hNT c y (by have:=(hr y hy).1; exact fF this)).1 (hr y hy).2.good)) fun σ' H' _=>Runs.nil (H'.sub ⟨rfl,rfl,trivial⟩)
    · rintro σ H
      obtain ⟨m1,e1,_,_⟩:=cA (C:=bL (mkC L (n + 3))) (σ:=σ) (g:=aa) (l:=t) (z := "choice") (it:=.e (.name "table")) (a:=.bi1 .sorted (.name "choice")) (fun r=>r) .deep (aG (H.ev rfl) (aH t .sh)) fun r hr'=>kK ((Has.nil.mk "choice" (.d (aa r))).ev rfl) (by have:=(hr r hr').1; exact xp this) (fun i hi=>((hr r hr').2.2 i hi).1) (hr r hr').2.1
      rw [List.map_id'] at e1
      obtain ⟨r,e2,v,FW,K⟩:=km (mkC L (n + 2)) t (by exact rJ hl)
      subst FW
      refine Runs.set H (mW lib.known (ai e1 aw) rfl e2) fun σ H hk=>?_
      rcases K with ⟨q,_⟩ | ⟨ks,rfl,k1,k2,k3⟩
      · exact absurd q ht
      have hne:ks.length<2∨[]∉ks:=by
        by_cases q:[]∈ks
        · left
          have all:=nf.empty (fun r hr'=>(hr r hr').2) ((k2 _).mp q)
          rcases ks with _ | ⟨a,_ | ⟨b,ks⟩⟩
          · simp
          · simp
          · have ha:=all a ((k2 a).mp (by simp))
            have hb:=all b ((k2 b).mp (by simp))
            (clear H e2 hk k1 k2 q; subst ha hb)
            simp at k3
        · exact .inr q
      have h0:ks≠[]:=fun q=>by
        refine aj (List.exists_mem_of_ne_nil t ht) fun a ha=>?_
        have:=(k2 a).mpr ha
        rw [q] at this; cases this
      have e3:ev (bL (mkC L (n + 3))) (.bi1 .list (.name "known")) σ = .ok (.d (.list (ks.map aJ)),fresh (ks.map aJ)):=by
        rw [dz (H.ev (x := "known") rfl)]
        show mO .list ks=_
        unfold mO
        rw [if_pos ⟨rfl,by unfold lim; exact CW hl k1⟩]
      refine aj (pu h0 (by exact wF hl k1) hne) fun m4 e4=>?_
      have e5:ev (bL (mkC L (n + 3))) (.bi1 .sorted (.bi1 .list (.name "known"))) σ = .ok (.d (.list ((aE ks).map aJ)),m4):=(dz e3).trans e4
      refine aq (cA (C:=bL (mkC L (n + 3))) (σ:=σ) (g:=aJ) (l:=aE ks) (z := "choice") (it:=.e (.bi1 .sorted (.bi1 .list (.name "known")))) (a:=.bi1 .list (.name "choice")) (fun r=>r) .deep (aG e5 rfl) fun r _=>(dz ((Has.nil.mk "choice" (.d (aJ r))).ev rfl)).trans (uN r)) fun m6 e6 hm6 _=>?_
      rw [List.map_id',hm6 rfl] at e6
      have mem:∀ r,r∈aE ks↔r∈t:=fun r=>((List.mergeSort_perm ks _).mem_iff).trans (k2 r)
      refine Runs.set H e6 fun σ H hf=>?_
      have ef:=qF lib.toLib n c (aE ks) hc (by have:=(List.mergeSort_perm ks (fun a b=>!ltL b a)).length_eq; show (aE ks).length≤_; unfold aE; exact Dh hl k1 this) fun r hr' o ho x hx hn=>by
        by_cases q:1<t.length
        · have:=h1 q r ((mem r).mp hr'); exact Ap this
        · exact absurd (yH (by exact C7 q) ((mem r).mp hr') ((mem o).mp ho)▸hx) hn
      rw [fault_none.mpr (nf.set fun r=>(mem r).symm)] at ef
      refine Runs.no (bq (t:=false) (mW lib.fault (ai (H.ev (x := "count") rfl) (ai (H.ev (x := "full") rfl) aw)) rfl ef) iK rfl) ?_
      exact Runs.nil (aF rfl (ba (aE ks) (H.sub ⟨rfl,trivial⟩) hf mem (ax ks rfl k3 k1)))
 refine ag (dl ["count", "table"] [V.d (.int c),V.d (af t)] rfl) fun σ hσ H=>?_
 obtain ⟨σ',fl,he,FX,u,H',hu,hm,hks⟩:=main σ H
 subst FX
 obtain ⟨x,hx⟩:∃ x,u[0]? = some x:=by
    cases u with
    | nil=>
      refine aj (List.exists_mem_of_ne_nil t ht) fun a ha=>?_
      have:=(hm a).mpr ha
      cases this
    | cons x u=>exact ⟨x,rfl⟩
 refine (aU u x ?_ hm hx hks)
 refine aj (H' "count" _ rfl) fun mc hcnt=>?_
 unfold cG
 rw [show bz p_Rule.params [V.d (.int c),V.d (af t)]=some σ from hσ]
 dsimp only
 rw [he]
 simp only [Out.ok_bind]
 unfold eA
 rw [hcnt,hu]
 show (av ((u.map aa)[0]?) _)=_
 rw [List.getElem?_map,hx]
 show Out.ok (V.rule c (.list (u.map aa)) ((x.map PyData.int).length:Int),Mode.deep)=_
 rw [List.length_map]
 rfl
end Mine
namespace Mine
open PySem
theorem gJ {C:Calls}{σ:St}{a:E}{g:List V→Out (V × Mode)}{c k:Int}{d:PyData}{m:Mode} (hC:C "Rule" = some g) (h:ev C a σ = .ok (.rule c d k,m)):ev C (.attr a "count") σ = .ok (sI c)∧ev C (.attr a "full") σ = .ok (mk (.d d))∧ev C (.attr a "size") σ = .ok (sI k):=by
 refine ⟨?_,?_,?_⟩ <;> (simp only [jF,hC,av,h,Out.ok_bind]; rfl)
structure LibT (L:List (String × Fn)):Prop extends LibR L where
end Mine
namespace Mine
open PySem
noncomputable def l_bit:Fn:=⟨["_law_cell", "_law_k"],
 (.cons (.for1 "_law_j" (.r1 (.name "_law_k"))
 (.cons (.assign "_law_cell" (.bin .fdiv (.name "_law_cell") (.int 2)))
 .nil))
 (.cons (.ret (.cmp .eq (.bin .mod (.name "_law_cell") (.int 2)) (.int 1)))
 .nil))⟩
noncomputable def l_held:Fn:=⟨["_law_script"],
 (.cons (.assign "_law_made" (.call "_law_table" (.cons (.name "_law_script") .nil)))
 (.cons (.ite (.or (.cmp .eq (.sub (.name "_law_made") (.int 1)) (.list .nil)) (.cmp .isnot (.call "_law_fault" (.cons (.sub (.name "_law_made") (.int 0)) (.cons (.sub (.name "_law_made") (.int 1)) .nil))) .none))
 (.cons (.ret (.tup (.cons (.sub (.name "_law_made") (.int 0)) (.cons (.list (.cons (.compif (.name "_law_thing") "_law_thing" (.r1 (.sub (.name "_law_made") (.int 0))) (.call "_law_bit" (.cons (.call "_law_cell_at" (.cons (.name "_law_script") (.cons (.int 2) .nil))) (.cons (.name "_law_thing") .nil)))) .nil)) .nil))))
 .nil)
 .nil)
 (.cons (.retn "_law_made")
 .nil)))⟩
structure LibH (L:List (String × Fn)):Prop extends Lib L where
 bit:L.lookup "_law_bit" = some l_bit
 held:L.lookup "_law_held" = some l_held
structure Hd (c:Nat) (t:List (List Int)):Prop where
 hc:c≤100
 ne:t≠[]
 len:t.length≤63
 rows:∀ r∈t,r.length≤100∧Srt c r
 few:1<t.length→∀ r∈t,r.length≤60
 nf:NoF c t
theorem vy (C:Calls) (x:Int) (k:Nat) (hk:k≤1000):∃ r,aB C l_bit [.d (.int x),.d (.int k)] = .ok r∧∃ b,r=sB b:=by
 unfold l_bit
 refine b0 rfl fun σ H=>?_
 refine Runs.for (g:=PyData.int) (xs:=aR k) (fun pre σ=>∃ y:Int,Has σ [("_law_cell", .d (.int y))]) (bQ (H.ev rfl) (by exact ny hk)) (fun σ0 h _=>⟨x,(h _ H).sub ⟨rfl,trivial⟩⟩) ?_ ?_
 ·  intro pre y post hl σ FW
    refine aj (FW) fun z H=>?_
    try clear FW
    have H1:=H.mk "_law_j" (.d (.int y))
    exact Runs.set H1 (eL (H1.ev rfl) (al 2) (by decide) (by decide)) fun σ H _=>Runs.nil ⟨_,H.sub ⟨rfl,trivial⟩⟩
 ·  intro σ FX
    refine aj (FX) fun z H=>?_
    try clear FX
    exact Runs.ret (cN (aX (H.ev rfl) (al 2) (by decide)) (al 1)) (ah _ rfl (bJ _ rfl))
theorem CE {C:Calls}{σ:St}{a b:E}{t u:List (List Int)}{m m':Mode} (ha:ev C a σ = .ok (.d (af t),m)) (hb:ev C b σ = .ok (.d (af u),m')):ev C (.cmp .eq a b) σ = .ok (sB (decide (t=u))):=bq ha hb (lx t u)
theorem zN {C:Calls}{σ:St}{a:E}{r:List Int}{m:Mode} (ha:ev C a σ = .ok (.d (aa r),m)):∃ m,ev C (.list (.cons a .nil)) σ = .ok (.d (af [r]),m):=by
 refine ⟨if allDeep [(.d (aa r),m)] then .deep else .top,?_⟩
 simp only [b7,br,bl,ha,Out.ok_bind]
 rfl
theorem sM {L:List (String × Fn)} (lib:LibH L) (n:Nat) (s:List Int) (hs:s.length≤63):∃ r,aB (mkC L (n + 4)) l_held [.d (aa s)] = .ok r∧∃ (c:Nat) (t:List (List Int)),r.1 = .d (.tuple [.int c,af t])∧Hd c t:=by
 unfold l_held
 refine b0 rfl fun σ H=>?_
 obtain ⟨FY,e1,c,t,hr,h0,h1,h2,h3⟩:=c7 (σ:=σ) (n:=n + 3) lib.table (es:=.cons (.name "_law_script") .nil) (ai (H.ev rfl) aw) rfl (ql lib.toLib n s hs)
 obtain ⟨rv,rm⟩:=FY
 cases hr
 obtain ⟨c,rfl⟩:∃ d:Nat,c=d:=⟨c.toNat,by exact BG h0⟩
 refine Runs.set H e1 fun σ H hσ=>?_
 have made:∀ {σ:St}{l:List (String × V)},Has σ l→l.lookup "_law_made" = some (.d (.tuple [.int c,af t]))→ev (mkC L (n + 4)) (.sub (.name "_law_made") (.int 0)) σ = .ok (sI c)∧ev (mkC L (n + 4)) (.sub (.name "_law_made") (.int 1)) σ = .ok (.d (af t),.sh):=fun H a=>⟨qE (m:=.sh) (H.ev a) (al 0),rt (m:=.sh) (H.ev a) (al 1)⟩
 refine ae (made H rfl) fun d1 d2=>?_
 have ef:=bk (σ:=σ) lib.lfault (ai d1 (ai d2 aw)) rfl (pe lib.toLib (n + 2) c t (by exact Co h1) fun r hr=>by have:=(h3 r hr).1; exact AH this)
 have en:ev (mkC L (n + 4)) (.cmp .isnot (.call "_law_fault" (.cons (.sub (.name "_law_made") (.int 0)) (.cons (.sub (.name "_law_made") (.int 1)) .nil))) .none) σ = .ok (sB (!decide (ew c t=none))):=by
    cases hf:ew c t with
    | none=>
      rw [hf] at ef
      exact bq ef iK rfl
    | some q=>
      rw [hf] at ef
      exact bq (mx:=.sh) ef iK rfl
 refine Runs.ite (d6 (CE d2 dR) fun uu=>en) (fun uu=>?_) fun q=>Runs.nil ?_
 ·  obtain ⟨p,hp⟩:=jz (l:=aR c) (Q:=fun i b=>ev (mkC L (n + 4)) (.call "_law_bit" (.cons (.call "_law_cell_at" (.cons (.name "_law_script") (.cons (.int 2) .nil))) (.cons (.name "_law_thing") .nil))) (upd σ "_law_thing" (sI i)) = .ok (sB b)) fun i hi=>by
      have H2:Has (upd σ "_law_thing" (sI i)) _:=H.upd "_law_thing" (.d (.int i)) .deep
      obtain ⟨i,rfl⟩:∃ d:Nat,i=d:=⟨i.toNat,by have:=mem_upTo.mp hi; exact BB this⟩
      obtain ⟨_,e1,b,rfl⟩:=c7 (n:=n + 3) lib.bit (es:=.cons (.call "_law_cell_at" (.cons (.name "_law_script") (.cons (.int 2) .nil))) (.cons (.name "_law_thing") .nil)) (ai (bX lib.toLib (H2.ev rfl) (al 2) (by decide)) (ai (H2.ev rfl) aw)) rfl (vy _ _ i (by have:=mem_upTo.mp hi; exact B4 h1 this))
      exact ⟨b,e1⟩
    refine aj (zN (iT (z := "_law_thing") p (bQ d1 (by exact DL h1)) hp)) fun m1 e3=>?_
    refine cq d1 e3 fun m2 e4=>?_
    have hl:((aR c).filter p).length≤100:=by
      have:=List.length_filter_le p (aR c)
      rw [bR] at this; exact Bp h1 this
    refine Runs.ret e4 ⟨_,rfl,c,_,rfl,by exact xw h1,by simp,by simp,fun r hr=>?_,fun q=>by simp at q,.one c _⟩
    rw [List.mem_singleton.mp hr]
    exact ⟨hl,(jx c).filter _,fun x hx=>mem_upTo.mp (List.mem_filter.mp hx).1⟩
 ·  refine aj (H "_law_made" _ rfl) fun m e=>?_
    refine ae (Bool.or_eq_false_iff.mp q) fun q1 q2=>?_
    refine Runs.retn e ⟨_,rfl,c,t,rfl,by exact xw h1,of_decide_eq_false q1,h2,fun r hr=>⟨by have:=(h3 r hr).1; exact BS this,(h3 r hr).2⟩,fun uu r hr=>by have:=(h3 r hr).1; exact Cg this,fault_none.mp ?_⟩
    simpa using q2
theorem qf {L:List (String × Fn)} (lib:LibR L) (n:Nat) {c:Nat}{t:List (List Int)} (h:Hd c t):∃ u x,cG (bL (mkC L (n + 3))) p_Rule [.d (.int c),.d (af t)] = .ok (.rule c (af u) (x:List Int).length,.deep)∧(∀ r,r∈u↔r∈t)∧u[0]? = some x∧∃ ks,u=aE ks∧ks.Nodup∧ks.length≤t.length :=
 tP lib n c t (by have:=h.hc; exact fF this) h.ne h.len h.rows h.few h.nf
theorem pV {L:List (String × Fn)} (lib:LibR L) {n:Nat}{σ:St}{es:Es}{q:List (V × Mode)}{vs:List V}{r:V × Mode} (he:evs (mkC L (n + 1)) es σ = .ok q) (hv:q.map (·.1)=vs) (h:cG (bL (mkC L n)) p_Rule vs = .ok r):ev (mkC L (n + 1)) (.call "Rule" es) σ = .ok r:=by
 have hC:mkC L (n + 1) "Rule" = some fun vs=>cT "Rule" (mkC L n) p_Rule vs:=by show (L.lookup "Rule").map _=_; rw [lib.rule]; rfl
 rw [iW hC he,hv]
 exact h
theorem Runs.tryX {C:Calls}{g:List V→Out (V × Mode)}{σ:St}{l:List (String × V)}{e h:E}{x c:String}{r:V × Mode}{bb:Ss}{Post:St→Flw→Prop} (H:Has σ l) (hC:C c=some g) (he:ev C e σ = .exc c) (hm:c∈aO) (hk:hOk h=true) (hv:ev noC h σ = .ok r) (k:∀ σ',Has σ' ((x,r.1) :: l)→Runs C bb σ' Post) :
    Runs C (.cons (.tryS (.expr e) [(c,[.asg x h])]) bb) σ Post:=by
 refine Runs.cons (o:=(upd (consume σ (fv h) r.2) x r,.next)) ?_ (k _ ((H.consume _ _).upd x r.1 r.2))
 simp only [dT,jO,he,Out.exc_bind,orH,qq,iE,hC,av,if_pos hm,true_or,exH,hk,hv,Out.calm_ok,Out.ok_bind,if_true]
end Mine
namespace Mine
open PySem
noncomputable def p_cut_out:Fn:=⟨["choice", "thing"],
 (.cons (.assign "made" (.list .nil))
 (.cons (.for1 "one" (.e (.name "choice"))
 (.cons (.ite (.cmp .lt (.name "one") (.name "thing"))
 (.cons (.append "made" (.name "one"))
 .nil)
 (.cons (.ite (.cmp .gt (.name "one") (.name "thing"))
 (.cons (.append "made" (.bin .sub (.name "one") (.int 1)))
 .nil)
 .nil)
 .nil))
 .nil))
 (.cons (.retn "made")
 .nil)))⟩
noncomputable def dn (x y:Int):Int:=if y<x then y else y - 1
noncomputable def up (x z:Int):Int:=if z<x then z else z + 1
theorem Bq (x z:Int):up x z≠x:=by unfold up; split <;> lia
theorem qo (x z:Int):dn x (up x z)=z:=by
 unfold dn up
 by_cases h:z<x
 ·  rw [if_pos h,if_pos h]
 ·  rw [if_neg h,if_neg (by exact Bb h)]; exact Ba
theorem ro {x y:Int} (h:y≠x):up x (dn x y)=y:=by
 unfold dn up
 by_cases h1:y<x
 ·  rw [if_pos h1,if_pos h1]
 ·  rw [if_neg h1,if_neg (by exact AG h h1)]; exact AA
theorem CP {x a b:Int} (h:a<b):up x a<up x b:=by unfold up; split <;> split <;> lia
theorem zo {x a b:Int} (h:up x a=up x b):a=b:=by rw [← qo x a,h,qo]
noncomputable def fS (x y:Int):Option Int:=if y<x then some y else if x<y then some (y - 1) else none
noncomputable def aI (x:Int) (r:List Int):List Int:=r.filterMap (fS x)
theorem cut1_some {x y z:Int}:fS x y=some z↔y=up x z:=by
 unfold fS up
 by_cases h1:y<x
 ·  rw [if_pos h1]
    constructor
    · intro e; cases e; rw [if_pos h1]
    · intro e; split at e <;> first | (subst e; rfl) | (exfalso; exact Bt h1 (by assumption) e)
 ·  rw [if_neg h1]
    by_cases h2:x<y
    · rw [if_pos h2]
      constructor
      · intro e; cases e; split <;> lia
      · intro e; split at e <;> first | (exfalso; lia) | (congr 1; exact C4 e)
    · rw [if_neg h2]
      constructor
      · intro e; cases e
      · intro e; split at e <;> (exfalso; lia)
theorem mem_cut {x z:Int}{r:List Int}:z∈aI x r↔up x z∈r:=by
 unfold aI
 rw [List.mem_filterMap]
 constructor
 ·  rintro ⟨y,hy,e⟩; rw [cut1_some] at e; exact e▸hy
 ·  intro h; exact (ah (up x z) h (cut1_some.mpr rfl))
theorem iZ (x:Int) (r:List Int):(aI x r).length≤r.length:=List.length_filterMap_le ..
theorem dX (x y:Int) (r:List Int):aI x (r ++ [y])=aI x r ++ (fS x y).toList:=by
 unfold aI
 rw [List.filterMap_append]
 congr 1
theorem n9 {x:Int}{r:List Int} (h:r.Pairwise (· < ·)):(aI x r).Pairwise (· < ·):=by
 unfold aI
 rw [List.pairwise_filterMap]
 refine h.imp fun {a b} hab u hu v hv=>?_
 rw [cut1_some] at hu hv
 subst hu hv
 by_cases e:u<v
 ·  exact e
 ·  exfalso
    rcases Int.lt_or_eq_of_le (Int.not_lt.mp e) with q | q
    · exact Int.lt_irrefl _ (Int.lt_trans hab (CP q))
    · subst q; exact Int.lt_irrefl _ hab
theorem yf {c x:Int}{r:List Int} (h0:0≤x) (h1:x<c) (h:Srt c r):Srt (c - 1) (aI x r):=by
 refine ⟨n9 h.1,fun z hz=>?_⟩
 have:=h.2 _ (mem_cut.mp hz)
 unfold up at this
 split at this <;> lia
theorem jE {a:List Int} (h:a.Pairwise (· < ·)):a.Nodup:=List.Pairwise.imp (R:=(· < ·)) (S:=(·≠·)) (fun h=>Int.ne_of_lt h) h
theorem xE {a b:List Int} (ha:a.Pairwise (· < ·)) (hb:b.Pairwise (· < ·)) (h:∀ x,x∈a↔x∈b):a=b:=by
 have p:a.Perm b:=(List.perm_ext_iff_of_nodup (jE ha) (jE hb)).mpr h
 rw [← oU ha]
 exact oF p (hb.imp fun h=>Int.le_of_lt h)
theorem iz {one:List Int}{o x z:Int}:z∈bD one o x↔(z∈one∧z≠o)∨z=x:=by
 unfold bD
 rw [(gR _).mem_iff]
 simp
theorem oq {one:List Int}{o x:Int} (h:one.Pairwise (· < ·)) (hx:x∉one):(bD one o x).Pairwise (· < ·):=by
 have n1:one.Nodup:=jE h
 have nd:(one.filter (fun y=>!decide (y=o)) ++ [x]).Nodup:=by
    rw [List.nodup_append]
    refine ⟨n1.filter _,by simp,fun a ha b hb e=>?_⟩
    rw [List.mem_singleton.mp hb] at e
    exact hx (e▸(List.mem_filter.mp ha).1)
 have ns:(bD one o x).Nodup:=(gR _).nodup_iff.mpr nd
 have sl:(bD one o x).Pairwise (·≤·):=iB _
 exact List.Pairwise.imp₂ (fun a b h1 h2=>Int.lt_iff_le_and_ne.mpr ⟨h1,h2⟩) sl ns
theorem vN {x:Int}{one:List Int}{o y:Int} (h:one.Pairwise (· < ·)) (ho:o≠x) (hy:up x y∉one):bD (aI x one) (dn x o) y=aI x (bD one o (up x y)):=by
 refine xE (oq (n9 h) fun q=>hy (mem_cut.mp q)) (n9 (oq h hy)) fun z=>?_
 rw [iz,mem_cut,mem_cut,iz]
 refine or_congr (and_congr_right fun _=>⟨fun q e=>q ?_,fun q e=>q ?_⟩) ⟨fun q=>by rw [q],fun q=>zo q⟩
 ·  rw [← e,qo]
 ·  rw [e,ro ho]
theorem canF_iff {t:List (List Int)}{one other:List Int}{x:Int}:cF t one other x=true↔∃ o∈one,o∉other∧bD one o x∈t:=by
 unfold cF
 simp [List.any_eq_true]
theorem NoF.cut {c:Nat}{t f:List (List Int)}{x:Int}{b:Bool} (n:NoF (c + 1) t) (hr:∀ r∈t,Srt ((c:Int) + 1) r) (hf:∀ r,r∈f↔r∈t∧decide (x∈r)=b) (h0:0≤x) (h1:x<(c:Int) + 1):NoF c (f.map (aI x)):=by
 intro one' ho' y hy hyn other' hot' hyo
 obtain ⟨one,ho,rfl⟩:=List.mem_map.mp ho'
 obtain ⟨other,hot,rfl⟩:=List.mem_map.mp hot'
 obtain ⟨t1,b1⟩:=(hf one).mp ho
 obtain ⟨t2,b2⟩:=(hf other).mp hot
 have y1:up x y∉one:=fun q=>hyn (mem_cut.mpr q)
 have y2:=mem_cut.mp hyo
 have yr:=mem_upTo.mp hy
 have hyu:up x y∈aR (c + 1):=mem_upTo.mpr (by
    have:=(hr other t2).2 _ y2
    exact ⟨this.1,by have:=this.2; push_cast; exact this⟩)
 obtain ⟨o,o1,o2,o3⟩:=canF_iff.mp (n one t1 _ hyu y1 other t2 y2)
 have ox:o≠x:=fun q=>by
    subst q
    cases b with
    | true=>exact o2 (of_decide_eq_true b2)
    | false=>exact of_decide_eq_false b1 o1
 refine canF_iff.mpr (ax (dn x o) (mem_cut.mpr (by rw [ro ox]; exact o1)) (fun q=>o2 (by have:=mem_cut.mp q; rwa [ro ox] at this)) ?_)
 rw [vN (hr one t1).1 ox y1]
 refine List.mem_map.mpr (ah _ ((hf _).mpr ⟨o3,?_⟩) rfl)
 rw [← b1,decide_eq_decide,iz]
 exact ⟨fun q=>q.elim (fun q=>q.1) fun q=>absurd q.symm (Bq x y),fun q=>.inl ⟨q,fun e=>ox e.symm⟩⟩
theorem uX (C:Calls) (r:List Int) (x:Int) (hl:r.length≤1000):aB C p_cut_out [.d (aa r),.d (.int x)] = .ok (.d (aa (aI x r)),.deep):=by
 unfold p_cut_out
 refine cI rfl fun σ H=>?_
 refine Runs.set H mJ fun σ H hσ=>?_
 refine Runs.for (g:=PyData.int) (xs:=r) (fun pre σ=>Has σ [("thing", .d (.int x)),("made", .d (aa (aI x pre)))]∧σ "made" = some (.d (aa (aI x pre)),.deep)) (aG (H.ev rfl) (cr r .sh)) (fun σ0 h hh=>⟨(h _ H).sub ⟨rfl,rfl,trivial⟩,(hh "made" (by decide)).trans hσ⟩) ?_ ?_
 ·  rintro pre y post hp σ ⟨H,hσ⟩
    have hlen:pre.length≤1000:=by rw [hp] at hl; simp at hl; exact qI hl
    have hc:=iZ x pre
    have H1:=H.mk "one" (.d (.int y))
    have hσ1:upd σ "one" (mk (.d (.int y))) "made" = some (.d (aa (aI x pre)),.deep):=(if_neg (by decide)).trans hσ
    refine Runs.ite (jP (H1.ev rfl) (H1.ev rfl)) (fun q=>?_) fun q=>?_
    · have q:=of_decide_eq_true q
      have e:aI x (pre ++ [y])=aI x pre ++ [y]:=by rw [dX]; unfold fS; rw [if_pos q]; rfl
      refine Runs.app H1 hσ1 (by decide) (H1.ev (x := "one") rfl) (by exact mQ hlen hc) fun σ' H2 h2 _=>Runs.nil (Runs.nil ?_)
      rw [e]
      exact ⟨H2.sub ⟨rfl,rfl,trivial⟩,h2⟩
    · have q:=of_decide_eq_false q
      refine Runs.ite (ln (H1.ev rfl) (H1.ev rfl)) (fun p=>?_) fun p=>?_
      · have p:=of_decide_eq_true p
        have e:aI x (pre ++ [y])=aI x pre ++ [y - 1]:=by rw [dX]; unfold fS; rw [if_neg q,if_pos p]; rfl
        refine Runs.app H1 hσ1 (by decide) (kB (H1.ev (x := "one") rfl) (al 1)) (by exact mQ hlen hc) fun σ' H2 h2 _=>Runs.nil (Runs.nil (Runs.nil ?_))
        rw [e]
        exact ⟨H2.sub ⟨rfl,rfl,trivial⟩,h2⟩
      · have p:=of_decide_eq_false p
        have e:aI x (pre ++ [y])=aI x pre:=by rw [dX]; unfold fS; rw [if_neg q,if_neg p]; simp
        refine Runs.nil (Runs.nil (Runs.nil ?_))
        rw [e]
        exact ⟨H1.sub ⟨rfl,rfl,trivial⟩,hσ1⟩
 ·  rintro σ ⟨H,hσ⟩
    exact Runs.retn hσ rfl
end Mine
namespace Mine
open PySem
noncomputable def l_row_is:Fn:=⟨["_law_found", "_law_due"],
 (.cons (.ite (.or (.not (.isi (.name "_law_found") "list")) (.cmp .ne (.bi1 .len (.name "_law_found")) (.bi1 .len (.name "_law_due"))))
 (.cons (.ret (.bool false))
 .nil)
 .nil)
 (.cons (.for1 "_law_k" (.r1 (.bi1 .len (.name "_law_due")))
 (.cons (.ite (.or (.not (.call "_law_whole" (.cons (.sub (.name "_law_found") (.name "_law_k")) .nil))) (.cmp .ne (.sub (.name "_law_found") (.name "_law_k")) (.sub (.name "_law_due") (.name "_law_k"))))
 (.cons (.ret (.bool false))
 .nil)
 .nil)
 .nil))
 (.cons (.ret (.bool true))
 .nil)))⟩
noncomputable def l_rows_are:Fn:=⟨["_law_found", "_law_due"],
 (.cons (.ite (.or (.not (.isi (.name "_law_found") "list")) (.cmp .ne (.bi1 .len (.name "_law_found")) (.bi1 .len (.name "_law_due"))))
 (.cons (.ret (.bool false))
 .nil)
 .nil)
 (.cons (.for1 "_law_k" (.r1 (.bi1 .len (.name "_law_due")))
 (.cons (.ite (.not (.call "_law_row_is" (.cons (.sub (.name "_law_found") (.name "_law_k")) (.cons (.sub (.name "_law_due") (.name "_law_k")) .nil))))
 (.cons (.ret (.bool false))
 .nil)
 .nil)
 .nil))
 (.cons (.ret (.bool true))
 .nil)))⟩
noncomputable def l_rule_is:Fn:=⟨["_law_rule", "_law_count", "_law_table_here"],
 (.cons (.ite (.or (.not (.call "_law_whole" (.cons (.attr (.name "_law_rule") "count") .nil))) (.or (.cmp .ne (.attr (.name "_law_rule") "count") (.name "_law_count")) (.not (.call "_law_whole" (.cons (.attr (.name "_law_rule") "size") .nil)))))
 (.cons (.ret (.bool false))
 .nil)
 .nil)
 (.cons (.ret (.and (.cmp .eq (.attr (.name "_law_rule") "size") (.bi1 .len (.sub (.name "_law_table_here") (.int 0)))) (.call "_law_rows_are" (.cons (.attr (.name "_law_rule") "full") (.cons (.name "_law_table_here") .nil)))))
 .nil))⟩
noncomputable def p_need_thing:Fn:=⟨["rule", "thing"],
 (.cons (.ite (.or (.cmp .lt (.name "thing") (.int 0)) (.cmp .ge (.name "thing") (.attr (.name "rule") "count")))
 (.cons (.raise "NoThing")
 .nil)
 .nil)
 .nil)⟩
noncomputable def p_left_of:Fn:=⟨["rule", "table", "thing"],
 (.cons (.ite (.cmp .eq (.bi1 .len (.name "table")) (.int 0))
 (.cons (.assign "table" (.attr (.name "rule") "full"))
 .nil)
 .nil)
 (.cons (.ret (.call "Rule" (.cons (.bin .sub (.attr (.name "rule") "count") (.int 1)) (.cons (.comp (.call "cut_out" (.cons (.name "choice") (.cons (.name "thing") .nil))) "choice" (.e (.name "table"))) .nil))))
 .nil))⟩
noncomputable def p_without:Fn:=⟨["rule", "thing"],
 (.cons (.expr (.call "need_thing" (.cons (.name "rule") (.cons (.name "thing") .nil))))
 (.cons (.ret (.call "left_of" (.cons (.name "rule") (.cons (.compif (.name "choice") "choice" (.e (.attr (.name "rule") "full")) (.cmp .notin (.name "thing") (.name "choice"))) (.cons (.name "thing") .nil)))))
 .nil))⟩
noncomputable def p_taken:Fn:=⟨["rule", "thing"],
 (.cons (.expr (.call "need_thing" (.cons (.name "rule") (.cons (.name "thing") .nil))))
 (.cons (.ret (.call "left_of" (.cons (.name "rule") (.cons (.compif (.name "choice") "choice" (.e (.attr (.name "rule") "full")) (.cmp .isin (.name "thing") (.name "choice"))) (.cons (.name "thing") .nil)))))
 .nil))⟩
structure LibM (L:List (String × Fn)):Prop extends LibR L where
 rowIs:L.lookup "_law_row_is" = some l_row_is
 rowsAre:L.lookup "_law_rows_are" = some l_rows_are
 ruleIs:L.lookup "_law_rule_is" = some l_rule_is
 needT:L.lookup "need_thing" = some p_need_thing
 cutO:L.lookup "cut_out" = some p_cut_out
 left:L.lookup "left_of" = some p_left_of
 wo:L.lookup "without" = some p_without
 tk:L.lookup "taken" = some p_taken
theorem pq {L:List (String × Fn)} (lib:Lib L) (n:Nat) (r:List Int) (hl:r.length≤1000):aB (mkC L (n + 1)) l_row_is [.d (aa r),.d (aa r)] = .ok (sB true):=by
 unfold l_row_is
 refine cI rfl fun σ H=>?_
 refine Runs.no (d6 (p:=false) (q:=false) (bZ (t:=true) (mH (H.ev (x := "_law_found") rfl) rfl)) fun uu=>(jG (du (H.ev (x := "_law_found") rfl)) (du (H.ev (x := "_law_due") rfl))).trans (by simp)) ?_
 refine Runs.for (g:=PyData.int) (xs:=aR r.length) (fun pre σ=>Has σ [("_law_found", .d (aa r)),("_law_due", .d (aa r))]) (bQ (du (H.ev (x := "_law_due") rfl)) (by exact ny hl)) (fun σ0 h _=>(h _ H).sub ⟨rfl,rfl,trivial⟩) ?_ fun σ H=>Runs.ret (dw true) rfl
 intro pre y post hp σ H
 have hy:=mem_upTo.mp (show y∈aR r.length by rw [hp]; simp)
 have H1:=H.mk "_law_k" (.d (.int y))
 obtain ⟨v,hv⟩:∃ v,r[y.toNat]? = some v:=⟨_,List.getElem?_eq_getElem (by exact wW hy)⟩
 have e1:ev (mkC L (n + 1)) (.sub (.name "_law_found") (.name "_law_k")) (upd σ "_law_k" (mk (.d (.int y)))) = .ok (sI v):=fy (H1.ev rfl) (H1.ev rfl) hy.1 hv
 have e2:ev (mkC L (n + 1)) (.sub (.name "_law_due") (.name "_law_k")) (upd σ "_law_k" (mk (.d (.int y)))) = .ok (sI v):=fy (H1.ev rfl) (H1.ev rfl) hy.1 hv
 exact Runs.no (d6 (p:=false) (q:=false) (bZ (t:=true) (bk lib.whole (ai e1 aw) rfl (gZ _ v))) fun uu=>(jG e1 e2).trans (by simp)) (Runs.nil (H1.sub ⟨rfl,rfl,trivial⟩))
theorem mB {L:List (String × Fn)} (lib:LibM L) (n:Nat) (t:List (List Int)) (hl:t.length≤1000) (hr:∀ r∈t,r.length≤1000):aB (mkC L (n + 2)) l_rows_are [.d (af t),.d (af t)] = .ok (sB true):=by
 unfold l_rows_are
 refine cI rfl fun σ H=>?_
 refine Runs.no (d6 (p:=false) (q:=false) (bZ (t:=true) (mH (H.ev (x := "_law_found") rfl) rfl)) fun uu=>(jG (eB (H.ev (x := "_law_found") rfl)) (eB (H.ev (x := "_law_due") rfl))).trans (by simp)) ?_
 refine Runs.for (g:=PyData.int) (xs:=aR t.length) (fun pre σ=>Has σ [("_law_found", .d (af t)),("_law_due", .d (af t))]) (bQ (eB (H.ev (x := "_law_due") rfl)) (by exact ny hl)) (fun σ0 h _=>(h _ H).sub ⟨rfl,rfl,trivial⟩) ?_ fun σ H=>Runs.ret (dw true) rfl
 intro pre y post hp σ H
 have hy:=mem_upTo.mp (show y∈aR t.length by rw [hp]; simp)
 have H1:=H.mk "_law_k" (.d (.int y))
 obtain ⟨v,hv⟩:∃ v,t[y.toNat]? = some v:=⟨_,List.getElem?_eq_getElem (by exact wW hy)⟩
 have e1:ev (mkC L (n + 2)) (.sub (.name "_law_found") (.name "_law_k")) (upd σ "_law_k" (mk (.d (.int y)))) = .ok (.d (aa v),.sh):=ky (H1.ev rfl) (H1.ev rfl) hy.1 hv
 have e2:ev (mkC L (n + 2)) (.sub (.name "_law_due") (.name "_law_k")) (upd σ "_law_k" (mk (.d (.int y)))) = .ok (.d (aa v),.sh):=ky (H1.ev rfl) (H1.ev rfl) hy.1 hv
 exact Runs.no (bZ (t:=true) (bk lib.rowIs (ai e1 (ai e2 aw)) rfl (pq lib.toLib n v (hr v (List.mem_of_getElem? hv))))) (Runs.nil (H1.sub ⟨rfl,rfl,trivial⟩))
theorem dM {L:List (String × Fn)} (lib:LibR L) (n:Nat):∃ g,mkC L (n + 1) "Rule" = some g:=⟨_,by show (L.lookup "Rule").map _=_; rw [lib.rule]; rfl⟩
theorem e9 {L:List (String × Fn)} (lib:LibM L) (n:Nat) (c:Int) (t:List (List Int)) (x:List Int) (h0:t[0]? = some x) (hl:t.length≤1000) (hr:∀ r∈t,r.length≤1000):aB (mkC L (n + 3)) l_rule_is [.rule c (af t) x.length,.d (.int c),.d (af t)] = .ok (sB true):=by
 unfold l_rule_is
 obtain ⟨g,hg⟩:=dM lib.toLibR (n + 2)
 refine cI rfl fun σ H=>?_
 have A:=gJ hg (H.ev (x := "_law_rule") rfl)
 refine Runs.no (d6 (p:=false) (q:=false) (bZ (t:=true) (bk lib.whole (ai A.1 aw) rfl (gZ _ c))) fun uu=>d6 (p:=false) (q:=false) ((jG A.1 (H.ev (x := "_law_count") rfl)).trans (by simp)) fun uu=>bZ (t:=true) (bk lib.whole (ai A.2.2 aw) rfl (gZ _ x.length))) ?_
 refine Runs.ret (gO (p:=true) (q:=true) ((cN A.2.2 (du (ky (H.ev (x := "_law_table_here") rfl) (al 0) (Int.le_refl 0) h0))).trans (by simp)) fun uu=>bk lib.rowsAre (ai A.2.1 (ai (H.ev (x := "_law_table_here") rfl) aw)) rfl (mB lib n t hl hr)) rfl
theorem dv {L:List (String × Fn)} (lib:LibR L) (n:Nat) (c k x:Int) (d:PyData) :
    (0≤x∧x<c→aB (mkC L (n + 1)) p_need_thing [.rule c d k,.d (.int x)] = .ok (.d .none,.deep))∧(¬ (0≤x∧x<c)→aB (mkC L (n + 1)) p_need_thing [.rule c d k,.d (.int x)] = .exc "NoThing"):=by
 obtain ⟨g,hg⟩:=dM lib n
 obtain ⟨f,hf⟩:=lib.nth
 have hN:mkC L (n + 1) "NoThing" = some fun vs=>cT "NoThing" (mkC L n) f vs:=by show (L.lookup "NoThing").map _=_; rw [hf]; rfl
 obtain ⟨σ,hσ,H⟩:=dl ["rule", "thing"] [.rule c d k,.d (.int x)] rfl
 have hb:bz p_need_thing.params [.rule c d k,.d (.int x)]=some σ:=hσ
 have A:=gJ hg (H.ev (x := "rule") rfl)
 have e1:ev (mkC L (n + 1)) (.or (.cmp .lt (.name "thing") (.int 0)) (.cmp .ge (.name "thing") (.attr (.name "rule") "count"))) σ = .ok (sB (decide (x<0) || decide (c≤x))):=d6 (jP (H.ev rfl) (al 0)) fun uu=>y3 (H.ev rfl) A.1
 constructor
 ·  intro h
    have:(decide (x<0) || decide (c≤x))=false:=by simp; exact AL h
    rw [this] at e1
    unfold aB
    rw [hb]
    dsimp only
    unfold p_need_thing
    simp only [bP,iU e1,da,Out.ok_bind]
 ·  intro h
    have:(decide (x<0) || decide (c≤x))=true:=by simp; exact Cy h
    rw [this] at e1
    unfold aB
    rw [hb]
    dsimp only
    unfold p_need_thing
    simp only [bP,lg e1,eu,hN,av]
    rfl
end Mine
namespace Mine
open PySem
noncomputable def fam (p:List Int→Bool) (u:List (List Int)):List (List Int):=if u.filter p=[] then u else u.filter p
theorem gh {p:List Int→Bool}{u:List (List Int)}{r:List Int} (h:r∈fam p u):r∈u:=by
 unfold fam at h
 split at h
 ·  exact h
 ·  exact (List.mem_filter.mp h).1
theorem ll (p:List Int→Bool) (u:List (List Int)):(fam p u).length≤u.length:=by
 unfold fam
 split
 ·  exact Nat.le_refl _
 ·  exact List.length_filter_le ..
theorem tK {p:List Int→Bool}{u:List (List Int)} (h:u≠[]):fam p u≠[]:=by
 unfold fam
 split
 ·  exact h
 ·  assumption
theorem yP {x:Int}{p:List Int→Bool}{d:Bool} (hp:∀ r,p r=(decide (x∈r) == d)) (u:List (List Int)):∃ b:Bool,∀ r,r∈fam p u↔r∈u∧decide (x∈r)=b:=by
 unfold fam
 by_cases h:u.filter p=[]
 ·  rw [if_pos h]
    refine ⟨!d,fun r=>⟨fun hr=>⟨hr,?_⟩,fun hr=>hr.1⟩⟩
    have:=List.filter_eq_nil_iff.mp h r hr
    rw [hp] at this
    cases d <;> cases q:decide (x∈r) <;> simp_all
 ·  rw [if_neg h]
    refine ⟨d,fun r=>?_⟩
    rw [List.mem_filter,hp,beq_iff_eq]
theorem Hd.minor {c:Nat}{u:List (List Int)}{x:Int}{p:List Int→Bool}{d:Bool} (h:Hd (c + 1) u) (hp:∀ r,p r=(decide (x∈r) == d)) (h0:0≤x) (h1:x<(c:Int) + 1):Hd c ((fam p u).map (aI x)):=by
 have hs:∀ r∈u,Srt ((c:Int) + 1) r:=fun r hr=>by have:=(h.rows r hr).2; push_cast at this; exact this
 obtain ⟨b,hb⟩:=yP hp u
 refine ⟨by have:=h.hc; exact Be this,fun q=>tK h.ne (List.map_eq_nil_iff.mp q),?_,fun r hr=>?_,fun hl r hr=>?_,h.nf.cut hs hb h0 h1⟩
 ·  rw [List.length_map]; exact Nat.le_trans (ll p u) h.len
 ·  obtain ⟨s,hs',rfl⟩:=List.mem_map.mp hr
    have q:=gh hs'
    refine ⟨Nat.le_trans (iZ x s) (h.rows s q).1,?_⟩
    have:=yf h0 h1 (hs s q)
    rwa [Int.add_sub_cancel] at this
 ·  obtain ⟨s,hs',rfl⟩:=List.mem_map.mp hr
    rw [List.length_map] at hl
    exact Nat.le_trans (iZ x s) (h.few (Nat.lt_of_lt_of_le hl (ll p u)) s (gh hs'))
def IsRule (c:Nat) (t:List (List Int)) (r:V × Mode):Prop:=∃ v y,r=(.rule c (af v) (y:List Int).length,.deep)∧(∀ s,s∈v↔s∈t)∧v[0]? = some y∧∃ ks,v=aE ks∧ks.Nodup∧ks.length≤t.length
theorem iI {L:List (String × Fn)} (lib:LibM L) (n:Nat) (c:Nat) (u t f:List (List Int)) (k x:Int) (hf:f=if t=[] then u else t) (hl:∀ r∈f,r.length≤1000) (h:Hd c (f.map (aI x))) :
    ∃ r,aB (mkC L (n + 4)) p_left_of [.rule ((c:Int) + 1) (af u) k,.d (af t),.d (.int x)] = .ok r∧IsRule c (f.map (aI x)) r:=by
 unfold p_left_of
 obtain ⟨g,hg⟩:=dM lib.toLibR (n + 3)
 refine b0 rfl fun σ H=>?_
 refine Runs.iteTo (fun σ=>Has σ [("rule", .rule ((c:Int) + 1) (af u) k),("table", .d (af f)),("thing", .d (.int x))]) (cN (eB (H.ev (x := "table") rfl)) (al 0)) (fun q=>?_) (fun q=>Runs.nil ⟨rfl,?_⟩) fun σ H=>?_
 ·  have q:=of_decide_eq_true q
    have ht:t=[]:=List.eq_nil_of_length_eq_zero (by exact qQ q)
    rw [if_pos ht] at hf
    subst hf
    exact Runs.set H (gJ hg (H.ev (x := "rule") rfl)).2.1 fun σ H _=>Runs.nil ⟨rfl,H.sub (bx rfl rfl rfl trivial)⟩
 ·  have q:=of_decide_eq_false q
    have ht:t≠[]:=fun e=>q (by rw [e]; rfl)
    rw [if_neg ht] at hf
    subst hf
    exact H.sub (bx rfl rfl rfl trivial)
 obtain ⟨m1,e1,hm1,_⟩:=cA (C:=mkC L (n + 4)) (σ:=σ) (g:=aa) (l:=f) (z := "choice") (it:=.e (.name "table")) (a:=.call "cut_out" (.cons (.name "choice") (.cons (.name "thing") .nil))) (aI x) .deep (aG (H.ev (x := "table") rfl) (aH f .sh)) fun r hr=>by
    have H1:=H.mk "choice" (.d (aa r))
    exact bk lib.cutO (ai (H1.ev (x := "choice") rfl) (ai (H1.ev (x := "thing") rfl) aw)) rfl (uX _ r x (hl r hr))
 have e2:ev (mkC L (n + 4)) (.bin .sub (.attr (.name "rule") "count") (.int 1)) σ = .ok (sI c):=(kB (gJ hg (H.ev (x := "rule") rfl)).1 (al 1)).trans (by rw [Int.add_sub_cancel])
 obtain ⟨v,y,e3,hv,hy,hk⟩:=qf lib.toLibR n h
 exact Runs.ret (pV lib.toLibR (ai e2 (ai e1 aw)) rfl e3) (ah _ rfl (aU v y rfl hv hy hk))
end Mine
namespace Mine
open PySem
noncomputable def l_closed:Fn:=⟨["_law_table_here", "_law_thing"],
 (.cons (.assign "_law_full" (.list .nil))
 (.cons (.for1 "_law_choice" (.e (.name "_law_table_here"))
 (.cons (.assign "_law_row" (.list .nil))
 (.cons (.for1 "_law_one" (.e (.name "_law_choice"))
 (.cons (.ite (.cmp .lt (.name "_law_one") (.name "_law_thing"))
 (.cons (.append "_law_row" (.name "_law_one"))
 .nil)
 .nil)
 (.cons (.ite (.cmp .gt (.name "_law_one") (.name "_law_thing"))
 (.cons (.append "_law_row" (.bin .sub (.name "_law_one") (.int 1)))
 .nil)
 .nil)
 .nil)))
 (.cons (.ite (.cmp .notin (.name "_law_row") (.name "_law_full"))
 (.cons (.append "_law_full" (.name "_law_row"))
 .nil)
 .nil)
 .nil))))
 (.cons (.ret (.bi1 .sorted (.name "_law_full")))
 .nil)))⟩
noncomputable def l_refused:Fn:=⟨["_law_rule", "_law_thing"],
 (.cons (.assign "_law_refused_here" (.int 0))
 (.cons (.tryS (.expr (.call "without" (.cons (.name "_law_rule") (.cons (.name "_law_thing") .nil)))) [("NoThing", [.asg "_law_refused_here" (.bin .add (.name "_law_refused_here") (.int 1))])])
 (.cons (.tryS (.expr (.call "taken" (.cons (.name "_law_rule") (.cons (.name "_law_thing") .nil)))) [("NoThing", [.asg "_law_refused_here" (.bin .add (.name "_law_refused_here") (.int 1))])])
 (.cons (.ret (.cmp .eq (.name "_law_refused_here") (.int 2)))
 .nil))))⟩
theorem jY {L:List (String × Fn)}{n:Nat}{σ:St}{f:String}{fn:Fn}{es:Es}{q:List (V × Mode)}{vs:List V} (hL:L.lookup f=some fn) (he:evs (mkC L (n + 1)) es σ = .ok q) (hv:q.map (·.1)=vs) (hp:gj f=true:=by decide):ev (mkC L (n + 1)) (.call f es) σ=aB (mkC L n) fn vs:=by
 have hC:mkC L (n + 1) f=some fun vs=>cT f (mkC L n) fn vs:=by show (L.lookup f).map _=_; rw [hL]; rfl
 rw [iW hC he,hv,lj hp]
theorem n7 {L:List (String × Fn)} (lib:LibM L) (n:Nat) {c:Nat}{u:List (List Int)} (k x:Int) (h:Hd (c + 1) u) (h0:0≤x) (h1:x<(c:Int) + 1) :
    ∃ r,aB (mkC L (n + 5)) p_without [.rule ((c:Int) + 1) (af u) k,.d (.int x)] = .ok r∧IsRule c ((fam (fun r=>!decide (x∈r)) u).map (aI x)) r:=by
 unfold p_without
 obtain ⟨g,hg⟩:=dM lib.toLibR (n + 4)
 refine b0 rfl fun σ H=>?_
 refine Runs.expr H (bk lib.needT (ai (H.ev (x := "rule") rfl) (ai (H.ev (x := "thing") rfl) aw)) rfl ((dv lib.toLibR (n + 3) _ k x (af u)).1 ⟨h0,h1⟩)) fun σ H _=>?_
 obtain ⟨m1,e1,_⟩:=dD (C:=mkC L (n + 5)) (σ:=σ) (g:=aa) (l:=u) (z := "choice") (it:=.e (.attr (.name "rule") "full")) (c:=.cmp .notin (.name "thing") (.name "choice")) (a:=.name "choice") (fun r=>r) (fun r=>!decide (x∈r)) .sh (aG (gJ hg (H.ev (x := "rule") rfl)).2.1 (aH u .sh)) (fun r _=>by
    have H1:=H.mk "choice" (.d (aa r))
    exact jj (H1.ev rfl) (H1.ev rfl)) fun r _ _=>(H.mk "choice" (.d (aa r))).ev rfl
 rw [List.map_id'] at e1
 obtain ⟨r,e2,hr⟩:=iI lib n c u (u.filter fun r=>!decide (x∈r)) (fam (fun r=>!decide (x∈r)) u) k x rfl (fun r hr=>by have:=(h.rows r (gh hr)).1; exact fF this) (h.minor (d:=false) (fun r=>by cases decide (x∈r) <;> rfl) h0 h1)
 exact Runs.ret (bk lib.left (ai (H.ev (x := "rule") rfl) (ai e1 (ai (H.ev (x := "thing") rfl) aw))) rfl e2) (ah r rfl hr)
theorem rC {L:List (String × Fn)} (lib:LibM L) (n:Nat) {c:Nat}{u:List (List Int)} (k x:Int) (h:Hd (c + 1) u) (h0:0≤x) (h1:x<(c:Int) + 1) :
    ∃ r,aB (mkC L (n + 5)) p_taken [.rule ((c:Int) + 1) (af u) k,.d (.int x)] = .ok r∧IsRule c ((fam (fun r=>decide (x∈r)) u).map (aI x)) r:=by
 unfold p_taken
 obtain ⟨g,hg⟩:=dM lib.toLibR (n + 4)
 refine b0 rfl fun σ H=>?_
 refine Runs.expr H (bk lib.needT (ai (H.ev (x := "rule") rfl) (ai (H.ev (x := "thing") rfl) aw)) rfl ((dv lib.toLibR (n + 3) _ k x (af u)).1 ⟨h0,h1⟩)) fun σ H _=>?_
 obtain ⟨m1,e1,_⟩:=dD (C:=mkC L (n + 5)) (σ:=σ) (g:=aa) (l:=u) (z := "choice") (it:=.e (.attr (.name "rule") "full")) (c:=.cmp .isin (.name "thing") (.name "choice")) (a:=.name "choice") (fun r=>r) (fun r=>decide (x∈r)) .sh (aG (gJ hg (H.ev (x := "rule") rfl)).2.1 (aH u .sh)) (fun r _=>by
    have H1:=H.mk "choice" (.d (aa r))
    exact nZ (H1.ev rfl) (H1.ev rfl)) fun r _ _=>(H.mk "choice" (.d (aa r))).ev rfl
 rw [List.map_id'] at e1
 obtain ⟨r,e2,hr⟩:=iI lib n c u (u.filter fun r=>decide (x∈r)) (fam (fun r=>decide (x∈r)) u) k x rfl (fun r hr=>by have:=(h.rows r (gh hr)).1; exact fF this) (h.minor (d:=true) (fun r=>by cases decide (x∈r) <;> rfl) h0 h1)
 exact Runs.ret (bk lib.left (ai (H.ev (x := "rule") rfl) (ai e1 (ai (H.ev (x := "thing") rfl) aw))) rfl e2) (ah r rfl hr)
theorem lD {C:Calls}{ps:List String}{vs:List V}{e:E}{b:Ss}{c:String} (hl:ps.length=vs.length) (h:∀ σ,Has σ (ps.zip vs)→ev C e σ = .exc c):aB C ⟨ps,.cons (.expr e) b⟩ vs = .exc c:=by
 obtain ⟨σ,hσ,H⟩:=dl ps vs hl
 unfold aB
 rw [show bz (Fn.mk ps (.cons (.expr e) b)).params vs=some σ from hσ]
 dsimp only
 simp only [bP,dT,h σ H,Out.exc_bind]
theorem oN {L:List (String × Fn)} (lib:LibM L) (n:Nat) (c k x:Int) (d:PyData) (h:¬ (0≤x∧x<c)):aB (mkC L (n + 3)) l_refused [.rule c d k,.d (.int x)] = .ok (sB true):=by
 obtain ⟨f,hf⟩:=lib.nth
 have hN:mkC L (n + 3) "NoThing" = some fun vs=>cT "NoThing" (mkC L (n + 2)) f vs:=by show (L.lookup "NoThing").map _=_; rw [hf]; rfl
 have nt:=(dv lib.toLibR n c k x d).2 h
 have w1:aB (mkC L (n + 2)) p_without [.rule c d k,.d (.int x)] = .exc "NoThing" := lD rfl fun σ H=>(jY lib.needT (ai (H.ev (x := "rule") rfl) (ai (H.ev (x := "thing") rfl) aw)) rfl).trans nt
 have w2:aB (mkC L (n + 2)) p_taken [.rule c d k,.d (.int x)] = .exc "NoThing" := lD rfl fun σ H=>(jY lib.needT (ai (H.ev (x := "rule") rfl) (ai (H.ev (x := "thing") rfl) aw)) rfl).trans nt
 unfold l_refused
 refine cI rfl fun σ H=>?_
 refine Runs.set H (al 0) fun σ H _=>?_
 refine Runs.tryX H hN ((jY lib.wo (ai (H.ev (x := "_law_rule") rfl) (ai (H.ev (x := "_law_thing") rfl) aw)) rfl).trans w1) (by decide) rfl (ca (H.ev rfl) (al 1)) fun σ H=>?_
 refine Runs.tryX H hN ((jY lib.tk (ai (H.ev (x := "_law_rule") rfl) (ai (H.ev (x := "_law_thing") rfl) aw)) rfl).trans w2) (by decide) rfl (ca (H.ev rfl) (al 1)) fun σ H=>?_
 exact Runs.ret (cN (H.ev rfl) (al 2)) rfl
theorem sy {C:Calls}{σ:St}{a b:E}{xs:List Int}{t:List (List Int)}{m m':Mode} (ha:ev C a σ = .ok (.d (aa xs),m)) (hb:ev C b σ = .ok (.d (af t),m')):ev C (.cmp .notin a b) σ = .ok (sB (!decide (xs∈t))):=bq ha hb (by
 show ((inV (aa xs) (.d (af t))).bind fun b=>Out.ok (!b))=_
 rw [show inV (aa xs) (.d (af t)) = .ok (decide (xs∈t)) from pS xs t]; rfl)
theorem Runs.appS {C:Calls}{σ:St}{l:List (String × V)}{z y:String}{t:List (List Int)}{xs:List Int}{m:Mode}{bb:Ss}{Post:St→Flw→Prop} (H:Has σ l) (hz:σ z=some (.d (af t),m)) (hm:m≠.sh) (hy:z≠y) (h:l.lookup y=some (.d (aa xs))) (hl:t.length<1000000)
    (k:∀ σ',Has σ' ((z,.d (af (t ++ [xs]))) :: l)→σ' z=some (.d (af (t ++ [xs])),.top)→Runs C bb σ' Post):Runs C (.cons (.append z (.name y)) bb) σ Post:=by
 refine Runs.cons (o:=(upd (demote σ [y]) z (.d (af (t ++ [xs])),.top),.next)) ?_ (k _ ((H.demote [y]).upd z _ .top) (if_pos rfl))
 simp only [dG,H.ev h,Out.calm_ok,Out.ok_bind,hz]
 show (match fY (.d (af t)) with | some xs'=>if m=Mode.sh then Out.bad else fU σ z (fv (.name y)) m (xs' ++ [aa xs]) (mk (.d (aa xs))).2 | none=>.bad)=_
 rw [iA]
 dsimp only
 rw [if_neg hm]
 unfold fU
 rw [if_pos (by rw [List.length_append,List.length_map]; exact hl),if_neg (by unfold mk nC sx aa; simp),if_neg (by simp only [d7]; simpa using hy)]
 simp only [d7]
 unfold af
 rw [List.map_append]; rfl
end Mine
namespace Mine
open PySem
theorem jv:∀ ds:List (List Int),eV (ds.map aa)=some ds
 | []=>rfl
 | d :: ds=>by
    have ih:=jv ds
    have:aM (d.map PyData.int)=some d:=cW d
    simp only [List.map_cons,eV,aa,asL,this,ih,Option.bind_some,Option.map_some]
theorem lV {C:Calls}{σ:St}{a:E}{ds:List (List Int)}{m:Mode} (ha:ev C a σ = .ok (.d (af ds),m)) (hn:ds≠[]) (hl:ds.length<64):∃ m',ev C (.bi1 .sorted a) σ = .ok (.d (af (aE ds)),m')∧m'≠.sh:=by
 have h1:aM (ds.map aa)=none:=by
    cases ds with
    | nil=>exact absurd rfl hn
    | cons d ds=>rfl
 have h2:c0 (ds.map aa)=none:=by
    cases ds with
    | nil=>exact absurd rfl hn
    | cons d ds=>rfl
 refine (ah (fresh ((aE ds).map aa)) ?_ (by unfold fresh; split <;> simp))
 rw [dz ha]
 show cC (ds.map aa)=_
 unfold cC
 rw [if_pos (by rw [List.length_map]; exact hl),h1]
 dsimp only
 unfold dP
 rw [h2]
 dsimp only
 rw [jv]
 rfl
theorem o7 (C:Calls) (t:List (List Int)) (x:Int) (ht:t≠[]) (hl:t.length≤63) (hr:∀ r∈t,r.length≤1000) :
    ∃ r,aB C l_closed [.d (af t),.d (.int x)] = .ok r∧∃ ds,r.1 = .d (af (aE ds))∧ds.Nodup∧(∀ s,s∈ds↔s∈t.map (aI x)):=by
 unfold l_closed
 refine b0 rfl fun σ H=>?_
 refine Runs.set H dR fun σ H hσ=>?_
 refine Runs.for (g:=aa) (xs:=t) (fun pre σ=>∃ ds m,Has σ [("_law_thing", .d (.int x)),("_law_full", .d (af ds))]∧σ "_law_full" = some (.d (af ds),m)∧m≠.sh∧ds.length≤pre.length∧ds.Nodup∧∀ s,s∈ds↔s∈pre.map (aI x)) (aG (H.ev (x := "_law_table_here") rfl) (aH t .sh))
    (fun σ0 h hh=>(ja ([]) .deep ((h _ H).sub ⟨rfl,rfl,trivial⟩) ((hh "_law_full" (by decide)).trans hσ) (by decide) (Nat.le_refl _) .nil (fun s=>by simp))) ?_ ?_
 ·  rintro pre y post hp σ ⟨ds,m,H,hσ,hm,hdl,hnd,hmem⟩
    have hy:y∈t:=by rw [hp]; simp
    have hpl:pre.length≤63:=by rw [hp] at hl; simp at hl; exact xo hl
    have H1:=H.mk "_law_choice" (.d (aa y))
    have hσ1:upd σ "_law_choice" (mk (.d (aa y))) "_law_full" = some (.d (af ds),m):=(if_neg (by decide)).trans hσ
    refine Runs.cons (o:=(upd (upd σ "_law_choice" (mk (.d (aa y)))) "_law_row" (.d (aa []),.deep),.next)) (iQ mJ rfl) ?_
    have H2:=H1.upd "_law_row" (.d (aa [])) .deep
    have hσ2:upd (upd σ "_law_choice" (mk (.d (aa y)))) "_law_row" (.d (aa []),.deep) "_law_full" = some (.d (af ds),m):=(if_neg (by decide)).trans hσ1
    have hr2:upd (upd σ "_law_choice" (mk (.d (aa y)))) "_law_row" (.d (aa []),.deep) "_law_row" = some (.d (aa (aI x [])),.deep):=(fj _ _ _).trans rfl
    refine Runs.for (g:=PyData.int) (xs:=y) (fun pr σ=>Has σ [("_law_thing", .d (.int x)),("_law_full", .d (af ds)),("_law_row", .d (aa (aI x pr)))]∧σ "_law_row" = some (.d (aa (aI x pr)),.deep)∧σ "_law_full" = some (.d (af ds),m)) (aG (H2.ev (x := "_law_choice") rfl) (cr y .sh))
      (fun σ0 h hh=>⟨(h _ H2).sub (bx rfl rfl rfl trivial),(hh "_law_row" (by decide)).trans hr2,(hh "_law_full" (by decide)).trans hσ2⟩) ?_ ?_
    · rintro pr z po hq σ ⟨H,hrow,hful⟩
      have hlen:pr.length≤1000:=by have:=hr y hy; rw [hq] at this; simp at this; exact qI this
      have hc:=iZ x pr
      have H1:=H.mk "_law_one" (.d (.int z))
      have hrow1:upd σ "_law_one" (mk (.d (.int z))) "_law_row" = some (.d (aa (aI x pr)),.deep):=(if_neg (by decide)).trans hrow
      have hful1:upd σ "_law_one" (mk (.d (.int z))) "_law_full" = some (.d (af ds),m):=(if_neg (by decide)).trans hful
      refine Runs.ite (jP (H1.ev rfl) (H1.ev rfl)) (fun q=>?_) fun q=>?_
      · have q:=of_decide_eq_true q
        have e:aI x (pr ++ [z])=aI x pr ++ [z]:=by rw [dX]; unfold fS; rw [if_pos q]; rfl
        refine Runs.app H1 hrow1 (by decide) (H1.ev (x := "_law_one") rfl) (by exact mQ hlen hc) fun σ' H2 h2 h3=>Runs.nil ?_
        refine Runs.no ((ln (H2.ev (x := "_law_one") rfl) (H2.ev (x := "_law_thing") rfl)).trans (by rw [decide_eq_false (by exact CV q)])) (Runs.nil ?_)
        rw [e]
        exact ⟨H2.sub (bx rfl rfl rfl trivial),h2,(h3 "_law_full" (by decide)).trans hful1⟩
      · have q:=of_decide_eq_false q
        refine Runs.nil ?_
        refine Runs.ite (ln (H1.ev rfl) (H1.ev rfl)) (fun p=>?_) fun p=>?_
        · have p:=of_decide_eq_true p
          have e:aI x (pr ++ [z])=aI x pr ++ [z - 1]:=by rw [dX]; unfold fS; rw [if_neg q,if_pos p]; rfl
          refine Runs.app H1 hrow1 (by decide) (kB (H1.ev (x := "_law_one") rfl) (al 1)) (by exact mQ hlen hc) fun σ' H2 h2 h3=>Runs.nil (Runs.nil ?_)
          rw [e]
          exact ⟨H2.sub (bx rfl rfl rfl trivial),h2,(h3 "_law_full" (by decide)).trans hful1⟩
        · have p:=of_decide_eq_false p
          have e:aI x (pr ++ [z])=aI x pr:=by rw [dX]; unfold fS; rw [if_neg q,if_neg p]; simp
          refine Runs.nil (Runs.nil ?_)
          rw [e]
          exact ⟨H1.sub (bx rfl rfl rfl trivial),hrow1,hful1⟩
    · rintro σ ⟨H,hrow,hful⟩
      have hmp:∀ s,s∈(pre ++ [y]).map (aI x)↔s∈ds∨s=aI x y:=fun s=>by rw [List.map_append,List.mem_append,← hmem s]; simp
      refine Runs.ite (sy (H.ev (x := "_law_row") rfl) (H.ev (x := "_law_full") rfl)) (fun q=>?_) fun q=>?_
      · have q:aI x y∉ds:=by simpa using q
        refine Runs.appS H hful hm (by decide) (y := "_law_row") rfl (by exact wP hdl hpl) fun σ' H2 h2=>Runs.nil (Runs.nil (ja (ds ++ [aI x y]) .top (H2.sub ⟨rfl,rfl,trivial⟩) h2 (by decide) (by simp; exact xb hdl) ?_ (fun s=>?_)))
        · rw [List.nodup_append]
          exact ⟨hnd,by simp,fun a ha b hb e=>q (by rw [List.mem_singleton.mp hb] at e; exact e▸ha)⟩
        · rw [hmp,List.mem_append,List.mem_singleton]
      · have q:aI x y∈ds:=by simpa using q
        exact Runs.nil (Runs.nil (ja ds m (H.sub ⟨rfl,rfl,trivial⟩) hful hm (by simp; exact mM hdl) hnd (fun s=>by rw [hmp]; exact ⟨.inl,fun h=>h.elim id fun e=>e▸q⟩)))
 ·  rintro σ ⟨ds,m,H,hσ,hm,hdl,hnd,hmem⟩
    have hne:ds≠[]:=fun e=>by
      obtain ⟨a,ha⟩:=List.exists_mem_of_ne_nil t ht
      have:=(hmem (aI x a)).mpr (List.mem_map.mpr (ah a ha rfl))
      rw [e] at this; cases this
    obtain ⟨m',e1,_⟩:=lV (H.ev (C:=C) (x := "_law_full") rfl) hne (by exact wF hl hdl)
    exact Runs.ret e1 (ah _ rfl (ax ds rfl hnd hmem))
end Mine
namespace Mine
open PySem
noncomputable def l_both_are:Fn:=⟨["_law_rule", "_law_count", "_law_table_here", "_law_thing"],
 (.cons (.assign "_law_lack" (.compif (.name "_law_choice") "_law_choice" (.e (.name "_law_table_here")) (.cmp .notin (.name "_law_thing") (.name "_law_choice"))))
 (.cons (.assign "_law_have" (.compif (.name "_law_choice") "_law_choice" (.e (.name "_law_table_here")) (.cmp .isin (.name "_law_thing") (.name "_law_choice"))))
 (.cons (.ite (.cmp .eq (.name "_law_lack") (.list .nil))
 (.cons (.assign "_law_lack" (.name "_law_table_here"))
 .nil)
 .nil)
 (.cons (.ite (.cmp .eq (.name "_law_have") (.list .nil))
 (.cons (.assign "_law_have" (.name "_law_table_here"))
 .nil)
 .nil)
 (.cons (.assign "_law_less" (.call "without" (.cons (.name "_law_rule") (.cons (.name "_law_thing") .nil))))
 (.cons (.assign "_law_held_here" (.call "taken" (.cons (.name "_law_rule") (.cons (.name "_law_thing") .nil))))
 (.cons (.ite (.not (.call "_law_rule_is" (.cons (.name "_law_less") (.cons (.bin .sub (.name "_law_count") (.int 1)) (.cons (.call "_law_closed" (.cons (.name "_law_lack") (.cons (.name "_law_thing") .nil))) .nil)))))
 (.cons (.ret (.bool false))
 .nil)
 .nil)
 (.cons (.appF "_law_less" (.cons (.int 0) .nil) (.name "_law_count"))
 (.cons (.addF "_law_less" (.list .nil))
 (.cons (.ite (.not (.call "_law_rule_is" (.cons (.name "_law_held_here") (.cons (.bin .sub (.name "_law_count") (.int 1)) (.cons (.call "_law_closed" (.cons (.name "_law_have") (.cons (.name "_law_thing") .nil))) .nil)))))
 (.cons (.ret (.bool false))
 .nil)
 .nil)
 (.cons (.appF "_law_held_here" (.cons (.int 0) .nil) (.name "_law_count"))
 (.cons (.addF "_law_held_here" (.list .nil))
 (.cons (.ret (.bool true))
 .nil)))))))))))))⟩
structure LibB (L:List (String × Fn)):Prop extends LibM L where
 clos:L.lookup "_law_closed" = some l_closed
 refu:L.lookup "_law_refused" = some l_refused
 both:L.lookup "_law_both_are" = some l_both_are
theorem fh:∀ {l l':List (List Int)},l.Perm l'→(l.Pairwise fun a b=>ltL b a=false)→(l'.Pairwise fun a b=>ltL b a=false)→l=l'
 | [],l',p,_,_=>by rw [p.nil_eq]
 | a :: l,[],p,_,_=>by cases p.eq_nil
 | a :: l,b :: l',p,h,h'=>by
    obtain ⟨h1,h2⟩:=List.pairwise_cons.mp h
    obtain ⟨h3,h4⟩:=List.pairwise_cons.mp h'
    have e:a=b:=by
      rcases List.mem_cons.mp (p.mem_iff.mp (List.mem_cons_self (a:=a) (l:=l))) with e | e
      · exact e
      · rcases List.mem_cons.mp (p.mem_iff.mpr (List.mem_cons_self (a:=b) (l:=l'))) with e' | e'
        · exact e'.symm
        · exact gg (h3 a e) (h1 b e')
    subst e
    rw [fh ((List.perm_cons a).mp p) h2 h4]
theorem tb {a b:List (List Int)} (ha:a.Nodup) (hb:b.Nodup) (h:∀ s,s∈a↔s∈b):aE a=aE b:=by
 have p:a.Perm b:=(List.perm_ext_iff_of_nodup ha hb).mpr h
 exact fh (((List.mergeSort_perm a _).trans p).trans (List.mergeSort_perm b _).symm) (fx a) (fx b)
theorem xe {C:Calls}{g:List V→Out (V × Mode)}{σ:St}{l l':List (String × V)}{z:String}{c k n:Int}{v:List (List Int)}{y:List Int}{bb:Ss}{Post:St→Flw→Prop} (hC:C "Rule" = some g) (H:Has σ l) (hz:σ z=some (.rule c (af v) k,.deep)) (h0:v[0]? = some y) (hv:v.length≤1000) (hy:y.length≤1000) (hn:l.lookup "_law_count" = some (.d (.int n)))
    (hzc : "_law_count" ≠ z) (hs:Sub l l') (hl':l'.lookup z=none) (kk:∀ σ',Has σ' l'→(∀ w,w≠z→σ' w=σ w)→Runs C bb σ' Post):Runs C (.cons (.appF z (.cons (.int 0) .nil) (.name "_law_count")) (.cons (.addF z (.list .nil)) bb)) σ Post:=by
 have hv0:0<v.length:=by
    cases v with
    | nil=>cases h0
    | cons a v=>simp
 have hi:a7 0 (v.map aa).length=some 0:=by
    rw [List.length_map]
    unfold a7
    rw [if_pos (Int.le_refl 0)]
    rw [if_pos (by exact la3 hv0)]; rfl
 have hx:(v.map aa)[0]? = some (aa y):=by rw [List.getElem?_map,h0]; rfl
 have e1:evP C (af v) (.cons (.int 0) .nil) σ = .ok ([0],aa y):=by
    show (Out.ok (([]:List Int),af v)).bind _=_
    simp only [Out.ok_bind,eT]
    show av (jJ (af v) 0) _=_
    have:jJ (af v) 0=some (aa y):=by
      show ((a7 0 (v.map aa).length).bind fun k=>(v.map aa)[k]?)=_
      rw [hi]; exact hx
    rw [this]; rfl
 have e2:modP (.int n) [0] (af v)=some (.list ((v.map aa).set 0 (.list (y.map PyData.int ++ [.int n])))):=by
    show ((a7 0 (v.map aa).length).bind fun j=>((v.map aa)[j]?).bind fun e=>(modP (.int n) [] e).map fun e'=>PyData.list ((v.map aa).set j e'))=_
    rw [hi]
    show ((v.map aa)[0]?).bind _=_
    rw [hx]
    show Option.map _ (if (y.map PyData.int).length<lim then some (PyData.list (y.map PyData.int ++ [.int n])) else none)=_
    rw [if_pos (by rw [List.length_map]; unfold lim; exact xB hy)]; rfl
 have hcn:ev C (.name "_law_count") σ = .ok (sI n):=H.ev hn
 refine Runs.next (σ':=upd σ z (.rule c (.list ((v.map aa).set 0 (.list (y.map PyData.int ++ [.int n])))) k,.deep)) ?_ ?_
 ·  simp only [g6,hz,hC,av,eF,e1,Out.calm_ok,Out.ok_bind,hcn]
    show (if sx (.int n)=true then av (modP (.int n) [0] (af v)) _ else Out.bad)=_
    rw [if_pos (show sx (.int n)=true from rfl),e2]; rfl
 refine Runs.next (σ':=fun w=>if w=z then none else upd σ z (.rule c (.list ((v.map aa).set 0 (.list (y.map PyData.int ++ [.int n])))) k,.deep) w) ?_ ?_
 ·  simp only [gK,fj,hC,av,eF,asL]
    rw [if_pos (by rw [List.length_set,List.length_map]; unfold lim; exact xB hv),mJ]
    rfl
 refine kk _ (fun w u hw=>?_) fun w hw=>(if_neg hw).trans (if_neg hw)
 have hwz:w≠z:=fun e=>by rw [e,hl'] at hw; cases hw
 obtain ⟨m,hm⟩:=H.sub hs w u hw
 exact ⟨m,(if_neg hwz).trans ((if_neg hwz).trans hm)⟩
theorem lK {p:List Int→Bool}{u T:List (List Int)} (h:∀ r,r∈T↔r∈u) (r:List Int):r∈fam p T↔r∈fam p u:=by
 have hm:∀ r,r∈T.filter p↔r∈u.filter p:=fun r=>by rw [List.mem_filter,List.mem_filter,h r]
 have he:T.filter p=[]↔u.filter p=[]:=by
    constructor
    · intro e; exact List.eq_nil_iff_forall_not_mem.mpr fun r hr=>by have:=(hm r).mpr hr; rw [e] at this; cases this
    · intro e; exact List.eq_nil_iff_forall_not_mem.mpr fun r hr=>by have:=(hm r).mp hr; rw [e] at this; cases this
 unfold fam
 by_cases e:T.filter p=[]
 ·  rw [if_pos e,if_pos (he.mp e)]; exact h r
 ·  rw [if_neg e,if_neg fun q=>e (he.mpr q)]; exact hm r
theorem sL {v ks ds A B:List (List Int)} (hv:v=aE ks) (hk:ks.Nodup) (hm:∀ s,s∈v↔s∈A) (hd:ds.Nodup) (hs:∀ s,s∈ds↔s∈B) (hAB:∀ s,s∈A↔s∈B):aE ds=v:=by
 rw [hv]
 refine tb hd hk fun s=>?_
 rw [hs,← hAB,← hm,hv]
 exact (List.mergeSort_perm ks _).mem_iff
theorem jR {L:List (String × Fn)} (lib:LibB L) (n:Nat) {c:Nat}{x:Int}{p:List Int→Bool}{d:Bool}{u T:List (List Int)}{σ:St}{lk z:String}{l:List (String × V)}{r:V × Mode} (hp:∀ r,p r=(decide (x∈r) == d)) (h:Hd (c + 1) u) (hT:∀ r,r∈T↔r∈u) (hl:T.length≤63) (h0:0≤x) (h1:x<(c:Int) + 1)
    (R:IsRule c ((fam p u).map (aI x)) r) (H:Has σ l) (hz:l.lookup z=some r.1) (hc:l.lookup "_law_count" = some (.d (.int ((c:Int) + 1)))) (ht:l.lookup "_law_thing" = some (.d (.int x))) (hlk:l.lookup lk=some (.d (af (fam p T)))) :
    ev (mkC L (n + 6)) (.call "_law_rule_is" (.cons (.name z) (.cons (.bin .sub (.name "_law_count") (.int 1)) (.cons (.call "_law_closed" (.cons (.name lk) (.cons (.name "_law_thing") .nil))) .nil)))) σ = .ok (sB true):=by
 obtain ⟨v,y,rfl,hv,hy,ks,hk1,hk2,hk3⟩:=R
 have hTn:T≠[]:=fun e=>by
    obtain ⟨a,ha⟩:=List.exists_mem_of_ne_nil u h.ne
    have:=(hT a).mpr ha
    rw [e] at this; cases this
 obtain ⟨q,e1,ds,hq,hd1,hd2⟩:=c7 (σ:=σ) (n:=n + 5) lib.clos (es:=.cons (.name lk) (.cons (.name "_law_thing") .nil)) (ai (H.ev hlk) (ai (H.ev ht) aw)) rfl (o7 (mkC L (n + 5)) (fam p T) x (tK hTn) (Nat.le_trans (ll p T) hl) fun r hr=>by have:=(h.rows r ((hT r).mp (gh hr))).1; exact fF this)
 obtain ⟨q1,q2⟩:=q
 cases hq
 have e:aE ds=v:=sL hk1 hk2 hv hd1 hd2 fun s=>by
    rw [List.mem_map,List.mem_map]
    exact ⟨fun ⟨a,ha,e⟩=>(ah a ((lK hT a).mpr ha) e),fun ⟨a,ha,e⟩=>(ah a ((lK hT a).mp ha) e)⟩
 rw [e] at e1
 have ec:ev (mkC L (n + 6)) (.bin .sub (.name "_law_count") (.int 1)) σ = .ok (sI c):=(kB (H.ev hc) (al 1)).trans (by rw [Int.add_sub_cancel])
 have hvl:v.length≤63:=by
    rw [hk1]
    have:=(List.mergeSort_perm ks fun a b=>!ltL b a).length_eq
    have hm:=(h.minor (d:=d) hp h0 h1).len
    unfold aE
    exact BR hk3 this hm
 refine bk lib.ruleIs (ai (H.ev hz) (ai ec (ai e1 aw))) rfl (e9 lib.toLibM (n + 2) c v y hy (by exact rJ hvl) fun r hr=>?_)
 have:=((h.minor (d:=d) hp h0 h1).rows r ((hv r).mp hr)).1
 exact fF this
theorem IsRule.small {c:Nat}{t:List (List Int)}{r:V × Mode} (R:IsRule c t r) (h:Hd c t):∃ v y,r=(.rule c (af v) (y:List Int).length,.deep)∧v[0]? = some y∧v.length≤1000∧y.length≤1000:=by
 obtain ⟨v,y,rfl,hv,hy,ks,hk1,hk2,hk3⟩:=R
 refine (aU v y rfl hy ?_ ?_)
 ·  rw [hk1]
    have:=(List.mergeSort_perm ks fun a b=>!ltL b a).length_eq
    have hm:=h.len
    unfold aE
    exact Bi hk3 this hm
 ·  have:=(h.rows y ((hv y).mp (List.mem_of_getElem? hy))).1
    exact fF this
end Mine
namespace Mine
open PySem
theorem su {L:List (String × Fn)} (lib:LibB L) (n:Nat) {c:Nat}{u T:List (List Int)} (k x:Int) (h:Hd (c + 1) u) (hT:∀ r,r∈T↔r∈u) (hl:T.length≤63) (h0:0≤x) (h1:x<(c:Int) + 1) :
    aB (mkC L (n + 6)) l_both_are [.rule ((c:Int) + 1) (af u) k,.d (.int ((c:Int) + 1)),.d (af T),.d (.int x)] = .ok (sB true):=by
 obtain ⟨g,hg⟩:=dM lib.toLibR (n + 5)
 have hp:∀ r:List Int,(!decide (x∈r))=(decide (x∈r) == false):=fun r=>by cases decide (x∈r) <;> rfl
 have hp':∀ r:List Int,decide (x∈r)=(decide (x∈r) == true):=fun r=>by cases decide (x∈r) <;> rfl
 unfold l_both_are
 refine cI rfl fun σ H=>?_
 obtain ⟨m1,e1,_⟩:=dD (C:=mkC L (n + 6)) (σ:=σ) (g:=aa) (l:=T) (z := "_law_choice") (it:=.e (.name "_law_table_here")) (c:=.cmp .notin (.name "_law_thing") (.name "_law_choice")) (a:=.name "_law_choice") (fun r=>r) (fun r=>!decide (x∈r)) .sh (aG (H.ev (x := "_law_table_here") rfl) (aH T .sh)) (fun r _=>by
    have H1:=H.mk "_law_choice" (.d (aa r))
    exact jj (H1.ev rfl) (H1.ev rfl)) fun r _ _=>(H.mk "_law_choice" (.d (aa r))).ev rfl
 rw [List.map_id'] at e1
 refine Runs.set H e1 fun σ H _=>?_
 obtain ⟨m2,e2,_⟩:=dD (C:=mkC L (n + 6)) (σ:=σ) (g:=aa) (l:=T) (z := "_law_choice") (it:=.e (.name "_law_table_here")) (c:=.cmp .isin (.name "_law_thing") (.name "_law_choice")) (a:=.name "_law_choice") (fun r=>r) (fun r=>decide (x∈r)) .sh (aG (H.ev (x := "_law_table_here") rfl) (aH T .sh)) (fun r _=>by
    have H1:=H.mk "_law_choice" (.d (aa r))
    exact nZ (H1.ev rfl) (H1.ev rfl)) fun r _ _=>(H.mk "_law_choice" (.d (aa r))).ev rfl
 rw [List.map_id'] at e2
 refine Runs.set H e2 fun σ H _=>?_
 refine Runs.iteTo (fun σ=>Has σ [("_law_rule", .rule ((c:Int) + 1) (af u) k),("_law_count", .d (.int ((c:Int) + 1))),("_law_table_here", .d (af T)),("_law_thing", .d (.int x)),("_law_lack", .d (af (fam (fun r=>!decide (x∈r)) T))),("_law_have", .d (af (T.filter fun r=>decide (x∈r))))]) (bq (H.ev (x := "_law_lack") rfl) dR (lx (T.filter fun r=>!decide (x∈r)) [])) (fun q=>?_) (fun q=>Runs.nil ⟨rfl,?_⟩) fun σ H=>?_
 ·  have q:=of_decide_eq_true q
    refine Runs.set H (H.ev (x := "_law_table_here") rfl) fun σ H _=>Runs.nil ⟨rfl,?_⟩
    unfold fam
    rw [if_pos q]
    exact H.sub (xc rfl rfl rfl rfl rfl rfl trivial)
 ·  have q:=of_decide_eq_false q
    unfold fam
    rw [if_neg q]
    exact H.sub (xc rfl rfl rfl rfl rfl rfl trivial)
 refine Runs.iteTo (fun σ=>Has σ [("_law_rule", .rule ((c:Int) + 1) (af u) k),("_law_count", .d (.int ((c:Int) + 1))),("_law_thing", .d (.int x)),("_law_lack", .d (af (fam (fun r=>!decide (x∈r)) T))),("_law_have", .d (af (fam (fun r=>decide (x∈r)) T)))]) (bq (H.ev (x := "_law_have") rfl) dR (lx (T.filter fun r=>decide (x∈r)) [])) (fun q=>?_) (fun q=>Runs.nil ⟨rfl,?_⟩) fun σ H=>?_
 ·  have q:=of_decide_eq_true q
    refine Runs.set H (H.ev (x := "_law_table_here") rfl) fun σ H _=>Runs.nil ⟨rfl,?_⟩
    have:fam (fun r=>decide (x∈r)) T=T:=by unfold fam; rw [if_pos q]
    rw [this]
    exact H.sub (c8 rfl rfl rfl rfl rfl trivial)
 ·  have q:=of_decide_eq_false q
    have:fam (fun r=>decide (x∈r)) T=T.filter fun r=>decide (x∈r):=by unfold fam; rw [if_neg q]
    rw [this]
    exact H.sub (c8 rfl rfl rfl rfl rfl trivial)
 obtain ⟨r1,e3,R1⟩:=n7 lib.toLibM n k x h h0 h1
 obtain ⟨r2,e4,R2⟩:=rC lib.toLibM n k x h h0 h1
 obtain ⟨v1,y1,s1,a1,b1,c1⟩:=R1.small (h.minor (d:=false) hp h0 h1)
 obtain ⟨v2,y2,s2,a2,b2,c2⟩:=R2.small (h.minor (d:=true) hp' h0 h1)
 have d1:r1.2 = .deep:=by rw [s1]
 have d2:r2.2 = .deep:=by rw [s2]
 refine Runs.next (σ':=upd σ "_law_less" r1) (iQ (bk lib.wo (ai (H.ev (x := "_law_rule") rfl) (ai (H.ev (x := "_law_thing") rfl) aw)) rfl e3) d1) ?_
 have H1:=H.upd "_law_less" r1.1 r1.2
 refine Runs.next (σ':=upd (upd σ "_law_less" r1) "_law_held_here" r2) (iQ (bk lib.tk (ai (H1.ev (x := "_law_rule") rfl) (ai (H1.ev (x := "_law_thing") rfl) aw)) rfl e4) d2) ?_
 have H2:=H1.upd "_law_held_here" r2.1 r2.2
 refine Runs.no (bZ (t:=true) (jR lib n (lk := "_law_lack") (z := "_law_less") hp h hT hl h0 h1 R1 H2 rfl rfl rfl rfl)) ?_
 have z1:upd (upd σ "_law_less" r1) "_law_held_here" r2 "_law_less" = some (.rule c (af v1) y1.length,.deep):=((if_neg (by decide)).trans (fj _ _ _)).trans (by rw [s1])
 refine xe (l':=[("_law_count", .d (.int ((c:Int) + 1))),("_law_thing", .d (.int x)),("_law_have", .d (af (fam (fun r=>decide (x∈r)) T))),("_law_held_here", r2.1)]) hg H2 z1 a1 b1 c1 rfl (by decide) (cf rfl rfl rfl rfl trivial) rfl fun σ' H3 hw=>?_
 refine Runs.no (bZ (t:=true) (jR lib n (lk := "_law_have") (z := "_law_held_here") hp' h hT hl h0 h1 R2 H3 rfl rfl rfl rfl)) ?_
 have z2:σ' "_law_held_here" = some (.rule c (af v2) y2.length,.deep):=((hw _ (by decide)).trans (fj _ _ _)).trans (by rw [s2])
 refine xe (l':=[]) hg H3 z2 a2 b2 c2 rfl (by decide) trivial rfl fun σ' H4 _=>?_
 exact Runs.ret (dw true) rfl
end Mine
namespace Mine
open PySem
noncomputable def o9:Fn:=⟨[],.nil⟩
noncomputable def rI:Fn:=⟨[],.nil⟩
noncomputable def sa:Fn:=⟨[],.nil⟩
noncomputable def nV:Fn:=⟨[],.nil⟩
noncomputable def rK:Fn:=⟨["_law_script"],
 (.cons (.assign "_law_made" (.call "_law_held" (.cons (.name "_law_script") .nil)))
 (.cons (.assign "_law_count" (.sub (.name "_law_made") (.int 0)))
 (.cons (.assign "_law_table_here" (.bi1 .sorted (.comp (.bi1 .sorted (.name "_law_choice")) "_law_choice" (.e (.sub (.name "_law_made") (.int 1))))))
 (.cons (.assign "_law_rule" (.call "Rule" (.cons (.name "_law_count") (.cons (.name "_law_table_here") .nil))))
 (.cons (.assign "_law_more" (.call "_law_cell_at" (.cons (.name "_law_script") (.cons (.int 3) .nil))))
 (.cons (.ite (.or (.cmp .eq (.name "_law_count") (.int 0)) (.cmp .eq (.bin .mod (.name "_law_more") (.int 6)) (.int 1)))
 (.cons (.ite (.not (.call "_law_refused" (.cons (.name "_law_rule") (.cons (.sub (.list (.cons (.name "_law_count") (.cons (.bin .sub (.neg (.int 1)) (.bin .mod (.name "_law_more") (.int 3))) (.cons (.bin .pow (.int 10) (.int 12)) .nil)))) (.bin .mod (.bin .fdiv (.name "_law_more") (.int 6)) (.int 3))) .nil))))
 (.cons (.ret (.bool false))
 .nil)
 .nil)
 (.cons (.ite (.cmp .eq (.name "_law_count") (.int 0))
 (.cons (.ret (.call "_law_rule_is" (.cons (.name "_law_rule") (.cons (.int 0) (.cons (.list (.cons (.list .nil) .nil)) .nil)))))
 .nil)
 .nil)
 .nil))
 .nil)
 (.cons (.assign "_law_thing" (.bin .mod (.bin .fdiv (.name "_law_more") (.int 6)) (.name "_law_count")))
 (.cons (.assign "_law_other" (.bin .mod (.call "_law_cell_at" (.cons (.name "_law_script") (.cons (.int 4) .nil))) (.name "_law_count")))
 (.cons (.ite (.or (.not (.call "_law_both_are" (.cons (.name "_law_rule") (.cons (.name "_law_count") (.cons (.name "_law_table_here") (.cons (.name "_law_thing") .nil)))))) (.not (.call "_law_both_are" (.cons (.name "_law_rule") (.cons (.name "_law_count") (.cons (.name "_law_table_here") (.cons (.name "_law_other") .nil)))))))
 (.cons (.ret (.bool false))
 .nil)
 .nil)
 (.cons (.assign "_law_full" (.list .nil))
 (.cons (.for1 "_law_choice" (.e (.name "_law_table_here"))
 (.cons (.ite (.cmp .notin (.name "_law_choice") (.name "_law_full"))
 (.cons (.append "_law_full" (.name "_law_choice"))
 .nil)
 .nil)
 .nil))
 (.cons (.ret (.and (.call "_law_both_are" (.cons (.name "_law_rule") (.cons (.name "_law_count") (.cons (.name "_law_table_here") (.cons (.name "_law_thing") .nil))))) (.call "_law_rule_is" (.cons (.name "_law_rule") (.cons (.name "_law_count") (.cons (.name "_law_full") .nil))))))
 .nil))))))))))))⟩
noncomputable def p_L:List (String × Fn):=[("PickError", o9),("NoChoice", rI),("NoThing", sa),("NoExchange", nV),("exchanged", p_exchanged),("known_of", p_known_of),("goes", p_goes),("fault", p_fault),("need_row", p_need_row),("Rule", p_Rule),("need_thing", p_need_thing),("cut_out", p_cut_out),("left_of", p_left_of),("without", p_without),("taken", p_taken),("_law_cell_at", l_cell_at),("_law_whole", l_whole),("_law_bit", l_bit),("_law_row_is", l_row_is),("_law_rows_are", l_rows_are),("_law_subsets", l_subsets),("_law_apart", l_apart),("_law_parts", l_parts),("_law_few", l_few),("_law_pairs_by", l_pairs_by),("_law_table", l_table),("_law_can", l_can),("_law_fault", l_fault),("_law_held", l_held),("_law_rule_is", l_rule_is),("_law_closed", l_closed),("_law_refused", l_refused),("_law_both_are", l_both_are),("law", rK)]
theorem libH:LibH p_L:=⟨⟨rfl,rfl,rfl,rfl,rfl,rfl,rfl,rfl,rfl,rfl,rfl,rfl,rfl,rfl⟩,rfl,rfl⟩
theorem libB:LibB p_L:=⟨⟨⟨libH.toLib,rfl,rfl,⟨_,rfl⟩⟩,rfl,rfl,rfl,rfl,rfl,rfl,rfl,rfl⟩,rfl,rfl,rfl⟩
theorem Runs.iteR {C:Calls}{c:E}{u b:Ss}{σ:St}{t:Bool}{Post:St→Flw→Prop} (Inv:St→Prop) (he:ev C c σ = .ok (sB t)) (kt:t=true→Runs C u σ (fun σ' fl=>match fl with | .next=>Inv σ' | .ret r=>Post σ' (.ret r))) (kf:t=false→Inv σ) (k:∀ σ',Inv σ'→Runs C b σ' Post):Runs C (.cons (.ite c u .nil) b) σ Post :=
 Runs.ite he (fun q=>(kt q).mono fun σ' fl h=>by
    cases fl with
    | next=>exact k σ' h
    | ret r=>exact h) fun q=>Runs.nil (k σ (kf q))
theorem wd {C:Calls}{σ:St}{a b d:E}{x y z:Int} (ha:ev C a σ = .ok (sI x)) (hb:ev C b σ = .ok (sI y)) (hd:ev C d σ = .ok (sI z)):ev C (.list (.cons a (.cons b (.cons d .nil)))) σ = .ok (.d (aa [x,y,z]),.deep):=by simp only [b7,br,bl,ha,hb,hd,Out.ok_bind]; rfl
theorem Hd.set {c:Nat}{t u:List (List Int)} (h:Hd c t) (hm:∀ r,r∈u↔r∈t) (hl:u.length≤t.length):Hd c u:=by
 refine ⟨h.hc,fun e=>?_,Nat.le_trans hl h.len,fun r hr=>h.rows r ((hm r).mp hr),fun q r hr=>h.few (Nat.lt_of_lt_of_le q hl) r ((hm r).mp hr),h.nf.set fun r=>(hm r).symm⟩
 obtain ⟨a,ha⟩:=List.exists_mem_of_ne_nil t h.ne
 have:=(hm a).mpr ha
 rw [e] at this; cases this
theorem mw (ks:List (List Int)) (r:List Int):r∈aE ks↔r∈ks:=(List.mergeSort_perm ks _).mem_iff
theorem mu (ks:List (List Int)):(aE ks).length=ks.length:=(List.mergeSort_perm ks _).length_eq
theorem uM {u ks:List (List Int)} (h:Hd 0 u) (hu:u=aE ks) (hk:ks.Nodup):u=[[]]:=by
 have all:∀ r∈ks,r=[]:=fun r hr=>by
    cases r with
    | nil=>rfl
    | cons x r=>
      have:=(h.rows _ (by rw [hu]; exact (mw ks _).mpr hr)).2.2 x (.head _)
      exfalso
      have h1:=this.1
      have h2:x<0:=this.2
      exact DF this
 have e:ks=[[]]:=by
    cases ks with
    | nil=>exact absurd (by rw [hu]; unfold aE; simp) h.ne
    | cons a ks=>
      cases ks with
      | nil=>rw [all a (.head _)]
      | cons b ks=>
        exfalso
        have ha:=all a (.head _)
        have hb:=all b (.tail _ (.head _))
        rw [ha,hb] at hk
        simp at hk
 rw [hu,e]
 unfold aE
 simp
theorem vU (s:List Int) (hs:s.length≤63):∃ m,aB (mkC p_L 8) rK [.d (aa s)] = .ok (.d (.bool true),m):=by
 refine ⟨.deep,?_⟩
 unfold rK
 refine cI rfl fun σ H=>?_
 obtain ⟨F1,e1,c,t,hr,hd⟩:=c7 (σ:=σ) (n:=7) libH.held (es:=.cons (.name "_law_script") .nil) (ai (H.ev rfl) aw) rfl (sM libH 3 s hs)
 obtain ⟨rv,rm⟩:=F1
 cases hr
 have hc:=hd.hc
 refine Runs.set H e1 fun σ H _=>?_
 refine Runs.set H (qE (m:=.sh) (H.ev (x := "_law_made") rfl) (al 0)) fun σ H _=>?_
 obtain ⟨m1,e2,_⟩:=cA (C:=mkC p_L 8) (σ:=σ) (g:=aa) (l:=t) (z := "_law_choice") (it:=.e (.sub (.name "_law_made") (.int 1))) (a:=.bi1 .sorted (.name "_law_choice")) (fun r=>r) .deep (aG (rt (m:=.sh) (H.ev (x := "_law_made") rfl) (al 1)) (aH t .sh)) fun r hr'=>kK ((Has.nil.mk "_law_choice" (.d (aa r))).ev rfl) (by have:=(hd.rows r hr').1; exact xp this) (fun i hi=>((hd.rows r hr').2.2 i hi).1) (hd.rows r hr').2.1
 rw [List.map_id'] at e2
 obtain ⟨m2,e3,_⟩:=lV e2 hd.ne (by have:=hd.len; exact Ci this)
 refine Runs.set H e3 fun σ H _=>?_
 have hT:Hd c (aE t):=hd.set (mw t) (by rw [mu]; exact Nat.le_refl _)
 obtain ⟨u,x,e4,hm,hx,ks,hk1,hk2,hk3⟩:=qf libB.toLibR 4 hT
 have hu:Hd c u:=hT.set hm (by rw [hk1,mu]; exact hk3)
 refine Runs.set H (pV libB.toLibR (ai (H.ev (x := "_law_count") rfl) (ai (H.ev (x := "_law_table_here") rfl) aw)) rfl e4) fun σ H _=>?_
 refine Runs.set H (bX libH.toLib (H.ev rfl) (al 3) (by decide)) fun σ H _=>?_
 generalize bf s 3=more at H
 let l0:List (String × V):=[("_law_script", .d (aa s)),("_law_count", .d (.int c)),("_law_table_here", .d (af (aE t))),("_law_rule", .rule c (af u) x.length),("_law_more", .d (.int more))]
 have a1:=Int.emod_nonneg (more / 6) (show (3:Int)≠0 by decide)
 have a2:=Int.emod_nonneg more (show (3:Int)≠0 by decide)
 refine Runs.iteR (fun σ=>Has σ l0∧c≠0) (d6 (cN (H.ev (x := "_law_count") rfl) (al 0)) fun uu=>cN (aX (H.ev (x := "_law_more") rfl) (al 6) (by decide)) (al 1)) (fun uu=>?_) (fun q=>⟨H.sub (c8 rfl rfl rfl rfl rfl trivial),fun e=>?_⟩) ?_
 ·  obtain ⟨o,ho,hb⟩:∃ o:Int,[(c:Int),-1 - more % 3,10 ^ 12][(more / 6 % 3).toNat]? = some o∧¬ (0≤o∧o<c):=by
      have:more / 6 % 3=0∨more / 6 % 3=1∨more / 6 % 3=2:=by exact Cc
      rcases this with q | q | q <;> rw [q]
      · exact (ah c rfl (fun h=>by exact CS h))
      · exact (ah (-1 - more % 3) rfl (fun h=>by exact BK h))
      · exact (ah (10 ^ 12) rfl (fun h=>by have:=h.2; exact BO hc h))
    have eo:ev (mkC p_L 8) (.sub (.list (.cons (.name "_law_count") (.cons (.bin .sub (.neg (.int 1)) (.bin .mod (.name "_law_more") (.int 3))) (.cons (.bin .pow (.int 10) (.int 12)) .nil)))) (.bin .mod (.bin .fdiv (.name "_law_more") (.int 6)) (.int 3))) σ = .ok (sI o) :=
      fy (wd (H.ev (x := "_law_count") rfl) (y:=-1 - more % 3) (kB (x:=-1) (by simp only [eT,lb,Out.ok_bind]; rfl) (aX (H.ev (x := "_law_more") rfl) (al 3) (by decide))) (z:=10 ^ 12) ((c6 (al 10) (al 12)).trans rfl)) (aX (eL (H.ev (x := "_law_more") rfl) (al 6) (by decide) (by decide)) (al 3) (by decide)) a1 ho
    refine Runs.no (bZ (t:=true) (bk libB.refu (ai (H.ev (x := "_law_rule") rfl) (ai eo aw)) rfl (oN libB.toLibM 4 c x.length o (af u) hb))) ?_
    refine Runs.ite (cN (H.ev (x := "_law_count") rfl) (al 0)) (fun q=>?_) fun q=>Runs.nil (Runs.nil ⟨H.sub (c8 rfl rfl rfl rfl rfl trivial),fun e=>of_decide_eq_false q (by rw [e]; rfl)⟩)
    have q:(c:Int)=0:=of_decide_eq_true q
    have q:c=0:=by exact qQ q
    subst q
    have hn:=uM hu hk1 hk2
    subst hn
    have hx0:x=[]:=by cases hx; rfl
    subst hx0
    refine Runs.ret (bk libB.ruleIs (ai (H.ev (x := "_law_rule") rfl) (ai (al 0) (ai kE aw))) rfl (e9 libB.toLibM 4 0 [[]] [] rfl (by decide) (by simp))) ?_
    exact rfl
 ·  subst e
    simp at q
 rintro σ ⟨H,hc0⟩
 obtain ⟨c,rfl⟩:∃ d,c=d + 1:=⟨c - 1,by exact Ct hc0⟩
 have hpos:(0:Int)<((c + 1:Nat):Int):=by exact wN
 have b1:=Int.emod_nonneg (more / 6) (show (((c + 1:Nat):Int))≠0 by exact wT)
 have b2:=Int.emod_lt_of_pos (more / 6) hpos
 refine Runs.set H (aX (eL (H.ev (x := "_law_more") rfl) (al 6) (by decide) (by decide)) (H.ev (x := "_law_count") rfl) hpos) fun σ H _=>?_
 refine Runs.set H (aX (bX libH.toLib (H.ev (x := "_law_script") rfl) (al 4) (by decide)) (H.ev (x := "_law_count") rfl) hpos) fun σ H _=>?_
 have d1:=Int.emod_nonneg (bf s 4) (show (((c + 1:Nat):Int))≠0 by exact wT)
 have d2:=Int.emod_lt_of_pos (bf s 4) hpos
 generalize bf s 4 % ((c + 1:Nat):Int)=other at H d1 d2
 generalize more / 6 % ((c + 1:Nat):Int)=thing at H b1 b2
 have both:∀ {σ:St}{l:List (String × V)}{z:String}{y:Int},Has σ l→l.lookup z=some (.d (.int y))→l.lookup "_law_rule" = some (.rule ((c + 1:Nat):Int) (af u) x.length)→l.lookup "_law_count" = some (.d (.int ((c + 1:Nat):Int)))→l.lookup "_law_table_here" = some (.d (af (aE t)))→0≤y→y<((c + 1:Nat):Int)→ev (mkC p_L 8) (.call "_law_both_are" (.cons (.name "_law_rule") (.cons (.name "_law_count") (.cons (.name "_law_table_here") (.cons (.name z) .nil))))) σ = .ok (sB true):=fun H z1 z2 z3 z4 y0 y1=>
    bk libB.both (ai (H.ev z2) (ai (H.ev z3) (ai (H.ev z4) (ai (H.ev z1) aw)))) rfl (su libB 1 x.length _ hu (fun r=>(hm r).symm) hT.len y0 (by exact BE y1))
 refine Runs.no (d6 (p:=false) (q:=false) (bZ (t:=true) (both H (z := "_law_thing") rfl rfl rfl rfl b1 b2)) fun uu=>bZ (t:=true) (both H (z := "_law_other") rfl rfl rfl rfl d1 d2)) ?_
 refine Runs.set H dR fun σ H hσ=>?_
 refine Runs.for (g:=aa) (xs:=aE t) (fun pre σ=>∃ ds m,Has σ [("_law_full", .d (af ds)),("_law_rule", .rule ((c + 1:Nat):Int) (af u) x.length),("_law_count", .d (.int ((c + 1:Nat):Int))),("_law_table_here", .d (af (aE t))),("_law_thing", .d (.int thing))]∧σ "_law_full" = some (.d (af ds),m)∧m≠.sh∧ds.length≤pre.length∧ds.Nodup∧ds.Sublist pre∧∀ s,s∈ds↔s∈pre) (aG (H.ev (x := "_law_table_here") rfl) (aH (aE t) .sh))
    (fun σ0 h hh=>(dy ([]) .deep ((h _ H).sub (c8 rfl rfl rfl rfl rfl trivial)) ((hh "_law_full" (by decide)).trans hσ) (by decide) (Nat.le_refl _) .nil .slnil (fun s=>Iff.rfl))) ?_ ?_
 ·  rintro pre y post hp σ ⟨ds,m,H,hσ,hm',hdl,hnd,hsub,hmem⟩
    have hpl:pre.length≤63:=by have:=hT.len; rw [hp] at this; simp at this; exact xo this
    have H1:=H.mk "_law_choice" (.d (aa y))
    have hσ1:upd σ "_law_choice" (mk (.d (aa y))) "_law_full" = some (.d (af ds),m):=(if_neg (by decide)).trans hσ
    have hmp:∀ s,s∈pre ++ [y]↔s∈ds∨s=y:=fun s=>by rw [List.mem_append,← hmem s]; simp
    refine Runs.ite (sy (H1.ev (x := "_law_choice") rfl) (H1.ev (x := "_law_full") rfl)) (fun q=>?_) fun q=>?_
    · have q:y∉ds:=by simpa using q
      refine Runs.appS H1 hσ1 hm' (by decide) (y := "_law_choice") rfl (by exact wP hdl hpl) fun σ' H2 h2=>Runs.nil (Runs.nil (dy (ds ++ [y]) .top (H2.sub (c8 rfl rfl rfl rfl rfl trivial)) h2 (by decide) (by simp; exact xb hdl) ?_ (hsub.append (.refl _)) (fun s=>?_)))
      · rw [List.nodup_append]
        exact ⟨hnd,by simp,fun a ha b hb e=>q (by rw [List.mem_singleton.mp hb] at e; exact e▸ha)⟩
      · rw [hmp,List.mem_append,List.mem_singleton]
    · have q:y∈ds:=by simpa using q
      exact Runs.nil (Runs.nil (dy ds m (H1.sub (c8 rfl rfl rfl rfl rfl trivial)) hσ1 hm' (by simp; exact mM hdl) hnd (hsub.trans (List.sublist_append_left _ _)) (fun s=>by rw [hmp]; exact ⟨.inl,fun h=>h.elim id fun e=>e▸q⟩)))
 ·  rintro σ ⟨ds,m,H,hσ,hm',hdl,hnd,hsub,hmem⟩
    have e:ds=u:=by
      have p:ds.Perm u:=(List.perm_ext_iff_of_nodup hnd (by rw [hk1]; exact (List.mergeSort_perm ks _).nodup_iff.mpr hk2)).mpr fun r=>(hmem r).trans (hm r).symm
      refine fh p ((fx t).sublist hsub) ?_
      rw [hk1]
      exact fx ks
    rw [e] at H
    refine Runs.ret (gO (p:=true) (q:=true) (both H (z := "_law_thing") rfl rfl rfl rfl b1 b2) fun uu=>bk libB.ruleIs (ai (H.ev (x := "_law_rule") rfl) (ai (H.ev (x := "_law_count") rfl) (ai (H.ev (x := "_law_full") rfl) aw))) rfl (e9 libB.toLibM 4 _ u x hx (by have:=hu.len; exact rJ this) fun r hr=>by have:=(hu.rows r hr).1; exact fF this)) rfl
end Mine
set_option tactic.hygienic true
open PySem PySem.W PyProof.Rows
set_option maxRecDepth 100000
set_option maxHeartbeats 8000000
theorem PySem.Challenge.cw_uf050037_12_holds : PySem.Challenge.rw_uf050037_12.Holds := by
 w_on; o_law; o_head (Mine.EV (Mine.bn Mine.p_L)); (case hw=>w_witness2)
 intro w s₀ s₁ mg mb G Y fa o pm cd doc dV kV ho hd hcd hD hmg hg args vals as hpre hlay hrd hwl hlo
 refine Ground.open G ?_
 intro T B D TE TW
 clear hd hcd hD
 wrow_args hpre hlay hrd hwl hlo
 rename_i ns _ _ _ _ _ _ _ a vs _ hL ra w1 r0 hI hr hc1 hc2
 have e:=Mine.qV (by simpa only [ofPy] using w1) hL
 obtain ⟨m,hsp⟩:=Mine.vU ns (by omega)
 refine Mine.uK (n:=8) (ns:=ns) T TE Y (L:=Mine.p_L) (by kernel_rfl) (by kernel_rfl) (by kernel_rfl) rfl (.inr (by decide)) rfl hmg (by decide) hsp e hI (by omega) fun h' tk kk=>?_
 refine ⟨.inl ⟨_,.bool true,[],rfl,?_,?_,?_,?_⟩,kk,rfl,.of_eq hg⟩
 ·  intro cls; first | rfl | exact raisesW_false allW_false_nil
 ·  exact .bool true
 ·  wrow_post
 ·  exact fun _=>⟨.nil,fun _ h=>nomatch h⟩
