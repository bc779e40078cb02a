import PyProof.Rows.All
import Wide.All
import Wide.FinOn
import Open.Line
import PyProof.P3Statements
import PyProof.Lay0
import PyProof.P3In
import PyProof.NeData
import PyProof.CompFree
import PyProof.DictRoadsH
import PyProof.DictWalks
import PyProof.Rows.SortShell
import PyProof.Rows.RuleB_xor
import PyProof.Rows.RuleB_small
import PyProof.Rows.RuleB_floordiv
import PyProof.Rows.RuleB_mod
import PyProof.Rows.RuleB_mul
import PyProof.Rows.IntRules
import PyProof.Rows.RuleC_int
import PyProof.Rows.RuleU_int
import PyProof.ListOps
import PyProof.Cells
import PyProof.Calls
import PyProof.SliceMore
import PyProof.TupleOfSeq
import PyProof.ListCopy
import PyProof.CodeObjX
import PyProof.Rows.PlainObj
import PyProof.ExcClass2
import PyProof.DictStraight
import PyProof.Rows.StrTemp
import PyProof.TupleOps
import PyProof.ListIndexNeg
import PyProof.Rules3
import PyProof.SliceList
import PyProof.Rows.TupSub
import PyProof.ForRange
import PyProof.Rows.DictMade
import PyProof.WalkInts
import PyProof.SeqI3
import PyProof.SumWalkG
import PyProof.WalksMore
import PyProof.IsiPairs
import PyProof.IsiHeapPairs
import PyProof.ListRange
import PyProof.Rows.SortWalk
import PyProof.IsiNone
import PyProof.Rows.SortRuns
import PyProof.Rows.CallKwBuiltin
import PyProof.DefMake
import PyProof.EvalArms
import PyProof.RangeFor
import PyProof.ListNew
import PyProof.Rows.DictUnroll
import PyProof.Rows.PlainNoArg
import PyProof.LetGo
import PyProof.ForAppend
import PyProof.CallRoads
import PyProof.MeetsSeq
import PyProof.AutoSeq1
import PyProof.ForAny
import PyProof.Raises
import PyProof.RaisesMany
import PyProof.StationsW
import PyProof.ExcBaseAll.ValueError
import PyProof.Rows.TupTab
import PyProof.RulesTry
import PyProof.ObjNew
import PyProof.InstStore
import PyProof.AssignAttr
import PySem.Challenge.RW_uf050037_05
set_option Elab.async false
set_option autoImplicit false
set_option bootstrap.genMatcherCode false
set_option genSizeOf false

namespace Mine
theorem nLe {x n:Nat} (h:(x:Int)≤@OfNat.ofNat Int n instOfNat):x≤n:=Int.ofNat_le.mp h
theorem nLm {x n:Nat} (h:x≤n):(x:Int)≤@OfNat.ofNat Int n instOfNat:=Int.ofNat_le.mpr h
theorem lte {a b c:Nat} (h:a<c) (e:b=c):a<b:=e▸h
theorem lee {a b c:Nat} (h:a≤c) (e:b=c):a≤b:=e▸h
theorem elt {a b c:Nat} (e:a=c) (h:c<b):a<b:=e▸h
theorem ele {a b c:Nat} (e:a=c) (h:c≤b):a≤b:=e▸h
theorem jle {a b c:Int} (e:a=c) (h:c≤b):a≤b:=e▸h
theorem nn {x:Int}{n:Nat} (e:x = ↑n):0≤x:=e▸Int.natCast_nonneg n
theorem m9 {x:Int}{n:Nat} (h:7 + x / 9 % 3 = ↑n):n≤9:=by lia
theorem m18 {x:Int}{n:Nat} (h:7 + x % 12 = ↑n):n≤18:=by lia
theorem m12 {x:Int}{n:Nat} (h:7 + x % 6 = ↑n):n≤12:=by lia
theorem m4 {x:Int}{n:Nat} (h:1 + x % 4 = ↑n):n≤4:=by lia
theorem m5 {x:Int}{n:Nat} (h:x % 6 = ↑n):n≤5:=by lia
theorem p9 {x y:Int} (h:1 + x / 3 % 9=y):0<y:=by lia
theorem q9 {x y:Int} (h:1 + x / 3 % 9=y):y≤9:=by lia
theorem r9 {x y:Int} (h:x / 27 % 9=y):0≤y:=by lia
theorem dbl {a b:Nat} (h:a≤b):a + a≤b * 2:=by lia
theorem tlt {x:Int}{n:Nat} (h0:0<n) (h:x < ↑n):x.toNat<n:=by lia
theorem tln {x:Int}{n:Nat} (h0:0≤x) (h:x < ↑n):x.toNat<n:=by lia
theorem nxl {a b c:Nat} (h:a + b<c):a<c:=Nat.lt_of_le_of_lt (Nat.le_add_right a b) h
theorem nxe {a b c:Nat} (h:a + b≤c):a≤c:=Nat.le_trans (Nat.le_add_right a b) h
theorem adl {a b c d:Nat} (h:b<c) (g:a + c≤d):a + b<d:=Nat.lt_of_lt_of_le (Nat.add_lt_add_left h a) g
theorem adE {a b c d:Nat} (h:b≤c) (g:a + c≤d):a + b≤d:=Nat.le_trans (Nat.add_le_add_left h a) g
theorem pG {a b c:Nat} (h:a<c):a - b<c:=Nat.lt_of_le_of_lt (Nat.sub_le a b) h
theorem Dl {a b c:Nat} (h:a≤c):a - b≤c:=Nat.le_trans (Nat.sub_le a b) h
theorem mne {a b c:Nat} (h:b≤c):min a b≤c:=Nat.le_trans (Nat.min_le_right a b) h
theorem mnl {a b c:Nat} (h:a≤c):min a b≤c:=Nat.le_trans (Nat.min_le_left a b) h
end Mine
namespace Mine
theorem vlo {a b c:Nat}:a≤a + b - (a + b - (a + c)):=Nat.le_sub_of_add_le (Nat.add_le_add_left (Nat.le_trans (Nat.le_of_eq (Nat.add_sub_add_left a b c)) (Nat.sub_le b c)) a)
theorem pl {a b:Nat} (p:0<a) (h:a<b + 1):a - 1<b:=Nat.lt_of_lt_of_le (Nat.sub_one_lt (Nat.ne_of_gt p)) (Nat.le_of_lt_succ h)
theorem sl {a b:Nat} (h:1≤b):a + b - 1<a + b:=Nat.sub_lt (Nat.lt_of_lt_of_le h (Nat.le_add_left _ _)) Nat.one_pos
theorem mn2 {a b:Nat}:min a b + 1 + (b - a)=b + 1:=by rw [Nat.add_right_comm,Nat.add_comm (min a b),Nat.min_comm,Nat.sub_add_min_cancel]
theorem ts {a b:Nat}{x:Int} (e:x = ↑b):((a:Int) - (x + 1)).toNat=a - (b + 1):=by subst e; exact Int.toNat_sub a (b + 1)
theorem r9b {x y:Int} (h:x / 27 % 9=y):y≤8:=h▸Int.le_of_lt_add_one (Int.emod_lt_of_pos _ (by decide))
end Mine
namespace Mine
theorem rm1 {u k c:Nat}{b:Prop} [Decidable b] (h:u + 100 * k + (if b then 200 else 300)<c):u + 1<c:=Nat.lt_of_le_of_lt (Nat.add_le_add (Nat.le_add_right u _) (by split <;> decide)) h
theorem na1 {a:Int} (h:a.natAbs<2 ^ 63):-2 ^ 64<a:=by lia
theorem na2 {a:Int} (h:a.natAbs<2 ^ 63):a<2 ^ 64:=by lia
end Mine
namespace Mine
theorem la1 {a:Int}{b:Nat}: (0:Int)≤a→a<(↑b:Int)→a.toNat<b:=fun p q=>(Mine.tln p q)
theorem la2 {a:Nat}: (0:Nat)<a→(↑a:Int)≠(0:Int):=fun p=>(Int.ne_of_gt (Int.natCast_pos.mpr p))
theorem la3 {a:Nat}: (0:Nat)<a→(0:Int)<(↑a:Int):=fun p=>(Int.natCast_pos.mpr p)
theorem la4 {a:Int}{b:Nat}: (0:Nat)<b→a % (↑b:Int)<(↑b:Int)→(a % (↑b:Int)).toNat<b:=fun p q=>(Mine.tlt p q)
theorem la5 {a b c:Int}: c≤b→(0:Int)≤a∧a<c→a<b:=fun p q=>(Int.lt_of_lt_of_le q.2 p)
theorem la6 {a b c:Int}: c≤b→(0:Int)≤a∧a<c→(0:Int)≤a∧a<b + (1:Int):=fun p q=>And.intro q.1 (Int.lt_of_lt_of_le q.2 (Int.le_trans p (Int.le_of_lt (Int.lt_succ _))))
theorem la7 {a b:Int}: (0:Int)≤b→b≤a→(0:Int)≤a∧a<a + (1:Int):=fun p q=>(And.intro (Int.le_trans p q) (Int.lt_succ _))
theorem la8 {a b c:Int}: c≤b→(0:Int)≤a∧a<c→(0:Int)≤a∧a<b:=fun p q=>(And.intro q.1 (Int.lt_of_lt_of_le q.2 p))
theorem la9 {a b c:Nat}: b=a + (c + 1)→a<b:=fun p=>(Mine.lte (Nat.lt_add_of_pos_right (Nat.succ_pos _)) p)
theorem EO {a:Nat}: a≤7→a≤1000000:=fun p=>(Nat.le_trans p (by decide))
theorem yI {a b:Nat}: b≤7→a<b→a≤6:=fun p q=>(Nat.le_of_lt_succ (Nat.lt_of_lt_of_le q p))
theorem Ev {a b c:Nat}: b≤7→c<b→a≤c→a + 1≤1000000:=fun p q r=>(Nat.le_trans (Nat.le_trans (Nat.succ_le_of_lt (Nat.lt_of_le_of_lt r q)) p) (by decide))
theorem D8 {a b:Nat}: a≤b→b≤2 ^ 6→a + a≤1000000:=fun p q=>(Nat.le_trans (Mine.dbl (Nat.le_trans p q)) (by decide))
theorem yE {a b:Nat}: a≤b→a + a≤b * 2:=fun p=>(Mine.dbl p)
theorem yb {a:Nat}: (↑a:Int)≤(↑(a + (1:Nat)):Int):=(Int.ofNat_le.mpr (Nat.le_add_right _ _))
theorem yV {a:Nat}{b:Int}: b=(↑a:Int)→(↑a:Int)≤b:=fun p=>(Int.le_of_eq (Eq.symm p))
theorem yq {a:Int}{b:Nat}: a=(↑b:Int)→a + (1:Int)≤(↑(b + (1:Nat)):Int):=fun p=>Int.le_of_eq (by rw [p]; rfl)
theorem uo {a b:Nat}: a<a + (b + 1):=(Nat.lt_add_of_pos_right (Nat.succ_pos _))
theorem Ew {a b:Nat}: a=b→b≤2 ^ 6→a + a≤1000000:=fun p q=>(Nat.le_trans (Mine.dbl (Mine.ele p q)) (by decide))
theorem Do {a b:Nat}: a=b→a + a=b * 2:=fun p=>by rw [p,Nat.mul_two]
theorem DU {a:Nat}: a≤5→a≤1000000:=fun p=>(Nat.le_trans p (by decide))
theorem Dp {a b:Nat}: b≤5→a<b→a≤5:=fun p q=>(Nat.le_trans (Nat.le_of_lt q) p)
theorem yv {a b c:Nat}: b≤5→c<b→a≤c→a + 1≤1000000:=fun p q r=>(Nat.le_trans (Nat.le_trans (Nat.succ_le_of_lt (Nat.lt_of_le_of_lt r q)) p) (by decide))
theorem EL {a b:Nat}: a≤b→b≤2 ^ 5→a + a≤1000000:=fun p q=>(Nat.le_trans (Mine.dbl (Nat.le_trans p q)) (by decide))
theorem DB {a:Nat}{b:Int}: b=(↑a:Int)→(2:Int) * (↑a:Int)≤(2:Int) * b:=fun p=>Int.le_of_eq (by rw [p])
theorem Dk {a:Int}{b:Nat}: a=(↑b:Int)→(2:Int) * a + (1:Int)≤(2:Int) * (↑(b + (1:Nat)):Int):=by intro p; lia
theorem El {a:Nat}{b:Int}: b=(↑a:Int)→(2:Int) * (↑a:Int)≤(2:Int) * b + (1:Int):=by intro p; lia
theorem DO {a:Int}{b:Nat}: a=(↑b:Int)→(2:Int) * a + (1:Int) + (1:Int)≤(2:Int) * (↑(b + (1:Nat)):Int):=by intro p; lia
theorem DY {a:Int}: a % (6:Int)=(↑(a % (6:Int)).toNat:Int):=(Eq.symm (Int.toNat_of_nonneg (Int.emod_nonneg _ (by decide))))
theorem Dj {a:Nat}{b:Int}: b % (6:Int)=(↑a:Int)→a≤(1000000:Nat):=fun p=>(Nat.le_trans (Mine.m5 p) (by decide))
theorem yC {a:Int}{b:Nat}: (0:Int)≤a∧a<(↑b:Int)→(0:Int)≤(6:Int) + a:=fun p=>(Int.add_nonneg (by decide) p.1)
theorem yB {a:Nat}: a≤(6:Nat)→(↑a:Int)≤(100:Int):=fun p=>(Int.le_trans (Int.ofNat_le.mpr p) (by decide))
theorem D9 {a:Nat}{b:Int}: b % (6:Int)=(↑a:Int)→a≤(63:Nat):=fun p=>(Nat.le_trans (Mine.m5 p) (by decide))
theorem yW {a b:Nat}: b≤6→a≤b→a≤12:=fun p q=>(Nat.le_trans q (Nat.le_trans p (by decide)))
theorem Df {a:Int}: (7:Int) + a / (9:Int) % (3:Int)=(↑((7:Int) + a / (9:Int) % (3:Int)).toNat:Int):=(Int.toNat_of_nonneg (Int.add_nonneg (by decide) (Int.emod_nonneg _ (by decide)))).symm
theorem EN {a:Nat}{b:Int}: (7:Int) + b / (9:Int) % (3:Int)=(↑a:Int)→a≤(1000000:Nat):=fun p=>(Nat.le_trans (Mine.m9 p) (by decide))
theorem DL {a:Int}{b:Nat}: a=(↑b:Int)→(0:Int)≤a + (1:Int):=fun p=>(Int.add_nonneg (Mine.nn p) (by decide))
theorem DP {a b:Int}{c d:Nat}: (7:Int) + b / (9:Int) % (3:Int)=(↑c:Int)→a=(↑d:Int)→d<c→a + (1:Int)≤(1000:Int):=fun p q r=>by subst q; exact Int.ofNat_le.mpr (Nat.le_trans r (Nat.le_trans (m9 p) (by decide)))
theorem Ex {a:Nat}{b:Int}: (7:Int) + b / (9:Int) % (3:Int)=(↑a:Int)→(↑a:Int)≤(1000:Int):=fun p=>(Int.le_trans (Int.ofNat_le.mpr (Mine.m9 p)) (by decide))
theorem Ek {a:Nat}{b:Int}{c:Nat}: (7:Int) + b / (9:Int) % (3:Int)=(↑c:Int)→a<c→a≤(9:Nat):=fun p q=>(Nat.le_trans (Nat.le_of_lt q) (Mine.m9 p))
theorem Dq {a b:Nat}{c d:Int}{e f:Nat}: (7:Int) + d / (9:Int) % (3:Int)=(↑b:Int)→a≤e→c=(↑f:Int)→e≤(36:Nat)→a + ((↑b:Int) - (c + (1:Int))).toNat≤(1000000:Nat):=fun p q r s=>Nat.le_trans (Nat.add_le_add (Nat.le_trans q s) (Nat.le_trans (Nat.le_of_eq (ts r)) (Nat.le_trans (Nat.sub_le _ _) (m9 p)))) (by decide)
theorem Dg {a b:Nat}{c:Int}{d e:Nat}{f:Int}: (7:Int) + f / (9:Int) % (3:Int)=(↑b:Int)→a≤d→c=(↑e:Int)→a + ((↑b:Int) - (c + (1:Int))).toNat≤d + ((8:Nat) - e):=fun p q r=>Nat.add_le_add q (Nat.le_trans (Nat.le_of_eq (ts r)) (Nat.le_trans (Nat.sub_le_sub_right (m9 p) _) (Nat.le_of_eq (Nat.succ_sub_succ 8 _))))
theorem Dv {a:Int}{b:Nat}: a<a + (1:Int) + (↑b:Int):=by lia
theorem Dt {a:Int}{b c:Nat}: c<b→a=(↑c:Int)→(0:Int)≤a∧a<(↑b:Int):=fun p q=>by subst q; exact ⟨Int.natCast_nonneg _,Int.ofNat_lt.mpr p⟩
theorem Du {a:Int}{b c d:Nat}: a=(↑d:Int)→b<((↑c:Int) - (a + (1:Int))).toNat→(0:Int)≤a + (1:Int) + (↑b:Int)∧a + (1:Int) + (↑b:Int)<(↑c:Int):=fun p q=>And.intro (Int.add_nonneg (Int.add_nonneg (nn p) (by decide)) (Int.natCast_nonneg _)) (by subst p; exact Int.ofNat_lt.mpr (Nat.add_lt_of_lt_sub' (Nat.lt_of_lt_of_eq q (ts rfl))))
theorem EJ {a:Nat}{b:Int}: (7:Int) + b / (9:Int) % (3:Int)=(↑a:Int)→a≤(9:Nat):=fun p=>(Mine.m9 p)
theorem DQ {a:Nat}{b:Int}: (7:Int) + b / (9:Int) % (3:Int)=(↑a:Int)→(↑a:Int)≤(100:Int):=fun p=>(Int.le_trans (Int.ofNat_le.mpr (Mine.m9 p)) (by decide))
theorem Ef {a b:Nat}: a≤b→b≤36→a≤63:=fun p q=>(Nat.le_trans p (Nat.le_trans q (by decide)))
theorem mz {a:Nat}: (0:Int)<(↑a:Int) + (1:Int):=(Int.lt_add_one_of_le (Int.natCast_nonneg _))
theorem Ed {a:Int}{b:Nat}: b=(7:Nat)→(a / (9:Int) % (7:Int)).toNat<b:=fun p=>p▸(Int.toNat_lt (Int.emod_nonneg _ (by decide))).mpr (Int.emod_lt_of_pos _ (by decide))
theorem DV {a b:Int}: (0:Int)≤a∧a≤b→a=(↑a.toNat:Int):=fun p=>(Eq.symm (Int.toNat_of_nonneg p.1))
theorem Dm {a b:Int}: (0:Int)≤a∧a≤b→(↑a.toNat:Int)≤b:=fun p=>(Mine.jle (Int.toNat_of_nonneg p.1) p.2)
theorem DF {a:Int}: (1:Int) + a % (4:Int)=(↑((1:Int) + a % (4:Int)).toNat:Int):=(Int.toNat_of_nonneg (Int.add_nonneg (by decide) (Int.emod_nonneg _ (by decide)))).symm
theorem DX {a:Nat}: a≤(63:Nat)→¬(63:Int)<(↑a:Int):=fun p=>(Int.not_lt.mpr (Mine.nLm p))
theorem De {a:Nat}{b:Int}: (1:Int) + b % (4:Int)=(↑a:Int)→a≤(5:Nat):=fun p=>(Nat.le_trans (Mine.m4 p) (by decide))
theorem EI {a:Nat}{b:Int}: (1:Int) + b % (4:Int)=(↑a:Int)→(2:Int) * (↑a:Int)≤(100:Int):=fun p=>Int.ofNat_le.mpr (Nat.le_trans (Nat.mul_le_mul_left 2 (m4 p)) (by decide))
theorem Dd {a:Nat}: a≤32→a≤63:=fun p=>(Nat.le_trans p (by decide))
theorem D6 {a:Nat}{b:Int}{c:Nat}: (1:Int) + b % (4:Int)=(↑c:Int)→a≤c→a≤(12:Nat):=fun p q=>(Nat.le_trans q (Nat.le_trans (Mine.m4 p) (by decide)))
theorem DK {a:Nat}: (↑a:Int)≤(6:Int)→a≤(6:Nat):=fun p=>(Mine.nLe p)
theorem yX {a:Nat}: (↑a:Int)≤(7:Int)→a≤(1000000:Nat):=fun p=>(Nat.le_trans (Mine.nLe p) (by decide))
theorem EE {a b:Nat}: (↑b:Int)≤(7:Int)→a<b→a≤(6:Nat):=fun p q=>(Nat.le_of_lt_succ (Nat.lt_of_lt_of_le q (Mine.nLe p)))
theorem Ey {a b c:Nat}: (↑b:Int)≤(7:Int)→c<b→a≤c→a + (1:Nat)≤(1000000:Nat):=fun p q r=>Nat.le_trans (Nat.succ_le_succ r) (Nat.le_trans q (Nat.le_trans (nLe p) (by decide)))
theorem DG {a b c:Nat}: a≤c→c≤2 ^ 6→b≤a→a + b≤1000000:=fun p q r=>Nat.le_trans (Nat.add_le_add (Nat.le_trans p q) (Nat.le_trans r (Nat.le_trans p q))) (by decide)
theorem Ep {a b c:Nat}: a≤c→b≤a→a + b≤c * 2:=fun p q=>(Mine.adE q (Mine.dbl p))
theorem y7 {a:Nat}: (↑a:Int)≤(7:Int)→a≤(7:Nat):=fun p=>(Mine.nLe p)
theorem Dw {a:Int}{b c:Nat}: b=c→(0:Int)≤a∧a<(↑c:Int)→(0:Int)≤a∧a<(↑b:Int):=fun p q=>p▸q
theorem EK {a b:Nat}: (↑b:Int)≤(7:Int)→a≤b→a≤(7:Nat):=fun p q=>(Nat.le_trans q (Mine.nLe p))
theorem EH {a b:Nat}: a≤b→b≤63→a≤63:=fun p q=>(Nat.le_trans p q)
theorem Dy {a:Nat}: (↑a:Int)≤(7:Int)→(↑a:Int)≤(100:Int):=fun p=>(Int.le_trans p (by decide))
theorem Ec {a b:Nat}: (↑b:Int)≤(7:Int)→a≤b→a≤(12:Nat):=fun p q=>(Nat.le_trans q (Nat.le_trans (Mine.nLe p) (by decide)))
theorem C9 {a b c d:Int}: b * c<b * d→a + b * c<a + b * d:=fun p=>(Int.add_lt_add_left p _)
theorem D7 {a b c d:Int}: (0:Int)≤a→(0:Int)≤b * c→b * c<b * d→(0:Int)≤a + b * c∧a + b * c<a + b * d:=fun p q r=>(And.intro (Int.add_nonneg p q) (Int.add_lt_add_left r _))
theorem DJ {a b:Nat}: a<b→(↑a:Int)<(↑b:Int):=fun p=>(Int.ofNat_lt.mpr p)
theorem Ds {a:Int}: (7:Int) + a % (12:Int)=(↑((7:Int) + a % (12:Int)).toNat:Int):=(Int.toNat_of_nonneg (Int.add_nonneg (by decide) (Int.emod_nonneg _ (by decide)))).symm
theorem EM {a:Nat}{b:Int}: (7:Int) + b % (12:Int)=(↑a:Int)→a≤(1000000:Nat):=fun p=>(Nat.le_trans (Mine.m18 p) (by decide))
theorem Da {a:Int}: (0:Int)<(1:Int) + a / (12:Int) % (4:Int):=by lia
theorem EF {a:Nat}{b:Int}: (7:Int) + b % (12:Int)=(↑a:Int)→(↑a:Int)≤(100:Int):=fun p=>(Int.le_trans (Int.ofNat_le.mpr (Mine.m18 p)) (by decide))
theorem Eg {a:Nat}{b:Int}{c:Nat}: (7:Int) + b % (12:Int)=(↑c:Int)→a≤c→a≤(63:Nat):=fun p q=>(Nat.le_trans q (Nat.le_trans (Mine.m18 p) (by decide)))
theorem ya {a:Int}{b:Nat}: (0:Int)≤a∧a<(↑b:Int)→(0:Int)≤a∧a<(↑b:Int):=by intro p; omega
theorem DC {a:Int}: (7:Int) + a % (6:Int)=(↑((7:Int) + a % (6:Int)).toNat:Int):=(Int.toNat_of_nonneg (Int.add_nonneg (by decide) (Int.emod_nonneg _ (by decide)))).symm
theorem yf {a:Nat}{b:Int}: (7:Int) + b % (6:Int)=(↑a:Int)→a≤(1000000:Nat):=fun p=>(Nat.le_trans (Mine.m12 p) (by decide))
theorem Dr {a:Nat}{b:Int}: (7:Int) + b % (6:Int)=(↑a:Int)→(↑a:Int)≤(100:Int):=fun p=>(Int.le_trans (Int.ofNat_le.mpr (Mine.m12 p)) (by decide))
theorem DN {a:Nat}{b:Int}: (7:Int) + b % (6:Int)=(↑a:Int)→a≤(63:Nat):=fun p=>(Nat.le_trans (Mine.m12 p) (by decide))
theorem En {a:Nat}{b:Int}{c:Nat}: (7:Int) + b % (6:Int)=(↑c:Int)→a≤c→a≤(12:Nat):=fun p q=>(Nat.le_trans q (Mine.m12 p))
theorem EB {a:Int}: ¬(9:Int)<a→a≤(9:Int):=fun p=>(Int.not_lt.mp p)
theorem DE {a:Nat}: ¬(8:Int)<(↑a:Int)→a≤(8:Nat):=fun p=>(Mine.nLe (Int.not_lt.mp p))
theorem EC {a b:Nat}: b≤8→a<b→a<1000000:=fun p q=>(Nat.lt_of_lt_of_le q (Nat.le_trans p (by decide)))
theorem Ee {a b:Int}: (1:Int) + b / (3:Int) % (9:Int)=a→(0:Int)≤a:=fun p=>(Int.le_of_lt (Mine.p9 p))
theorem Dx {a b:Int}: (1:Int) + b / (3:Int) % (9:Int)=a→a≤(9:Int):=fun p=>(Mine.q9 p)
theorem DZ {a b c d:Int}: d / (27:Int) % (9:Int)=a→(0:Int)≤b * c→(0:Int)≤a + b * c:=fun p q=>(Int.add_nonneg (Mine.r9 p) q)
theorem Db {a b c d:Int}: d / (27:Int) % (9:Int)=a→b * c≤(9:Int) * (9:Int)→a + b * c≤(100:Int):=fun p q=>Int.le_trans (Int.add_le_add (r9b p) q) (by decide)
theorem EQ {a:Nat}: a≤8→a≤63:=fun p=>(Nat.le_trans p (by decide))
theorem Ez {a:Nat}: a≤12→a≤12:=by intro p; omega
theorem EG {a b:Int}: b / (27:Int) % (9:Int)=a→(0:Int)≤a:=fun p=>(Mine.r9 p)
theorem Eo {a b:Int}: (1:Int) + b / (3:Int) % (9:Int)=a→(0:Int)<a:=fun p=>(Mine.p9 p)
theorem DI {a b:Nat}: b<63→a≤b→a + 1≤1000000:=fun p q=>(Nat.le_trans (Nat.succ_le_of_lt (Nat.lt_of_le_of_lt q p)) (by decide))
theorem DM {a b:Nat}: b<63→a≤b→a + 1<64:=fun p q=>(Nat.add_lt_add_right (Nat.lt_of_le_of_lt q p) _)
theorem qm {a:Nat}: a≤1000→a≤1000000:=fun p=>(Nat.le_trans p (by decide))
theorem yP {a b:Nat}: b≤1000→a≤b→a≤1000000:=fun p q=>(Nat.le_trans q (Nat.le_trans p (by decide)))
theorem vg {a b:Nat}: a≤b→a≤b + 1:=fun p=>(Nat.le_succ_of_le p)
theorem lB {a b:Nat}: a≤b→a + 1≤b + 1:=fun p=>(Nat.succ_le_succ p)
theorem B3 {a b:Nat}: b≤1000→a<b→a≤1000:=fun p q=>(Nat.le_trans (Nat.le_of_lt q) p)
theorem CV {a:Int}: (0:Int)≤a→a<(0:Int)→False:=fun p q=>(absurd q (Int.not_lt.mpr p))
theorem AJ {a:Nat}{b:Int}: b≤(↑a:Int)→(↑a:Int)<b→False:=fun p q=>(absurd q (Int.not_lt.mpr p))
theorem A2 {a:Int}{b:Nat}: b<(1000000:Nat)→min a.toNat b + (b - a.toNat + (1:Nat))≤(1000000:Nat):=fun p=>Nat.le_trans (Nat.le_of_eq (by rw [Nat.add_comm (_ - _) 1,← Nat.add_assoc]; exact mn2)) p
theorem vh {a b:Int}: (0:Int)≤a∧a<b→a<(0:Int)→False:=fun p q=>(absurd q (Int.not_lt.mpr p.1))
theorem vO {a b:Int}: (0:Int)≤a∧a<b→b≤a→False:=fun p q=>(absurd p.2 (Int.not_lt.mpr q))
theorem Aj {a:Int}{b:Nat}: a=(↑b:Int)→(0:Int)≤(13:Int) + a:=fun p=>(Int.add_nonneg (by decide) (Mine.nn p))
theorem vB {a:Int}{b:Nat}: (0:Int)≤a∧a<(↑b:Int)→(0:Int)≤a∧a<(↑(b + (1:Nat)):Int):=fun p=>And.intro p.1 (Int.lt_trans p.2 (Int.ofNat_lt.mpr (Nat.lt_succ_self _)))
theorem vx {a:Nat}: (↑a:Int) + (1:Int)≠(0:Int):=(Int.ne_of_gt (Int.lt_add_one_of_le (Int.natCast_nonneg _)))
theorem BZ {a b c:Nat}: b≤1000→c<b→a≤c→a<1000000:=fun p q r=>(Nat.lt_of_lt_of_le (Nat.lt_of_lt_of_le (Nat.lt_of_le_of_lt r q) p) (by decide))
theorem BM {a:Int}{b:Nat}: a / (3:Int) % ((↑b:Int) + (1:Int))<(↑b:Int) + (1:Int)→a / (3:Int) % ((↑b:Int) + (1:Int))≤(↑b:Int):=fun p=>(Int.le_of_lt_add_one p)
theorem zF {a:Int}{b:Nat}: a=(↑b:Int)→(0:Int)≤a:=fun p=>(Mine.nn p)
theorem zv {a:Int}{b:Nat}: a=(↑b:Int)→a<(↑(b + (1:Nat)):Int):=fun p=>(Int.lt_of_le_of_lt (Int.le_of_eq p) (Int.ofNat_lt.mpr (Nat.lt_succ_self _)))
theorem C3 {a:Int}{b:Nat}: a=(↑b:Int)→(0:Int)≤a∧a<(↑b:Int)→False:=fun p q=>(absurd p (Int.ne_of_lt q.2))
theorem By {a b c:Int}: a<c→c≤b→a≤b:=fun p q=>(Int.le_trans (Int.le_of_lt p) q)
theorem As {a b c:Int}: ¬c<a→c≤b→a≤b:=fun p q=>(Int.le_trans (Int.not_lt.mp p) q)
theorem uS {a b:Nat}: a≤b→b≤100→a≤1000:=fun p q=>(Nat.le_trans p (Nat.le_trans q (by decide)))
theorem qb {a:Nat}: (0:Int)≤(↑a:Int):=(Int.natCast_nonneg _)
theorem pH {a b:Int}: a≤b→b≤a→a=b:=fun p q=>(Int.le_antisymm p q)
theorem BV {a b:Nat}{c:Int}: (↑a:Int)=c→c=(↑b:Int)→a=b:=fun p q=>Int.ofNat.inj (p.trans q)
theorem zl {a:Int}{b c d:Nat}: (↑c:Int)=a→d=b→(↑d:Int)≤a→c≤b→a=(↑b:Int):=fun p q r s=>by subst p q; exact congrArg Nat.cast (Nat.le_antisymm s (Int.ofNat_le.mp r))
theorem pw {a:Nat}: a≤100→a≤1000:=fun p=>(Nat.le_trans p (by decide))
theorem ze {a:Int}: a / (6:Int) % (3:Int)=(0:Int)∨a / (6:Int) % (3:Int)=(1:Int)∨a / (6:Int) % (3:Int)=(2:Int):=by lia
theorem z9 {a:Nat}: a≤(100:Nat)→(↑a:Int)≤(10:Int) ^ (12:Nat):=fun p=>(Int.le_trans (Int.ofNat_le.mpr p) (by decide))
theorem B6 {a:Int}{b:Nat}{c:Prop}: a<(0:Int)∨(↑b:Int)≤a→a<(0:Int)∨(↑b:Int)≤a∨c:=fun p=>p.imp id Or.inl
theorem Cg {a:Int}{b:Nat}: (0:Nat)<b→a / (36:Int) % (↑b:Int)<(↑b:Int)→(a / (36:Int) % (↑b:Int)).toNat<b:=fun p q=>(Mine.tlt p q)
theorem Ai {a:Int}{b:Nat}: (0:Int)≤a / (72:Int) % ((↑b:Int) + (1:Int))→a / (72:Int) % ((↑b:Int) + (1:Int))=(↑(a / (72:Int) % ((↑b:Int) + (1:Int))).toNat:Int):=fun p=>(Eq.symm (Int.toNat_of_nonneg p))
theorem vE {a b c:Nat}{d:Int}: b≤(100:Nat)→c≤b→d / (72:Int) % ((↑c:Int) + (1:Int))<(↑c:Int) + (1:Int)→d / (72:Int) % ((↑c:Int) + (1:Int))=(↑a:Int)→a≤(1000000:Nat):=fun p q r s=>Nat.le_trans (Nat.le_of_lt_succ (Int.ofNat_lt.mp (s▸r))) (Nat.le_trans q (Nat.le_trans p (by decide)))
theorem zB {a b c:Nat}: c≤100→b≤c→min a b + 1≤1000000:=fun p q=>Nat.le_trans (Nat.succ_le_succ (Nat.le_trans (Nat.min_le_right _ _) (Nat.le_trans q p))) (by decide)
theorem AW {a b c:Nat}: c≤100→b≤c→min a b + 1 + (b - a)≤1000000:=fun p q=>Nat.le_trans (Nat.le_of_eq mn2) (Nat.le_trans (Nat.succ_le_succ (Nat.le_trans q p)) (by decide))
theorem zP {a b c:Nat}: c≤100→b≤c→min a b + 1 + (b - a)≤1000:=fun p q=>Nat.le_trans (Nat.le_of_eq mn2) (Nat.le_trans (Nat.succ_le_succ (Nat.le_trans q p)) (by decide))
theorem AV {a:Nat}: a≤100→a≤1000000:=fun p=>(Nat.le_trans p (by decide))
theorem z6 {a:Int}: (0:Int)≤a→a=(↑a.toNat:Int):=fun p=>(Eq.symm (Int.toNat_of_nonneg p))
theorem CM {a:Nat}: (↑a:Int)≤(100:Int)→a≤(1000:Nat):=fun p=>(Nat.le_trans (Mine.nLe p) (by decide))
theorem zg {a:Nat}: a≤12→a<63:=fun p=>(Nat.lt_of_le_of_lt p (by decide))
theorem zz {a:Int}{b:Nat}: (0:Int)≤a∧a<(↑b:Int)→a=(↑a.toNat:Int):=fun p=>(Eq.symm (Int.toNat_of_nonneg p.1))
theorem AY {a b:Nat}: (↑b:Int)≤(100:Int)→(0:Int)≤(↑a:Int)∧(↑a:Int)<(↑b:Int)→a≤(1000:Nat):=fun p q=>(Nat.le_trans (Mine.nLe (Int.le_trans (Int.le_of_lt q.2) p)) (by decide))
theorem AE {a:Nat}: (↑a:Int)≤(100:Int)→a≤(1000000:Nat):=fun p=>(Nat.le_trans (Mine.nLe p) (by decide))
theorem Ba {a b:Nat}: (↑b:Int)≤(100:Int)→a≤b→a≤(100:Nat):=fun p q=>(Nat.le_trans q (Mine.nLe p))
theorem uP {a:Nat}: (↑a:Int)≤(100:Int)→a≤(100:Nat):=fun p=>(Mine.nLe p)
theorem Ar {a:Nat}: a≤12→a≤100:=fun p=>(Nat.le_trans p (by decide))
theorem zN {a:Nat}: a≤12→a≤60:=fun p=>(Nat.le_trans p (by decide))
theorem Bt {a:Nat}: (↑a:Int)=(0:Int)→a=(0:Nat):=fun p=>(Nat.eq_zero_of_le_zero (Int.ofNat_le.mp (Mine.jle p (by decide))))
theorem CW {a:Nat}: a≤100→a<128:=fun p=>(Nat.lt_of_le_of_lt p (by decide))
theorem zw {a:Nat}: a≤63→a≤1000:=fun p=>(Nat.le_trans p (by decide))
theorem CU {a b:Nat}: b≤63→a≤b→a≤1000000:=fun p q=>(Nat.le_trans q (Nat.le_trans p (by decide)))
theorem Ce {a b:Nat}: b≤63→a≤b→a<64:=fun p q=>(Nat.lt_of_le_of_lt q (Nat.lt_of_le_of_lt p (by decide)))
theorem zp {a b c:Nat}: b≤63→c≤b→a=c→a≤1000:=fun p q r=>(Nat.le_trans (Nat.le_trans (Mine.ele r q) p) (by decide))
theorem zj {a:Nat}: a≤60→a<63:=fun p=>(Nat.lt_of_le_of_lt p (by decide))
theorem C4 {a:Nat}: ¬1<a→a≤1:=fun p=>(Nat.le_of_not_lt p)
theorem AR {a b:Nat}: a + (b + 1)≤1000→a≤1000:=fun p=>(Mine.nxe p)
theorem An {a b:Int}{c:Prop}: ¬(a<(0:Int)∨b≤a∨c)→(0:Int)≤a∧a<b:=fun p=>And.intro (Int.not_lt.mp fun g=>p (.inl g)) (Int.not_le.mp fun g=>p (.inr (.inl g)))
theorem Cw {a b:Nat}: a + (b + 1)≤1000→a + 1 + b≤1000:=fun p=>by rw [Nat.add_right_comm]; exact p
theorem zK {a b:Nat}: a≤b - 1→0<b→a + 1≤b:=fun p q=>(Nat.succ_le_of_lt (Nat.lt_of_le_of_lt p (Nat.sub_lt q (by decide))))
theorem zO {a:Prop}{b c:Nat}: b≤c→c + 1≤b→a:=fun p q=>(absurd q (Nat.not_le_of_lt (Nat.lt_succ_of_le p)))
theorem vS {a b:Nat}: b=a→a≤b:=fun p=>(Nat.le_of_eq (Eq.symm p))
theorem BF {a:Nat}: a≤(1000000:Nat)→((↑a:Int) - (0:Int)).toNat≤(1000000:Nat):=fun p=>Int.toNat_le.mpr (Int.le_trans (Int.sub_le_self _ (Int.le_refl 0)) (Int.ofNat_le.mpr p))
theorem zt:-(2:Int) ^ (60:Nat)≤(0:Int):=by decide
theorem B4:(0:Int)<(2:Int) ^ (60:Nat):=by decide
theorem AT {a:Nat}: -(2:Int) ^ (60:Nat)≤(↑a:Int):=by lia
theorem Cv {a:Nat}: a≤(1000000:Nat)→(↑a:Int)<(2:Int) ^ (60:Nat):=fun p=>(Int.lt_of_le_of_lt (Int.ofNat_le.mpr p) (by decide))
theorem AU {a b:Nat}: a<b→(0:Int)≤(↑a:Int)∧(↑a:Int)<(↑b:Int):=fun p=>(And.intro (Int.natCast_nonneg _) (Int.ofNat_lt.mpr p))
theorem CH {a:Int}: (0:Int)≤a→(↑a.toNat:Int)=a:=fun p=>(Int.toNat_of_nonneg p)
theorem vq {a:Int}{b:Nat}: a.toNat<b→a<(↑b:Int):=fun p=>Int.lt_of_le_of_lt (Int.self_le_toNat _) (Int.ofNat_lt.mpr p)
theorem zW {a:Int}: (0:Int)<a→¬a=(0:Int):=fun p=>(Int.ne_of_gt p)
theorem vU {a:Int}: (0:Int)<a→(0:Int)≤a:=fun p=>(Int.le_of_lt p)
theorem uO {a b c:Int}: a≤c→c≤b→a≤b:=fun p q=>(Int.le_trans p q)
theorem vd {a b:Int}: a≤b∨b≤a:=Int.le_total _ _
theorem vV {a:Nat}: a≤(1000000:Nat)→(↑a:Int)<(2:Int) ^ (62:Nat):=fun p=>(Int.lt_of_le_of_lt (Int.ofNat_le.mpr p) (by decide))
theorem Ca {a b:Int}: (0:Int)≤b→a≤(1000:Int)→(a - b).toNat≤(1000000:Nat):=fun p q=>Int.toNat_le.mpr (Int.le_trans (Int.sub_le_self _ p) (Int.le_trans q (by decide)))
theorem uR {a:Int}: (0:Int)≤a→-(2:Int) ^ (60:Nat)≤a:=by intro p; lia
theorem uY {a:Int}: a≤(1000:Int)→a<(2:Int) ^ (60:Nat):=fun p=>(Int.lt_of_le_of_lt p (by decide))
theorem A1 {a:Int}{b:Nat}: (0:Int)≤a→a<(↑b:Int)→a<(0:Int)∨(↑b:Int)≤a→False:=fun p q r=>r.elim (fun g=>Int.not_lt.mpr p g) (fun g=>Int.not_le.mpr q g)
theorem z8 {a:Nat}: (0:Int)<(↑(a + (1:Nat)):Int):=(Int.natCast_pos.mpr (Nat.succ_pos _))
theorem B5 {a:Nat}: (1:Int)<(↑(a + (1:Nat) + (1:Nat)):Int):=Int.ofNat_lt.mpr (Nat.succ_lt_succ (Nat.succ_pos _))
theorem Bm {a b:Nat}: a≤b→¬a=b→a<b:=fun p q=>(Nat.lt_of_le_of_ne p q)
theorem vH {a b c:Nat}: a≤b + c→¬a=b + c→a≤b + c - 1:=fun p q=>(Nat.le_sub_one_of_lt (Nat.lt_of_le_of_ne p q))
theorem qt {a b:Nat}: 1≤b→a + b - 1<a + b:=fun p=>sl p
theorem vX {a b c:Nat}: a<b + (c + 1)→¬a=b + c→a<b + c:=fun p q=>Nat.lt_of_le_of_ne (Nat.le_of_lt_succ p) q
theorem Bq {a b c:Nat}: a≤c∧c<b→a≤a + b - 1 - c:=fun p=>(Nat.le_sub_of_add_le (Nat.le_sub_one_of_lt (Nat.add_lt_add_left p.2 _)))
theorem zH {a b c:Nat}: a≤c∧c<b→a + b - 1 - c<b:=fun p=>Nat.lt_of_le_of_lt (Nat.sub_le_sub_left p.1 _) (by rw [Nat.sub_right_comm,Nat.add_sub_cancel_left]; exact Nat.sub_lt (Nat.lt_of_le_of_lt (Nat.zero_le _) p.2) Nat.one_pos)
theorem A4 {a b c d e:Nat}: d≤a→c≤e→b<d∨e≤b→¬(a≤b∧b<c):=fun p q r=>fun e=>r.elim (fun g=>Nat.not_lt_of_le (Nat.le_trans p e.1) g) (fun g=>Nat.not_lt_of_le (Nat.le_trans q g) e.2)
theorem Cc {a b c d:Nat}: a + d≤c→b≤d→a + b≤c:=fun p q=>(Mine.adE q p)
theorem Ao {a b c:Nat}: c<a + b→a≤a + (a + b) - 1 - c:=fun p=>(Nat.le_sub_of_add_le (Nat.le_sub_one_of_lt (Nat.add_lt_add_left p _)))
theorem zh {a b c d:Nat}: d≤c→a + (a + b) - 1 - c≤a + (a + b) - 1 - d:=fun p=>(Nat.sub_le_sub_left p _)
theorem AQ {a b c:Nat}: 1≤b→a≤c→a + (a + b) - 1 - c<a + b:=fun p q=>Nat.lt_of_le_of_lt (Nat.sub_le_sub_left q _) (by rw [Nat.sub_right_comm,Nat.add_sub_cancel_left]; exact sl p)
theorem CP {a b:Nat}: max a b≤b→max a b=b:=fun p=>(Nat.le_antisymm p (Nat.le_max_right _ _))
theorem vQ {a b c:Nat}: c + 1 - (0 + 1)≤b→b<c + 1→a + b=a + (c + 1) - 1:=fun p q=>congrArg (_ + ·) (Nat.le_antisymm (Nat.le_of_lt_succ q) p)
theorem lE {a b c d e:Nat}: a + d≤e→b<d→c=e→a + b<c:=fun p q r=>(Mine.lte (Mine.adl q p) r)
theorem vz {a b c d e:Nat}: a + d≤e→b<d→c=e→a + b - 1<c:=fun p q r=>(Mine.lte (Mine.pG (Mine.adl q p)) r)
theorem uU {a b c d e:Nat}: a + d≤e→b<d→c=e→a + b≤c:=fun p q r=>(Nat.le_of_lt (Mine.lte (Mine.adl q p) r))
theorem vZ {a b c:Nat}: c + 1≤b→a≤a + b - (c + 1):=fun p=>(Nat.le_sub_of_add_le (Nat.add_le_add_left p _))
theorem wi {a b c d:Nat}: d + a - (b + 1)≤c→a - (b + 1)≤c - d:=fun p=>Nat.sub_le_of_le_add (Nat.le_of_add_le_add_left (Nat.le_trans (Nat.le_add_of_sub_le p) (Nat.le_trans (Nat.add_le_add_right (Nat.sub_le_iff_le_add'.mp (Nat.le_refl _)) _) (Nat.le_of_eq (Nat.add_assoc _ _ _)))))
theorem uW {a b c d:Nat}: d + 1≤c→a<b + c→a - b<c:=fun p q=>(Nat.lt_or_ge a b).elim (fun g=>Nat.lt_of_le_of_lt (Nat.le_of_eq (Nat.sub_eq_zero_of_le (Nat.le_of_lt g))) (Nat.lt_of_lt_of_le (Nat.succ_pos _) p)) (fun g=>Nat.sub_lt_left_of_lt_add g q)
theorem v5 {a b c d:Nat}: c + 1≤d→a + d - (c + 1)≤b→a + (b - a)=b:=fun p q=>Nat.add_sub_of_le (Nat.le_trans (Nat.le_sub_of_add_le (Nat.add_le_add_left p _)) q)
theorem Bz {a b:Nat}: ¬b<a→¬a<b→a=b:=fun p q=>(Nat.le_antisymm (Nat.le_of_not_lt p) (Nat.le_of_not_lt q))
theorem zZ {a b:Nat}: a + (b + 1) - 1=a + b:=by rfl
theorem A5 {a b c:Nat}: a + 1 - (b + 1 + 1)≤c→a - (b + 1)≤c:=fun p=>Nat.succ_sub_succ _ _▸p
theorem zn {a b:Nat}: a<b + 1→¬a=b→a<b:=fun p q=>(Nat.lt_of_le_of_ne (Nat.le_of_lt_succ p) q)
theorem zM {a b:Nat}: max (a + 1) b≤b→max (a + 1) b=b:=fun p=>(Nat.le_antisymm p (Nat.le_max_right _ _))
theorem vA {a b c d e:Nat}: a + d≤e→b≤d→c=e→a + b≤c:=fun p q r=>(Mine.lee (Mine.adE q p) r)
theorem pV {a b c d:Nat}: a + b≤d→c=d→a + b≤c:=fun p q=>(Mine.lee p q)
theorem BP {a b:Nat}: b + 1≤a→1≤a:=fun p=>(Nat.le_trans (Nat.le_add_left _ _) p)
theorem v8 {a b c:Nat}: c≤a→a≤b→b<c + 1→a=b:=fun p q r=>(Nat.le_antisymm q (Nat.le_trans (Nat.le_of_lt_succ r) p))
theorem vo {a:Nat}: max 1 a≤a→max 1 a=a:=fun p=>(Nat.le_antisymm p (Nat.le_max_right _ _))
theorem zX {a b:Nat}: a≤b→a≠b→a<b:=fun p q=>(Nat.lt_of_le_of_ne p q)
theorem Ad {a b c:Nat}: 1≤c→a + c≤b→a<b:=fun p q=>(Nat.lt_of_lt_of_le (Nat.lt_add_of_pos_right (Nat.lt_of_succ_le p)) q)
theorem Bb {a b c d:Nat}: 1≤b→b≤d→a + d≤c→a + b - 1<c:=fun p q r=>Nat.lt_of_lt_of_le (sl p) (Nat.le_trans (Nat.add_le_add_left q _) r)
theorem A7 {a b c:Nat}: a<b + c→a≤b + c - 1:=fun p=>(Nat.le_sub_one_of_lt p)
theorem Co {a b c:Nat}: ¬c<b→c≤a→a≤b→a=b:=fun p q r=>(Nat.le_antisymm r (Nat.le_trans (Nat.le_of_not_lt p) q))
theorem vI {a b c d:Nat}: b≤d→a + d≤c→a + b≤c:=fun p q=>(Mine.adE p q)
theorem zr {a:Nat}: 1≤a→¬a > 1→a=1:=fun p q=>(Nat.le_antisymm (Nat.le_of_not_lt q) p)
theorem Bp {a b:Nat}: a<b→a≤(a + b) / 2∧(a + b) / 2<b:=fun p=>And.intro ((Nat.le_div_iff_mul_le (by decide)).mpr (by rw [Nat.mul_two]; exact Nat.add_le_add_left (Nat.le_of_lt p) _)) ((Nat.div_lt_iff_lt_mul (by decide)).mpr (by rw [Nat.mul_two]; exact Nat.add_lt_add_right p _))
theorem Bo {a b:Nat}: a<b→min a b=a:=fun p=>(Nat.min_eq_left (Nat.le_of_lt p))
theorem CD {a b c:Nat}: c<0→a≤b:=fun p=>(absurd p (Nat.not_lt_zero _))
theorem CA {a b c d:Nat}: c≤d→d<c→a<b:=fun p q=>(absurd q (Nat.not_lt_of_le p))
theorem zm {a b c d e f g:Nat}: a + d≤e→f<d→g≤f→c=e→b<g→a + b<c:=by intro p q r s t; lia
theorem BJ {a b c:Nat}: c≤b→a<c→a≤b:=fun p q=>(Nat.le_trans (Nat.le_of_lt q) p)
theorem BN {a b c d e:Nat}: e - b≤c - d→a<e→a - b≤c - (d + 1):=fun p q=>Nat.le_trans (Nat.sub_le_sub_right (Nat.le_sub_one_of_lt q) _) (Nat.le_trans (Nat.le_of_eq (Nat.sub_right_comm _ 1 _)) (Nat.sub_le_sub_right p 1))
theorem Ak {a b c d e:Nat}: a - e≤c - d→e≤b→a - (b + 1)≤c - (d + 1):=fun p q=>Nat.sub_le_sub_right (Nat.le_trans (Nat.sub_le_sub_left q _) p) 1
theorem CL {a b c:Nat}: b<c + 1→a + b≤a + c:=fun p=>(Nat.add_le_add_left (Nat.le_of_lt_succ p) _)
theorem AZ {a b c d:Nat}: d≤c→b<d→a + b<a + c:=fun p q=>(Nat.add_lt_add_left (Nat.lt_of_lt_of_le q p) _)
theorem Av {a b c d:Nat}: a - c≤d - max 0 d→c≤b→a≤b:=fun p q=>Nat.le_trans (Nat.le_of_sub_eq_zero (Nat.eq_zero_of_le_zero (Nat.le_trans p (Nat.le_of_eq (Nat.sub_eq_zero_of_le (Nat.le_max_right 0 _)))))) q
theorem zD {a b c d e:Nat}: c<e→a<b∨b + e≤a→¬a=b + c - (b + c - (b + d)):=fun p q=>fun e=>q.elim (fun g=>Nat.not_lt_of_le vlo (e▸g)) (fun g=>Nat.not_lt_of_le (Nat.le_trans g (Nat.le_trans (Nat.le_of_eq e) (Nat.sub_le _ _))) (Nat.add_lt_add_left p _))
theorem BY {a b c d e:Nat}: b<e→d<a∨a + e≤d→¬(a + b - (a + b - (a + c))<d∧d≤a + b):=fun p q=>fun e=>q.elim (fun g=>Nat.not_lt_of_le vlo (Nat.lt_trans e.1 g)) (fun g=>Nat.not_lt_of_le (Nat.le_trans g e.2) (Nat.add_lt_add_left p _))
theorem AF {a b:Nat}: a<b→min (a + 1) b=a + 1:=fun p=>(Nat.min_eq_left (Nat.succ_le_of_lt p))
theorem Ap {a b c:Nat}: c≤b→a + b - (a + b - (a + c))=a + c:=fun p=>Nat.sub_sub_self (Nat.add_le_add_left p _)
theorem Aw {a b c d e:Nat}: e≤c→c<a + (d + 1)→e=a + b→¬c=a + b→a + b<c∧c≤a + d:=fun p q r s=>And.intro (Nat.lt_of_le_of_ne (r▸p) (Ne.symm s)) (Nat.le_of_lt_succ q)
theorem Bu {a b c d:Nat}: d≤b→d=c + a→¬b=c + a→a≤b - 1 - c:=fun p q r=>Nat.le_sub_of_add_le (Nat.le_sub_one_of_lt (Nat.add_comm _ _▸Nat.lt_of_le_of_ne (q▸p) (Ne.symm r)))
theorem Ah {a b c d e:Nat}: d≤a→a<b + (c + 1)→d=b + e→¬a=b + e→a - 1 - b<c:=fun p q r s=>Nat.sub_lt_left_of_lt_add (Nat.le_sub_one_of_lt (Nat.lt_of_le_of_lt (Nat.le_add_right _ _) (Nat.lt_of_le_of_ne (r▸p) (Ne.symm s)))) (pl (Nat.lt_of_le_of_lt (Nat.zero_le _) (Nat.lt_of_le_of_ne (r▸p) (Ne.symm s))) q)
theorem Bn {a b c d:Nat}: c≤b→c=a + d→¬b=a + d→a + (b - 1 - a)=b - 1:=fun p q r=>Nat.add_sub_of_le (Nat.le_sub_one_of_lt (Nat.lt_of_le_of_lt (Nat.le_add_right _ _) (Nat.lt_of_le_of_ne (q▸p) (Ne.symm r))))
theorem Bk {a b c d e:Nat}: c≤e→e=a + b→¬(a + b<c∧c≤a + d):=fun p q=>fun e=>Nat.not_lt_of_le (q▸p) e.1
theorem C6 {a b c d:Nat}: b≤a→a≤d→¬a=b + c→d=b + c→a - b<c:=fun p q r s=>Nat.sub_lt_left_of_lt_add p (Nat.lt_of_le_of_ne (s▸q) r)
theorem B7 {a b:Nat}: a≤b→a + (b - a)=b:=fun p=>(Nat.add_sub_cancel' p)
theorem CR {a b c d e:Nat}: c≤e→e<a + (d + 1)→a + b<c→a + b<c∧c≤a + d:=fun p q r=>And.intro r (Nat.le_of_lt_succ (Nat.lt_of_le_of_lt p q))
theorem C7 {a b c d e:Nat}: e≤c→c<a + (d + 1)→a + b<e→a + b<c∧c≤a + d:=fun p q r=>And.intro (Nat.lt_of_lt_of_le r p) (Nat.le_of_lt_succ q)
theorem C1 {a b c:Nat}: a + c<b→a≤b - 1:=fun p=>(Mine.nxe (Nat.le_sub_one_of_lt p))
theorem Aq {a b:Nat}: a≤b→a - 1≤b - 1:=fun p=>(Nat.sub_le_sub_right p _)
theorem AC {a b c d e:Nat}: d≤a→a<b + (c + 1)→b + e<d→a - 1<b + c:=fun p q r=>pl (Nat.lt_of_le_of_lt (Nat.zero_le _) (Nat.lt_of_lt_of_le r p)) q
theorem vT {a b c d:Nat}: ¬a + b<c→¬(a + b<c∧c≤a + d):=fun p=>fun e=>p e.1
theorem Cm {a b c d:Nat}: c<a + (d + 1)→a + b<c→a + b<c∧c≤a + d:=fun p q=>And.intro q (Nat.le_of_lt_succ p)
theorem zG {a b c d:Nat}: ¬c + d<a→c + d<b→a≤b - 1:=fun p q=>(Nat.le_trans (Nat.le_of_not_lt p) (Nat.le_sub_one_of_lt q))
theorem CS {a b c d:Nat}: a<b + (c + 1)→b + d<a→a - 1<b + c:=fun p q=>pl (Nat.lt_of_le_of_lt (Nat.zero_le _) q) p
theorem Bg {a b c d:Nat}: d≤c→¬a=b + d→¬b + d<a→a<b + c:=fun p q r=>(Nat.lt_of_lt_of_le (Nat.lt_of_le_of_ne (Nat.le_of_not_lt r) q) (Nat.add_le_add_left p _))
theorem zo {a b:Nat}: min (max (max a 1) b) b=b:=Nat.min_eq_right (Nat.le_max_right _ _)
theorem A0 {a b c d e:Nat}: c≤a→a≤b→b<c + min (max d 1) e→d=0→a=b:=fun p q r s=>Nat.le_antisymm q (Nat.le_trans (Nat.le_of_lt_succ (Nat.lt_of_lt_of_le r (Nat.add_le_add_left (Nat.le_trans (Nat.min_le_left (max d 1) e) (by rw [s]; decide:max d 1≤1)) _))) p)
theorem BB {a b c d:Nat}: a<b + min (max c 1) d→¬c=0→a<b + c:=fun p q=>Nat.lt_of_lt_of_le p (Nat.add_le_add_left (Nat.le_trans (Nat.min_le_left _ _) (Nat.max_le.mpr ⟨Nat.le_refl _,Nat.pos_of_ne_zero q⟩)) _)
theorem Cr {a b c:Int}: a<c→c<b→¬a=b:=fun p q=>(Int.ne_of_lt (Int.lt_of_lt_of_le p (Int.le_of_lt q)))
theorem zf {a b c:Int}: a<c→c<b→a<b:=fun p q=>(Int.lt_of_lt_of_le p (Int.le_of_lt q))
theorem z5 {a:Prop}{b c:Int}: ¬b=c→¬b<c→¬c<b→a:=fun p q r=>absurd (Int.le_antisymm (Int.not_lt.mp r) (Int.not_lt.mp q)) p
theorem zI {a b c:Nat}: a≤b→a≤b + c:=fun p=>(Nat.le_trans p (Nat.le_add_right _ _))
theorem BT {a b:Nat}: a≤b→a<b + 1:=fun p=>(Nat.lt_succ_of_le p)
theorem BD {a b c:Nat}: a<b→a<b + c:=fun p=>(Nat.lt_of_lt_of_le p (Nat.le_add_right _ _))
theorem Az {a b:Nat}: a<b→b<a→False:=fun p q=>(absurd q (Nat.not_lt_of_le (Nat.le_of_lt p)))
theorem zV {a:Prop}{b:Nat}: 1≤b→0=b→a:=fun p q=>(absurd (Mine.lee p q) (by decide))
theorem Bf {a:Nat}: 2≤a→a=a - 1 + 1:=by intro p; lia
theorem vD {a b:Nat}: b=a→0 + (a - 0)≤b:=by intro p; lia
theorem BX {a b:Nat}: b=a→0 + min (a - 0) a≤b:=fun p=>by rw [p,Nat.zero_add]; exact Nat.min_le_right _ _
theorem Cj {a b:Nat}: a<b→a≤min (b - 0) b:=fun p=>Nat.le_min.mpr ⟨Nat.le_of_lt p,Nat.le_of_lt p⟩
theorem AP {a:Nat}: min (a - 0) a=a:=Nat.min_self _
theorem Bx {a b:Nat}: a≤b - 0→¬a<b→a=b:=fun p q=>(Nat.le_antisymm (Nat.le_trans p (Nat.sub_le _ _)) (Nat.le_of_not_lt q))
theorem AO {a b:Prop}{c:Nat}: 2≤c→max 0 c=0→a∧b:=by intro p q; lia
theorem AH {a b:Nat}: b=a→0 + a≤b:=fun p=>by rw [p,Nat.zero_add]; exact Nat.le_refl _
theorem CY {a b:Nat}: a=b→a≤b:=fun p=>(Nat.le_of_eq p)
theorem CF {a b:Nat}: 1≤b→a≤a + b - 1:=fun p=>(Nat.le_sub_of_add_le (Nat.add_le_add_left p _))
theorem At {a b c:Prop}{d e:Nat}: 2≤e→max 0 e=0→a∧b∧c∧d=1:=fun p q=>absurd q (Nat.ne_of_gt (Nat.lt_of_lt_of_le (by decide) (Nat.le_trans p (Nat.le_max_right 0 _))))
theorem BC {a b:Int}: (0:Int)≤a→(a.toNat<b.toNat↔a<b):=fun p=>by rw [Int.lt_toNat,Int.toNat_of_nonneg p]
theorem zx {a:Int}: ¬(0:Int)≤a→a<(0:Int):=fun p=>(Int.not_le.mp p)
theorem Ay {a:Int}{b:Nat}: b≤(2:Nat) ^ (22:Nat)→a<(↑b:Int)→a<(2:Int) ^ (63:Nat):=fun p q=>(Int.lt_of_lt_of_le q (Int.le_trans (Int.ofNat_le.mpr p) (by decide)))
theorem zS {a:Int}{b:Nat}: b≤(2:Nat) ^ (22:Nat)→-(↑b:Int)≤a→-(2:Int) ^ (63:Nat)≤a:=fun p q=>Int.le_trans (Int.le_trans (by decide) (Int.neg_le_neg (Int.ofNat_le.mpr p))) q
theorem BK {a:Int}: (0:Int)≤a→¬a<(0:Int):=fun p=>(Int.not_lt.mpr p)
theorem CJ {a:Int}: -(2:Int) ^ (22:Nat)≤a∧a<(2:Int) ^ (22:Nat)→-(2:Int) ^ (63:Nat)≤a:=fun p=>Int.le_trans (by decide) p.1
theorem Cq {a:Int}: -(2:Int) ^ (22:Nat)≤a∧a<(2:Int) ^ (22:Nat)→a<(2:Int) ^ (63:Nat):=fun p=>Int.lt_trans p.2 (by decide)
theorem vp {a b:Nat}: b≤2 ^ 22→a=b→a≤2 ^ 24:=fun p q=>(Nat.le_trans (Mine.ele q p) (by decide))
theorem zQ {a:Nat}{b:Int}: a≤(2:Nat) ^ (22:Nat)→a - b.toNat≤(2:Nat) ^ (22:Nat):=fun p=>(Mine.Dl p)
theorem CN {a:Int}{b:Nat}: b≤(2:Nat) ^ (22:Nat)→min a.toNat b≤(2:Nat) ^ (22:Nat):=fun p=>(Mine.mne p)
theorem BL {a b c:Nat}: b=c→a<c→a<b:=fun p q=>(Mine.lte q p)
theorem z4 {a b c:Nat}: a=c→¬b<c→min a a≤b:=fun p q=>(Mine.mne (Mine.ele p (Nat.le_of_not_lt q)))
theorem Ac {a b c:Nat}: ¬c<a→min a b≤c:=fun p=>(Mine.mnl (Nat.le_of_not_lt p))
theorem zy {a:Nat}: a<64→a≤16777216 + 1:=fun p=>(Nat.le_trans (Nat.le_of_lt p) (by decide))
theorem wf {a:Nat}: a<64→a≤16777216:=fun p=>(Nat.le_trans (Nat.le_of_lt p) (by decide))
theorem BU {a:Nat}: a<2→a≤1:=fun p=>(Nat.le_of_lt_succ p)
theorem C0 {a:Nat}: ¬a<2→1≤a:=fun p=>(Nat.le_trans (Nat.le_add_left _ _) (Nat.le_of_not_lt p))
theorem AI {a b:Nat}: b=a→¬b<2→¬a<2:=fun p q=>(Nat.not_lt_of_le (Nat.le_trans (Nat.le_of_not_lt q) (Nat.le_of_eq p)))
theorem AL {a:Nat}: ¬a<2→2≤a:=fun p=>(Nat.le_of_not_lt p)
theorem B9 {a b:Nat}: b≤a→¬a<b:=fun p=>(Nat.not_lt_of_le p)
theorem A9 {a:Nat}: a≤1000000→a≤16777216:=fun p=>(Nat.le_trans p (by decide))
theorem v6 {a:Nat}: a≤1000000→a≤2 ^ 22:=fun p=>(Nat.le_trans p (by decide))
theorem BI {a b:Nat}: a=b→a=b:=by intro p; omega
theorem vJ {a b:Nat}: b<64→a=b→a≤16777216:=fun p q=>(Nat.le_trans (Nat.le_of_lt (Mine.elt q p)) (by decide))
theorem Bh {a b:Nat}: a + 200<b→a + 1 + 1<b:=fun p=>Nat.lt_of_le_of_lt (Nat.add_le_add_left (by decide:2≤200) a) p
theorem vF {a b:Nat}: b<64→a=b→a<64:=fun p q=>(Mine.elt q p)
theorem vn {a:Nat}: a<64→a≤2 ^ 22:=fun p=>(Nat.le_trans (Nat.le_of_lt p) (by decide))
theorem CT {a b:Nat}: a=b→b≤(2:Nat) ^ (22:Nat)→(↑a:Int)<(2:Int) ^ (63:Nat):=fun p q=>(Int.lt_of_le_of_lt (Int.ofNat_le.mpr (Mine.ele p q)) (by decide))
theorem AG {a b:Nat}: a=b→b≤(2:Nat) ^ (22:Nat)→¬(↑a:Int) ≥ (2:Int) ^ (63:Nat):=fun p q=>fun g=>absurd (Int.le_trans g (Int.ofNat_le.mpr (Nat.le_trans (Nat.le_of_eq p) q))) (by decide)
theorem A3 {a b:Nat}{c:Prop}: a=b→b≤2 ^ 22∧c→a≤2 ^ 24:=fun p q=>(Nat.le_trans (Mine.ele p q.1) (by decide))
theorem wa {a:Nat}: a<128→a≤16777216:=fun p=>(Nat.le_trans (Nat.le_of_lt p) (by decide))
theorem C2 {a:Nat}: 2≤a→¬a<2:=fun p=>(Nat.not_lt_of_le p)
theorem zi {a:Nat}: 2≤a→2≤a:=by intro p; omega
theorem v9 {a b c d:Nat}: c=b→a≤d→d<0 + c→a<b:=fun p q r=>Nat.lt_of_le_of_lt q (p▸(Nat.zero_add c▸r:d<c))
theorem vy {a b c:Nat}: c=b→a<0 + c→a<b:=fun p q=>p▸(Nat.zero_add c▸q:a<c)
theorem Bi {a:Nat}: a<128→a≤16777216 + 1:=fun p=>(Nat.le_trans (Nat.le_of_lt p) (by decide))
theorem vG {a b:Nat}: b<128→a=b→a≤16777216:=fun p q=>(Nat.le_trans (Nat.le_of_lt (Mine.elt q p)) (by decide))
theorem Cs {a b:Nat}: ¬b<64→a=b→2≤a:=fun p q=>(Nat.le_trans (Nat.le_add_left _ _) (Mine.lee (Nat.le_of_not_lt p) q))
theorem AA {a b:Nat}: b<128→a=b→a<128:=fun p q=>(Mine.elt q p)
theorem Am {a:Nat}: a<128→a≤2 ^ 22:=fun p=>(Nat.le_trans (Nat.le_of_lt p) (by decide))
theorem BO {a b c:Nat}: a + 100 * c + 200<b→a + 200<b:=fun p=>Nat.lt_of_le_of_lt (Nat.add_le_add_right (Nat.le_add_right _ _) 200) p
theorem CB {a b c:Nat}: a + 100 * c + 300<b→a + 200<b:=fun p=>Nat.lt_of_le_of_lt (Nat.add_le_add (Nat.le_add_right _ _) (by decide)) p
theorem vK {a b c d:Nat}: a + 200<d→b + 1≤64→a + 1 + min b c<d:=fun p q=>Nat.lt_of_le_of_lt (Nat.le_trans (Nat.le_of_eq (Nat.add_assoc _ 1 _)) (Nat.add_le_add_left (Nat.le_trans (Nat.add_le_add_left (Nat.min_le_left _ _) 1) (Nat.le_trans (Nat.le_of_eq (Nat.add_comm 1 _)) (Nat.le_trans q (by decide)))) _)) p
theorem vC {a b:Nat}: a + 200<b→a + 1<b:=fun p=>(Nat.lt_of_le_of_lt (Nat.succ_le_succ (Nat.le_add_right _ _)) p)
theorem uV {a b c d:Nat}: a + 200<d→b≤64→a + min b c<d:=fun p q=>Nat.lt_of_le_of_lt (Nat.add_le_add_left (Nat.le_trans (Nat.min_le_left _ _) (Nat.le_trans q (by decide))) _) p
theorem v7 {a b:Nat}{c:Prop}{d:Nat}: b<1000∧c→a=d→d=b→a≤2 ^ 24:=fun p q r=>(Nat.le_trans (Nat.le_of_lt (Mine.elt q (Mine.elt r p.1))) (by decide))
theorem wg {a b:Nat}{c:Prop}{d:Nat}: b<1000∧c→d=b→a=d→a≤2 ^ 22:=fun p q r=>(Nat.le_trans (Nat.le_of_lt (Mine.elt r (Mine.elt q p.1))) (by decide))
theorem BS {a b:Int}: -(2:Int) ^ (60:Nat)≤a∧a<(2:Int) ^ (60:Nat)∧-(2:Int) ^ (60:Nat)≤b∧b<(2:Int) ^ (60:Nat)→-(2:Int) ^ (62:Nat)≤a:=fun p=>Int.le_trans (by decide) p.1
theorem CK {a b:Int}: -(2:Int) ^ (60:Nat)≤a∧a<(2:Int) ^ (60:Nat)∧-(2:Int) ^ (60:Nat)≤b∧b<(2:Int) ^ (60:Nat)→a<(2:Int) ^ (62:Nat):=fun p=>Int.lt_trans p.2.1 (by decide)
theorem BR {a b:Int}: -(2:Int) ^ (60:Nat)≤b∧b<(2:Int) ^ (60:Nat)∧-(2:Int) ^ (60:Nat)≤a∧a<(2:Int) ^ (60:Nat)→-(2:Int) ^ (62:Nat)≤a:=fun p=>Int.le_trans (by decide) p.2.2.1
theorem CZ {a b:Int}: -(2:Int) ^ (60:Nat)≤b∧b<(2:Int) ^ (60:Nat)∧-(2:Int) ^ (60:Nat)≤a∧a<(2:Int) ^ (60:Nat)→a<(2:Int) ^ (62:Nat):=fun p=>Int.lt_trans p.2.2.2 (by decide)
theorem Af {a b:Int}: (a - b).toNat≤(1000000:Nat)→(a - b).toNat≤(2:Nat) ^ (22:Nat):=fun p=>(Nat.le_trans p (by decide))
theorem pa {a b:Nat}: b<a→a + 1 - (b + 1)<a + 1 - b:=fun p=>Nat.sub_lt_sub_left (Nat.lt_succ_of_lt p) (Nat.lt_succ_self _)
theorem CC {a b:Nat}{c:Prop}{d:Nat}: b≤2 ^ 22∧c→a≤d→d<b→a≤2 ^ 24:=fun p q r=>(Nat.le_trans q (Nat.le_trans (Nat.le_trans (Nat.le_of_lt r) p.1) (by decide)))
theorem ve {a b:Nat}: a≤b→¬a<b→a=b:=fun p q=>(Nat.le_antisymm p (Nat.le_of_not_lt q))
theorem Cz {a:Nat}: a≤0→a=0:=fun p=>(Nat.eq_zero_of_le_zero p)
theorem vR {a b:Nat}: a≤b + 1→¬a=b + 1→a≤b:=fun p q=>(Nat.le_of_lt_succ (Nat.lt_of_le_of_ne p q))
theorem Al {a b c:Int}: b > c→a≤c→a≤b:=fun p q=>(Int.le_trans q (Int.le_of_lt p))
theorem z7 {a b:Int}: ¬a > b→a≤b:=fun p=>(Int.not_lt.mp p)
theorem AM {a b:Nat}: 0<b→a≤b - 1→a<b:=fun p q=>(Nat.lt_of_le_of_lt q (Nat.sub_lt p (by decide)))
theorem Cy {a b:Nat}: a<b→a≤b - 1:=fun p=>(Nat.le_sub_one_of_lt p)
theorem wh {a:Nat}: ¬(↑a:Int)<(0:Int):=(Int.not_lt.mpr (Int.natCast_nonneg _))
theorem BW {a b:Nat}: ¬b<a→a≤b:=fun p=>(Nat.le_of_not_lt p)
theorem Be {a:Nat}: a<20→a<30:=fun p=>(Nat.lt_of_lt_of_le p (by decide))
theorem pY {a:Nat}{b:Prop}: a≤2 ^ 22∧b→a≤2 ^ 24:=fun p=>(Nat.le_trans p.1 (by decide))
theorem Cd {a:Int}{b:Prop}{c:Nat}{d:Prop}: ¬(b∨a<(0:Int)∨(↑c:Int)<a)→c≤(2:Nat) ^ (22:Nat)∧d→(-9223372036854775808:Int)≤a∧a<(9223372036854775808:Int):=fun p q=>And.intro (Int.le_trans (by decide) (Int.not_lt.mp fun g=>p (.inr (.inl g)))) (Int.lt_of_le_of_lt (Int.not_lt.mp fun g=>p (.inr (.inr g))) (Int.lt_of_le_of_lt (Int.ofNat_le.mpr q.1) (by decide)))
theorem Cb {a:Int}{b:Prop}{c:Nat}: ¬(b∨a<(0:Int)∨(↑c:Int)<a)→¬a<(0:Int):=fun p=>fun g=>p (.inr (.inl g))
theorem Ag {a:Int}{b:Nat}{c:Prop}: ¬(c∨a<(0:Int)∨(↑b:Int)<a)→min a.toNat b=a.toNat:=fun p=>Nat.min_eq_left (Int.toNat_le.mpr (Int.not_lt.mp fun g=>p (.inr (.inr g))))
theorem Bd {a:Int}{b:Nat}{c:Prop}{d:Nat}: ¬(c∨a<(0:Int)∨(↑d:Int)≤a)→b=d→a.toNat<b:=fun p q=>q▸(Int.toNat_lt (Int.not_lt.mp fun g=>p (.inr (.inl g)))).mpr (Int.not_le.mp fun g=>p (.inr (.inr g)))
theorem AK {a:Int}{b:Prop}{c:Nat}{d:Prop}: ¬(b∨a<(0:Int)∨(↑c:Int)≤a)→c≤(2:Nat) ^ (22:Nat)∧d→(-9223372036854775808:Int)≤a∧a<(9223372036854775808:Int):=fun p q=>And.intro (Int.le_trans (by decide) (Int.not_lt.mp fun g=>p (.inr (.inl g)))) (Int.lt_trans (Int.not_le.mp fun g=>p (.inr (.inr g))) (Int.lt_of_le_of_lt (Int.ofNat_le.mpr q.1) (by decide)))
theorem v0 {a:Nat}: a≤1000000→a≤2 ^ 24:=fun p=>(Nat.le_trans p (by decide))
theorem BG:1≤16777216:=by decide
theorem AX {a b c:Nat}: a + 2 * b + 4<c→a + 2 * b + 1<c:=fun p=>(Nat.lt_of_le_of_lt (Nat.succ_le_succ (Nat.le_add_right _ _)) p)
theorem C5 {a b c:Nat}: a + 100 * b + 300<c→a + 100 * b + 200<c:=fun p=>(Nat.lt_of_le_of_lt (Nat.add_le_add_left (Nat.le_add_left _ _) _) p)
theorem zA {a b c:Nat}: a + 2 * b + 5<c→a + 1 + 2 * b + 4<c:=fun p=>by rw [Nat.add_right_comm _ 1]; exact p
theorem Au {a b c:Nat}: a + 100 * b + 303<c→a + 3 + 100 * b + 300<c:=fun p=>by rw [Nat.add_right_comm _ 3]; exact p
theorem CO {a b c d e:Nat}: a + 2 * (c + 1) + 4<b∧d + 100 * (c + 1) + 300<e→a<b:=fun p=>(Mine.nxl (Mine.nxl p.1))
theorem BA {a b:Nat}: a + 100 * b + 303≤a + 100 * (b + 1) + 300:=by lia
theorem zY {a:Nat}: a≤8→a≤16777216:=fun p=>(Nat.le_trans p (by decide))
theorem z2 {a:Nat}: a≤1→1 + 3 * a≤50:=fun p=>Nat.le_trans (Nat.add_le_add_left (Nat.mul_le_mul_left 3 p) 1) (by decide)
theorem zC {a b:Nat}: b≤50→a + b≤a + 50:=fun p=>(Nat.add_le_add_left p _)
theorem Bc {a b c:Nat}: a + 2 * (c + 1) + 4<b→a + 1<b:=fun p=>Nat.lt_of_le_of_lt (Nat.add_le_add (Nat.le_add_right _ _) (by decide)) p
theorem Br {a b c:Nat}: a + 2 * (b + 1) + 4<c→a + 1 + 2 * b + 5<c:=fun p=>by rw [Nat.add_right_comm _ 1]; exact p
theorem z3 {a b c:Nat}: a≤c + 50→a + 100 * b + 303≤c + 100 * (b + 1) + 300:=by intro p; lia
theorem B8 {a b:Nat}: a + b≤1000000→a + b≤2 ^ 22:=fun p=>(Nat.le_trans p (by decide))
theorem Ct {a b:Nat}: a + b≤1000000→a + b≤2 ^ 24:=fun p=>(Nat.le_trans p (by decide))
theorem zR {a:Nat}{b:Int}: ¬(b=(0:Int)∨(1000000000:Nat)≤a)→a<(1073741824:Nat):=fun p=>Nat.lt_trans (Nat.lt_of_not_le fun g=>p (.inr g)) (by decide)
theorem Ck {a:Int}{b:Nat}: (0:Int)≤a∧a≤(1000:Int)∧b<(2:Nat) ^ (63:Nat)→a≤(1000000:Int):=fun p=>Int.le_trans p.2.1 (by decide)
theorem Cf {a:Nat}{b:Int}: (0:Int)≤b∧b≤(1000:Int)∧a<(2:Nat) ^ (63:Nat)→a<(2:Nat) ^ (64:Nat):=fun p=>Nat.lt_trans p.2.2 (by decide)
theorem A6 {a:Nat}: a≤60→1 + 300 + 2 * a + 4<1000:=fun p=>Nat.lt_of_le_of_lt (Nat.add_le_add_right (Nat.add_le_add_left (Nat.mul_le_mul_left 2 p) _) 4) (by decide)
theorem BQ {a:Nat}: a≤60→4 + 100 * a + 300<9900:=fun p=>Nat.lt_of_le_of_lt (Nat.add_le_add_right (Nat.add_le_add_left (Nat.mul_le_mul_left 100 p) _) 300) (by decide)
theorem zq {a:Nat}: a≤50→a + 1≤60:=fun p=>(Nat.le_trans (Nat.succ_le_succ p) (by decide))
end Mine
namespace Mine
theorem aG  {p0 p1:Prop}  (h0:p0 ) (h1:p1 ):p0∧p1:=⟨h0,h1⟩
theorem bJ  {p0 p1 p2:Prop}  (h0:p0 ) (h1:p1 ) (h2:p2 ):p0∧p1∧p2:=⟨h0,h1,h2⟩
theorem ca  {p0 p1 p2 p3:Prop}  (h0:p0 ) (h1:p1 ) (h2:p2 ) (h3:p3 ):p0∧p1∧p2∧p3:=⟨h0,h1,h2,h3⟩
theorem b9  {p0 p1 p2 p3 p4:Prop}  (h0:p0 ) (h1:p1 ) (h2:p2 ) (h3:p3 ) (h4:p4 ):p0∧p1∧p2∧p3∧p4:=⟨h0,h1,h2,h3,h4⟩
theorem ei  {p0 p1 p2 p3 p4 p5:Prop}  (h0:p0 ) (h1:p1 ) (h2:p2 ) (h3:p3 ) (h4:p4 ) (h5:p5 ):p0∧p1∧p2∧p3∧p4∧p5:=⟨h0,h1,h2,h3,h4,h5⟩
theorem vP  {p0 p1 p2 p3 p4 p5 p6:Prop}  (h0:p0 ) (h1:p1 ) (h2:p2 ) (h3:p3 ) (h4:p4 ) (h5:p5 ) (h6:p6 ):p0∧p1∧p2∧p3∧p4∧p5∧p6:=⟨h0,h1,h2,h3,h4,h5,h6⟩
theorem bl.{u0}{α0:Sort u0}{p0:α0→Prop} (x0:α0) (h0:p0 x0):∃ x0,p0 x0:=⟨x0,h0⟩
theorem ag.{u0}{α0:Sort u0}{p0 p1:α0→Prop} (x0:α0) (h0:p0 x0) (h1:p1 x0):∃ x0,p0 x0∧p1 x0:=⟨x0,h0,h1⟩
theorem aA.{u0}{α0:Sort u0}{p0 p1 p2:α0→Prop} (x0:α0) (h0:p0 x0) (h1:p1 x0) (h2:p2 x0):∃ x0,p0 x0∧p1 x0∧p2 x0:=⟨x0,h0,h1,h2⟩
theorem a7.{u0}{α0:Sort u0}{p0 p1 p2 p3:α0→Prop} (x0:α0) (h0:p0 x0) (h1:p1 x0) (h2:p2 x0) (h3:p3 x0):∃ x0,p0 x0∧p1 x0∧p2 x0∧p3 x0:=⟨x0,h0,h1,h2,h3⟩
theorem gy.{u0}{α0:Sort u0}{p0 p1 p2 p3 p4:α0→Prop} (x0:α0) (h0:p0 x0) (h1:p1 x0) (h2:p2 x0) (h3:p3 x0) (h4:p4 x0):∃ x0,p0 x0∧p1 x0∧p2 x0∧p3 x0∧p4 x0:=⟨x0,h0,h1,h2,h3,h4⟩
theorem iy.{u0}{α0:Sort u0}{p0 p1 p2 p3 p4 p5:α0→Prop} (x0:α0) (h0:p0 x0) (h1:p1 x0) (h2:p2 x0) (h3:p3 x0) (h4:p4 x0) (h5:p5 x0):∃ x0,p0 x0∧p1 x0∧p2 x0∧p3 x0∧p4 x0∧p5 x0:=⟨x0,h0,h1,h2,h3,h4,h5⟩
theorem o9.{u0}{α0:Sort u0}{p0 p1 p2 p3 p4 p5 p6:α0→Prop} (x0:α0) (h0:p0 x0) (h1:p1 x0) (h2:p2 x0) (h3:p3 x0) (h4:p4 x0) (h5:p5 x0) (h6:p6 x0):∃ x0,p0 x0∧p1 x0∧p2 x0∧p3 x0∧p4 x0∧p5 x0∧p6 x0:=⟨x0,h0,h1,h2,h3,h4,h5,h6⟩
theorem bn.{u0,u1}{α0:Sort u0}{α1:Sort u1}{p0:α0→α1→Prop} (x0:α0) (x1:α1) (h0:p0 x0 x1):∃ x0 x1,p0 x0 x1:=⟨x0,x1,h0⟩
theorem az.{u0,u1}{α0:Sort u0}{α1:Sort u1}{p0 p1:α0→α1→Prop} (x0:α0) (x1:α1) (h0:p0 x0 x1) (h1:p1 x0 x1):∃ x0 x1,p0 x0 x1∧p1 x0 x1:=⟨x0,x1,h0,h1⟩
theorem aK.{u0,u1}{α0:Sort u0}{α1:Sort u1}{p0 p1 p2:α0→α1→Prop} (x0:α0) (x1:α1) (h0:p0 x0 x1) (h1:p1 x0 x1) (h2:p2 x0 x1):∃ x0 x1,p0 x0 x1∧p1 x0 x1∧p2 x0 x1:=⟨x0,x1,h0,h1,h2⟩
theorem bp.{u0,u1}{α0:Sort u0}{α1:Sort u1}{p0 p1 p2 p3:α0→α1→Prop} (x0:α0) (x1:α1) (h0:p0 x0 x1) (h1:p1 x0 x1) (h2:p2 x0 x1) (h3:p3 x0 x1):∃ x0 x1,p0 x0 x1∧p1 x0 x1∧p2 x0 x1∧p3 x0 x1:=⟨x0,x1,h0,h1,h2,h3⟩
theorem dR.{u0,u1}{α0:Sort u0}{α1:Sort u1}{p0 p1 p2 p3 p4:α0→α1→Prop} (x0:α0) (x1:α1) (h0:p0 x0 x1) (h1:p1 x0 x1) (h2:p2 x0 x1) (h3:p3 x0 x1) (h4:p4 x0 x1):∃ x0 x1,p0 x0 x1∧p1 x0 x1∧p2 x0 x1∧p3 x0 x1∧p4 x0 x1:=⟨x0,x1,h0,h1,h2,h3,h4⟩
theorem qa.{u0,u1}{α0:Sort u0}{α1:Sort u1}{p0 p1 p2 p3 p4 p5:α0→α1→Prop} (x0:α0) (x1:α1) (h0:p0 x0 x1) (h1:p1 x0 x1) (h2:p2 x0 x1) (h3:p3 x0 x1) (h4:p4 x0 x1) (h5:p5 x0 x1):∃ x0 x1,p0 x0 x1∧p1 x0 x1∧p2 x0 x1∧p3 x0 x1∧p4 x0 x1∧p5 x0 x1:=⟨x0,x1,h0,h1,h2,h3,h4,h5⟩
theorem fe.{u0,u1}{α0:Sort u0}{α1:Sort u1}{p0 p1 p2 p3 p4 p5 p6:α0→α1→Prop} (x0:α0) (x1:α1) (h0:p0 x0 x1) (h1:p1 x0 x1) (h2:p2 x0 x1) (h3:p3 x0 x1) (h4:p4 x0 x1) (h5:p5 x0 x1) (h6:p6 x0 x1):∃ x0 x1,p0 x0 x1∧p1 x0 x1∧p2 x0 x1∧p3 x0 x1∧p4 x0 x1∧p5 x0 x1∧p6 x0 x1:=⟨x0,x1,h0,h1,h2,h3,h4,h5,h6⟩
theorem y5.{u0,u1}{α0:Sort u0}{α1:Sort u1}{p0 p1 p2 p3 p4 p5 p6 p7 p8 p9:α0→α1→Prop} (x0:α0) (x1:α1) (h0:p0 x0 x1) (h1:p1 x0 x1) (h2:p2 x0 x1) (h3:p3 x0 x1) (h4:p4 x0 x1) (h5:p5 x0 x1) (h6:p6 x0 x1) (h7:p7 x0 x1) (h8:p8 x0 x1) (h9:p9 x0 x1):∃ x0 x1,p0 x0 x1∧p1 x0 x1∧p2 x0 x1∧p3 x0 x1∧p4 x0 x1∧p5 x0 x1∧p6 x0 x1∧p7 x0 x1∧p8 x0 x1∧p9 x0 x1:=⟨x0,x1,h0,h1,h2,h3,h4,h5,h6,h7,h8,h9⟩
theorem bQ.{u0,u1,u2}{α0:Sort u0}{α1:Sort u1}{α2:Sort u2}{p0 p1:α0→α1→α2→Prop} (x0:α0) (x1:α1) (x2:α2) (h0:p0 x0 x1 x2) (h1:p1 x0 x1 x2):∃ x0 x1 x2,p0 x0 x1 x2∧p1 x0 x1 x2:=⟨x0,x1,x2,h0,h1⟩
theorem cu.{u0,u1,u2}{α0:Sort u0}{α1:Sort u1}{α2:Sort u2}{p0 p1 p2:α0→α1→α2→Prop} (x0:α0) (x1:α1) (x2:α2) (h0:p0 x0 x1 x2) (h1:p1 x0 x1 x2) (h2:p2 x0 x1 x2):∃ x0 x1 x2,p0 x0 x1 x2∧p1 x0 x1 x2∧p2 x0 x1 x2:=⟨x0,x1,x2,h0,h1,h2⟩
theorem fx.{u0,u1,u2}{α0:Sort u0}{α1:Sort u1}{α2:Sort u2}{p0 p1 p2 p3:α0→α1→α2→Prop} (x0:α0) (x1:α1) (x2:α2) (h0:p0 x0 x1 x2) (h1:p1 x0 x1 x2) (h2:p2 x0 x1 x2) (h3:p3 x0 x1 x2):∃ x0 x1 x2,p0 x0 x1 x2∧p1 x0 x1 x2∧p2 x0 x1 x2∧p3 x0 x1 x2:=⟨x0,x1,x2,h0,h1,h2,h3⟩
theorem ez.{u0,u1,u2}{α0:Sort u0}{α1:Sort u1}{α2:Sort u2}{p0 p1 p2 p3 p4 p5:α0→α1→α2→Prop} (x0:α0) (x1:α1) (x2:α2) (h0:p0 x0 x1 x2) (h1:p1 x0 x1 x2) (h2:p2 x0 x1 x2) (h3:p3 x0 x1 x2) (h4:p4 x0 x1 x2) (h5:p5 x0 x1 x2):∃ x0 x1 x2,p0 x0 x1 x2∧p1 x0 x1 x2∧p2 x0 x1 x2∧p3 x0 x1 x2∧p4 x0 x1 x2∧p5 x0 x1 x2:=⟨x0,x1,x2,h0,h1,h2,h3,h4,h5⟩
theorem jQ.{u0,u1,u2}{α0:Sort u0}{α1:Sort u1}{α2:Sort u2}{p0 p1 p2 p3 p4 p5 p6:α0→α1→α2→Prop} (x0:α0) (x1:α1) (x2:α2) (h0:p0 x0 x1 x2) (h1:p1 x0 x1 x2) (h2:p2 x0 x1 x2) (h3:p3 x0 x1 x2) (h4:p4 x0 x1 x2) (h5:p5 x0 x1 x2) (h6:p6 x0 x1 x2):∃ x0 x1 x2,p0 x0 x1 x2∧p1 x0 x1 x2∧p2 x0 x1 x2∧p3 x0 x1 x2∧p4 x0 x1 x2∧p5 x0 x1 x2∧p6 x0 x1 x2:=⟨x0,x1,x2,h0,h1,h2,h3,h4,h5,h6⟩
theorem dz.{u0,u1,u2,u3}{α0:Sort u0}{α1:Sort u1}{α2:Sort u2}{α3:Sort u3}{p0 p1:α0→α1→α2→α3→Prop} (x0:α0) (x1:α1) (x2:α2) (x3:α3) (h0:p0 x0 x1 x2 x3) (h1:p1 x0 x1 x2 x3):∃ x0 x1 x2 x3,p0 x0 x1 x2 x3∧p1 x0 x1 x2 x3:=⟨x0,x1,x2,x3,h0,h1⟩
theorem gG.{u0,u1,u2,u3}{α0:Sort u0}{α1:Sort u1}{α2:Sort u2}{α3:Sort u3}{p0 p1 p2 p3:α0→α1→α2→α3→Prop} (x0:α0) (x1:α1) (x2:α2) (x3:α3) (h0:p0 x0 x1 x2 x3) (h1:p1 x0 x1 x2 x3) (h2:p2 x0 x1 x2 x3) (h3:p3 x0 x1 x2 x3):∃ x0 x1 x2 x3,p0 x0 x1 x2 x3∧p1 x0 x1 x2 x3∧p2 x0 x1 x2 x3∧p3 x0 x1 x2 x3:=⟨x0,x1,x2,x3,h0,h1,h2,h3⟩
theorem iK.{u0,u1,u2,u3}{α0:Sort u0}{α1:Sort u1}{α2:Sort u2}{α3:Sort u3}{p0 p1 p2 p3 p4:α0→α1→α2→α3→Prop} (x0:α0) (x1:α1) (x2:α2) (x3:α3) (h0:p0 x0 x1 x2 x3) (h1:p1 x0 x1 x2 x3) (h2:p2 x0 x1 x2 x3) (h3:p3 x0 x1 x2 x3) (h4:p4 x0 x1 x2 x3):∃ x0 x1 x2 x3,p0 x0 x1 x2 x3∧p1 x0 x1 x2 x3∧p2 x0 x1 x2 x3∧p3 x0 x1 x2 x3∧p4 x0 x1 x2 x3:=⟨x0,x1,x2,x3,h0,h1,h2,h3,h4⟩
theorem mZ.{u0,u1,u2,u3}{α0:Sort u0}{α1:Sort u1}{α2:Sort u2}{α3:Sort u3}{p0 p1 p2 p3 p4 p5 p6 p7:α0→α1→α2→α3→Prop} (x0:α0) (x1:α1) (x2:α2) (x3:α3) (h0:p0 x0 x1 x2 x3) (h1:p1 x0 x1 x2 x3) (h2:p2 x0 x1 x2 x3) (h3:p3 x0 x1 x2 x3) (h4:p4 x0 x1 x2 x3) (h5:p5 x0 x1 x2 x3) (h6:p6 x0 x1 x2 x3) (h7:p7 x0 x1 x2 x3):∃ x0 x1 x2 x3,p0 x0 x1 x2 x3∧p1 x0 x1 x2 x3∧p2 x0 x1 x2 x3∧p3 x0 x1 x2 x3∧p4 x0 x1 x2 x3∧p5 x0 x1 x2 x3∧p6 x0 x1 x2 x3∧p7 x0 x1 x2 x3:=⟨x0,x1,x2,x3,h0,h1,h2,h3,h4,h5,h6,h7⟩
theorem lA.{u0,u1,u2,u3,u4}{α0:Sort u0}{α1:Sort u1}{α2:Sort u2}{α3:Sort u3}{α4:Sort u4}{p0 p1:α0→α1→α2→α3→α4→Prop} (x0:α0) (x1:α1) (x2:α2) (x3:α3) (x4:α4) (h0:p0 x0 x1 x2 x3 x4) (h1:p1 x0 x1 x2 x3 x4):∃ x0 x1 x2 x3 x4,p0 x0 x1 x2 x3 x4∧p1 x0 x1 x2 x3 x4:=⟨x0,x1,x2,x3,x4,h0,h1⟩
theorem oN.{u0,u1,u2,u3,u4}{α0:Sort u0}{α1:Sort u1}{α2:Sort u2}{α3:Sort u3}{α4:Sort u4}{p0 p1 p2 p3:α0→α1→α2→α3→α4→Prop} (x0:α0) (x1:α1) (x2:α2) (x3:α3) (x4:α4) (h0:p0 x0 x1 x2 x3 x4) (h1:p1 x0 x1 x2 x3 x4) (h2:p2 x0 x1 x2 x3 x4) (h3:p3 x0 x1 x2 x3 x4):∃ x0 x1 x2 x3 x4,p0 x0 x1 x2 x3 x4∧p1 x0 x1 x2 x3 x4∧p2 x0 x1 x2 x3 x4∧p3 x0 x1 x2 x3 x4:=⟨x0,x1,x2,x3,x4,h0,h1,h2,h3⟩
theorem vW.{u0,u1,u2,u3,u4,u5}{α0:Sort u0}{α1:Sort u1}{α2:Sort u2}{α3:Sort u3}{α4:Sort u4}{α5:Sort u5}{p0 p1:α0→α1→α2→α3→α4→α5→Prop} (x0:α0) (x1:α1) (x2:α2) (x3:α3) (x4:α4) (x5:α5) (h0:p0 x0 x1 x2 x3 x4 x5) (h1:p1 x0 x1 x2 x3 x4 x5):∃ x0 x1 x2 x3 x4 x5,p0 x0 x1 x2 x3 x4 x5∧p1 x0 x1 x2 x3 x4 x5:=⟨x0,x1,x2,x3,x4,x5,h0,h1⟩
theorem jS.{u0,u1,u2,u3,u4,u5,u6}{α0:Sort u0}{α1:Sort u1}{α2:Sort u2}{α3:Sort u3}{α4:Sort u4}{α5:Sort u5}{α6:Sort u6}{p0 p1:α0→α1→α2→α3→α4→α5→α6→Prop} (x0:α0) (x1:α1) (x2:α2) (x3:α3) (x4:α4) (x5:α5) (x6:α6) (h0:p0 x0 x1 x2 x3 x4 x5 x6) (h1:p1 x0 x1 x2 x3 x4 x5 x6):∃ x0 x1 x2 x3 x4 x5 x6,p0 x0 x1 x2 x3 x4 x5 x6∧p1 x0 x1 x2 x3 x4 x5 x6:=⟨x0,x1,x2,x3,x4,x5,x6,h0,h1⟩
theorem mS.{u0,u1,u2,u3,u4,u5,u6}{α0:Sort u0}{α1:Sort u1}{α2:Sort u2}{α3:Sort u3}{α4:Sort u4}{α5:Sort u5}{α6:Sort u6}{p0 p1 p2 p3 p4 p5 p6:α0→α1→α2→α3→α4→α5→α6→Prop} (x0:α0) (x1:α1) (x2:α2) (x3:α3) (x4:α4) (x5:α5) (x6:α6) (h0:p0 x0 x1 x2 x3 x4 x5 x6) (h1:p1 x0 x1 x2 x3 x4 x5 x6) (h2:p2 x0 x1 x2 x3 x4 x5 x6) (h3:p3 x0 x1 x2 x3 x4 x5 x6) (h4:p4 x0 x1 x2 x3 x4 x5 x6) (h5:p5 x0 x1 x2 x3 x4 x5 x6) (h6:p6 x0 x1 x2 x3 x4 x5 x6):∃ x0 x1 x2 x3 x4 x5 x6,p0 x0 x1 x2 x3 x4 x5 x6∧p1 x0 x1 x2 x3 x4 x5 x6∧p2 x0 x1 x2 x3 x4 x5 x6∧p3 x0 x1 x2 x3 x4 x5 x6∧p4 x0 x1 x2 x3 x4 x5 x6∧p5 x0 x1 x2 x3 x4 x5 x6∧p6 x0 x1 x2 x3 x4 x5 x6:=⟨x0,x1,x2,x3,x4,x5,x6,h0,h1,h2,h3,h4,h5,h6⟩
theorem ym.{u0,u1,u2,u3,u4,u5,u6,u7}{α0:Sort u0}{α1:Sort u1}{α2:Sort u2}{α3:Sort u3}{α4:Sort u4}{α5:Sort u5}{α6:Sort u6}{α7:Sort u7}{p0 p1:α0→α1→α2→α3→α4→α5→α6→α7→Prop} (x0:α0) (x1:α1) (x2:α2) (x3:α3) (x4:α4) (x5:α5) (x6:α6) (x7:α7) (h0:p0 x0 x1 x2 x3 x4 x5 x6 x7) (h1:p1 x0 x1 x2 x3 x4 x5 x6 x7):∃ x0 x1 x2 x3 x4 x5 x6 x7,p0 x0 x1 x2 x3 x4 x5 x6 x7∧p1 x0 x1 x2 x3 x4 x5 x6 x7:=⟨x0,x1,x2,x3,x4,x5,x6,x7,h0,h1⟩
theorem hU.{u0,u1,u2,u3,u4,u5,u6,u7}{α0:Sort u0}{α1:Sort u1}{α2:Sort u2}{α3:Sort u3}{α4:Sort u4}{α5:Sort u5}{α6:Sort u6}{α7:Sort u7}{p0 p1 p2 p3 p4 p5 p6 p7 p8 p9 p10 p11 p12 p13:α0→α1→α2→α3→α4→α5→α6→α7→Prop} (x0:α0) (x1:α1) (x2:α2) (x3:α3) (x4:α4) (x5:α5) (x6:α6) (x7:α7) (h0:p0 x0 x1 x2 x3 x4 x5 x6 x7) (h1:p1 x0 x1 x2 x3 x4 x5 x6 x7) (h2:p2 x0 x1 x2 x3 x4 x5 x6 x7) (h3:p3 x0 x1 x2 x3 x4 x5 x6 x7) (h4:p4 x0 x1 x2 x3 x4 x5 x6 x7) (h5:p5 x0 x1 x2 x3 x4 x5 x6 x7) (h6:p6 x0 x1 x2 x3 x4 x5 x6 x7) (h7:p7 x0 x1 x2 x3 x4 x5 x6 x7) (h8:p8 x0 x1 x2 x3 x4 x5 x6 x7) (h9:p9 x0 x1 x2 x3 x4 x5 x6 x7) (h10:p10 x0 x1 x2 x3 x4 x5 x6 x7) (h11:p11 x0 x1 x2 x3 x4 x5 x6 x7) (h12:p12 x0 x1 x2 x3 x4 x5 x6 x7) (h13:p13 x0 x1 x2 x3 x4 x5 x6 x7):∃ x0 x1 x2 x3 x4 x5 x6 x7,p0 x0 x1 x2 x3 x4 x5 x6 x7∧p1 x0 x1 x2 x3 x4 x5 x6 x7∧p2 x0 x1 x2 x3 x4 x5 x6 x7∧p3 x0 x1 x2 x3 x4 x5 x6 x7∧p4 x0 x1 x2 x3 x4 x5 x6 x7∧p5 x0 x1 x2 x3 x4 x5 x6 x7∧p6 x0 x1 x2 x3 x4 x5 x6 x7∧p7 x0 x1 x2 x3 x4 x5 x6 x7∧p8 x0 x1 x2 x3 x4 x5 x6 x7∧p9 x0 x1 x2 x3 x4 x5 x6 x7∧p10 x0 x1 x2 x3 x4 x5 x6 x7∧p11 x0 x1 x2 x3 x4 x5 x6 x7∧p12 x0 x1 x2 x3 x4 x5 x6 x7∧p13 x0 x1 x2 x3 x4 x5 x6 x7:=⟨x0,x1,x2,x3,x4,x5,x6,x7,h0,h1,h2,h3,h4,h5,h6,h7,h8,h9,h10,h11,h12,h13⟩
theorem lX.{u0,u1,u2,u3,u4,u5,u6,u7,u8}{α0:Sort u0}{α1:Sort u1}{α2:Sort u2}{α3:Sort u3}{α4:Sort u4}{α5:Sort u5}{α6:Sort u6}{α7:Sort u7}{α8:Sort u8}{p0 p1 p2 p3 p4 p5 p6 p7 p8 p9 p10 p11 p12 p13:α0→α1→α2→α3→α4→α5→α6→α7→α8→Prop} (x0:α0) (x1:α1) (x2:α2) (x3:α3) (x4:α4) (x5:α5) (x6:α6) (x7:α7) (x8:α8) (h0:p0 x0 x1 x2 x3 x4 x5 x6 x7 x8) (h1:p1 x0 x1 x2 x3 x4 x5 x6 x7 x8) (h2:p2 x0 x1 x2 x3 x4 x5 x6 x7 x8) (h3:p3 x0 x1 x2 x3 x4 x5 x6 x7 x8) (h4:p4 x0 x1 x2 x3 x4 x5 x6 x7 x8) (h5:p5 x0 x1 x2 x3 x4 x5 x6 x7 x8) (h6:p6 x0 x1 x2 x3 x4 x5 x6 x7 x8) (h7:p7 x0 x1 x2 x3 x4 x5 x6 x7 x8) (h8:p8 x0 x1 x2 x3 x4 x5 x6 x7 x8) (h9:p9 x0 x1 x2 x3 x4 x5 x6 x7 x8) (h10:p10 x0 x1 x2 x3 x4 x5 x6 x7 x8) (h11:p11 x0 x1 x2 x3 x4 x5 x6 x7 x8) (h12:p12 x0 x1 x2 x3 x4 x5 x6 x7 x8) (h13:p13 x0 x1 x2 x3 x4 x5 x6 x7 x8):∃ x0 x1 x2 x3 x4 x5 x6 x7 x8,p0 x0 x1 x2 x3 x4 x5 x6 x7 x8∧p1 x0 x1 x2 x3 x4 x5 x6 x7 x8∧p2 x0 x1 x2 x3 x4 x5 x6 x7 x8∧p3 x0 x1 x2 x3 x4 x5 x6 x7 x8∧p4 x0 x1 x2 x3 x4 x5 x6 x7 x8∧p5 x0 x1 x2 x3 x4 x5 x6 x7 x8∧p6 x0 x1 x2 x3 x4 x5 x6 x7 x8∧p7 x0 x1 x2 x3 x4 x5 x6 x7 x8∧p8 x0 x1 x2 x3 x4 x5 x6 x7 x8∧p9 x0 x1 x2 x3 x4 x5 x6 x7 x8∧p10 x0 x1 x2 x3 x4 x5 x6 x7 x8∧p11 x0 x1 x2 x3 x4 x5 x6 x7 x8∧p12 x0 x1 x2 x3 x4 x5 x6 x7 x8∧p13 x0 x1 x2 x3 x4 x5 x6 x7 x8:=⟨x0,x1,x2,x3,x4,x5,x6,x7,x8,h0,h1,h2,h3,h4,h5,h6,h7,h8,h9,h10,h11,h12,h13⟩
end Mine
namespace Mine
section
variable {G:Prop}
theorem ae  {p0 p1:Prop} (h:p0∧p1) (k:p0→p1→G):G:=by
  obtain ⟨h0,h1⟩:=h
  exact k h0 h1
theorem ai.{u0}{α0:Sort u0}{p0:α0→Prop} (h:∃ x0,p0 x0) (k:∀ x0,p0 x0→G):G:=by
  obtain ⟨x0,h0⟩:=h
  exact k x0 h0
theorem aB  {p0 p1 p2:Prop} (h:p0∧p1∧p2) (k:p0→p1→p2→G):G:=by
  obtain ⟨h0,h1,h2⟩:=h
  exact k h0 h1 h2
theorem aa.{u0}{α0:Sort u0}{p0 p1:α0→Prop} (h:∃ x0,p0 x0∧p1 x0) (k:∀ x0,p0 x0→p1 x0→G):G:=by
  obtain ⟨x0,h0,h1⟩:=h
  exact k x0 h0 h1
theorem aY.{u0,u1}{α0:Sort u0}{α1:Sort u1}{p0:α0→α1→Prop} (h:∃ x0 x1,p0 x0 x1) (k:∀ x0 x1,p0 x0 x1→G):G:=by
  obtain ⟨x0,x1,h0⟩:=h
  exact k x0 x1 h0
theorem ck  {p0 p1 p2 p3:Prop} (h:p0∧p1∧p2∧p3) (k:p0→p1→p2→p3→G):G:=by
  obtain ⟨h0,h1,h2,h3⟩:=h
  exact k h0 h1 h2 h3
theorem ao.{u0}{α0:Sort u0}{p0 p1 p2:α0→Prop} (h:∃ x0,p0 x0∧p1 x0∧p2 x0) (k:∀ x0,p0 x0→p1 x0→p2 x0→G):G:=by
  obtain ⟨x0,h0,h1,h2⟩:=h
  exact k x0 h0 h1 h2
theorem av.{u0,u1}{α0:Sort u0}{α1:Sort u1}{p0 p1:α0→α1→Prop} (h:∃ x0 x1,p0 x0 x1∧p1 x0 x1) (k:∀ x0 x1,p0 x0 x1→p1 x0 x1→G):G:=by
  obtain ⟨x0,x1,h0,h1⟩:=h
  exact k x0 x1 h0 h1
theorem bG.{u0}{α0:Sort u0}{p0 p1 p2 p3:α0→Prop} (h:∃ x0,p0 x0∧p1 x0∧p2 x0∧p3 x0) (k:∀ x0,p0 x0→p1 x0→p2 x0→p3 x0→G):G:=by
  obtain ⟨x0,h0,h1,h2,h3⟩:=h
  exact k x0 h0 h1 h2 h3
theorem ay.{u0,u1}{α0:Sort u0}{α1:Sort u1}{p0 p1 p2:α0→α1→Prop} (h:∃ x0 x1,p0 x0 x1∧p1 x0 x1∧p2 x0 x1) (k:∀ x0 x1,p0 x0 x1→p1 x0 x1→p2 x0 x1→G):G:=by
  obtain ⟨x0,x1,h0,h1,h2⟩:=h
  exact k x0 x1 h0 h1 h2
theorem ba.{u0,u1,u2}{α0:Sort u0}{α1:Sort u1}{α2:Sort u2}{p0 p1:α0→α1→α2→Prop} (h:∃ x0 x1 x2,p0 x0 x1 x2∧p1 x0 x1 x2) (k:∀ x0 x1 x2,p0 x0 x1 x2→p1 x0 x1 x2→G):G:=by
  obtain ⟨x0,x1,x2,h0,h1⟩:=h
  exact k x0 x1 x2 h0 h1
theorem iC.{u0}{α0:Sort u0}{p0 p1 p2 p3 p4:α0→Prop} (h:∃ x0,p0 x0∧p1 x0∧p2 x0∧p3 x0∧p4 x0) (k:∀ x0,p0 x0→p1 x0→p2 x0→p3 x0→p4 x0→G):G:=by
  obtain ⟨x0,h0,h1,h2,h3,h4⟩:=h
  exact k x0 h0 h1 h2 h3 h4
theorem aZ.{u0,u1}{α0:Sort u0}{α1:Sort u1}{p0 p1 p2 p3:α0→α1→Prop} (h:∃ x0 x1,p0 x0 x1∧p1 x0 x1∧p2 x0 x1∧p3 x0 x1) (k:∀ x0 x1,p0 x0 x1→p1 x0 x1→p2 x0 x1→p3 x0 x1→G):G:=by
  obtain ⟨x0,x1,h0,h1,h2,h3⟩:=h
  exact k x0 x1 h0 h1 h2 h3
theorem aS.{u0,u1,u2}{α0:Sort u0}{α1:Sort u1}{α2:Sort u2}{p0 p1 p2:α0→α1→α2→Prop} (h:∃ x0 x1 x2,p0 x0 x1 x2∧p1 x0 x1 x2∧p2 x0 x1 x2) (k:∀ x0 x1 x2,p0 x0 x1 x2→p1 x0 x1 x2→p2 x0 x1 x2→G):G:=by
  obtain ⟨x0,x1,x2,h0,h1,h2⟩:=h
  exact k x0 x1 x2 h0 h1 h2
theorem bP.{u0,u1,u2,u3}{α0:Sort u0}{α1:Sort u1}{α2:Sort u2}{α3:Sort u3}{p0 p1:α0→α1→α2→α3→Prop} (h:∃ x0 x1 x2 x3,p0 x0 x1 x2 x3∧p1 x0 x1 x2 x3) (k:∀ x0 x1 x2 x3,p0 x0 x1 x2 x3→p1 x0 x1 x2 x3→G):G:=by
  obtain ⟨x0,x1,x2,x3,h0,h1⟩:=h
  exact k x0 x1 x2 x3 h0 h1
theorem gA.{u0}{α0:Sort u0}{p0 p1 p2 p3 p4 p5:α0→Prop} (h:∃ x0,p0 x0∧p1 x0∧p2 x0∧p3 x0∧p4 x0∧p5 x0) (k:∀ x0,p0 x0→p1 x0→p2 x0→p3 x0→p4 x0→p5 x0→G):G:=by
  obtain ⟨x0,h0,h1,h2,h3,h4,h5⟩:=h
  exact k x0 h0 h1 h2 h3 h4 h5
theorem jG.{u0,u1}{α0:Sort u0}{α1:Sort u1}{p0 p1 p2 p3 p4:α0→α1→Prop} (h:∃ x0 x1,p0 x0 x1∧p1 x0 x1∧p2 x0 x1∧p3 x0 x1∧p4 x0 x1) (k:∀ x0 x1,p0 x0 x1→p1 x0 x1→p2 x0 x1→p3 x0 x1→p4 x0 x1→G):G:=by
  obtain ⟨x0,x1,h0,h1,h2,h3,h4⟩:=h
  exact k x0 x1 h0 h1 h2 h3 h4
theorem dO.{u0,u1,u2}{α0:Sort u0}{α1:Sort u1}{α2:Sort u2}{p0 p1 p2 p3:α0→α1→α2→Prop} (h:∃ x0 x1 x2,p0 x0 x1 x2∧p1 x0 x1 x2∧p2 x0 x1 x2∧p3 x0 x1 x2) (k:∀ x0 x1 x2,p0 x0 x1 x2→p1 x0 x1 x2→p2 x0 x1 x2→p3 x0 x1 x2→G):G:=by
  obtain ⟨x0,x1,x2,h0,h1,h2,h3⟩:=h
  exact k x0 x1 x2 h0 h1 h2 h3
theorem pz.{u0,u1,u2,u3}{α0:Sort u0}{α1:Sort u1}{α2:Sort u2}{α3:Sort u3}{p0 p1 p2:α0→α1→α2→α3→Prop} (h:∃ x0 x1 x2 x3,p0 x0 x1 x2 x3∧p1 x0 x1 x2 x3∧p2 x0 x1 x2 x3) (k:∀ x0 x1 x2 x3,p0 x0 x1 x2 x3→p1 x0 x1 x2 x3→p2 x0 x1 x2 x3→G):G:=by
  obtain ⟨x0,x1,x2,x3,h0,h1,h2⟩:=h
  exact k x0 x1 x2 x3 h0 h1 h2
theorem gu.{u0,u1,u2,u3,u4}{α0:Sort u0}{α1:Sort u1}{α2:Sort u2}{α3:Sort u3}{α4:Sort u4}{p0 p1:α0→α1→α2→α3→α4→Prop} (h:∃ x0 x1 x2 x3 x4,p0 x0 x1 x2 x3 x4∧p1 x0 x1 x2 x3 x4) (k:∀ x0 x1 x2 x3 x4,p0 x0 x1 x2 x3 x4→p1 x0 x1 x2 x3 x4→G):G:=by
  obtain ⟨x0,x1,x2,x3,x4,h0,h1⟩:=h
  exact k x0 x1 x2 x3 x4 h0 h1
theorem uQ.{u0}{α0:Sort u0}{p0 p1 p2 p3 p4 p5 p6:α0→Prop} (h:∃ x0,p0 x0∧p1 x0∧p2 x0∧p3 x0∧p4 x0∧p5 x0∧p6 x0) (k:∀ x0,p0 x0→p1 x0→p2 x0→p3 x0→p4 x0→p5 x0→p6 x0→G):G:=by
  obtain ⟨x0,h0,h1,h2,h3,h4,h5,h6⟩:=h
  exact k x0 h0 h1 h2 h3 h4 h5 h6
theorem vY.{u0,u1}{α0:Sort u0}{α1:Sort u1}{p0 p1 p2 p3 p4 p5:α0→α1→Prop} (h:∃ x0 x1,p0 x0 x1∧p1 x0 x1∧p2 x0 x1∧p3 x0 x1∧p4 x0 x1∧p5 x0 x1) (k:∀ x0 x1,p0 x0 x1→p1 x0 x1→p2 x0 x1→p3 x0 x1→p4 x0 x1→p5 x0 x1→G):G:=by
  obtain ⟨x0,x1,h0,h1,h2,h3,h4,h5⟩:=h
  exact k x0 x1 h0 h1 h2 h3 h4 h5
theorem bI.{u0,u1,u2,u3}{α0:Sort u0}{α1:Sort u1}{α2:Sort u2}{α3:Sort u3}{p0 p1 p2 p3:α0→α1→α2→α3→Prop} (h:∃ x0 x1 x2 x3,p0 x0 x1 x2 x3∧p1 x0 x1 x2 x3∧p2 x0 x1 x2 x3∧p3 x0 x1 x2 x3) (k:∀ x0 x1 x2 x3,p0 x0 x1 x2 x3→p1 x0 x1 x2 x3→p2 x0 x1 x2 x3→p3 x0 x1 x2 x3→G):G:=by
  obtain ⟨x0,x1,x2,x3,h0,h1,h2,h3⟩:=h
  exact k x0 x1 x2 x3 h0 h1 h2 h3
theorem o4.{u0,u1,u2,u3,u4,u5}{α0:Sort u0}{α1:Sort u1}{α2:Sort u2}{α3:Sort u3}{α4:Sort u4}{α5:Sort u5}{p0 p1:α0→α1→α2→α3→α4→α5→Prop} (h:∃ x0 x1 x2 x3 x4 x5,p0 x0 x1 x2 x3 x4 x5∧p1 x0 x1 x2 x3 x4 x5) (k:∀ x0 x1 x2 x3 x4 x5,p0 x0 x1 x2 x3 x4 x5→p1 x0 x1 x2 x3 x4 x5→G):G:=by
  obtain ⟨x0,x1,x2,x3,x4,x5,h0,h1⟩:=h
  exact k x0 x1 x2 x3 x4 x5 h0 h1
theorem pL.{u0,u1}{α0:Sort u0}{α1:Sort u1}{p0 p1 p2 p3 p4 p5 p6:α0→α1→Prop} (h:∃ x0 x1,p0 x0 x1∧p1 x0 x1∧p2 x0 x1∧p3 x0 x1∧p4 x0 x1∧p5 x0 x1∧p6 x0 x1) (k:∀ x0 x1,p0 x0 x1→p1 x0 x1→p2 x0 x1→p3 x0 x1→p4 x0 x1→p5 x0 x1→p6 x0 x1→G):G:=by
  obtain ⟨x0,x1,h0,h1,h2,h3,h4,h5,h6⟩:=h
  exact k x0 x1 h0 h1 h2 h3 h4 h5 h6
theorem cq.{u0,u1,u2}{α0:Sort u0}{α1:Sort u1}{α2:Sort u2}{p0 p1 p2 p3 p4 p5:α0→α1→α2→Prop} (h:∃ x0 x1 x2,p0 x0 x1 x2∧p1 x0 x1 x2∧p2 x0 x1 x2∧p3 x0 x1 x2∧p4 x0 x1 x2∧p5 x0 x1 x2) (k:∀ x0 x1 x2,p0 x0 x1 x2→p1 x0 x1 x2→p2 x0 x1 x2→p3 x0 x1 x2→p4 x0 x1 x2→p5 x0 x1 x2→G):G:=by
  obtain ⟨x0,x1,x2,h0,h1,h2,h3,h4,h5⟩:=h
  exact k x0 x1 x2 h0 h1 h2 h3 h4 h5
theorem zT.{u0,u1,u2,u3}{α0:Sort u0}{α1:Sort u1}{α2:Sort u2}{α3:Sort u3}{p0 p1 p2 p3 p4:α0→α1→α2→α3→Prop} (h:∃ x0 x1 x2 x3,p0 x0 x1 x2 x3∧p1 x0 x1 x2 x3∧p2 x0 x1 x2 x3∧p3 x0 x1 x2 x3∧p4 x0 x1 x2 x3) (k:∀ x0 x1 x2 x3,p0 x0 x1 x2 x3→p1 x0 x1 x2 x3→p2 x0 x1 x2 x3→p3 x0 x1 x2 x3→p4 x0 x1 x2 x3→G):G:=by
  obtain ⟨x0,x1,x2,x3,h0,h1,h2,h3,h4⟩:=h
  exact k x0 x1 x2 x3 h0 h1 h2 h3 h4
theorem vM.{u0,u1,u2,u3,u4}{α0:Sort u0}{α1:Sort u1}{α2:Sort u2}{α3:Sort u3}{α4:Sort u4}{p0 p1 p2 p3:α0→α1→α2→α3→α4→Prop} (h:∃ x0 x1 x2 x3 x4,p0 x0 x1 x2 x3 x4∧p1 x0 x1 x2 x3 x4∧p2 x0 x1 x2 x3 x4∧p3 x0 x1 x2 x3 x4) (k:∀ x0 x1 x2 x3 x4,p0 x0 x1 x2 x3 x4→p1 x0 x1 x2 x3 x4→p2 x0 x1 x2 x3 x4→p3 x0 x1 x2 x3 x4→G):G:=by
  obtain ⟨x0,x1,x2,x3,x4,h0,h1,h2,h3⟩:=h
  exact k x0 x1 x2 x3 x4 h0 h1 h2 h3
theorem iv.{u0,u1,u2,u3,u4,u5,u6}{α0:Sort u0}{α1:Sort u1}{α2:Sort u2}{α3:Sort u3}{α4:Sort u4}{α5:Sort u5}{α6:Sort u6}{p0 p1:α0→α1→α2→α3→α4→α5→α6→Prop} (h:∃ x0 x1 x2 x3 x4 x5 x6,p0 x0 x1 x2 x3 x4 x5 x6∧p1 x0 x1 x2 x3 x4 x5 x6) (k:∀ x0 x1 x2 x3 x4 x5 x6,p0 x0 x1 x2 x3 x4 x5 x6→p1 x0 x1 x2 x3 x4 x5 x6→G):G:=by
  obtain ⟨x0,x1,x2,x3,x4,x5,x6,h0,h1⟩:=h
  exact k x0 x1 x2 x3 x4 x5 x6 h0 h1
theorem yl.{u0,u1,u2}{α0:Sort u0}{α1:Sort u1}{α2:Sort u2}{p0 p1 p2 p3 p4 p5 p6:α0→α1→α2→Prop} (h:∃ x0 x1 x2,p0 x0 x1 x2∧p1 x0 x1 x2∧p2 x0 x1 x2∧p3 x0 x1 x2∧p4 x0 x1 x2∧p5 x0 x1 x2∧p6 x0 x1 x2) (k:∀ x0 x1 x2,p0 x0 x1 x2→p1 x0 x1 x2→p2 x0 x1 x2→p3 x0 x1 x2→p4 x0 x1 x2→p5 x0 x1 x2→p6 x0 x1 x2→G):G:=by
  obtain ⟨x0,x1,x2,h0,h1,h2,h3,h4,h5,h6⟩:=h
  exact k x0 x1 x2 h0 h1 h2 h3 h4 h5 h6
theorem yL.{u0,u1,u2,u3,u4}{α0:Sort u0}{α1:Sort u1}{α2:Sort u2}{α3:Sort u3}{α4:Sort u4}{p0 p1 p2 p3 p4:α0→α1→α2→α3→α4→Prop} (h:∃ x0 x1 x2 x3 x4,p0 x0 x1 x2 x3 x4∧p1 x0 x1 x2 x3 x4∧p2 x0 x1 x2 x3 x4∧p3 x0 x1 x2 x3 x4∧p4 x0 x1 x2 x3 x4) (k:∀ x0 x1 x2 x3 x4,p0 x0 x1 x2 x3 x4→p1 x0 x1 x2 x3 x4→p2 x0 x1 x2 x3 x4→p3 x0 x1 x2 x3 x4→p4 x0 x1 x2 x3 x4→G):G:=by
  obtain ⟨x0,x1,x2,x3,x4,h0,h1,h2,h3,h4⟩:=h
  exact k x0 x1 x2 x3 x4 h0 h1 h2 h3 h4
theorem yd.{u0,u1,u2,u3,u4,u5,u6,u7}{α0:Sort u0}{α1:Sort u1}{α2:Sort u2}{α3:Sort u3}{α4:Sort u4}{α5:Sort u5}{α6:Sort u6}{α7:Sort u7}{p0 p1:α0→α1→α2→α3→α4→α5→α6→α7→Prop} (h:∃ x0 x1 x2 x3 x4 x5 x6 x7,p0 x0 x1 x2 x3 x4 x5 x6 x7∧p1 x0 x1 x2 x3 x4 x5 x6 x7) (k:∀ x0 x1 x2 x3 x4 x5 x6 x7,p0 x0 x1 x2 x3 x4 x5 x6 x7→p1 x0 x1 x2 x3 x4 x5 x6 x7→G):G:=by
  obtain ⟨x0,x1,x2,x3,x4,x5,x6,x7,h0,h1⟩:=h
  exact k x0 x1 x2 x3 x4 x5 x6 x7 h0 h1
theorem yx.{u0,u1,u2,u3,u4}{α0:Sort u0}{α1:Sort u1}{α2:Sort u2}{α3:Sort u3}{α4:Sort u4}{p0 p1 p2 p3 p4 p5:α0→α1→α2→α3→α4→Prop} (h:∃ x0 x1 x2 x3 x4,p0 x0 x1 x2 x3 x4∧p1 x0 x1 x2 x3 x4∧p2 x0 x1 x2 x3 x4∧p3 x0 x1 x2 x3 x4∧p4 x0 x1 x2 x3 x4∧p5 x0 x1 x2 x3 x4) (k:∀ x0 x1 x2 x3 x4,p0 x0 x1 x2 x3 x4→p1 x0 x1 x2 x3 x4→p2 x0 x1 x2 x3 x4→p3 x0 x1 x2 x3 x4→p4 x0 x1 x2 x3 x4→p5 x0 x1 x2 x3 x4→G):G:=by
  obtain ⟨x0,x1,x2,x3,x4,h0,h1,h2,h3,h4,h5⟩:=h
  exact k x0 x1 x2 x3 x4 h0 h1 h2 h3 h4 h5
theorem yh.{u0,u1}{α0:Sort u0}{α1:Sort u1}{p0 p1 p2 p3 p4 p5 p6 p7 p8 p9:α0→α1→Prop} (h:∃ x0 x1,p0 x0 x1∧p1 x0 x1∧p2 x0 x1∧p3 x0 x1∧p4 x0 x1∧p5 x0 x1∧p6 x0 x1∧p7 x0 x1∧p8 x0 x1∧p9 x0 x1) (k:∀ x0 x1,p0 x0 x1→p1 x0 x1→p2 x0 x1→p3 x0 x1→p4 x0 x1→p5 x0 x1→p6 x0 x1→p7 x0 x1→p8 x0 x1→p9 x0 x1→G):G:=by
  obtain ⟨x0,x1,h0,h1,h2,h3,h4,h5,h6,h7,h8,h9⟩:=h
  exact k x0 x1 h0 h1 h2 h3 h4 h5 h6 h7 h8 h9
theorem qA.{u0,u1,u2,u3}{α0:Sort u0}{α1:Sort u1}{α2:Sort u2}{α3:Sort u3}{p0 p1 p2 p3 p4 p5 p6 p7:α0→α1→α2→α3→Prop} (h:∃ x0 x1 x2 x3,p0 x0 x1 x2 x3∧p1 x0 x1 x2 x3∧p2 x0 x1 x2 x3∧p3 x0 x1 x2 x3∧p4 x0 x1 x2 x3∧p5 x0 x1 x2 x3∧p6 x0 x1 x2 x3∧p7 x0 x1 x2 x3) (k:∀ x0 x1 x2 x3,p0 x0 x1 x2 x3→p1 x0 x1 x2 x3→p2 x0 x1 x2 x3→p3 x0 x1 x2 x3→p4 x0 x1 x2 x3→p5 x0 x1 x2 x3→p6 x0 x1 x2 x3→p7 x0 x1 x2 x3→G):G:=by
  obtain ⟨x0,x1,x2,x3,h0,h1,h2,h3,h4,h5,h6,h7⟩:=h
  exact k x0 x1 x2 x3 h0 h1 h2 h3 h4 h5 h6 h7
theorem dC.{u0,u1,u2,u3,u4,u5,u6,u7,u8,u9,u10,u11}{α0:Sort u0}{α1:Sort u1}{α2:Sort u2}{α3:Sort u3}{α4:Sort u4}{α5:Sort u5}{α6:Sort u6}{α7:Sort u7}{α8:Sort u8}{α9:Sort u9}{α10:Sort u10}{α11:Sort u11}{p0:α0→α1→α2→α3→α4→α5→α6→α7→α8→α9→α10→α11→Prop} (h:∃ x0 x1 x2 x3 x4 x5 x6 x7 x8 x9 x10 x11,p0 x0 x1 x2 x3 x4 x5 x6 x7 x8 x9 x10 x11) (k:∀ x0 x1 x2 x3 x4 x5 x6 x7 x8 x9 x10 x11,p0 x0 x1 x2 x3 x4 x5 x6 x7 x8 x9 x10 x11→G):G:=by
  obtain ⟨x0,x1,x2,x3,x4,x5,x6,x7,x8,x9,x10,x11,h0⟩:=h
  exact k x0 x1 x2 x3 x4 x5 x6 x7 x8 x9 x10 x11 h0
theorem mX.{u0,u1,u2,u3}{α0:Sort u0}{α1:Sort u1}{α2:Sort u2}{α3:Sort u3}{p0 p1 p2 p3 p4 p5 p6 p7 p8 p9:α0→α1→α2→α3→Prop} (h:∃ x0 x1 x2 x3,p0 x0 x1 x2 x3∧p1 x0 x1 x2 x3∧p2 x0 x1 x2 x3∧p3 x0 x1 x2 x3∧p4 x0 x1 x2 x3∧p5 x0 x1 x2 x3∧p6 x0 x1 x2 x3∧p7 x0 x1 x2 x3∧p8 x0 x1 x2 x3∧p9 x0 x1 x2 x3) (k:∀ x0 x1 x2 x3,p0 x0 x1 x2 x3→p1 x0 x1 x2 x3→p2 x0 x1 x2 x3→p3 x0 x1 x2 x3→p4 x0 x1 x2 x3→p5 x0 x1 x2 x3→p6 x0 x1 x2 x3→p7 x0 x1 x2 x3→p8 x0 x1 x2 x3→p9 x0 x1 x2 x3→G):G:=by
  obtain ⟨x0,x1,x2,x3,h0,h1,h2,h3,h4,h5,h6,h7,h8,h9⟩:=h
  exact k x0 x1 x2 x3 h0 h1 h2 h3 h4 h5 h6 h7 h8 h9
theorem rf.{u0,u1}{α0:Sort u0}{α1:Sort u1}{p0 p1 p2 p3 p4 p5 p6 p7 p8 p9 p10 p11 p12:α0→α1→Prop} (h:∃ x0 x1,p0 x0 x1∧p1 x0 x1∧p2 x0 x1∧p3 x0 x1∧p4 x0 x1∧p5 x0 x1∧p6 x0 x1∧p7 x0 x1∧p8 x0 x1∧p9 x0 x1∧p10 x0 x1∧p11 x0 x1∧p12 x0 x1) (k:∀ x0 x1,p0 x0 x1→p1 x0 x1→p2 x0 x1→p3 x0 x1→p4 x0 x1→p5 x0 x1→p6 x0 x1→p7 x0 x1→p8 x0 x1→p9 x0 x1→p10 x0 x1→p11 x0 x1→p12 x0 x1→G):G:=by
  obtain ⟨x0,x1,h0,h1,h2,h3,h4,h5,h6,h7,h8,h9,h10,h11,h12⟩:=h
  exact k x0 x1 h0 h1 h2 h3 h4 h5 h6 h7 h8 h9 h10 h11 h12
theorem rc.{u0,u1,u2,u3,u4,u5}{α0:Sort u0}{α1:Sort u1}{α2:Sort u2}{α3:Sort u3}{α4:Sort u4}{α5:Sort u5}{p0 p1 p2 p3 p4 p5 p6 p7 p8:α0→α1→α2→α3→α4→α5→Prop} (h:∃ x0 x1 x2 x3 x4 x5,p0 x0 x1 x2 x3 x4 x5∧p1 x0 x1 x2 x3 x4 x5∧p2 x0 x1 x2 x3 x4 x5∧p3 x0 x1 x2 x3 x4 x5∧p4 x0 x1 x2 x3 x4 x5∧p5 x0 x1 x2 x3 x4 x5∧p6 x0 x1 x2 x3 x4 x5∧p7 x0 x1 x2 x3 x4 x5∧p8 x0 x1 x2 x3 x4 x5) (k:∀ x0 x1 x2 x3 x4 x5,p0 x0 x1 x2 x3 x4 x5→p1 x0 x1 x2 x3 x4 x5→p2 x0 x1 x2 x3 x4 x5→p3 x0 x1 x2 x3 x4 x5→p4 x0 x1 x2 x3 x4 x5→p5 x0 x1 x2 x3 x4 x5→p6 x0 x1 x2 x3 x4 x5→p7 x0 x1 x2 x3 x4 x5→p8 x0 x1 x2 x3 x4 x5→G):G:=by
  obtain ⟨x0,x1,x2,x3,x4,x5,h0,h1,h2,h3,h4,h5,h6,h7,h8⟩:=h
  exact k x0 x1 x2 x3 x4 x5 h0 h1 h2 h3 h4 h5 h6 h7 h8
theorem sm.{u0,u1,u2,u3,u4,u5,u6}{α0:Sort u0}{α1:Sort u1}{α2:Sort u2}{α3:Sort u3}{α4:Sort u4}{α5:Sort u5}{α6:Sort u6}{p0 p1 p2 p3 p4 p5 p6 p7 p8:α0→α1→α2→α3→α4→α5→α6→Prop} (h:∃ x0 x1 x2 x3 x4 x5 x6,p0 x0 x1 x2 x3 x4 x5 x6∧p1 x0 x1 x2 x3 x4 x5 x6∧p2 x0 x1 x2 x3 x4 x5 x6∧p3 x0 x1 x2 x3 x4 x5 x6∧p4 x0 x1 x2 x3 x4 x5 x6∧p5 x0 x1 x2 x3 x4 x5 x6∧p6 x0 x1 x2 x3 x4 x5 x6∧p7 x0 x1 x2 x3 x4 x5 x6∧p8 x0 x1 x2 x3 x4 x5 x6) (k:∀ x0 x1 x2 x3 x4 x5 x6,p0 x0 x1 x2 x3 x4 x5 x6→p1 x0 x1 x2 x3 x4 x5 x6→p2 x0 x1 x2 x3 x4 x5 x6→p3 x0 x1 x2 x3 x4 x5 x6→p4 x0 x1 x2 x3 x4 x5 x6→p5 x0 x1 x2 x3 x4 x5 x6→p6 x0 x1 x2 x3 x4 x5 x6→p7 x0 x1 x2 x3 x4 x5 x6→p8 x0 x1 x2 x3 x4 x5 x6→G):G:=by
  obtain ⟨x0,x1,x2,x3,x4,x5,x6,h0,h1,h2,h3,h4,h5,h6,h7,h8⟩:=h
  exact k x0 x1 x2 x3 x4 x5 x6 h0 h1 h2 h3 h4 h5 h6 h7 h8
theorem xS.{u0,u1,u2,u3,u4,u5,u6,u7}{α0:Sort u0}{α1:Sort u1}{α2:Sort u2}{α3:Sort u3}{α4:Sort u4}{α5:Sort u5}{α6:Sort u6}{α7:Sort u7}{p0 p1 p2 p3 p4 p5 p6 p7 p8:α0→α1→α2→α3→α4→α5→α6→α7→Prop} (h:∃ x0 x1 x2 x3 x4 x5 x6 x7,p0 x0 x1 x2 x3 x4 x5 x6 x7∧p1 x0 x1 x2 x3 x4 x5 x6 x7∧p2 x0 x1 x2 x3 x4 x5 x6 x7∧p3 x0 x1 x2 x3 x4 x5 x6 x7∧p4 x0 x1 x2 x3 x4 x5 x6 x7∧p5 x0 x1 x2 x3 x4 x5 x6 x7∧p6 x0 x1 x2 x3 x4 x5 x6 x7∧p7 x0 x1 x2 x3 x4 x5 x6 x7∧p8 x0 x1 x2 x3 x4 x5 x6 x7) (k:∀ x0 x1 x2 x3 x4 x5 x6 x7,p0 x0 x1 x2 x3 x4 x5 x6 x7→p1 x0 x1 x2 x3 x4 x5 x6 x7→p2 x0 x1 x2 x3 x4 x5 x6 x7→p3 x0 x1 x2 x3 x4 x5 x6 x7→p4 x0 x1 x2 x3 x4 x5 x6 x7→p5 x0 x1 x2 x3 x4 x5 x6 x7→p6 x0 x1 x2 x3 x4 x5 x6 x7→p7 x0 x1 x2 x3 x4 x5 x6 x7→p8 x0 x1 x2 x3 x4 x5 x6 x7→G):G:=by
  obtain ⟨x0,x1,x2,x3,x4,x5,x6,x7,h0,h1,h2,h3,h4,h5,h6,h7,h8⟩:=h
  exact k x0 x1 x2 x3 x4 x5 x6 x7 h0 h1 h2 h3 h4 h5 h6 h7 h8
theorem xg.{u0,u1,u2,u3,u4,u5,u6,u7,u8,u9}{α0:Sort u0}{α1:Sort u1}{α2:Sort u2}{α3:Sort u3}{α4:Sort u4}{α5:Sort u5}{α6:Sort u6}{α7:Sort u7}{α8:Sort u8}{α9:Sort u9}{p0 p1 p2 p3 p4 p5 p6 p7 p8 p9 p10:α0→α1→α2→α3→α4→α5→α6→α7→α8→α9→Prop} (h:∃ x0 x1 x2 x3 x4 x5 x6 x7 x8 x9,p0 x0 x1 x2 x3 x4 x5 x6 x7 x8 x9∧p1 x0 x1 x2 x3 x4 x5 x6 x7 x8 x9∧p2 x0 x1 x2 x3 x4 x5 x6 x7 x8 x9∧p3 x0 x1 x2 x3 x4 x5 x6 x7 x8 x9∧p4 x0 x1 x2 x3 x4 x5 x6 x7 x8 x9∧p5 x0 x1 x2 x3 x4 x5 x6 x7 x8 x9∧p6 x0 x1 x2 x3 x4 x5 x6 x7 x8 x9∧p7 x0 x1 x2 x3 x4 x5 x6 x7 x8 x9∧p8 x0 x1 x2 x3 x4 x5 x6 x7 x8 x9∧p9 x0 x1 x2 x3 x4 x5 x6 x7 x8 x9∧p10 x0 x1 x2 x3 x4 x5 x6 x7 x8 x9) (k:∀ x0 x1 x2 x3 x4 x5 x6 x7 x8 x9,p0 x0 x1 x2 x3 x4 x5 x6 x7 x8 x9→p1 x0 x1 x2 x3 x4 x5 x6 x7 x8 x9→p2 x0 x1 x2 x3 x4 x5 x6 x7 x8 x9→p3 x0 x1 x2 x3 x4 x5 x6 x7 x8 x9→p4 x0 x1 x2 x3 x4 x5 x6 x7 x8 x9→p5 x0 x1 x2 x3 x4 x5 x6 x7 x8 x9→p6 x0 x1 x2 x3 x4 x5 x6 x7 x8 x9→p7 x0 x1 x2 x3 x4 x5 x6 x7 x8 x9→p8 x0 x1 x2 x3 x4 x5 x6 x7 x8 x9→p9 x0 x1 x2 x3 x4 x5 x6 x7 x8 x9→p10 x0 x1 x2 x3 x4 x5 x6 x7 x8 x9→G):G:=by
  obtain ⟨x0,x1,x2,x3,x4,x5,x6,x7,x8,x9,h0,h1,h2,h3,h4,h5,h6,h7,h8,h9,h10⟩:=h
  exact k x0 x1 x2 x3 x4 x5 x6 x7 x8 x9 h0 h1 h2 h3 h4 h5 h6 h7 h8 h9 h10
theorem hW.{u0,u1,u2,u3,u4,u5,u6,u7}{α0:Sort u0}{α1:Sort u1}{α2:Sort u2}{α3:Sort u3}{α4:Sort u4}{α5:Sort u5}{α6:Sort u6}{α7:Sort u7}{p0 p1 p2 p3 p4 p5 p6 p7 p8 p9 p10 p11 p12 p13:α0→α1→α2→α3→α4→α5→α6→α7→Prop} (h:∃ x0 x1 x2 x3 x4 x5 x6 x7,p0 x0 x1 x2 x3 x4 x5 x6 x7∧p1 x0 x1 x2 x3 x4 x5 x6 x7∧p2 x0 x1 x2 x3 x4 x5 x6 x7∧p3 x0 x1 x2 x3 x4 x5 x6 x7∧p4 x0 x1 x2 x3 x4 x5 x6 x7∧p5 x0 x1 x2 x3 x4 x5 x6 x7∧p6 x0 x1 x2 x3 x4 x5 x6 x7∧p7 x0 x1 x2 x3 x4 x5 x6 x7∧p8 x0 x1 x2 x3 x4 x5 x6 x7∧p9 x0 x1 x2 x3 x4 x5 x6 x7∧p10 x0 x1 x2 x3 x4 x5 x6 x7∧p11 x0 x1 x2 x3 x4 x5 x6 x7∧p12 x0 x1 x2 x3 x4 x5 x6 x7∧p13 x0 x1 x2 x3 x4 x5 x6 x7) (k:∀ x0 x1 x2 x3 x4 x5 x6 x7,p0 x0 x1 x2 x3 x4 x5 x6 x7→p1 x0 x1 x2 x3 x4 x5 x6 x7→p2 x0 x1 x2 x3 x4 x5 x6 x7→p3 x0 x1 x2 x3 x4 x5 x6 x7→p4 x0 x1 x2 x3 x4 x5 x6 x7→p5 x0 x1 x2 x3 x4 x5 x6 x7→p6 x0 x1 x2 x3 x4 x5 x6 x7→p7 x0 x1 x2 x3 x4 x5 x6 x7→p8 x0 x1 x2 x3 x4 x5 x6 x7→p9 x0 x1 x2 x3 x4 x5 x6 x7→p10 x0 x1 x2 x3 x4 x5 x6 x7→p11 x0 x1 x2 x3 x4 x5 x6 x7→p12 x0 x1 x2 x3 x4 x5 x6 x7→p13 x0 x1 x2 x3 x4 x5 x6 x7→G):G:=by
  obtain ⟨x0,x1,x2,x3,x4,x5,x6,x7,h0,h1,h2,h3,h4,h5,h6,h7,h8,h9,h10,h11,h12,h13⟩:=h
  exact k x0 x1 x2 x3 x4 x5 x6 x7 h0 h1 h2 h3 h4 h5 h6 h7 h8 h9 h10 h11 h12 h13
theorem yz.{u0,u1,u2,u3,u4,u5,u6,u7,u8}{α0:Sort u0}{α1:Sort u1}{α2:Sort u2}{α3:Sort u3}{α4:Sort u4}{α5:Sort u5}{α6:Sort u6}{α7:Sort u7}{α8:Sort u8}{p0 p1 p2 p3 p4 p5 p6 p7 p8 p9 p10 p11 p12 p13:α0→α1→α2→α3→α4→α5→α6→α7→α8→Prop} (h:∃ x0 x1 x2 x3 x4 x5 x6 x7 x8,p0 x0 x1 x2 x3 x4 x5 x6 x7 x8∧p1 x0 x1 x2 x3 x4 x5 x6 x7 x8∧p2 x0 x1 x2 x3 x4 x5 x6 x7 x8∧p3 x0 x1 x2 x3 x4 x5 x6 x7 x8∧p4 x0 x1 x2 x3 x4 x5 x6 x7 x8∧p5 x0 x1 x2 x3 x4 x5 x6 x7 x8∧p6 x0 x1 x2 x3 x4 x5 x6 x7 x8∧p7 x0 x1 x2 x3 x4 x5 x6 x7 x8∧p8 x0 x1 x2 x3 x4 x5 x6 x7 x8∧p9 x0 x1 x2 x3 x4 x5 x6 x7 x8∧p10 x0 x1 x2 x3 x4 x5 x6 x7 x8∧p11 x0 x1 x2 x3 x4 x5 x6 x7 x8∧p12 x0 x1 x2 x3 x4 x5 x6 x7 x8∧p13 x0 x1 x2 x3 x4 x5 x6 x7 x8) (k:∀ x0 x1 x2 x3 x4 x5 x6 x7 x8,p0 x0 x1 x2 x3 x4 x5 x6 x7 x8→p1 x0 x1 x2 x3 x4 x5 x6 x7 x8→p2 x0 x1 x2 x3 x4 x5 x6 x7 x8→p3 x0 x1 x2 x3 x4 x5 x6 x7 x8→p4 x0 x1 x2 x3 x4 x5 x6 x7 x8→p5 x0 x1 x2 x3 x4 x5 x6 x7 x8→p6 x0 x1 x2 x3 x4 x5 x6 x7 x8→p7 x0 x1 x2 x3 x4 x5 x6 x7 x8→p8 x0 x1 x2 x3 x4 x5 x6 x7 x8→p9 x0 x1 x2 x3 x4 x5 x6 x7 x8→p10 x0 x1 x2 x3 x4 x5 x6 x7 x8→p11 x0 x1 x2 x3 x4 x5 x6 x7 x8→p12 x0 x1 x2 x3 x4 x5 x6 x7 x8→p13 x0 x1 x2 x3 x4 x5 x6 x7 x8→G):G:=by
  obtain ⟨x0,x1,x2,x3,x4,x5,x6,x7,x8,h0,h1,h2,h3,h4,h5,h6,h7,h8,h9,h10,h11,h12,h13⟩:=h
  exact k x0 x1 x2 x3 x4 x5 x6 x7 x8 h0 h1 h2 h3 h4 h5 h6 h7 h8 h9 h10 h11 h12 h13
theorem bA {a b:Bool} (h:(a && b)=true):a=true∧b=true:=Bool.and_eq_true_iff.mp h
end
end Mine
namespace Mine
set_option tactic.hygienic false
set_option linter.unusedVariables false
open PySem
inductive Mode where
  | sh | top | deep
  deriving DecidableEq
inductive V where
  | d (x:PyData)
  | dic0
  | dicI (ks:List Int)
  | dicT (ks:List (List Int))
  | rule (c:Int) (d:PyData) (n:Int)
inductive Out (α:Type) where
  | ok (a:α)
  | exc (c:String)
  | bad
namespace Out
noncomputable def bind {α β:Type}:Out α→(α→Out β)→Out β
  | .ok a,f=>f a
  | .exc c,_=>.exc c
  | .bad,_=>.bad
@[simp] theorem ok_bind {α β:Type} (a:α) (f:α→Out β):(Out.ok a).bind f=f a:=rfl
@[simp] theorem exc_bind {α β:Type} (c:String) (f:α→Out β):(Out.exc c:Out α).bind f = .exc c:=rfl
@[simp] theorem DA {α β:Type} (f:α→Out β):(Out.bad:Out α).bind f = .bad:=rfl
noncomputable def calm {α:Type}:Out α→Out α
  | .ok a=>.ok a
  | _=>.bad
@[simp] theorem calm_ok {α:Type} (a:α):(Out.ok a).calm = .ok a:=rfl
theorem _root_.Mine.nB {α:Type}{a:α}{G:Prop} (h:(Out.bad:Out α) = .ok a):G:=by cases h
theorem _root_.Mine.nE {α:Type}{a:α}{c:String}{G:Prop} (h:(Out.exc c:Out α) = .ok a):G:=by cases h
theorem _root_.Mine.nN {α:Type}{a:α}{G:Prop} (h:(none:Option α)=some a):G:=by cases h
theorem _root_.Mine.nM {α:Type}{a:α}{G:Prop} (h:some a=(none:Option α)):G:=by cases h
theorem _root_.Mine.nF {G:Prop} (h:false=true):G:=by cases h
theorem _root_.Mine.nT {G:Prop} (h:true=false):G:=by cases h
theorem bind_ok {α β:Type}{o:Out α}{f:α→Out β}{b:β} (h:o.bind f = .ok b):∃ a,o = .ok a∧f a = .ok b:=by
  cases o with
  | ok a=>exact ⟨a,rfl,h⟩
  | exc c=>cases h
  | bad=>cases h
end Out
inductive BOp where
  | add | sub | mul | fdiv | mod | pow | xor
  deriving DecidableEq
inductive COp where
  | eq | ne | lt | gt | ge | isin | notin | isnot
  deriving DecidableEq
inductive B1 where
  | len | list | tuple | sorted | max
  deriving DecidableEq
inductive B2 where
  | max | min
  deriving DecidableEq
mutual
inductive E where
  | name (x:String)
  | int (i:Int)
  | str (s:String)
  | bool (b:Bool)
  | none
  | bin (o:BOp) (a b:E)
  | neg (a:E)
  | not (a:E)
  | cmp (o:COp) (a b:E)
  | and (a b:E)
  | or (a b:E)
  | list (es:Es)
  | tup (es:Es)
  | edic
  | comp (elt:E) (x:String) (it:It)
  | compif (elt:E) (x:String) (it:It) (c:E)
  | sub (a i:E)
  | slo (a lo:E)
  | shi (a hi:E)
  | attr (a:E) (n:String)
  | bi1 (f:B1) (a:E)
  | bi2 (f:B2) (a b:E)
  | isi (a:E) (t:String)
  | call (f:String) (es:Es)
  | meth (a:E) (m:String) (es:Es)
inductive Es where
  | nil
  | cons (e:E) (es:Es)
inductive It where
  | e (a:E)
  | r1 (n:E)
  | r2 (a b:E)
end
abbrev St:=String→Option (V × Mode)
abbrev Calls:=String→Option (List V→Out (V × Mode))
noncomputable def upd (σ:St) (x:String) (v:V × Mode):St:=fun y=>if y=x then some v else σ y
noncomputable def sx:PyData→Bool
  | .none | .bool _ | .int _ | .str _=>true
  | .list _ | .tuple _ | .dict _=>false
noncomputable def ql:V→Bool
  | .d x=>sx x
  | _=>false
noncomputable def mk (v:V):V × Mode:=(v,if ql v then .deep else .sh)
noncomputable def fresh (xs:List PyData):Mode:=if xs.all sx then .deep else .top
noncomputable def lim:Nat:=1000000
noncomputable def okc (d:PyData):Bool:=d.canLay0 && decide (d.depth≤64)
noncomputable def sI (i:Int):V × Mode:=(.d (.int i),.deep)
noncomputable def sB (b:Bool):V × Mode:=(.d (.bool b),.deep)
noncomputable def dK:PyData→Option Int
  | .int i=>some i
  | _=>none
noncomputable def aN:List PyData→Option (List Int)
  | []=>some []
  | .int i :: r=>(aN r).map (i :: ·)
  | _ :: _=>none
noncomputable def dj:PyData→Option (List Int)
  | .tuple xs=>aN xs
  | _=>none
noncomputable def aC {α β:Type} (o:Option α) (f:α→Out β):Out β:=match o with
  | some a=>f a
  | none=>.bad
theorem aD {α β:Type}{o:Option α}{f:α→Out β}{r:β} (h:aC o f = .ok r):∃ a,o=some a∧f a = .ok r:=by
  cases o with
  | some a=>exact ⟨a,rfl,h⟩
  | none=>cases h
def NE {α:Type} (o:Out α):Prop:=∀ c,o≠.exc c
theorem NE.ok {α:Type}{a:α}:NE (Out.ok a):=fun uu h=>by cases h
theorem NE.bad {α:Type}:NE (Out.bad:Out α):=fun uu h=>by cases h
theorem NE.opt {α β:Type}{o:Option α}{f:α→Out β} (h:∀ a,NE (f a)):NE (aC o f):=by
  cases o with
  | some a=>exact h a
  | none=>exact .bad
theorem NE.ite {α:Type}{c:Prop} [Decidable c] {a b:Out α} (ha:NE a) (hb:NE b):NE (if c then a else b):=by
  by_cases h:c
  · rw [if_pos h]; exact ha
  · rw [if_neg h]; exact hb
theorem NE.bind {α β:Type}{o:Out α}{f:α→Out β} (ho:NE o) (h:∀ a,NE (f a)):NE (o.bind f):=by
  cases o with
  | ok a=>exact h a
  | exc c=>exact absurd rfl (ho c)
  | bad=>exact .bad
noncomputable def asL:PyData→Option (List PyData)
  | .list xs=>some xs
  | _=>none
noncomputable def asD:V→Option PyData
  | .d x=>some x
  | _=>none
noncomputable def isN:PyData→Bool
  | .none=>true
  | _=>false
theorem cy {x:PyData}{i:Int} (h:dK x=some i):x = .int i:=by cases x <;> cases h; rfl
theorem ce {x:PyData}{i:List PyData} (h:asL x=some i):x = .list i:=by cases x <;> cases h; rfl
theorem cL {x:V}{i:PyData} (h:asD x=some i):x = .d i:=by cases x <;> cases h; rfl
theorem xq {x:PyData} (h:isN x=true):x = .none:=by cases x <;> first | rfl | cases h
noncomputable def i2 {β:Type} (x y:PyData) (f:Int→Int→Out β):Out β:=aC (dK x) fun a=>aC (dK y) fun b=>f a b
theorem dm {β:Type}{x y:PyData}{f:Int→Int→Out β}{r:β} (h:i2 x y f = .ok r):∃ a b,x = .int a∧y = .int b∧f a b = .ok r:=by
  refine aa (aD h) fun a h1 h=>?_
  refine aa (aD h) fun b h2 h=>?_
  exact ⟨a,b,cy h1,cy h2,h⟩
noncomputable def d2 {β:Type} (x y:V) (f:PyData→PyData→Out β):Out β:=aC (asD x) fun a=>aC (asD y) fun b=>f a b
theorem fq {β:Type}{x y:V}{f:PyData→PyData→Out β}{r:β} (h:d2 x y f = .ok r):∃ a b,x = .d a∧y = .d b∧f a b = .ok r:=by
  refine aa (aD h) fun a h1 h=>?_
  refine aa (aD h) fun b h2 h=>?_
  exact ⟨a,b,cL h1,cL h2,h⟩
noncomputable def l5 (x y:PyData):Out (V × Mode):=match asL x with
  | some a=>aC (asL y) fun b=>if a.length + b.length≤lim then .ok (.d (.list (a ++ b)),fresh (a ++ b)) else .bad
  | none=>i2 x y fun a b=>.ok (sI (a + b))
noncomputable def cT (o:BOp) (x y:PyData):Out (V × Mode):=match o with
  | .add=>l5 x y
  | .sub=>i2 x y fun a b=>.ok (sI (a - b))
  | .mul=>i2 x y fun a b=>if a.natAbs<2 ^ 63∨b.natAbs<2 ^ 63 then .ok (sI (a * b)) else .bad
  | .fdiv=>i2 x y fun a b=>if b=0∨1000000000≤b.natAbs then .bad else .ok (sI (a.fdiv b))
  | .mod=>i2 x y fun a b=>if b=0 then .bad else .ok (sI (a.fmod b))
  | .pow=>i2 x y fun a b=>if 0≤b∧b≤1000∧a.natAbs<2 ^ 63 then .ok (sI (a ^ b.toNat)) else .bad
  | .xor=>i2 x y fun a b=>.ok (sI (Builtin.bitXor a b))
theorem wV {o:BOp}{x y:PyData}:NE (cT o x y):=by
  have h:∀ (f:Int→Int→Out (V × Mode)),(∀ a b,NE (f a b))→NE (i2 x y f):=fun f hf=>.opt fun a=>.opt fun b=>hf a b
  cases o with
  | add=>
    show NE (l5 x y)
    unfold l5
    cases asL x with
    | some a=>exact .opt fun b=>.ite .ok .bad
    | none=>exact h _ fun uu uu=>.ok
  | sub=>exact h _ fun uu uu=>.ok
  | mul=>exact h _ fun uu uu=>.ite .ok .bad
  | fdiv=>exact h _ fun uu uu=>.ite .bad .ok
  | mod=>exact h _ fun uu uu=>.ite .bad .ok
  | pow=>exact h _ fun uu uu=>.ite .ok .bad
  | xor=>exact h _ fun uu uu=>.ok
noncomputable def inV (k:PyData) (c:V):Out Bool:=match c with
  | .d x=>aC (asL x) fun xs=>if okc k && okc (.list xs) then .ok (xs.any fun y=>PyData.eqv y k) else .bad
  | .dicI ks=>aC (dK k) fun i=>.ok (decide (i∈ks))
  | .dicT ks=>aC (dj k) fun i=>.ok (decide (i∈ks))
  | .dic0=>if (dK k).isSome || (dj k).isSome then .ok false else .bad
  | .rule _ _ _=>.bad
theorem rZ {k:PyData}{c:V}:NE (inV k c):=by
  cases c with
  | d x=>exact .opt fun uu=>.ite .ok .bad
  | dicI ks=>exact .opt fun uu=>.ok
  | dicT ks=>exact .opt fun uu=>.ok
  | dic0=>exact .ite .ok .bad
  | rule _ _ _=>exact .bad
noncomputable def bM (o:COp) (x y:V):Out Bool:=match o with
  | .eq=>d2 x y fun a b=>if okc a && okc b then .ok (PyData.eqv a b) else .bad
  | .ne=>d2 x y fun a b=>if okc a && okc b then .ok (!PyData.eqv a b) else .bad
  | .lt=>d2 x y fun a b=>i2 a b fun a b=>.ok (decide (a<b))
  | .gt=>d2 x y fun a b=>i2 a b fun a b=>.ok (decide (b<a))
  | .ge=>d2 x y fun a b=>i2 a b fun a b=>.ok (decide (b≤a))
  | .isin=>aC (asD x) fun k=>inV k y
  | .notin=>d2 x y fun k c=>(inV k (.d c)).bind fun b=>.ok (!b)
  | .isnot=>d2 x y fun a b=>if isN b then .ok (!isN a) else .bad
theorem xJ {o:COp}{x y:V}:NE (bM o x y):=by
  have h:∀ (f:PyData→PyData→Out Bool),(∀ a b,NE (f a b))→NE (d2 x y f):=fun f hf=>.opt fun a=>.opt fun b=>hf a b
  cases o with
  | eq=>exact h _ fun uu uu=>.ite .ok .bad
  | ne=>exact h _ fun uu uu=>.ite .ok .bad
  | isin=>exact .opt fun uu=>rZ
  | notin=>exact h _ fun uu uu=>.bind rZ fun uu=>.ok
  | isnot=>exact h _ fun uu uu=>.ite .ok .bad
  | _=>exact h _ fun uu uu=>.opt fun uu=>.opt fun uu=>.ok
noncomputable def bF (i:Int) (n:Nat):Option Nat:=if 0≤i then (if i<n then some i.toNat else none) else (if -(n:Int)≤i then some (i + n).toNat else none)
noncomputable def asT:PyData→Option (List PyData)
  | .tuple xs=>some xs
  | _=>none
theorem jX {x:PyData}{i:List PyData} (h:asT x=some i):x = .tuple i:=by cases x <;> cases h; rfl
noncomputable def oM (x:PyData) (i:Int):Option PyData:=match asL x with
  | some xs=>(bF i xs.length).bind fun k=>xs[k]?
  | none=>match asT x with
    | some xs=>(bF i xs.length).bind fun k=>xs[k]?
    | none=>none
noncomputable def d6 (x y:PyData):Out (V × Mode):=aC (dK y) fun i=>aC (oM x i) fun z=>.ok (mk (.d z))
theorem ww {x y:PyData}:NE (d6 x y):=.opt fun uu=>.opt fun uu=>.ok
noncomputable def gE:PyData→PyData→Out (V × Mode)
  | .list xs,.int i=>if 0≤i∧i<2 ^ 62 then .ok (.d (.list (xs.drop i.toNat)),fresh (xs.drop i.toNat)) else .bad
  | _,_=>.bad
noncomputable def gr:PyData→PyData→Out (V × Mode)
  | .list xs,.int i=>if 0≤i∧i<2 ^ 62 then .ok (.d (.list (xs.take i.toNat)),fresh (xs.take i.toNat)) else .bad
  | _,_=>.bad
noncomputable def af (xs:List Int):PyData:=.list (xs.map .int)
noncomputable def aL (xs:List Int):PyData:=.tuple (xs.map .int)
noncomputable def aj (t:List (List Int)):PyData:=.list (t.map af)
def ltL:List Int→List Int→Bool
  | [],[]=>false
  | [],_ :: _=>true
  | _ :: _,[]=>false
  | a :: as,b :: bs=>if a=b then ltL as bs else decide (a<b)
noncomputable def dv:List PyData→Option (List (List Int))
  | []=>some []
  | x :: r=>(dj x).bind fun k=>(dv r).map (k :: ·)
noncomputable def bH (ks:List (List Int)):List (List Int):=ks.mergeSort fun a b=>!ltL b a
noncomputable def eE (xs:List PyData):Out (V × Mode):=match dv xs with
  | some ks=>if ks.length<2∨[]∉ks then .ok (.d (.list ((bH ks).map aL)),fresh ((bH ks).map aL)) else .bad
  | none=>.bad
theorem oV {xs:List PyData}:NE (eE xs):=by
  unfold eE
  cases dv xs with
  | some ks=>exact .ite .ok .bad
  | none=>exact .bad
noncomputable def dg (xs:List PyData):Out (V × Mode) :=
  if xs.length<64 then (match aN xs with
    | some ns=>.ok (.d (af (ns.mergeSort (fun a b=>decide (a≤b)))),.deep)
    | none=>eE xs)
  else if xs.length<128 then aC (aN xs) fun ns=>if (∀ i∈ns,0≤i)∧ns.Pairwise (· < ·) then .ok (.d (af ns),.deep) else .bad
  else .bad
noncomputable def dA:List Int→Option Int
  | []=>none
  | x :: xs=>some (xs.foldl (fun a b=>if a<b then b else a) x)
noncomputable def b1D (f:B1) (v:V):Out (V × Mode):=aC (asD v) fun x=>match f with
  | .len=>(match asT x with
    | some xs=>.ok (sI xs.length)
    | none=>aC (asL x) fun xs=>.ok (sI xs.length))
  | .list=>(match asT x with
    | some xs=>.ok (.d (.list xs),fresh xs)
    | none=>aC (asL x) fun xs=>.ok (.d (.list xs),fresh xs))
  | .tuple=>aC (asL x) fun xs=>.ok (.d (.tuple xs),if xs.all sx then .deep else .sh)
  | .sorted=>aC (asL x) fun xs=>dg xs
  | .max=>aC (asL x) fun xs=>aC ((aN xs).bind dA) fun i=>.ok (sI i)
theorem xY {f:B1}{v:V}:NE (b1D f v):=.opt fun x=>by
  cases f with
  | len=>
    show NE (match asT x with | some xs=>Out.ok (sI xs.length) | none=>aC (asL x) fun xs=>.ok (sI xs.length))
    cases asT x with
    | some xs=>exact .ok
    | none=>exact .opt fun uu=>.ok
  | list=>
    show NE (match asT x with | some xs=>Out.ok (V.d (.list xs),fresh xs) | none=>aC (asL x) fun xs=>.ok (V.d (.list xs),fresh xs))
    cases asT x with
    | some xs=>exact .ok
    | none=>exact .opt fun uu=>.ok
  | tuple=>exact .opt fun uu=>.ok
  | sorted=>
    refine .opt fun xs=>.ite ?_ (.ite (.opt fun uu=>.ite .ok .bad) .bad)
    cases aN xs with
    | some ns=>exact .ok
    | none=>exact oV
  | max=>exact .opt fun uu=>.opt fun uu=>.ok
noncomputable def o6:V→Option (List (List Int))
  | .dicT ks=>some ks
  | _=>none
theorem su {v:V}{ks:List (List Int)} (h:o6 v=some ks):v = .dicT ks:=by
  cases v <;> cases h
  rfl
noncomputable def lD (f:B1) (ks:List (List Int)):Out (V × Mode):=if f = .list∧ks.length≤lim then .ok (.d (.list (ks.map aL)),fresh (ks.map aL)) else .bad
noncomputable def b1V (f:B1) (v:V):Out (V × Mode):=match o6 v with
  | some ks=>lD f ks
  | none=>b1D f v
theorem yG {f:B1}{v:V}:NE (b1V f v):=by
  unfold b1V
  cases o6 v with
  | some ks=>exact .ite .ok .bad
  | none=>exact xY
noncomputable def b2V (f:B2) (x y:V):Out (V × Mode):=d2 x y fun x y=>i2 x y fun a b=>match f with
  | .max=>.ok (sI (if a<b then b else a))
  | .min=>.ok (sI (if b<a then b else a))
theorem xO {f:B2}{x y:V}:NE (b2V f x y):=.opt fun uu=>.opt fun uu=>.opt fun uu=>.opt fun uu=>by cases f <;> exact .ok
noncomputable def lU:PyData→Nat
  | .none=>0
  | .bool _=>1
  | .int _=>2
  | .str _=>3
  | .list _=>4
  | .tuple _=>5
  | .dict _=>6
noncomputable def jU (t:String) (k:Nat):Option Bool :=
  if t = "int" then some (k == 2 || k == 1) else if t = "bool" then some (k == 1) else if t = "list" then some (k == 4) else if t = "tuple" then some (k == 5) else if t = "str" then some (k == 3) else none
noncomputable def fB (v:V) (t:String):Out Bool:=aC (asD v) fun x=>aC (jU t (lU x)) .ok
theorem l6 {t:String}{k:Nat}{b:Bool}{G:Prop} (h:jU t k=some b) (c1:t = "int" → (k == 2 || k == 1)=b→G) (c2:t = "bool" → (k == 1)=b→G) (c3:t = "list" → (k == 4)=b→G) (c4:t = "tuple" → (k == 5)=b→G) (c5:t = "str" → (k == 3)=b→G):G:=by
  unfold jU at h
  by_cases q:t = "int"
  · rw [if_pos q] at h; exact c1 q (Option.some.inj h)
  rw [if_neg q] at h
  by_cases q:t = "bool"
  · rw [if_pos q] at h; exact c2 q (Option.some.inj h)
  rw [if_neg q] at h
  by_cases q:t = "list"
  · rw [if_pos q] at h; exact c3 q (Option.some.inj h)
  rw [if_neg q] at h
  by_cases q:t = "tuple"
  · rw [if_pos q] at h; exact c4 q (Option.some.inj h)
  rw [if_neg q] at h
  by_cases q:t = "str"
  · rw [if_pos q] at h; exact c5 q (Option.some.inj h)
  rw [if_neg q] at h
  cases h
theorem t9 {v:V}{t:String}{b:Bool} (h:fB v t = .ok b):∃ x,v = .d x∧jU t (lU x)=some b:=by
  obtain ⟨x,h1,h⟩:=aD h
  obtain ⟨c,h2,h⟩:=aD h
  exact ⟨x,cL h1,by rw [h2,Out.ok.inj h]⟩
theorem wP {v:V}{t:String}:NE (fB v t):=.opt fun uu=>.opt fun uu=>.ok
noncomputable def au:V→Out Bool
  | .d (.bool b)=>.ok b
  | _=>.bad
noncomputable def d0:V→Option (Int × PyData × Int)
  | .rule c d n=>some (c,d,n)
  | _=>none
theorem jJ {x:V}{q:Int × PyData × Int} (h:d0 x=some q):x = .rule q.1 q.2.1 q.2.2:=by cases x <;> cases h; rfl
noncomputable def iG (x:V) (n:String):Out (V × Mode):=aC (d0 x) fun q=>if n = "count" then .ok (sI q.1) else if n = "full" then .ok (mk (.d q.2.1)) else if n = "size" then .ok (sI q.2.2) else .bad
theorem t0 {x:V}{n:String}:NE (iG x n):=.opt fun uu=>.ite .ok (.ite .ok (.ite .ok .bad))
def methNames:List String:=["together", "rank", "need_full", "outs", "exchanges"]
def aM:List String:=["PickError", "NoChoice", "NoThing", "NoExchange", "NoWeights", "NoRule"]
def fieldNames:List String:=["count", "full", "size"]
noncomputable def cF (a b:Int):List PyData:=(List.range (b - a).toNat).map fun (k:Nat)=>.int (a + k)
noncomputable def bT (a b:Int):Out (List PyData × Mode) :=
  if (b - a).toNat≤lim∧-(2 ^ 60)≤a∧a<2 ^ 60∧-(2 ^ 60)≤b∧b<2 ^ 60 then .ok (cF a b,.deep) else .bad
noncomputable def bh (f:PyData→Out (Option (V × Mode))):List PyData→Out (List PyData × Bool)
  | []=>.ok ([],true)
  | x :: xs=>(f x).bind fun r=>(bh f xs).bind fun q=>match r with
    | none=>.ok q
    | some (.d y,m)=>.ok (y :: q.1,decide (m = .deep) && q.2)
    | some _=>.bad
noncomputable def bx:List (V × Mode)→Option (List PyData)
  | []=>some []
  | (.d x,_) :: r=>(bx r).map (x :: ·)
  | _ :: _=>none
noncomputable def allDeep (l:List (V × Mode)):Bool:=l.all fun p=>decide (p.2 = .deep)
noncomputable def eK:V→Option (List PyData)
  | .d (.list xs)=>some xs
  | _=>none
theorem fg {v:V}{xs:List PyData} (h:eK v=some xs):v = .d (.list xs):=by
  unfold eK at h
  split at h
  · cases h; rfl
  · cases h
noncomputable def itV (r:V × Mode):Out (List PyData × Mode):=match eK r.1 with
  | some xs=>.ok (xs,r.2)
  | none=>.bad
mutual
noncomputable def ev (C:Calls):E→St→Out (V × Mode)
  | .name x,σ=>match σ x with | some p=>.ok (mk p.1) | none=>.bad
  | .int i,_=>.ok (sI i)
  | .str s,_=>.ok (.d (.str (Str.ofString s)),.deep)
  | .bool b,_=>.ok (sB b)
  | .none,_=>.ok (.d .none,.deep)
  | .bin o a b,σ=>(ev C a σ).bind fun x=>(ev C b σ).bind fun y=>match x.1,y.1 with | .d x,.d y=>cT o x y | _,_=>.bad
  | .neg a,σ=>(ev C a σ).bind fun x=>match x.1 with | .d (.int i)=>.ok (sI (-i)) | _=>.bad
  | .not a,σ=>(ev C a σ).bind fun x=>(au x.1).bind fun b=>.ok (sB (!b))
  | .cmp o a b,σ=>(ev C a σ).bind fun x=>(ev C b σ).bind fun y=>(bM o x.1 y.1).bind fun b=>.ok (sB b)
  | .and a b,σ=>(ev C a σ).bind fun x=>(au x.1).bind fun t=>if t then (ev C b σ).bind fun y=>(au y.1).bind fun u=>.ok (sB u) else .ok (sB false)
  | .or a b,σ=>(ev C a σ).bind fun x=>(au x.1).bind fun t=>if t then .ok (sB true) else (ev C b σ).bind fun y=>(au y.1).bind fun u=>.ok (sB u)
  | .list es,σ=>(evs C es σ).bind fun l=>match bx l with
    | some xs=>.ok (.d (.list xs),if allDeep l then .deep else .top)
    | none=>.bad
  | .tup es,σ=>(evs C es σ).bind fun l=>match bx l with
    | some xs=>.ok (.d (.tuple xs),if allDeep l then .deep else .sh)
    | none=>.bad
  | .edic,_=>.ok (.dic0,.deep)
  | .comp elt x it,σ=>(bf C it σ).bind fun q=>(bh (fun y=>(ev C elt (upd σ x (mk (.d y)))).bind fun r=>.ok (some r)) q.1).calm.bind fun r=>.ok (.d (.list r.1),if r.2 then .deep else .top)
  | .compif elt x it c,σ=>(bf C it σ).bind fun q=>(bh (fun y=>(ev C c (upd σ x (mk (.d y)))).bind fun t=>(au t.1).bind fun b=>if b then (ev C elt (upd σ x (mk (.d y)))).bind fun r=>.ok (some r) else .ok none) q.1).calm.bind fun r=>.ok (.d (.list r.1),if r.2 then .deep else .top)
  | .sub a i,σ=>(ev C a σ).bind fun x=>(ev C i σ).bind fun y=>match x.1,y.1 with | .d x,.d y=>d6 x y | _,_=>.bad
  | .slo a i,σ=>(ev C a σ).bind fun x=>(ev C i σ).bind fun y=>match x.1,y.1 with | .d x,.d y=>gE x y | _,_=>.bad
  | .shi a i,σ=>(ev C a σ).bind fun x=>(ev C i σ).bind fun y=>match x.1,y.1 with | .d x,.d y=>gr x y | _,_=>.bad
  | .attr a n,σ=>aC (C "Rule") fun uu=>(ev C a σ).bind fun x=>iG x.1 n
  | .bi1 f a,σ=>(ev C a σ).bind fun x=>b1V f x.1
  | .bi2 f a b,σ=>(ev C a σ).bind fun x=>(ev C b σ).bind fun y=>b2V f x.1 y.1
  | .isi a t,σ=>(ev C a σ).bind fun x=>(fB x.1 t).bind fun b=>.ok (sB b)
  | .call f es,σ=>match C f with
    | some g=>(evs C es σ).bind fun l=>g (l.map (·.1))
    | none=>.bad
  | .meth a m es,σ=>(ev C a σ).bind fun x=>aC (d0 x.1) fun uu=>aC (C m) fun g=>(evs C es σ).bind fun l=>g (x.1 :: l.map (·.1))
noncomputable def evs (C:Calls):Es→St→Out (List (V × Mode))
  | .nil,_=>.ok []
  | .cons e es,σ=>(ev C e σ).bind fun x=>(evs C es σ).bind fun l=>.ok (x :: l)
noncomputable def bf (C:Calls):It→St→Out (List PyData × Mode)
  | .e a,σ=>(ev C a σ).bind itV
  | .r1 n,σ=>(ev C n σ).bind fun x=>match x.1 with | .d (.int n)=>bT 0 n | _=>.bad
  | .r2 a b,σ=>(ev C a σ).bind fun x=>(ev C b σ).bind fun y=>match x.1,y.1 with | .d (.int a),.d (.int b)=>bT a b | _,_=>.bad
end
theorem cZ (C:Calls) (x:String) (σ:St):ev C (.name x) σ=(match σ x with | some p=>.ok (mk p.1) | none=>.bad):=rfl
theorem fV (C:Calls) (i:Int) (σ0:St):ev C (.int i) σ0=(.ok (sI i)):=rfl
theorem xC (C:Calls) (s:String) (σ0:St):ev C (.str s) σ0=(.ok (.d (.str (Str.ofString s)),.deep)):=rfl
theorem ma (C:Calls) (b:Bool) (σ0:St):ev C (.bool b) σ0=(.ok (sB b)):=rfl
theorem mF (C:Calls) (σ0:St):ev C .none σ0=(.ok (.d .none,.deep)):=rfl
theorem kE (C:Calls) (o:BOp) (a:E) (b:E) (σ:St):ev C (.bin o a b) σ=((ev C a σ).bind fun x=>(ev C b σ).bind fun y=>match x.1,y.1 with | .d x,.d y=>cT o x y | _,_=>.bad):=rfl
theorem kC (C:Calls) (a:E) (σ:St):ev C (.neg a) σ=((ev C a σ).bind fun x=>match x.1 with | .d (.int i)=>.ok (sI (-i)) | _=>.bad):=rfl
theorem f9 (C:Calls) (a:E) (σ:St):ev C (.not a) σ=((ev C a σ).bind fun x=>(au x.1).bind fun b=>.ok (sB (!b))):=rfl
theorem fW (C:Calls) (o:COp) (a:E) (b:E) (σ:St):ev C (.cmp o a b) σ=((ev C a σ).bind fun x=>(ev C b σ).bind fun y=>(bM o x.1 y.1).bind fun b=>.ok (sB b)):=rfl
theorem fR (C:Calls) (a:E) (b:E) (σ:St):ev C (.and a b) σ=((ev C a σ).bind fun x=>(au x.1).bind fun t=>if t then (ev C b σ).bind fun y=>(au y.1).bind fun u=>.ok (sB u) else .ok (sB false)):=rfl
theorem g7 (C:Calls) (a:E) (b:E) (σ:St):ev C (.or a b) σ=((ev C a σ).bind fun x=>(au x.1).bind fun t=>if t then .ok (sB true) else (ev C b σ).bind fun y=>(au y.1).bind fun u=>.ok (sB u)):=rfl
theorem bU (C:Calls) (es:Es) (σ:St):ev C (.list es) σ=((evs C es σ).bind fun l=>match bx l with
    | some xs=>.ok (.d (.list xs),if allDeep l then .deep else .top)
    | none=>.bad):=rfl
theorem iE (C:Calls) (es:Es) (σ:St):ev C (.tup es) σ=((evs C es σ).bind fun l=>match bx l with
    | some xs=>.ok (.d (.tuple xs),if allDeep l then .deep else .sh)
    | none=>.bad):=rfl
theorem mG (C:Calls) (σ0:St):ev C .edic σ0=(.ok (.dic0,.deep)):=rfl
theorem gJ (C:Calls) (elt:E) (x:String) (it:It) (σ:St):ev C (.comp elt x it) σ=((bf C it σ).bind fun q=>(bh (fun y=>(ev C elt (upd σ x (mk (.d y)))).bind fun r=>.ok (some r)) q.1).calm.bind fun r=>.ok (.d (.list r.1),if r.2 then .deep else .top)):=rfl
theorem eg (C:Calls) (elt:E) (x:String) (it:It) (c:E) (σ:St):ev C (.compif elt x it c) σ=((bf C it σ).bind fun q=>(bh (fun y=>(ev C c (upd σ x (mk (.d y)))).bind fun t=>(au t.1).bind fun b=>if b then (ev C elt (upd σ x (mk (.d y)))).bind fun r=>.ok (some r) else .ok none) q.1).calm.bind fun r=>.ok (.d (.list r.1),if r.2 then .deep else .top)):=rfl
theorem iD (C:Calls) (a:E) (i:E) (σ:St):ev C (.sub a i) σ=((ev C a σ).bind fun x=>(ev C i σ).bind fun y=>match x.1,y.1 with | .d x,.d y=>d6 x y | _,_=>.bad):=rfl
theorem kq (C:Calls) (a:E) (i:E) (σ:St):ev C (.slo a i) σ=((ev C a σ).bind fun x=>(ev C i σ).bind fun y=>match x.1,y.1 with | .d x,.d y=>gE x y | _,_=>.bad):=rfl
theorem kn (C:Calls) (a:E) (i:E) (σ:St):ev C (.shi a i) σ=((ev C a σ).bind fun x=>(ev C i σ).bind fun y=>match x.1,y.1 with | .d x,.d y=>gr x y | _,_=>.bad):=rfl
theorem je (C:Calls) (a:E) (n:String) (σ:St):ev C (.attr a n) σ=(aC (C "Rule") fun uu=>(ev C a σ).bind fun x=>iG x.1 n):=rfl
theorem iw (C:Calls) (f:B1) (a:E) (σ:St):ev C (.bi1 f a) σ=((ev C a σ).bind fun x=>b1V f x.1):=rfl
theorem jY (C:Calls) (f:B2) (a:E) (b:E) (σ:St):ev C (.bi2 f a b) σ=((ev C a σ).bind fun x=>(ev C b σ).bind fun y=>b2V f x.1 y.1):=rfl
theorem kF (C:Calls) (a:E) (t:String) (σ:St):ev C (.isi a t) σ=((ev C a σ).bind fun x=>(fB x.1 t).bind fun b=>.ok (sB b)):=rfl
theorem iZ (C:Calls) (f:String) (es:Es) (σ:St):ev C (.call f es) σ=(match C f with
    | some g=>(evs C es σ).bind fun l=>g (l.map (·.1))
    | none=>.bad):=rfl
theorem gw (C:Calls) (a:E) (m:String) (es:Es) (σ:St):ev C (.meth a m es) σ=((ev C a σ).bind fun x=>aC (d0 x.1) fun uu=>aC (C m) fun g=>(evs C es σ).bind fun l=>g (x.1 :: l.map (·.1))):=rfl
theorem a9 (C:Calls) (σ0:St):evs C .nil σ0=(.ok []):=rfl
theorem aV (C:Calls) (e:E) (es:Es) (σ:St):evs C (.cons e es) σ=((ev C e σ).bind fun x=>(evs C es σ).bind fun l=>.ok (x :: l)):=rfl
theorem f7 (C:Calls) (a:E) (σ:St):bf C (.e a) σ=((ev C a σ).bind itV):=rfl
theorem eH (C:Calls) (n:E) (σ:St):bf C (.r1 n) σ=((ev C n σ).bind fun x=>match x.1 with | .d (.int n)=>bT 0 n | _=>.bad):=rfl
theorem eM (C:Calls) (a:E) (b:E) (σ:St):bf C (.r2 a b) σ=((ev C a σ).bind fun x=>(ev C b σ).bind fun y=>match x.1,y.1 with | .d (.int a),.d (.int b)=>bT a b | _,_=>.bad):=rfl
mutual
noncomputable def fv:E→List String
  | .name x=>[x]
  | .int _ | .str _ | .bool _ | .none | .edic=>[]
  | .bin _ a b | .cmp _ a b | .and a b | .or a b | .sub a b | .slo a b | .shi a b | .bi2 _ a b=>fv a ++ fv b
  | .neg a | .not a | .attr a _ | .bi1 _ a | .isi a _=>fv a
  | .list es | .tup es | .call _ es=>fvs es
  | .comp elt _ it=>bB it ++ fv elt
  | .compif elt _ it c=>bB it ++ (fv c ++ fv elt)
  | .meth a _ es=>fv a ++ fvs es
noncomputable def fvs:Es→List String
  | .nil=>[]
  | .cons e es=>fv e ++ fvs es
noncomputable def bB:It→List String
  | .e a=>fv a
  | .r1 n=>fv n
  | .r2 a b=>fv a ++ fv b
end
theorem eL (x:String):fv (.name x)=([x]):=rfl
theorem w8 (z0:Int):fv (.int z0)=([]):=rfl
theorem ER (z0:String):fv (.str z0)=([]):=rfl
theorem C8 (z0:Bool):fv (.bool z0)=([]):=rfl
theorem DH:fv .none=([]):=rfl
theorem Dc:fv .edic=([]):=rfl
theorem xD (z0:BOp) (a:E) (b:E):fv (.bin z0 a b)=(fv a ++ fv b):=rfl
theorem xw (z0:COp) (a:E) (b:E):fv (.cmp z0 a b)=(fv a ++ fv b):=rfl
theorem w5 (a:E) (b:E):fv (.and a b)=(fv a ++ fv b):=rfl
theorem yr (a:E) (b:E):fv (.or a b)=(fv a ++ fv b):=rfl
theorem nU (a:E) (b:E):fv (.sub a b)=(fv a ++ fv b):=rfl
theorem xl (a:E) (b:E):fv (.slo a b)=(fv a ++ fv b):=rfl
theorem xH (a:E) (b:E):fv (.shi a b)=(fv a ++ fv b):=rfl
theorem xp (z0:B2) (a:E) (b:E):fv (.bi2 z0 a b)=(fv a ++ fv b):=rfl
theorem xa (a:E):fv (.neg a)=(fv a):=rfl
theorem wZ (a:E):fv (.not a)=(fv a):=rfl
theorem tr (a:E) (z1:String):fv (.attr a z1)=(fv a):=rfl
theorem xG (z0:B1) (a:E):fv (.bi1 z0 a)=(fv a):=rfl
theorem xe (a:E) (z1:String):fv (.isi a z1)=(fv a):=rfl
theorem tm (es:Es):fv (.list es)=(fvs es):=rfl
theorem wt (es:Es):fv (.tup es)=(fvs es):=rfl
theorem tq (z0:String) (es:Es):fv (.call z0 es)=(fvs es):=rfl
theorem tA (elt:E) (z1:String) (it:It):fv (.comp elt z1 it)=(bB it ++ fv elt):=rfl
theorem o0 (elt:E) (z1:String) (it:It) (c:E):fv (.compif elt z1 it c)=(bB it ++ (fv c ++ fv elt)):=rfl
theorem uk (a:E) (z1:String) (es:Es):fv (.meth a z1 es)=(fv a ++ fvs es):=rfl
theorem Eu:fvs .nil=([]):=rfl
theorem qU (e:E) (es:Es):fvs (.cons e es)=(fv e ++ fvs es):=rfl
theorem iu (a:E):bB (.e a)=(fv a):=rfl
theorem mh (n:E):bB (.r1 n)=(fv n):=rfl
theorem tx (a:E) (b:E):bB (.r2 a b)=(fv a ++ fv b):=rfl
inductive H1 where
  | asg (x:String) (e:E)
  | ret (e:E)
noncomputable def uJ:List H1→List String
  | []=>[]
  | .asg x _ :: r=>x :: uJ r
  | .ret _ :: _=>[]
noncomputable def qi:List (String × List H1)→List String
  | []=>[]
  | p :: r=>uJ p.2 ++ qi r
mutual
inductive S where
  | assign (x:String) (e:E)
  | setitem (x:String) (k:E)
  | append (x:String) (e:E)
  | insert (x:String) (i e:E)
  | pop (x:String) (i:E)
  | expr (e:E)
  | ret (e:E)
  | retn (x:String)
  | ite (c:E) (a b:Ss)
  | for1 (x:String) (it:It) (b:Ss)
  | raise (c:String)
  | tryS (b:S) (hs:List (String × List H1))
  | bad
inductive Ss where
  | nil
  | cons (s:S) (r:Ss)
end
mutual
noncomputable def asg:S→List String
  | .assign x _ | .setitem x _ | .append x _ | .insert x _ _ | .pop x _=>[x]
  | .expr _ | .ret _ | .retn _ | .raise _ | .bad=>[]
  | .ite _ a b=>gR a ++ gR b
  | .for1 x _ b=>x :: gR b
  | .tryS b hs=>asg b ++ qi hs
noncomputable def gR:Ss→List String
  | .nil=>[]
  | .cons s r=>asg s ++ gR r
end
inductive Flw where
  | next
  | ret (v:V × Mode)
noncomputable def demote (σ:St) (ns:List String):St:=fun y=>if y∈ns then (σ y).map fun p=>mk p.1 else σ y
noncomputable def consume (σ:St) (ns:List String) (m:Mode):St:=if m = .deep then σ else demote σ ns
noncomputable def cr (f:PyData→St→Out (St × Flw)):List PyData→St→Out (St × Flw)
  | [],σ=>.ok (σ,.next)
  | x :: xs,σ=>(f x σ).bind fun r=>match r.2 with
    | .next=>cr f xs r.1
    | .ret v=>.ok (r.1,.ret v)
noncomputable def fG (σ:St) (x:String) (ns:List String) (mx:Mode) (xs:List PyData) (m:Mode):Out (St × Flw) :=
  if xs.length≤lim then
    if m = .deep then .ok (upd σ x (.d (.list xs),mx),.next)
    else if x∈ns then .bad else .ok (upd (demote σ ns) x (.d (.list xs),.top),.next)
  else .bad
noncomputable def eU (σ:St) (x:String):V→PyData→Out (St × Flw)
  | .dic0,k=>match dK k with
    | some i=>.ok (upd σ x (.dicI [i],.deep),.next)
    | none=>match dj k with
      | some t=>.ok (upd σ x (.dicT [t],.deep),.next)
      | none=>.bad
  | .dicI ks,k=>match dK k with
    | some i=>if ks.length≤lim then .ok (upd σ x (.dicI (if i∈ks then ks else ks ++ [i]),.deep),.next) else .bad
    | none=>.bad
  | .dicT ks,k=>match dj k with
    | some i=>if ks.length≤lim then .ok (upd σ x (.dicT (if i∈ks then ks else ks ++ [i]),.deep),.next) else .bad
    | none=>.bad
  | _,_=>.bad
noncomputable def hJ:E→Bool
  | .comp _ _ _ | .compif _ _ _ _=>true
  | _=>false
noncomputable def evA (C:Calls) (e:E) (σ:St):Out (V × Mode):=if hJ e then (ev C e σ).calm else ev C e σ
theorem jR {C:Calls}{e:E}{σ:St}{r:V × Mode} (h:ev C e σ = .ok r):evA C e σ = .ok r:=by
  unfold evA; rw [h]; split <;> rfl
theorem yN {C:Calls}{e:E}{σ:St}{r:V × Mode} (h:evA C e σ = .ok r):ev C e σ = .ok r:=by
  unfold evA at h
  split at h
  · cases q:ev C e σ with
    | ok a=>rw [q] at h; exact h
    | exc c=>rw [q] at h; cases h
    | bad=>rw [q] at h; cases h
  · exact h
theorem oG {C:Calls}{e:E}{σ:St}{c:String} (h:evA C e σ = .exc c):ev C e σ = .exc c∧hJ e=false:=by
  unfold evA at h
  split at h
  · cases q:ev C e σ <;> rw [q] at h <;> cases h
  · rename_i q
    exact ⟨h,by cases hc:hJ e with | true=>exact absurd hc q | false=>rfl⟩
mutual
noncomputable def hOk:E→Bool
  | .name _ | .int _ | .bool _=>true
  | .bin _ a b | .cmp _ a b | .and a b | .or a b=>hOk a && hOk b
  | .not a=>hOk a
  | .list es=>ui es
  | _=>false
noncomputable def ui:Es→Bool
  | .nil=>true
  | .cons e es=>hOk e && ui es
end
noncomputable def noC:Calls:=fun uu=>none
noncomputable def exH:List H1→St→Out (St × Flw)
  | [],σ=>.ok (σ,.next)
  | .asg x e :: r,σ=>if hOk e then (ev noC e σ).calm.bind fun q=>exH r (upd (consume σ (fv e) q.2) x q) else .bad
  | .ret e :: _,σ=>if hOk e then (ev noC e σ).calm.bind fun q=>.ok (σ,.ret q) else .bad
noncomputable def ir (C:Calls) (c:String):List (String × List H1)→St→Out (St × Flw)
  | [],_=>.bad
  | p :: r,σ=>aC (C p.1) fun uu=>if p.1∈aM then (if p.1=c∨p.1 = "PickError" then exH p.2 σ else ir C c r σ) else .bad
noncomputable def pF:S→Bool
  | .expr _ | .assign _ _=>true
  | _=>false
noncomputable def orH (C:Calls) (b:S) (hs:List (String × List H1)) (σ:St):Out (St × Flw)→Out (St × Flw)
  | .ok r=>.ok r
  | .exc c=>if pF b then ir C c hs σ else .bad
  | .bad=>.bad
mutual
noncomputable def ex (C:Calls):S→St→Out (St × Flw)
  | .assign x e,σ=>(evA C e σ).bind fun r=>.ok (upd (consume σ (fv e) r.2) x r,.next)
  | .setitem x k,σ=>(ev C k σ).calm.bind fun r=>match r.1,σ x with
    | .d k,some (v,.deep)=>eU σ x v k
    | _,_=>.bad
  | .append x e,σ=>(ev C e σ).calm.bind fun r=>match r.1,σ x with
    | .d y,some (v,mx)=>(match eK v with
      | some xs=>if mx = .sh then .bad else fG σ x (fv e) mx (xs ++ [y]) r.2
      | none=>.bad)
    | _,_=>.bad
  | .insert x i e,σ=>(ev C i σ).calm.bind fun q=>(ev C e σ).calm.bind fun r=>match q.1,r.1,σ x with
    | .d (.int i),.d y,some (v,mx)=>(match eK v with
      | some xs=>if mx = .sh∨i<0∨(xs.length:Int)<i then .bad else fG σ x (fv e) mx (xs.take i.toNat ++ y :: xs.drop i.toNat) r.2
      | none=>.bad)
    | _,_,_=>.bad
  | .pop x i,σ=>(ev C i σ).calm.bind fun q=>match q.1,σ x with
    | .d (.int i),some (v,mx)=>(match eK v with
      | some xs=>if mx = .sh∨i<0∨(xs.length:Int)≤i then .bad else .ok (upd σ x (.d (.list (xs.eraseIdx i.toNat)),.top),.next)
      | none=>.bad)
    | _,_=>.bad
  | .expr e,σ=>(ev C e σ).bind fun r=>.ok (consume σ (fv e) r.2,.next)
  | .retn x,σ=>match σ x with
    | some r=>.ok (σ,.ret r)
    | none=>.bad
  | .ret e,σ=>(ev C e σ).bind fun r=>.ok (σ,.ret r)
  | .ite c a b,σ=>(ev C c σ).bind fun r=>(au r.1).bind fun t=>if t then exs C a σ else exs C b σ
  | .for1 x it b,σ=>(bf C it σ).bind fun q=>cr (fun y σ=>exs C b (upd σ x (mk (.d y)))) q.1 (consume σ (bB it) q.2)
  | .raise c,_=>aC (C c) fun uu=>if c∈aM then .exc c else .bad
  | .tryS b hs,σ=>orH C b hs σ (ex C b σ)
  | .bad,_=>.bad
noncomputable def exs (C:Calls):Ss→St→Out (St × Flw)
  | .nil,σ=>.ok (σ,.next)
  | .cons s r,σ=>(ex C s σ).bind fun q=>match q.2 with
    | .next=>exs C r q.1
    | .ret v=>.ok (q.1,.ret v)
end
theorem cb (C:Calls) (x:String) (e:E) (σ:St):ex C (.assign x e) σ=((evA C e σ).bind fun r=>.ok (upd (consume σ (fv e) r.2) x r,.next)):=rfl
theorem cf (C:Calls) (x:String) (k:E) (σ:St):ex C (.setitem x k) σ=((ev C k σ).calm.bind fun r=>match r.1,σ x with
    | .d k,some (v,.deep)=>eU σ x v k
    | _,_=>.bad):=rfl
theorem gz (C:Calls) (x:String) (e:E) (σ:St):ex C (.append x e) σ=((ev C e σ).calm.bind fun r=>match r.1,σ x with
    | .d y,some (v,mx)=>(match eK v with
      | some xs=>if mx = .sh then .bad else fG σ x (fv e) mx (xs ++ [y]) r.2
      | none=>.bad)
    | _,_=>.bad):=rfl
theorem gD (C:Calls) (x:String) (i:E) (e:E) (σ:St):ex C (.insert x i e) σ=((ev C i σ).calm.bind fun q=>(ev C e σ).calm.bind fun r=>match q.1,r.1,σ x with
    | .d (.int i),.d y,some (v,mx)=>(match eK v with
      | some xs=>if mx = .sh∨i<0∨(xs.length:Int)<i then .bad else fG σ x (fv e) mx (xs.take i.toNat ++ y :: xs.drop i.toNat) r.2
      | none=>.bad)
    | _,_,_=>.bad):=rfl
theorem kj (C:Calls) (x:String) (i:E) (σ:St):ex C (.pop x i) σ=((ev C i σ).calm.bind fun q=>match q.1,σ x with
    | .d (.int i),some (v,mx)=>(match eK v with
      | some xs=>if mx = .sh∨i<0∨(xs.length:Int)≤i then .bad else .ok (upd σ x (.d (.list (xs.eraseIdx i.toNat)),.top),.next)
      | none=>.bad)
    | _,_=>.bad):=rfl
theorem dB (C:Calls) (e:E) (σ:St):ex C (.expr e) σ=((ev C e σ).bind fun r=>.ok (consume σ (fv e) r.2,.next)):=rfl
theorem jb (C:Calls) (x:String) (σ:St):ex C (.retn x) σ=(match σ x with
    | some r=>.ok (σ,.ret r)
    | none=>.bad):=rfl
theorem eF (C:Calls) (e:E) (σ:St):ex C (.ret e) σ=((ev C e σ).bind fun r=>.ok (σ,.ret r)):=rfl
theorem gh (C:Calls) (c:E) (a:Ss) (b:Ss) (σ:St):ex C (.ite c a b) σ=((ev C c σ).bind fun r=>(au r.1).bind fun t=>if t then exs C a σ else exs C b σ):=rfl
theorem gH (C:Calls) (x:String) (it:It) (b:Ss) (σ:St):ex C (.for1 x it b) σ=((bf C it σ).bind fun q=>cr (fun y σ=>exs C b (upd σ x (mk (.d y)))) q.1 (consume σ (bB it) q.2)):=rfl
theorem fc (C:Calls) (c:String) (σ0:St):ex C (.raise c) σ0=(aC (C c) fun uu=>if c∈aM then .exc c else .bad):=rfl
theorem jf (C:Calls) (b:S) (hs:List (String × List H1)) (σ:St):ex C (.tryS b hs) σ=(orH C b hs σ (ex C b σ)):=rfl
theorem wG (C:Calls) (σ0:St):ex C .bad σ0=(.bad):=rfl
theorem cE (C:Calls) (σ:St):exs C .nil σ=(.ok (σ,.next)):=rfl
theorem bS (C:Calls) (s:S) (r:Ss) (σ:St):exs C (.cons s r) σ=((ex C s σ).bind fun q=>match q.2 with
    | .next=>exs C r q.1
    | .ret v=>.ok (q.1,.ret v)):=rfl
structure Fn where
  params:List String
  body:Ss
noncomputable def bi:List String→List V→Option St
  | [],[]=>some fun uu=>none
  | p :: ps,v :: vs=>(bi ps vs).map fun σ=>upd σ p (mk v)
  | _,_=>none
noncomputable def aE (C:Calls) (f:Fn) (vs:List V):Out (V × Mode):=match bi f.params vs with
  | some σ=>(exs C f.body σ).bind fun r=>match r.2 with
    | .ret v=>.ok v
    | .next=>.ok (.d .none,.deep)
  | none=>.bad
noncomputable def aH (C:Calls):Calls:=fun f=>if f = "law" then none else C f
noncomputable def dX (σ:St):Out (V × Mode):=aC (σ "count") fun p=>aC (asD p.1) fun c=>aC (dK c) fun c=>aC (σ "full") fun q=>aC (asD q.1) fun d=>aC (asL d) fun xs=>aC (xs[0]?) fun x=>aC (asL x) fun ys=>
  if q.2 = .deep then .ok (.rule c (.list xs) ys.length,.deep) else .bad
noncomputable def cj (C:Calls) (f:Fn) (vs:List V):Out (V × Mode):=match bi f.params vs with
  | some σ=>(exs C f.body σ).bind fun r=>match r.2 with
    | .next=>dX r.1
    | .ret _=>.bad
  | none=>.bad
noncomputable def bZ (f:String) (C:Calls) (fn:Fn) (vs:List V):Out (V × Mode):=if f = "Rule" then cj (aH C) fn vs else if f∈methNames then aE (aH C) fn vs else aE C fn vs
noncomputable def mkC (L:List (String × Fn)):Nat→Calls
  | 0=>fun uu=>none
  | n + 1=>fun f=>(L.lookup f).map fun fn vs=>bZ f (mkC L n) fn vs
end Mine
namespace Mine
set_option tactic.hygienic false
set_option linter.unusedVariables false
open PySem PyProof.Rows
mutual
inductive R (h:Heap):Value→PyData→List Addr→Prop
  | none:R h .none .none []
  | bool (b:Bool):R h (.bool b) (.bool b) []
  | int (i:Int) (t:Tok):R h (.int i t) (.int i) []
  | str (x:Str) (t:Tok):R h (.str x t) (.str x) []
  | list {a:Addr}{n:Nat}{xs:List PyData}{as:List Addr}{vs:List Value}:h.get? a=some ⟨.type "list", Option.none,.seq vs.toArray n,#[]⟩→RA h vs xs as→R h (.ref a) (.list xs) (a :: as)
  | tuple {a:Addr}{n:Nat}{xs:List PyData}{as:List Addr}{vs:List Value}:h.get? a=some ⟨.type "tuple", Option.none,.seq vs.toArray n,#[]⟩→RA h vs xs as→R h (.ref a) (.tuple xs) as
inductive RA (h:Heap):List Value→List PyData→List Addr→Prop
  | nil:RA h [] [] []
  | cons {v:Value}{vs:List Value}{d:PyData}{ds:List PyData}{as bs:List Addr}:R h v d as→RA h vs ds bs→RA h (v :: vs) (d :: ds) (as ++ bs)
end
theorem R.ind {h:Heap}{M:Value→PyData→List Addr→Prop}{N:List Value→List PyData→List Addr→Prop} (h1:M .none .none []) (h2:∀ b,M (.bool b) (.bool b) []) (h3:∀ i t,M (.int i t) (.int i) []) (h4:∀ x t,M (.str x t) (.str x) [])
    (h5:∀ {a:Addr}{n:Nat}{xs:List PyData}{as:List Addr}{vs:List Value},h.get? a=some ⟨.type "list", Option.none,.seq vs.toArray n,#[]⟩→RA h vs xs as→N vs xs as→M (.ref a) (.list xs) (a :: as))
    (h6:∀ {a:Addr}{n:Nat}{xs:List PyData}{as:List Addr}{vs:List Value},h.get? a=some ⟨.type "tuple", Option.none,.seq vs.toArray n,#[]⟩→RA h vs xs as→N vs xs as→M (.ref a) (.tuple xs) as)
    (h7:N [] [] []) (h8:∀ {v:Value}{vs:List Value}{d:PyData}{ds:List PyData}{as bs:List Addr},R h v d as→RA h vs ds bs→M v d as→N vs ds bs→N (v :: vs) (d :: ds) (as ++ bs)) :
    (∀ {v:Value}{d:PyData}{as:List Addr},R h v d as→M v d as)∧(∀ {vs:List Value}{ds:List PyData}{as:List Addr},RA h vs ds as→N vs ds as) :=
  ⟨fun r=>R.rec (motive_1:=fun v d as _=>M v d as) (motive_2:=fun vs ds as _=>N vs ds as) h1 h2 h3 h4 (fun e r i=>h5 e r i) (fun e r i=>h6 e r i) h7 (fun x r i j=>h8 x r i j) r,
    fun r=>RA.rec (motive_1:=fun v d as _=>M v d as) (motive_2:=fun vs ds as _=>N vs ds as) h1 h2 h3 h4 (fun e r i=>h5 e r i) (fun e r i=>h6 e r i) h7 (fun x r i j=>h8 x r i j) r⟩
theorem RA.ind {h:Heap}{N:List Value→List PyData→List Addr→Prop} (h7:N [] [] []) (h8:∀ {v:Value}{vs:List Value}{d:PyData}{ds:List PyData}{as bs:List Addr},R h v d as→RA h vs ds bs→N vs ds bs→N (v :: vs) (d :: ds) (as ++ bs))
    {vs:List Value}{ds:List PyData}{as:List Addr} (r:RA h vs ds as):N vs ds as :=
  (R.ind (M:=fun uu uu uu=>True) (N:=N) trivial (fun uu=>trivial) (fun uu uu=>trivial) (fun uu uu=>trivial) (fun uu uu uu=>trivial) (fun uu uu uu=>trivial) h7 fun x r _ j=>h8 x r j).2 r
noncomputable def Kps (h h':Heap) (as:List Addr):Prop:=∀ b o,(b∈as∨o.cls = .type "tuple")→(∃ vs n,o.data = .seq vs n)→h.get? b=some o→h'.get? b=some o
theorem R.onB {h h':Heap}:(∀ {v:Value}{d:PyData}{as:List Addr},R h v d as→Kps h h' as→R h' v d as)∧(∀ {vs:List Value}{ds:List PyData}{as:List Addr},RA h vs ds as→Kps h h' as→RA h' vs ds as) :=
  R.ind (M:=fun v d as=>Kps h h' as→R h' v d as) (N:=fun vs ds as=>Kps h h' as→RA h' vs ds as) (fun uu=>.none) (fun b _=>.bool b) (fun i t _=>.int i t) (fun x t _=>.str x t)
    (fun e _ ih k=>.list (k _ _ (.inl (.head _)) (bn _ _ rfl) e) (ih fun b o hb=>k b o (hb.imp (.tail _) id))) (fun e _ ih k=>.tuple (k _ _ (.inr rfl) (bn _ _ rfl) e) (ih k))
    (fun uu=>.nil) (fun uu uu i j k=>.cons (i fun b o hb=>k b o (hb.imp (List.mem_append_left _) id)) (j fun b o hb=>k b o (hb.imp (List.mem_append_right _) id)))
section
variable {h h':Heap}{v:Value}{d:PyData}{as:List Addr}{vs:List Value}{ds:List PyData}
theorem R.on2 (r:R h v d as) (k:∀ b o,(b∈as∨o.cls = .type "tuple")→(∃ vs n,o.data = .seq vs n)→h.get? b=some o→h'.get? b=some o):R h' v d as:=R.onB.1 r k
theorem RA.on2 (r:RA h vs ds as) (k:∀ b o,(b∈as∨o.cls = .type "tuple")→(∃ vs n,o.data = .seq vs n)→h.get? b=some o→h'.get? b=some o):RA h' vs ds as:=R.onB.2 r k
theorem R.on (r:R h v d as) (k:∀ b o,(b∈as∨o.cls = .type "tuple")→h.get? b=some o→h'.get? b=some o):R h' v d as:=r.on2 fun b o q _=>k b o q
theorem RA.on (r:RA h vs ds as) (k:∀ b o,(b∈as∨o.cls = .type "tuple")→h.get? b=some o→h'.get? b=some o):RA h' vs ds as:=r.on2 fun b o q _=>k b o q
end
noncomputable def Off (h:Heap) (as wr:List Addr):Prop:=∀ b∈wr,∀ o,h.get? b=some o→(∀ vs n,o.data≠.seq vs n)∨(o.cls≠.type "tuple" ∧ b∉as)
theorem R.off {h h':Heap}{v:Value}{d:PyData}{as wr:List Addr} (r:R h v d as) (hw:Off h as wr) (kp:∀ b o,b∉wr→h.get? b=some o→h'.get? b=some o):R h' v d as :=
  r.on2 fun b o hb ⟨vs,n,e⟩ hg=>kp b o (fun hm=>(hw b hm o hg).elim (fun q=>q vs n e) fun q=>hb.elim q.2 q.1) hg
theorem RA.off {h h':Heap}{vs:List Value}{ds:List PyData}{as wr:List Addr} (r:RA h vs ds as) (hw:Off h as wr) (kp:∀ b o,b∉wr→h.get? b=some o→h'.get? b=some o):RA h' vs ds as :=
  r.on2 fun b o hb ⟨vs,n,e⟩ hg=>kp b o (fun hm=>(hw b hm o hg).elim (fun q=>q vs n e) fun q=>hb.elim q.2 q.1) hg
section
variable {h h':Heap}{v:Value}{d:PyData}{as:List Addr}{vs:List Value}{ds:List PyData}
theorem R.keep (r:R h v d as) (k:∀ b o,h.get? b=some o→h'.get? b=some o):R h' v d as:=r.on fun b o _=>k b o
theorem RA.keep (r:RA h vs ds as) (k:∀ b o,h.get? b=some o→h'.get? b=some o):RA h' vs ds as:=r.on fun b o _=>k b o
end
theorem R.readsB {h:Heap}:(∀ {v:Value}{d:PyData}{as:List Addr},R h v d as→Reads h v d as)∧(∀ {vs:List Value}{ds:List PyData}{as:List Addr},RA h vs ds as→ReadsAll h vs ds as) :=
  R.ind (M:=fun v d as=>Reads h v d as) (N:=fun vs ds as=>ReadsAll h vs ds as) .none (fun b=>.bool b) (fun i t=>.int i t) (fun x t=>.str x t) (fun e _ i=>.list e rfl rfl (by simpa using i)) (fun e _ i=>.tuple e rfl rfl (by simpa using i)) .nil (fun uu uu i j=>.cons i j)
theorem R.reads {h:Heap}{v:Value}{d:PyData}{as:List Addr} (r:R h v d as):Reads h v d as:=R.readsB.1 r
noncomputable def lF (h:Heap) (as:List Addr):Prop:=∀ a∈as,∃ vs n,h.get? a=some ⟨.type "list", Option.none,.seq vs n,#[]⟩
theorem R.thereB {h:Heap}:(∀ {v:Value}{d:PyData}{as:List Addr},R h v d as→lF h as)∧(∀ {vs:List Value}{ds:List PyData}{as:List Addr},RA h vs ds as→lF h as) :=
  R.ind (M:=fun uu uu as=>lF h as) (N:=fun uu uu as=>lF h as) (fun uu ha=>nomatch ha) (fun uu uu ha=>nomatch ha) (fun uu uu uu ha=>nomatch ha) (fun uu uu uu ha=>nomatch ha)
    (fun e _ i a ha=>(List.mem_cons.mp ha).elim (fun q=>q▸(bn _ _ e)) (i a)) (fun uu uu i=>i) (fun uu ha=>nomatch ha) (fun uu uu i j a ha=>(List.mem_append.mp ha).elim (i a) (j a))
theorem R.there {h:Heap}{v:Value}{d:PyData}{as:List Addr} (r:R h v d as):∀ a∈as,∃ vs n,h.get? a=some ⟨.type "list", Option.none,.seq vs n,#[]⟩:=R.thereB.1 r
theorem RA.there {h:Heap}{vs:List Value}{ds:List PyData}{as:List Addr} (r:RA h vs ds as):∀ a∈as,∃ vs n,h.get? a=some ⟨.type "list", Option.none,.seq vs n,#[]⟩:=R.thereB.2 r
theorem R.isInt {h:Heap}{v:Value}{i:Int}{as:List Addr} (r:R h v (.int i) as):∃ t,v = .int i t∧as=[]:=by
  cases r; exact (ag _ rfl rfl)
theorem R.isBool {h:Heap}{v:Value}{b:Bool}{as:List Addr} (r:R h v (.bool b) as):v = .bool b∧as=[]:=by
  cases r; exact ⟨rfl,rfl⟩
theorem R.isNone {h:Heap}{v:Value}{as:List Addr} (r:R h v .none as):v = .none∧as=[]:=by
  cases r; exact ⟨rfl,rfl⟩
theorem R.sx_nil {h:Heap}{v:Value}{d:PyData}{as:List Addr} (r:R h v d as) (hs:sx d=true):as=[]:=by
  cases r <;> first | rfl | (simp [sx] at hs)
theorem RA.length {h:Heap}{vs:List Value}{ds:List PyData}{as:List Addr} (r:RA h vs ds as):vs.length=ds.length :=
  RA.ind (N:=fun vs ds _=>vs.length=ds.length) rfl (fun uu uu i=>congrArg (· + 1) i) r
theorem RA.append {h:Heap}{vs ws:List Value}{ds es:List PyData}{as bs:List Addr} (r:RA h vs ds as) (q:RA h ws es bs):RA h (vs ++ ws) (ds ++ es) (as ++ bs) :=
  RA.ind (N:=fun vs ds as=>RA h (vs ++ ws) (ds ++ es) (as ++ bs)) q (fun x _ i=>by rw [List.append_assoc]; exact .cons x i) r
theorem RA.sx_nil {h:Heap}{vs:List Value}{ds:List PyData}{as:List Addr} (r:RA h vs ds as):ds.all sx=true→as=[] :=
  RA.ind (N:=fun uu ds as=>ds.all sx=true→as=[]) (fun uu=>rfl) (fun x _ i hs=>by
    refine ae (Bool.and_eq_true_iff.mp (show (sx _ && List.all _ sx)=true from hs)) fun h1 h2=>?_
    rw [x.sx_nil h1,i h2]; rfl) r
theorem RA.get {h:Heap}{vs:List Value}{ds:List PyData}{as:List Addr} (r:RA h vs ds as):∀ {k:Nat}{d:PyData},ds[k]? = some d→∃ v bs,vs[k]? = some v∧R h v d bs∧∀ b∈bs,b∈as:=by
  have key:∀ (k:Nat) (d:PyData),ds[k]? = some d→∃ v bs,vs[k]? = some v∧R h v d bs∧∀ b∈bs,b∈as:=by
    refine RA.ind (N:=fun vs ds as=>∀ (k:Nat) (d:PyData),ds[k]? = some d→∃ v bs,vs[k]? = some v∧R h v d bs∧∀ b∈bs,b∈as) (fun k d hk=>by cases hk) (fun x _ i k d hk=>?_) r
    cases k with
    | zero=>(have oc:=Option.some.inj hk; clear hk; subst oc); exact (aK _ _ rfl x (fun b hb=>List.mem_append_left _ hb))
    | succ k=>
      refine ay (i k d hk) fun v bs h1 h2 h3=>?_
      exact (aK v bs h1 h2 (fun b hb=>List.mem_append_right _ (h3 b hb)))
  exact fun {k d}=>key k d
theorem RA.get' {h:Heap}{vs:List Value}{ds:List PyData}{as:List Addr} (r:RA h vs ds as) {k:Nat}{v:Value} (hk:vs[k]? = some v):∃ d bs,ds[k]? = some d∧R h v d bs∧∀ b∈bs,b∈as:=by
  have hl:k<ds.length:=by rw [← r.length]; exact (List.getElem?_eq_some_iff.mp hk).1
  refine ay (r.get (List.getElem?_eq_getElem hl)) fun v' bs h1 h2 h3=>?_
  rw [hk] at h1; (have oc:=Option.some.inj h1; clear h1; subst oc)
  exact (aK _ bs (List.getElem?_eq_getElem hl) h2 h3)
theorem RA.take {h:Heap} (n:Nat) {vs:List Value}{ds:List PyData}{as:List Addr} (r:RA h vs ds as):∃ bs,RA h (vs.take n) (ds.take n) bs∧(∀ b∈bs,b∈as):=by
  refine RA.ind (N:=fun vs ds as=>∀ n,∃ bs,RA h (vs.take n) (ds.take n) bs∧(∀ b∈bs,b∈as)) (fun n=>(ag ([]) (by rw [List.take_nil,List.take_nil]; exact .nil) (fun uu hb=>nomatch hb))) (fun x _ i n=>?_) r n
  cases n with
  | zero=>exact (ag ([]) .nil (fun uu hb=>nomatch hb))
  | succ n=>
    refine aa (i n) fun bs q hs=>?_
    exact (ag _ (.cons x q) (fun b hb=>(List.mem_append.mp hb).elim (List.mem_append_left _) fun hb=>List.mem_append_right _ (hs b hb)))
theorem RA.drop {h:Heap} (n:Nat) {vs:List Value}{ds:List PyData}{as:List Addr} (r:RA h vs ds as):∃ bs,RA h (vs.drop n) (ds.drop n) bs∧(∀ b∈bs,b∈as):=by
  refine RA.ind (N:=fun vs ds as=>∀ n,∃ bs,RA h (vs.drop n) (ds.drop n) bs∧(∀ b∈bs,b∈as)) (fun n=>(ag ([]) (by rw [List.drop_nil,List.drop_nil]; exact .nil) (fun uu hb=>nomatch hb))) (fun x r i n=>?_) r n
  cases n with
  | zero=>exact (ag _ (.cons x r) (fun uu hb=>hb))
  | succ n=>
    refine aa (i n) fun bs q hs=>?_
    exact (ag bs q (fun b hb=>List.mem_append_right _ (hs b hb)))
theorem RA.ints {h:Heap}{vs:List Value}{ds:List PyData}{as:List Addr}{ns:List Int} (r:RA h vs ds as) (e:aN ds=some ns):IntsAre vs ns∧as=[]∧ds=ns.map .int:=by
  refine RA.ind (N:=fun vs ds as=>∀ ns,aN ds=some ns→IntsAre vs ns∧as=[]∧ds=ns.map .int) (fun ns e=>?_) (fun {v vs d ds as cs} x r i ns e=>?_) r ns e
  · (have oc:=Option.some.inj e; clear e; subst oc); exact ⟨.nil,rfl,rfl⟩
  · cases x with
    | int j t=>
      refine aa (Option.map_eq_some_iff.mp (show (aN ds).map (j :: ·)=some ns from e)) fun ms e1 E5=>?_
      (clear e; subst E5)
      refine aB (i ms e1) fun a E6 E7=>?_
      (clear i r; subst E6)
      subst E7
      exact ⟨.cons j t a,rfl,rfl⟩
    | _=>exact nN e
theorem RA.of_ints {h:Heap}{vs:List Value}{ns:List Int} (r:IntsAre vs ns):RA h vs (ns.map .int) []:=by
  induction r with
  | nil=>exact .nil
  | cons i t r ih=>exact .cons (as:=[]) (.int i t) ih
mutual
noncomputable def sz:PyData→Bool
  | .none | .bool _ | .int _=>true
  | .str x=>decide (x.length≤2 ^ 22)
  | .list xs | .tuple xs=>decide (xs.length≤2 ^ 22) && szs xs
  | .dict _=>false
noncomputable def szs:List PyData→Bool
  | []=>true
  | x :: xs=>sz x && szs xs
end
theorem n0 {xs:List PyData}:szs xs=true↔∀ x∈xs,sz x=true:=by
  induction xs with
  | nil=>simp [szs]
  | cons x xs ih=>simp [szs,ih]
theorem sz_list {xs:List PyData}:sz (.list xs)=true↔xs.length≤2 ^ 22∧∀ x∈xs,sz x=true:=by simp [sz,n0]
theorem sz_tuple {xs:List PyData}:sz (.tuple xs)=true↔xs.length≤2 ^ 22∧∀ x∈xs,sz x=true:=by simp [sz,n0]
theorem gV (ns:List Int):∀ x∈ns.map PyData.int,sz x=true:=by
  intro x hx; obtain ⟨i,_,rfl⟩:=List.mem_map.mp hx; rfl
end Mine
namespace Mine
set_option tactic.hygienic false
set_option linter.unusedVariables false
open PySem PyProof.Rows
noncomputable def varK (ns:List (Str × NameKind)) (x:String):Bool:=!(Str.ofString x == Str.ofString ".0") && (match ns.lookup (Str.ofString x) with
  | some .local | some .cell | some .free=>true
  | _=>false)
noncomputable def bY (ns:List (Str × NameKind)) (x:String):Bool:=ns.lookup (Str.ofString x) == some .globalImplicit
noncomputable def aT (x:String):Bool:=!(Str.ofString x == ("__debug__" : Str)) && !(Str.ofString x == ("__classdict__" : Str))
noncomputable def bOp:BOp→Operator
  | .add=>.Add | .sub=>.Sub | .mul=>.Mult | .fdiv=>.FloorDiv | .mod=>.Mod | .pow=>.Pow | .xor=>.BitXor
noncomputable def cOp:COp→CmpOp
  | .eq=>.Eq | .ne=>.NotEq | .lt=>.Lt | .gt=>.Gt | .ge=>.GtE | .isin=>.In | .notin=>.NotIn | .isnot=>.IsNot
noncomputable def opB (o:BOp) (p:Operator):Bool:=decide (p=bOp o)
noncomputable def opC (o:COp) (p:CmpOp):Bool:=decide (p=cOp o)
noncomputable def b1n:B1→String
  | .len => "len" | .list => "list" | .tuple => "tuple" | .sorted => "sorted" | .max => "max"
noncomputable def b2n:B2→String
  | .max => "max" | .min => "min"
noncomputable def d8 (outer inner:List (Str × NameKind)):List (Str × NameKind) :=
  inner.map fun (n,k)=>if k == .free && outer.lookup n == some .cell then (n,.cell) else (n,k)
noncomputable def fK (ns:List (Str × NameKind)) (sc:Scope) (x:String):Bool :=
  sc.kind == .function && decide ((sc.names.map (·.1)).Nodup) && (sc.names.lookup (Str.ofString x) == some .local || sc.names.lookup (Str.ofString x) == some .cell) &&
  sc.names.all fun p=>(p.2 == .local && (p.1 == Str.ofString x || p.1 == Str.ofString ".0")) || p.2 == .globalImplicit || (p.2 == .cell && p.1 == Str.ofString x) || (p.2 == .free && (ns.lookup p.1 == some .cell || ns.lookup p.1 == some .free))
noncomputable def al {α:Type} (o:Option α) (f:α→Bool):Bool:=match o with
  | some a=>f a
  | none=>false
theorem ah {α:Type}{o:Option α}{f:α→Bool} (h:al o f=true):∃ a,o=some a∧f a=true:=by
  cases o with
  | none=>exact nF h
  | some a=>exact (ag a rfl h)
structure Pt where
  tag:Nat:=0
  e1:Expr:=default
  e2:Expr:=default
  es:List Expr:=[]
  st:Str:=default
  co:Const:=default
  n:Nat:=0
  op:Operator:=default
  un:UnaryOp:=default
  bo:BoolOp:=default
  cs:List CmpOp:=[]
  ks:List (Option Expr):=[]
  gs:List Comprehension:=[]
  sc:Scope:=default
  o1:Option Expr:=none
  o2:Option Expr:=none
  o3:Option Expr:=none
  kw:List Keyword:=[]
  pos:Pos:=default
noncomputable def pt:Expr→Pt
  | .Name x0 x1=>{ tag:=1,st:=x0,pos:=x1 }
  | .Constant x0 x1 x2=>{ tag:=2,co:=x0,n:=x1,pos:=x2 }
  | .BinOp x0 x1 x2 x3=>{ tag:=3,e1:=x0,op:=x1,e2:=x2,pos:=x3 }
  | .UnaryOp x0 x1 x2=>{ tag:=4,un:=x0,e1:=x1,pos:=x2 }
  | .Compare x0 x1 x2 x3=>{ tag:=5,e1:=x0,cs:=x1,es:=x2,pos:=x3 }
  | .BoolOp x0 x1 x2=>{ tag:=6,bo:=x0,es:=x1,pos:=x2 }
  | .List x0 x1=>{ tag:=7,es:=x0,pos:=x1 }
  | .Tuple x0 x1 x2=>{ tag:=8,es:=x0,n:=x1,pos:=x2 }
  | .Dict x0 x1 x2=>{ tag:=9,ks:=x0,es:=x1,pos:=x2 }
  | .ListComp x0 x1 x2 x3=>{ tag:=10,e1:=x0,gs:=x1,sc:=x2,pos:=x3 }
  | .Subscript x0 x1 x2=>{ tag:=11,e1:=x0,e2:=x1,pos:=x2 }
  | .Slice x0 x1 x2 x3=>{ tag:=12,o1:=x0,o2:=x1,o3:=x2,pos:=x3 }
  | .Call x0 x1 x2 x3=>{ tag:=13,e1:=x0,es:=x1,kw:=x2,pos:=x3 }
  | .Attribute x0 x1 x2=>{ tag:=14,e1:=x0,st:=x1,pos:=x2 }
  | _=>{}
noncomputable def ptB (n:Nat) (p:Pt):Expr:=match n with
  | 1=>.Name p.st p.pos
  | 2=>.Constant p.co p.n p.pos
  | 3=>.BinOp p.e1 p.op p.e2 p.pos
  | 4=>.UnaryOp p.un p.e1 p.pos
  | 5=>.Compare p.e1 p.cs p.es p.pos
  | 6=>.BoolOp p.bo p.es p.pos
  | 7=>.List p.es p.pos
  | 8=>.Tuple p.es p.n p.pos
  | 9=>.Dict p.ks p.es p.pos
  | 10=>.ListComp p.e1 p.gs p.sc p.pos
  | 11=>.Subscript p.e1 p.e2 p.pos
  | 12=>.Slice p.o1 p.o2 p.o3 p.pos
  | 13=>.Call p.e1 p.es p.kw p.pos
  | 14=>.Attribute p.e1 p.st p.pos
  | _=>default
theorem w9 (e:Expr):(pt e).tag=0∨ptB (pt e).tag (pt e)=e:=by cases e <;> first | exact .inr rfl | exact .inl rfl
theorem bR {e:Expr}{n:Nat} (hn:n≠0) (h:(pt e).tag=n):e=ptB n (pt e):=by
  rcases w9 e with q | q
  · exact absurd (h.symm.trans q) hn
  · rw [h] at q; exact q.symm
noncomputable def ifN {α:Type} (m n:Nat) (a:α):Option α:=if m=n then some a else none
theorem aU {α:Type}{m n:Nat}{a b:α} (h:ifN m n a=some b):m=n∧a=b:=by
  unfold ifN at h
  by_cases q:m=n
  · rw [if_pos q] at h; exact ⟨q,Option.some.inj h⟩
  · rw [if_neg q] at h; exact nN h
noncomputable def bX (e:Expr):Option (Str × Pos):=ifN (pt e).tag 1 ((pt e).st,(pt e).pos)
noncomputable def eG (e:Expr):Option (Const × Nat × Pos):=ifN (pt e).tag 2 ((pt e).co,(pt e).n,(pt e).pos)
noncomputable def yS (e:Expr):Option (Expr × Operator × Expr × Pos):=ifN (pt e).tag 3 ((pt e).e1,(pt e).op,(pt e).e2,(pt e).pos)
noncomputable def dUn (e:Expr):Option (UnaryOp × Expr × Pos):=ifN (pt e).tag 4 ((pt e).un,(pt e).e1,(pt e).pos)
noncomputable def y2 (e:Expr):Option (Expr × List CmpOp × List Expr × Pos):=ifN (pt e).tag 5 ((pt e).e1,(pt e).cs,(pt e).es,(pt e).pos)
noncomputable def pZ (e:Expr):Option (BoolOp × List Expr × Pos):=ifN (pt e).tag 6 ((pt e).bo,(pt e).es,(pt e).pos)
noncomputable def vr (e:Expr):Option (List Expr × Pos):=ifN (pt e).tag 7 ((pt e).es,(pt e).pos)
noncomputable def xP (e:Expr):Option (List Expr × Nat × Pos):=ifN (pt e).tag 8 ((pt e).es,(pt e).n,(pt e).pos)
noncomputable def wb (e:Expr):Option (List (Option Expr) × List Expr × Pos):=ifN (pt e).tag 9 ((pt e).ks,(pt e).es,(pt e).pos)
noncomputable def dLC (e:Expr):Option (Expr × List Comprehension × Scope × Pos):=ifN (pt e).tag 10 ((pt e).e1,(pt e).gs,(pt e).sc,(pt e).pos)
noncomputable def pg (e:Expr):Option (Expr × Expr × Pos):=ifN (pt e).tag 11 ((pt e).e1,(pt e).e2,(pt e).pos)
noncomputable def rV (e:Expr):Option (Option Expr × Option Expr × Option Expr × Pos):=ifN (pt e).tag 12 ((pt e).o1,(pt e).o2,(pt e).o3,(pt e).pos)
noncomputable def iH (e:Expr):Option (Expr × List Expr × List Keyword × Pos):=ifN (pt e).tag 13 ((pt e).e1,(pt e).es,(pt e).kw,(pt e).pos)
noncomputable def jp (e:Expr):Option (Expr × Str × Pos):=ifN (pt e).tag 14 ((pt e).e1,(pt e).st,(pt e).pos)
noncomputable def yR:Const→Option Int
  | .int i=>some i
  | _=>none
noncomputable def t7:Const→Option Str
  | .str i=>some i
  | _=>none
noncomputable def pQ:Const→Option Bool
  | .bool i=>some i
  | _=>none
noncomputable def wj:Const→Option Unit
  | .none=>some ()
  | _=>none
noncomputable def bN {α:Type}:List α→Option α
  | [x]=>some x
  | _=>none
noncomputable def lT {α:Type}:List α→Option (α × α)
  | [x,y]=>some (x,y)
  | _=>none
noncomputable def c0 {α:Type}:List α→Option Unit
  | []=>some ()
  | _=>none
noncomputable def fm {α:Type}:List α→Option (α × List α)
  | x :: y=>some (x,y)
  | _=>none
section
variable {e:Expr}
theorem aW {q:Str × Pos} (h:bX e=some q):e = .Name q.1 q.2:=by
  refine ae (aU h) fun h1 E5=>?_
  (clear h; subst E5)
  exact bR (by decide) h1
theorem cO {q:Const × Nat × Pos} (h:eG e=some q):e = .Constant q.1 q.2.1 q.2.2:=by
  refine ae (aU h) fun h1 E6=>?_
  (clear h; subst E6)
  exact bR (by decide) h1
theorem sK {q:Expr × Operator × Expr × Pos} (h:yS e=some q):e = .BinOp q.1 q.2.1 q.2.2.1 q.2.2.2:=by
  refine ae (aU h) fun h1 E7=>?_
  (clear h; subst E7)
  exact bR (by decide) h1
theorem oq {q:UnaryOp × Expr × Pos} (h:dUn e=some q):e = .UnaryOp q.1 q.2.1 q.2.2:=by
  refine ae (aU h) fun h1 E8=>?_
  (clear h; subst E8)
  exact bR (by decide) h1
theorem sW {q:Expr × List CmpOp × List Expr × Pos} (h:y2 e=some q):e = .Compare q.1 q.2.1 q.2.2.1 q.2.2.2:=by
  refine ae (aU h) fun h1 E9=>?_
  (clear h; subst E9)
  exact bR (by decide) h1
theorem lx {q:BoolOp × List Expr × Pos} (h:pZ e=some q):e = .BoolOp q.1 q.2.1 q.2.2:=by
  refine ae (aU h) fun h1 Fa=>?_
  (clear h; subst Fa)
  exact bR (by decide) h1
theorem qC {q:List Expr × Pos} (h:vr e=some q):e = .List q.1 q.2:=by
  refine ae (aU h) fun h1 Fb=>?_
  (clear h; subst Fb)
  exact bR (by decide) h1
theorem sO {q:List Expr × Nat × Pos} (h:xP e=some q):e = .Tuple q.1 q.2.1 q.2.2:=by
  refine ae (aU h) fun h1 Fc=>?_
  (clear h; subst Fc)
  exact bR (by decide) h1
theorem sj {q:List (Option Expr) × List Expr × Pos} (h:wb e=some q):e = .Dict q.1 q.2.1 q.2.2:=by
  refine ae (aU h) fun h1 Fd=>?_
  (clear h; subst Fd)
  exact bR (by decide) h1
theorem wF {q:Expr × List Comprehension × Scope × Pos} (h:dLC e=some q):e = .ListComp q.1 q.2.1 q.2.2.1 q.2.2.2:=by
  refine ae (aU h) fun h1 Ff=>?_
  (clear h; subst Ff)
  exact bR (by decide) h1
theorem iX {q:Expr × Expr × Pos} (h:pg e=some q):e = .Subscript q.1 q.2.1 q.2.2:=by
  refine ae (aU h) fun h1 Fi=>?_
  (clear h; subst Fi)
  exact bR (by decide) h1
theorem qg {q:Option Expr × Option Expr × Option Expr × Pos} (h:rV e=some q):e = .Slice q.1 q.2.1 q.2.2.1 q.2.2.2:=by
  refine ae (aU h) fun h1 Fh=>?_
  (clear h; subst Fh)
  exact bR (by decide) h1
theorem dh {q:Expr × List Expr × List Keyword × Pos} (h:iH e=some q):e = .Call q.1 q.2.1 q.2.2.1 q.2.2.2:=by
  refine ae (aU h) fun h1 Fm=>?_
  (clear h; subst Fm)
  exact bR (by decide) h1
theorem fh {q:Expr × Str × Pos} (h:jp e=some q):e = .Attribute q.1 q.2.1 q.2.2:=by
  refine ae (aU h) fun h1 Fr=>?_
  (clear h; subst Fr)
  exact bR (by decide) h1
theorem uh {c:Const}{q:Int} (h:yR c=some q):c = .int q:=by cases c <;> cases h; rfl
theorem mP {c:Const}{q:Str} (h:t7 c=some q):c = .str q:=by cases c <;> cases h; rfl
theorem k9 {c:Const}{q:Bool} (h:pQ c=some q):c = .bool q:=by cases c <;> cases h; rfl
theorem rS {c:Const}{q:Unit} (h:wj c=some q):c = .none:=by cases c <;> cases h; rfl
variable {α:Type}{l:List α}
theorem bE {q:Unit} (h:c0 l=some q):l=[]:=by
  cases l with
  | nil=>rfl
  | cons=>exact nN h
theorem b7 {q:α × List α} (h:fm l=some q):l=q.1 :: q.2:=by
  cases l with
  | nil=>exact nN h
  | cons=>(have oc:=Option.some.inj h; clear h; subst oc); rfl
theorem be {q:α} (h:bN l=some q):l=[q]:=by
  cases l with
  | nil=>exact nN h
  | cons x l=>
    cases l with
    | nil=>(have oc:=Option.some.inj h; clear h; subst oc); rfl
    | cons=>exact nN h
theorem gK {q:α × α} (h:lT l=some q):l=[q.1,q.2]:=by
  cases l with
  | nil=>exact nN h
  | cons x l=>
    cases l with
    | nil=>exact nN h
    | cons y l=>
      cases l with
      | nil=>(have oc:=Option.some.inj h; clear h; subst oc); rfl
      | cons=>exact nN h
end
noncomputable def dFn (e:Expr):Option (Str × Pos × List Expr × Pos):=(iH e).bind fun q=>(c0 q.2.2.1).bind fun uu=>(bX q.1).map fun n=>(n.1,n.2,q.2.1,q.2.2.2)
theorem eB {e:Expr}{q:Str × Pos × List Expr × Pos} (h:dFn e=some q):e = .Call (.Name q.1 q.2.1) q.2.2.1 [] q.2.2.2:=by
  refine aa (Option.bind_eq_some_iff.mp h) fun c h1 h=>?_
  refine aa (Option.bind_eq_some_iff.mp h) fun u h2 h=>?_
  refine aa (Option.map_eq_some_iff.mp h) fun n h3 h=>?_
  subst h
  rw [dh h1,bE h2,aW h3]
noncomputable def qd (e:Expr):Option (Expr × Str × Pos × Expr × List Expr × Scope × Pos):=(dLC e).bind fun q=>(bN q.2.1).bind fun g=>(bX g.target).bind fun n=>if g.is_async=0 then some (q.1,n.1,n.2,g.iter,g.ifs,q.2.2.1,q.2.2.2) else none
theorem kG {e:Expr}{q:Expr × Str × Pos × Expr × List Expr × Scope × Pos} (h:qd e=some q):e = .ListComp q.1 [⟨.Name q.2.1 q.2.2.1,q.2.2.2.1,q.2.2.2.2.1,0⟩] q.2.2.2.2.2.1 q.2.2.2.2.2.2:=by
  refine aa (Option.bind_eq_some_iff.mp h) fun c h1 h=>?_
  refine aa (Option.bind_eq_some_iff.mp h) fun Fp h2 h=>?_
  obtain ⟨gt,gi,gf,ga⟩:=Fp
  refine aa (Option.bind_eq_some_iff.mp h) fun n h3 h=>?_
  dsimp only at h h3
  split at h
  · rename_i h4
    (have oc:=Option.some.inj h; clear h; subst oc)
    rw [wF h1,be h2,aW h3,h4]
  · exact nN h
noncomputable def dSl (e:Expr):Option (Expr × Option Expr × Option Expr × Option Expr × Pos × Pos):=(pg e).bind fun q=>(rV q.2.1).map fun s=>(q.1,s.1,s.2.1,s.2.2.1,s.2.2.2,q.2.2)
theorem n8 {e:Expr}{q:Expr × Option Expr × Option Expr × Option Expr × Pos × Pos} (h:dSl e=some q):e = .Subscript q.1 (.Slice q.2.1 q.2.2.1 q.2.2.2.1 q.2.2.2.2.1) q.2.2.2.2.2:=by
  refine aa (Option.bind_eq_some_iff.mp h) fun c h1 h=>?_
  refine aa (Option.map_eq_some_iff.mp h) fun n h3 h=>?_
  subst h
  rw [iX h1,qg h3]
noncomputable def jq:E→Bool
  | .name _=>true
  | .call _ _=>true
  | _=>false
mutual
noncomputable def okE (ns:List (Str × NameKind)):E→Expr→Bool
  | .name x,ex=>al (bX ex) fun q=>q.1 == Str.ofString x && varK ns x && aT x
  | .int i,ex=>al (eG ex) fun q=>al (yR q.1) fun j=>i == j
  | .str s,ex=>al (eG ex) fun q=>al (t7 q.1) fun t=>Str.ofString s == t && decide (t.length≤2 ^ 22)
  | .bool b,ex=>al (eG ex) fun q=>al (pQ q.1) fun c=>b == c
  | .none,ex=>al (eG ex) fun q=>(wj q.1).isSome
  | .bin o a b,ex=>al (yS ex) fun q=>opB o q.2.1 && okE ns a q.1 && okE ns b q.2.2.1
  | .neg a,ex=>al (dUn ex) fun q=>decide (q.1 = .USub) && okE ns a q.2.1
  | .not a,ex=>al (dUn ex) fun q=>decide (q.1 = .Not) && okE ns a q.2.1
  | .cmp o a b,ex=>al (y2 ex) fun q=>al (bN q.2.1) fun op=>al (bN q.2.2.1) fun r=>opC o op && okE ns a q.1 && okE ns b r
  | .and a b,ex=>al (pZ ex) fun q=>decide (q.1 = .And) && al (fm q.2.1) fun v=>okE ns a v.1 && (match bN v.2 with | some u=>okE ns b u | none=>okA ns b v.2)
  | .or a b,ex=>al (pZ ex) fun q=>decide (q.1 = .Or) && al (fm q.2.1) fun v=>okE ns a v.1 && (match bN v.2 with | some u=>okE ns b u | none=>okO ns b v.2)
  | .list es,ex=>al (vr ex) fun q=>decide (q.1.length<1000) && cw ns es q.1
  | .tup es,ex=>al (xP ex) fun q=>decide (q.1.length<1000) && cw ns es q.1
  | .edic,ex=>al (wb ex) fun q=>(c0 q.1).isSome && (c0 q.2.1).isSome
  | .comp elt x it,ex=>al (qd ex) fun q=>al (c0 q.2.2.2.2.1) fun uu=>q.2.1 == Str.ofString x && fK ns q.2.2.2.2.2.1 x && fI ns it q.2.2.2.1 && okE (d8 ns q.2.2.2.2.2.1.names) elt q.1
  | .compif elt x it c,ex=>al (qd ex) fun q=>al (bN q.2.2.2.2.1) fun f=>q.2.1 == Str.ofString x && fK ns q.2.2.2.2.2.1 x && fI ns it q.2.2.2.1 && okE (d8 ns q.2.2.2.2.2.1.names) c f && okE (d8 ns q.2.2.2.2.2.1.names) elt q.1
  | .sub a i,ex=>al (pg ex) fun q=>okE ns a q.1 && okE ns i q.2.1
  | .slo a i,ex=>al (dSl ex) fun q=>al q.2.1 fun l=>q.2.2.1.isNone && q.2.2.2.1.isNone && (okE ns a q.1 && okE ns i l)
  | .shi a i,ex=>al (dSl ex) fun q=>al q.2.2.1 fun l=>q.2.1.isNone && q.2.2.2.1.isNone && (okE ns a q.1 && okE ns i l)
  | .attr a n,ex=>al (jp ex) fun q=>q.2.1 == Str.ofString n && decide (n∈fieldNames) && jq a && okE ns a q.1
  | .bi1 f a,ex=>al (dFn ex) fun q=>al (bN q.2.2.1) fun x=>q.1 == Str.ofString (b1n f) && bY ns (b1n f) && okE ns a x
  | .bi2 f a b,ex=>al (dFn ex) fun q=>al (lT q.2.2.1) fun x=>q.1 == Str.ofString (b2n f) && bY ns (b2n f) && okE ns a x.1 && okE ns b x.2
  | .isi a t,ex=>al (dFn ex) fun q=>al (lT q.2.2.1) fun x=>al (bX x.2) fun c=>q.1 == Str.ofString "isinstance" && bY ns "isinstance" && okE ns a x.1 && c.1 == Str.ofString t && bY ns t && aT t
  | .call f es,ex=>al (dFn ex) fun q=>q.1 == Str.ofString f && bY ns f && aT f && !decide (f∈methNames) && !decide (f∈aM) && !q.2.2.1.isEmpty && decide (q.2.2.1.length<20) && cw ns es q.2.2.1
  | .meth a m es,ex=>al (iH ex) fun q=>al (c0 q.2.2.1) fun uu=>al (jp q.1) fun f=>f.2.1 == Str.ofString m && (f.2.2.endLine == q.2.2.2.line) && decide (m∈methNames) && !q.2.1.isEmpty && decide (q.2.1.length<20) && jq a && okE ns a f.1 && cw ns es q.2.1
termination_by structural e=>e
noncomputable def okA (ns:List (Str × NameKind)):E→List Expr→Bool
  | .and a b,ex=>al (fm ex) fun v=>okE ns a v.1 && (match bN v.2 with | some u=>okE ns b u | none=>okA ns b v.2)
  | _,_=>false
termination_by structural e=>e
noncomputable def okO (ns:List (Str × NameKind)):E→List Expr→Bool
  | .or a b,ex=>al (fm ex) fun v=>okE ns a v.1 && (match bN v.2 with | some u=>okE ns b u | none=>okO ns b v.2)
  | _,_=>false
termination_by structural e=>e
noncomputable def cw (ns:List (Str × NameKind)):Es→List Expr→Bool
  | .nil,ex=>(c0 ex).isSome
  | .cons e es,ex=>al (fm ex) fun q=>okE ns e q.1 && cw ns es q.2
termination_by structural e=>e
noncomputable def fI (ns:List (Str × NameKind)):It→Expr→Bool
  | .e a,x=>okE ns a x
  | .r1 n,ex=>al (dFn ex) fun q=>al (bN q.2.2.1) fun x=>q.1 == Str.ofString "range" && bY ns "range" && okE ns n x
  | .r2 a b,ex=>al (dFn ex) fun q=>al (lT q.2.2.1) fun x=>q.1 == Str.ofString "range" && bY ns "range" && okE ns a x.1 && okE ns b x.2
termination_by structural e=>e
end
section
variable {ns:List (Str × NameKind)}{ex:Expr}{a b c:E}
theorem qN {x:String} (h:okE ns (.name x) ex=true):(∃ id p,ex = .Name id p∧(id == Str.ofString x && varK ns x && aT x)=true)∨False:=by
  refine aa (ah h) fun q e h=>?_
  exact .inl (az q.1 q.2 (aW e) h)
theorem CE {i:Int} (h:okE ns (.int i) ex=true):(∃ j k p,ex = .Constant (.int j) k p∧(i == j)=true)∨False:=by
  refine aa (ah h) fun q e h=>?_
  refine aa (ah h) fun j e' h=>?_
  exact .inl (bQ j q.2.1 q.2.2 (by rw [cO e,uh e']) h)
theorem A8 {s:String} (h:okE ns (.str s) ex=true):(∃ t k p,ex = .Constant (.str t) k p∧(Str.ofString s == t && decide (t.length≤2 ^ 22))=true)∨False:=by
  refine aa (ah h) fun q e h=>?_
  refine aa (ah h) fun j e' h=>?_
  exact .inl (bQ j q.2.1 q.2.2 (by rw [cO e,mP e']) h)
theorem yu {s:Bool} (h:okE ns (.bool s) ex=true):(∃ t k p,ex = .Constant (.bool t) k p∧(s == t)=true)∨False:=by
  refine aa (ah h) fun q e h=>?_
  refine aa (ah h) fun j e' h=>?_
  exact .inl (bQ j q.2.1 q.2.2 (by rw [cO e,k9 e']) h)
theorem yF (h:okE ns .none ex=true):(∃ k p,ex = .Constant .none k p∧True)∨False:=by
  refine aa (ah h) fun q e h=>?_
  refine ai (Option.isSome_iff_exists.mp h) fun j e'=>?_
  exact .inl (az q.2.1 q.2.2 (by rw [cO e,rS e']) trivial)
theorem Cu {o:BOp} (h:okE ns (.bin o a b) ex=true):(∃ l op r p,ex = .BinOp l op r p∧(opB o op && okE ns a l && okE ns b r)=true)∨False:=by
  refine aa (ah h) fun q e h=>?_
  exact .inl (dz _ _ _ _ (sK e) h)
theorem we (h:okE ns (.neg a) ex=true):(∃ x p,ex = .UnaryOp .USub x p∧okE ns a x=true)∨False:=by
  refine aa (ah h) fun q e h=>?_
  refine ae (Bool.and_eq_true_iff.mp h) fun h1 h2=>?_
  exact .inl (az _ _ (by rw [oq e,of_decide_eq_true h1]) h2)
theorem AN (h:okE ns (.not a) ex=true):(∃ x p,ex = .UnaryOp .Not x p∧okE ns a x=true)∨False:=by
  refine aa (ah h) fun q e h=>?_
  refine ae (Bool.and_eq_true_iff.mp h) fun h1 h2=>?_
  exact .inl (az _ _ (by rw [oq e,of_decide_eq_true h1]) h2)
theorem zJ {o:COp} (h:okE ns (.cmp o a b) ex=true):(∃ l op r p,ex = .Compare l [op] [r] p∧(opC o op && okE ns a l && okE ns b r)=true)∨False:=by
  refine aa (ah h) fun q e h=>?_
  refine aa (ah h) fun op e1 h=>?_
  refine aa (ah h) fun r e2 h=>?_
  exact .inl (dz _ op r _ (by rw [sW e,be e1,be e2]) h)
noncomputable def okA' (ns:List (Str × NameKind)) (b:E) (vs:List Expr):Bool:=match bN vs with | some u=>okE ns b u | none=>okA ns b vs
noncomputable def okO' (ns:List (Str × NameKind)) (b:E) (vs:List Expr):Bool:=match bN vs with | some u=>okE ns b u | none=>okO ns b vs
theorem Bw (h:okE ns (.and a b) ex=true):(∃ v vs p,ex = .BoolOp .And (v :: vs) p∧(okE ns a v && okA' ns b vs)=true)∨False:=by
  refine aa (ah h) fun q e h=>?_
  refine ae (Bool.and_eq_true_iff.mp h) fun h1 h2=>?_
  refine aa (ah h2) fun v e1 h=>?_
  exact .inl (bQ _ _ _ (by rw [lx e,of_decide_eq_true h1,b7 e1]) h)
theorem Eh (h:okE ns (.or a b) ex=true):(∃ v vs p,ex = .BoolOp .Or (v :: vs) p∧(okE ns a v && okO' ns b vs)=true)∨False:=by
  refine aa (ah h) fun q e h=>?_
  refine ae (Bool.and_eq_true_iff.mp h) fun h1 h2=>?_
  refine aa (ah h2) fun v e1 h=>?_
  exact .inl (bQ _ _ _ (by rw [lx e,of_decide_eq_true h1,b7 e1]) h)
theorem i_A {xs:List Expr} (h:okA ns (.and a b) xs=true):(∃ v vs,xs=v :: vs∧(okE ns a v && okA' ns b vs)=true)∨False:=by
  refine aa (ah h) fun q e h=>?_
  exact .inl (az _ _ (b7 e) h)
theorem i_O {xs:List Expr} (h:okO ns (.or a b) xs=true):(∃ v vs,xs=v :: vs∧(okE ns a v && okO' ns b vs)=true)∨False:=by
  refine aa (ah h) fun q e h=>?_
  exact .inl (az _ _ (b7 e) h)
theorem yD {es:Es} (h:okE ns (.list es) ex=true):(∃ xs p,ex = .List xs p∧(decide (xs.length<1000) && cw ns es xs)=true)∨False:=by
  refine aa (ah h) fun q e h=>?_
  exact .inl (az _ _ (qC e) h)
theorem Ax {es:Es} (h:okE ns (.tup es) ex=true):(∃ xs k p,ex = .Tuple xs k p∧(decide (xs.length<1000) && cw ns es xs)=true)∨False:=by
  refine aa (ah h) fun q e h=>?_
  exact .inl (bQ _ _ _ (sO e) h)
theorem yZ (h:okE ns .edic ex=true):(∃ p,ex = .Dict [] [] p∧True)∨False:=by
  refine aa (ah h) fun q e h=>?_
  refine ae (Bool.and_eq_true_iff.mp h) fun h1 h2=>?_
  refine ai (Option.isSome_iff_exists.mp h1) fun uu e1=>?_
  refine ai (Option.isSome_iff_exists.mp h2) fun uu e2=>?_
  exact .inl (ag _ (by rw [sj e,bE e1,bE e2]) trivial)
theorem rx {x:String}{it:It} (h:okE ns (.comp a x it) ex=true):(∃ e t pt i sc p,ex = .ListComp e [⟨.Name t pt,i,[],0⟩] sc p∧(t == Str.ofString x && fK ns sc x && fI ns it i && okE (d8 ns sc.names) a e)=true)∨False:=by
  refine aa (ah h) fun q e h=>?_
  refine aa (ah h) fun uu e1 h=>?_
  exact .inl (vW _ _ _ _ _ _ (by rw [kG e,bE e1]) h)
theorem lZ {x:String}{it:It} (h:okE ns (.compif a x it c) ex=true):(∃ e t pt i f sc p,ex = .ListComp e [⟨.Name t pt,i,[f],0⟩] sc p∧(t == Str.ofString x && fK ns sc x && fI ns it i && okE (d8 ns sc.names) c f && okE (d8 ns sc.names) a e)=true)∨False:=by
  refine aa (ah h) fun q e h=>?_
  refine aa (ah h) fun uu e1 h=>?_
  exact .inl (jS _ _ _ _ _ _ _ (by rw [kG e,be e1]) h)
theorem zE (h:okE ns (.sub a b) ex=true):(∃ v s p,ex = .Subscript v s p∧(okE ns a v && okE ns b s)=true)∨False:=by
  refine aa (ah h) fun q e h=>?_
  exact .inl (bQ _ _ _ (iX e) h)
theorem eh {α:Type}{o:Option α} (h:o.isNone=true):o=none:=by cases o with | none=>rfl | some=>exact nF h
theorem Bv (h:okE ns (.slo a b) ex=true):(∃ v l p pos,ex = .Subscript v (.Slice (some l) none none p) pos∧(okE ns a v && okE ns b l)=true)∨False:=by
  refine aa (ah h) fun q e h=>?_
  refine aa (ah h) fun l e1 h=>?_
  refine ae (Bool.and_eq_true_iff.mp h) fun h1 h2=>?_
  refine ae (Bool.and_eq_true_iff.mp h1) fun h3 h4=>?_
  exact .inl (dz _ l _ _ (by rw [n8 e,e1,eh h3,eh h4]) h2)
theorem BE (h:okE ns (.shi a b) ex=true):(∃ v l p pos,ex = .Subscript v (.Slice none (some l) none p) pos∧(okE ns a v && okE ns b l)=true)∨False:=by
  refine aa (ah h) fun q e h=>?_
  refine aa (ah h) fun l e1 h=>?_
  refine ae (Bool.and_eq_true_iff.mp h) fun h1 h2=>?_
  refine ae (Bool.and_eq_true_iff.mp h1) fun h3 h4=>?_
  exact .inl (dz _ l _ _ (by rw [n8 e,e1,eh h3,eh h4]) h2)
theorem wd {f:B1} (h:okE ns (.bi1 f a) ex=true):(∃ id p x pos,ex = .Call (.Name id p) [x] [] pos∧(id == Str.ofString (b1n f) && bY ns (b1n f) && okE ns a x)=true)∨False:=by
  refine aa (ah h) fun q e h=>?_
  refine aa (ah h) fun x e1 h=>?_
  exact .inl (dz _ _ x _ (by rw [eB e,be e1]) h)
theorem BH {f:B2} (h:okE ns (.bi2 f a b) ex=true):(∃ id p x y pos,ex = .Call (.Name id p) [x,y] [] pos∧(id == Str.ofString (b2n f) && bY ns (b2n f) && okE ns a x && okE ns b y)=true)∨False:=by
  refine aa (ah h) fun q e h=>?_
  refine aa (ah h) fun x e1 h=>?_
  exact .inl (lA _ _ x.1 x.2 _ (by rw [eB e,gK e1]) h)
theorem CG {t:String} (h:okE ns (.isi a t) ex=true):(∃ id p x c pc pos,ex = .Call (.Name id p) [x,.Name c pc] [] pos∧(id == Str.ofString "isinstance" && bY ns "isinstance" && okE ns a x && c == Str.ofString t && bY ns t && aT t)=true)∨False:=by
  refine aa (ah h) fun q e h=>?_
  refine aa (ah h) fun x e1 h=>?_
  refine aa (ah h) fun c e2 h=>?_
  exact .inl (vW _ _ x.1 c.1 c.2 _ (by rw [eB e,gK e1,aW e2]) h)
theorem rD {f:String}{es:Es} (h:okE ns (.call f es) ex=true):(∃ id p xs pos,ex = .Call (.Name id p) xs [] pos∧(id == Str.ofString f && bY ns f && aT f && !decide (f∈methNames) && !decide (f∈aM) && !xs.isEmpty && decide (xs.length<20) && cw ns es xs)=true)∨False:=by
  refine aa (ah h) fun q e h=>?_
  exact .inl (dz _ _ _ _ (eB e) h)
theorem yw {n:String} (h:okE ns (.attr a n) ex=true):(∃ v p,ex = .Attribute v (Str.ofString n) p∧n∈fieldNames∧jq a=true∧okE ns a v=true)∨False:=by
  refine aa (ah h) fun q e h=>?_
  simp only [Bool.and_eq_true,beq_iff_eq,decide_eq_true_eq] at h
  exact .inl (bp q.1 q.2.2 (by rw [fh e,h.1.1.1]) h.1.1.2 h.1.2 h.2)
theorem yU {m:String}{es:Es} (h:okE ns (.meth a m es) ex=true):(∃ v p xs pos,ex = .Call (.Attribute v (Str.ofString m) p) xs [] pos∧(p.endLine == pos.line)=true∧m∈methNames∧xs.isEmpty=false∧xs.length<20∧jq a=true∧okE ns a v=true∧cw ns es xs=true)∨False:=by
  refine aa (ah h) fun q e h=>?_
  refine aa (ah h) fun uu e1 h=>?_
  refine aa (ah h) fun f e2 h=>?_
  simp only [Bool.and_eq_true,beq_iff_eq,decide_eq_true_eq,Bool.not_eq_true'] at h
  refine ae (h) fun Ft h8=>?_
  try clear h
  refine ae (Ft) fun Fy h7=>?_
  try clear Ft
  refine ae (Fy) fun FA h6=>?_
  try clear Fy
  refine ae (FA) fun FC h5=>?_
  try clear FA
  refine ae (FC) fun FE h4=>?_
  try clear FC
  refine ae (FE) fun FH h3=>?_
  try clear FE
  refine ae (FH) fun h1 h2=>?_
  try clear FH
  exact .inl (mZ f.1 f.2.2 q.2.1 q.2.2.2 (by rw [dh e,bE e1,fh e2,h1]) (beq_iff_eq.mpr h2) h3 h4 h5 h6 h7 h8)
theorem oZ {xs:List Expr} (h:cw ns .nil xs=true):(xs=[]∧True)∨False:=by
  refine ai (Option.isSome_iff_exists.mp (show (c0 xs).isSome=true from h)) fun uu e=>?_
  exact .inl ⟨bE e,trivial⟩
theorem l9 {es:Es}{xs:List Expr} (h:cw ns (.cons a es) xs=true):(∃ x ys,xs=x :: ys∧(okE ns a x && cw ns es ys)=true)∨False:=by
  refine aa (ah h) fun q e h=>?_
  exact .inl (az _ _ (b7 e) h)
theorem Et (h:fI ns (.r1 a) ex=true):(∃ id p x pos,ex = .Call (.Name id p) [x] [] pos∧(id == Str.ofString "range" && bY ns "range" && okE ns a x)=true)∨False:=by
  refine aa (ah h) fun q e h=>?_
  refine aa (ah h) fun x e1 h=>?_
  exact .inl (dz _ _ x _ (by rw [eB e,be e1]) h)
theorem Dh (h:fI ns (.r2 a b) ex=true):(∃ id p x y pos,ex = .Call (.Name id p) [x,y] [] pos∧(id == Str.ofString "range" && bY ns "range" && okE ns a x && okE ns b y)=true)∨False:=by
  refine aa (ah h) fun q e h=>?_
  refine aa (ah h) fun x e1 h=>?_
  exact .inl (lA _ _ x.1 x.2 _ (by rw [eB e,gK e1]) h)
end
end Mine
set_option linter.unusedSectionVars false
namespace Mine
set_option tactic.hygienic false
set_option linter.unusedVariables false
open PySem PyProof.Rows
noncomputable def Room (hb:Bool) (k:Nat) (A:Around):Prop:=(hb=false→A.handled=none)∧A.depth + 2 * k + (if hb then 1 else 4)<recursionLimit∧A.units + 100 * k + (if hb then 200 else 300)<cLine
class Soft where
  tab:Addr→Prop
  old:Addr→Prop
  rule:Addr
  exc:String→Addr
  excN:List String
noncomputable def tabO (ps:Array Value):Obj:={ cls:=.none,data:=.fields ps }
noncomputable def CodesG (h:Heap) (ps:Array Value):Prop:=TriplesOk ps.toList∧∀ pos cv,codeAmong pos ps.toList=some cv→∃ c o vs q t,cv = .ref c∧h.get? c=some o∧o.cls = .type "code" ∧ o.data = .fields vs∧vs[1]? = some (.str q t)
noncomputable def Stay (o:Obj):Prop:=(o.cls = .type "code" ∧ ∃ fs,o.data = .fields fs)∨(o.cls = .type "tuple" ∧ ∃ vs n,o.data = .seq vs n)
section
variable [SF:Soft]
inductive Like (h h':Heap) (b:Addr) (o o':Obj):Prop
  | same:o' = o→Like h h' b o o'
  | tab (ps more:Array Value):SF.tab b→o=tabO ps→o' = tabO (ps ++ more)→(CodesG h ps→CodesG h' (ps ++ more))→Like h h' b o o'
  | frame (es:Array DictEntry) (ep:Nat):¬ SF.old b→o.cls = .type "frame" → o.data = .dict es ep→o'.cls=o.cls→o'.data=o.data→o'.dict=o.dict→Like h h' b o o'
noncomputable def KG (G:Addr→Prop) (h h':Heap):Prop:=∀ b o,G b∨Stay o→h.get? b=some o→∃ o',h'.get? b=some o'∧Like h h' b o o'
noncomputable def hardB (o:Obj):Bool:=match o.cls with | .none=>false | .type n=>n != "frame" | _=>true
theorem Like.hard {h h':Heap}{b:Addr}{o o':Obj} (l:Like h h' b o o') (hh:hardB o=true):o' = o:=by
  cases l with
  | same e=>exact e
  | tab ps more _ e _ _=>subst e; exact nF hh
  | frame _ _ _ e _ _ _ _=>unfold hardB at hh; rw [e] at hh; simp at hh
theorem Like.exact {h h':Heap}{b:Addr}{o o':Obj} (l:Like h h' b o o') (h1:∀ fs,o.data≠.fields fs) (h2:∀ es ep,o.data≠.dict es ep):o' = o:=by
  cases l with
  | same e=>exact e
  | tab ps more _ e _ _=>(clear h2; subst e); exact absurd rfl (h1 ps)
  | frame es ep _ _ e _ _ _=>exact absurd e (h2 es ep)
theorem Like.cls {h h':Heap}{b:Addr}{o o':Obj} (l:Like h h' b o o'):o'.cls=o.cls:=by
  cases l with
  | same e=>rw [e]
  | tab ps more _ e e' _=>rw [e,e']; rfl
  | frame _ _ _ _ _ e _ _=>exact e
theorem Like.data {h h':Heap}{b:Addr}{o o':Obj} (l:Like h h' b o o') (hn:∀ fs,o.data≠.fields fs):o'.data=o.data:=by
  cases l with
  | same e=>rw [e]
  | tab ps more _ e e' _=>exact absurd (by rw [e]; rfl) (hn ps)
  | frame _ _ _ _ _ _ e _=>exact e
theorem Stay.hard {o:Obj} (x:Stay o):hardB o=true:=by
  unfold hardB
  rcases x with x | x
  · rw [x.1]; decide
  · rw [x.1]; decide
section
variable {G G':Addr→Prop}{h h' h'':Heap}
theorem KG.of (k:∀ b o,G b∨Stay o→h.get? b=some o→h'.get? b=some o):KG G h h':=fun b o hb e=>(ag o (k b o hb e) (.same rfl))
theorem KG.refl:KG G h h:=.of fun uu uu uu e=>e
theorem KG.hard (k:KG G h h') {b:Addr}{o:Obj} (hb:G b∨Stay o) (e:h.get? b=some o) (hh:hardB o=true):h'.get? b=some o:=by
  refine aa (k b o hb e) fun o' e' l=>?_
  rw [e',l.hard hh]
theorem KG.stay (k:KG G h h') {b:Addr}{o:Obj} (e:h.get? b=some o) (x:Stay o):h'.get? b=some o:=k.hard (.inr x) e x.hard
theorem KG.codes (k:KG G h h') {ps:Array Value} (x:CodesG h ps):CodesG h' ps :=
  ⟨x.1,fun pos cv hc=>vM (x.2 pos cv hc) fun c o vs q t a1 a2 a3 a4=>(oN c o vs q t a1 (k.stay a2 (.inl (aG a3 (bl _ a4.1)))) a3 a4)⟩
theorem KG.trans (a:KG G h h') (b:KG G h' h''):KG G h h'':=fun c o hc e=>by
  refine aa (a c o hc e) fun o' e' l=>?_
  have hc':G c∨Stay o':=hc.imp id fun x=>by rw [l.hard x.hard]; exact x
  refine aa (b c o' hc' e') fun o'' e'' l'=>?_
  refine (ag o'' e'' ?_)
  cases l with
  | same e1=>
    (clear e hc; subst e1)
    cases l' with
    | same e2=>exact .same e2
    | tab ps more t1 t2 t3 t4=>exact .tab ps more t1 t2 t3 fun x=>t4 (a.codes x)
    | frame es ep f1 f2 f3 f4 f5 f6=>exact .frame es ep f1 f2 f3 f4 f5 f6
  | tab ps more t1 t2 t3 t4=>
    (clear e hc; subst t2 t3)
    cases l' with
    | same e2=>exact .tab ps more t1 rfl e2 fun x=>b.codes (t4 x)
    | tab ps' more' u1 u2 u3 u4=>
      have:ps' = ps ++ more:=by injection u2 with _ _ u; injection u with u; exact u.symm
      (clear u2; subst this)
      exact .tab ps (more ++ more') t1 rfl (by rw [u3,Array.append_assoc]) fun x=>by rw [← Array.append_assoc]; exact u4 (t4 x)
    | frame _ _ _ f2 _ _ _ _=>cases f2
  | frame es ep f1 f2 f0 f3 f4 f5=>
    cases l' with
    | same e2=>(clear e' hc'; subst e2); exact .frame es ep f1 f2 f0 f3 f4 f5
    | tab ps' more' u1 u2 u3 u4=>rw [f2,u2] at f3; cases f3
    | frame _ _ g1 g2 g0 g3 g4 g5=>exact .frame es ep f1 f2 f0 (g3.trans f3) (g4.trans f4) (g5.trans f5)
theorem KG.mono (k:KG G h h') (hg:∀ b,G' b→G b):KG G' h h':=fun b o hb e=>k b o (hb.imp (hg b) id) e
end
theorem Stay.not_data {o:Obj} (h1:∀ fs,o.data≠.fields fs) (h2:∀ vs n,o.data≠.seq vs n):¬ Stay o:=fun x=>x.elim (fun x=>let ⟨_,fs,e⟩:=x; h1 fs e) fun x=>let ⟨_,vs,n,e⟩:=x; h2 vs n e
theorem Stay.not_list {vs:Array Value}{n:Nat}{d:Option Addr}{x:Array (Option Value)}:¬ Stay ⟨.type "list", d,.seq vs n,x⟩:=fun x=>x.elim (fun x=>by simp at x) fun x=>by simp at x
theorem Stay.not_dict {o:Obj}{es:Array DictEntry}{ep:Nat} (h:o.data = .dict es ep):¬ Stay o:=Stay.not_data (fun uu q=>by rw [h] at q; cases q) fun uu uu q=>by rw [h] at q; cases q
theorem Stay.not_cls {o:Obj} (h1:o.cls≠.type "code") (h2:o.cls≠.type "tuple"):¬ Stay o:=fun x=>x.elim (fun x=>h1 x.1) fun x=>h2 x.1
theorem KG.ofW {wr:List Addr}{h h':Heap} (k:∀ b o,b∉wr→h.get? b=some o→h'.get? b=some o) (n:∀ b∈wr,∀ o,h.get? b=some o→¬ Stay o):KG (fun b=>b∉wr) h h' :=
  .of fun b o hb e=>k b o (fun hm=>hb.elim (fun x=>x hm) (n b hm o e)) e
theorem KG.same {G:Addr→Prop}{h h':Heap}{a:Addr} (hs:Heap.SameBut a h h') (hz:¬ G a) (hn:∀ o,h.get? a=some o→¬ Stay o):KG G h h' :=
  .of fun b o hb e=>hs.extBut b o (fun q=>by (clear hs; subst q); exact hb.elim hz (hn o e)) e
noncomputable abbrev K (h h':Heap):Prop:=KG (fun uu=>True) h h'
section
variable {h h':Heap}
theorem K.of (k:∀ b o,h.get? b=some o→h'.get? b=some o):K h h':=KG.of fun b o _ e=>k b o e
theorem K.get (k:K h h') {b:Addr}{o:Obj} (e:h.get? b=some o) (hh:hardB o=true):h'.get? b=some o:=KG.hard k (.inl trivial) e hh
theorem K.step {h'':Heap}{G:Addr→Prop} (a:K h h') (b:KG G h' h'') (hg:∀ b o,h.get? b=some o→G b):K h h'':=fun c o _ e=>
  (KG.trans (KG.mono (G':=fun b=>∃ o,h.get? b=some o) a fun uu uu=>trivial) (KG.mono b fun b ⟨o,e⟩=>hg b o e)) c o (.inl ⟨o,e⟩) e
theorem K.same {h'':Heap}{a:Addr} (k:K h h') (hs:Heap.SameBut a h' h'') (ha:h.get? a=none) (hn:∀ o,h'.get? a=some o→¬ Stay o):K h h'' :=
  K.step k (G:=fun b=>b≠a) (KG.same hs (fun q=>q rfl) hn) fun b o e q=>by rw [q,ha] at e; exact nN e
theorem K.there (k:K h h') {b:Addr}{o:Obj} (e:h.get? b=some o):∃ o',h'.get? b=some o':=aa (k b o (.inl trivial) e) fun o' e' uu=>⟨o',e'⟩
theorem KG.dataG {G:Addr→Prop} (k:KG G h h') {b:Addr}{o:Obj} (g:G b∨Stay o) (e:h.get? b=some o) (hn:∀ fs,o.data≠.fields fs):∃ o',h'.get? b=some o'∧o'.data=o.data∧o'.cls=o.cls :=
  aa (k b o g e) fun o' e' l=>(aA o' e' (l.data hn) l.cls)
theorem K.data (k:K h h') {b:Addr}{o:Obj} (e:h.get? b=some o) (hn:∀ fs,o.data≠.fields fs):∃ o',h'.get? b=some o'∧o'.data=o.data∧o'.cls=o.cls:=KG.dataG k (.inl trivial) e hn
theorem K.exact (k:K h h') {b:Addr}{o:Obj} (e:h.get? b=some o) (h1:∀ fs,o.data≠.fields fs) (h2:∀ es ep,o.data≠.dict es ep):h'.get? b=some o :=
  aa (k b o (.inl trivial) e) fun o' e' l=>(l.exact h1 h2)▸e'
theorem Bs {G:Addr→Prop}{a:Addr}{m:Str→Option Value} (k:KG G h h') (g:G a) (x:h.Ns a m):h'.Ns a m:=by
  refine aS (x) fun o es ep e hd r=>?_
  try clear x
  obtain ⟨o',e',hd',_⟩:=k.dataG (.inl g) e fun fs q=>by rw [hd] at q; cases q
  exact (cu o' es ep e' (hd'.trans hd) r)
theorem eZ {a:Addr}{m:Str→Option Value} (x:h.Ns a m) (k:K h h'):h'.Ns a m:=Bs k trivial x
theorem xj {G:Addr→Prop}{c:Addr}{v:Option Value} (k:KG G h h') (g:G c) (x:h.IsCell c v):h'.IsCell c v:=by
  refine aa (x) fun o e hd=>?_
  try clear x
  obtain ⟨o',e',hd',_⟩:=k.dataG (.inl g) e fun fs q=>by rw [hd] at q; cases q
  exact (ag o' e' (hd'.trans hd))
theorem hY {c:Addr}{v:Option Value} (x:h.IsCell c v) (k:K h h'):h'.IsCell c v:=xj k trivial x
theorem oE (x:h.NoLimit) (k:K h h'):h'.NoLimit:=aa (x) fun mc a b=>(ag mc (eZ a k) b)
theorem vN {G:Addr→Prop} (k:KG G h h'):(∀ {v:Value}{d:PyData}{as:List Addr},R h v d as→(∀ a∈as,G a)→R h' v d as)∧(∀ {vs:List Value}{ds:List PyData}{as:List Addr},RA h vs ds as→(∀ a∈as,G a)→RA h' vs ds as) :=
  R.ind (M:=fun v d as=>(∀ a∈as,G a)→R h' v d as) (N:=fun vs ds as=>(∀ a∈as,G a)→RA h' vs ds as) (fun uu=>.none) (fun b _=>.bool b) (fun i t _=>.int i t) (fun x t _=>.str x t)
    (fun e _ ih g=>.list (k.hard (.inl (g _ (.head _))) e rfl) (ih fun b hb=>g b (.tail _ hb))) (fun e _ ih g=>.tuple (k.stay e (.inr (aG rfl (bn _ _ rfl)))) (ih g))
    (fun uu=>.nil) (fun uu uu i j g=>.cons (i fun b hb=>g b (List.mem_append_left _ hb)) (j fun b hb=>g b (List.mem_append_right _ hb)))
theorem R.onG {G:Addr→Prop}{v:Value}{d:PyData}{as:List Addr} (r:R h v d as) (k:KG G h h') (g:∀ a∈as,G a):R h' v d as:=(vN k).1 r g
theorem RA.onG {G:Addr→Prop}{vs:List Value}{ds:List PyData}{as:List Addr} (r:RA h vs ds as) (k:KG G h h') (g:∀ a∈as,G a):RA h' vs ds as:=(vN k).2 r g
theorem R.k {v:Value}{d:PyData}{as:List Addr} (r:R h v d as) (k:K h h'):R h' v d as:=r.onG k fun uu uu=>trivial
theorem RA.k {vs:List Value}{ds:List PyData}{as:List Addr} (r:RA h vs ds as) (k:K h h'):RA h' vs ds as:=r.onG k fun uu uu=>trivial
noncomputable def CodeOk (h:Heap) (cd:Value) (q:Str):Prop:=∃ c P ps,cd = .ref c∧h.CodeRec cd q∧h.IsCode c P ps∧h.TableAt c P ps∧CodesG h ps∧SF.tab P
theorem CodeOk.k {cd:Value}{q:Str} (x:CodeOk h cd q) (k:K h h'):CodeOk h' cd q:=by
  refine cq (x) fun c P ps E5 E6 E7 E8 G sP=>?_
  try clear x
  subst E5
  refine bI (E6) fun c' o' vs' t' e0 e1 e2 e3=>?_
  try clear E6
  refine xg (E7) fun o vs file tf flags tg inF text tt op i1 i2 i3 i4 i5 i6 i7 i8 i9 i10 i11=>?_
  try clear E7
  refine ae (E8) fun E9 t5=>?_
  try clear E8
  refine aZ (E9) fun oc vc t1 t2 t3 t4=>?_
  try clear E9
  cases e0
  rw [i1] at e1 t1
  rw [← Option.some.inj e1] at e2
  rw [← Option.some.inj t1] at t2 t3
  have kc:h'.get? c=some o:=k.stay i1 (.inl (aG t2 (bl _ t3)))
  refine aa (k P _ (.inl trivial) t5) fun o' e' l=>?_
  have fin:∃ qs,h'.get? P=some { cls:=.none,data:=.fields qs }∧CodesG h' qs:=by
    cases l with
    | same e=>subst e; exact (ag ps e' (KG.codes k G))
    | tab ps' more u1 u2 u3 u4=>
      have:ps' = ps:=by injection u2 with _ _ u; injection u with u; exact u.symm
      (clear i10 i9 t5 u2; subst this)
      exact (ag _ (by rw [e',u3]; rfl) (u4 G))
    | frame _ _ _ f _ _ _ _=>cases f
  refine aa (fin) fun qs eq Gq=>?_
  try clear fin
  exact (ez c P qs rfl (gG c o vs' t' rfl kc e2 e3) ⟨o,vs,file,tf,flags,tg,inF,text,tt,_,kc,i2,i3,i4,i5,i6,i7,eq,rfl,Gq.1,i11⟩ ⟨(bp o vc kc t2 t3 t4),eq⟩ Gq sP)
end
end
variable [SF:Soft]
noncomputable def bnames:List String:=["len", "list", "tuple", "sorted", "max", "min", "sum", "range", "isinstance", "int", "bool", "str"]
noncomputable def bval (x:String):Value:=if x∈["list", "tuple", "range", "int", "bool", "str"] then .type x else .builtin x
structure FnT where
  params:List String
  body:List Stmt
  scope:Scope
  lam:Bool
structure Fns where
  fn:String→Option (Addr × FnT)
  mth:String→Option (Addr × FnT)
  init:Option (Addr × FnT)
  lam:Bool
  hand:Bool
noncomputable def adr (fns:Fns) (f:String):Option Addr:=if f = "Rule" then fns.init.map fun uu=>SF.rule else if f∈methNames then (fns.mth f).map (·.1) else (fns.fn f).map (·.1)
theorem rM {fns:Fns}{f:String} (h1:f ≠ "Rule") (h2:f∉methNames):adr fns f=(fns.fn f).map (·.1):=by unfold adr; rw [if_neg h1,if_neg h2]
theorem ot {fns:Fns}{f:String} (h1:f ≠ "Rule") (h2:f∈methNames):adr fns f=(fns.mth f).map (·.1):=by unfold adr; rw [if_neg h1,if_pos h2]
noncomputable def FnAt (h:Heap) (ft:FnT) (a:Addr):Prop:=∃ o fd,h.get? a=some o∧o.data = .func fd∧fd.body = .stmts ft.body∧fd.scope=ft.scope∧fd.globals=mainGlobals∧fd.closure=[]∧fd.builtins=builtinsNs∧h.CodeRec fd.code fd.qualname∧(ft.lam=true→CodeOk h fd.code fd.qualname) ∧
  (∀ vals,vals.length=ft.params.length→bindArgs fd ⟨vals,[]⟩=pure ((ft.params.map Str.ofString).zip vals))∧fd.scope.isCoroutine=false∧fd.scope.isGenerator=false∧fd.scope.kind = .function
theorem rY {h h':Heap}{cd:Value}{q:Str} (x:h.CodeRec cd q) (k:K h h'):h'.CodeRec cd q:=by
  refine bI (x) fun c o vs t Fa e hd hv=>?_
  try clear x
  subst Fa
  refine aa (k c o (.inl trivial) e) fun o' e' l=>?_
  cases l with
  | same q=>(clear e; subst q); exact (gG c _ vs t rfl e' hd hv)
  | tab ps more _ q1 q2 _=>
    (clear e; subst q1 q2)
    obtain rfl:=Data.fields.inj (show Data.fields ps=Data.fields vs from hd)
    exact (gG c _ (ps ++ more) t rfl e' rfl (by rw [Array.getElem?_append_left (Array.getElem?_eq_some_iff.mp hv).1]; exact hv))
  | frame es ep _ _ q _ _ _=>rw [hd] at q; cases q
theorem FnAt.k {h h':Heap}{ft:FnT}{a:Addr} (x:FnAt h ft a) (k:K h h'):FnAt h' ft a:=by
  refine yh (x) fun o fd h1 h2 h3 h4 h5 h6 h7 h8 h9 h10=>?_
  try clear x
  obtain ⟨o',e',hd,_⟩:=K.data k h1 fun fs q=>by rw [h2] at q; cases q
  exact (y5 o' fd e' (hd.trans h2) h3 h4 h5 h6 h7 (rY h8 k) (fun q=>(h9 q).k k) h10)
theorem oH {h h':Heap}{C N:Addr}{mN:Str→Option Value} (x:ClsAt h C N mN) (k:K h h'):ClsAt h' C N mN:=by
  obtain ⟨Fb,hn⟩:=x
  refine dC (Fb) fun nm q bs sn sub col dd k0 k1 k2 k3 k5 e=>?_
  try clear Fb
  exact ⟨⟨nm,q,bs,sn,sub,col,dd,k0,k1,k2,k3,k5,K.get k e rfl⟩,eZ hn k⟩
noncomputable def RuleAt (fns:Fns) (h:Heap):Prop:=∃ N mN,ClsAt h SF.rule N mN∧(∀ n∈["__setattr__", "__getattribute__", "__getattr__", "count", "full", "size"],mN (Str.ofString n)=none) ∧
  (∃ p o,fns.init=some p∧mN "__init__" = some (.ref p.1)∧FnAt h p.2 p.1∧h.get? p.1=some o∧o.cls = .type "function") ∧
  ∀ m p,fns.mth m=some p→∃ o,mN (Str.ofString m)=some (.ref p.1)∧FnAt h p.2 p.1∧h.get? p.1=some o∧o.cls = .type "function"
theorem nR {h h':Heap}{a:Addr}{o:Obj} (k:K h h') (e:h.get? a=some o) (c:o.cls = .type "function"):∃ o',h'.get? a=some o'∧o'.cls = .type "function" :=
  aa (k a o (.inl trivial) e) fun o' e' l=>(ag o' e' (l.cls.trans c))
theorem RuleAt.k {fns:Fns}{h h':Heap} (x:RuleAt fns h) (k:K h h'):RuleAt fns h':=by
  refine aZ (x) fun N mN h1 h2 Fc h4=>?_
  try clear x
  refine jG (Fc) fun p o i1 i2 i3 i4 i5=>?_
  try clear Fc
  refine aa (nR k i4 i5) fun o' e' c'=>?_
  refine (bp N mN (oH h1 k) h2 (dR p o' i1 i2 (i3.k k) e' c') (fun m p hp=>?_))
  refine bG (h4 m p hp) fun o j1 j2 j3 j4=>?_
  refine aa (nR k j3 j4) fun o' e' c'=>?_
  exact (a7 o' j1 (j2.k k) e' c')
noncomputable def bmV:List Value:=[.type "ValueError", .type "Exception", .type "BaseException", .type "object"]
noncomputable def dG (c:String):List Value:=if c = "PickError" then bmV else .ref (SF.exc "PickError") :: bmV
theorem rH {h h':Heap}{bm tl:List Value} (T:OwnTail h bm tl) (k:K h h'):OwnTail h' bm tl:=by
  induction T with
  | base=>exact .base
  | own hA hN hq _ ih=>exact .own (K.exact k hA (fun uu q=>by cases q) fun uu uu q=>by cases q) (eZ hN k) hq ih
noncomputable def ExcAt (h:Heap) (c:String):Prop:=∃ N nm q bs hdct sn sub ab col dd k0 k1 k2 k3 k5 mN,h.get? (SF.exc c)=some (excClassObj nm q (SF.exc c) N bs (dG c) hdct sn sub ab col dd k0 k1 k2 k3 k5 "ValueError.__new__")∧h.Ns N mN∧mN "__init__" = none∧OwnTail h bmV (dG c)
theorem ExcAt.k {h h':Heap}{c:String} (x:ExcAt h c) (k:K h h'):ExcAt h' c:=by
  obtain ⟨N,nm,q,bs,hdct,sn,sub,ab,col,dd,k0,k1,k2,k3,k5,mN,h1,h2,h3,h4⟩:=x
  exact ⟨N,nm,q,bs,hdct,sn,sub,ab,col,dd,k0,k1,k2,k3,k5,mN,K.exact k h1 (fun uu q=>by cases q) (fun uu uu q=>by cases q),eZ h2 k,h3,rH h4 k⟩
structure GE (fns:Fns) (h:Heap):Prop where
  glob:∃ mg,h.Ns mainGlobals mg∧(∀ f a,f∉methNames→adr fns f=some a→mg (Str.ofString f)=some (.ref a))∧∀ x∈bnames,mg (Str.ofString x)=none
  funs:∀ f p,fns.fn f=some p→FnAt h p.2 p.1
  cls:(∃ f p,fns.mth f=some p)∨fns.init.isSome=true→RuleAt fns h
  blt:∃ mb,h.Ns builtinsNs mb∧∀ x∈bnames,mb (Str.ofString x)=some (bval x)
  nolim:h.NoLimit
  old:∀ b,SF.old b→∃ o,h.get? b=some o
  exc:∃ mg,h.Ns mainGlobals mg∧(∀ c∈SF.excN,mg (Str.ofString c)=some (.ref (SF.exc c))∧ExcAt h c)∧∀ c∈SF.excN,∀ c' ∈ "PickError" :: SF.excN,SF.exc c=SF.exc c'→c=c'
  bm:∃ mg bm ob,h.Ns mainGlobals mg∧mg "__builtins__" = some (.ref bm)∧bm≠builtinsNs∧h.get? bm=some ob∧ob.cls = .type "module" ∧ ob.dict=some builtinsNs∧ob.data = .plain
theorem GE.k {fns:Fns}{h h':Heap} (G:GE fns h) (k:K h h'):GE fns h' where
  glob:=aa (G.glob) fun mg a b=>(ag mg (eZ a k) b)
  funs:=fun f p e=>(G.funs f p e).k k
  cls:=fun e=>(G.cls e).k k
  blt:=aa (G.blt) fun mb a b=>(ag mb (eZ a k) b)
  nolim:=oE G.nolim k
  old:=fun b hb=>ai (G.old b hb) fun uu e=>K.there k e
  exc:=ao (G.exc) fun mg a b c=>(aA mg (eZ a k) (fun c hc=>⟨(b c hc).1,(b c hc).2.k k⟩) c)
  bm:=yl (G.bm) fun mg bm ob a b c d e f g=>(jQ mg bm ob (eZ a k) b c (K.get k d (by unfold hardB; rw [e]; decide)) e f g)
theorem GE.flag {fns:Fns}{h:Heap} (G:GE fns h) (a b:Bool):GE { fns with lam:=a,hand:=b } h:=⟨G.glob,G.funs,G.cls,G.blt,G.nolim,G.old,G.exc,G.bm⟩
noncomputable def FrOk (h:Heap) (l:List Env):Prop:=∀ env∈l,env.scope.kind = .function∧∃ L o es ep,env.frame=some L∧¬ SF.old L∧h.get? L=some o∧o.cls = .type "frame" ∧ o.data = .dict es ep
theorem FrOk.k {h h':Heap}{l:List Env} (x:FrOk h l) (k:K h h'):FrOk h' l:=fun env he=>by
  obtain ⟨h0,L,o,es,ep,h1,h2,h3,h4,h5⟩:=x env he
  refine aa (k L o (.inl trivial) h3) fun o' e' l=>?_
  exact (aG h0 (iK L o' es ep h1 h2 e' (l.cls.trans h4) ((l.data fun fs q=>by rw [h5] at q; cases q).trans h5)))
section
variable (prog:Program) (w:World)
noncomputable def RV (prog:Program) (w:World) (h:Heap) (v:Value):V→List Addr→Prop
  | .d x,as=>R h v x as∧sz x=true
  | .dic0,as=>∃ a,v = .ref a∧as=[a]∧(a == sysModules)=false∧h.DictOf (intKind prog w) a []∧h.DictOfH (tupleKind (intKind prog w)) a []
  | .dicI ks,as=>∃ a,v = .ref a∧as=[a]∧(a == sysModules)=false∧h.DictOf (intKind prog w) a (ks.map fun k=>(k,.bool true))
  | .dicT ks,as=>∃ a xs,v = .ref a∧as=[a]∧(a == sysModules)=false∧h.DictOfH (tupleKind (intKind prog w)) a xs∧xs.map (·.1)=ks∧(∀ k∈ks,k.length≤2 ^ 22)∧∀ x∈xs,R h (.ref x.2.1) (aL x.1) []
  | .rule c d n,as=>∃ x D o vf bs t u mA,v = .ref x∧as=x :: D :: bs∧h.get? x=some o∧o.cls = .ref SF.rule∧(∀ c,o.data≠.cls c)∧o.dict=some D∧D≠x∧h.Ns1 D mA∧mA "count" = some (.int c t)∧mA "full" = some vf∧mA "size" = some (.int n u)∧(∀ m∈methNames,mA (Str.ofString m)=none)∧R h vf d bs∧sz d=true
inductive RVs (h:Heap):List V→List Value→List Addr→Prop
  | nil:RVs h [] [] []
  | cons {x:V}{xs:List V}{v:Value}{vs:List Value}{as bs:List Addr}:RV prog w h v x as→RVs h xs vs bs→RVs h (x :: xs) (v :: vs) (as ++ bs)
end
inductive VarIs (h:Heap) (env:Env) (x:Str) (v:Value):Prop
  | loc (m:Str→Option Value):env.kindOf x=some .local→h.Ns env.locals m→m x=some v→VarIs h env x v
  | cell (c:Addr):env.kindOf x=some .cell∨env.kindOf x=some .free→env.cells.lookup x=some c→h.IsCell c (some v)→VarIs h env x v
structure EnvOk (env:Env):Prop where
  kind:env.scope.kind = .function
  glob:env.globals=mainGlobals
  blt:env.builtins=builtinsNs
  cells:∀ n,env.kindOf n=some .cell∨env.kindOf n=some .free→∃ c,env.cells.lookup n=some c
section
variable {prog:Program}{w:World}
theorem Em {h h':Heap}{G:Addr→Prop}{a:Addr}{ks:List Int} (x:IsTupleKey (intKind prog w) h ks a) (k:KG G h h'):IsTupleKey (intKind prog w) h' ks a :=
  aS (x) fun o it n a1 a2 a3=>(cu o it n (k.stay a1 (.inr (aG a2 (bn _ _ a3.1)))) a2 a3)
theorem fX {o:Obj} (x:o.ExactDict):hardB o=true:=by unfold hardB; rw [x.1]; decide
theorem l8 {h h':Heap}{G:Addr→Prop}{a:Addr}{kvs:List (Int × Value)} (x:h.DictOf (intKind prog w) a kvs) (k:KG G h h') (g:G a):h'.DictOf (intKind prog w) a kvs :=
  ba (x) fun o es ep a1 r=>(bQ o es ep (k.hard (.inl g) a1 (fX r.1)) r)
theorem k7 {h h':Heap}{G:Addr→Prop}{a:Addr}{xs:List (List Int × Addr × Value)} (x:h.DictOfH (tupleKind (intKind prog w)) a xs) (k:KG G h h') (g:G a):h'.DictOfH (tupleKind (intKind prog w)) a xs :=
  cq (x) fun o es ep a1 a2 a3 a4 a5 a6=>(ez o es ep (k.hard (.inl g) a1 (fX a2)) a2 a3 a4 (fun y hy=>Em (a5 y hy) k) a6)
theorem RV.onG {h h':Heap}{G:Addr→Prop}{v:Value}{x:V}{as:List Addr} (r:RV prog w h v x as) (k:KG G h h') (g:∀ a∈as,G a):RV prog w h' v x as:=by
  cases x with
  | d x=>exact ⟨r.1.onG k g,r.2⟩
  | dic0=>obtain ⟨a,h1,rfl,h3,h4,h5⟩:=r; exact (gy a h1 rfl h3 (l8 h4 k (g a (.head _))) (k7 h5 k (g a (.head _))))
  | dicI ks=>obtain ⟨a,h1,rfl,h3,h4⟩:=r; exact (a7 a h1 rfl h3 (l8 h4 k (g a (.head _))))
  | dicT ks=>obtain ⟨a,xs,h1,rfl,h3,h4,h5,h6,h7⟩:=r; exact (fe a xs h1 rfl h3 (k7 h4 k (g a (.head _))) h5 h6 (fun x hx=>(h7 x hx).onG k fun uu h=>nomatch h))
  | rule c d n=>
    refine hW (r) fun x D o vf bs t u mA h1 Fd h3 h4 h5 h6 h7 Ff h9 h10 h11 h12 h13 h14=>?_
    try clear r
    subst Fd
    refine ba (Ff) fun oD es ep e hd=>?_
    try clear Ff
    obtain ⟨oD',eD,q,_⟩:=k.dataG (.inl (g D (.tail _ (.head _)))) e fun fs q=>by rw [hd.1] at q; cases q
    exact (hU x D o vf bs t u mA h1 rfl (k.hard (.inl (g x (.head _))) h3 (by unfold hardB; rw [h4])) h4 h5 h6 h7 (cu oD' es ep eD (q.trans hd.1) hd.2) h9 h10 h11 h12 (h13.onG k fun a ha=>g a (.tail _ (.tail _ ha))) h14)
theorem RV.k {h h':Heap}{v:Value}{x:V}{as:List Addr} (r:RV prog w h v x as) (k:K h h'):RV prog w h' v x as:=r.onG k fun uu uu=>trivial
theorem VarIs.k {h h':Heap}{env:Env}{x:Str}{v:Value} (r:VarIs h env x v) (k:K h h'):VarIs h' env x v:=by
  cases r with
  | loc m a b c=>exact .loc m a (eZ b k) c
  | cell c a b d=>exact .cell c a b (hY d k)
theorem RV.keep {h h':Heap}{v:Value}{x:V}{as:List Addr} (r:RV prog w h v x as) (k:∀ b o,h.get? b=some o→h'.get? b=some o):RV prog w h' v x as:=r.k (.of k)
noncomputable def Kp (s s':Shared):Prop:=∃ h' tk,s' = { s with heap:=h',toks:=tk }∧K s.heap h'
theorem Kp.refl (s:Shared):Kp s s:=(az s.heap s.toks rfl KG.refl)
theorem Kp.trans {s s₁ s₂:Shared} (a:Kp s s₁) (b:Kp s₁ s₂):Kp s s₂:=by
  refine av (a) fun h t Fi k=>?_
  try clear a
  subst Fi
  refine av (b) fun h' t' Fh k'=>?_
  try clear b
  subst Fh
  exact (az h' t' rfl (KG.trans k k'))
theorem Kp.k {s s₁:Shared} (a:Kp s s₁):K s.heap s₁.heap:=by
  obtain ⟨h,t,rfl,k⟩:=a; exact k
theorem Kp.of {s:Shared}{h':Heap}{tk:Nat} (k:∀ b o,s.heap.get? b=some o→h'.get? b=some o):Kp s { s with heap:=h',toks:=tk }:=(az h' tk rfl (.of k))
theorem Kp.toks (s:Shared) (t:Nat):Kp s { s with toks:=t }:=.of (s:=s) fun uu uu e=>e
theorem Kp.push (s:Shared) (o:Obj) (t:Nat):Kp s { s with heap:=s.heap.push o,toks:=t }:=.of fun uu uu e=>Heap.get?_push_of_some _ e
theorem Kp.none {s s₁:Shared} (a:Kp s s₁) {b:Addr} (e:s₁.heap.get? b=none):s.heap.get? b=none:=by
  cases q:s.heap.get? b with
  | none=>rfl
  | some o=>obtain ⟨o',e'⟩:=a.k.there q; rw [e'] at e; exact nM e
variable (prog w)
structure Cx (fns:Fns) (k:Nat) (A:Around) (P:Addr→Prop) (h:Heap) (env:Env) (σ:St):Prop where
  room:Room fns.hand k A
  eok:EnvOk env
  ge:GE fns h
  code:fns.lam=true→∃ q,CodeOk h env.code q
  frm:fns.hand=false→∃ l,A.frames=some l∧FrOk h l
  vars:∀ x p,σ x=some p→varK env.scope.names x=true→∃ v as,VarIs h env (Str.ofString x) v∧RV prog w h v p.1 as∧∀ a∈as,P a
inductive EP (P:Addr→Prop) (s:Shared) (r:V × Mode) (v:Value) (s':Shared):Prop
  | mk (kp:Kp s s') (as:List Addr) (rv:RV prog w s'.heap v r.1 as) (own:∀ a∈as,P a∨s.heap.get? a=none) (top:r.2 = .top→∃ a bs,as=a :: bs∧s.heap.get? a=none∧a∉bs) (deep:r.2 = .deep→(∀ a∈as,s.heap.get? a=none)∧as.Nodup):EP P s r v s'
inductive EPs (P:Addr→Prop) (s:Shared) (l:List (V × Mode)) (vs:List Value) (s':Shared):Prop
  | mk (kp:Kp s s') (as:List Addr) (rv:RVs prog w s'.heap (l.map (·.1)) vs as) (own:∀ a∈as,P a∨s.heap.get? a=none) (deep:allDeep l=true→(∀ a∈as,s.heap.get? a=none)∧as.Nodup):EPs P s l vs s'
variable {prog w}
theorem EP.keeps {P:Addr→Prop}{s s':Shared}{r:V × Mode}{v:Value} (e:EP prog w P s r v s'):Kp s s':=by cases e; assumption
theorem EPs.keeps {P:Addr→Prop}{s s':Shared}{l:List (V × Mode)}{vs:List Value} (e:EPs prog w P s l vs s'):Kp s s':=by cases e; assumption
theorem Cx.k {fns:Fns}{k:Nat}{A:Around}{P:Addr→Prop}{h h':Heap}{env:Env}{σ:St} (X:Cx prog w fns k A P h env σ) (kp:K h h'):Cx prog w fns k A P h' env σ where
  room:=X.room
  eok:=X.eok
  ge:=X.ge.k kp
  code:=fun hk=>ai (X.code hk) fun q c=>⟨q,c.k kp⟩
  frm:=fun q=>aa (X.frm q) fun l a b=>(ag l a (b.k kp))
  vars:=fun x p hp hv=>ay (X.vars x p hp hv) fun v as a b c=>(aK v as (a.k kp) (b.k kp) c)
theorem EP.scalar {P:Addr→Prop}{s s':Shared}{x:PyData}{v:Value}{m:Mode} (k:Kp s s') (r:R s'.heap v x []) (z:sz x=true) (hm:m≠.top):EP prog w P s (.d x,m) v s' :=
  ⟨k,[],⟨r,z⟩,fun uu h=>(nomatch h),fun h=>absurd h hm,fun uu=>⟨fun uu h=>(nomatch h),.nil⟩⟩
theorem EP.int {P:Addr→Prop}{s s':Shared}{i:Int}{t:Tok} (k:Kp s s'):EP prog w P s (sI i) (.int i t) s':=.scalar k (.int i t) rfl (by simp)
theorem EP.bool {P:Addr→Prop}{s s':Shared}{b:Bool} (k:Kp s s'):EP prog w P s (sB b) (.bool b) s':=.scalar k (.bool b) rfl (by simp)
theorem EP.after {P:Addr→Prop}{s s₁ s':Shared}{r:V × Mode}{v:Value} (k:Kp s s₁) (e:EP prog w P s₁ r v s'):EP prog w P s r v s':=by
  obtain ⟨k',as,a,b,c,d⟩:=e
  exact ⟨k.trans k',as,a,fun x hx=>(b x hx).imp id k.none,fun hm=>ay (c hm) fun a bs h1 h2 h3=>(aK a bs h1 (k.none h2) h3),fun hm=>⟨fun x hx=>k.none ((d hm).1 x hx),(d hm).2⟩⟩
end
end Mine
namespace Mine
set_option tactic.hygienic false
set_option linter.unusedVariables false
open PySem PyProof.Rows
set_option linter.unusedSectionVars false
variable [SF:Soft]
section
variable (prog:Program) (w:World) (fns:Fns) (k:Nat) (C:Calls) (XP:String→Shared→Value→Shared→Prop)
noncomputable def SimE (e:E):Prop:=∀ {ex:Expr}{A:Around}{env:Env}{σ:St}{P:Addr→Prop}{s:Shared}{Q:Value→Shared→Prop}{Er:Value→Shared→Prop},
  okE env.scope.names e ex=true→Cx prog w fns k A P s.heap env σ→ev C e σ≠.bad →
  (∀ r,ev C e σ = .ok r→∀ v s',EP prog w P s r v s'→Q v s')→(∀ c,ev C e σ = .exc c→∀ x s',XP c s x s'→Er x s') →
  wpAny (model prog w) A (eval ex env) Q Er s
noncomputable def SimT (e:E):Prop:=∀ {ex:Expr}{A:Around}{env:Env}{σ:St}{P:Addr→Prop}{s:Shared}{Q:Bool→Shared→Prop}{Er:Value→Shared→Prop},
  okE env.scope.names e ex=true→Cx prog w fns k A P s.heap env σ→((ev C e σ).bind fun r=>au r.1)≠.bad →
  (∀ b,((ev C e σ).bind fun r=>au r.1) = .ok b→∀ s',Kp s s'→Q b s')→(∀ c,ev C e σ = .exc c→∀ x s',XP c s x s'→Er x s') →
  wpAny (model prog w) A (isTrue ex env (eval ex env)) Q Er s
end
theorem aq {α β:Type}{o:Out α}{f:α→Out β} (h:o.bind f≠.bad):o≠.bad∧∀ a,o = .ok a→f a≠.bad:=by
  cases o with
  | ok a=>exact ⟨fun e=>(by cases e),fun uu e=>by (have oc:=Out.ok.inj e; clear e; subst oc); exact h⟩
  | exc c=>exact ⟨fun e=>(by cases e),fun uu e=>by cases e⟩
  | bad=>exact absurd rfl h
theorem cC {α β:Type}{o:Out α}{f:α→Out β}{b:β} (h:o.calm.bind f = .ok b):∃ a,o = .ok a∧f a = .ok b:=by
  cases o with
  | ok a=>exact (ag a rfl h)
  | exc c=>exact nB h
  | bad=>exact nB h
theorem bq {α β:Type}{o:Out α}{f:α→Out β}{c:String} (h:o.bind f = .exc c):o = .exc c∨∃ a,o = .ok a∧f a = .exc c:=by
  cases o with
  | ok a=>exact .inr (ag a rfl h)
  | exc c=>cases h; exact .inl rfl
  | bad=>cases h
section
variable {prog:Program}{w:World}{fns:Fns}{k:Nat}{C:Calls}{XP:String→Shared→Value→Shared→Prop}
theorem EA (hXP:∀ c s s₁ x s',Kp s s₁→XP c s₁ x s'→XP c s x s') {a b:E} (Sa:SimE prog w fns k C XP a) (Sb:SimE prog w fns k C XP b)
    {ea eb:Expr}{A:Around}{env:Env}{σ:St}{P:Addr→Prop}{s:Shared}{G:Value→Value→Shared→Prop}{Er:Value→Shared→Prop}
    (oa:okE env.scope.names a ea=true) (ob:okE env.scope.names b eb=true) (X:Cx prog w fns k A P s.heap env σ)
    (na:ev C a σ≠.bad) (nb:∀ x,ev C a σ = .ok x→ev C b σ≠.bad)
    (hE:∀ c,(ev C a σ = .exc c∨∃ x,ev C a σ = .ok x∧ev C b σ = .exc c)→∀ x s',XP c s x s'→Er x s')
    (hG:∀ x y,ev C a σ = .ok x→ev C b σ = .ok y→∀ va vb s₁ s₂,EP prog w P s x va s₁→EP prog w P s₁ y vb s₂→G va vb s₂) :
    wpAny (model prog w) A (eval ea env) (fun va s₁=>wpAny (model prog w) A (eval eb env) (fun vb s₂=>G va vb s₂) Er s₁) Er s :=
  Sa oa X na (fun x hx va s₁ Ea=>Sb ob (X.k Ea.keeps.k) (nb x hx) (fun y hy vb s₂ Eb=>hG x y hx hy va vb s₁ s₂ Ea Eb)
    fun c hc z s' hz=>hE c (.inr (ag x hx hc)) z s' (hXP c s s₁ z s' Ea.keeps hz)) fun c hc=>hE c (.inl hc)
theorem mY {env:Env}{x:String} (h:varK env.scope.names x=true):env.kindOf (Str.ofString x)=some .local∨env.kindOf (Str.ofString x)=some .cell∨env.kindOf (Str.ofString x)=some .free:=by
  unfold varK at h
  unfold Env.kindOf
  replace h:=(Bool.and_eq_true_iff.mp h).2
  split at h <;> first | (rename_i e; exact .inl e) | (rename_i e; exact .inr (.inl e)) | (rename_i e; exact .inr (.inr e)) | exact nF h
theorem cI {A:Around}{env:Env}{x:String}{pos:Pos}{v:Value}{s:Shared}{Q:Value→Shared→Prop}{Er:Value→Shared→Prop} (hk:env.scope.kind = .function) (hd:aT x=true)
    (hv:VarIs s.heap env (Str.ofString x) v) (h:Q v s):wpAny (model prog w) A (eval (.Name (Str.ofString x) pos) env) Q Er s:=by
  unfold aT at hd
  simp only [Bool.and_eq_true,Bool.not_eq_true'] at hd
  cases hv with
  | loc m a b c=>exact wpAny_Name (wpAny_loadName_local hk a b c h) hd.1
  | cell c a b d=>
    rcases a with a | a
    · exact wpAny_Name (wpAny_loadName_cell hk a b d h) hd.1
    · exact wpAny_Name (wpAny_loadName_free hk a b d h hd.2) hd.1
theorem pi {P:Addr→Prop}{s:Shared}{v:Value}{x:V}{as:List Addr} (r:RV prog w s.heap v x as) (h:∀ a∈as,P a):EP prog w P s (mk x) v s:=by
  refine ⟨.refl s,as,r,fun a ha=>.inl (h a ha),fun hm=>?_,fun hm=>?_⟩
  · unfold mk at hm; dsimp only at hm; split at hm <;> cases hm
  · cases x with
    | d x=>
      unfold mk at hm; dsimp only at hm
      split at hm
      · rename_i hs
        have:as=[]:=r.1.sx_nil hs
        (clear h r; subst this)
        exact ⟨fun uu h=>(nomatch h),.nil⟩
      · cases hm
    | _=>simp [mk,ql] at hm
theorem ji {ns:List (Str × NameKind)}{x:String}{ex:Expr} (h:okE ns (.name x) ex=true):∃ p,ex = .Name (Str.ofString x) p∧varK ns x=true∧aT x=true:=by
  replace h:=qN h
  revert h; refine fun Fj=>Or.elim Fj (fun Fe=>?_) (fun h=>?_)
  · clear Fj
    refine av (Fe) fun FK FR Gh h=>?_
    clear Fe
    subst Gh
    simp only [Bool.and_eq_true,beq_iff_eq] at h
    refine ae (h) fun E5 h3=>?_
    try clear h
    refine ae (E5) fun E6 h2=>?_
    try clear E5
    subst E6
    exact (aA _ rfl h2 h3)
  · cases h
theorem jd (x:String):SimE prog w fns k C XP (.name x):=by
  intro ex A env σ P s Q Er ok X nb hQ hE
  refine ao (ji ok) fun p E7 hv hd=>?_
  (clear ok; subst E7)
  cases hσ:σ x with
  | none=>exact absurd (by simp [cZ,hσ]) nb
  | some q=>
    refine ay (X.vars x q hσ hv) fun v as h1 h2 h3=>?_
    exact cI X.eok.kind hd h1 (hQ (mk q.1) (by simp [cZ,hσ]) v s (pi h2 h3))
theorem km (i:Int):SimE prog w fns k C XP (.int i):=by
  intro ex A env σ P s Q Er ok X nb hQ hE
  replace ok:=CE ok
  revert ok; refine fun Fk=>Or.elim Fk (fun Fg=>?_) (fun ok=>?_)
  · clear Fk
    refine ba (Fg) fun FX Go FT Gr ok=>?_
    clear Fg
    subst Gr
    simp only [beq_iff_eq] at ok
    subst ok
    exact wpAny_Constant_int (hQ (sI i) rfl _ _ (.int (.toks s _)))
  · cases ok
theorem xK (x:String):SimE prog w fns k C XP (.str x):=by
  intro ex A env σ P s Q Er ok X nb hQ hE
  replace ok:=A8 ok
  revert ok; refine fun Fq=>Or.elim Fq (fun Fl=>?_) (fun ok=>?_)
  · clear Fq
    refine ba (Fl) fun F0 FU FY FQ ok=>?_
    clear Fl
    subst FQ
    simp only [Bool.and_eq_true,beq_iff_eq,decide_eq_true_eq] at ok
    refine ae (ok) fun E8 hx=>?_
    try clear ok
    subst E8
    exact wpAny_Constant_str (hQ (.d (.str (Str.ofString x)),.deep) rfl _ _ (.scalar (.toks s _) (.str _ _) (by simpa [sz] using hx) (by simp)))
  · cases ok
theorem nc (b:Bool):SimE prog w fns k C XP (.bool b):=by
  intro ex A env σ P s Q Er ok X nb hQ hE
  replace ok:=yu ok
  revert ok; refine fun Fx=>Or.elim Fx (fun Fo=>?_) (fun ok=>?_)
  · clear Fx
    refine ba (Fo) fun GL GB GR Gf ok=>?_
    clear Fo
    subst Gf
    simp only [beq_iff_eq] at ok
    subst ok
    exact wpAny_Constant_bool (hQ (sB b) rfl _ _ (.bool (.refl s)))
  · cases ok
theorem tH:SimE prog w fns k C XP .none:=by
  intro ex A env σ P s Q Er ok X nb hQ hE
  replace ok:=yF ok
  revert ok; refine fun Fu=>Or.elim Fu (fun Fs=>?_) (fun ok=>?_)
  · clear Fu
    refine av (Fs) fun G0 G7 GW ok=>?_
    clear Fs
    subst GW
    exact wpAny_Constant_none (hQ (.d .none,.deep) rfl _ _ (.scalar (.refl s) .none rfl (by simp)))
  · cases ok
theorem a8 (h:Heap):h.get? h.objs.size=none:=Heap.get?_none_of_le (Nat.le_refl _)
theorem dF {h:Heap}{a:Addr}{o:Obj} (e:h.get? a=some o):a≠h.objs.size:=Nat.ne_of_lt (Heap.lt_size e)
theorem EP.newList {P:Addr→Prop}{s:Shared}{xs:List PyData}{vs:List Value}{as:List Addr}{t:Nat} (r:RA s.heap vs xs as) (hl:xs.length≤2 ^ 22) (hz:∀ x∈xs,sz x=true) (ha:∀ a∈as,P a) :
    EP prog w P s (.d (.list xs),fresh xs) (.ref s.heap.objs.size) { s with heap:=s.heap.push { cls:=.type "list", data:=.seq vs.toArray },toks:=t }:=by
  refine ⟨.push s _ _,s.heap.objs.size :: as,⟨.list (Heap.get?_push_size _ rfl) (r.keep fun uu uu e=>Heap.get?_push_of_some _ e),sz_list.mpr ⟨hl,hz⟩⟩,?_,?_,?_⟩
  · intro a h
    rcases List.mem_cons.mp h with rfl | h
    · exact .inr (a8 _)
    · exact .inl (ha a h)
  · intro _
    exact (aK _ _ rfl (a8 _) (fun h=>aY (r.there _ h) fun uu uu e=>dF e rfl))
  · intro hm
    have hall:xs.all sx=true:=by
      unfold fresh at hm; dsimp only at hm; split at hm
      · assumption
      · cases hm
    rw [r.sx_nil hall]
    refine ⟨fun a h=>?_,by simp⟩
    rcases List.mem_cons.mp h with rfl | h
    · exact a8 _
    · cases h
section
variable {va vb:Value}{as bs:List Addr}{A:Around}{P:Addr→Prop}{s:Shared}{Q:Value→Shared→Prop}{Er:Value→Shared→Prop}
theorem uM {xs ys:List PyData} (ra:R s.heap va (.list xs) as) (za:sz (.list xs)=true) (rb:R s.heap vb (.list ys) bs) (zb:sz (.list ys)=true) (ha:∀ a∈as,P a) (hb:∀ a∈bs,P a) (hl:xs.length + ys.length≤lim)
    (hQ:∀ v s',EP prog w P s (.d (.list (xs ++ ys)),fresh (xs ++ ys)) v s'→Q v s'):wpAny (model prog w) A (binaryOp .Add va vb) Q Er s:=by
  cases ra with
  | list ea ra=>
  cases rb with
  | list eb rb=>
  unfold lim at hl
  rw [sz_list] at za zb
  have e1:=ra.length
  have e2:=rb.length
  refine PySem.P.add_list ea eb ?_ ?_
  · have:=EP.newList (prog:=prog) (w:=w) (P:=P) (t:=s.toks) (ra.append rb) (by rw [List.length_append]; exact B8 hl) (fun z hz=>(List.mem_append.mp hz).elim (za.2 z) (zb.2 z)) fun a h=>(List.mem_append.mp h).elim (fun h=>ha a (.tail _ h)) fun h=>hb a (.tail _ h)
    exact hQ _ _ (by simpa using this)
  · rw [List.size_toArray,List.size_toArray,e1,e2]
    unfold sizeLine; exact Ct hl
theorem xL {a b:Int}{t u:Tok} (h:a.natAbs<2 ^ 63∨b.natAbs<2 ^ 63) (hQ:∀ v s',EP prog w P s (sI (a * b)) v s'→Q v s'):wpAny (model prog w) A (binaryOp .Mult (.int a t) (.int b u)) Q Er s:=by
  refine mul_int (hQ _ _ (.int (.toks s _))) ?_
  rcases h with hl | hl
  · exact IntMulOk.of_left (intBits_le_64 (by exact na1 (by assumption)) (by exact na2 (by assumption)))
  · exact IntMulOk.of_right (intBits_le_64 (by exact na1 (by assumption)) (by exact na2 (by assumption)))
theorem tV {a b:Int}{t u:Tok} (h:¬ (b=0∨1000000000≤b.natAbs)) (hQ:∀ v s',EP prog w P s (sI (a.fdiv b)) v s'→Q v s'):wpAny (model prog w) A (binaryOp .FloorDiv (.int a t) (.int b u)) Q Er s :=
  floordiv_int (fun e=>h (.inl e)) (hQ _ _ (.int (.toks s _))) (.inl (PyProof.noPylong_small (by exact zR h)))
theorem wp {a b:Int}{t u:Tok} (h:0≤b∧b≤1000∧a.natAbs<2 ^ 63) (hQ:∀ v s',EP prog w P s (sI (a ^ b.toNat)) v s'→Q v s'):wpAny (model prog w) A (binaryOp .Pow (.int a t) (.int b u)) Q Er s :=
  pow_int_small h.1 (by exact Ck h) (by exact Cf h) (hQ _ _ (.int (.toks s _)))
theorem tw {o:BOp}{op:Operator}{x y:PyData}{r:V × Mode}
    (ho:opB o op=true) (he:cT o x y = .ok r) (ra:R s.heap va x as) (za:sz x=true) (rb:R s.heap vb y bs) (zb:sz y=true) (ha:∀ a∈as,P a) (hb:∀ a∈bs,P a)
    (hQ:∀ v s',EP prog w P s r v s'→Q v s'):wpAny (model prog w) A (binaryOp op va vb) Q Er s:=by
  cases of_decide_eq_true ho
  cases o with
  | add=>
    replace he:l5 x y = .ok r:=he
    unfold l5 at he
    cases hx:asL x with
    | some xs=>
      rw [hx] at he
      replace he:=aD he
      revert he; intro Hl
      refine aa (Hl) fun ys hy he=>?_
      try clear Hl
      cases ce hx
      cases ce hy
      clear hx hy
      split at he <;> cases he
      exact uM ra za rb zb ha hb (by assumption) hQ
    | none=>
      rw [hx] at he
      replace he:=dm he
      revert he; intro FN
      refine ay (FN) fun a b E9 Fa he=>?_
      try clear FN
      (clear hx za; subst E9)
      (clear zb; subst Fa)
      (have oc:=Out.ok.inj he; clear he; subst oc); obtain ⟨_,rfl,rfl⟩:=ra.isInt; obtain ⟨_,rfl,rfl⟩:=rb.isInt
      exact add_int (hQ _ _ (.int (.toks s _)))
  | sub=>
    replace he:=dm he
    revert he; intro FG
    refine ay (FG) fun a b Fb Fc he=>?_
    try clear FG
    (clear za; subst Fb)
    (clear zb; subst Fc)
    (have oc:=Out.ok.inj he; clear he; subst oc); obtain ⟨_,rfl,rfl⟩:=ra.isInt; obtain ⟨_,rfl,rfl⟩:=rb.isInt
    exact sub_int (hQ _ _ (.int (.toks s _)))
  | mul=>
    replace he:=dm he
    revert he; intro GN
    refine ay (GN) fun a b Fd Ff he=>?_
    try clear GN
    (clear za; subst Fd)
    (clear zb; subst Ff)
    split at he <;> cases he
    obtain ⟨_,rfl,rfl⟩:=ra.isInt; obtain ⟨_,rfl,rfl⟩:=rb.isInt
    exact xL (by assumption) hQ
  | fdiv=>
    replace he:=dm he
    revert he; intro FM
    refine ay (FM) fun a b Fi Fh he=>?_
    try clear FM
    (clear za; subst Fi)
    (clear zb; subst Fh)
    split at he <;> cases he
    obtain ⟨_,rfl,rfl⟩:=ra.isInt; obtain ⟨_,rfl,rfl⟩:=rb.isInt
    exact tV (by assumption) hQ
  | mod=>
    replace he:=dm he
    revert he; intro GK
    refine ay (GK) fun a b Fm Fr he=>?_
    try clear GK
    (clear za; subst Fm)
    (clear zb; subst Fr)
    split at he <;> cases he
    obtain ⟨_,rfl,rfl⟩:=ra.isInt; obtain ⟨_,rfl,rfl⟩:=rb.isInt
    exact mod_int' (by assumption) (hQ _ _ (.int (.toks s _)))
  | pow=>
    replace he:=dm he
    revert he; intro FS
    refine ay (FS) fun a b Fp Ft he=>?_
    try clear FS
    (clear za; subst Fp)
    (clear zb; subst Ft)
    split at he <;> cases he
    obtain ⟨_,rfl,rfl⟩:=ra.isInt; obtain ⟨_,rfl,rfl⟩:=rb.isInt
    exact wp (by assumption) hQ
  | xor=>
    replace he:=dm he
    revert he; intro GJ
    refine ay (GJ) fun a b Fy FA he=>?_
    try clear GJ
    (clear za; subst Fy)
    (clear zb; subst FA)
    (have oc:=Out.ok.inj he; clear he; subst oc); obtain ⟨_,rfl,rfl⟩:=ra.isInt; obtain ⟨_,rfl,rfl⟩:=rb.isInt
    exact xor_int (hQ _ _ (.int (.toks s _)))
end
end
end Mine
namespace Mine
set_option tactic.hygienic false
set_option linter.unusedVariables false
open PySem PyProof.Rows
set_option linter.unusedSectionVars false
variable [SF:Soft]
section
variable {prog:Program}{w:World}{fns:Fns}{k:Nat}{C:Calls}{XP:String→Shared→Value→Shared→Prop}
variable {va vb:Value}{as bs:List Addr}{A:Around}{P:Addr→Prop}{s:Shared}{Q:Value→Shared→Prop}{Er:Value→Shared→Prop}
theorem Room.units {hb:Bool}{k:Nat}{A:Around} (h:Room hb k A):A.units + 200<cLine:=by
  revert h; intro Gu
  refine aB (Gu) fun uu uu h=>?_
  try clear Gu
  cases hb with
  | true=>rw [if_pos rfl] at h; exact BO h
  | false=>rw [if_neg (by decide)] at h; exact CB h
theorem Room.at {hb:Bool}{k:Nat}{A:Around} (h:Room hb k A) (hf:hb=false):A.depth + 2 * k + 4<recursionLimit∧A.units + 100 * k + 300<cLine:=by
  subst hf; exact h.2
theorem iF {d:PyData}:okc d=true↔d.canLay0=true∧d.depth≤64:=by simp [okc]
theorem lz {vs:List Value}{ns:List Int} (h:IntsAre vs ns):ItemsAre (intKind prog w) ns vs:=by
  induction h with
  | nil=>exact .nil
  | cons n t _ ih=>exact .cons (intKind_is prog w n t) ih
theorem dT {h:Heap}{v:Value}{x:PyData}{as:List Addr}{ks:List Int} (r:R h v x as) (e:dj x=some ks):∃ a,v = .ref a∧IsTupleKey (intKind prog w) h ks a:=by
  cases r with
  | tuple ea ra=>
    refine aB (ra.ints e) fun hi _ _=>?_
    exact (ag _ rfl (fx _ _ _ ea rfl rfl (by simpa using lz hi)))
  | _=>exact nN e
theorem nQ {h:Heap}{v:Value}{x:PyData}{as:List Addr}{ks:List Int} (r:R h v x as) (e:dj x=some ks):R h v (aL ks) []:=by
  cases r with
  | tuple ea ra=>
    refine aB (ra.ints e) fun uu E5 E6=>?_
    subst E5
    (clear e; subst E6)
    exact .tuple ea ra
  | _=>exact nN e
theorem iq {K:Type} [DecidableEq K] (xs:List (K × Addr × Value)) (k:K):(atKey xs k).isSome=decide (k∈xs.map (·.1)):=by
  unfold atKey
  rw [Option.isSome_map]
  induction xs with
  | nil=>rfl
  | cons x xs ih=>
    by_cases hk:x.1=k
    · simp [hk]
    · rw [List.find?_cons,show decide (x.1=k)=false from decide_eq_false hk]
      dsimp only
      rw [ih,List.map_cons]
      simp [List.mem_cons,Ne.symm hk]
theorem ku (ks:List Int) (k:Int):(valueAt (ks.map fun k=>(k,Value.bool true)) k).isSome=decide (k∈ks):=by
  unfold valueAt
  rw [Option.isSome_map]
  induction ks with
  | nil=>rfl
  | cons x xs ih=>
    by_cases hk:x=k
    · simp [hk]
    · rw [List.map_cons,List.find?_cons]
      simp only [hk,decide_false,List.mem_cons,Ne.symm hk,false_or]
      exact ih
theorem wl {x:PyData}{c:V}{b:Bool} (hu:A.units + 200<cLine) (he:inV x c = .ok b) (ra:R s.heap va x as) (rb:RV prog w s.heap vb c bs)
    (hQ:∀ s',Kp s s'→Q (.bool b) s'):wpAny (model prog w) A (compareOp .In va vb) Q Er s:=by
  cases c with
  | d y=>
    replace he:=aD he
    revert he; intro GM
    refine aa (GM) fun xs hy he=>?_
    try clear GM
    cases ce hy
    split at he <;> cases he
    rename_i h1
    simp only [Bool.and_eq_true,iF] at h1
    refine aB (h1) fun E7 b1 b2=>?_
    try clear h1
    refine ae (E7) fun a1 a2=>?_
    try clear E7
    simp only [PyData.canLay0,PyData.depth] at b1 b2
    exact SeqAt.in_list_reads rb.1.reads ra.reads b1 a1 (by have:=Nat.min_le_left (PyData.depthAll ‹_›) x.depth; exact vK hu b2) (hQ s (.refl s))
  | dicI ks=>
    replace he:=aD he
    revert he; intro FN
    refine aa (FN) fun i hi he=>?_
    try clear FN
    (have oc:=Out.ok.inj he; clear he; subst oc)
    refine bG (rb) fun a E8 _ lo hd=>?_
    try clear rb
    subst E8
    cases cy hi
    refine aa (ra.isInt) fun uu E9 Fa=>?_
    (clear ra; subst E9)
    subst Fa
    refine wpAny_in_of (intKind_is prog w _ _) lo hd.mapOf ?_
    rw [ku]
    exact hQ _ (.toks s _)
  | dicT ks=>
    replace he:=aD he
    revert he; intro FM
    refine aa (FM) fun i hi he=>?_
    try clear FM
    (have oc:=Out.ok.inj he; clear he; subst oc)
    refine vY (rb) fun a xs Fb _ lo hd Fc _=>?_
    try clear rb
    subst Fb
    subst Fc
    refine aa (dT (prog:=prog) (w:=w) ra hi) fun a' Fd hk=>?_
    (clear ra; subst Fd)
    refine wpAny_in_heap (tupleKind_room_in1 (by exact vC hu)) hk lo hd ?_
    rw [iq]
    exact Eq.mp (congrArg (fun b=>Q (.bool b) _) (decide_eq_decide.mpr Iff.rfl)) (hQ _ (.toks s _))
  | dic0=>
    replace he:(if (dK x).isSome || (dj x).isSome then Out.ok false else .bad) = .ok b:=he
    split at he <;> cases he
    rename_i h1
    refine iC (rb) fun a Ff _ lo hd hd'=>?_
    try clear rb
    subst Ff
    cases h2:dK x with
    | some i=>
      cases cy h2
      refine aa (ra.isInt) fun uu Fi Fh=>?_
      (clear ra; subst Fi)
      subst Fh
      exact wpAny_in_of (intKind_is prog w _ _) lo hd.mapOf (hQ _ (.toks s _))
    | none=>
      rw [h2] at h1
      refine ai (Option.isSome_iff_exists.mp (by simpa using h1)) fun i hi=>?_
      refine aa (dT (prog:=prog) (w:=w) ra hi) fun a' Fm hk=>?_
      (clear ra; subst Fm)
      exact wpAny_in_heap (tupleKind_room_in1 (by exact vC hu)) hk lo hd' (hQ _ (.toks s _))
  | rule _ _ _=>exact nB he
theorem m0 {o:COp}{op:CmpOp}{x y:V}{b:Bool} (hu:A.units + 200<cLine) (ho:opC o op=true) (he:bM o x y = .ok b) (ra:RV prog w s.heap va x as) (rb:RV prog w s.heap vb y bs)
    (hQ:∀ s',Kp s s'→Q (.bool b) s'):wpAny (model prog w) A (compareOp op va vb) Q Er s:=by
  cases of_decide_eq_true ho
  cases o with
  | eq=>
    replace he:=fq he
    revert he; intro FL
    refine ay (FL) fun x y Fr Fp he=>?_
    try clear FL
    subst Fr
    subst Fp
    split at he <;> cases he
    rename_i h1
    simp only [Bool.and_eq_true,iF] at h1
    refine aB (h1) fun Ft b1 b2=>?_
    try clear h1
    refine ae (Ft) fun a1 a2=>?_
    try clear Ft
    exact SeqAt.compareEq_reads ra.1.reads rb.1.reads a1 b1 (by have:=Nat.min_le_left x.depth y.depth; exact uV hu a2) (hQ s (.refl s))
  | ne=>
    replace he:=fq he
    revert he; intro Hr
    refine ay (Hr) fun x y Fy FA he=>?_
    try clear Hr
    subst Fy
    subst FA
    split at he <;> cases he
    rename_i h1
    simp only [Bool.and_eq_true,iF] at h1
    refine aB (h1) fun FC b1 b2=>?_
    try clear h1
    refine ae (FC) fun a1 a2=>?_
    try clear FC
    exact SeqAt.compareNe_reads ra.1.reads rb.1.reads a1 b1 (by have:=Nat.min_le_left x.depth y.depth; exact uV hu a2) (hQ s (.refl s))
  | lt=>
    replace he:=fq he
    revert he; intro G6
    refine ay (G6) fun x y FE FH he=>?_
    try clear G6
    subst FE
    subst FH
    replace he:=dm he
    revert he; intro F7
    refine ay (F7) fun i j FZ FW he=>?_
    try clear F7
    subst FZ
    subst FW
    (have oc:=Out.ok.inj he; clear he; subst oc); obtain ⟨_,rfl,rfl⟩:=ra.1.isInt; obtain ⟨_,rfl,rfl⟩:=rb.1.isInt
    exact lt_int (hQ s (.refl s))
  | gt=>
    replace he:=fq he
    revert he; intro Gs
    refine ay (Gs) fun x y F8 Gz he=>?_
    try clear Gs
    subst F8
    subst Gz
    replace he:=dm he
    revert he; intro Hu
    refine ay (Hu) fun i j Gi Gn he=>?_
    try clear Hu
    subst Gi
    subst Gn
    (have oc:=Out.ok.inj he; clear he; subst oc); obtain ⟨_,rfl,rfl⟩:=ra.1.isInt; obtain ⟨_,rfl,rfl⟩:=rb.1.isInt
    exact gt_int (hQ s (.refl s))
  | ge=>
    replace he:=fq he
    revert he; intro Gx
    refine ay (Gx) fun x y Gj GO he=>?_
    try clear Gx
    subst Gj
    subst GO
    replace he:=dm he
    revert he; intro GD
    refine ay (GD) fun i j Gp GF he=>?_
    try clear GD
    subst Gp
    subst GF
    (have oc:=Out.ok.inj he; clear he; subst oc); obtain ⟨_,rfl,rfl⟩:=ra.1.isInt; obtain ⟨_,rfl,rfl⟩:=rb.1.isInt
    exact ge_int (hQ s (.refl s))
  | isin=>
    replace he:=aD he
    revert he; intro Hh
    refine aa (Hh) fun x hx he=>?_
    try clear Hh
    cases cL hx
    exact wl hu he ra.1 rb hQ
  | notin=>
    replace he:=fq he
    revert he; intro Hs
    refine ay (Hs) fun kx y F9 Gm he=>?_
    try clear Hs
    subst F9
    subst Gm
    refine aa (Out.bind_ok he) fun b' h1 h2=>?_
    (have oc:=Out.ok.inj h2; clear h2; (clear he; subst oc))
    replace h1:=aD h1
    revert h1; intro G1
    refine aa (G1) fun xs hy h1=>?_
    try clear G1
    cases ce hy
    split at h1 <;> cases h1
    rename_i h1
    simp only [Bool.and_eq_true,iF] at h1
    refine aB (h1) fun F4 b1 b2=>?_
    try clear h1
    refine ae (F4) fun a1 a2=>?_
    try clear F4
    simp only [PyData.canLay0,PyData.depth] at b1 b2
    exact SeqAt.notIn_list_reads rb.1.reads ra.1.reads b1 a1 (by have:=Nat.min_le_left (PyData.depthAll xs) kx.depth; exact vK hu b2) (hQ s (.refl s))
  | isnot=>
    replace he:=fq he
    revert he; intro Hb
    refine ay (Hb) fun x y GS GT he=>?_
    try clear Hb
    subst GS
    subst GT
    split at he <;> cases he
    cases xq (by assumption)
    obtain ⟨ra,_⟩:=ra; obtain ⟨rfl,rfl⟩:=rb.1.isNone
    refine isNot_none ?_
    cases ra <;> exact hQ s (.refl s)
end
end Mine
namespace Mine
set_option tactic.hygienic false
set_option linter.unusedVariables false
open PySem PyProof.Rows
set_option linter.unusedSectionVars false
variable [SF:Soft]
section
variable {prog:Program}{w:World}{fns:Fns}{k:Nat}{C:Calls}{XP:String→Shared→Value→Shared→Prop}
theorem EP.shift {P:Addr→Prop}{s s₂ s₃:Shared}{r:V × Mode}{v:Value} (kp:Kp s s₂) (e:EP prog w (fun a=>P a∨s.heap.get? a=none) s₂ r v s₃):EP prog w P s r v s₃:=by
  obtain ⟨k',as,a,b,c,d⟩:=e
  refine ⟨kp.trans k',as,a,fun x hx=>?_,fun hm=>ay (c hm) fun a bs h1 h2 h3=>(aK a bs h1 (kp.none h2) h3),fun hm=>⟨fun x hx=>kp.none ((d hm).1 x hx),(d hm).2⟩⟩
  rcases b x hx with h | h
  · exact h
  · exact .inr (kp.none h)
theorem gk (hXP:∀ c s s₁ x s',Kp s s₁→XP c s₁ x s'→XP c s x s') {a b:E} (Sa:SimE prog w fns k C XP a) (Sb:SimE prog w fns k C XP b)
    {ea eb:Expr}{A:Around}{env:Env}{σ:St}{P:Addr→Prop}{s:Shared}{Er:Value→Shared→Prop}{G:Value→Value→Shared→Prop}{f:V→V→Out (V × Mode)}
    (oa:okE env.scope.names a ea=true) (ob:okE env.scope.names b eb=true) (X:Cx prog w fns k A P s.heap env σ)
    (nb:((ev C a σ).bind fun x=>(ev C b σ).bind fun y=>f x.1 y.1)≠.bad)
    (hE:∀ c,((ev C a σ).bind fun x=>(ev C b σ).bind fun y=>f x.1 y.1) = .exc c→∀ x s',XP c s x s'→Er x s') (hf:∀ x y c,f x y≠.exc c)
    (hG:∀ x y r,((ev C a σ).bind fun x=>(ev C b σ).bind fun y=>f x.1 y.1) = .ok r→f x y = .ok r→∀ va vb s₂ as bs,Kp s s₂→RV prog w s₂.heap va x as→RV prog w s₂.heap vb y bs →
      (∀ a∈as,P a∨s.heap.get? a=none)→(∀ a∈bs,P a∨s.heap.get? a=none)→G va vb s₂) :
    wpAny (model prog w) A (eval ea env) (fun va s₁=>wpAny (model prog w) A (eval eb env) (fun vb s₂=>G va vb s₂) Er s₁) Er s:=by
  refine ae (aq nb) fun n1 n2=>?_
  refine EA hXP Sa Sb oa ob X n1 (fun x hx=>(aq (n2 x hx)).1) (fun c hc=>hE c ?_) fun x y hx hy va vb s₁ s₂ Ea Eb=>?_
  · rcases hc with hc | ⟨x,hx,hc⟩
    · rw [hc]; rfl
    · rw [hx,Out.ok_bind,hc]; rfl
  · have h1:=(aq (n2 x hx)).2 y hy
    cases hr:f x.1 y.1 with
    | bad=>exact absurd hr h1
    | exc c=>exact absurd hr (hf _ _ _)
    | ok r=>
      obtain ⟨ka,as,ra,ha,_⟩:=Ea
      obtain ⟨kb,bs,rb,hb,_⟩:=Eb
      exact hG x.1 y.1 r (by rw [hx,Out.ok_bind,hy,Out.ok_bind]; exact hr) hr va vb s₂ as bs (ka.trans kb) (ra.k kb.k) rb ha fun z hz=>(hb z hz).imp id ka.none
theorem uj {o:BOp}{x y:PyData}{c:String}:cT o x y≠.exc c:=wV c
theorem mD {o:COp}{x y:V}{c:String}:bM o x y≠.exc c:=xJ c
theorem xi {ns:List (Str × NameKind)}{o:BOp}{a b:E}{ex:Expr} (h:okE ns (.bin o a b) ex=true):∃ l op r p,ex = .BinOp l op r p∧opB o op=true∧okE ns a l=true∧okE ns b r=true:=by
  replace h:=Cu h
  revert h; refine fun Fj=>Or.elim Fj (fun Fe=>?_) (fun h=>?_)
  · clear Fj
    refine bP (Fe) fun FK FR Ga FX FO h=>?_
    clear Fe
    subst FO
    simp only [Bool.and_eq_true] at h
    exact (gG _ _ _ _ rfl h.1.1 h.1.2 h.2)
  · cases h
theorem om (hXP:∀ c s s₁ x s',Kp s s₁→XP c s₁ x s'→XP c s x s') {o:BOp}{a b:E} (Sa:SimE prog w fns k C XP a) (Sb:SimE prog w fns k C XP b):SimE prog w fns k C XP (.bin o a b):=by
  intro ex A env σ P s Q Er ok X nb hQ hE
  refine bI (xi ok) fun l op r p E5 ho oa ob=>?_
  (clear ok; subst E5)
  simp only [kE] at nb hQ hE
  refine wpAny_BinOp (gk hXP Sa Sb (f:=fun x y=>match x,y with | .d x,.d y=>cT o x y | _,_=>.bad) oa ob X nb hE (fun x y c=>?_) fun x y r hr hf va vb s₂ as bs kp ra rb ha hb=>?_)
  · split
    · exact uj
    · simp
  · split at hf
    · exact tw ho hf ra.1 ra.2 rb.1 rb.2 ha hb fun v s' e=>hQ r hr v s' (.shift kp e)
    · exact nB hf
theorem nY {ns:List (Str × NameKind)}{o:COp}{a b:E}{ex:Expr} (h:okE ns (.cmp o a b) ex=true):∃ l op r p,ex = .Compare l [op] [r] p∧opC o op=true∧okE ns a l=true∧okE ns b r=true:=by
  replace h:=zJ h
  revert h; refine fun Fk=>Or.elim Fk (fun Fg=>?_) (fun h=>?_)
  · clear Fk
    refine bP (Fg) fun FT F5 F0 FU GU h=>?_
    clear Fg
    subst GU
    simp only [Bool.and_eq_true] at h
    exact (gG _ _ _ _ rfl h.1.1 h.1.2 h.2)
  · cases h
theorem xz {ns:List (Str × NameKind)}{e:E}{es:List Expr}{n:Nat}{p:Pos}:okE ns e (.Set es n p)=false:=by cases e <;> rfl
theorem mI {ns:List (Str × NameKind)}{e:E}{op:CmpOp}{x:Expr} (h:okE ns e x=true):behindInMarks op x=false:=by
  cases x <;> first | rfl | (rw [xz] at h; cases h)
theorem oB (hXP:∀ c s s₁ x s',Kp s s₁→XP c s₁ x s'→XP c s x s') {o:COp}{a b:E} (Sa:SimE prog w fns k C XP a) (Sb:SimE prog w fns k C XP b):SimE prog w fns k C XP (.cmp o a b):=by
  intro ex A env σ P s Q Er ok X nb hQ hE
  refine bI (nY ok) fun l op r p E6 ho oa ob=>?_
  (clear ok; subst E6)
  simp only [fW] at nb hQ hE
  refine wpAny_Compare1 (gk hXP Sa Sb (f:=fun x y=>(bM o x y).bind fun b=>.ok (sB b)) oa ob X nb hE (fun x y c h=>?_) fun x y r hr hf va vb s₂ as bs kp ra rb ha hb=>?_) (mI ob)
  · rcases bq h with h | ⟨_,_,h⟩
    · exact mD h
    · cases h
  · refine aa (Out.bind_ok hf) fun t h1 h2=>?_
    (have oc:=Out.ok.inj h2; clear h2; (clear hf; subst oc))
    exact m0 X.room.units ho h1 ra rb fun s' e=>hQ _ hr _ s' (.bool (kp.trans e))
theorem mn (hXP:∀ c s s₁ x s',Kp s s₁→XP c s₁ x s'→XP c s x s') {o:COp}{a b:E} (Sa:SimE prog w fns k C XP a) (Sb:SimE prog w fns k C XP b):SimT prog w fns k C XP (.cmp o a b):=by
  intro ex A env σ P s Q Er ok X nb hQ hE
  refine bI (nY ok) fun l op r p E7 ho oa ob=>?_
  (clear ok; subst E7)
  have nb':=(aq nb).1
  have hQ':∀ r,ev C (.cmp o a b) σ = .ok r→∀ b,au r.1 = .ok b→∀ s',Kp s s'→Q b s':=fun r hr t ht=>hQ t (by rw [hr]; exact ht)
  simp only [fW] at nb' hQ' hE
  refine wpAny_isTrue_Compare1 (gk hXP Sa Sb (f:=fun x y=>(bM o x y).bind fun b=>.ok (sB b)) oa ob X nb' hE (fun x y c h=>?_) fun x y r hr hf va vb s₂ as bs kp ra rb ha hb=>?_) (mI ob)
  · rcases bq h with h | ⟨_,_,h⟩
    · exact mD h
    · cases h
  · refine aa (Out.bind_ok hf) fun t h1 h2=>?_
    (have oc:=Out.ok.inj h2; clear h2; (clear hf; subst oc))
    exact m0 X.room.units ho h1 ra rb fun s' e=>wpAny_truthy_bool (hQ' _ hr _ rfl s' (kp.trans e))
theorem xu {a:E} (Sa:SimE prog w fns k C XP a):SimE prog w fns k C XP (.neg a):=by
  intro ex A env σ P s Q Er ok X nb hQ hE
  replace ok:=we ok
  revert ok; refine fun Fq=>Or.elim Fq (fun Fl=>?_) (fun ok=>?_)
  · clear Fq
    refine av (Fl) fun GI GL Gw ok=>?_
    clear Fl
    subst Gw
    simp only [kC] at nb hQ hE
    refine ae (aq nb) fun n1 n2=>?_
    refine wpAny_UnaryOp (Sa ok X n1 (fun x hx va s₁ Ea=>?_) fun c hc=>hE c (by rw [hc]; rfl))
    have n3:=n2 x hx
    obtain ⟨ka,as,ra,_⟩:=Ea
    obtain ⟨x,m⟩:=x
    dsimp only at n3 ra
    split at n3
    · refine aa (ra.1.isInt) fun uu E8 E9=>?_
      (clear ra; subst E8)
      subst E9
      exact neg_int (hQ _ (by rw [hx]; rfl) _ _ (.int (ka.trans (.toks s₁ _))))
    · exact absurd rfl n3
  · cases ok
theorem pO {e:E} (S:SimE prog w fns k C XP e) (hp:∀ ns ex env (t:Sem Value),okE ns e ex=true→isTrue ex env t=(do let v ← t; standAt ex.pos; holding [v] (truthy v))):SimT prog w fns k C XP e:=by
  intro ex A env σ P s Q Er ok X nb hQ hE
  refine wpAny_isTrue_value (S ok X (aq nb).1 (fun r hr v s' E=>?_) hE) (hp _ _ _ _ ok)
  have n2:=(aq nb).2 r hr
  obtain ⟨x,m⟩:=r
  dsimp only at n2
  unfold au at n2
  split at n2
  · obtain ⟨ke,as,Fa,_⟩:=E
    refine ae (Fa) fun re _=>?_
    try clear Fa
    refine ae (re.isBool) fun Fb Fc=>?_
    (clear re; subst Fb)
    subst Fc
    exact wpAny_truthy_bool (hQ _ (by rw [hr]; rfl) _ ke)
  · exact absurd rfl n2
theorem nW {ns:List (Str × NameKind)}{a:E}{ex:Expr} (h:okE ns (.not a) ex=true):∃ x p,ex = .UnaryOp .Not x p∧okE ns a x=true:=by
  replace h:=AN h
  revert h; refine fun Fx=>Or.elim Fx (fun Fo=>?_) (fun h=>?_)
  · clear Fx
    refine av (Fo) fun GR GX Ge h=>?_
    clear Fo
    subst Ge
    exact (az _ _ rfl h)
  · cases h
theorem oL {a:E} (Sa:SimE prog w fns k C XP a):SimE prog w fns k C XP (.not a):=by
  intro ex A env σ P s Q Er ok X nb hQ hE
  refine av (nW ok) fun x p Fd oa=>?_
  (clear ok; subst Fd)
  simp only [f9] at nb hQ hE
  refine ae (aq nb) fun n1 n2=>?_
  refine wpAny_UnaryOp (Sa oa X n1 (fun x hx va s₁ Ea=>?_) fun c hc=>hE c (by rw [hc]; rfl))
  have n3:=(aq (n2 x hx)).1
  obtain ⟨ka,as,ra,_⟩:=Ea
  obtain ⟨x,m⟩:=x
  dsimp only at n3 ra
  unfold au at n3
  split at n3
  · refine ae (ra.1.isBool) fun Ff Fi=>?_
    (clear ra; subst Ff)
    subst Fi
    exact not_value (wpAny_truthy_bool (hQ _ (by rw [hx]; rfl) _ _ (.bool ka)))
  · exact absurd rfl n3
theorem mw {a:E} (Sa:SimT prog w fns k C XP a):SimT prog w fns k C XP (.not a):=by
  intro ex A env σ P s Q Er ok X nb hQ hE
  refine av (nW ok) fun x p Fh oa=>?_
  (clear ok; subst Fh)
  have e:((ev C (.not a) σ).bind fun r=>au r.1)=((ev C a σ).bind fun r=>au r.1).bind fun b=>.ok (!b):=by
    simp only [f9]
    cases ev C a σ with
    | ok r=>simp only [Out.ok_bind]; cases au r.1 <;> rfl
    | exc c=>rfl
    | bad=>rfl
  rw [e] at nb hQ
  refine wpAny_isTrue_Not (Sa oa X (aq nb).1 (fun b hb s' kp=>hQ (!b) (by rw [hb]; rfl) s' kp) fun c hc=>hE c (by simp only [f9]; rw [hc]; rfl))
end
end Mine
namespace Mine
set_option tactic.hygienic false
set_option linter.unusedVariables false
open PySem PyProof.Rows
set_option linter.unusedSectionVars false
variable [SF:Soft]
section
variable (prog:Program) (w:World) (fns:Fns) (k:Nat) (C:Calls) (XP:String→Shared→Value→Shared→Prop)
noncomputable def SimA (e:E):Prop:=∀ {vs:List Expr}{pos:Pos}{A:Around}{env:Env}{σ:St}{P:Addr→Prop}{s:Shared}{Q:Value→Shared→Prop}{Er:Value→Shared→Prop},
  okA' env.scope.names e vs=true→Cx prog w fns k A P s.heap env σ→((ev C e σ).bind fun r=>au r.1)≠.bad →
  (∀ b,((ev C e σ).bind fun r=>au r.1) = .ok b→∀ s',Kp s s'→Q (.bool b) s')→(∀ c,ev C e σ = .exc c→∀ x s',XP c s x s'→Er x s') →
  wpAny (model prog w) A (boolOp pos .And (evalEach vs env)) Q Er s
noncomputable def SimTA (e:E):Prop:=∀ {vs:List Expr}{A:Around}{env:Env}{σ:St}{P:Addr→Prop}{s:Shared}{Q:Bool→Shared→Prop}{Er:Value→Shared→Prop},
  okA' env.scope.names e vs=true→Cx prog w fns k A P s.heap env σ→((ev C e σ).bind fun r=>au r.1)≠.bad →
  (∀ b,((ev C e σ).bind fun r=>au r.1) = .ok b→∀ s',Kp s s'→Q b s')→(∀ c,ev C e σ = .exc c→∀ x s',XP c s x s'→Er x s') →
  wpAny (model prog w) A (allTrue .And vs env) Q Er s
noncomputable def SimO (e:E):Prop:=∀ {vs:List Expr}{pos:Pos}{A:Around}{env:Env}{σ:St}{P:Addr→Prop}{s:Shared}{Q:Value→Shared→Prop}{Er:Value→Shared→Prop},
  okO' env.scope.names e vs=true→Cx prog w fns k A P s.heap env σ→((ev C e σ).bind fun r=>au r.1)≠.bad →
  (∀ b,((ev C e σ).bind fun r=>au r.1) = .ok b→∀ s',Kp s s'→Q (.bool b) s')→(∀ c,ev C e σ = .exc c→∀ x s',XP c s x s'→Er x s') →
  wpAny (model prog w) A (boolOp pos .Or (evalEach vs env)) Q Er s
noncomputable def SimTO (e:E):Prop:=∀ {vs:List Expr}{A:Around}{env:Env}{σ:St}{P:Addr→Prop}{s:Shared}{Q:Bool→Shared→Prop}{Er:Value→Shared→Prop},
  okO' env.scope.names e vs=true→Cx prog w fns k A P s.heap env σ→((ev C e σ).bind fun r=>au r.1)≠.bad →
  (∀ b,((ev C e σ).bind fun r=>au r.1) = .ok b→∀ s',Kp s s'→Q b s')→(∀ c,ev C e σ = .exc c→∀ x s',XP c s x s'→Er x s') →
  wpAny (model prog w) A (allTrue .Or vs env) Q Er s
end
section
variable {prog:Program}{w:World}{fns:Fns}{k:Nat}{C:Calls}{XP:String→Shared→Value→Shared→Prop}
theorem sX {P:Addr→Prop}{s s':Shared}{r:V × Mode}{v:Value}{t:Bool} (E:EP prog w P s r v s') (h:au r.1 = .ok t):v = .bool t∧Kp s s':=by
  obtain ⟨x,m⟩:=r
  dsimp only at h
  unfold au at h
  split at h
  · (have oc:=Out.ok.inj h; clear h; subst oc)
    obtain ⟨ke,as,E5,_⟩:=E
    refine ae (E5) fun re _=>?_
    try clear E5
    cases re
    exact ⟨rfl,ke⟩
  · exact nB h
theorem kW {v:V}{c:String}:au v≠.exc c:=by unfold au; split <;> simp
theorem qj {e:E} (S:SimE prog w fns k C XP e) {ex:Expr}{A:Around}{env:Env}{σ:St}{P:Addr→Prop}{s:Shared}{Q:Value→Shared→Prop}{Er:Value→Shared→Prop}
    (ok:okE env.scope.names e ex=true) (X:Cx prog w fns k A P s.heap env σ) (nb:((ev C e σ).bind fun r=>au r.1)≠.bad)
    (hQ:∀ b,((ev C e σ).bind fun r=>au r.1) = .ok b→∀ s',Kp s s'→Q (.bool b) s') (hE:∀ c,ev C e σ = .exc c→∀ x s',XP c s x s'→Er x s'):wpAny (model prog w) A (eval ex env) Q Er s:=by
  refine ae (aq nb) fun n1 n2=>?_
  refine S ok X n1 (fun r hr v s' E=>?_) hE
  cases ht:au r.1 with
  | bad=>exact absurd ht (n2 r hr)
  | exc c=>exact absurd ht kW
  | ok t=>
    refine ae (sX E ht) fun E6 kp=>?_
    (clear E; subst E6)
    exact hQ t (by rw [hr]; exact ht) s' kp
theorem jt {M:Model}{A:Around}{pos:Pos}{op:BoolOp}{x:Sem Value}{Q:Value→Shared→Prop}{E:Value→Shared→Prop}{s:Shared} (h:wpAny M A x Q E s):wpAny M A (boolOp pos op [x]) Q E s:=h
theorem pe {M:Model}{A:Around}{pos:Pos}{x y:Sem Value}{r:List (Sem Value)}{Q:Value→Shared→Prop}{E:Value→Shared→Prop}{s:Shared}
    (h:wpAny M A x (fun v s₁=>wpAny M A (truthy v) (fun t s₂=>if t then wpAny M A (boolOp pos .And (y :: r)) Q E s₂ else Q v s₂) E s₁) E s):wpAny M A (boolOp pos .And (x :: y :: r)) Q E s:=by
  rw [boolOp]
  · refine wpAny_bind (wpAny_mono h (fun v s₁ h₁=>wpAny_bind (wpAny_standAt (wpAny_bind (wpAny_holding (wpAny_mono h₁ (fun t s₂ h₂=>?_) fun uu uu e=>e))))) fun uu uu e=>e)
    cases t with
    | false=>exact wpAny_pure h₂
    | true=>exact h₂
  · simp
theorem qB {M:Model}{A:Around}{pos:Pos}{x y:Sem Value}{r:List (Sem Value)}{Q:Value→Shared→Prop}{E:Value→Shared→Prop}{s:Shared}
    (h:wpAny M A x (fun v s₁=>wpAny M A (truthy v) (fun t s₂=>if t then Q v s₂ else wpAny M A (boolOp pos .Or (y :: r)) Q E s₂) E s₁) E s):wpAny M A (boolOp pos .Or (x :: y :: r)) Q E s:=by
  rw [boolOp]
  · refine wpAny_bind (wpAny_mono h (fun v s₁ h₁=>wpAny_bind (wpAny_standAt (wpAny_bind (wpAny_holding (wpAny_mono h₁ (fun t s₂ h₂=>?_) fun uu uu e=>e))))) fun uu uu e=>e)
    cases t with
    | false=>exact h₂
    | true=>exact wpAny_pure h₂
  · simp
theorem okA'_inv {ns:List (Str × NameKind)}{b:E}{vs:List Expr} (h:okA' ns b vs=true):(∃ u,vs=[u]∧okE ns b u=true)∨okA ns b vs=true:=by
  unfold okA' at h
  cases e:bN vs with
  | some u=>rw [e] at h; exact .inl (ag u (be e) h)
  | none=>rw [e] at h; exact .inr h
theorem okA'_ne {ns:List (Str × NameKind)}{b:E}{vs:List Expr} (h:okA' ns b vs=true):∃ y r,vs=y :: r:=by
  cases vs with
  | nil=>cases b <;> exact Bool.noConfusion (show false=true from h)
  | cons y r=>exact (bn y r rfl)
theorem okO'_inv {ns:List (Str × NameKind)}{b:E}{vs:List Expr} (h:okO' ns b vs=true):(∃ u,vs=[u]∧okE ns b u=true)∨okO ns b vs=true:=by
  unfold okO' at h
  cases e:bN vs with
  | some u=>rw [e] at h; exact .inl (ag u (be e) h)
  | none=>rw [e] at h; exact .inr h
theorem okO'_ne {ns:List (Str × NameKind)}{b:E}{vs:List Expr} (h:okO' ns b vs=true):∃ y r,vs=y :: r:=by
  cases vs with
  | nil=>cases b <;> exact Bool.noConfusion (show false=true from h)
  | cons y r=>exact (bn y r rfl)
theorem k8 (a b:E) (σ:St):((ev C (.and a b) σ).bind fun r=>au r.1)=((ev C a σ).bind fun r=>au r.1).bind fun t=>if t then (ev C b σ).bind fun r=>au r.1 else .ok false:=by
  simp only [fR]
  cases ev C a σ with
  | ok r=>
    simp only [Out.ok_bind]
    cases au r.1 with
    | ok t=>
      cases t with
      | false=>rfl
      | true=>
        simp only [Out.ok_bind,if_true]
        cases ev C b σ with
        | ok q=>simp only [Out.ok_bind]; cases au q.1 <;> rfl
        | exc c=>rfl
        | bad=>rfl
    | exc c=>rfl
    | bad=>rfl
  | exc c=>rfl
  | bad=>rfl
theorem nl (a b:E) (σ:St):((ev C (.or a b) σ).bind fun r=>au r.1)=((ev C a σ).bind fun r=>au r.1).bind fun t=>if t then .ok true else (ev C b σ).bind fun r=>au r.1:=by
  simp only [g7]
  cases ev C a σ with
  | ok r=>
    simp only [Out.ok_bind]
    cases au r.1 with
    | ok t=>
      cases t with
      | true=>rfl
      | false=>
        simp only [Out.ok_bind,Bool.false_eq_true,if_false]
        cases ev C b σ with
        | ok q=>simp only [Out.ok_bind]; cases au q.1 <;> rfl
        | exc c=>rfl
        | bad=>rfl
    | exc c=>rfl
    | bad=>rfl
  | exc c=>rfl
  | bad=>rfl
theorem oz {a b:E}{σ:St}{r:V × Mode} (h:ev C (.and a b) σ = .ok r):∃ t,r=sB t:=by
  simp only [fR] at h
  refine aa (Out.bind_ok h) fun x _ h=>?_
  refine aa (Out.bind_ok h) fun t _ h=>?_
  cases t with
  | false=>exact ⟨false,by simpa using h.symm⟩
  | true=>
    simp only [if_true] at h
    refine aa (Out.bind_ok h) fun y _ h=>?_
    refine aa (Out.bind_ok h) fun u _ h=>?_
    (have oc:=Out.ok.inj h; clear h; subst oc); exact ⟨u,rfl⟩
theorem r4 {a b:E}{σ:St}{r:V × Mode} (h:ev C (.or a b) σ = .ok r):∃ t,r=sB t:=by
  simp only [g7] at h
  refine aa (Out.bind_ok h) fun x _ h=>?_
  refine aa (Out.bind_ok h) fun t _ h=>?_
  cases t with
  | true=>exact ⟨true,by simpa using h.symm⟩
  | false=>
    simp only [Bool.false_eq_true,if_false] at h
    refine aa (Out.bind_ok h) fun y _ h=>?_
    refine aa (Out.bind_ok h) fun u _ h=>?_
    (have oc:=Out.ok.inj h; clear h; subst oc); exact ⟨u,rfl⟩
theorem cN {o:Out (V × Mode)}{c:String} (h:(o.bind fun r=>au r.1) = .exc c):o = .exc c:=by
  rcases bq h with h | ⟨_,_,h⟩
  · exact h
  · exact absurd h kW
section
variable (hXP:∀ c s s₁ x s',Kp s s₁→XP c s₁ x s'→XP c s x s')
include hXP
theorem xU {a b:E} (Sa:SimE prog w fns k C XP a) (Ab:SimA prog w fns k C XP b) {v:Expr}{vs:List Expr}{pos:Pos}{A:Around}{env:Env}{σ:St}{P:Addr→Prop}{s:Shared}{Q:Value→Shared→Prop}{Er:Value→Shared→Prop}
    (oa:okE env.scope.names a v=true) (ob:okA' env.scope.names b vs=true) (X:Cx prog w fns k A P s.heap env σ) (nb:((ev C (.and a b) σ).bind fun r=>au r.1)≠.bad)
    (hQ:∀ t,((ev C (.and a b) σ).bind fun r=>au r.1) = .ok t→∀ s',Kp s s'→Q (.bool t) s') (hE:∀ c,ev C (.and a b) σ = .exc c→∀ x s',XP c s x s'→Er x s') :
    wpAny (model prog w) A (boolOp pos .And (evalEach (v :: vs) env)) Q Er s:=by
  refine aY (okA'_ne ob) fun y r E7=>?_
  subst E7
  have hE':∀ c,((ev C (.and a b) σ).bind fun r=>au r.1) = .exc c→∀ x s',XP c s x s'→Er x s':=fun c h=>hE c (cN h)
  rw [k8] at nb hQ hE'
  refine ae (aq nb) fun n1 n2=>?_
  refine pe (qj Sa oa X n1 (fun t ht s₁ k₁=>wpAny_truthy_bool ?_) fun c hc=>hE' c (by rw [hc]; rfl))
  cases t with
  | false=>exact hQ false (by rw [ht]; rfl) s₁ k₁
  | true=>
    have n3:=n2 true ht
    simp only [if_true] at n3 ⊢
    refine Ab ob (X.k k₁.k) n3 (fun t ht' s₂ k₂=>hQ t (by rw [ht]; simpa using ht') s₂ (k₁.trans k₂)) fun c hc x s' hx=>hE' c (by rw [ht]; simp [hc]) x s' (hXP c s s₁ x s' k₁ hx)
theorem orL {a b:E} (Sa:SimE prog w fns k C XP a) (Ab:SimO prog w fns k C XP b) {v:Expr}{vs:List Expr}{pos:Pos}{A:Around}{env:Env}{σ:St}{P:Addr→Prop}{s:Shared}{Q:Value→Shared→Prop}{Er:Value→Shared→Prop}
    (oa:okE env.scope.names a v=true) (ob:okO' env.scope.names b vs=true) (X:Cx prog w fns k A P s.heap env σ) (nb:((ev C (.or a b) σ).bind fun r=>au r.1)≠.bad)
    (hQ:∀ t,((ev C (.or a b) σ).bind fun r=>au r.1) = .ok t→∀ s',Kp s s'→Q (.bool t) s') (hE:∀ c,ev C (.or a b) σ = .exc c→∀ x s',XP c s x s'→Er x s') :
    wpAny (model prog w) A (boolOp pos .Or (evalEach (v :: vs) env)) Q Er s:=by
  refine aY (okO'_ne ob) fun y r E8=>?_
  subst E8
  have hE':∀ c,((ev C (.or a b) σ).bind fun r=>au r.1) = .exc c→∀ x s',XP c s x s'→Er x s':=fun c h=>hE c (cN h)
  rw [nl] at nb hQ hE'
  refine ae (aq nb) fun n1 n2=>?_
  refine qB (qj Sa oa X n1 (fun t ht s₁ k₁=>wpAny_truthy_bool ?_) fun c hc=>hE' c (by rw [hc]; rfl))
  cases t with
  | true=>exact hQ true (by rw [ht]; rfl) s₁ k₁
  | false=>
    have n3:=n2 false ht
    simp only [Bool.false_eq_true,if_false] at n3 ⊢
    refine Ab ob (X.k k₁.k) n3 (fun t ht' s₂ k₂=>hQ t (by rw [ht]; simpa using ht') s₂ (k₁.trans k₂)) fun c hc x s' hx=>hE' c (by rw [ht]; simp [hc]) x s' (hXP c s s₁ x s' k₁ hx)
theorem wc {a b:E} (Sa:SimT prog w fns k C XP a) (Ab:SimTA prog w fns k C XP b) {v:Expr}{vs:List Expr}{A:Around}{env:Env}{σ:St}{P:Addr→Prop}{s:Shared}{Q:Bool→Shared→Prop}{Er:Value→Shared→Prop}
    (oa:okE env.scope.names a v=true) (ob:okA' env.scope.names b vs=true) (X:Cx prog w fns k A P s.heap env σ) (nb:((ev C (.and a b) σ).bind fun r=>au r.1)≠.bad)
    (hQ:∀ t,((ev C (.and a b) σ).bind fun r=>au r.1) = .ok t→∀ s',Kp s s'→Q t s') (hE:∀ c,ev C (.and a b) σ = .exc c→∀ x s',XP c s x s'→Er x s') :
    wpAny (model prog w) A (allTrue .And (v :: vs) env) Q Er s:=by
  have hE':∀ c,((ev C (.and a b) σ).bind fun r=>au r.1) = .exc c→∀ x s',XP c s x s'→Er x s':=fun c h=>hE c (cN h)
  rw [k8] at nb hQ hE'
  refine ae (aq nb) fun n1 n2=>?_
  refine wpAny_allTrue_And_cons (Sa oa X n1 (fun t ht s₁ k₁=>?_) fun c hc=>hE' c (by rw [hc]; rfl))
  cases t with
  | false=>exact hQ false (by rw [ht]; rfl) s₁ k₁
  | true=>
    have n3:=n2 true ht
    simp only [if_true] at n3 ⊢
    refine Ab ob (X.k k₁.k) n3 (fun t ht' s₂ k₂=>hQ t (by rw [ht]; simpa using ht') s₂ (k₁.trans k₂)) fun c hc x s' hx=>hE' c (by rw [ht]; simp [hc]) x s' (hXP c s s₁ x s' k₁ hx)
theorem yy {a b:E} (Sa:SimT prog w fns k C XP a) (Ab:SimTO prog w fns k C XP b) {v:Expr}{vs:List Expr}{A:Around}{env:Env}{σ:St}{P:Addr→Prop}{s:Shared}{Q:Bool→Shared→Prop}{Er:Value→Shared→Prop}
    (oa:okE env.scope.names a v=true) (ob:okO' env.scope.names b vs=true) (X:Cx prog w fns k A P s.heap env σ) (nb:((ev C (.or a b) σ).bind fun r=>au r.1)≠.bad)
    (hQ:∀ t,((ev C (.or a b) σ).bind fun r=>au r.1) = .ok t→∀ s',Kp s s'→Q t s') (hE:∀ c,ev C (.or a b) σ = .exc c→∀ x s',XP c s x s'→Er x s') :
    wpAny (model prog w) A (allTrue .Or (v :: vs) env) Q Er s:=by
  have hE':∀ c,((ev C (.or a b) σ).bind fun r=>au r.1) = .exc c→∀ x s',XP c s x s'→Er x s':=fun c h=>hE c (cN h)
  rw [nl] at nb hQ hE'
  refine ae (aq nb) fun n1 n2=>?_
  refine wpAny_allTrue_Or_cons (Sa oa X n1 (fun t ht s₁ k₁=>?_) fun c hc=>hE' c (by rw [hc]; rfl))
  cases t with
  | true=>exact hQ true (by rw [ht]; rfl) s₁ k₁
  | false=>
    have n3:=n2 false ht
    simp only [Bool.false_eq_true,if_false] at n3 ⊢
    refine Ab ob (X.k k₁.k) n3 (fun t ht' s₂ k₂=>hQ t (by rw [ht]; simpa using ht') s₂ (k₁.trans k₂)) fun c hc x s' hx=>hE' c (by rw [ht]; simp [hc]) x s' (hXP c s s₁ x s' k₁ hx)
theorem oC {ns:List (Str × NameKind)}{a b:E}{ex:Expr} (h:okE ns (.and a b) ex=true):∃ v vs p,ex = .BoolOp .And (v :: vs) p∧okE ns a v=true∧okA' ns b vs=true:=by
  replace h:=Bw h
  revert h; refine fun Fj=>Or.elim Fj (fun Fe=>?_) (fun h=>?_)
  · clear Fj
    refine ba (Fe) fun FK FR Ga Gv h=>?_
    clear Fe
    subst Gv
    simp only [Bool.and_eq_true] at h
    exact (cu _ _ _ rfl h.1 h.2)
  · cases h
theorem qK {ns:List (Str × NameKind)}{a b:E}{ex:Expr} (h:okE ns (.or a b) ex=true):∃ v vs p,ex = .BoolOp .Or (v :: vs) p∧okE ns a v=true∧okO' ns b vs=true:=by
  replace h:=Eh h
  revert h; refine fun Fk=>Or.elim Fk (fun Fg=>?_) (fun h=>?_)
  · clear Fk
    refine ba (Fg) fun Go FT F5 Gg h=>?_
    clear Fg
    subst Gg
    simp only [Bool.and_eq_true] at h
    exact (cu _ _ _ rfl h.1 h.2)
  · cases h
theorem wD {a b:E} (Sa:SimE prog w fns k C XP a) (Ab:SimA prog w fns k C XP b):SimE prog w fns k C XP (.and a b):=by
  intro ex A env σ P s Q Er ok X nb hQ hE
  refine aS (oC hXP ok) fun v vs p E9 oa ob=>?_
  (clear ok; subst E9)
  rw [arm_eval_BoolOp]
  refine xU hXP Sa Ab oa ob X (fun h=>?_) (fun t ht s' kp=>?_) hE
  · cases e:ev C (.and a b) σ with
    | ok r=>rw [e] at h; obtain ⟨t,rfl⟩:=oz e; cases h
    | exc c=>rw [e] at h; cases h
    | bad=>exact nb e
  · refine aa (Out.bind_ok ht) fun r hr ht=>?_
    refine ai (oz hr) fun u Fa=>?_
    subst Fa
    (have oc:=Out.ok.inj ht; clear ht; subst oc)
    exact hQ _ hr _ s' (.bool kp)
theorem yp {a b:E} (Sa:SimE prog w fns k C XP a) (Ab:SimO prog w fns k C XP b):SimE prog w fns k C XP (.or a b):=by
  intro ex A env σ P s Q Er ok X nb hQ hE
  refine aS (qK hXP ok) fun v vs p Fb oa ob=>?_
  (clear ok; subst Fb)
  rw [arm_eval_BoolOp]
  refine orL hXP Sa Ab oa ob X (fun h=>?_) (fun t ht s' kp=>?_) hE
  · cases e:ev C (.or a b) σ with
    | ok r=>rw [e] at h; obtain ⟨t,rfl⟩:=r4 e; cases h
    | exc c=>rw [e] at h; cases h
    | bad=>exact nb e
  · refine aa (Out.bind_ok ht) fun r hr ht=>?_
    refine ai (r4 hr) fun u Fc=>?_
    subst Fc
    (have oc:=Out.ok.inj ht; clear ht; subst oc)
    exact hQ _ hr _ s' (.bool kp)
theorem uK {a b:E} (Sa:SimT prog w fns k C XP a) (Ab:SimTA prog w fns k C XP b):SimT prog w fns k C XP (.and a b):=by
  intro ex A env σ P s Q Er ok X nb hQ hE
  refine aS (oC hXP ok) fun v vs p Fd oa ob=>?_
  (clear ok; subst Fd)
  exact wpAny_isTrue_BoolOp (wc hXP Sa Ab oa ob X nb hQ hE)
theorem wN {a b:E} (Sa:SimT prog w fns k C XP a) (Ab:SimTO prog w fns k C XP b):SimT prog w fns k C XP (.or a b):=by
  intro ex A env σ P s Q Er ok X nb hQ hE
  refine aS (qK hXP ok) fun v vs p Ff oa ob=>?_
  (clear ok; subst Ff)
  exact wpAny_isTrue_BoolOp (yy hXP Sa Ab oa ob X nb hQ hE)
end
theorem iV {e:E} (S:SimE prog w fns k C XP e) (h:∀ {vs:List Expr}{pos:Pos}{A:Around}{env:Env}{σ:St}{P:Addr→Prop}{s:Shared}{Q:Value→Shared→Prop}{Er:Value→Shared→Prop},
    okA env.scope.names e vs=true→Cx prog w fns k A P s.heap env σ→((ev C e σ).bind fun r=>au r.1)≠.bad →
    (∀ b,((ev C e σ).bind fun r=>au r.1) = .ok b→∀ s',Kp s s'→Q (.bool b) s')→(∀ c,ev C e σ = .exc c→∀ x s',XP c s x s'→Er x s')→wpAny (model prog w) A (boolOp pos .And (evalEach vs env)) Q Er s):SimA prog w fns k C XP e:=by
  intro vs pos A env σ P s Q Er ok X nb hQ hE
  replace ok:=okA'_inv ok
  revert ok; refine fun Fq=>Or.elim Fq (fun Fl=>?_) (fun ok=>?_)
  · clear Fq
    refine aa (Fl) fun FU GU ok=>?_
    clear Fl
    subst GU
    exact jt (qj S ok X nb hQ hE)
  · exact h ok X nb hQ hE
theorem ja {e:E} (S:SimE prog w fns k C XP e) (h:∀ {vs:List Expr}{pos:Pos}{A:Around}{env:Env}{σ:St}{P:Addr→Prop}{s:Shared}{Q:Value→Shared→Prop}{Er:Value→Shared→Prop},
    okO env.scope.names e vs=true→Cx prog w fns k A P s.heap env σ→((ev C e σ).bind fun r=>au r.1)≠.bad →
    (∀ b,((ev C e σ).bind fun r=>au r.1) = .ok b→∀ s',Kp s s'→Q (.bool b) s')→(∀ c,ev C e σ = .exc c→∀ x s',XP c s x s'→Er x s')→wpAny (model prog w) A (boolOp pos .Or (evalEach vs env)) Q Er s):SimO prog w fns k C XP e:=by
  intro vs pos A env σ P s Q Er ok X nb hQ hE
  replace ok:=okO'_inv ok
  revert ok; refine fun Fx=>Or.elim Fx (fun Fo=>?_) (fun ok=>?_)
  · clear Fx
    refine aa (Fo) fun GI Gb ok=>?_
    clear Fo
    subst Gb
    exact jt (qj S ok X nb hQ hE)
  · exact h ok X nb hQ hE
theorem ic {e:E} (S:SimT prog w fns k C XP e) (h:∀ {vs:List Expr}{A:Around}{env:Env}{σ:St}{P:Addr→Prop}{s:Shared}{Q:Bool→Shared→Prop}{Er:Value→Shared→Prop},
    okA env.scope.names e vs=true→Cx prog w fns k A P s.heap env σ→((ev C e σ).bind fun r=>au r.1)≠.bad →
    (∀ b,((ev C e σ).bind fun r=>au r.1) = .ok b→∀ s',Kp s s'→Q b s')→(∀ c,ev C e σ = .exc c→∀ x s',XP c s x s'→Er x s')→wpAny (model prog w) A (allTrue .And vs env) Q Er s):SimTA prog w fns k C XP e:=by
  intro vs A env σ P s Q Er ok X nb hQ hE
  replace ok:=okA'_inv ok
  revert ok; refine fun Fu=>Or.elim Fu (fun Fs=>?_) (fun ok=>?_)
  · clear Fu
    refine aa (Fs) fun GB Gc ok=>?_
    clear Fs
    subst Gc
    refine wpAny_allTrue_And_cons (S ok X nb (fun t ht s' kp=>?_) hE)
    cases t with
    | false=>exact hQ _ ht s' kp
    | true=>exact wpAny_allTrue_And_nil (hQ _ ht s' kp)
  · exact h ok X nb hQ hE
theorem ik {e:E} (S:SimT prog w fns k C XP e) (h:∀ {vs:List Expr}{A:Around}{env:Env}{σ:St}{P:Addr→Prop}{s:Shared}{Q:Bool→Shared→Prop}{Er:Value→Shared→Prop},
    okO env.scope.names e vs=true→Cx prog w fns k A P s.heap env σ→((ev C e σ).bind fun r=>au r.1)≠.bad →
    (∀ b,((ev C e σ).bind fun r=>au r.1) = .ok b→∀ s',Kp s s'→Q b s')→(∀ c,ev C e σ = .exc c→∀ x s',XP c s x s'→Er x s')→wpAny (model prog w) A (allTrue .Or vs env) Q Er s):SimTO prog w fns k C XP e:=by
  intro vs A env σ P s Q Er ok X nb hQ hE
  replace ok:=okO'_inv ok
  revert ok; refine fun FF=>Or.elim FF (fun Fz=>?_) (fun ok=>?_)
  · clear FF
    refine aa (Fz) fun GX Ge ok=>?_
    clear Fz
    subst Ge
    refine wpAny_allTrue_Or_cons (S ok X nb (fun t ht s' kp=>?_) hE)
    cases t with
    | false=>exact wpAny_allTrue_Or_nil (hQ _ ht s' kp)
    | true=>exact hQ _ ht s' kp
  · exact h ok X nb hQ hE
end
end Mine
namespace Mine
set_option tactic.hygienic false
set_option linter.unusedVariables false
open PySem PyProof.Rows
set_option linter.unusedSectionVars false
variable [SF:Soft]
section
variable {prog:Program}{w:World}{fns:Fns}{k:Nat}{C:Calls}{XP:String→Shared→Value→Shared→Prop}
theorem EP.aList {P:Addr→Prop}{s s':Shared}{a:Addr}{n:Nat}{xs:List PyData}{vs:List Value}{as:List Addr} (kp:Kp s s') (hn:s.heap.get? a=none)
    (ha:s'.heap.get? a=some ⟨.type "list", none,.seq vs.toArray n,#[]⟩) (r:RA s'.heap vs xs as) (hl:xs.length≤2 ^ 22) (hz:∀ x∈xs,sz x=true) (hP:∀ b∈as,P b∧b≠a) :
    EP prog w P s (.d (.list xs),fresh xs) (.ref a) s':=by
  refine ⟨kp,a :: as,⟨.list ha r,sz_list.mpr ⟨hl,hz⟩⟩,?_,?_,?_⟩
  · intro b h
    rcases List.mem_cons.mp h with rfl | h
    · exact .inr hn
    · exact .inl (hP b h).1
  · intro _
    exact (aK _ _ rfl hn (fun h=>(hP a h).2 rfl))
  · intro hm
    have hall:xs.all sx=true:=by
      unfold fresh at hm; dsimp only at hm; split at hm
      · assumption
      · cases hm
    rw [r.sx_nil hall]
    refine ⟨fun b h=>?_,by simp⟩
    rcases List.mem_cons.mp h with rfl | h
    · exact hn
    · cases h
theorem R.isList {h:Heap}{v:Value}{xs:List PyData}{as:List Addr} (r:R h v (.list xs) as):∃ a vs n bs,v = .ref a∧h.get? a=some ⟨.type "list", Option.none,.seq vs.toArray n,#[]⟩∧RA h vs xs bs∧as=a :: bs:=by
  cases r with
  | list e r=>exact (gG _ _ _ _ rfl e r rfl)
theorem R.isTup {h:Heap}{v:Value}{xs:List PyData}{as:List Addr} (r:R h v (.tuple xs) as):∃ a vs n,v = .ref a∧h.get? a=some ⟨.type "tuple", Option.none,.seq vs.toArray n,#[]⟩∧RA h vs xs as:=by
  cases r with
  | tuple e r=>exact (cu _ _ _ rfl e r)
theorem isL {h:Heap}{a:Addr}{vs:List Value}{n:Nat} (e:h.get? a=some ⟨.type "list", none,.seq vs.toArray n,#[]⟩):h.IsList a vs.toArray:=(aA _ e rfl (bl n rfl))
theorem qH {ns:List (Str × NameKind)}{e:E}{a b c:Option Expr}{p:Pos}:okE ns e (.Slice a b c p)=false:=by cases e <;> rfl
theorem nP {ns:List (Str × NameKind)}{e:E}{a:Expr}{p:Pos}:okE ns e (.Starred a p)=false:=by cases e <;> rfl
theorem iL {ns:List (Str × NameKind)}{e:E}{x:Expr} (h:okE ns e x=true) (o i:Value):subscripted x false o i=operate [o,i] (getItem o i):=by
  cases x <;> first | rfl | (rw [qH] at h; cases h)
theorem aF {ns:List (Str × NameKind)}{e:E}{x:Expr} (h:okE ns e x=true) (rest:List Expr) (env:Env):starEach (x :: rest) env=(false,eval x env) :: starEach rest env:=by
  cases x <;> first | rfl | (rw [nP] at h; cases h)
section
variable {va vb:Value}{as bs:List Addr}{A:Around}{P:Addr→Prop}{s:Shared}{Q:Value→Shared→Prop}{Er:Value→Shared→Prop}
theorem Bj {y:PyData}{v:Value} (r:R s.heap v y bs) (z:sz y=true) (h:∀ b∈bs,P b):EP prog w P s (mk (.d y)) v s:=pi (x:=.d y) ⟨r,z⟩ h
def Aa (h:Heap) (v:Value) (i:Int) (u:Value):Prop:=∃ (a:Addr) (T:String) (vs:List Value) (n k:Nat),v = .ref a∧h.get? a=some ⟨.type T,none,.seq vs.toArray n,#[]⟩∧bF i vs.length=some k∧vs[k]? = some u
theorem eI {i:Int}{n k:Nat} (h:bF i n=some k):(0≤i∧i<n∧k=i.toNat)∨(i<0∧-(n:Int)≤i∧k=(i + n).toNat):=by
  unfold bF at h
  by_cases h0:0≤i
  · rw [if_pos h0] at h
    by_cases h1:i<n
    · rw [if_pos h1] at h; exact .inl ⟨h0,h1,(Option.some.inj h).symm⟩
    · rw [if_neg h1] at h; exact nN h
  · rw [if_neg h0] at h
    by_cases h1:-(n:Int)≤i
    · rw [if_pos h1] at h; exact .inr ⟨by exact zx h0,h1,(Option.some.inj h).symm⟩
    · rw [if_neg h1] at h; exact nN h
theorem tu {value slice:Expr}{a:Addr}{vs:List Value}{n k:Nat}{i:Int}{t:Tok}{v:Value} (hs:∀ o i,subscripted slice false o i=operate [o,i] (getItem o i)) (ea:s.heap.get? a=some ⟨.type "list", none,.seq vs.toArray n,#[]⟩) (hl:vs.length≤2 ^ 22)
    (hk:bF i vs.length=some k) (hv:vs[k]? = some v) (hQ:Q v s):wpAny (model prog w) A (subscriptTail value slice (.ref a) (.int i t)) Q Er s:=by
  rcases eI hk with ⟨h0,h1,rfl⟩ | ⟨h0,h1,rfl⟩
  · exact tail_any (isL ea).typeIs slot_list_getitem.lookup (wpAny_getItem_list (isL ea) h0 (by exact Ay hl h1) (by simpa using hv) hQ) (hs _ _)
  · refine tail_any (isL ea).typeIs slot_list_getitem.lookup (wpAny_getItem_list_neg (isL ea) h0 (by rw [List.size_toArray]; exact h1) (by exact zS hl h1) ?_ hQ) (hs _ _)
    rw [List.size_toArray]
    simpa using hv
theorem xc {value slice:Expr}{a:Addr}{vs:List Value}{n k:Nat}{i:Int}{t:Tok}{v:Value} (hs:∀ o i,subscripted slice false o i=operate [o,i] (getItem o i)) (ea:s.heap.get? a=some ⟨.type "tuple", none,.seq vs.toArray n,#[]⟩) (hl:vs.length≤2 ^ 22)
    (hk:bF i vs.length=some k) (hv:vs[k]? = some v) (hQ:Q v s):wpAny (model prog w) A (subscriptTail value slice (.ref a) (.int i t)) Q Er s:=by
  have hj:seqIndex? i (vs.toArray).size=some k:=by
    rw [List.size_toArray]
    rcases eI hk with ⟨h0,h1,rfl⟩ | ⟨h0,h1,rfl⟩
    · have h3:¬ i<0:=by exact BK h0
      simp [seqIndex?,h3,h0,h1]
    · exact seqIndex_neg h0 h1
  have hb:-(2 ^ 22)≤i∧i<2 ^ 22:=by rcases eI hk with ⟨h0,h1,_⟩ | ⟨h0,h1,_⟩ <;> lia
  exact tail_any (ag _ ea rfl) slot_tuple_getitem.lookup (PySem.P.getItem_tuple ea (by exact CJ hb) (by exact Cq hb) hj (by simpa using hv) hQ) (hs _ _)
theorem uA {value slice:Expr}{x y:PyData}{i:Int}{t:Tok} (hs:∀ o i,subscripted slice false o i=operate [o,i] (getItem o i)) (he:oM x i=some y) (ra:R s.heap va x as) (za:sz x=true)
    (hQ:∀ v ds,Aa s.heap va i v→R s.heap v y ds→sz y=true→(∀ b∈ds,b∈as)→Q v s):wpAny (model prog w) A (subscriptTail value slice va (.int i t)) Q Er s:=by
  unfold oM at he
  cases hx:asL x with
  | some xs=>
    rw [hx] at he
    cases ce hx
    refine aa (Option.bind_eq_some_iff.mp he) fun k hk hy=>?_
    refine bI (ra.isList) fun a vs n cs E5 ea ra' E6=>?_
    (clear ra; subst E5)
    subst E6
    refine ay (ra'.get hy) fun v ds hv rv hd=>?_
    have hz:=sz_list.mp za
    have hl:=ra'.length
    rw [← hl] at hk hz
    exact tu hs ea hz.1 hk hv (hQ v ds (oN a _ vs n k rfl ea hk hv) rv (hz.2 y (List.mem_of_getElem? hy)) fun b hb=>.tail _ (hd b hb))
  | none=>
    rw [hx] at he
    cases ht:asT x with
    | none=>rw [ht] at he; exact nN he
    | some xs=>
      rw [ht] at he
      cases jX ht
      refine aa (Option.bind_eq_some_iff.mp he) fun k hk hy=>?_
      refine aS (ra.isTup) fun a vs n E7 ea ra'=>?_
      (clear ra; subst E7)
      refine ay (ra'.get hy) fun v ds hv rv hd=>?_
      have hz:=sz_tuple.mp za
      have hl:=ra'.length
      rw [← hl] at hk hz
      exact xc hs ea hz.1 hk hv (hQ v ds (oN a _ vs n k rfl ea hk hv) rv (hz.2 y (List.mem_of_getElem? hy)) hd)
theorem tC {value slice:Expr}{x i:PyData}{r:V × Mode} (hs:∀ o i,subscripted slice false o i=operate [o,i] (getItem o i)) (he:d6 x i = .ok r) (ra:R s.heap va x as) (za:sz x=true) (rb:R s.heap vb i bs) (ha:∀ a∈as,P a)
    (hQ:∀ v s',EP prog w P s r v s'→Q v s'):wpAny (model prog w) A (subscriptTail value slice va vb) Q Er s:=by
  refine aa (aD he) fun k hk he=>?_
  refine aa (aD he) fun y hy he=>?_
  (have oc:=Out.ok.inj he; clear he; subst oc)
  cases cy hk
  refine aa (rb.isInt) fun uu E8 E9=>?_
  (clear rb; subst E8)
  subst E9
  exact uA hs hy ra za fun v ds _ rv z hd=>hQ v s (Bj rv z fun b hb=>ha b (hd b hb))
end
theorem s7 {x y:PyData}{c:String}:d6 x y≠.exc c:=ww c
theorem oK (hXP:∀ c s s₁ x s',Kp s s₁→XP c s₁ x s'→XP c s x s') {a b:E} (Sa:SimE prog w fns k C XP a) (Sb:SimE prog w fns k C XP b):SimE prog w fns k C XP (.sub a b):=by
  intro ex A env σ P s Q Er ok X nb hQ hE
  replace ok:=zE ok
  revert ok; refine fun Fj=>Or.elim Fj (fun Fe=>?_) (fun ok=>?_)
  · clear Fj
    refine ba (Fe) fun FK FR Ga Gv ok=>?_
    clear Fe
    subst Gv
    simp only [Bool.and_eq_true] at ok
    simp only [iD] at nb hQ hE
    refine Subscript_ (gk hXP Sa Sb (f:=fun x y=>match x,y with | .d x,.d y=>d6 x y | _,_=>.bad) ok.1 ok.2 X nb hE (fun x y c=>?_) fun x y r hr hf va vb s₂ as bs kp ra rb ha hb=>?_)
    · split
      · exact s7
      · simp
    · split at hf
      · exact tC (iL ok.2) hf ra.1 ra.2 rb.1 ha fun v s' e=>hQ r hr v s' (.shift kp e)
      · exact nB hf
  · cases ok
theorem fS {M:Model}{A:Around}{env:Env}{e:Expr}{Q:Value→Shared→Prop}{E:Value→Shared→Prop}{s:Shared} (h:wpAny M A (eval e env) Q E s):wpAny M A (evalPart (some e) env) Q E s:=by rw [evalPart_some]; exact h
theorem cK {M:Model}{A:Around}{env:Env}{Q:Value→Shared→Prop}{E:Value→Shared→Prop}{s:Shared} (h:Q .none s):wpAny M A (evalPart none env) Q E s:=by rw [evalPart_none]; exact wpAny_pure h
section
variable {va vl vu vt:Value}{as bs:List Addr}{A:Around}{P:Addr→Prop}{s:Shared}{Q:Value→Shared→Prop}{Er:Value→Shared→Prop}
theorem jP {value slice:Expr}{xs ys:List PyData}{lo hi st:Option Int} (hs:∃ ops:Value→Value→List Value,∀ o i,subscripted slice false o i=operate (ops o i) (getItem o i)) (ra:R s.heap va (.list xs) as) (za:sz (.list xs)=true) (ha:∀ a∈as,P a)
    (pl:IsPart vl lo) (pu:IsPart vu hi) (pt:IsPart vt st) (h0:st≠some 0) (hy:∀ vs cs,RA s.heap vs xs cs→∃ ws ds,slicePick vs.toArray lo hi st=ws.toArray∧RA s.heap ws ys ds∧∀ b∈ds,b∈cs) (hz:∀ y∈ys,sz y=true) (hl:ys.length≤2 ^ 22)
    (hQ:∀ v s',EP prog w P s (.d (.list ys),fresh ys) v s'→Q v s') :
    wpAny (model prog w) A (subscriptTail value slice va (.ref s.heap.objs.size)) Q Er { s with heap:=s.heap.push { cls:=.type "slice", data:=.fields #[vl,vu,vt] } }:=by
  refine bI (ra.isList) fun a vs n cs Fa ea ra' Fb=>?_
  (clear ra; subst Fa)
  subst Fb
  refine ay (hy vs cs ra') fun ws ds e1 rw' hd=>?_
  revert hs; intro FS
  refine ai (FS) fun ops hs=>?_
  try clear FS
  have hlen:=(sz_list.mp za).1
  have e2:=ra'.length
  refine tail_any ((isL ea).push _).typeIs slot_list_getitem.lookup (wpAny_getItem_list_slice ((isL ea).push _) (Heap.IsSliceOf.new ..) pl pu pt h0 ?_ (by rw [List.size_toArray]; unfold sizeLine; exact vp hlen e2)) (hs _ _)
  rw [e1]
  refine hQ _ _ (EP.aList (n:=0) (as:=ds) ((Kp.push s _ s.toks).trans (Kp.push _ _ s.toks)) ?_ (Heap.get?_push_size _ rfl) ((rw'.keep fun uu uu e=>Heap.get?_push_of_some _ e).keep fun uu uu e=>Heap.get?_push_of_some _ e) hl hz fun b hb=>⟨ha b (.tail _ (hd b hb)),?_⟩)
  · exact Heap.get?_none_of_le (by simp)
  · refine aY (rw'.there b hb) fun uu uu e=>?_
    have h1:=Heap.lt_size e
    intro q
    have h2:b=s.heap.objs.size + 1:=q.trans (Heap.size_push ..)
    rw [h2] at h1
    exact Nat.not_lt.mpr (Nat.le_succ _) h1
end
theorem sr {x y:PyData}{c:String}:gE x y≠.exc c:=by unfold gE; split <;> (try split) <;> simp
theorem tj {x y:PyData}{c:String}:gr x y≠.exc c:=by unfold gr; split <;> (try split) <;> simp
set_option tactic.hygienic true in
theorem wm (hXP:∀ c s s₁ x s',Kp s s₁→XP c s₁ x s'→XP c s x s') {a b:E} (Sa:SimE prog w fns k C XP a) (Sb:SimE prog w fns k C XP b):SimE prog w fns k C XP (.slo a b):=by
  intro ex A env σ P s Q Er ok X nb hQ hE
  replace ok:=Bv ok
  revert ok; refine fun Fk=>Or.elim Fk (fun Fg=>?_) (fun ok=>?_)
  · clear Fk
    refine bP (Fg) fun v l p pos GC ok=>?_
    clear Fg
    subst GC
    simp only [Bool.and_eq_true] at ok
    simp only [kq] at nb hQ hE
    have main:=gk hXP Sa Sb (f:=fun x y=>match x,y with | .d x,.d y=>gE x y | _,_=>.bad) (G:=fun va vb s₂=>wpAny (model prog w) A (subscriptTail v (.Slice (some l) none none p) va (.ref s₂.heap.objs.size)) Q Er
        { s₂ with heap:=s₂.heap.push { cls:=.type "slice", data:=.fields #[vb,.none,.none] } }) ok.1 ok.2 X nb hE (fun x y c=>by split; exact sr; simp) fun x y r hr hf va vb s₂ as bs kp ra rb ha hb=>by
      split at hf
      · unfold gE at hf
        split at hf
        · split at hf <;> cases hf
          rename_i xs i hi
          revert rb; intro Ha
          refine ae (Ha) fun rb _=>?_
          try clear Ha
          refine aa (rb.isInt) fun uu Fc Fd=>?_
          (clear rb; subst Fc)
          subst Fd
          refine jP (lo:=some i) (hi:=none) (st:=none) ⟨fun o i=>[i,o],fun uu uu=>rfl⟩ ra.1 ra.2 ha (.int _ _) .none .none (by simp) (fun vs cs r=>?_) (fun y hy=>(sz_list.mp ra.2).2 y (List.mem_of_mem_drop hy)) (by have:=(sz_list.mp ra.2).1; rw [List.length_drop]; exact zQ this) fun v s' e=>hQ _ hr v s' (.shift kp e)
          refine aa (r.drop i.toNat) fun ds rd hd=>?_
          refine (aK _ ds ?_ rd hd)
          have:=slicePick_from' vs.toArray i.toNat
          rw [Int.toNat_of_nonneg hi.1] at this
          exact this
        · exact nB hf
      · exact nB hf
    exact Subscript_ (wpAny_mono main (fun o s₁ h₁=>wpAny_Slice (fS (wpAny_mono h₁ (fun vb s₂ h₂=>cK (cK h₂)) fun uu uu e=>e))) fun uu uu e=>e)
  · cases ok
set_option tactic.hygienic true in
theorem xF (hXP:∀ c s s₁ x s',Kp s s₁→XP c s₁ x s'→XP c s x s') {a b:E} (Sa:SimE prog w fns k C XP a) (Sb:SimE prog w fns k C XP b):SimE prog w fns k C XP (.shi a b):=by
  intro ex A env σ P s Q Er ok X nb hQ hE
  replace ok:=BE ok
  revert ok; refine fun Fq=>Or.elim Fq (fun Fl=>?_) (fun ok=>?_)
  · clear Fq
    refine bP (Fl) fun v l p pos Gc ok=>?_
    clear Fl
    subst Gc
    simp only [Bool.and_eq_true] at ok
    simp only [kn] at nb hQ hE
    have main:=gk hXP Sa Sb (f:=fun x y=>match x,y with | .d x,.d y=>gr x y | _,_=>.bad) (G:=fun va vb s₂=>wpAny (model prog w) A (subscriptTail v (.Slice none (some l) none p) va (.ref s₂.heap.objs.size)) Q Er
        { s₂ with heap:=s₂.heap.push { cls:=.type "slice", data:=.fields #[.none,vb,.none] } }) ok.1 ok.2 X nb hE (fun x y c=>by split; exact tj; simp) fun x y r hr hf va vb s₂ as bs kp ra rb ha hb=>by
      split at hf
      · unfold gr at hf
        split at hf
        · split at hf <;> cases hf
          rename_i xs i hi
          revert rb; intro FL
          refine ae (FL) fun rb _=>?_
          try clear FL
          refine aa (rb.isInt) fun uu Ff Fi=>?_
          (clear rb; subst Ff)
          subst Fi
          refine jP (lo:=none) (hi:=some i) (st:=none) ⟨fun o i=>[i,o],fun uu uu=>rfl⟩ ra.1 ra.2 ha .none (.int _ _) .none (by simp) (fun vs cs r=>?_) (fun y hy=>(sz_list.mp ra.2).2 y (List.mem_of_mem_take hy)) (by have:=(sz_list.mp ra.2).1; rw [List.length_take]; exact CN this) fun v s' e=>hQ _ hr v s' (.shift kp e)
          refine aa (r.take i.toNat) fun ds rd hd=>?_
          refine (aK _ ds ?_ rd hd)
          have:=slicePick_upto' vs.toArray i.toNat
          rw [Int.toNat_of_nonneg hi.1] at this
          exact this
        · exact nB hf
      · exact nB hf
    exact Subscript_ (wpAny_mono main (fun o s₁ h₁=>wpAny_Slice (cK (fS (wpAny_mono h₁ (fun vb s₂ h₂=>cK h₂) fun uu uu e=>e)))) fun uu uu e=>e)
  · cases ok
end
end Mine
namespace Mine
set_option tactic.hygienic false
set_option linter.unusedVariables false
open PySem PyProof.Rows
set_option linter.unusedSectionVars false
variable [SF:Soft]
section
variable (prog:Program) (w:World) (fns:Fns) (k:Nat) (C:Calls) (XP:String→Shared→Value→Shared→Prop)
noncomputable def ej (es:Es):Prop:=∀ {xs:List Expr}{pos:Pos}{A:Around}{env:Env}{σ:St}{P:Addr→Prop}{s:Shared}{Q:List Value→Shared→Prop}{Er:Value→Shared→Prop},
  cw env.scope.names es xs=true→Cx prog w fns k A P s.heap env σ→evs C es σ≠.bad →
  (∀ l,evs C es σ = .ok l→∀ vs s',EPs prog w P s l vs s'→Q vs s')→(∀ c,evs C es σ = .exc c→∀ x s',XP c s x s'→Er x s') →
  wpAny (model prog w) A (spliced (backTo pos (starEach xs env))) Q Er s
end
section
variable {prog:Program}{w:World}{fns:Fns}{k:Nat}{C:Calls}{XP:String→Shared→Value→Shared→Prop}
theorem lc:ej prog w fns k C XP .nil:=by
  intro xs pos A env σ P s Q Er ok X nb hQ hE
  replace ok:=oZ ok
  revert ok; refine fun Fj=>Or.elim Fj (fun Fe=>?_) (fun ok=>?_)
  · clear Fj
    refine ae (Fe) fun HI ok=>?_
    clear Fe
    subst HI
    exact wpAny_items_nil (hQ [] rfl [] s ⟨.refl s,[],.nil,fun uu h=>(nomatch h),fun uu=>⟨fun uu h=>(nomatch h),.nil⟩⟩)
  · cases ok
theorem RV.there {h:Heap}{v:Value}{x:V}{as:List Addr} (r:RV prog w h v x as):∀ a∈as,∃ o,h.get? a=some o:=by
  intro a ha
  cases x with
  | d x=>obtain ⟨_,_,e⟩:=r.1.there a ha; exact ⟨_,e⟩
  | dic0=>obtain ⟨b,_,rfl,_,⟨o,_,_,e,_⟩,_⟩:=r; rw [List.mem_singleton.mp ha]; exact ⟨o,e⟩
  | dicI ks=>obtain ⟨b,_,rfl,_,⟨o,_,_,e,_⟩⟩:=r; rw [List.mem_singleton.mp ha]; exact ⟨o,e⟩
  | dicT ks=>obtain ⟨b,_,_,rfl,_,⟨o,_,_,e,_⟩,_⟩:=r; rw [List.mem_singleton.mp ha]; exact ⟨o,e⟩
  | rule c d n=>
    refine xS (r) fun x D o vf bs t u mA h1 E5 h3 h4 h5 h6 h7 E6 h9=>?_
    try clear r
    subst E5
    refine ba (E6) fun oD es ep e hd=>?_
    try clear E6
    rcases List.mem_cons.mp ha with rfl | ha
    · exact ⟨o,h3⟩
    · rcases List.mem_cons.mp ha with rfl | ha
      · exact ⟨oD,e⟩
      · obtain ⟨_,_,e⟩:=h9.2.2.2.2.1.there a ha; exact ⟨_,e⟩
theorem RVs.length {h:Heap}{xs:List V}{vs:List Value}{as:List Addr} (r:RVs prog w h xs vs as):vs.length=xs.length:=by
  induction r with
  | nil=>rfl
  | cons a q ih=>exact congrArg (· + 1) ih
theorem jA (hXP:∀ c s s₁ x s',Kp s s₁→XP c s₁ x s'→XP c s x s') {e:E}{es:Es} (S:SimE prog w fns k C XP e) (Ss:ej prog w fns k C XP es):ej prog w fns k C XP (.cons e es):=by
  intro xs pos A env σ P s Q Er ok X nb hQ hE
  replace ok:=l9 ok
  revert ok; refine fun Fk=>Or.elim Fk (fun Fg=>?_) (fun ok=>?_)
  · clear Fk
    refine av (Fg) fun x xs Gv ok=>?_
    clear Fg
    subst Gv
    simp only [Bool.and_eq_true] at ok
    simp only [aV] at nb hQ hE
    refine ae (aq nb) fun n1 n2=>?_
    refine wpAny_items_cons (S ok.1 X n1 (fun r hr v s₁ Ea=>?_) fun c hc=>hE c (by rw [hc]; rfl)) (aF ok.1 xs env)
    refine ae (aq (n2 r hr)) fun n3 _=>?_
    refine Ss ok.2 (X.k Ea.keeps.k) n3 (fun l hl vs s₂ Eb=>?_) fun c hc z s' hz=>hE c (by rw [hr,Out.ok_bind,hc]; rfl) z s' (hXP c s s₁ z s' Ea.keeps hz)
    obtain ⟨ka,as,ra,ha,_,hd⟩:=Ea
    obtain ⟨kb,bs,rb,hb,hd'⟩:=Eb
    refine hQ (r :: l) (by rw [hr,Out.ok_bind,hl]; rfl) (v :: vs) s₂ ⟨ka.trans kb,as ++ bs,.cons (ra.k kb.k) rb,fun a h=>(List.mem_append.mp h).elim (ha a) fun h=>(hb a h).imp id ka.none,fun hm=>?_⟩
    simp only [allDeep,List.all_cons,Bool.and_eq_true,decide_eq_true_eq] at hm
    have d1:=hd hm.1
    have d2:=hd' hm.2
    refine ⟨fun a h=>(List.mem_append.mp h).elim (d1.1 a) fun h=>ka.none (d2.1 a h),List.nodup_append.mpr ⟨d1.2,d2.2,fun a h1 b h2 e=>?_⟩⟩
    subst e
    refine ai (ra.there a h1) fun o ho=>?_
    rw [d2.1 a h2] at ho; exact nN ho
  · cases ok
theorem lW {h:Heap}:∀ {l:List (V × Mode)}{ds:List PyData}{vs:List Value}{as:List Addr},bx l=some ds→RVs prog w h (l.map (·.1)) vs as→RA h vs ds as∧∀ x∈ds,sz x=true
  | [],ds,_,_,e,r=>by
    cases r; simp [bx] at e; subst e
    exact ⟨.nil,fun uu h=>nomatch h⟩
  | (.d x,m) :: l,ds,_,_,e,r=>by
    simp only [bx,Option.map_eq_some_iff] at e
    revert e; intro FG
    refine aa (FG) fun es e E7=>?_
    try clear FG
    subst E7
    cases r with
    | cons r q=>
      refine ae (lW e q) fun a b=>?_
      exact ⟨.cons r.1 a,fun y hy=>(List.mem_cons.mp hy).elim (fun q=>q▸r.2) (b y)⟩
  | (.dic0,m) :: l,ds,_,_,e,r=>by simp [bx] at e
  | (.dicI _,m) :: l,ds,_,_,e,r=>by simp [bx] at e
  | (.dicT _,m) :: l,ds,_,_,e,r=>by simp [bx] at e
  | (.rule _ _ _,m) :: l,ds,_,_,e,r=>by simp [bx] at e
theorem fF:∀ {l:List (V × Mode)}{ds:List PyData},bx l=some ds→ds.length=l.length
  | [],ds,e=>by simp [bx] at e; subst e; rfl
  | (.d x,m) :: l,ds,e=>by
    simp only [bx,Option.map_eq_some_iff] at e
    revert e; intro FM
    refine aa (FM) fun es e E8=>?_
    try clear FM
    subst E8
    rw [List.length_cons,List.length_cons,fF e]
  | (.dic0,m) :: l,ds,e=>by simp [bx] at e
  | (.dicI _,m) :: l,ds,e=>by simp [bx] at e
  | (.dicT _,m) :: l,ds,e=>by simp [bx] at e
  | (.rule _ _ _,m) :: l,ds,e=>by simp [bx] at e
theorem gL:∀ {es:Es}{ns:List (Str × NameKind)}{xs:List Expr}{σ:St}{l:List (V × Mode)},cw ns es xs=true→evs C es σ = .ok l→l.length=xs.length
  | .nil,ns,xs,σ,l,ok,e=>by
    replace ok:=oZ ok
    revert ok; refine fun Fq=>Or.elim Fq (fun Fl=>?_) (fun ok=>?_)
    · clear Fq
      refine ae (Fl) fun FO ok=>?_
      clear Fl
      subst FO
      simp only [a9] at e; (have oc:=Out.ok.inj e; clear e; subst oc); rfl
    · cases ok
  | .cons a es,ns,xs,σ,l,ok,e=>by
    replace ok:=l9 ok
    revert ok; refine fun Fx=>Or.elim Fx (fun Fo=>?_) (fun ok=>?_)
    · clear Fx
      refine av (Fo) fun FT F5 Gg ok=>?_
      clear Fo
      subst Gg
      simp only [Bool.and_eq_true] at ok
      simp only [aV] at e
      refine aa (Out.bind_ok e) fun x _ e=>?_
      refine aa (Out.bind_ok e) fun l' e' e=>?_
      (have oc:=Out.ok.inj e; clear e; subst oc)
      rw [List.length_cons,List.length_cons,gL ok.2 e']
    · cases ok
set_option tactic.hygienic true in
theorem mC {es:Es} (Ss:ej prog w fns k C XP es):SimE prog w fns k C XP (.list es):=by
  intro ex A env σ P s Q Er ok X nb hQ hE
  replace ok:=yD ok
  revert ok; refine fun Fu=>Or.elim Fu (fun Fs=>?_) (fun ok=>?_)
  · clear Fu
    refine av (Fs) fun FU FY FQ ok=>?_
    clear Fs
    subst FQ
    simp only [Bool.and_eq_true,decide_eq_true_eq] at ok
    simp only [bU] at nb hQ hE
    refine ae (aq nb) fun n1 n2=>?_
    refine wpAny_List (Ss ok.2 X n1 (fun l hl vs s₁ Ea=>?_) fun c hc=>hE c (by rw [hc]; rfl))
    have n3:=n2 l hl
    split at n3
    · rename_i ds hds
      obtain ⟨ka,as,ra,ha,hd⟩:=Ea
      refine ae (lW hds ra) fun r z=>?_
      have e1:=ra.length
      rw [List.length_map] at e1
      have e2:=gL ok.2 hl
      have e3:=fF hds
      refine ⟨by unfold sizeLine; exact v7 ok e1 e2,hQ (.d (.list ds),if allDeep l then .deep else .top) (by rw [hl,Out.ok_bind,hds]) _ _ ⟨ka.trans (.push s₁ _ _),s₁.heap.objs.size :: as,⟨.list (Heap.get?_push_size _ rfl) (r.keep fun uu uu e=>Heap.get?_push_of_some _ e),sz_list.mpr ⟨by exact wg ok e2 e3,z⟩⟩,?_,?_,?_⟩⟩
      · intro a h
        rcases List.mem_cons.mp h with rfl | h
        · exact .inr (ka.none (a8 _))
        · exact ha a h
      · intro _
        exact (aK _ _ rfl (ka.none (a8 _)) (fun h=>aY (r.there _ h) fun uu uu e=>dF e rfl))
      · intro hm
        have hall:allDeep l=true:=by
          dsimp only at hm
          split at hm
          · assumption
          · cases hm
        refine ⟨fun a h=>?_,List.nodup_cons.mpr ⟨fun h=>aY (r.there _ h) fun uu uu e=>dF e rfl,(hd hall).2⟩⟩
        rcases List.mem_cons.mp h with rfl | h
        · exact ka.none (a8 _)
        · exact (hd hall).1 a h
    · exact absurd rfl n3
  · cases ok
set_option tactic.hygienic true in
theorem wq {es:Es} (Ss:ej prog w fns k C XP es):SimE prog w fns k C XP (.tup es):=by
  intro ex A env σ P s Q Er ok X nb hQ hE
  replace ok:=Ax ok
  revert ok; refine fun FF=>Or.elim FF (fun Fz=>?_) (fun ok=>?_)
  · clear FF
    refine ba (Fz) fun GL GB GR Gf ok=>?_
    clear Fz
    subst Gf
    simp only [Bool.and_eq_true,decide_eq_true_eq] at ok
    simp only [iE] at nb hQ hE
    refine ae (aq nb) fun n1 n2=>?_
    refine wpAny_Tuple (Ss ok.2 X n1 (fun l hl vs s₁ Ea=>?_) fun c hc=>hE c (by rw [hc]; rfl))
    have n3:=n2 l hl
    split at n3
    · rename_i ds hds
      obtain ⟨ka,as,ra,ha,hd⟩:=Ea
      refine ae (lW hds ra) fun r z=>?_
      have e1:=ra.length
      rw [List.length_map] at e1
      have e2:=gL ok.2 hl
      have e3:=fF hds
      refine ⟨by unfold sizeLine; exact v7 ok e1 e2,hQ (.d (.tuple ds),if allDeep l then .deep else .sh) (by rw [hl,Out.ok_bind,hds]) _ _ ⟨ka.trans (.push s₁ _ _),as,⟨.tuple (Heap.get?_push_size _ rfl) (r.keep fun uu uu e=>Heap.get?_push_of_some _ e),sz_tuple.mpr ⟨by exact wg ok e2 e3,z⟩⟩,ha,?_,?_⟩⟩
      · intro hm
        dsimp only at hm
        split at hm <;> cases hm
      · intro hm
        have hall:allDeep l=true:=by
          dsimp only at hm
          split at hm
          · assumption
          · cases hm
        exact hd hall
    · exact absurd rfl n3
  · cases ok
theorem sJ:SimE prog w fns k C XP .edic:=by
  intro ex A env σ P s Q Er ok X nb hQ hE
  replace ok:=yZ ok
  revert ok; refine fun GH=>Or.elim GH (fun GG=>?_) (fun ok=>?_)
  · clear GH
    refine aa (GG) fun G0 Hw ok=>?_
    clear GG
    subst Hw
    have hlo:=modules_low X.ge.nolim
    refine wpAny_Dict_empty (hQ (.dic0,.deep) rfl _ _ ⟨.push s _ _,[s.heap.objs.size],(gy _ rfl rfl (beq_eq_false_iff_ne.mpr (Nat.ne_of_gt hlo)) (Heap.DictOf.new _) ?_),fun a h=>.inr ?_,fun h=>(by cases h),fun uu=>⟨fun a h=>?_,by simp⟩⟩)
    · exact (ez _ (#[]) 0 (Heap.get?_push_size _ rfl) ⟨rfl,rfl,rfl⟩ rfl rfl (fun uu h=>(nomatch h)) .nil)
    · rw [List.mem_singleton.mp h]; exact a8 _
    · rw [List.mem_singleton.mp h]; exact a8 _
  · cases ok
end
end Mine
namespace Mine
set_option tactic.hygienic false
set_option linter.unusedVariables false
open PySem PyProof.Rows
set_option linter.unusedSectionVars false
variable [SF:Soft]
theorem eS {α:Type}{r:α→α→Prop} (anti:∀ a b,r a b→r b a→a=b):∀ {l l':List α},l.Perm l'→l.Pairwise r→l'.Pairwise r→l=l'
  | [],l',p,_,_=>by rw [p.nil_eq]
  | a :: l,[],p,_,_=>by cases p.eq_nil
  | a :: l,b :: l',p,h,h'=>by
    refine ae (List.pairwise_cons.mp h) fun h1 h2=>?_
    refine ae (List.pairwise_cons.mp h') fun h3 h4=>?_
    have e:a=b:=by
      rcases List.mem_cons.mp (p.mem_iff.mp (List.mem_cons_self (a:=a) (l:=l))) with e | e
      · exact e
      · rcases List.mem_cons.mp (p.mem_iff.mpr (List.mem_cons_self (a:=b) (l:=l'))) with e' | e'
        · exact e'.symm
        · exact anti a b (h1 b e') (h3 a e)
    (clear h' h3; subst e)
    rw [eS anti ((List.perm_cons a).mp p) h2 h4]
theorem jW (ns:List Int):(ns.mergeSort (fun a b=>decide (a≤b))).Pairwise (·≤·):=by
  have:=List.pairwise_mergeSort (le:=fun a b:Int=>decide (a≤b)) (fun a b c h1 h2=>by simp at *; exact uO h1 h2) (fun a b=>by simp; exact vd) ns
  exact this.imp (by intro a b h; simpa using h)
theorem kP:∀ {xs:List Int}{m:Int},dA xs=some m→m∈xs∧∀ x∈xs,x≤m
  | [],_,h=>by simp [dA] at h
  | x :: xs,m,h=>by
    simp only [dA,Option.some.injEq] at h
    have key:∀ (l:List Int) (a:Int),(l.foldl (fun a b=>if a<b then b else a) a=a∨l.foldl (fun a b=>if a<b then b else a) a∈l)∧a≤l.foldl (fun a b=>if a<b then b else a) a∧∀ y∈l,y≤l.foldl (fun a b=>if a<b then b else a) a:=by
      intro l
      induction l with
      | nil=>intro a; simp
      | cons b l ih=>
        intro a
        rw [List.foldl_cons]
        refine aB (ih (if a<b then b else a)) fun h1 h2 h3=>?_
        refine ⟨?_,?_,fun y hy=>?_⟩
        · rcases h1 with h1 | h1
          · rw [h1]; split <;> simp
          · exact .inr (.tail _ h1)
        · split at h2 <;> rename_i hc <;> simp only [hc,if_true,if_false] <;> lia
        · rcases List.mem_cons.mp hy with rfl | hy
          · split at h2 <;> rename_i hc <;> simp only [hc,if_true,if_false] <;> lia
          · exact h3 y hy
    refine aB (key xs x) fun h1 h2 h3=>?_
    rw [h] at h1 h2 h3
    exact ⟨h1.elim (fun e=>e▸.head _) (.tail _),fun y hy=>(List.mem_cons.mp hy).elim (fun e=>e▸h2) (h3 y)⟩
section
variable {prog:Program}{w:World}{fns:Fns}{k:Nat}{C:Calls}{XP:String→Shared→Value→Shared→Prop}
theorem eT {env:Env}{x:String} (h:bY env.scope.names x=true):env.kindOf (Str.ofString x)=some .globalImplicit:=by
  unfold bY at h
  exact beq_iff_eq.mp h
theorem nd {x:String} (h:aT x=true):(Str.ofString x == ("__debug__" : Str))=false:=by
  unfold aT at h
  simp only [Bool.and_eq_true,Bool.not_eq_true'] at h
  exact h.1
section
variable {A:Around}{env:Env}{s:Shared}{Q:Value→Shared→Prop}{Er:Value→Shared→Prop}{p pos:Pos}
theorem eJ {id:String}{args:List Expr} (eok:EnvOk env) (ge:GE fns s.heap) (hm:id∈bnames) (hg:bY env.scope.names id=true) (hd:(Str.ofString id == ("__debug__" : Str))=false)
    (h:wpAny (model prog w) A (callWith pos (bval id) [] (backTo pos (starEach args env)) []) Q Er s):wpAny (model prog w) A (eval (.Call (.Name (Str.ofString id) p) args [] pos) env) Q Er s:=by
  refine ao (ge.glob) fun mg g1 _ g3=>?_
  refine aa (ge.blt) fun mb b1 b2=>?_
  exact wpAny_Call_NameR (Calls.Name_function_global eok.kind (eT hg) (Calls.loadGlobal_builtin (eok.glob▸g1) (g3 id hm) (eok.blt▸b1) (b2 id hm) h) hd)
theorem iW {id:String}{x:Expr}{xs:List Expr}{e:E} (ns:List (Str × NameKind)) (hx:okE ns e x=true) (ha:(backTo pos (starEach xs env)).any (·.1)=false)
    (h:wpAny (model prog w) A (spliced (backTo pos (starEach (x :: xs) env))) (fun vs s₁=>wpAny (model prog w) A (call (.builtin id) vs) Q Er s₁) Er s):wpAny (model prog w) A (callWith pos (.builtin id) [] (backTo pos (starEach (x :: xs) env)) []) Q Er s:=by
  rw [aF hx] at h ⊢
  exact Calls.callWith_builtin ha (Calls.evalArgs_plain (wpAny_mono h (fun vs s₁ h₁=>h₁) fun uu uu e=>e))
theorem gN {T:String}{x:Expr}{xs:List Expr}{e:E} (ns:List (Str × NameKind)) (hx:okE ns e x=true) (ha:(backTo pos (starEach xs env)).any (·.1)=false)
    (h:wpAny (model prog w) A (spliced (backTo pos (starEach (x :: xs) env))) (fun vs s₁=>wpAny (model prog w) A (call (.type T) vs) Q Er s₁) Er s):wpAny (model prog w) A (callWith pos (.type T) [] (backTo pos (starEach (x :: xs) env)) []) Q Er s:=by
  rw [aF hx] at h ⊢
  exact PySem.callWith_type ha (Calls.evalArgs_plain (wpAny_mono h (fun vs s₁ h₁=>h₁) fun uu uu e=>e))
theorem fN {x:Expr}{e:E} (ns:List (Str × NameKind)) (hx:okE ns e x=true) {G:List Value→Shared→Prop} (h:wpAny (model prog w) A (eval x env) (fun v s₁=>G [v] s₁) Er s):wpAny (model prog w) A (spliced (backTo pos (starEach [x] env))) G Er s :=
  wpAny_items_cons (wpAny_mono h (fun uu uu h₁=>wpAny_items_nil h₁) fun uu uu e=>e) (aF hx [] env)
end
section
variable {va:Value}{as:List Addr}{A:Around}{P:Addr→Prop}{s:Shared}{Q:Value→Shared→Prop}{Er:Value→Shared→Prop}
theorem t6 {x:V}{r:V × Mode} (he:b1D .len x = .ok r) (ra:RV prog w s.heap va x as) (hQ:∀ v s',EP prog w P s r v s'→Q v s'):wpAny (model prog w) A (call (.builtin "len") [va]) Q Er s:=by
  replace he:=aD he
  revert he; intro FN
  refine aa (FN) fun y hy he=>?_
  try clear FN
  cases cL hy
  cases ht:asT y with
  | none=>
    simp only [ht] at he
    replace he:=aD he
    revert he; intro FG
    refine aa (FG) fun xs hx he=>?_
    try clear FG
    cases ce hx
    (have oc:=Out.ok.inj he; clear he; subst oc)
    refine bI (ra.1.isList) fun a vs n cs E5 ea ra' E6=>?_
    subst E5
    subst E6
    have hl:=ra'.length
    have hz:=(sz_list.mp ra.2).1
    refine Calls.call_len_list (isL ea) (by rw [List.size_toArray]; exact CT hl hz) (hQ _ _ ?_)
    rw [List.size_toArray,hl]
    exact .int (.toks s _)
  | some xs=>
    simp only [ht] at he
    (have oc:=Out.ok.inj he; clear he; subst oc)
    cases jX ht
    refine aS (ra.1.isTup) fun a vs n E7 ea ra'=>?_
    subst E7
    have hl:=ra'.length
    have hz:=(sz_tuple.mp ra.2).1
    refine PySem.P.len_tuple ea (by rw [List.size_toArray]; exact AG hl hz) (hQ _ _ ?_)
    rw [List.size_toArray,hl]
    exact .int (.toks s _)
theorem ll {xs:List PyData}{T:String}{a:Addr}{vs:List Value}{n:Nat}{cs:List Addr} (hT:T = "list" ∨ T = "tuple") (ea:s.heap.get? a=some ⟨.type T,none,.seq vs.toArray n,#[]⟩) (ra:RA s.heap vs xs cs) (hl:xs.length≤2 ^ 22)
    (hz:∀ x∈xs,sz x=true) (ha:∀ b∈cs,P b) (hQ:∀ v s',EP prog w P s (.d (.list xs),fresh xs) v s'→Q v s'):wpAny (model prog w) A (call (.type "list") [.ref a]) Q Er s:=by
  have e:=ra.length
  refine call_list_seq a hT ea rfl rfl (fun h' c' kp hn=>hQ _ _ ?_) (by rw [List.size_toArray]; unfold sizeLine; exact vp hl e)
  have kp':Kp s { s with heap:=h' }:=(az h' s.toks rfl (.of kp))
  refine EP.aList kp' (a8 _) hn (ra.keep kp) hl hz fun b hb=>⟨ha b hb,?_⟩
  refine aY (ra.there b hb) fun uu uu e=>?_
  exact dF e
theorem sU {xs:List PyData} (ra:R s.heap va (.list xs) as) (za:sz (.list xs)=true) (ha:∀ b∈as,P b) (hQ:∀ v s',EP prog w P s (.d (.tuple xs),if xs.all sx then .deep else .sh) v s'→Q v s'):wpAny (model prog w) A (call (.type "tuple") [va]) Q Er s:=by
  refine bI (ra.isList) fun a vs n cs E8 ea ra' E9=>?_
  (clear ra; subst E8)
  subst E9
  have e:=ra'.length
  have hz:=sz_list.mp za
  refine call_tuple_list (isL ea) (fun h' kp=>hQ _ _ ?_) (by rw [List.size_toArray]; unfold sizeLine; exact A3 e hz)
  have kp':Kp s { s with heap:=h'.push { cls:=.type "tuple", data:=.seq vs.toArray } }:=(az _ s.toks rfl (.of fun b o q=>Heap.get?_push_of_some _ (kp b o q)))
  refine ⟨kp',cs,⟨.tuple (Heap.get?_push_size _ rfl) ((ra'.keep kp).keep fun uu uu e=>Heap.get?_push_of_some _ e),sz_tuple.mpr hz⟩,fun b hb=>.inl (ha b (.tail _ hb)),fun hm=>?_,fun hm=>?_⟩
  · dsimp only at hm; split at hm <;> cases hm
  · have hall:xs.all sx=true:=by
      dsimp only at hm
      split at hm
      · assumption
      · cases hm
    rw [ra'.sx_nil hall]
    exact ⟨fun uu h=>(nomatch h),.nil⟩
theorem qh {xs:List PyData}{ns:List Int} (ra:R s.heap va (.list xs) as) (hi:aN xs=some ns) (h64:xs.length<64) (hQ:∀ v s',EP prog w P s (.d (af (ns.mergeSort (fun a b=>decide (a≤b)))),.deep) v s'→Q v s') :
    wpAny (model prog w) A (call (.builtin "sorted") [va]) Q Er s:=by
  refine bI (ra.isList) fun a vs n cs Fa ea ra' Fb=>?_
  (clear ra; subst Fa)
  subst Fb
  have e:=ra'.length
  refine aB (ra'.ints hi) fun hI Fc Fd=>?_
  subst Fc
  subst Fd
  rw [List.length_map] at e h64
  refine sorted_ints (isL ea) hI (by exact vF h64 e) fun out ns' h1 h2 h3=>hQ _ _ ?_
  have e':ns' = ns.mergeSort (fun a b=>decide (a≤b)):=eS (fun a b h h'=>Int.le_antisymm h h') (h2.trans (List.mergeSort_perm ns _).symm) h3 (jW ns)
  (clear h2 h3; subst e')
  refine ai (sortedAll_at s.heap vs out) fun e he=>?_
  have hl:=List.length_mergeSort (le:=fun a b:Int=>decide (a≤b)) ns
  have ep:EP prog w P s (.d (.list ((ns.mergeSort (fun a b=>decide (a≤b))).map .int)),fresh ((ns.mergeSort (fun a b=>decide (a≤b))).map .int)) (.ref (s.heap.objs.size + 1)) { s with heap:=sortedAll s.heap vs out } :=
    EP.aList (vs:=out.toList) (n:=e) (as:=[]) (az _ s.toks rfl (.of fun uu uu q=>sortedAll_old q)) (Heap.get?_none_of_le (Nat.le_succ _)) (by simpa [seqObj] using he) (RA.of_ints h1) (by rw [List.length_map,hl]; exact vn h64) (gV _) fun uu h=>(nomatch h)
  have ef:fresh ((ns.mergeSort (fun a b=>decide (a≤b))).map .int) = .deep:=by
    unfold fresh
    rw [if_pos]
    rw [List.all_map,List.all_eq_true]
    intro _ _; rfl
  rw [ef] at ep
  exact ep
end
end
end Mine
namespace Mine
set_option tactic.hygienic false
set_option linter.unusedVariables false
open PySem PyProof.Rows
set_option linter.unusedSectionVars false
variable [SF:Soft]
section
variable (prog:Program) (w:World)
structure ItP (A:Around) (P:Addr→Prop) (s:Shared) (ds:List PyData) (m:Mode) (it:Value) (s':Shared):Prop where
  keeps:Kp s s'
  walk:∃ (I:Addr) (fp wr:List Addr) (Pw:Nat→Value→Prop) (St:Nat→Heap→Prop) (F:List Addr),it = .ref I∧Walks prog w A I fp wr ds.length Pw St∧St 0 s'.heap ∧
    (∀ b∈wr,s.heap.get? b=none∧b∉F∧∀ i h,St i h→∃ o,h.get? b=some o∧(hardB o=true∧o.cls≠.type "code" ∧ ∀ C,o.cls≠.ref C)∧∃ fs,o.data = .fields fs)∧(∀ b∈fp,b∈wr∨b∈F)∧(∀ i v,Pw i v→∀ d,ds[i]? = some d→∃ bs,R s'.heap v d bs∧∀ b∈bs,b∈F) ∧
    (∀ b∈F,∃ vs n,s'.heap.get? b=some ⟨.type "list", none,.seq vs n,#[]⟩)∧(∀ a∈F,P a∨s.heap.get? a=none)∧(m = .deep→∀ a∈F,s.heap.get? a=none)
  small:ds.length≤2 ^ 22∧∀ d∈ds,sz d=true
variable (fns:Fns) (k:Nat) (C:Calls) (XP:String→Shared→Value→Shared→Prop)
noncomputable def dk (it:It):Prop:=∀ {ex:Expr}{A:Around}{env:Env}{σ:St}{P:Addr→Prop}{s:Shared}{Q:Value→Shared→Prop}{Er:Value→Shared→Prop},
  fI env.scope.names it ex=true→Cx prog w fns k A P s.heap env σ→bf C it σ≠.bad →
  (∀ q,bf C it σ = .ok q→∀ i s',ItP prog w A P s q.1 q.2 i s'→Q i s')→(∀ c,bf C it σ = .exc c→∀ x s',XP c s x s'→Er x s') →
  wpAny (model prog w) A (eval ex env) (fun x s₁=>wpAny (model prog w) A (pyIter x) Q Er s₁) Er s
end
section
variable {prog:Program}{w:World}{fns:Fns}{k:Nat}{C:Calls}{XP:String→Shared→Value→Shared→Prop}
theorem rB {A:Around}{P:Addr→Prop}{s₀ s:Shared}{Q:Value→Shared→Prop}{Er:Value→Shared→Prop}{va:Value}{as:List Addr}{xs:List PyData}{m:Mode} (k₀:Kp s₀ s) (hh:A.handled=none) (ra:R s.heap va (.list xs) as) (za:sz (.list xs)=true)
    (ha:∀ a∈as,P a∨s₀.heap.get? a=none) (hm:m = .deep→∀ a∈as,s₀.heap.get? a=none) (hQ:∀ it s',ItP prog w A P s₀ xs m it s'→Q it s'):wpAny (model prog w) A (pyIter va) Q Er s:=by
  refine bI (ra.isList) fun a vs n cs E5 ea ra' E6=>?_
  subst E5
  subst E6
  refine wpAny_pyIter_list (isL ea) (hQ _ _ ⟨k₀.trans (.push s _ _),⟨s.heap.objs.size,[s.heap.objs.size,a],[s.heap.objs.size],(fun i v=>vs.toArray[i]? = some v),(fun i h=>h.IsListIter s.heap.objs.size a i∧h.IsList a vs.toArray),a :: cs,rfl,?_,⟨(aA _ (Heap.get?_push_size _ rfl) rfl rfl),(isL ea).push _⟩,?_,?_,?_,?_,ha,hm⟩,sz_list.mp za⟩)
  · have:=Walks.list (prog:=prog) (w:=w) (A:=A) hh s.heap.objs.size a (dF ea) vs.toArray
    have e:vs.toArray.size=xs.length:=by rw [List.size_toArray,ra'.length]
    rw [e] at this
    exact this
  · intro b hb
    rw [List.mem_singleton.mp hb]
    refine ⟨k₀.none (a8 _),fun h=>?_,fun i h hst=>?_⟩
    · refine aY (ra.there _ h) fun uu uu e=>?_
      exact dF e rfl
    · refine ao (hst.1) fun o e1 ec e2=>?_
      exact (aA o e1 ⟨by unfold hardB; rw [ec]; decide,by rw [ec]; decide,fun uu q=>by rw [ec] at q; cases q⟩ (bl _ e2))
  · intro b hb
    rcases List.mem_cons.mp hb with rfl | hb
    · exact .inl (.head _)
    · rw [List.mem_singleton.mp hb]; exact .inr (.head _)
  · intro i v hv d hd
    refine ay (ra'.get' (by simpa using hv)) fun d' bs h1 h2 h3=>?_
    rw [hd] at h1; (have oc:=Option.some.inj h1; clear h1; subst oc)
    exact (ag bs (h2.keep fun uu uu e=>Heap.get?_push_of_some _ e) (fun b hb=>.tail _ (h3 b hb)))
  · intro b hb
    refine aY (ra.there b hb) fun vs' n' e=>?_
    exact (bn vs' n' (Heap.get?_push_of_some _ e))
theorem qr {a b:Int}{i:Nat}{d:PyData} (h:(cF a b)[i]? = some d):d = .int (a + i):=by
  unfold cF at h
  rw [List.getElem?_map] at h
  refine aa (Option.map_eq_some_iff.mp h) fun j hj E7=>?_
  subst E7
  have:j=i:=by
    have h1:=(List.getElem?_eq_some_iff.mp hj)
    refine ai (h1) fun h2 h3=>?_
    try clear h1
    rw [List.getElem_range] at h3
    exact h3.symm
  rw [this]
theorem gX (a b:Int):(cF a b).length=(b - a).toNat:=by simp [cF]
theorem r7 (a b:Int):∀ d∈cF a b,sz d=true:=by
  intro d hd
  unfold cF at hd
  refine aa (List.mem_map.mp hd) fun j _ E8=>?_
  (clear hd; subst E8)
  rfl
theorem jB {A:Around}{P:Addr→Prop}{s₀ s:Shared}{Q:Value→Shared→Prop}{Er:Value→Shared→Prop}{r:Addr}{a b:Int}{t u v:Tok} (k₀:Kp s₀ s) (hh:A.handled=none) (hr:IsRange s.heap r a b 1 t u v)
    (hn:(b - a).toNat≤lim) (ha:-(2 ^ 60)≤a∧a<2 ^ 60∧-(2 ^ 60)≤b∧b<2 ^ 60) (hQ:∀ it s',ItP prog w A P s₀ (cF a b) .deep it s'→Q it s'):wpAny (model prog w) A (pyIter (.ref r)) Q Er s:=by
  have hsz:Builtin.Range.rangeSize a b 1=((b - a).toNat:Int):=by rw [rangeSize_one]; split <;> lia
  refine wpAny_pyIter_range hr (small_one (by exact BS ha) (by exact CK ha) (by exact BR ha) (by exact CZ ha)) (hQ _ _ ⟨k₀.trans (.push s _ _),⟨s.heap.objs.size,[s.heap.objs.size],[s.heap.objs.size],(fun i v=>∃ t,v = .int (a + i * 1) t),(fun i h=>IsRangeIter h s.heap.objs.size (a + (i:Nat) * 1) (((b - a).toNat:Int) - (i:Nat)) 1),[],rfl,?_,?_,?_,fun b hb=>.inl hb,?_,fun uu h=>(nomatch h),fun uu h=>(nomatch h),fun uu uu h=>(nomatch h)⟩,⟨by rw [gX]; unfold lim at hn; exact Af hn,r7 a b⟩⟩)
  · have:=Walks.range (prog:=prog) (w:=w) (A:=A) hh s.heap.objs.size a 1 (b - a).toNat
    rw [gX]
    exact this
  · have e1:(a + ((0:Nat):Int) * 1)=a:=by simp
    have e2:(((b - a).toNat:Int) - ((0:Nat):Int))=Builtin.Range.rangeSize a b 1:=by rw [hsz]; simp
    show IsRangeIter _ _ (a + ((0:Nat):Int) * 1) (((b - a).toNat:Int) - ((0:Nat):Int)) 1
    rw [e1,e2]
    exact Heap.get?_push_size _ rfl
  · intro b hb
    rw [List.mem_singleton.mp hb]
    exact ⟨k₀.none (a8 _),fun h=>(nomatch h),fun i h hst=>(aA _ hst ⟨rfl,by simp⟩ (bl _ rfl))⟩
  · rintro i v ⟨t,rfl⟩ d hd
    rw [qr hd]
    exact (ag ([]) (by simpa using R.int (a + i) t) (fun uu h=>(nomatch h)))
set_option tactic.hygienic true in
theorem wL (hf:fns.hand=false) {a:E} (Sa:SimE prog w fns k C XP a):dk prog w fns k C XP (.e a):=by
  intro ex A env σ P s Q Er ok X nb hQ hE
  replace ok:okE env.scope.names a ex=true:=ok
  simp only [f7,eH,eM] at nb hQ hE
  refine ae (aq nb) fun n1 n2=>?_
  refine Sa ok X n1 (fun r hr v s₁ Ea=>?_) fun c hc=>hE c (by rw [hc]; rfl)
  have n3:=n2 r hr
  obtain ⟨x,m⟩:=r
  obtain ⟨ka,as,ra,ha,ht,hd⟩:=Ea
  unfold itV at n3
  dsimp only at n3 ra hd
  split at n3
  · rename_i xs hx
    cases fg hx
    exact rB (m:=m) ka (X.room.1 hf) ra.1 ra.2 ha (fun hm=>(hd hm).1) fun it s' I=>hQ (xs,m) (by rw [hr]; rfl) it s' I
  · exact absurd rfl n3
theorem kL {a b:Int}{q:List PyData × Mode} (h:bT a b = .ok q):q=(cF a b,.deep)∧(b - a).toNat≤lim∧-(2 ^ 60)≤a∧a<2 ^ 60∧-(2 ^ 60)≤b∧b<2 ^ 60:=by
  unfold bT at h
  split at h
  · rename_i hc; (have oc:=Out.ok.inj h; clear h; subst oc); exact ⟨rfl,hc⟩
  · exact nB h
theorem jC {a b:Int}{c:String}:bT a b≠.exc c:=by unfold bT; split <;> simp
set_option tactic.hygienic true in
theorem sY (hf:fns.hand=false) {n:E} (Sn:SimE prog w fns k C XP n):dk prog w fns k C XP (.r1 n):=by
  intro ex A env σ P s Q Er ok X nb hQ hE
  replace ok:=Et ok
  revert ok; refine fun Fj=>Or.elim Fj (fun Fe=>?_) (fun ok=>?_)
  · clear Fj
    refine bP (Fe) fun FK FR Ga FX FO ok=>?_
    clear Fe
    subst FO
    simp only [Bool.and_eq_true,beq_iff_eq] at ok
    refine ae (ok) fun E9 on=>?_
    try clear ok
    refine ae (E9) fun Fa hg=>?_
    try clear E9
    subst Fa
    simp only [f7,eH,eM] at nb hQ hE
    refine ae (aq nb) fun n1 n2=>?_
    refine eJ X.eok X.ge (by decide) hg (by decide) (gN (T := "range") _ on rfl (fN _ on (Sn on X n1 (fun r hr v s₁ Ea=>?_) fun c hc=>hE c (by rw [hc]; rfl))))
    have n3:=n2 r hr
    obtain ⟨x,m⟩:=r
    obtain ⟨ka,as,ra,hx1,hx2,hx3⟩:=Ea
    clear hx1 hx2 hx3
    dsimp only at n3 ra
    split at n3
    · rename_i i
      cases hq:bT 0 i with
      | bad=>exact absurd hq n3
      | exc c=>exact absurd hq jC
      | ok q=>
        refine aB (kL hq) fun Fb h1 h2=>?_
        subst Fb
        refine aa (ra.1.isInt) fun uu Fc Fd=>?_
        (clear ra; subst Fc)
        subst Fd
        exact call_range_1 (jB (ka.trans (.push s₁ _ _)) (X.room.1 hf) (IsRange.new ..) h1 h2 fun it s' I=>hQ _ (by rw [hr]; exact hq) it s' I)
    · exact absurd rfl n3
  · cases ok
set_option tactic.hygienic true in
theorem sM (hf:fns.hand=false) (hXP:∀ c s s₁ x s',Kp s s₁→XP c s₁ x s'→XP c s x s') {a b:E} (Sa:SimE prog w fns k C XP a) (Sb:SimE prog w fns k C XP b):dk prog w fns k C XP (.r2 a b):=by
  intro ex A env σ P s Q Er ok X nb hQ hE
  replace ok:=Dh ok
  revert ok; refine fun Fk=>Or.elim Fk (fun Fg=>?_) (fun ok=>?_)
  · clear Fk
    refine gu (Fg) fun FT F5 F0 FU FY FQ ok=>?_
    clear Fg
    subst FQ
    simp only [Bool.and_eq_true,beq_iff_eq] at ok
    refine ae (ok) fun Ff ob=>?_
    try clear ok
    refine ae (Ff) fun Fi oa=>?_
    try clear Ff
    refine ae (Fi) fun Fh hg=>?_
    try clear Fi
    subst Fh
    simp only [f7,eH,eM] at nb hQ hE
    refine ae (aq nb) fun n1 n2=>?_
    refine eJ X.eok X.ge (by decide) hg (by decide) (gN (T := "range") _ oa (by rw [aF ob]; rfl) (wpAny_items_cons ?_ (aF oa _ env)))
    refine Sa oa X n1 (fun x hx va s₁ Ea=>?_) fun c hc=>hE c (by rw [hc]; rfl)
    refine ae (aq (n2 x hx)) fun n3 n4=>?_
    refine fN _ ob (Sb ob (X.k Ea.keeps.k) n3 (fun y hy vb s₂ Eb=>?_) fun c hc z s' hz=>hE c (by rw [hx,Out.ok_bind,hc]; rfl) z s' (hXP c s s₁ z s' Ea.keeps hz))
    have n5:=n4 y hy
    obtain ⟨x,mx⟩:=x
    obtain ⟨y,my⟩:=y
    obtain ⟨ka,as,ra,hx1,hx2,hx3⟩:=Ea
    obtain ⟨kb,bs,rb,hx4,hx5,hx6⟩:=Eb
    clear hx1 hx2 hx3 hx4 hx5 hx6
    dsimp only at n5 ra rb
    split at n5
    · rename_i i j
      cases hq:bT i j with
      | bad=>exact absurd hq n5
      | exc c=>exact absurd hq jC
      | ok q=>
        refine aB (kL hq) fun Fm h1 h2=>?_
        subst Fm
        revert ra; intro Gx
        refine ae (Gx) fun ra _=>?_
        try clear Gx
        revert rb; intro GD
        refine ae (GD) fun rb _=>?_
        try clear GD
        cases ra; cases rb
        exact call_range_2 (jB ((ka.trans kb).trans (.push s₂ _ _)) (X.room.1 hf) (IsRange.new ..) h1 h2 fun it s' I=>hQ _ (by rw [hx,Out.ok_bind,hy]; exact hq) it s' I)
    · exact absurd rfl n5
  · cases ok
end
end Mine
namespace Mine
set_option tactic.hygienic false
set_option linter.unusedVariables false
open PySem PyProof.Rows
set_option linter.unusedSectionVars false
variable [SF:Soft]
theorem cG {x y:String} (h:Str.ofString x=Str.ofString y):x=y:=by
  rw [Str.ofString_eq_toList,Str.ofString_eq_toList] at h
  have h1:(x.toList.map Char.toNat).toArray=(y.toList.map Char.toNat).toArray:=by injection h
  have h2:x.toList.map Char.toNat=y.toList.map Char.toNat:=by simpa using h1
  have h3:x.toList=y.toList:=by
    have inj:∀ a b:Char,a.toNat=b.toNat→a=b:=fun a b e=>Char.ext (UInt32.toNat_inj.mp e)
    generalize x.toList=l at h2
    generalize y.toList=m at h2
    induction l generalizing m with
    | nil=>cases m with
      | nil=>rfl
      | cons b m=>simp at h2
    | cons a l ih=>cases m with
      | nil=>simp at h2
      | cons b m=>
        simp only [List.map_cons,List.cons.injEq] at h2
        rw [inj a b h2.1,ih m h2.2]
  exact String.toList_inj.mp h3
section
variable {prog:Program}{w:World}{fns:Fns}{k:Nat}{C:Calls}{XP:String→Shared→Value→Shared→Prop}
theorem jF {scope:Scope}{env:Env} (hf:∀ p∈scope.names,p.2 = .free→∃ c,env.cells.lookup p.1=some c) :
    ∃ cl,closureFor scope env=pure cl∧∀ n,(n,NameKind.free)∈scope.names→cl.lookup n=env.cells.lookup n:=by
  suffices H:∀ (names:List (Str × NameKind)) (acc:List (Str × Addr)),(∀ p∈names,p.2 = .free→∃ c,env.cells.lookup p.1=some c)→(∀ n c,acc.lookup n=some c→env.cells.lookup n=some c) →
      ∃ cl,(forIn names acc (fun (x:Str × NameKind) (cs:List (Str × Addr))=>(if (x.2 == NameKind.free)=true then (do let c ← cellOf env x.1; pure (ForInStep.yield ((x.1,c) :: cs))) else pure (ForInStep.yield cs):Sem (ForInStep (List (Str × Addr))))))=pure cl ∧
        (∀ n c,cl.lookup n=some c→env.cells.lookup n=some c)∧(∀ n,(n,NameKind.free)∈names∨(acc.lookup n).isSome→(cl.lookup n).isSome) by
    refine ao (H scope.names [] hf (fun n c h=>by simp at h)) fun cl h1 h2 h3=>?_
    refine (ag cl ?_ (fun n hn=>?_))
    · unfold closureFor
      have e:(forIn scope.names ([]:List (Str × Addr)) fun (x:Str × NameKind) (r:List (Str × Addr))=>match x with
          | (name,kind)=>if (kind == NameKind.free)=true then (do let c ← cellOf env name; pure (ForInStep.yield ((name,c) :: r))) else (pure (ForInStep.yield r):Sem (ForInStep (List (Str × Addr)))))=pure cl:=h1
      exact congrArg (fun t:Sem (List (Str × Addr))=>t >>= fun q=>pure q) e
    · refine ai (Option.isSome_iff_exists.mp (h3 n (.inl hn))) fun c hc=>?_
      rw [hc,h2 n c hc]
  intro names
  induction names with
  | nil=>intro acc _ ha; exact (aA acc rfl ha (fun n hn=>hn.elim (fun h=>nomatch h) id))
  | cons p r ih=>
    intro acc hf ha
    obtain ⟨n,kd⟩:=p
    by_cases hk:kd = .free
    · subst hk
      refine ai (hf (n,.free) (.head _) rfl) fun c hc=>?_
      obtain ⟨cl,h1,h2,h3⟩:=ih ((n,c) :: acc) (fun p hp=>hf p (.tail _ hp)) (fun m d h=>by
        rw [List.lookup_cons] at h
        split at h
        · rename_i e; (have oc:=Option.some.inj h; clear h; subst oc); rw [beq_iff_eq.mp e]; exact hc
        · exact ha m d h)
      refine (aA cl ?_ h2 (fun m hm=>h3 m ?_))
      · rw [List.forIn_cons,← h1]
        simp only [beq_self_eq_true,if_true,cellOf,hc]
        rfl
      · rcases hm with hm | hm
        · rcases List.mem_cons.mp hm with e | hm
          · cases e; right; simp
          · exact .inl hm
        · right
          rw [List.lookup_cons]
          split
          · rfl
          · exact hm
    · refine ao (ih acc (fun p hp=>hf p (.tail _ hp)) ha) fun cl h1 h2 h3=>?_
      refine (aA cl ?_ h2 (fun m hm=>h3 m (hm.imp (fun hm=>?_) id)))
      · rw [List.forIn_cons,← h1]
        have:(kd == NameKind.free)=false:=by simpa using hk
        simp only [this,Bool.false_eq_true,if_false]
        rfl
      · rcases List.mem_cons.mp hm with e | hm
        · cases e; exact absurd rfl hk
        · exact hm
theorem g9 {X:Str}:∀ (names:List (Str × NameKind)) (h:Heap) (acc:List (Str × Addr)),(∀ p∈names,p.2 = .cell→p.1=X)→(names.map (·.1)).Nodup →
    (∀ m,m≠X→(cellsFrom h.objs.size names acc).lookup m=acc.lookup m) ∧
    (names.lookup X=some .cell→∃ c,(cellsFrom h.objs.size names acc).lookup X=some c∧(pushCells h names).IsCell c none∧h.objs.size≤c)∧(names.lookup X≠some .cell→cellsFrom h.objs.size names acc=acc)
  | [],h,acc,_,_=>⟨fun uu uu=>rfl,fun e=>(by cases e),fun uu=>rfl⟩
  | (n,kd) :: r,h,acc,hc,hn=>by
    rw [List.map_cons,List.nodup_cons] at hn
    unfold cellsFrom pushCells
    by_cases hk:kd = .cell
    · subst hk
      have e:n=X:=hc (n,.cell) (.head _) rfl
      subst e
      have hr:∀ p∈r,p.2≠.cell:=fun p hp e=>hn.1 (List.mem_map.mpr (ag p hp (hc p (.tail _ hp) e)))
      have hl:r.lookup n≠some .cell:=fun e=>hr _ (mem_of_lookup e) rfl
      simp only [beq_self_eq_true,if_true]
      have ih:=g9 (X:=n) r (h.push { cls:=.type "cell", data:=.cell none }) ((n,h.objs.size) :: acc) (fun p hp e=>absurd e (hr p hp)) hn.2
      rw [Heap.size_push] at ih
      rw [ih.2.2 hl]
      refine ⟨fun m hm=>?_,fun uu=>(aA h.objs.size (by simp) (ag _ (pushCells_keeps r _ _ _ (Heap.get?_push_size _ rfl)) rfl) (Nat.le_refl _)),fun hh=>?_⟩
      · rw [List.lookup_cons]
        have:(m == n)=false:=by simpa using hm
        rw [this]
      · exact absurd (by simp) hh
    · have hb:(kd == NameKind.cell)=false:=by simpa using hk
      simp only [hb,Bool.false_eq_true,if_false]
      refine aB (g9 r h acc (fun p hp=>hc p (.tail _ hp)) hn.2) fun h1 h2 h3=>?_
      have e:((n,kd) :: r).lookup X=some .cell↔r.lookup X=some .cell:=by
        rw [List.lookup_cons]
        by_cases hx:X=n
        · (clear hc; subst hx)
          simp only [beq_self_eq_true]
          constructor
          · intro e; (have oc:=Option.some.inj e; clear e; subst oc); exact absurd rfl hk
          · intro e; exact absurd (List.mem_map.mpr (ag _ (mem_of_lookup e) rfl)) hn.1
        · have:(X == n)=false:=by simpa using hx
          rw [this]
      exact ⟨h1,fun q=>h2 (e.mp q),fun q=>h3 fun z=>q (e.mpr z)⟩
theorem xk {A:Around}{env:Env}{scope:Scope}{cl:List (Str × Addr)}{s:Shared}{Q:Env→Shared→Prop}{Er:Value→Shared→Prop}
    (h:∀ h',h' = pushCells (s.heap.push { cls:=.type "dict", data:=.dict #[] }) scope.names→Q { scope,locals:=s.heap.objs.size,globals:=env.globals,cells:=cellsFrom (s.heap.objs.size + 1) scope.names cl,qual:=env.qual,func:=none,code:=env.code,frame:=env.frame,builtins:=env.builtins } { s with heap:=h' }) :
    wpAny (model prog w) A (newFunctionEnv scope env.globals cl [] env.qual none .none (some env)) Q Er s:=by
  simp only [newFunctionEnv,Option.isSome_some,if_true]
  refine wpAny_bind (wpAny_alloc ?_)
  refine wpAny_bind (wpAny_layCells _ (fun name kind cells=>by cases hkc:kind == NameKind.cell <;> simp) _ _ _ _ ?_)
  rw [show ({ s with heap:=s.heap.push { cls:=.type "dict", data:=.dict #[] } }:Shared).heap.objs.size=s.heap.objs.size + 1 from Heap.size_push ..]
  exact wpAny_bind (wpAny_pure (wpAny_pure (h _ rfl)))
end
end Mine
namespace Mine
set_option tactic.hygienic false
set_option linter.unusedVariables false
open PySem PyProof.Rows
set_option linter.unusedSectionVars false
variable [SF:Soft]
section
variable {prog:Program}{w:World}{fns:Fns}{k:Nat}{C:Calls}{XP:String→Shared→Value→Shared→Prop}
theorem gj {ns:List (Str × NameKind)}{sc:Scope}{x:String} (h:fK ns sc x=true):sc.kind = .function∧(sc.names.map (·.1)).Nodup∧(sc.names.lookup (Str.ofString x)=some .local∨sc.names.lookup (Str.ofString x)=some .cell) ∧
    ∀ p∈sc.names,(p.2 = .local∧(p.1=Str.ofString x∨p.1=Str.ofString ".0"))∨p.2 = .globalImplicit∨(p.2 = .cell∧p.1=Str.ofString x)∨(p.2 = .free∧(ns.lookup p.1=some .cell∨ns.lookup p.1=some .free)):=by
  unfold fK at h
  simp only [Bool.and_eq_true,beq_iff_eq,decide_eq_true_eq,Bool.or_eq_true,List.all_eq_true] at h
  refine ae (h) fun E5 h4=>?_
  try clear h
  refine ae (E5) fun E6 h3=>?_
  try clear E5
  refine ae (E6) fun h1 h2=>?_
  try clear E6
  refine (ca h1 h2 h3 (fun p hp=>?_))
  rcases h4 p hp with ((h | h) | h) | h
  · exact .inl h
  · exact .inr (.inl h)
  · exact .inr (.inr (.inl h))
  · exact .inr (.inr (.inr h))
theorem gv {α:Type}{l:List (Str × α)}{n:Str}{c:α} (hn:(l.map (·.1)).Nodup) (h:(n,c)∈l):l.lookup n=some c:=by
  induction l with
  | nil=>cases h
  | cons p r ih=>
    rw [List.map_cons,List.nodup_cons] at hn
    rw [List.lookup_cons]
    rcases List.mem_cons.mp h with e | h
    · (clear h; subst e); simp
    · have:(n == p.1)=false:=beq_eq_false_iff_ne.mpr fun e=>hn.1 (e▸List.mem_map.mpr (ag _ h rfl))
      rw [this]
      exact ih hn.2 h
theorem fJ {outer:List (Str × NameKind)}:∀ {inner:List (Str × NameKind)}{n:Str},(d8 outer inner).lookup n=(inner.lookup n).map fun kd=>if kd == .free && outer.lookup n == some .cell then .cell else kd
  | [],n=>rfl
  | (m,kd) :: r,n=>by
    have ih:=@fJ outer r n
    unfold d8 at ih ⊢
    rw [List.map_cons,List.lookup_cons,List.lookup_cons]
    by_cases e:n=m
    · subst e
      by_cases hc:(kd == NameKind.free && outer.lookup n == some .cell)=true
      · rw [if_pos hc]; simp only [beq_self_eq_true,Option.map_some]; rw [if_pos hc]
      · rw [if_neg hc]; simp only [beq_self_eq_true,Option.map_some]; rw [if_neg hc]
    · have e':(n == m)=false:=by simpa using e
      have e'':(n == (if (kd == NameKind.free && outer.lookup m == some .cell)=true then (m,NameKind.cell) else (m,kd)).1)=false:=by split <;> exact e'
      simp only [e',e'']
      exact ih
theorem d9 {scope:Scope}{env:Env} (hk:env.scope.kind = .function):(relabel scope env).names=d8 env.scope.names scope.names:=by
  unfold relabel d8 Env.kindOf
  simp [hk]
theorem oU {f:PyData→Out (Option (V × Mode))}{d:PyData}{ds:List PyData}{q:List PyData × Bool} (h:bh f (d :: ds) = .ok q) :
    ∃ r q',f d = .ok r∧bh f ds = .ok q'∧((r=none∧q=q')∨∃ y m,r=some (.d y,m)∧q=(y :: q'.1,decide (m = .deep) && q'.2)):=by
  simp only [bh] at h
  refine aa (Out.bind_ok h) fun r h1 h=>?_
  refine aa (Out.bind_ok h) fun q' h2 h=>?_
  refine (aK r q' h1 h2 ?_)
  split at h
  · (have oc:=Out.ok.inj h; clear h; subst oc); exact .inl ⟨rfl,rfl⟩
  · (have oc:=Out.ok.inj h; clear h; subst oc); exact .inr (az _ _ rfl rfl)
  · exact nB h
theorem xm {x:String}{sc:Scope}{A:Around}{env cenv:Env}{σ:St}{P P':Addr→Prop}{h h':Heap}{d:PyData}{v:Value}{as:List Addr}
    (hsc:fK env.scope.names sc x=true) (hN:cenv.scope.names=d8 env.scope.names sc.names) (hk:cenv.scope.kind = .function) (hg:cenv.globals=env.globals) (hb:cenv.builtins=env.builtins)
    (hc:∀ n,(n,NameKind.free)∈sc.names→cenv.cells.lookup n=env.cells.lookup n) (hx:sc.names.lookup (Str.ofString x)=some .cell→∃ c,cenv.cells.lookup (Str.ofString x)=some c)
    (hcd:cenv.code=env.code) (X:Cx prog w fns k A P h env σ) (kp:K h h') (hv:VarIs h' cenv (Str.ofString x) v) (hr:R h' v d as) (hz:sz d=true) (has:∀ a∈as,P' a) (hP:∀ a,P a→(∃ o,h.get? a=some o)→P' a) :
    Cx prog w fns k A P' h' cenv (upd σ x (mk (.d d))):=by
  refine ck (gj hsc) fun uu hnd htg hnames=>?_
  have hkd:∀ n,cenv.kindOf n=(sc.names.lookup n).map fun kd=>if kd == .free && env.scope.names.lookup n == some .cell then .cell else kd:=fun n=>by
    show cenv.scope.names.lookup n=_
    rw [hN]; exact fJ
  refine ⟨X.room,⟨hk,hg.trans X.eok.glob,hb.trans X.eok.blt,fun n hn=>?_⟩,X.ge.k kp,(fun h1=>ai (X.code h1) fun q c=>⟨q,hcd▸c.k kp⟩),(fun q=>aa (X.frm q) fun l a b=>(ag l a (b.k kp))),fun y p hp hvk=>?_⟩
  · rw [hkd] at hn
    cases e:sc.names.lookup n with
    | none=>rw [e] at hn; simp at hn
    | some kd=>
      have hm:=mem_of_lookup e
      rcases hnames _ hm with h1 | h1 | h1 | h1
      · rw [e,show kd=_ from h1.1] at hn; simp at hn
      · dsimp only at h1; rw [e,h1] at hn; simp at hn
      · revert h1; intro FN
        refine ae (FN) fun h1 h2=>?_
        try clear FN
        dsimp only at h1 h2
        (clear hm; subst h2)
        exact hx (by rw [e,h1])
      · revert h1; intro FG
        refine ae (FG) fun h1 h2=>?_
        try clear FG
        dsimp only at h1 h2
        (clear e; subst h1)
        refine ai (X.eok.cells n h2) fun c hcc=>?_
        exact ⟨c,by rw [hc n hm,hcc]⟩
  · unfold upd at hp
    by_cases hy:y=x
    · (clear hnames hsc htg hx; subst hy)
      rw [if_pos rfl] at hp
      (have oc:=Option.some.inj hp; clear hp; subst oc)
      exact (aK v as hv ⟨hr,hz⟩ has)
    · rw [if_neg hy] at hp
      have hk':=mY hvk
      rw [hkd] at hk'
      have hdot:Str.ofString y≠Str.ofString ".0" := by
        unfold varK at hvk
        intro e
        rw [e] at hvk
        simp at hvk
      cases e:sc.names.lookup (Str.ofString y) with
      | none=>rw [e] at hk'; simp at hk'
      | some kd=>
        have hm:=mem_of_lookup e
        rcases hnames _ hm with h1 | h1 | h1 | h1
        · exact absurd h1.2 (by
            rintro (h2 | h2)
            · exact hy (cG h2)
            · exact hdot h2)
        · dsimp only at h1; rw [e,h1] at hk'; simp at hk'
        · exact absurd (cG h1.2) hy
        · revert h1; intro FM
          refine ae (FM) fun h1 h2=>?_
          try clear FM
          dsimp only at h1 h2
          subst h1
          have hvo:varK env.scope.names y=true:=by
            unfold varK
            rw [Bool.and_eq_true]
            refine ⟨by simpa using hdot,?_⟩
            rcases h2 with h2 | h2 <;> rw [h2]
          refine ay (X.vars y p hp hvo) fun v' as' a1 a2 a3=>?_
          refine (aK v' as' ?_ (a2.k kp) (fun a ha=>hP a (a3 a ha) (a2.there a ha)))
          cases a1 with
          | loc m b1 b2 b3=>exact absurd b1 (by unfold Env.kindOf; rcases h2 with h2 | h2 <;> rw [h2] <;> simp)
          | cell c b1 b2 b3=>
            refine .cell c ?_ (by rw [hc _ hm,b2]) (hY b3 kp)
            rw [hkd,e]
            rcases h2 with h2 | h2 <;> rw [h2] <;> simp
noncomputable def Tgt (cenv:Env) (X:Str) (T:Addr) (h:Heap):Prop :=
  (∃ m,h.Ns cenv.locals m)∧((cenv.kindOf X=some .local∧T=cenv.locals)∨(cenv.kindOf X=some .cell∧cenv.cells.lookup X=some T∧T≠cenv.locals∧∃ v₀,h.IsCell T v₀))
theorem Tgt.at {cenv:Env}{X:Str}{T:Addr}{h h':Heap} (t:Tgt cenv X T h) (k1:∀ o,h.get? T=some o→h'.get? T=some o) (k2:∀ o,h.get? cenv.locals=some o→h'.get? cenv.locals=some o):Tgt cenv X T h':=by
  revert t; intro FS
  refine ae (FS) fun E7 t=>?_
  try clear FS
  refine ai (E7) fun m hm=>?_
  try clear E7
  refine ⟨⟨m,hm.at' k2⟩,t.imp id fun t=>?_⟩
  refine ck (t) fun a b c Fv=>?_
  try clear t
  refine av (Fv) fun v₀ o e d=>?_
  try clear Fv
  exact (ca a b c (az v₀ o (k1 _ e) d))
theorem Tgt.onK {cenv:Env}{X:Str}{T:Addr}{h h':Heap} (t:Tgt cenv X T h) (k:K h h'):Tgt cenv X T h':=by
  revert t; intro Hi
  refine ae (Hi) fun E8 t=>?_
  try clear Hi
  refine ai (E8) fun m hm=>?_
  try clear E8
  refine ⟨⟨m,eZ hm k⟩,t.imp id fun t=>?_⟩
  refine ck (t) fun a b c FB=>?_
  try clear t
  refine ai (FB) fun v₀ d=>?_
  try clear FB
  exact (ca a b c (bl v₀ (hY d k)))
theorem Tgt.nostay {cenv:Env}{X:Str}{T:Addr}{h:Heap} (t:Tgt cenv X T h) (o:Obj) (e:h.get? T=some o):¬ Stay o:=by
  revert t; intro G4
  refine ae (G4) fun E9 t=>?_
  try clear G4
  refine pz (E9) fun m o' es ep e' hd _=>?_
  try clear E9
  rcases t with t | t
  · rw [t.2,e'] at e; (have oc:=Option.some.inj e; clear e; subst oc); exact Stay.not_data (fun uu q=>by rw [hd] at q; cases q) fun uu uu q=>by rw [hd] at q; cases q
  · refine ck (t) fun uu uu uu Fw=>?_
    try clear t
    refine av (Fw) fun v₀ o'' e'' hd'=>?_
    try clear Fw
    rw [e''] at e; (have oc:=Option.some.inj e; clear e; subst oc); exact Stay.not_data (fun uu q=>by rw [hd'] at q; cases q) fun uu uu q=>by rw [hd'] at q; cases q
theorem Tgt.noseq {cenv:Env}{X:Str}{T:Addr}{h:Heap} (t:Tgt cenv X T h) (o:Obj) (e:h.get? T=some o) (vs:Array Value) (n:Nat):o.data≠.seq vs n:=by
  revert t; intro GZ
  refine ae (GZ) fun Fa t=>?_
  try clear GZ
  refine pz (Fa) fun m o' es ep e' hd _=>?_
  try clear Fa
  intro q
  rcases t with t | t
  · rw [t.2,e'] at e; (have oc:=Option.some.inj e; clear e; subst oc); rw [hd] at q; cases q
  · refine ck (t) fun uu uu uu FD=>?_
    try clear t
    refine av (FD) fun v₀ o'' e'' hd'=>?_
    try clear FD
    rw [e''] at e; (have oc:=Option.some.inj e; clear e; subst oc); rw [hd'] at q; cases q
theorem rE {A:Around}{cenv:Env}{X:Str}{px:Pos}{T:Addr}{v:Value}{s:Shared}{Q:Unit→Shared→Prop}{Er:Value→Shared→Prop} (hk:cenv.scope.kind = .function) (t:Tgt cenv X T s.heap)
    (h:∀ h' tk,Heap.SameBut T s.heap h'→Tgt cenv X T h'→VarIs h' cenv X v→Q () { s with heap:=h',toks:=tk }):wpAny (model prog w) A (assign (.Name X px) cenv v) Q Er s:=by
  revert t; intro F7
  refine ae (F7) fun Fb t=>?_
  try clear F7
  refine ai (Fb) fun m hm=>?_
  try clear Fb
  rcases t with ⟨t1,rfl⟩ | ⟨t1,t2,t3,v₀,t4⟩
  · exact wpAny_assign_Name (wpAny_storeName_local t1 hm (fun h' hn hs=>h h' _ hs ⟨⟨_,hn⟩,.inl ⟨t1,rfl⟩⟩ (.loc _ t1 hn (by simp))) (by rw [hk]; rfl))
  · exact wpAny_assign_Name (wpAny_storeName_cell hk t1 t2 t4 fun h' hn hs=>h h' s.toks hs ⟨⟨m,hm.sameBut hs (Ne.symm t3)⟩,.inr (ca t1 t2 t3 (bl _ hn))⟩ (.cell T (.inl t1) t2 hn))
set_option maxHeartbeats 2000000 in
theorem qS {f:PyData→Out (Option (V × Mode))}{x:String}{px:Pos}{elt iter:Expr}{ifs:List Expr}{sc:Scope}{pos:Pos}{A:Around}{cenv:Env}{P:Addr→Prop}{s s₃:Shared}{Rr:Result→Shared→Prop}
    {ds:List PyData}{res:List PyData × Bool}{I D T:Addr}{fp wr F:List Addr}{Pw:Nat→Value→Prop}{St:Nat→Heap→Prop}
    (W:Walks prog w A I fp wr ds.length Pw St) (hst:St 0 s₃.heap) (hk:cenv.scope.kind = .function) (ks:K s.heap s₃.heap)
    (hwr:∀ b∈wr,s.heap.get? b=none∧b∉F∧∀ i h,St i h→∃ o,h.get? b=some o∧(hardB o=true∧o.cls≠.type "code" ∧ ∀ C,o.cls≠.ref C)∧∃ fs,o.data = .fields fs) (hFl:∀ b∈F,∃ vs n,s₃.heap.get? b=some ⟨.type "list", none,.seq vs n,#[]⟩) (hfp:∀ b∈fp,b∈wr∨b∈F)
    (hPw:∀ i v,Pw i v→∀ d,ds[i]? = some d→∃ bs,R s₃.heap v d bs∧∀ b∈bs,b∈F) (hFP:∀ a∈F,P a∨s.heap.get? a=none)
    (hFo:∀ b∈F,b≠D∧b≠T∧b≠cenv.locals) (hwo:∀ b∈wr,b≠D∧b≠T∧b≠cenv.locals) (hDT:D≠T) (hDL:D≠cenv.locals) (fD:s.heap.get? D=none) (fT:s.heap.get? T=none)
    (hsm:ds.length≤2 ^ 22∧∀ d∈ds,sz d=true) (hres:bh f ds = .ok res) (hD:s₃.heap.PlainList D #[]) (hT:Tgt cenv (Str.ofString x) T s₃.heap)
    (step:∀ d r,f d = .ok r→sz d=true→∀ {s₄:Shared}{Q₁:Shared→Prop}{Q₂:Value→Shared→Prop}{Er':Value→Shared→Prop} (v:Value) (bs:List Addr),VarIs s₄.heap cenv (Str.ofString x) v→R s₄.heap v d bs→(∀ b∈bs,(P b∨s.heap.get? b=none)∧b≠D)→K s.heap s₄.heap →
      (r=none→∀ s₅,Kp s₄ s₅→Q₁ s₅)→(∀ y,r=some y→∀ u s₅,EP prog w (fun b=>(P b∨s.heap.get? b=none)∧b≠D) s₄ y u s₅→Q₂ u s₅) →
      wpAny (model prog w) A (forIn ifs true fun c r=>if r=true then do let ok ← isTrue c cenv (eval c cenv); pure (ForInStep.yield ok) else pure (ForInStep.yield r)) (fun ok s₅=>if ok=true then wpAny (model prog w) A (eval elt cenv) Q₂ Er' s₅ else Q₁ s₅) Er' s₄)
    (hR:∀ h tk vs as,h.PlainList D vs.toArray→RA h vs res.1 as→(∀ y∈res.1,sz y=true)→res.1.length≤2 ^ 22→(∀ a∈as,a≠D∧(P a∨s.heap.get? a=none))→(res.2=true→(∀ a∈as,s.heap.get? a=none)∧as.Nodup)→(∃ m,h.Ns cenv.locals m) →
      K s.heap h→Rr (.ok .next) { s₃ with heap:=h,toks:=tk }) :
    codeAny (model prog w) A (.compLoop (.ListComp elt [⟨.Name (Str.ofString x) px,iter,ifs,0⟩] sc pos) 0 (.ref I) (.ref D) cenv) Rr s₃:=by
  have offw:∀ i h as,St i h→Off h as wr:=fun i h as hs b hb o e=>by
    refine ao ((hwr b hb).2.2 i h hs) fun o' e' _ FJ=>?_
    refine ai (FJ) fun fs q=>?_
    try clear FJ
    rw [e] at e'; (have oc:=Option.some.inj e'; clear e'; subst oc); exact .inl fun vs n q'=>by rw [q] at q'; cases q'
  have offT:∀ h as,Tgt cenv (Str.ofString x) T h→Off h as [T]:=fun h as t b hb o e=>by
    rw [List.mem_singleton.mp hb] at e
    exact .inl (t.noseq o e)
  have offD:∀ h as vs,Heap.PlainList h D vs→(∀ a∈as,a≠D)→Off h as [D]:=fun h as vs t hn b hb o e=>by
    rw [List.mem_singleton.mp hb] at e ⊢
    revert t; intro Gs
    refine ai (Gs) fun n t=>?_
    try clear Gs
    rw [t] at e; (have oc:=Option.some.inj e; clear e; subst oc)
    exact .inr ⟨by simp,fun hm=>hn D hm rfl⟩
  have notw:∀ i h,St i h→∀ b∈wr,∀ o,h.get? b=some o→¬ Stay o:=fun i h hs b hb o e=>by
    refine ao ((hwr b hb).2.2 i h hs) fun o' e' Fc FI=>?_
    refine ai (FI) fun fs q=>?_
    try clear FI
    refine ae (Fc) fun uu hc=>?_
    try clear Fc
    rw [e] at e'; (have oc:=Option.some.inj e'; clear e'; (clear uu; subst oc))
    exact fun x=>x.elim (fun x=>hc.1 x.1) fun x=>let ⟨_,vs,n,e⟩:=x; by rw [q] at e; cases e
  have outs:∀ b o,s.heap.get? b=some o→b∉D :: T :: wr:=fun b o e hb=>by
    rcases List.mem_cons.mp hb with rfl | hb
    · rw [fD] at e; exact nN e
    rcases List.mem_cons.mp hb with rfl | hb
    · rw [fT] at e; exact nN e
    · rw [(hwr b hb).1] at e; exact nN e
  have outF:∀ b∈F,b∉D :: T :: wr:=fun b hF hb=>by
    rcases List.mem_cons.mp hb with rfl | hb
    · exact (hFo _ hF).1 rfl
    rcases List.mem_cons.mp hb with rfl | hb
    · exact (hFo _ hF).2.1 rfl
    · exact (hwr b hb).2.1 hF
  refine codeAny_compLoop_tests
    (fun n s'=>∃ (h:Heap) (tk:Nat) (j:Nat) (vs:List Value) (ys:List PyData) (as:List Addr) (zs:List PyData) (dp b':Bool),s' = { s₃ with heap:=h,toks:=tk }∧St j h∧j≤ds.length∧n=ds.length + 1 - j∧h.PlainList D vs.toArray∧RA h vs ys as∧(∀ y∈ys,sz y=true)∧ys.length≤j ∧
      (∀ a∈as,a≠D∧(P a∨s.heap.get? a=none))∧(dp=true→(∀ a∈as,s.heap.get? a=none)∧as.Nodup)∧Tgt cenv (Str.ofString x) T h∧KG (fun b=>b∉D :: T :: wr) s₃.heap h ∧
      bh f (ds.drop j) = .ok (zs,b')∧res=(ys ++ zs,dp && b')) ?_ (ds.length + 1)
    (lX s₃.heap s₃.toks 0 ([]) ([]) ([]) res.1 true res.2 rfl hst (Nat.zero_le _) rfl hD .nil (fun uu h=>(nomatch h)) (Nat.le_refl _) (fun uu h=>(nomatch h)) (fun uu=>⟨fun uu h=>(nomatch h),.nil⟩) hT KG.refl (by simpa using hres) (by simp))
  intro n s' Fd
  refine yz (Fd) fun h tk j vs ys as zs dp b' Ff hst' hj Fi hD' hra hys hyl has hdp hT' hkp hcl hrs=>?_
  try clear Fd
  subst Ff
  subst Fi
  have hDw:D∉wr:=fun h=>(hwo D h).1 rfl
  have hTw:T∉wr:=fun h=>(hwo T h).2.1 rfl
  have hLw:cenv.locals∉wr:=fun h=>(hwo _ h).2.2 rfl
  have kps:K s.heap h:=ks.step hkp outs
  by_cases hlt:j<ds.length
  · obtain ⟨d,hd⟩:∃ d,ds[j]? = some d:=⟨_,List.getElem?_eq_getElem hlt⟩
    have hdd:ds.drop j=d :: ds.drop (j + 1):=by
      rw [List.drop_eq_getElem_cons hlt]
      rw [List.getElem?_eq_getElem hlt] at hd
      (have oc:=Option.some.inj hd; clear hd; subst oc); rfl
    rw [hdd] at hcl
    refine ay (oU hcl) fun r q' hf hq hcase=>?_
    refine W.item j _ _ _ hlt hst' fun v h₁ tk₁ hPv hst₁ hk₁=>?_
    have hk₁':∀ b o,b∉wr→h.get? b=some o→h₁.get? b=some o:=hk₁
    refine rE hk (hT'.at (fun o e=>hk₁' _ o hTw e) fun o e=>hk₁' _ o hLw e) fun h₂ tk₂ hs₂ hT₂ hv₂=>?_
    have hs₂':∀ b o,b∉[T]→h₁.get? b=some o→h₂.get? b=some o:=fun b o hb e=>hs₂.extBut b o (fun q=>hb (by simp [q])) e
    have hst₂:St (j + 1) h₂:=W.frame _ _ _ hst₁ fun b hb o e=>hs₂' b o (fun q=>by
      rw [List.mem_singleton.mp q] at hb
      rcases hfp _ hb with hb | hb
      · exact hTw hb
      · exact (hFo _ hb).2.1 rfl) e
    have hra₂:RA h₂ vs ys as:=(hra.off (offw j h as hst') hk₁').off (offT h₁ as (hT'.at (fun o e=>hk₁' _ o hTw e) fun o e=>hk₁' _ o hLw e)) hs₂'
    have kT:KG (fun b=>b∉[T]) h₁ h₂:=.ofW hs₂' fun b hb o e=>by
      rw [List.mem_singleton.mp hb] at e
      exact (hT'.at (fun o e=>hk₁' _ o hTw e) fun o e=>hk₁' _ o hLw e).nostay o e
    have hkp₂:KG (fun b=>b∉D :: T :: wr) s₃.heap h₂:=(hkp.trans ((KG.ofW hk₁' (notw j h hst')).mono fun b hb q=>hb (by simp [q]))).trans (kT.mono fun b hb q=>hb (by rw [List.mem_singleton.mp q]; simp))
    refine aa (hPw j v hPv d hd) fun bs hrv hbs=>?_
    have hrv₂:R h₂ v d bs:=hrv.onG hkp₂ fun b hb=>outF b (hbs b hb)
    have kps₂:K s.heap h₂:=ks.step hkp₂ outs
    have hfpH:∀ b∈fp,∀ o,h₂.get? b=some o→hardB o=true:=fun b hb o e=>by
      rcases hfp b hb with hb | hb
      · refine ao ((hwr b hb).2.2 _ _ hst₂) fun o' e' Fh _=>?_
        refine ae (Fh) fun hh _=>?_
        try clear Fh
        rw [e] at e'; (have oc:=Option.some.inj e'; clear e'; subst oc); exact hh
      · refine aY (hFl b hb) fun vs' n' e'=>?_
        rw [hkp₂.hard (.inl (outF b hb)) e' rfl] at e
        (have oc:=Option.some.inj e; clear e; subst oc); rfl
    have hD₂:h₂.PlainList D vs.toArray:=(hD'.at fun o e=>hk₁' _ o hDw e).at fun o e=>hs₂' _ o (by simpa using hDT) e
    have hzd:sz d=true:=hsm.2 d (List.mem_of_getElem? hd)
    refine step d r hf hzd (s₄:={ s₃ with heap:=h₂,toks:=tk₂ }) v bs hv₂ hrv₂ (fun b hb=>⟨hFP b (hbs b hb),(hFo b (hbs b hb)).1⟩) kps₂ (fun hr s₅ k₅=>?_) fun y hy u s₅ E₅=>?_
    · (clear hf; subst hr)
      refine av (k₅) fun h₅ tk₅ Fm hk₅=>?_
      try clear k₅
      subst Fm
      rcases hcase with ⟨_,hcase⟩ | ⟨_,_,hcase,_⟩
      · subst hcase
        refine (ag (ds.length + 1 - (j + 1)) (by exact pa hlt) (lX h₅ tk₅ (j + 1) vs ys as zs dp b' rfl (W.frame _ _ _ hst₂ fun b hb o e=>hk₅.get e (hfpH b hb o e)) hlt rfl (ai (hD₂) fun n e=>⟨n,hk₅.get e rfl⟩) (hra₂.k hk₅) hys (by exact Nat.le_succ_of_le (by assumption)) has hdp (hT₂.onK hk₅) (hkp₂.trans (hk₅.mono fun uu uu=>trivial)) hq hrs))
      · exact nN hcase
    · obtain ⟨Fr,bs',hrv₅,hb1,hb2,hb3⟩:=E₅
      refine av (Fr) fun h₅ tk₅ Fp hk₅=>?_
      try clear Fr
      subst Fp
      dsimp only at hk₅ hrv₅ hb1 hb2 hb3
      rcases hcase with ⟨hcase,_⟩ | ⟨z,m,hcase,hq2⟩
      · rw [hy] at hcase; exact nM hcase
      · rw [hy] at hcase; (have oc:=Option.some.inj hcase; clear hcase; (clear hb2 hy; subst oc))
        revert hrv₅; intro Hj
        refine ae (Hj) fun hrv₅ hz₅=>?_
        try clear Hj
        have hD₅:h₅.PlainList D vs.toArray:=ai (hD₂) fun n e=>⟨n,hk₅.get e rfl⟩
        have hbD:∀ a∈bs',a≠D:=fun a ha q=>by
          rcases hb1 a ha with h | h
          · exact h.2 q
          · refine ai (hD₂) fun n e=>?_
            try clear hD₂
            rw [q,e] at h; exact nM h
        have hra₅:=(hra₂.k hk₅).append (.cons hrv₅ .nil)
        have hl:vs.length=ys.length:=hra.length
        refine wpAny_list_append_plain (hsz:=by rw [List.size_toArray,hl]; unfold sizeLine; exact CC hsm hyl hlt) hD₅ fun h₆ hl₆ hs₆=>?_
        have hs₆':∀ b o,b∉[D]→h₅.get? b=some o→h₆.get? b=some o:=fun b o hb e=>hs₆.extBut b o (fun q=>hb (by simp [q])) e
        have hne:∀ a∈as ++ (bs' ++ []),a≠D:=fun a ha=>by
          rcases List.mem_append.mp ha with ha | ha
          · exact (has a ha).1
          · exact hbD a (by simpa using ha)
        cases hq2
        refine (ag (ds.length + 1 - (j + 1)) (by exact pa hlt) (lX h₆ tk₅ (j + 1) (vs ++ [u]) (ys ++ [z]) (as ++ (bs' ++ [])) q'.1 (dp && decide (m = .deep)) q'.2 rfl ?_ hlt rfl ?_ (hra₅.off (offD h₅ _ _ hD₅ hne) hs₆') ?_ ?_ ?_ ?_ ?_ ?_ ?_ ?_))
        · refine W.frame _ _ _ hst₂ fun b hb o e=>hs₆' b o (fun q=>?_) (hk₅.get e (hfpH b hb o e))
          rw [List.mem_singleton.mp q] at hb
          rcases hfp _ hb with hb | hb
          · exact hDw hb
          · exact (hFo _ hb).1 rfl
        · simpa using hl₆
        · intro y hy'
          rcases List.mem_append.mp hy' with h | h
          · exact hys y h
          · rw [List.mem_singleton.mp h]; exact hz₅
        · rw [List.length_append,List.length_singleton]; exact lB hyl
        · intro a ha
          refine ⟨hne a ha,?_⟩
          rcases List.mem_append.mp ha with ha | ha
          · exact (has a ha).2
          · rcases hb1 a (by simpa using ha) with h | h
            · exact h.1
            · right
              cases e:s.heap.get? a with
              | none=>rfl
              | some o=>obtain ⟨_,e'⟩:=kps₂.there e; rw [e'] at h; exact nM h
        · intro hdm
          simp only [Bool.and_eq_true,decide_eq_true_eq] at hdm
          refine ae (hdm) fun hd1 hd2=>?_
          try clear hdm
          refine ae (hdp hd1) fun g1 g2=>?_
          refine ae (hb3 hd2) fun g3 g4=>?_
          refine ⟨fun a ha=>?_,?_⟩
          · rcases List.mem_append.mp ha with ha | ha
            · exact g1 a ha
            · have h:=g3 a (by simpa using ha)
              cases e:s.heap.get? a with
              | none=>rfl
              | some o=>obtain ⟨_,e'⟩:=kps₂.there e; rw [e'] at h; exact nM h
          · rw [List.append_nil,List.nodup_append]
            refine ⟨g2,g4,fun a ha b hb q=>?_⟩
            subst q
            refine aY (hra₂.there a ha) fun uu uu e=>?_
            rw [g3 a hb] at e; exact nN e
        · exact (hT₂.onK hk₅).at (fun o e=>hs₆' _ o (by simpa using Ne.symm hDT) e) fun o e=>hs₆' _ o (by simpa using Ne.symm hDL) e
        · refine (hkp₂.trans (hk₅.mono fun uu uu=>trivial)).trans ((KG.ofW hs₆' fun b hb o e=>?_).mono fun b hb q=>hb (by rw [List.mem_singleton.mp q]; simp))
          refine ai (hD₅) fun n e₅=>?_
          try clear hD₅
          rw [List.mem_singleton.mp hb,e₅] at e
          (have oc:=Option.some.inj e; clear e; subst oc)
          exact Stay.not_cls (by simp) (by simp)
        · exact hq
        · rw [hrs]; simp [Bool.and_assoc]
  · have hjl:j=ds.length:=by exact ve hj hlt
    (clear hj hlt; subst hjl)
    rw [List.drop_length] at hcl
    cases hcl
    refine W.done _ _ _ hst' fun h₁ tk₁ hk₁=>?_
    have hk₁':∀ b o,b∉wr→h.get? b=some o→h₁.get? b=some o:=hk₁
    have e1:res=(ys,dp):=by rw [hrs]; simp
    (clear hres hrs; subst e1)
    refine hR h₁ tk₁ vs as (hD'.at fun o e=>hk₁' _ o hDw e) (hra.off (offw _ h as hst') hk₁') hys (Nat.le_trans hyl hsm.1) has hdp ((hT'.at (fun o e=>hk₁' _ o hTw e) fun o e=>hk₁' _ o hLw e).1) (kps.step (KG.ofW hk₁' (notw _ h hst')) fun b o e q=>by rw [(hwr b q).1] at e; cases e)
end
end Mine
namespace Mine
set_option tactic.hygienic false
set_option linter.unusedVariables false
open PySem PyProof.Rows
set_option linter.unusedSectionVars false
variable [SF:Soft]
section
variable {prog:Program}{w:World}{fns:Fns}{k:Nat}{C:Calls}{XP:String→Shared→Value→Shared→Prop}
theorem j8 {ns:List (Str × NameKind)}{it:It}{ex:Expr} (ok:fI ns it ex=true) (env:Env) (v:Value):foldedSetIterable ex env v=pure v:=by
  cases ex with
  | Set es p=>
    cases it with
    | e a=>exfalso; cases a <;> exact Bool.noConfusion (show false=true from ok)
    | r1 n=>exact Bool.noConfusion (show false=true from ok)
    | r2 a b=>exact Bool.noConfusion (show false=true from ok)
  | _=>rfl
set_option maxHeartbeats 1000000 in
theorem ew {RR:Value→Addr→Result→Shared→Prop}{f:PyData→Out (Option (V × Mode))}{x:String}{px:Pos}{elt iter:Expr}{ifs:List Expr}{sc:Scope}{pos:Pos}{A:Around}{env:Env}{σ:St}{P:Addr→Prop}{s:Shared}{Er:Value→Shared→Prop}
    {ds:List PyData}{res:List PyData × Bool} (hsc:fK env.scope.names sc x=true) (X:Cx prog w fns k A P s.heap env σ) (hres:bh f ds = .ok res)
    (step:∀ d r,f d = .ok r→∀ {cenv:Env}{s₃:Shared}{P':Addr→Prop}{Q₁:Shared→Prop}{Q₂:Value→Shared→Prop}{Er':Value→Shared→Prop},cenv.scope.names=d8 env.scope.names sc.names→Cx prog w fns k A P' s₃.heap cenv (upd σ x (mk (.d d))) →
      (r=none→∀ s₄,Kp s₃ s₄→Q₁ s₄)→(∀ y,r=some y→∀ v s₄,EP prog w P' s₃ y v s₄→Q₂ v s₄) →
      wpAny (model prog w) A (forIn ifs true fun c r=>if r=true then do let ok ← isTrue c cenv (eval c cenv); pure (ForInStep.yield ok) else pure (ForInStep.yield r)) (fun ok s₄=>if ok=true then wpAny (model prog w) A (eval elt cenv) Q₂ Er' s₄ else Q₁ s₄) Er' s₃)
    {m:Mode}{i:Value}{s₂:Shared} (I:ItP prog w A P s ds m i s₂)
    (hR:∀ D C h tk m,EP prog w P s (.d (.list res.1),if res.2 then .deep else .top) (.ref D) { s₂ with heap:=h,toks:=tk }→h.Ns C m→s.heap.get? C=none→RR (.ref D) C (.ok .next) { s₂ with heap:=h,toks:=tk }) {cl:List (Str × Addr)} (hcl:∀ n,(n,NameKind.free)∈sc.names→cl.lookup n=env.cells.lookup n) :
    wpAny (model prog w) A (newObj (.type "list") (.seq #[]) none) (fun acc s₃=>
      wpAny (model prog w) A (newFunctionEnv sc env.globals cl [] env.qual none .none (some env)) (fun cenv s₄=>
        codeAny (model prog w) A (.compStart (.ListComp elt [⟨.Name (Str.ofString x) px,iter,ifs,0⟩] sc pos) 0 i acc { cenv with scope:=relabel sc env }) (RR acc cenv.locals) s₄) Er s₃) Er s₂:=by
  refine ck (gj hsc) fun hk hnd htg hnames=>?_
  obtain ⟨kp₂,E5,hsm⟩:=I
  refine rc (E5) fun I fp wr Pw St F E6 W hst hwr hfp hPw hF hFP _=>?_
  try clear E5
  subst E6
  refine wpAny_newObj_type (xk fun h₃ eh₃=>?_)
  have hsz:(s₂.heap.push { cls:=.type "list", data:=.seq #[] }).objs.size=s₂.heap.objs.size + 1:=Heap.size_push ..
  dsimp only at eh₃ ⊢
  rw [hsz]
  generalize hD:s₂.heap.objs.size=D at *
  obtain ⟨c1,c2,c3⟩:=g9 (X:=Str.ofString x) sc.names ((s₂.heap.push { cls:=.type "list", data:=.seq #[] }).push { cls:=.type "dict", data:=.dict #[] }) cl (fun p hp e=>by
    rcases hnames p hp with h | h | h | h
    · rw [h.1] at e; cases e
    · rw [h] at e; cases e
    · exact h.2
    · rw [h.1] at e; cases e) hnd
  rw [Heap.size_push,hsz] at c1 c2 c3
  rw [← eh₃] at c2
  have hn₂:∀ b o,s₂.heap.get? b=some o→h₃.get? b=some o:=fun b o e=>by
    rw [eh₃]; exact pushCells_keeps _ _ _ _ (Heap.get?_push_of_some _ (Heap.get?_push_of_some _ e))
  have hD₃:h₃.PlainList D #[]:=⟨0,by rw [eh₃]; exact pushCells_keeps _ _ _ _ (Heap.get?_push_of_some _ (hD▸Heap.get?_push_size _ rfl))⟩
  have hL₃:h₃.Ns (D + 1) (fun uu=>none):=by
    have:=Heap.Ns.new (s₂.heap.push { cls:=.type "list", data:=.seq #[] }) (.type "dict")
    rw [hsz] at this
    rw [eh₃]
    exact this.keeps (pushCells_keeps _ _)
  have old:∀ b,(∃ o,s₂.heap.get? b=some o)→b<D:=fun b ⟨o,e⟩=>hD▸Heap.lt_size e
  have fresh':∀ b,D≤b→s.heap.get? b=none:=fun b hb=>by
    cases e:s.heap.get? b with
    | none=>rfl
    | some o=>exact absurd (old b (kp₂.k.there e)) (Nat.not_lt.mpr hb)
  obtain ⟨T,hT,hTD,hkc⟩:∃ T,Tgt { scope:=relabel sc env,locals:=D + 1,globals:=env.globals,cells:=cellsFrom (D + 1 + 1) sc.names cl,qual:=env.qual,func:=none,code:=env.code,frame:=env.frame,builtins:=env.builtins } (Str.ofString x) T h₃∧D + 1≤T ∧
      (sc.names.lookup (Str.ofString x)=some .cell→(cellsFrom (D + 1 + 1) sc.names cl).lookup (Str.ofString x)=some T):=by
    have hkd:(relabel sc env).names.lookup (Str.ofString x)=(sc.names.lookup (Str.ofString x)).map fun kd=>if kd == .free && env.scope.names.lookup (Str.ofString x) == some .cell then .cell else kd:=by
      rw [d9 X.eok.kind]; exact fJ
    rcases htg with ht | ht
    · refine (aA (D + 1) ⟨⟨_,hL₃⟩,.inl ⟨?_,rfl⟩⟩ (Nat.le_refl _) (fun q=>?_))
      · show (relabel sc env).names.lookup _=_
        rw [hkd,ht]; rfl
      · rw [ht] at q; cases q
    · refine ao (c2 ht) fun c g1 g2 g3=>?_
      refine (aA c ⟨⟨_,hL₃⟩,.inr (ca ?_ g1 ?_ (bl _ g2))⟩ (Nat.le_of_succ_le g3) (fun uu=>g1))
      · show (relabel sc env).names.lookup _=_
        rw [hkd,ht]; rfl
      · exact Nat.ne_of_gt g3
  have hst₃:St 0 h₃:=W.frame _ _ _ hst fun b _ o e=>hn₂ b o e
  refine codeAny_compStart_list ?_ ?_
  all_goals
    first
    | (refine W.self 0 _ _ _ hst₃ ?_)
    | skip
  all_goals
    refine qS (s:=s) (P:=P) (T:=T) W hst₃ hk (KG.trans kp₂.k (K.of hn₂)) hwr (fun b hb=>aY (hF b hb) fun vs n e=>(bn vs n (hn₂ _ _ e))) hfp (fun i v hv d hd=>aa (hPw i v hv d hd) fun bs h1 h2=>(ag bs (h1.keep hn₂) h2)) hFP (fun b hb=>?_) (fun b hb=>?_) (Nat.ne_of_lt hTD) (Nat.ne_of_lt (Nat.lt_succ_self D)) (fresh' D (Nat.le_refl _)) (fresh' T (Nat.le_of_succ_le hTD)) hsm hres hD₃ hT ?_ ?_
    · refine aY (hF b hb) fun uu uu e=>?_
      have:=old b ⟨_,e⟩
      exact ⟨Nat.ne_of_lt this,Nat.ne_of_lt (Nat.lt_of_lt_of_le this (Nat.le_of_succ_le hTD)),Nat.ne_of_lt (Nat.lt_succ_of_lt this)⟩
    · refine aa ((hwr b hb).2.2 0 _ hst) fun o e _=>?_
      have:=old b ⟨_,e⟩
      exact ⟨Nat.ne_of_lt this,Nat.ne_of_lt (Nat.lt_of_lt_of_le this (Nat.le_of_succ_le hTD)),Nat.ne_of_lt (Nat.lt_succ_of_lt this)⟩
    · intro d r hf hz s₄ Q₁ Q₂ Er' v bs hv hr hbs kps h1 h2
      refine step d r hf (d9 X.eok.kind) (xm hsc (d9 X.eok.kind) hk rfl rfl (fun n hn=>?_) (fun q=>⟨T,hkc q⟩) rfl X kps hv hr hz hbs fun a ha hex=>⟨.inl ha,fun q=>?_⟩) h1 h2
      · show (cellsFrom (D + 1 + 1) sc.names cl).lookup n=_
        rw [c1 n fun q=>?_,hcl n hn]
        subst q
        have:=gv hnd hn
        rw [this] at htg
        rcases htg with q | q <;> cases q
      · (clear h2 hD₃ hL₃ hT hTD hbs hkc hsz hv old; subst q)
        refine ai (hex) fun o e=>?_
        try clear hex
        rw [fresh' _ (Nat.le_refl _)] at e; exact nN e
    · intro h tk vs as hp hra hys hyl has hdp hm hkp
      revert hm; intro FG
      refine ai (FG) fun m' hm=>?_
      try clear FG
      refine ai (hp) fun n hpl=>?_
      try clear hp
      refine hR D (D + 1) h tk m' ?_ hm (fresh' _ (Nat.le_succ D))
      refine av (kp₂) fun hh₂ tk₂ E7 hkk₂=>?_
      try clear kp₂
      (clear eh₃ hF hPw hR hn₂ hst hsz old; subst E7)
      refine ⟨(az h tk rfl hkp),D :: as,⟨.list hpl hra,sz_list.mpr ⟨hyl,hys⟩⟩,?_,?_,?_⟩
      · intro a ha
        rcases List.mem_cons.mp ha with rfl | ha
        · exact .inr (fresh' _ (Nat.le_refl _))
        · exact (has a ha).2
      · exact fun uu=>(aK D as rfl (fresh' _ (Nat.le_refl _)) (fun q=>(has D q).1 rfl))
      · intro hm'
        dsimp only at hm'
        have hb:res.2=true:=by
          cases e:res.2 with
          | true=>rfl
          | false=>rw [e] at hm'; cases hm'
        refine ⟨fun a ha=>?_,List.nodup_cons.mpr ⟨fun q=>(has D q).1 rfl,(hdp hb).2⟩⟩
        rcases List.mem_cons.mp ha with rfl | ha
        · exact fresh' _ (Nat.le_refl _)
        · exact (hdp hb).1 a ha
theorem R.sameBut {h h':Heap}{C:Addr}{m:Str→Option Value}{v:Value}{d:PyData}{as:List Addr} (r:R h v d as) (hm:h.Ns C m) (hs:Heap.SameBut C h h'):R h' v d as:=by
  refine r.off (wr:=[C]) (fun b hb o e=>?_) fun b o hb e=>hs.extBut b o (fun q=>hb (by simp [q])) e
  rw [List.mem_singleton.mp hb] at e
  refine aS (hm) fun o' es ep e' hd _=>?_
  try clear hm
  rw [e'] at e; (have oc:=Option.some.inj e; clear e; subst oc)
  exact .inl fun vs n q=>by rw [hd] at q; cases q
theorem EP.sameBut {P:Addr→Prop}{s s₂:Shared}{h h':Heap}{tk:Nat}{C:Addr}{m:Str→Option Value}{d:PyData}{md:Mode}{v:Value} (E:EP prog w P s (.d d,md) v { s₂ with heap:=h,toks:=tk }) (hm:h.Ns C m) (hC:s.heap.get? C=none) (hs:Heap.SameBut C h h') :
    EP prog w P s (.d d,md) v { s₂ with heap:=h',toks:=tk }:=by
  obtain ⟨E8,as,E9,r1,r2,r3⟩:=E
  refine av (E8) fun hh tk' e kp=>?_
  try clear E8
  refine ae (E9) fun r z=>?_
  try clear E9
  cases s₂; cases s; cases e
  refine aS (id hm) fun o' es ep e' hd _=>?_
  refine ⟨(az h' tk rfl (K.step kp (KG.ofW (wr:=[C]) (fun b o hb e=>hs.extBut b o (fun q=>hb (by simp [q])) e) fun b hb o e=>?_) fun b o e q=>?_)),as,⟨R.sameBut r hm hs,z⟩,r1,r2,r3⟩
  · rw [List.mem_singleton.mp hb,e'] at e; (have oc:=Option.some.inj e; clear e; subst oc)
    exact Stay.not_data (fun uu q=>by rw [hd] at q; cases q) fun uu uu q=>by rw [hd] at q; cases q
  · rw [List.mem_singleton.mp q,hC] at e; exact nN e
theorem lh {x:String}{px:Pos}{elt iter:Expr}{ifs:List Expr}{sc:Scope}{pos:Pos}{A:Around}{env:Env}{σ:St}{P:Addr→Prop}{s:Shared}{Q:Value→Shared→Prop}{Er:Value→Shared→Prop}{h:Heap}
    (hsc:fK env.scope.names sc x=true) (X:Cx prog w fns k A P h env σ) (hset:∀ v,foldedSetIterable iter env v=pure v)
    (h:∀ cl:List (Str × Addr),(∀ n,(n,NameKind.free)∈sc.names→cl.lookup n=env.cells.lookup n)→wpAny (model prog w) A (eval iter env) (fun v s₁=>wpAny (model prog w) A (pyIter v) (fun i s₂=>wpAny (model prog w) A (newObj (.type "list") (.seq #[]) none) (fun acc s₃=>
      wpAny (model prog w) A (newFunctionEnv sc env.globals cl [] env.qual none .none (some env)) (fun cenv s₄=>
        codeAny (model prog w) A (.compStart (.ListComp elt [⟨.Name (Str.ofString x) px,iter,ifs,0⟩] sc pos) 0 i acc { cenv with scope:=relabel sc env }) (compPost (model prog w) A Er none Q acc cenv.locals) s₄) Er s₃) Er s₂) Er s₁) Er s) :
    wpAny (model prog w) A (eval (.ListComp elt [⟨.Name (Str.ofString x) px,iter,ifs,0⟩] sc pos) env) Q Er s:=by
  refine ck (gj hsc) fun hk hnd htg hnames=>?_
  obtain ⟨cl,hcl,hclk⟩:=jF (scope:=sc) (env:=env) (fun p hp e=>by
    rcases hnames p hp with h | h | h | h
    · rw [h.1] at e; cases e
    · rw [h] at e; cases e
    · rw [h.1] at e; cases e
    · exact X.eok.cells p.1 h.2)
  rw [eval_ListComp]
  exact wpAny_comprehension_free (use:=none) rfl hset hcl hk (fun y hy e=>by rw [← e]; exact gv hnd hy) (h cl hclk)
theorem dS {α:Type}{o:Out α} (h:o.calm≠.bad):∃ a,o = .ok a:=by
  cases o with
  | ok a=>exact ⟨a,rfl⟩
  | exc c=>exact absurd rfl h
  | bad=>exact absurd rfl h
theorem ue {elt:E}{x:String}{it:It} (Si:dk prog w fns k C XP it) (Se:SimE prog w fns k C XP elt):SimE prog w fns k C XP (.comp elt x it):=by
  intro ex A env σ P s Q Er ok X nb hQ hE
  replace ok:=rx ok
  revert ok; refine fun Fj=>Or.elim Fj (fun Fe=>?_) (fun ok=>?_)
  · clear Fj
    refine o4 (Fe) fun FK FR Ga FX Go FT Gr ok=>?_
    clear Fe
    subst Gr
    simp only [Bool.and_eq_true,beq_iff_eq] at ok
    refine ae (ok) fun Fa oe=>?_
    try clear ok
    refine ae (Fa) fun Fb oi=>?_
    try clear Fa
    refine ae (Fb) fun Fc hsc=>?_
    try clear Fb
    subst Fc
    simp only [gJ] at nb hQ hE
    refine ae (aq nb) fun n1 n2=>?_
    refine lh hsc X (j8 oi env) fun cl hcl=>Si oi X n1 (fun q hq i s₂ I=>?_) fun c hc=>hE c (by rw [hc]; rfl)
    refine ai (dS (aq (n2 q hq)).1) fun res hres=>?_
    refine ew (RR:=fun acc C=>compPost (model prog w) A Er none Q acc C) (ds:=q.1) hsc X hres (fun d r hf cenv s₃ P' Q₁ Q₂ Er' hN X' h1 h2=>wpAny_tests_nil ?_) I (fun D C h tk m E hm hC=>(ag m hm (fun h' hs=>hQ _ (by rw [hq,Out.ok_bind,hres]; rfl) _ _ (E.sameBut hm hC hs)))) hcl
    rw [if_pos rfl]
    refine aa (Out.bind_ok hf) fun y hy e=>?_
    (have oc:=Out.ok.inj e; clear e; (clear h1 hf; subst oc))
    refine Se (hN▸oe) X' (by rw [hy]; simp) (fun r hr v s' E=>h2 r (by rw [hy] at hr; (have oc:=Out.ok.inj hr; clear hr; (clear E; subst oc)); rfl) v s' E) fun c hc=>by rw [hy] at hc; cases hc
  · cases ok
theorem qo {elt c:E}{x:String}{it:It} (Si:dk prog w fns k C XP it) (Se:SimE prog w fns k C XP elt) (Sc:SimT prog w fns k C XP c):SimE prog w fns k C XP (.compif elt x it c):=by
  intro ex A env σ P s Q Er ok X nb hQ hE
  replace ok:=lZ ok
  revert ok; refine fun Fk=>Or.elim Fk (fun Fg=>?_) (fun ok=>?_)
  · clear Fk
    refine iv (Fg) fun F0 FU FY GI GL GB GR Gf ok=>?_
    clear Fg
    subst Gf
    simp only [Bool.and_eq_true,beq_iff_eq] at ok
    refine ae (ok) fun Fd oe=>?_
    try clear ok
    refine ae (Fd) fun Ff oc=>?_
    try clear Fd
    refine ae (Ff) fun Fi oi=>?_
    try clear Ff
    refine ae (Fi) fun Fh hsc=>?_
    try clear Fi
    subst Fh
    simp only [eg] at nb hQ hE
    refine ae (aq nb) fun n1 n2=>?_
    refine lh hsc X (j8 oi env) fun cl hcl=>Si oi X n1 (fun q hq i s₂ I=>?_) fun c hc=>hE c (by rw [hc]; rfl)
    refine ai (dS (aq (n2 q hq)).1) fun res hres=>?_
    refine ew (RR:=fun acc C=>compPost (model prog w) A Er none Q acc C) (ds:=q.1) hsc X hres (fun d r hf cenv s₃ P' Q₁ Q₂ Er' hN X' h1 h2=>wpAny_tests_one ?_) I (fun D C h tk m E hm hC=>(ag m hm (fun h' hs=>hQ _ (by rw [hq,Out.ok_bind,hres]; rfl) _ _ (E.sameBut hm hC hs)))) hcl
    refine aa (Out.bind_ok hf) fun t ht hf=>?_
    refine aa (Out.bind_ok hf) fun b hb hf=>?_
    refine Sc (hN▸oc) X' (by rw [ht,Out.ok_bind,hb]; simp) (fun b' hb' s₄ k₄=>?_) fun c hc=>by rw [ht] at hc; cases hc
    rw [ht,Out.ok_bind,hb] at hb'
    (have oc:=Out.ok.inj hb'; clear hb'; subst oc)
    cases b with
    | false=>(have oc:=Out.ok.inj hf; clear hf; (clear h2; subst oc)); simpa using h1 rfl s₄ k₄
    | true=>
      rw [if_pos rfl] at hf ⊢
      refine aa (Out.bind_ok hf) fun y hy e=>?_
      (have oc:=Out.ok.inj e; clear e; (clear h1; subst oc))
      exact Se (hN▸oe) (X'.k k₄.k) (by rw [hy]; simp) (fun r hr v s' E=>h2 r (by rw [hy] at hr; (have oc:=Out.ok.inj hr; clear hr; (clear E; subst oc)); rfl) v s' (E.after k₄)) fun c hc=>by rw [hy] at hc; cases hc
  · cases ok
end
end Mine
namespace Mine
set_option tactic.hygienic false
set_option linter.unusedVariables false
open PySem PyProof.Rows
set_option linter.unusedSectionVars false
variable [SF:Soft]
theorem ig (val:Nat→Int):∀ k,argBest (fun i j=>decide (val i > val j)) k≤k∧∀ j,j≤k→val j≤val (argBest (fun i j=>decide (val i > val j)) k)
  | 0=>⟨Nat.le_refl _,fun j hj=>by
    have:j=0:=by exact Cz hj
    (clear hj; subst this)
    exact Int.le_refl _⟩
  | k + 1=>by
    refine ae (ig val k) fun h1 h2=>?_
    unfold argBest
    by_cases hc:val (k + 1) > val (argBest (fun i j=>decide (val i > val j)) k)
    · rw [if_pos (by simpa using hc)]
      refine ⟨Nat.le_refl _,fun j hj=>?_⟩
      by_cases e:j=k + 1
      · (clear hj; subst e); exact Int.le_refl _
      · have:=h2 j (by exact vR hj e); exact Al hc this
    · rw [if_neg (by simpa using hc)]
      refine ⟨by exact Nat.le_succ_of_le (by assumption),fun j hj=>?_⟩
      by_cases e:j=k + 1
      · (clear hj; subst e); exact z7 hc
      · exact h2 j (by exact vR hj e)
theorem lI {ns:List Int}{m:Int} (h:dA ns=some m):ns[argBest (fun i j=>decide (ns[i]?.getD 0 > ns[j]?.getD 0)) (ns.length - 1)]?.getD 0=m:=by
  refine ae (ig (fun i=>ns[i]?.getD 0) (ns.length - 1)) fun h1 h2=>?_
  refine ae (kP h) fun hm1 hm2=>?_
  have hn:0<ns.length:=List.length_pos_of_mem hm1
  generalize argBest (fun i j=>decide (ns[i]?.getD 0 > ns[j]?.getD 0)) (ns.length - 1)=b at *
  have hb:ns[b]? = some ns[b]:=List.getElem?_eq_getElem (by exact AM hn h1)
  rw [hb]
  dsimp only [Option.getD_some]
  have le1:=hm2 ns[b] (List.getElem_mem _)
  refine ai (List.getElem_of_mem hm1) fun j Fv=>?_
  refine ai (Fv) fun hj e=>?_
  try clear Fv
  have le2:=h2 j (by exact Cy hj)
  rw [hb,List.getElem?_eq_getElem hj,e] at le2
  simp only [Option.getD_some] at le2
  exact pH le1 le2
section
variable {prog:Program}{w:World}{fns:Fns}{k:Nat}{C:Calls}{XP:String→Shared→Value→Shared→Prop}
variable {va:Value}{as:List Addr}{A:Around}{P:Addr→Prop}{s:Shared}{Q:Value→Shared→Prop}{Er:Value→Shared→Prop}
theorem wH {vs:List Value}{ns:List Int} (h:IntsAre vs ns):∀ {i:Nat}{v:Value},vs[i]? = some v→∃ t,v = .int (ns[i]?.getD 0) t:=by
  induction h with
  | nil=>intro i v h; simp at h
  | cons n t _ ih=>
    intro i v h
    cases i with
    | zero=>simp at h; exact ⟨t,by simp [← h]⟩
    | succ i=>simpa using ih (by simpa using h)
theorem rT {xs:List PyData}{ns:List Int}{G:Value→Shared→Prop} (hh:A.handled=none) (ra:R s.heap va (.list xs) as) (hi:aN xs=some ns)
    (hG:∀ I fp wr Pw St s₂,Walks prog w A I fp wr ns.length Pw St→St 0 s₂.heap→(∀ b∈fp,b<s₂.heap.objs.size)→(∀ i v,Pw i v→∃ t,v = .int (ns[i]?.getD 0) t)→(∀ b∈wr,s.heap.get? b=none∧∀ o,s₂.heap.get? b=some o→¬ Stay o)→Kp s s₂→G (.ref I) s₂) :
    wpAny (model prog w) A (pyIter va) G Er s:=by
  refine bI (ra.isList) fun a vs n cs E5 ea ra' E6=>?_
  (clear ra; subst E5)
  subst E6
  refine aB (ra'.ints hi) fun hI E7 E8=>?_
  subst E7
  subst E8
  have e:vs.toArray.size=ns.length:=by rw [List.size_toArray,ra'.length,List.length_map]
  have W:=Walks.list (prog:=prog) (w:=w) (A:=A) hh s.heap.objs.size a (dF ea) vs.toArray
  rw [e] at W
  refine wpAny_pyIter_list (isL ea) (hG _ _ _ _ _ _ W ⟨(aA _ (Heap.get?_push_size _ rfl) rfl rfl),(isL ea).push _⟩ ?_ ?_ ?_ (.push s _ _))
  · intro b hb
    rw [show _=s.heap.objs.size + 1 from Heap.size_push ..]
    rcases List.mem_cons.mp hb with rfl | hb
    · exact Nat.lt_succ_self _
    · rw [List.mem_singleton.mp hb]; exact Nat.lt_succ_of_lt (Heap.lt_size ea)
  · intro i v hv
    exact wH hI (by simpa using hv)
  · intro b hb
    rw [List.mem_singleton.mp hb]
    refine ⟨a8 _,fun o e=>?_⟩
    rw [show _=some _ from Heap.get?_push_size _ rfl] at e
    (have oc:=Option.some.inj e; clear e; subst oc)
    exact Stay.not_cls (by simp) (by simp)
theorem Kp.after {s s₂:Shared}{h':Heap}{tk:Nat}{wr:List Addr} (kp:Kp s s₂) (hwr:∀ b∈wr,s.heap.get? b=Option.none∧∀ o,s₂.heap.get? b=some o→¬ Stay o) (hk:∀ b o,b∉wr→s₂.heap.get? b=some o→h'.get? b=some o):Kp s { s₂ with heap:=h',toks:=tk }:=by
  refine av (kp) fun h t E9 k=>?_
  try clear kp
  subst E9
  exact (az h' tk rfl (K.step k (KG.ofW hk fun b hb=>(hwr b hb).2) fun b o e hb=>by rw [(hwr b hb).1] at e; cases e))
theorem sS {xs:List PyData}{ns:List Int}{m:Int} (hh:A.handled=none) (ra:R s.heap va (.list xs) as) (hi:aN xs=some ns) (hm:dA ns=some m) (hQ:∀ v s',EP prog w P s (sI m) v s'→Q v s'):wpAny (model prog w) A (call (.builtin "max") [va]) Q Er s:=by
  refine call_max_walk (rT (A:=A.in1) hh ra hi fun I fp wr Pw St s₂ W hst hfp hval hwr kp=>(mS I fp wr _ Pw St _ rfl W hst hfp (List.length_pos_of_mem (kP hm).1) (CmpOf.ints_gt _ hval) (fun v h' tk hv hk=>?_)))
  refine ai (hval _ _ hv) fun t Fa=>?_
  (clear hv; subst Fa)
  rw [lI hm]
  exact hQ _ _ (.int (kp.after hwr hk))
noncomputable def Isi (prog:Program) (w:World) (s:Shared) (t:String) (v:Value) (b:Bool):Prop:=∀ (A:Around) (Q:Value→Shared→Prop) (Er:Value→Shared→Prop),(∀ s',Kp s s'→Q (.bool b) s')→wpAny (model prog w) A (call (.builtin "isinstance") [v,.type t]) Q Er s
theorem ii {t:String}{f:Nat→Bool} (h0:Isi prog w s t .none (f 0)) (h1:∀ b,Isi prog w s t (.bool b) (f 1)) (h2:∀ i u,Isi prog w s t (.int i u) (f 2)) (h3:∀ x u,Isi prog w s t (.str x u) (f 3))
    (h4:∀ {a:Addr}{n:Nat}{vs:List Value},s.heap.get? a=some ⟨.type "list", none,.seq vs.toArray n,#[]⟩→Isi prog w s t (.ref a) (f 4)) (h5:∀ {a:Addr}{n:Nat}{vs:List Value},s.heap.get? a=some ⟨.type "tuple", none,.seq vs.toArray n,#[]⟩→Isi prog w s t (.ref a) (f 5))
    {x:PyData} (ra:R s.heap va x as):Isi prog w s t va (f (lU x)) :=
  (R.ind (M:=fun v d _=>Isi prog w s t v (f (lU d))) (N:=fun uu uu uu=>True) h0 h1 h2 h3 (fun e _ _=>h4 e) (fun e _ _=>h5 e) trivial fun uu uu uu uu=>trivial).1 ra
theorem tp {x:PyData}{t:String}{b:Bool} (he:jU t (lU x)=some b) (ra:R s.heap va x as) (hQ:∀ s',Kp s s'→Q (.bool b) s'):wpAny (model prog w) A (call (.builtin "isinstance") [va,.type t]) Q Er s :=
  have k0:=Kp.refl s
  have k1:=Kp.toks s (s.toks + 1)
  l6 he (fun q eb=>q▸(ii (t := "int") (f:=fun k=>(k == 2 || k == 1)) (fun A Q Er h=>IsiPair.NoneType_int (h _ k1)) (fun uu A Q Er h=>IsiPair.bool_int (h _ k0)) (fun uu vv A Q Er h=>IsiPair.int_int (h _ k0)) (fun uu vv A Q Er h=>IsiPair.str_int (h _ k1)) (fun e A Q Er h=>IsiPair.list_int e rfl (h _ k1)) (fun e A Q Er h=>IsiPair.tuple_int e rfl (h _ k1)) ra) _ _ _ (eb▸hQ))
    (fun q eb=>q▸(ii (t := "bool") (f:=fun k=>(k == 1)) (fun A Q Er h=>IsiPair.NoneType_bool (h _ k1)) (fun uu A Q Er h=>IsiPair.bool_bool (h _ k0)) (fun uu vv A Q Er h=>IsiPair.int_bool (h _ k1)) (fun uu vv A Q Er h=>IsiPair.str_bool (h _ k1)) (fun e A Q Er h=>IsiPair.list_bool e rfl (h _ k1)) (fun e A Q Er h=>IsiPair.tuple_bool e rfl (h _ k1)) ra) _ _ _ (eb▸hQ))
    (fun q eb=>q▸(ii (t := "list") (f:=fun k=>(k == 4)) (fun A Q Er h=>IsiPair.NoneType_list (h _ k1)) (fun uu A Q Er h=>IsiPair.bool_list (h _ k1)) (fun uu vv A Q Er h=>IsiPair.int_list (h _ k1)) (fun uu vv A Q Er h=>IsiPair.str_list (h _ k1)) (fun e A Q Er h=>IsiPair.list_list e rfl (h _ k0)) (fun e A Q Er h=>IsiPair.tuple_list e rfl (h _ k1)) ra) _ _ _ (eb▸hQ))
    (fun q eb=>q▸(ii (t := "tuple") (f:=fun k=>(k == 5)) (fun A Q Er h=>IsiPair.NoneType_tuple (h _ k1)) (fun uu A Q Er h=>IsiPair.bool_tuple (h _ k1)) (fun uu vv A Q Er h=>IsiPair.int_tuple (h _ k1)) (fun uu vv A Q Er h=>IsiPair.str_tuple (h _ k1)) (fun e A Q Er h=>IsiPair.list_tuple e rfl (h _ k1)) (fun e A Q Er h=>IsiPair.tuple_tuple e rfl (h _ k0)) ra) _ _ _ (eb▸hQ))
    (fun q eb=>q▸(ii (t := "str") (f:=fun k=>(k == 3)) (fun A Q Er h=>IsiPair.NoneType_str (h _ k1)) (fun uu A Q Er h=>IsiPair.bool_str (h _ k1)) (fun uu vv A Q Er h=>IsiPair.int_str (h _ k1)) (fun uu vv A Q Er h=>IsiPair.str_str (h _ k0)) (fun e A Q Er h=>IsiPair.list_str e rfl (h _ k1)) (fun e A Q Er h=>IsiPair.tuple_str e rfl (h _ k1)) ra) _ _ _ (eb▸hQ))
theorem mv {a b:Int}{t u:Tok}{G:Value→Shared→Prop} (hh:A.handled=none)
    (hG:∀ I fp wr Pw St s₂,Walks prog w A I fp wr 2 Pw St→St 0 s₂.heap→(∀ b∈fp,b<s₂.heap.objs.size)→(∀ i v,Pw i v→∃ t,v = .int ([a,b][i]?.getD 0) t)→(∀ b∈wr,s.heap.get? b=none∧∀ o,s₂.heap.get? b=some o→¬ Stay o)→Kp s s₂→G (.ref I) s₂) :
    wpAny (model prog w) A (pyIter (.ref s.heap.objs.size)) G Er { s with heap:=s.heap.push { cls:=.type "tuple", data:=.seq #[.int a t,.int b u] } }:=by
  have ht:(s.heap.push { cls:=.type "tuple", data:=.seq #[.int a t,.int b u] }).IsTuple s.heap.objs.size #[.int a t,.int b u]:=(aA _ (Heap.get?_push_size _ rfl) rfl (bl 0 rfl))
  have hsz:(s.heap.push { cls:=.type "tuple", data:=.seq #[.int a t,.int b u] }).objs.size=s.heap.objs.size + 1:=Heap.size_push ..
  have W:=Walks.tuple (prog:=prog) (w:=w) (A:=A) hh (s.heap.objs.size + 1) s.heap.objs.size (Nat.ne_of_lt (Nat.lt_succ_self _)) #[.int a t,.int b u]
  refine wpAny_pyIter_tuple ht ?_
  dsimp only
  rw [hsz]
  refine hG _ _ _ _ _ _ W ⟨(aA ({ cls:=.type "tuple_iterator", data:=.fields #[.ref s.heap.objs.size,.int 0 0] }) ?_ rfl rfl),ht.push _⟩ ?_ ?_ ?_ ?_
  · exact hsz▸Heap.get?_push_size _ rfl
  · intro b hb
    dsimp only
    rw [Heap.size_push,hsz]
    rcases List.mem_cons.mp hb with rfl | hb
    · exact Nat.lt_succ_self _
    · rw [List.mem_singleton.mp hb]; exact Nat.lt_succ_of_lt (Nat.lt_succ_self _)
  · intro i v hv
    match i,hv with
    | 0,hv=>simp at hv; exact ⟨t,by simp [← hv]⟩
    | 1,hv=>simp at hv; exact ⟨u,by simp [← hv]⟩
    | i + 2,hv=>simp at hv
  · intro b hb
    rw [List.mem_singleton.mp hb]
    refine ⟨Heap.get?_none_of_le (Nat.le_succ _),fun o e=>?_⟩
    dsimp only at e
    rw [← hsz,show _=some _ from Heap.get?_push_size _ rfl] at e
    (have oc:=Option.some.inj e; clear e; subst oc)
    exact Stay.not_cls (by simp) (by simp)
  · exact (Kp.push s _ s.toks).trans (Kp.push _ _ s.toks)
theorem wR {f:B2}{a b:Int}{t u:Tok}{r:V × Mode} (hh:A.handled=none) (he:b2V f (.d (.int a)) (.d (.int b)) = .ok r) (hQ:∀ v s',EP prog w P s r v s'→Q v s'):wpAny (model prog w) A (call (.builtin (b2n f)) [.int a t,.int b u]) Q Er s:=by
  cases f with
  | max=>
    (have oc:=Out.ok.inj he; clear he; subst oc)
    refine call_max_two (mv (A:=A.in1) hh fun I fp wr Pw St s₂ W hst hfp hval hwr kp=>(mS I fp wr 2 Pw St _ rfl W hst hfp (by exact Nat.le_succ _) (CmpOf.ints_gt _ hval) (fun v h' tk hv hk=>?_)))
    refine ai (hval _ _ hv) fun t Fb=>?_
    (clear hv; subst Fb)
    have e:([a,b][argBest (fun i j=>decide ([a,b][i]?.getD 0 > [a,b][j]?.getD 0)) (2 - 1)]?.getD 0)=if a<b then b else a:=by
      simp only [argBest,Nat.add_one_sub_one]
      by_cases hc:a<b
      · simp [hc]
      · simp [hc]
    rw [e]
    exact hQ _ _ (.int (kp.after hwr hk))
  | min=>
    (have oc:=Out.ok.inj he; clear he; subst oc)
    refine call_min_two (mv (A:=A.in1) hh fun I fp wr Pw St s₂ W hst hfp hval hwr kp=>(mS I fp wr 2 Pw St _ rfl W hst hfp (by exact Nat.le_succ _) (CmpOf.ints_lt _ hval) (fun v h' tk hv hk=>?_)))
    refine ai (hval _ _ hv) fun t Fc=>?_
    (clear hv; subst Fc)
    have e:([a,b][argBest (fun i j=>decide ([a,b][i]?.getD 0 < [a,b][j]?.getD 0)) (2 - 1)]?.getD 0)=if b<a then b else a:=by
      simp only [argBest,Nat.add_one_sub_one]
      by_cases hc:b<a
      · simp [hc]
      · simp [hc]
    rw [e]
    exact hQ _ _ (.int (kp.after hwr hk))
end
end Mine
namespace Mine
open PySem PyProof.Rows
section
variable {M:Model}{A:Around}{E:Value→Shared→Prop}{s:Shared}{rk:Keyed→Nat}{ok:Keyed→Prop}{κ:SortKind}
def rkA (rk:Keyed→Nat) (arr:Array Keyed) (i:Nat):Nat:=match arr[i]? with
  | some p=>rk p
  | none=>0
def fC (M:Model) (A:Around) (E:Value→Shared→Prop) (s:Shared) (rk:Keyed→Nat) (ok:Keyed→Prop) (κ:SortKind):Prop :=
  ∀ {x y:Keyed}{st:SortSt}{Q:Option Bool→SortSt→Prop},ok x→ok y→kindOf st=κ→Q (some (decide (rk x<rk y))) st→wpS M A E s (lt' x y) Q st
theorem mu {arr:Array Keyed}{i:Nat}{st:SortSt}{Q:Keyed→SortSt→Prop} (hi:i<arr.size) (h:Q arr[i] st):wpS M A E s (elem' arr i) Q st:=by
  rw [elem'_eq,Array.getElem?_eq_getElem hi]
  exact wpS_pure h
theorem kD {arr:Array Keyed}{i:Nat} (hi:i<arr.size):rkA rk arr i=rk arr[i]:=by unfold rkA; rw [Array.getElem?_eq_getElem hi]
end
end Mine
namespace Mine
open PySem PyProof.Rows
def Up (rk:Keyed→Nat) (l:List Keyed):Prop:=l.Pairwise fun x y=>rk x≤rk y
structure MI (rk:Keyed→Nat) (a b o:List Keyed) (i j:Nat):Prop where
section
variable {rk:Keyed→Nat}{a b o:List Keyed}{i j:Nat}
end
section
variable {M:Model}{A:Around}{E:Value→Shared→Prop}{s:Shared}{rk:Keyed→Nat}{ok:Keyed→Prop}{κ:SortKind}
theorem lH {x:String}{st:SortSt}{Q:Unit→SortSt→Prop} (h:Q () st):wpS M A E s (liftM (rule x):StateT SortSt Sem Unit) Q st:=wpS_pure (M:=M) (E:=E) h
theorem ju {arr:Array Keyed}{i:Nat} (hi:i<arr.toList.length):rkA rk arr i=rk arr.toList[i]:=by rw [Array.length_toList] at hi; rw [kD hi]; rfl
end
end Mine
namespace Mine
open PySem PyProof.Rows
section
variable {M:Model}{A:Around}{E:Value→Shared→Prop}{s:Shared}{rk:Keyed→Nat}{ok:Keyed→Prop}{κ:SortKind}
structure Two (rk:Keyed→Nat) (ok:Keyed→Prop) (a b:Array Keyed):Prop where
structure LoS (rk:Keyed→Nat) (a b:Array Keyed) (st:SortSt) (n:Nat) (out:Array Keyed) (ia ib:Nat) (st':SortSt):Prop where
section
variable {a b:Array Keyed}{st st':SortSt}{out:Array Keyed}{ia ib n m x mg k l ac bc:Nat}
end
end
end Mine
namespace Mine
open PySem PyProof.Rows
structure MH (rk:Keyed→Nat) (a b o:List Keyed) (i j:Nat):Prop where
section
variable {rk:Keyed→Nat}{a b o:List Keyed}{i j:Nat}
end
section
variable {M:Model}{A:Around}{E:Value→Shared→Prop}{s:Shared}{rk:Keyed→Nat}{ok:Keyed→Prop}{κ:SortKind}
structure HiS (rk:Keyed→Nat) (a b:Array Keyed) (st:SortSt) (n na nb:Nat) (out:Array Keyed) (st':SortSt):Prop where
section
variable {a b:Array Keyed}{st st':SortSt}{out:Array Keyed}{na nb n m x mg k l ac bc:Nat}
end
end
end Mine
namespace Mine
set_option tactic.hygienic false
set_option linter.unusedVariables false
open PySem PyProof.Rows
section
variable {M:Model}{A:Around}{E:Value→Shared→Prop}{s:Shared}{rk:Keyed→Nat}{ok:Keyed→Prop}{κ:SortKind}
structure Gd (rk:Keyed→Nat) (ok:Keyed→Prop) (κ:SortKind) (st:SortSt):Prop where
  ok:∀ p∈arrOf st,ok p
  kind:kindOf st=κ
structure Wn (lo hi:Nat) (st st':SortSt):Prop where
  kind:kindOf st' = kindOf st
  pend:pendingOf st' = pendingOf st
  fail:failedOf st' = failedOf st
  perm:(arrOf st').Perm (arrOf st)
  out:∀ k,(k<lo∨hi≤k)→(arrOf st')[k]? = (arrOf st)[k]?
theorem Wn.refl (lo hi:Nat) (st:SortSt):Wn lo hi st st:=⟨rfl,rfl,rfl,.refl _,fun uu uu=>rfl⟩
theorem Wn.trans {lo hi:Nat}{x y z:SortSt} (h:Wn lo hi x y) (g:Wn lo hi y z):Wn lo hi x z:=⟨g.kind.trans h.kind,g.pend.trans h.pend,g.fail.trans h.fail,g.perm.trans h.perm,fun k hk=>(g.out k hk).trans (h.out k hk)⟩
theorem Gd.of {lo hi:Nat}{st st':SortSt} (g:Gd rk ok κ st) (h:Wn lo hi st st'):Gd rk ok κ st':=⟨fun p hp=>g.ok p (h.perm.mem_iff.mp hp),h.kind.trans g.kind⟩
theorem Wn.size {lo hi:Nat}{st st':SortSt} (h:Wn lo hi st st'):(arrOf st').size=(arrOf st).size:=h.perm.size_eq
theorem cA {xs ys:Array Keyed}{i j:Nat} (h:xs[i]? = ys[j]?):rkA rk xs i=rkA rk ys j:=by unfold rkA; rw [h]
theorem eN (hlt:fC M A E s rk ok κ) {st:SortSt}{i j:Nat}{Q:Option Bool→SortSt→Prop} (g:Gd rk ok κ st) (hi:i<(arrOf st).size) (hj:j<(arrOf st).size) (h:Q (some (decide (rkA rk (arrOf st) i<rkA rk (arrOf st) j))) st):wpS M A E s (ltAt' i j) Q st:=by
  rw [ltAt'_eq]
  refine wpS_bind (wpS_get (wpS_bind (mu hi (wpS_bind (mu hj (hlt (g.ok _ (Array.getElem_mem _)) (g.ok _ (Array.getElem_mem _)) g.kind ?_))))))
  rw [kD hi,kD hj] at h
  exact h
def SegUp (rk:Keyed→Nat) (arr:Array Keyed) (lo n:Nat):Prop:=∀ i j,lo≤i→i≤j→j<lo + n→rkA rk arr i≤rkA rk arr j
def SegDn (rk:Keyed→Nat) (arr:Array Keyed) (lo n:Nat):Prop:=∀ i j,lo≤i→i≤j→j<lo + n→rkA rk arr j≤rkA rk arr i
theorem SegUp.succ {arr:Array Keyed}{lo n:Nat} (h:SegUp rk arr lo n) (h1:1≤n) (hn:rkA rk arr (lo + n - 1)≤rkA rk arr (lo + n)):SegUp rk arr lo (n + 1):=by
  intro i j hi hij hj
  by_cases e:j=lo + n
  · (clear hj; subst e)
    by_cases e':i=lo + n
    · (clear hi hij; subst e'); exact Nat.le_refl _
    · exact Nat.le_trans (h i (lo + n - 1) hi (by exact vH hij e') (by exact qt h1)) hn
  · exact h i j hi hij (by exact vX hj e)
theorem SegDn.succ {arr:Array Keyed}{lo n:Nat} (h:SegDn rk arr lo n) (h1:1≤n) (hn:rkA rk arr (lo + n)≤rkA rk arr (lo + n - 1)):SegDn rk arr lo (n + 1):=by
  intro i j hi hij hj
  by_cases e:j=lo + n
  · (clear hj; subst e)
    by_cases e':i=lo + n
    · (clear hi hij; subst e'); exact Nat.le_refl _
    · exact Nat.le_trans hn (h i (lo + n - 1) hi (by exact vH hij e') (by exact qt h1))
  · exact h i j hi hij (by exact vX hj e)
theorem iB {i j:Nat}{st:SortSt}{Q:Unit→SortSt→Prop} (h:Q () (setArr st (mirror (arrOf st) i j ((j - i) / 2)))):wpS M A E s (reverseSlice' i j) Q st:=by
  rw [reverseSlice'_eq]; exact wpS_modify h
noncomputable def rN (lo nrem n:Nat):StateT SortSt Sem (Option Nat):=do
  let mut n:=n
  reverseSlice' lo (lo + n)
  for _ in [n:nrem] do
    let some smaller ← ltAt' (lo + n) (lo + n - 1) | return none
    if smaller then break
    n:=n + 1
  return some n
noncomputable def qQ (lo nrem n:Nat):StateT SortSt Sem (Option Nat):=do
  let mut n:=n
  rule "list.sort.descending-run"
  n:=n + 1
  let mut neq:=0
  for _ in [n:nrem] do
    let some smaller ← ltAt' (lo + n) (lo + n - 1) | return none
    if smaller then
      if neq > 0 then reverseSlice' (lo + n - (neq + 1)) (lo + n)
      neq:=0
    else
      let some larger ← ltAt' (lo + n - 1) (lo + n) | return none
      if larger then break
      neq:=neq + 1
    n:=n + 1
  if neq > 0 then reverseSlice' (lo + n - (neq + 1)) (lo + n)
  reverseSlice' lo (lo + n)
  for _ in [n:nrem] do
    let some smaller ← ltAt' (lo + n) (lo + n - 1) | return none
    if smaller then break
    n:=n + 1
  return some n
theorem gQ {xs:Array Keyed}{i j:Nat} (hj:j≤xs.size) (he:∀ k,i≤k→k<j→rkA rk xs k=rkA rk xs (j - 1)) (k:Nat):rkA rk (mirror xs i j ((j - i) / 2)) k=rkA rk xs k:=by
  by_cases c:i≤k∧k<j
  · rw [cA (j:=i + j - 1 - k) (ys:=xs) (by rw [getElem?_mirror_all hj,if_pos c]),he (i + j - 1 - k) (by exact Bq c) (by exact zH c),he k c.1 c.2]
  · exact cA (by rw [getElem?_mirror_all hj,if_neg c])
theorem fj {lo hi i j:Nat}{st:SortSt} (hj:j≤(arrOf st).size) (h1:lo≤i) (h2:j≤hi):Wn lo hi st (setArr st (mirror (arrOf st) i j ((j - i) / 2))):=⟨rfl,rfl,rfl,mirror_perm _ _ _ _,fun k hk=>by
  show (mirror _ _ _ _)[k]? = _
  rw [getElem?_mirror_all hj,if_neg (by exact A4 h1 h2 hk)]⟩
theorem jI (hlt:fC M A E s rk ok κ) {lo nrem n:Nat}{st:SortSt}{Q:Option Nat→SortSt→Prop} (g:Gd rk ok κ st) (hn:lo + nrem≤(arrOf st).size) (h1:1≤n) (h2:n≤nrem) (dn:SegDn rk (arrOf st) lo n)
    (h:∀ n st',1≤n→n≤nrem→Wn lo (lo + nrem) st st'→SegUp rk (arrOf st') lo n→Q (some n) st'):wpS M A E s (rN lo nrem n) Q st:=by
  unfold rN
  refine wpS_bind (iB ?_)
  have hsz:lo + n≤(arrOf st).size:=by exact Cc hn h2
  have w2:Wn lo (lo + nrem) st (setArr st (mirror (arrOf st) lo (lo + n) ((lo + n - lo) / 2))):=fj hsz (Nat.le_refl _) (by exact Nat.add_le_add_left (by assumption) _)
  have up2:SegUp rk (mirror (arrOf st) lo (lo + n) ((lo + n - lo) / 2)) lo n:=by
    intro i j hi hij hj
    rw [cA (j:=lo + (lo + n) - 1 - i) (ys:=arrOf st) (by rw [getElem?_mirror_all hsz,if_pos ⟨hi,by exact Nat.lt_of_le_of_lt (by assumption) (by assumption)⟩]),cA (i:=j) (j:=lo + (lo + n) - 1 - j) (ys:=arrOf st) (by rw [getElem?_mirror_all hsz,if_pos ⟨by exact Nat.le_trans (by assumption) (by assumption),hj⟩])]
    exact dn _ _ (by exact Ao hj) (by exact zh hij) (by exact AQ h1 hi)
  generalize hst:setArr st (mirror (arrOf st) lo (lo + n) ((lo + n - lo) / 2))=st2 at w2 ⊢
  have up2:SegUp rk (arrOf st2) lo n:=by rw [← hst]; exact up2
  have g2:=g.of w2
  have hs2:=w2.size
  refine wpS_bind (wpS_mono (wpS_forRange (I:=fun x c st'=>st' = st2∧c=(none,x)∧x≤nrem∧SegUp rk (arrOf st2) lo x)
    (Q:=fun c st'=>st' = st2∧∃ n,c=(none,n)∧1≤n∧n≤nrem∧SegUp rk (arrOf st2) lo n) ?_ ?_ (ca rfl rfl h2 up2)) ?_)
  · intro x c st' hx1 hx2 E5
    refine ck (E5) fun E6 E7 gx up=>?_
    try clear E5
    (clear up2 w2; subst E6)
    subst E7
    refine wpS_bind (eN hlt g2 (by exact adl hx2 (Nat.le_trans hn (Nat.le_of_eq hs2.symm))) (by exact pG (adl hx2 (Nat.le_trans hn (Nat.le_of_eq hs2.symm)))) ?_)
    dsimp only
    by_cases w:rkA rk (arrOf st') (lo + x)<rkA rk (arrOf st') (lo + x - 1)
    · rw [decide_eq_true w,if_pos rfl]
      exact wpS_pure (aG rfl (a7 x rfl (by exact Nat.lt_of_lt_of_le (by assumption) (by assumption)) gx up))
    · rw [decide_eq_false w,if_neg (by decide)]
      exact wpS_pure (ca rfl rfl (by assumption) (up.succ (by exact Nat.lt_of_lt_of_le (by assumption) (by assumption)) (Nat.le_of_not_lt w)))
  · intro c st' E8
    refine ck (E8) fun E9 Fa gx up=>?_
    try clear E8
    (clear g2 hs2 up2 w2; subst E9)
    subst Fa
    rw [show max n nrem=nrem by exact CP gx] at *
    exact (aG rfl (a7 nrem rfl (by exact Nat.lt_of_lt_of_le (by assumption) (by assumption)) (Nat.le_refl _) up))
  · intro c st' Fb
    obtain ⟨Fc,n',Fd,p1,p2,up'⟩:=Fb
    (clear g2 hs2 up2; subst Fc)
    subst Fd
    exact wpS_pure (h n' st' p1 p2 w2 up')
theorem SegDn.congr {xs ys:Array Keyed}{lo n:Nat} (h:SegDn rk xs lo n) (e:∀ k,rkA rk ys k=rkA rk xs k):SegDn rk ys lo n:=fun i j a b c=>by rw [e,e]; exact h i j a b c
theorem jr (hlt:fC M A E s rk ok κ) {lo nrem n:Nat}{st:SortSt}{Q:Option Nat→SortSt→Prop} (g:Gd rk ok κ st) (hn:lo + nrem≤(arrOf st).size) (h1:1≤n) (h2:n<nrem) (dn:SegDn rk (arrOf st) lo (n + 1))
    (h:∀ n st',1≤n→n≤nrem→Wn lo (lo + nrem) st st'→SegUp rk (arrOf st') lo n→Q (some n) st'):wpS M A E s (qQ lo nrem n) Q st:=by
  unfold qQ
  refine wpS_bind (lH ?_)
  refine wpS_bind (wpS_mono (wpS_forRange (I:=fun x c st''=>∃ neq,c=(none,x,neq)∧Wn lo (lo + nrem) st st''∧(∀ k,rkA rk (arrOf st'') k=rkA rk (arrOf st) k)∧x≤nrem∧neq + 1≤x∧SegDn rk (arrOf st) lo x∧∀ k,x - (neq + 1)≤k→k<x→rkA rk (arrOf st) (lo + k)=rkA rk (arrOf st) (lo + x - 1))
    (Q:=fun c st''=>∃ x neq,c=(none,x,neq)∧Wn lo (lo + nrem) st st''∧(∀ k,rkA rk (arrOf st'') k=rkA rk (arrOf st) k)∧x≤nrem∧neq + 1≤x∧SegDn rk (arrOf st) lo x∧∀ k,x - (neq + 1)≤k→k<x→rkA rk (arrOf st) (lo + k)=rkA rk (arrOf st) (lo + x - 1)) ?_ ?_ (o9 0 rfl (.refl ..) (fun uu=>rfl) (by assumption) (by exact Nat.succ_pos _) dn (fun k k1 k2=>by rw [show lo + k=lo + (n + 1) - 1 by exact vQ k1 k2]))) ?_)
  · intro x c st'' hx1 hx2 Ff
    refine uQ (Ff) fun neq Fi wn e gx nx dn eq=>?_
    try clear Ff
    subst Fi
    have g':=g.of wn
    have hsz:=wn.size
    dsimp only
    refine wpS_bind (eN hlt g' (by exact lE hn hx2 hsz) (by exact vz hn hx2 hsz) ?_)
    dsimp only
    rw [e,e]
    by_cases w:rkA rk (arrOf st) (lo + x)<rkA rk (arrOf st) (lo + x - 1)
    · rw [decide_eq_true w,if_pos rfl]
      have fin:∀ st3,Wn lo (lo + nrem) st st3→(∀ k,rkA rk (arrOf st3) k=rkA rk (arrOf st) k)→∃ neq',((none:Option (Option Nat)),x + 1,0)=(none,x + 1,neq')∧Wn lo (lo + nrem) st st3∧(∀ k,rkA rk (arrOf st3) k=rkA rk (arrOf st) k)∧x + 1≤nrem∧neq' + 1≤x + 1∧SegDn rk (arrOf st) lo (x + 1)∧∀ k,x + 1 - (neq' + 1)≤k→k<x + 1→rkA rk (arrOf st) (lo + k)=rkA rk (arrOf st) (lo + (x + 1) - 1) :=
        fun st3 w3 e3=>(o9 0 rfl w3 e3 (by assumption) (by exact Nat.succ_pos _) (dn.succ (by exact Nat.lt_trans (by assumption) (by assumption)) (Nat.le_of_lt w)) (fun k k1 k2=>by rw [show lo + k=lo + (x + 1) - 1 by exact vQ k1 k2]))
      by_cases c1:neq > 0
      · rw [if_pos c1]
        refine wpS_bind (iB (wpS_pure (fin _ (wn.trans (fj (by exact uU hn hx2 hsz) (by exact vZ nx) (by exact Nat.add_le_add_left (by assumption) _))) fun k=>?_)))
        show rkA rk (mirror _ _ _ _) k=_
        rw [gQ (by exact uU hn hx2 hsz) fun k k1 k2=>by rw [e,e]; have:=eq (k - lo) (by exact wi k1) (by exact uW hx1 k2); rwa [show lo + (k - lo)=k by exact v5 nx k1] at this]
        exact e k
      · rw [if_neg c1]
        exact wpS_pure (fin _ wn e)
    · rw [decide_eq_false w,if_neg (by decide)]
      refine wpS_bind (eN hlt g' (by exact vz hn hx2 hsz) (by exact lE hn hx2 hsz) ?_)
      dsimp only
      rw [e,e]
      by_cases w':rkA rk (arrOf st) (lo + x - 1)<rkA rk (arrOf st) (lo + x)
      · rw [decide_eq_true w',if_pos rfl]
        exact wpS_pure (fe x neq rfl wn e gx nx dn eq)
      · rw [decide_eq_false w',if_neg (by decide)]
        refine wpS_pure (o9 (neq + 1) rfl wn e (by assumption) (by exact Nat.lt_succ_of_le (by assumption)) (dn.succ (by exact Nat.lt_trans (by assumption) (by assumption)) (Nat.le_of_not_lt w')) (fun k k1 k2=>?_))
        have q:rkA rk (arrOf st) (lo + x - 1)=rkA rk (arrOf st) (lo + x):=by exact Bz w w'
        rw [show lo + (x + 1) - 1=lo + x by exact zZ]
        by_cases e':k=x
        · rw [e']
        · rw [← q]; exact eq k (by exact A5 k1) (by exact zn k2 e')
  · intro c st'' Fh
    refine uQ (Fh) fun neq Fm wn e gx nx dn eq=>?_
    try clear Fh
    subst Fm
    rw [show max (n + 1) nrem=nrem by exact zM gx] at *
    exact (fe nrem neq rfl wn e gx nx dn eq)
  · intro c st'' Fr
    refine pL (Fr) fun x neq Fp wn e gx nx dn eq=>?_
    try clear Fr
    subst Fp
    have g':=g.of wn
    have hsz:=wn.size
    dsimp only
    by_cases c1:neq > 0
    · rw [if_pos c1]
      have w3:=wn.trans (fj (lo:=lo) (hi:=lo + nrem) (i:=lo + x - (neq + 1)) (j:=lo + x) (st:=st'') (by exact vA hn gx hsz) (by exact vZ nx) (by exact Nat.add_le_add_left (by assumption) _))
      refine wpS_bind (iB ?_)
      refine jI hlt (g.of w3) (by have:=w3.size; exact pV hn this) (by exact Nat.lt_trans (by assumption) (by assumption)) gx (dn.congr fun k=>?_) fun n st' a b w4 u=>h n st' a b (w3.trans w4) u
      show rkA rk (mirror _ _ _ _) k=_
      rw [gQ (by exact vA hn gx hsz) fun k k1 k2=>by rw [e,e]; have:=eq (k - lo) (by exact wi k1) (by exact uW nx k2); rwa [show lo + (k - lo)=k by exact v5 nx k1] at this]
      exact e k
    · rw [if_neg c1]
      exact jI hlt g' (by exact pV hn hsz) (by exact BP nx) gx (dn.congr e) fun n st' a b w4 u=>h n st' a b (wn.trans w4) u
theorem nr (hlt:fC M A E s rk ok κ) {lo nrem:Nat}{st:SortSt}{Q:Option Nat→SortSt→Prop} (g:Gd rk ok κ st) (hn:lo + nrem≤(arrOf st).size) (h1:1≤nrem)
    (h:∀ n st',1≤n→n≤nrem→Wn lo (lo + nrem) st st'→SegUp rk (arrOf st') lo n→Q (some n) st'):wpS M A E s (countRun' lo nrem) Q st:=by
  rw [countRun'_eq]
  refine wpS_bind (wpS_mono (wpS_forRange (I:=fun x c st'=>st' = st∧c=(none,x)∧x≤nrem∧SegUp rk (arrOf st) lo x)
    (Q:=fun c st'=>st' = st∧∃ n,c=(none,n)∧1≤n∧n≤nrem∧SegUp rk (arrOf st) lo n∧(n=nrem∨rkA rk (arrOf st) (lo + n)<rkA rk (arrOf st) (lo + n - 1))) ?_ ?_ (ca rfl rfl h1 (fun i j _ _ _=>by rw [show i=j by exact v8 (by assumption) (by assumption) (by assumption)]; exact Nat.le_refl _))) ?_)
  · intro x c st' hx1 hx2 Ft
    refine ck (Ft) fun Fy FA gx up=>?_
    try clear Ft
    (clear h; subst Fy)
    subst FA
    refine wpS_bind (eN hlt g (by exact adl hx2 (by assumption)) (by exact pG (adl hx2 (by assumption))) ?_)
    dsimp only
    by_cases w:rkA rk (arrOf st') (lo + x)<rkA rk (arrOf st') (lo + x - 1)
    · rw [decide_eq_true w,if_pos rfl]
      exact wpS_pure (aG rfl (gy x rfl hx1 gx up (.inr w)))
    · rw [decide_eq_false w,if_neg (by decide)]
      exact wpS_pure (ca rfl rfl (by assumption) (up.succ hx1 (Nat.le_of_not_lt w)))
  · intro c st' FC
    refine ck (FC) fun FE FH gx up=>?_
    try clear FC
    (clear g h hn; subst FE)
    subst FH
    rw [show max 1 nrem=nrem by exact vo gx] at *
    exact (aG rfl (gy nrem rfl h1 (Nat.le_refl _) up (.inl rfl)))
  · intro c st' FZ
    obtain ⟨FW,n,F2,n1,n2,up,hend⟩:=FZ
    subst FW
    subst F2
    dsimp only
    by_cases c1:(n == nrem)=true
    · rw [if_pos c1]
      exact wpS_pure (h n st' n1 n2 (.refl ..) up)
    rw [if_neg c1]
    have hn3:n<nrem:=by have:n≠nrem:=fun e=>c1 (beq_iff_eq.mpr e); exact zX n2 this
    have hdn:=hend.resolve_left (by exact Nat.ne_of_lt (by assumption))
    by_cases c2:n > 1
    · rw [if_pos c2]
      refine wpS_bind (eN hlt g (by exact Ad h1 hn) (by exact Bb n1 n2 hn) ?_)
      dsimp only
      by_cases w:rkA rk (arrOf st') lo<rkA rk (arrOf st') (lo + n - 1)
      · rw [decide_eq_true w,if_pos rfl]
        exact wpS_pure (h n st' n1 n2 (.refl ..) up)
      rw [decide_eq_false w,if_neg (by decide)]
      have eq:∀ k,lo≤k→k<lo + n→rkA rk (arrOf st') k=rkA rk (arrOf st') (lo + n - 1):=fun k k1 k2=>by
        have a:=up lo k (Nat.le_refl _) k1 k2
        have b:=up k (lo + n - 1) k1 (by exact A7 k2) (by exact qt n1)
        exact Co w a b
      have w3:Wn lo (lo + nrem) st' (setArr st' (mirror (arrOf st') lo (lo + n) ((lo + n - lo) / 2))):=fj (by exact vI n2 hn) (Nat.le_refl _) (by exact Nat.add_le_add_left (by assumption) _)
      have e3:∀ k,rkA rk (mirror (arrOf st') lo (lo + n) ((lo + n - lo) / 2)) k=rkA rk (arrOf st') k:=gQ (by exact vI n2 hn) eq
      refine wpS_bind (iB ?_)
      refine jr hlt (g.of w3) (by have:=w3.size; exact pV hn this) n1 hn3 ?_ fun n st' a b w4 u=>h n st' a b (w3.trans w4) u
      have d1:SegDn rk (arrOf st') lo n:=fun i j a b c=>by rw [eq i a (by exact Nat.lt_of_le_of_lt (by assumption) (by assumption)),eq j (by exact Nat.le_trans (by assumption) (by assumption)) c]; exact Nat.le_refl _
      exact (d1.succ n1 (Nat.le_of_lt hdn)).congr e3
    rw [if_neg c2]
    have e1:n=1:=by exact zr n1 c2
    (clear c1 c2 hend n2 up; subst e1)
    refine jr hlt g hn n1 hn3 ?_ h
    have d1:SegDn rk (arrOf st') lo 1:=fun i j _ _ _=>by rw [show i=j by exact v8 (by assumption) (by assumption) (by assumption)]; exact Nat.le_refl _
    exact d1.succ (Nat.le_refl _) (Nat.le_of_lt hdn)
theorem sQ {src dst:Nat}{st:SortSt}{Q:Unit→SortSt→Prop} (h:Q () (setArr st (bubble (arrOf st) src (src - dst)))):wpS M A E s (moveDown' src dst) Q st:=by
  rw [moveDown'_eq]; exact wpS_modify h
theorem yA {l r:Nat} (h:l<r):l≤(l + r) / 2∧(l + r) / 2<r:=by exact Bp h
theorem rR (hlt:fC M A E s rk ok κ) {lo n oo:Nat}{st:SortSt}{Q:Bool→SortSt→Prop} (g:Gd rk ok κ st) (hn:lo + n≤(arrOf st).size) (hok:oo≤n) (hs:SegUp rk (arrOf st) lo oo)
    (h:∀ st',Wn lo (lo + n) st st'→SegUp rk (arrOf st') lo n→Q true st'):wpS M A E s (binarySort' lo n oo) Q st:=by
  rw [binarySort'_eq]
  refine wpS_bind (wpS_mono (wpS_forRange (I:=fun k c st'=>c=(none,())∧Wn lo (lo + n) st st'∧SegUp rk (arrOf st') lo (min k n))
    (Q:=fun c st'=>c=(none,())∧Wn lo (lo + n) st st'∧SegUp rk (arrOf st') lo n) ?_ ?_ ⟨rfl,.refl ..,?_⟩) ?_)
  · intro k c st' hk1 hk2 FV
    refine aB (FV) fun Gl wn up=>?_
    try clear FV
    subst Gl
    have g':=g.of wn
    have hsz:=wn.size
    rw [show min k n=k by exact Bo hk2] at up
    refine wpS_bind (wpS_mono (wpS_forRange (I:=fun x c st''=>st'' = st'∧∃ l r,c=(none,l,r)∧l≤r∧r≤k∧r - l≤k - x∧(∀ i,i<l→rkA rk (arrOf st') (lo + i)≤rkA rk (arrOf st') (lo + k))∧(∀ i,r≤i→i<k→rkA rk (arrOf st') (lo + k)<rkA rk (arrOf st') (lo + i)))
      (Q:=fun c st''=>st'' = st'∧∃ l r,c=(none,l,r)∧l≤k∧(∀ i,i<l→rkA rk (arrOf st') (lo + i)≤rkA rk (arrOf st') (lo + k))∧(∀ i,l≤i→i<k→rkA rk (arrOf st') (lo + k)<rkA rk (arrOf st') (lo + i))) ?_ ?_ (aG rfl (qa 0 k rfl (by exact Nat.zero_le _) (by exact Nat.le_refl _) (by exact Nat.le_refl _) (fun i hi=>by exact CD hi) (fun i h1 h2=>by exact CA h1 h2)))) ?_)
    · intro x c st'' _ hx Gk
      obtain ⟨F8,l,r,Gz,lr,rk',pr,lo',hi'⟩:=Gk
      (clear wn; subst F8)
      subst Gz
      dsimp only
      by_cases c1:l ≥ r
      · rw [if_pos c1]
        exact wpS_pure (aG rfl (bp l r rfl (by exact Nat.le_trans (by assumption) (by assumption)) lo' (fun i h1 h2=>hi' i (by exact Nat.le_trans (by assumption) (by assumption)) h2)))
      rw [if_neg c1]
      refine ae (yA (Nat.lt_of_not_le c1)) fun m1 m2=>?_
      generalize (l + r) / 2=m at m1 m2 ⊢
      refine wpS_bind (eN hlt g' (by exact lE hn hk2 hsz) (by exact zm hn hk2 rk' hsz m2) ?_)
      dsimp only
      by_cases w:rkA rk (arrOf st'') (lo + k)<rkA rk (arrOf st'') (lo + m)
      · rw [decide_eq_true w,if_pos rfl]
        exact wpS_pure (aG rfl (qa _ _ rfl (by assumption) (by exact BJ rk' m2) (by exact BN pr m2) lo' (fun i h1 h2=>Nat.lt_of_lt_of_le w (up _ _ (by exact Nat.le_add_right _ _) (by exact Nat.add_le_add_left (by assumption) _) (by exact Nat.add_le_add_left (by assumption) _)))))
      · rw [decide_eq_false w,if_neg (by decide)]
        exact wpS_pure (aG rfl (qa _ _ rfl (by assumption) (by assumption) (by exact Ak pr m1) (fun i h1=>Nat.le_trans (up _ (lo + m) (by exact Nat.le_add_right _ _) (by exact CL h1) (by exact AZ rk' m2)) (Nat.le_of_not_lt w)) hi'))
    · intro c st'' Gi
      obtain ⟨Gn,l,r,Gj,lr,rk',pr,lo',hi'⟩:=Gi
      (clear g' hsz wn; subst Gn)
      subst Gj
      exact (aG rfl (bp l r rfl (by exact Nat.le_trans (by assumption) (by assumption)) lo' (fun i h1 h2=>hi' i (by exact Av pr h1) h2)))
    · intro c st'' GO
      obtain ⟨Gp,l,r,GF,lk,lo',hi'⟩:=GO
      (clear g'; subst Gp)
      subst GF
      dsimp only
      have hsrc:lo + k<(arrOf st'').size:=by exact lE hn hk2 hsz
      refine wpS_bind (sQ (wpS_pure ⟨rfl,wn.trans ⟨rfl,rfl,rfl,bubble_perm _ _ _,fun j hj=>?_⟩,?_⟩))
      · show (bubble _ _ _)[j]? = _
        rw [getElem?_bubble hsrc _ (by exact Nat.sub_le _ _),if_neg (by exact zD hk2 hj),if_neg (by exact BY hk2 hj)]
      · rw [show min (k + 1) n=k + 1 by exact AF hk2]
        show SegUp rk (bubble (arrOf st'') (lo + k) (lo + k - (lo + l))) lo (k + 1)
        have at':∀ j,rkA rk (bubble (arrOf st'') (lo + k) (lo + k - (lo + l))) j=if j=lo + l then rkA rk (arrOf st'') (lo + k) else if lo + l<j∧j≤lo + k then rkA rk (arrOf st'') (j - 1) else rkA rk (arrOf st'') j:=fun j=>by
          have:=getElem?_bubble hsrc (lo + k - (lo + l)) (by exact Nat.sub_le _ _) j
          rw [show lo + k - (lo + k - (lo + l))=lo + l by exact Ap lk] at this
          by_cases e1:j=lo + l
          · rw [if_pos e1] at this ⊢; exact cA this
          · rw [if_neg e1] at this ⊢
            by_cases e2:lo + l<j∧j≤lo + k
            · rw [if_pos e2] at this ⊢; exact cA this
            · rw [if_neg e2] at this ⊢; exact cA this
        intro i j hi hij hj
        rw [at',at']
        by_cases e1:i=lo + l
        · rw [if_pos e1]
          by_cases e2:j=lo + l
          · rw [if_pos e2]; exact Nat.le_refl _
          · rw [if_neg e2,if_pos (by exact Aw hij hj e1 e2)]
            have:=hi' (j - 1 - lo) (by exact Bu hij e1 e2) (by exact Ah hij hj e1 e2)
            rw [show lo + (j - 1 - lo)=j - 1 by exact Bn hij e1 e2] at this
            exact Nat.le_of_lt this
        · rw [if_neg e1]
          by_cases e2:j=lo + l
          · rw [if_pos e2,if_neg (by exact Bk hij e2)]
            have:=lo' (i - lo) (by exact C6 hi hij e1 e2)
            rwa [show lo + (i - lo)=i by exact B7 hi] at this
          · rw [if_neg e2]
            by_cases e3:lo + l<i
            · rw [if_pos (by exact CR hij hj e3),if_pos (by exact C7 hij hj e3)]
              exact up _ _ (by exact C1 e3) (by exact Aq hij) (by exact AC hij hj e3)
            · rw [if_neg (by exact vT e3)]
              by_cases e4:lo + l<j
              · rw [if_pos (by exact Cm hj e4)]
                exact up _ _ (by assumption) (by exact zG e3 e4) (by exact CS hj e4)
              · rw [if_neg (by exact vT e4)]
                exact up _ _ (by assumption) (by assumption) (by exact Bg lk e2 e4)
  · intro c st' F9
    refine aB (F9) fun Gm wn up=>?_
    try clear F9
    subst Gm
    rw [show min (max (max oo 1) n) n=n by exact zo] at up
    exact ⟨rfl,wn,up⟩
  · intro i j hi hij hj
    by_cases e:oo=0
    · rw [show i=j by exact A0 hi hij hj e]; exact Nat.le_refl _
    · exact hs i j hi hij (by exact BB hj e)
  · intro c st' F4
    refine aB (F4) fun GQ wn up=>?_
    try clear F4
    subst GQ
    exact wpS_pure (h st' wn up)
end
end Mine
namespace Mine
set_option tactic.hygienic false
set_option linter.unusedVariables false
open PySem PyProof.Rows
section
variable {M:Model}{A:Around}{E:Value→Shared→Prop}{s:Shared}{rk:Keyed→Nat}{ok:Keyed→Prop}{κ:SortKind}
theorem yo {arr:Array Keyed}{lo n:Nat} (h:SegUp rk arr lo n) (hn:lo + n≤arr.size):Up rk ((arr.toList.drop lo).take n):=by
  unfold Up
  rw [List.pairwise_iff_getElem]
  intro i j hi hj hij
  rw [List.length_take,List.length_drop,Array.length_toList] at hi hj
  rw [List.getElem_take,List.getElem_take,List.getElem_drop,List.getElem_drop]
  have:=h (lo + i) (lo + j) (by exact Nat.le_add_right _ _) (by exact Nat.add_le_add_left (Nat.le_of_lt hij) lo) (by exact Nat.add_lt_add_left (Nat.lt_of_lt_of_le hj (Nat.min_le_left _ _)) lo)
  rwa [ju (by rw [Array.length_toList]; exact Nat.lt_of_lt_of_le (Nat.add_lt_add_left (Nat.lt_of_lt_of_le hi (Nat.min_le_left _ _)) lo) hn),ju (by rw [Array.length_toList]; exact Nat.lt_of_lt_of_le (Nat.add_lt_add_left (Nat.lt_of_lt_of_le hj (Nat.min_le_left _ _)) lo) hn)] at this
end
end Mine
namespace Mine
set_option tactic.hygienic false
set_option linter.unusedVariables false
open PySem PyProof.Rows
section
variable {M:Model}{A:Around}{E:Value→Shared→Prop}{s:Shared}{rk:Keyed→Nat}{ok:Keyed→Prop}{κ:SortKind}
structure Ph1 (rk:Keyed→Nat) (st st':SortSt) (n1:Nat):Prop where
  perm:(arrOf st').Perm (arrOf st)
  kind:kindOf st' = kindOf st
  fail:failedOf st' = none
  pend:pendingOf st' = #[(0,n1,0)]
  up:SegUp rk (arrOf st') 0 n1
structure Ph2 (rk:Keyed→Nat) (st st':SortSt):Prop where
structure Dn (rk:Keyed→Nat) (st st':SortSt):Prop where
end
end Mine
namespace Mine
set_option tactic.hygienic false
set_option linter.unusedVariables false
open PySem PyProof.Rows
theorem j7:∀ a:List Int,ltL a a=false
  | []=>rfl
  | a :: as=>by simp [ltL,j7 as]
theorem e8:∀ {a b c:List Int},ltL a b=true→ltL b c=true→ltL a c=true
  | [],[],_,h,_=>by simp [ltL] at h
  | [],_ :: _,[],_,h=>by simp [ltL] at h
  | [],_ :: _,_ :: _,_,_=>rfl
  | _ :: _,[],_,h,_=>by simp [ltL] at h
  | _ :: _,_ :: _,[],_,h=>by simp [ltL] at h
  | a :: as,b :: bs,c :: cs,h1,h2=>by
    unfold ltL at h1 h2 ⊢
    by_cases e1:a=b
    · subst e1
      rw [if_pos rfl] at h1
      by_cases e2:a=c
      · rw [if_pos e2] at h2 ⊢; exact e8 h1 h2
      · rw [if_neg e2] at h2 ⊢; exact h2
    · rw [if_neg e1] at h1
      by_cases e2:b=c
      · subst e2; rw [if_neg e1]; exact h1
      · rw [if_neg e2] at h2
        simp only [decide_eq_true_eq] at h1 h2
        rw [if_neg (by exact Cr h1 h2)]
        simp only [decide_eq_true_eq]; exact zf h1 h2
theorem iJ:∀ {a b:List Int},ltL a b=false→ltL b a=false→a=b
  | [],[],_,_=>rfl
  | [],_ :: _,h,_=>by simp [ltL] at h
  | _ :: _,[],_,h=>by simp [ltL] at h
  | a :: as,b :: bs,h1,h2=>by
    unfold ltL at h1 h2
    by_cases e:a=b
    · subst e
      rw [if_pos rfl] at h1 h2
      rw [iJ h1 h2]
    · rw [if_neg e] at h1
      rw [if_neg (Ne.symm e)] at h2
      simp only [decide_eq_false_iff_not] at h1 h2
      exact z5 e h1 h2
def rkL (ks:List (List Int)) (k:List Int):Nat:=ks.countP fun x=>ltL x k
theorem kY {α:Type}{p q:α→Bool}:∀ {l:List α},(∀ x∈l,p x=true→q x=true)→l.countP p≤l.countP q
  | [],_=>Nat.le_refl _
  | x :: l,h=>by
    have ih:=kY fun y hy=>h y (.tail _ hy)
    rw [List.countP_cons,List.countP_cons]
    cases hp:p x with
    | true=>rw [h x (.head _) hp]; simp; exact ih
    | false=>simp; exact zI ih
theorem kK {α:Type}{p q:α→Bool}:∀ {l:List α}{y:α},(∀ x∈l,p x=true→q x=true)→y∈l→p y=false→q y=true→l.countP p<l.countP q
  | x :: l,y,h,hy,h1,h2=>by
    rw [List.countP_cons,List.countP_cons]
    rcases List.mem_cons.mp hy with rfl | hy
    · rw [h1,h2]
      have:=kY fun z hz=>h z (.tail _ hz)
      simp; exact BT this
    · have ih:=kK (fun z hz=>h z (.tail _ hz)) hy h1 h2
      cases hp:p x with
      | true=>rw [h x (.head _) hp]; simp; exact ih
      | false=>simp; exact BD ih
theorem qz {ks:List (List Int)}{a b:List Int} (ha:a∈ks) (hb:b∈ks):ltL a b=decide (rkL ks a<rkL ks b):=by
  have up:∀ {a b:List Int},a∈ks→ltL a b=true→rkL ks a<rkL ks b:=fun {a b} ha h=>kK (fun x _ hx=>e8 hx h) ha (j7 a) h
  cases h:ltL a b with
  | true=>rw [decide_eq_true (up ha h)]
  | false=>
    refine (decide_eq_false fun q=>?_).symm
    cases h':ltL b a with
    | true=>have:=up hb h'; exact Az q this
    | false=>rw [iJ h h'] at q; exact Nat.lt_irrefl _ q
def gn:List Int→List Int→Option Bool
  | a :: as,b :: bs=>if a=b then gn as bs else some (decide (a<b))
  | _,_=>none
theorem lP:∀ a b:List Int,ltL a b=(gn a b).getD (decide (a.length<b.length))
  | [],[]=>rfl
  | [],_ :: _=>by simp [ltL,gn]
  | _ :: _,[]=>by simp [ltL,gn]
  | a :: as,b :: bs=>by
    unfold ltL gn
    by_cases e:a=b
    · rw [if_pos e,if_pos e,lP as bs]; simp
    · rw [if_neg e,if_neg e]; rfl
noncomputable def KeyOf (h:Heap) (v:Value) (k:List Int):Prop:=∃ a vs n,v = .ref a∧h.get? a=some ⟨.type "tuple", none,.seq vs.toArray n,#[]⟩∧IntsAre vs k
noncomputable def DW (v:Value):Int:=match v with
  | .int i _=>i
  | _=>0
theorem IntsAre.read {vs:List Value}{k:List Int} (h:IntsAre vs k):k=vs.map DW:=by
  induction h with
  | nil=>rfl
  | cons n t r ih=>exact congrArg (n :: ·) ih
theorem IntsAre.fn {vs:List Value}{k k':List Int} (a:IntsAre vs k) (b:IntsAre vs k'):k=k':=(IntsAre.read a).trans (IntsAre.read b).symm
theorem KeyOf.fn {h:Heap}{v:Value}{k k':List Int} (a:KeyOf h v k) (b:KeyOf h v k'):k=k':=by
  refine aS (a) fun x vs n E5 e i=>?_
  try clear a
  subst E5
  refine aS (b) fun uu vs' n' q e' i'=>?_
  try clear b
  cases q
  rw [e] at e'
  have:vs=vs':=by cases e'; rfl
  subst this
  exact IntsAre.fn i i'
theorem KeyOf.ofR {h:Heap}{v:Value}{k:List Int}{as:List Addr} (r:R h v (.tuple (k.map .int)) as):KeyOf h v k:=by
  cases r with
  | @tuple a n xs as vs e ra=>
    have hi:aN (k.map PyData.int)=some k:=by
      clear ra e
      induction k with
      | nil=>rfl
      | cons x k ih=>show (aN (k.map PyData.int)).map (x :: ·)=_; rw [ih]; rfl
    exact (cu a vs n rfl e ((ra.ints hi).1))
open Classical in
section
variable {prog:Program}{w:World}{A:Around}{E:Value→Shared→Prop}{s:Shared}
theorem jz (c:Bool) {a b:Int}{t u:Tok}{Q:Bool→Shared→Prop} (h:Q (decide (a<b)) s):wpAny (model prog w) A (oneLt' c (.int a t) (.int b u)) Q E s:=by
  cases c with
  | true=>exact oneLt_int h
  | false=>
    rw [oneLt'_eq]
    simp only [Bool.false_eq_true,if_false]
    exact wpAny_bind (wpAny_lt_int (wpAny_truthy_bool h))
theorem mq (c:Bool) (x y:Value):keyLt' (tuples' c) x y=(do
    let xs ← Builtin.List.listItems x; let ys ← Builtin.List.listItems y
    for ((p,q),i) in (xs.toList.zip ys.toList).zipIdx do
      if !(← eqBool p q) then return ← oneLt' (c && i == 0) p q
    return xs.size<ys.size):=rfl
theorem tY {body:(Value × Value) × Nat→Option Bool × Unit→Sem (ForInStep (Option Bool × Unit))}{R:Option Bool × Unit→Shared→Prop}
    (hb:∀ (a b:Int) (t u:Tok) (i:Nat) (R':ForInStep (Option Bool × Unit)→Shared→Prop),R' (if a=b then .yield (none,()) else .done (some (decide (a<b)),())) s→wpAny (model prog w) A (body ((.int a t,.int b u),i) (none,())) R' E s)
    {vs:List Value}{k:List Int} (ia:IntsAre vs k):∀ {us:List Value}{k':List Int} (i:Nat),IntsAre us k'→R (gn k k',()) s→wpAny (model prog w) A (forIn ((vs.zip us).zipIdx i) (none,()) body) R E s:=by
  induction ia with
  | nil=>
    intro us k' i ib h
    rw [List.zip_nil_left,List.zipIdx_nil,List.forIn_nil]
    exact wpAny_pure h
  | cons a t r ih=>
    intro us k' i ib h
    induction ib with
    | nil=>
      rw [List.zip_nil_right,List.zipIdx_nil,List.forIn_nil]
      exact wpAny_pure h
    | cons b u q ih'=>
      rw [List.zip_cons_cons,List.zipIdx_cons,List.forIn_cons]
      refine wpAny_bind (hb a b t u i _ ?_)
      by_cases e:a=b
      · rw [if_pos e]
        exact ih (i + 1) q (by rw [gn,if_pos e] at h; exact h)
      · rw [if_neg e]
        exact wpAny_pure (by rw [gn,if_neg e] at h; exact h)
theorem si (c:Bool) {x y:Value}{k k':List Int}{Q:Bool→Shared→Prop} (hx:KeyOf s.heap x k) (hy:KeyOf s.heap y k') (h:Q (ltL k k') s):wpAny (model prog w) A (keyLt' (tuples' c) x y) Q E s:=by
  refine aS (hx) fun a vs n E6 ea ia=>?_
  try clear hx
  subst E6
  refine aS (hy) fun b us m E7 eb ib=>?_
  try clear hy
  subst E7
  rw [mq]
  refine wpAny_bind (listItems_at ea rfl (wpAny_bind (listItems_at eb rfl ?_)))
  simp only [List.toList_toArray]
  refine wpAny_bind (tY (fun p q t u i R' hR=>?_) ia 0 ib ?_)
  · dsimp only
    refine wpAny_bind (wpAny_eqBool_int ?_)
    by_cases e:p=q
    · subst e
      rw [if_pos rfl] at hR
      rw [if_neg (by simp)]
      exact wpAny_pure hR
    · rw [if_neg e] at hR
      rw [if_pos (by simpa using e)]
      exact wpAny_bind (jz _ (wpAny_pure hR))
  · rw [lP] at h
    have l1:=ia.length
    have l2:=ib.length
    cases e:gn k k' with
    | none=>
      rw [e] at h
      refine wpAny_pure ?_
      simp only [List.size_toArray]
      rw [← l1,← l2] at h
      exact h
    | some r=>rw [e] at h; exact wpAny_pure h
theorem s9 (v:Value):firstOfTuple' v=(do
    if (← typeOf v) != .type "tuple" then return none
    return (← Builtin.List.listItems v)[0]?):=rfl
theorem iM {Q:List (Option Value)→Shared→Prop}:∀ {ks:List (List Int)}{vs:List Value},vs.length=ks.length→(∀ (i:Nat) (v:Value) (k:List Int),vs[i]? = some v→ks[i]? = some k→KeyOf s.heap v k∧k≠[])→(∀ fs:List Value,fs.length=vs.length→(∀ f∈fs,∃ a t,f = .int a t)→Q (fs.map some) s)→wpAny (model prog w) A (vs.mapM firstOfTuple') Q E s
  | [],[],_,_,h=>by rw [List.mapM_nil]; exact wpAny_pure (h [] rfl fun uu q=>nomatch q)
  | [],_ :: _,hl,_,_=>by simp at hl
  | _ :: _,[],hl,_,_=>by simp at hl
  | k :: ks,v :: vs,hl,hk,h=>by
    refine ae (hk 0 v k rfl rfl) fun E8 hne=>?_
    refine aS (E8) fun a us n E9 ea ia=>?_
    try clear E8
    subst E9
    rw [List.mapM_cons]
    refine wpAny_bind ?_
    rw [s9]
    refine wpAny_bind (wpAny_typeOf (T := "tuple") (ag _ ea rfl) ?_)
    rw [if_neg (by decide)]
    refine wpAny_bind (listItems_at ea rfl (wpAny_pure ?_))
    cases ia with
    | nil=>exact absurd rfl hne
    | cons x t r=>
      refine wpAny_bind (iM (ks:=ks) (vs:=vs) (by simpa using hl) (fun i v k h1 h2=>hk (i + 1) v k (by simpa using h1) (by simpa using h2)) fun fs hfl hfs=>wpAny_pure ?_)
      have:=h (.int x t :: fs) (by simp [hfl]) (fun f hf=>(List.mem_cons.mp hf).elim (fun e=>(bn x t e)) (hfs f))
      simpa using this
theorem lf {Q:List Value→Shared→Prop}:∀ {fs:List Value},(∀ f∈fs,∃ a t,f = .int a t)→Q (fs.map fun uu=>.type "int") s→wpAny (model prog w) A (fs.mapM typeOf) Q E s
  | [],_,h=>by rw [List.mapM_nil]; exact wpAny_pure h
  | f :: fs,hf,h=>by
    refine aY (hf f (.head _)) fun a t Fa=>?_
    subst Fa
    rw [List.mapM_cons]
    refine wpAny_bind (wpAny_pure (wpAny_bind (lf (fs:=fs) (fun f h=>hf f (.tail _ h)) (wpAny_pure h))))
theorem qx {ks:List (List Int)}{vs:List Value}{Q:SortKind→Shared→Prop} (hl:vs.length=ks.length) (h1:1≤vs.length) (hk:∀ (i:Nat) (v:Value) (k:List Int),vs[i]? = some v→ks[i]? = some k→KeyOf s.heap v k∧k≠[]) (h:Q (tuples' true) s):wpAny (model prog w) A (keyKind' vs.toArray) Q E s:=by
  rw [keyKind'_eq,List.mapM_toArray,map_eq_pure_bind]
  refine wpAny_bind (wpAny_bind (iM hl hk fun fs hfl hfs=>wpAny_pure ?_))
  have hall:((fs.map some).toArray.all fun x=>x.isSome)=true:=by simp
  rw [if_pos hall]
  refine wpAny_bind (wpAny_rule ?_)
  have hfm:((fs.map some).toArray.filterMap id)=fs.toArray:=by simp
  rw [hfm,oneTypeOnly'_eq,List.mapM_toArray,map_eq_pure_bind]
  refine wpAny_bind (wpAny_bind (wpAny_bind (lf hfs (wpAny_pure ?_))))
  obtain ⟨f₁,fr,rfl⟩:∃ f₁ fr,fs=f₁ :: fr:=by
    cases fs with
    | nil=>simp at hfl; exact zV h1 hfl
    | cons f₁ fr=>exact (bn f₁ fr rfl)
  have hall2:((List.map (fun uu=>Value.type "int") (f₁ :: fr)).toArray.all fun x=>x == Value.type "int")=true:=by
    simp only [List.all_toArray,List.all_map,List.all_eq_true]
    intro _ _
    rfl
  have h0:(List.map (fun uu=>Value.type "int") (f₁ :: fr)).toArray[0]? = some (Value.type "int"):=by simp
  rw [h0]
  simp only [hall2,if_true]
  exact wpAny_pure (wpAny_pure h)
end
end Mine
set_option linter.unusedSectionVars false
namespace Mine
set_option tactic.hygienic false
set_option linter.unusedVariables false
open PySem PyProof.Rows
variable [SF:Soft]
section
variable {prog:Program}{w:World}{A:Around}{E:Value→Shared→Prop}
theorem Kp.wr {s0 s:Shared}{a:Addr}{xs:Array Value}{n:Nat}{h':Heap} (k:Kp s0 s) (e:s.heap.get? a=some (seqObj "list" xs n)) (h0:s0.heap.get? a=Option.none) (hs:Heap.SameBut a s.heap h'):Kp s0 { s with heap:=h' }:=by
  revert k; intro F6
  refine av (F6) fun h tk E6 k=>?_
  try clear F6
  subst E6
  refine ⟨h',tk,rfl,K.same k hs h0 fun o q=>?_⟩
  rw [e] at q; (have oc:=Option.some.inj q; clear q; subst oc); exact Stay.not_list
theorem tD {α:Type}{R:α→α→Prop}{l:List α} (h:l.length≤1):l.Pairwise R:=by
  rcases l with _ | ⟨x,_ | ⟨y,l⟩⟩
  · exact .nil
  · exact List.pairwise_singleton ..
  · cases h with
    | step h=>cases h
theorem cY {α β:Type} (a:Array α) (b:List β):(a.zip b.toArray).toList=a.toList.zip b:=by
  first
    | simp
    | (cases a; simp)
theorem ol {α β:Type}{a:List α}{b:List β}{i:Nat}{x:α}{y:β} (h1:a[i]? = some x) (h2:b[i]? = some y):(a.zip b)[i]? = some (x,y):=List.getElem?_zip_eq_some.mpr ⟨h1,h2⟩
end
end Mine
set_option linter.unusedSectionVars false
namespace Mine
open PySem PyProof.Rows
variable [SF:Soft]
section
variable {prog:Program}{w:World}{A:Around}{E:Value→Shared→Prop}{s:Shared}
end
end Mine
set_option linter.unusedSectionVars false
namespace Mine
set_option tactic.hygienic false
set_option linter.unusedVariables false
open PySem PyProof.Rows
variable [SF:Soft]
theorem fu {α:Type}:∀ {ns:List Str}{vs:List α}{n:Str},vs.length=ns.length→n∈ns→((ns.zip vs).lookup n).isNone=false
  | [],_,_,_,h=>nomatch h
  | m :: ns,[],_,h,_=>by simp at h
  | m :: ns,v :: vs,n,hl,h=>by
    rw [List.zip_cons_cons,List.lookup_cons]
    by_cases e:n=m
    · (clear h hl; subst e); simp
    · have e':(n == m)=false:=by simpa using e
      rw [e']
      exact fu (by simpa using hl) ((List.mem_cons.mp h).resolve_left e)
theorem g6:∀ {ns:List Str}{vs:List Value},ns.Nodup→vs.length=ns.length→(ns.filterMap fun n=>((ns.zip vs).lookup n).map (n,·))=ns.zip vs
  | [],_,_,_=>rfl
  | m :: ns,[],_,h=>by simp at h
  | m :: ns,v :: vs,hn,hl=>by
    rw [List.nodup_cons] at hn
    rw [List.filterMap_cons]
    simp only [List.zip_cons_cons,List.lookup_cons,beq_self_eq_true,Option.map_some]
    congr 1
    have ih:=g6 hn.2 (vs:=vs) (by simpa using hl)
    have key:∀ (l:List Str),(∀ n∈l,n≠m)→(l.filterMap fun n=>(match n == m with | true=>some v | false=>(ns.zip vs).lookup n).map (n,·))=l.filterMap fun n=>((ns.zip vs).lookup n).map (n,·):=by
      intro l hl'
      induction l with
      | nil=>rfl
      | cons n l ihl=>
        have e':(n == m)=false:=beq_eq_false_iff_ne.mpr (hl' n (.head _))
        rw [List.filterMap_cons,List.filterMap_cons,ihl fun x hx=>hl' x (.tail _ hx)]
        simp only [e']
    exact (key ns fun n hn' e=>hn.1 (e▸hn')).trans ih
theorem pb {α β:Type} (a:α) (f:α→Sem β):((pure a:Sem α) >>= f)=f a:=rfl
theorem xX {α β γ:Type}{l:List α}{i:β}{f:α→β→Sem (ForInStep β)}{k:β→Sem γ}{z:Sem γ} (h:l=[]) (e:k i=z):(forIn l i f >>= k)=z:=by subst h; exact e
theorem qE {α:Type}{c:Prop} [Decidable c] {x y z:α} (h:¬ c) (e:y=z):(if c then x else y)=z:=(if_neg h).trans e
theorem pJ {fd:FuncData}{ps:List Str}{vals:List Value} (h1:fd.params.posonlyargs=[]) (h2:fd.params.args.map (·.arg)=ps) (h3:fd.params.vararg=none) (h4:fd.params.kwonlyargs=[]) (h5:fd.params.kwarg=none) (h6:fd.defaults = .none)
    (hn:ps.Nodup) (hl:vals.length=ps.length):bindArgs fd ⟨vals,[]⟩=pure (ps.zip vals):=by
  obtain ⟨nm,qn,⟨po,ar,va,ko,kd,kw,df⟩,bd,sc,gl,cl,de,kwd,doc,pm,an,cd,ct,bu⟩:=fd
  dsimp only at h1 h2 h3 h4 h5 h6
  subst h1 h3 h4 h5 h6
  have e2:(ps.take ps.length).filter (fun n=>((ps.zip vals).lookup n).isNone)=[]:=by
    rw [List.take_length,List.filter_eq_nil_iff]
    intro n hn'
    rw [fu hl hn']
    simp
  have e3:(ps ++ []).filterMap (fun n=>((ps.zip vals).lookup n).map fun x=>(n,x))=ps.zip vals:=by rw [List.append_nil]; exact g6 hn hl
  subst h2
  refine qE (c:=(decide (vals.length > (ar.map (·.arg)).length) && true)=true) (by rw [hl]; simp) ?_
  have e0:List.drop (0 - (ar.map (·.arg)).length) ([]:List Value)=[]:=List.drop_nil
  refine qE (c:=(!(((ar.map (·.arg)).take ((ar.map (·.arg)).length - (List.drop (0 - (ar.map (·.arg)).length) ([]:List Value)).length)).filter fun n=>(((ar.map (·.arg)).zip vals).lookup n).isNone).isEmpty)=true) (by rw [e0]; show ¬ (!(((ar.map (·.arg)).take (ar.map (·.arg)).length).filter fun n=>(((ar.map (·.arg)).zip vals).lookup n).isNone).isEmpty)=true; rw [e2]; simp) ?_
  refine xX (l:=((ar.map (·.arg)).drop ((ar.map (·.arg)).length - (List.drop (0 - (ar.map (·.arg)).length) ([]:List Value)).length)).zip (List.drop (0 - (ar.map (·.arg)).length) ([]:List Value))) (by rw [e0]; exact List.zip_nil_right) ?_
  exact congrArg (fun x=>(pure x:Sem _)) e3
section
variable {M:Model}{A:Around}{E:Value→Shared→Prop}{s:Shared}
end
section
variable {prog:Program}{w:World}{A:Around}{s:Shared}
end
end Mine
set_option linter.unusedSectionVars false
namespace Mine
open PySem PyProof.Rows
variable [SF:Soft]
section
variable {prog:Program}{w:World}{fns:Fns}{k:Nat}{C:Calls}{XP:String→Shared→Value→Shared→Prop}
end
end Mine
set_option linter.unusedSectionVars false
namespace Mine
set_option tactic.hygienic false
set_option linter.unusedVariables false
open PySem PyProof.Rows
section
variable {M:Model}{A:Around}{E:Value→Shared→Prop}{s:Shared}{rk:Keyed→Nat}{ok:Keyed→Prop}{κ:SortKind}
theorem qp (hlt:fC M A E s rk ok κ) {st:SortSt}{Q:Unit→SortSt→Prop} (g:Gd rk ok κ st) (h2:2≤(arrOf st).size) (h64:(arrOf st).size<64) (hp:pendingOf st = #[]) (hf:failedOf st=none)
    (h:∀ st',(arrOf st').Perm (arrOf st)→Up rk (arrOf st').toList→failedOf st' = none→Q () st'):wpS M A E s sortRuns' Q st:=by
  rw [sortRuns'_eq]
  refine wpS_bind (wpS_get ?_)
  dsimp only
  generalize hN:(arrOf st).size=N at *
  have hm:minRun' N N 0=N:=by
    obtain ⟨f,rfl⟩:∃ f,N=f + 1:=⟨N - 1,by exact Bf h2⟩
    rw [minRun'_succ,if_pos h64]
  rw [hm]
  refine wpS_bind (wpS_mono (wpS_forRange (I:=fun x c st'=>(x=0∧c=(none,0)∧st' = st)∨(c=(none,N)∧Ph1 rk st st' N)) (Q:=fun c st'=>c=(none,N)∧Ph1 rk st st' N) ?_ ?_ (.inl ⟨rfl,rfl,rfl⟩)) ?_)
  · rintro x c st' _ hx (⟨rfl,rfl,rfl⟩ | ⟨rfl,p1⟩)
    · dsimp only
      rw [if_neg (by exact Nat.not_le_of_lt (by assumption))]
      refine wpS_bind (nr hlt g (by exact vD hN) (by assumption) fun n st1 n1 n2 wn up=>?_)
      dsimp only
      by_cases c:n<N
      · rw [if_pos c]
        refine wpS_bind (lH (wpS_bind (rR hlt (g.of wn) (by rw [wn.size]; exact BX hN) (by exact Cj c) up fun st2 wn2 up2=>?_)))
        rw [if_neg (by decide)]
        refine wpS_bind (wpS_get ?_)
        have ep:pendingOf st2 = #[]:=by rw [wn2.pend,wn.pend,hp]
        have em:min (N - 0) N=N:=by exact AP
        rw [em] at up2 ⊢
        rw [show (pendingOf st2).back? = none by rw [ep]; rfl]
        refine wpS_bind (wpS_modify (wpS_pure (.inr ⟨by rw [Nat.zero_add],⟨wn2.perm.trans wn.perm,wn2.kind.trans wn.kind,wn2.fail.trans (wn.fail.trans hf),?_,up2⟩⟩)))
        show (pendingOf st2).push (0,N,0)=_
        rw [ep]; rfl
      · rw [if_neg c]
        obtain rfl:n=N:=by exact Bx n2 c
        refine wpS_bind (wpS_get ?_)
        have ep:pendingOf st1 = #[]:=by rw [wn.pend,hp]
        rw [show (pendingOf st1).back? = none by rw [ep]; rfl]
        refine wpS_bind (wpS_modify (wpS_pure (.inr ⟨by rw [Nat.zero_add],⟨wn.perm,wn.kind,wn.fail.trans hf,?_,up⟩⟩)))
        show (pendingOf st1).push (0,n,0)=_
        rw [ep]; rfl
    · dsimp only
      rw [if_pos (Nat.le_refl _)]
      exact wpS_pure ⟨rfl,p1⟩
  · rintro c st' (⟨e,_⟩ | q)
    · exact AO h2 e
    · exact q
  · intro c st' E5
    refine ae (E5) fun E6 p1=>?_
    try clear E5
    subst E6
    dsimp only
    have hs1:(arrOf st').size=N:=by rw [p1.perm.size_eq,hN]
    have up1:Up rk (arrOf st').toList:=by
      have:=yo p1.up (by exact AH hs1)
      rwa [List.drop_zero,List.take_of_length_le (by rw [Array.length_toList]; exact CY hs1)] at this
    refine wpS_bind (wpS_mono (wpS_forRange (I:=fun x c st''=>c=(none,())∧st'' = st') (Q:=fun c st''=>c=(none,())∧st'' = st') ?_ ?_ ⟨rfl,rfl⟩) ?_)
    · intro x c st1 _ hx E7
      refine ae (E7) fun E8 E9=>?_
      try clear E7
      subst E8
      (clear hs1 up1; subst E9)
      refine wpS_bind (wpS_get ?_)
      rw [if_pos (by rw [p1.pend]; exact Nat.le_refl _)]
      exact wpS_pure ⟨rfl,rfl⟩
    · rintro c st1 q; exact q
    · intro c st1 Fa
      refine ae (Fa) fun Fb Fc=>?_
      try clear Fa
      subst Fb
      (clear hs1; subst Fc)
      exact wpS_pure (h _ p1.perm up1 p1.fail)
theorem nI (hlt:fC M A E s rk ok κ) {lo nrem:Nat}{st:SortSt}{Q:Option Nat→SortSt→Prop} (g:Gd rk ok κ st) (hn:lo + nrem≤(arrOf st).size) (h1:1≤nrem) (up:SegUp rk (arrOf st) lo nrem) (h:Q (some nrem) st):wpS M A E s (countRun' lo nrem) Q st:=by
  rw [countRun'_eq]
  refine wpS_bind (wpS_mono (wpS_forRange (I:=fun x c st'=>st' = st∧c=(none,x)∧x≤nrem) (Q:=fun c st'=>st' = st∧c=(none,nrem)) ?_ ?_ ⟨rfl,rfl,h1⟩) ?_)
  · intro x c st' hx1 hx2 Fd
    refine aB (Fd) fun Ff Fi gx=>?_
    try clear Fd
    (clear h; subst Ff)
    subst Fi
    refine wpS_bind (eN hlt g (by exact adl hx2 (by assumption)) (by exact pG (adl hx2 (by assumption))) ?_)
    dsimp only
    have w:¬ rkA rk (arrOf st') (lo + x)<rkA rk (arrOf st') (lo + x - 1):=Nat.not_lt.mpr (up (lo + x - 1) (lo + x) (by exact CF hx1) (by exact Nat.sub_le _ _) (by exact Nat.add_lt_add_left (by assumption) _))
    rw [decide_eq_false w,if_neg (by decide)]
    exact wpS_pure ⟨rfl,rfl,by assumption⟩
  · intro c st' Fh
    refine aB (Fh) fun Fm Fr gx=>?_
    try clear Fh
    (clear g h hn up; subst Fm)
    subst Fr
    rw [show max 1 nrem=nrem by exact vo gx] at *
    exact ⟨rfl,rfl⟩
  · intro c st' Fp
    refine ae (Fp) fun Ft Fy=>?_
    try clear Fp
    (clear g hn up; subst Ft)
    subst Fy
    dsimp only
    rw [if_pos (by simp)]
    exact wpS_pure h
theorem sd:∀ n,n<128→minRun' n n 0≤n:=by decide +kernel
theorem pT (hlt:fC M A E s rk ok κ) {st:SortSt}{Q:Unit→SortSt→Prop} (g:Gd rk ok κ st) (h2:2≤(arrOf st).size) (h128:(arrOf st).size<128) (hp:pendingOf st = #[]) (hf:failedOf st=none) (up:SegUp rk (arrOf st) 0 (arrOf st).size)
    (h:∀ st',arrOf st' = arrOf st→failedOf st' = none→Q () st'):wpS M A E s sortRuns' Q st:=by
  rw [sortRuns'_eq]
  refine wpS_bind (wpS_get ?_)
  have m2:=sd _ h128
  dsimp only
  generalize hN:(arrOf st).size=N at *
  generalize minRun' N N 0=mr at *
  refine wpS_bind (wpS_mono (wpS_forRange (I:=fun x c st'=>(x=0∧c=(none,0)∧st' = st)∨(c=(none,N)∧arrOf st' = arrOf st∧failedOf st' = none∧(pendingOf st').size=1)) (Q:=fun c st'=>c=(none,N)∧arrOf st' = arrOf st∧failedOf st' = none∧(pendingOf st').size=1) ?_ ?_ (.inl ⟨rfl,rfl,rfl⟩)) ?_)
  · rintro x c st' _ hx (⟨rfl,rfl,rfl⟩ | ⟨rfl,p1⟩)
    · dsimp only
      rw [if_neg (by exact Nat.not_le_of_lt (by assumption))]
      refine wpS_bind (nI hlt g (by exact vD hN) (by assumption) up ?_)
      dsimp only
      rw [if_neg (by exact Nat.not_lt_of_le (by assumption))]
      refine wpS_bind (wpS_get ?_)
      rw [show (pendingOf st').back? = none by rw [hp]; rfl]
      refine wpS_bind (wpS_modify (wpS_pure (.inr (ca (by rw [Nat.zero_add]; rfl) rfl hf ?_))))
      show ((pendingOf st').push (0,_,0)).size=1
      rw [hp]; rfl
    · dsimp only
      rw [if_pos (Nat.le_refl _)]
      exact wpS_pure ⟨rfl,p1⟩
  · rintro c st' (⟨e,_⟩ | q)
    · exact At h2 e
    · exact q
  · intro c st' FA
    refine ck (FA) fun FC p1 p2 p3=>?_
    try clear FA
    subst FC
    dsimp only
    refine wpS_bind (wpS_mono (wpS_forRange (I:=fun x c st''=>c=(none,())∧st'' = st') (Q:=fun c st''=>c=(none,())∧st'' = st') ?_ ?_ ⟨rfl,rfl⟩) ?_)
    · intro x c st1 _ hx FE
      refine ae (FE) fun FH FZ=>?_
      try clear FE
      subst FH
      (clear p1 p2; subst FZ)
      refine wpS_bind (wpS_get ?_)
      rw [if_pos (by rw [p3]; exact Nat.le_refl _)]
      exact wpS_pure ⟨rfl,rfl⟩
    · rintro c st1 q; exact q
    · intro c st1 FW
      refine ae (FW) fun F2 FV=>?_
      try clear FW
      subst F2
      (clear p3; subst FV)
      exact wpS_pure (h _ p1 p2)
end
section
variable {prog:Program}{w:World}{A:Around}{E:Value→Shared→Prop}{s:Shared}
noncomputable def lO (v:Value):Nat:=match v with
  | .int i _=>i.toNat
  | _=>0
theorem qD (x y:Value):keyLt' oneType' x y=oneLt' true x y:=rfl
theorem sq:fC (model prog w) A E s (fun p=>lO p.1) (fun p=>∃ i t,p.1 = .int i t∧0≤i) oneType':=by
  intro x y st Q hx hy hk h
  refine av (hx) fun i t ex hi=>?_
  try clear hx
  refine av (hy) fun j u ey hj=>?_
  try clear hy
  have e:(some (decide (lO x.1<lO y.1)))=some (decide (i<j)):=by
    rw [ex,ey]
    show some (decide (i.toNat<j.toNat))=_
    rw [decide_eq_decide.mpr (show i.toNat<j.toNat↔i<j by exact BC hi)]
  dsimp only at h
  rw [e] at h
  rw [lt'_eq]
  refine wpS_bind (wpS_get ?_)
  rw [hk,ex,ey,qD]
  refine wpS_bind (wpS_lift (wpAny_attempt (jz true ⟨rfl,?_⟩)))
  exact wpS_pure h
end
end Mine
set_option linter.unusedSectionVars false
namespace Mine
set_option tactic.hygienic false
set_option linter.unusedVariables false
open PySem PyProof.Rows
def RawD (h:Heap) (d:Addr) (es:Array DictEntry) (ep:Nat):Prop:=∃ o,h.get? d=some o∧o.cls = .type "dict" ∧ o.data = .dict es ep
theorem RawD.typ {s:Shared}{d:Addr}{es:Array DictEntry}{ep:Nat} (x:RawD s.heap d es ep):s.TypeIs (.ref d) "dict" := ao (x) fun o h1 h2 uu=>(ag o h1 h2)
theorem RawD.at {h h':Heap}{d:Addr}{es:Array DictEntry}{ep:Nat} (x:RawD h d es ep) (k:∀ o,h.get? d=some o→h'.get? d=some o):RawD h' d es ep:=aa (x) fun o h1 r=>(ag o (k o h1) r)
section
variable {prog:Program}{w:World}{A:Around}{E:Value→Shared→Prop}{s:Shared}{d it:Addr}{es:Array DictEntry}{ep i:Nat}
theorem tR {Q:Value→Shared→Prop} (hd:(d == sysModules)=false) (hm:RawD s.heap d es ep)
    (hQ:Q (.ref s.heap.objs.size) { s with heap:=s.heap.push { cls:=.type "dict_keyiterator", data:=.fields #[.ref d,.int 0 0,.int es.size 0,.int ep 0] } }) :
    wpAny (model prog w) A (pyIter (.ref d)) Q E s:=by
  have hT:=hm.typ
  refine ao (hm) fun o ho hc hdat=>?_
  try clear hm
  refine wpAny_pyIter_slot hT F.slot_dict_iter (wpAny_call_entry F.slot_dict_iter hT F.entry_dict_iter ?_ (F.args_dict_iter_1 _))
  unfold Builtin.«dict.__iter__»
  refine wpAny_bind ?_
  unfold Builtin.Dict.dictSlotNone
  refine wpAny_bind (wpAny_notOrdered_dict hT (wpAny_pure ?_))
  show wpAny _ _ (Builtin.Dict.showsAll d >>= _) _ _ s
  unfold Builtin.Dict.showsAll
  rw [if_neg (by rw [hd]; exact Bool.false_ne_true)]
  refine wpAny_bind (wpAny_pure (wpAny_bind (wpAny_dictEntries ho hdat (wpAny_bind (wpAny_dictEpoch ho hdat ?_)))))
  refine wpAny_bind (wpAny_newObj_type (wpAny_pure (ag _ rfl (aK ("dict_keyiterator") _ (ag _ (Heap.get?_push_size _ rfl) rfl) F.slot_dict_keyiterator_next.lookup ?_))))
  simpa [rawInt] using hQ
theorem mR {Q:Option Value→Shared→Prop} (hh:A.handled=none) (hit:s.heap.IsKeyIter it d i es.size ep) (hm:RawD s.heap d es ep)
    (hQ:∀ (hi:i<es.size) h',h'.IsKeyIter it d (i + 1) es.size ep→Heap.SameBut it s.heap h'→Q (some es[i].key) { s with heap:=h' })
    (hE:es.size≤i→∀ h',Heap.ExtBut it s.heap h'→Q none { s with heap:=h' }):wpAny (model prog w) A (pyNext (.ref it)) Q E s:=by
  refine ao (id hit) fun o ho hc hd=>?_
  refine ao (hm) fun od hod hcd hdd=>?_
  try clear hm
  unfold pyNext
  refine wpAny_bind (wpAny_attempt (wpAny_callSpecial?_slot (name:=Str.ofString "__next__") hit.typeIs F.slot_dict_keyiterator_next
    (wpAny_call_entry F.slot_dict_keyiterator_next hit.typeIs F.entry_dict_keyiterator_next ?_ (F.args_dict_keyiterator_next_1 _))))
  refine wpAny_bind (wpAny_pure (wpAny_bind (wpAny_bind ?_)))
  first | refine wpAny_bind (wpAny_typeNameOfWhole_keyiter hit.typeIs (wpAny_pure ?_)) | refine wpAny_bind (wpAny_typeNameOf_keyiter hit.typeIs (wpAny_pure ?_))
  refine wpAny_bind (wpAny_fieldsOf ho hd ?_)
  have hown:Builtin.Dict_items.ownsTuple "dict_keyiterator" = false:=by decide
  simp only [hown,Bool.false_eq_true,if_false]
  show wpAny _ _ (if (Value.ref d == Value.none)=true then _ else _) _ _ s
  rw [if_neg (show ¬ ((Value.ref d == Value.none)=true) from Bool.false_ne_true)]
  refine wpAny_bind (wpAny_pure (wpAny_bind (wpAny_dictEntries hod hdd ?_)))
  rw [if_neg (by simp)]
  refine wpAny_bind (wpAny_pure (wpAny_bind (wpAny_dictEpoch hod hdd ?_)))
  rw [if_neg (by simp)]
  refine wpAny_pure ?_
  by_cases hi:i<es.size
  · simp only [show ¬ ((i:Int)<0) from by exact wh,if_false,Int.toNat_natCast,Array.getElem?_eq_getElem hi]
    refine wpAny_bind ?_
    first | refine wpAny_bind (wpAny_typeNameOfWhole_keyiter hit.typeIs (wpAny_pure ?_)) | refine wpAny_bind (wpAny_typeNameOf_keyiter hit.typeIs (wpAny_pure ?_))
    refine wpAny_bind (wpAny_isOneOf_keyiter hit.typeIs ?_)
    show wpAny _ _ (setField (.ref it) 1 (rawInt ((i:Int) + 1)) >>= _) _ _ s
    refine wpAny_bind (wpAny_setField ho hd (by simp) ?_)
    have hit':(s.heap.update it (Obj.mapFields (·.setIfInBounds 1 (rawInt ((i:Int) + 1))))).IsKeyIter it d (i + 1) es.size ep :=
      (aA _ (Heap.get?_update_self _ ho (Obj.isFreed_of_fields (Obj.data_mapFields hd _))) ((Obj.cls_mapFields ..).trans hc) (by rw [Obj.data_mapFields hd]; simp [rawInt]))
    refine wpAny_bind (wpAny_holding (wpAny_bind (wpAny_isOneOf_keyiter (s:={ s with heap:=s.heap.update it (Obj.mapFields (·.setIfInBounds 1 (rawInt ((i:Int) + 1)))) }) hit'.typeIs ?_)))
    show wpAny _ _ (pure es[i].key) _ _ _
    exact wpAny_pure (wpAny_pure (ag _ rfl (wpAny_pure (hQ hi _ hit' (Heap.SameBut.update ..)))))
  · have hge:es.size≤i:=by exact BW hi
    simp only [show ¬ ((i:Int)<0) from by exact wh,if_false,Int.toNat_natCast,Array.getElem?_eq_none hge]
    refine wpAny_bind ?_
    first | refine wpAny_bind (wpAny_typeNameOfWhole_keyiter hit.typeIs (wpAny_pure ?_)) | refine wpAny_bind (wpAny_typeNameOf_keyiter hit.typeIs (wpAny_pure ?_))
    show wpAny _ _ (setField (.ref it) 0 .none >>= _) _ _ s
    refine wpAny_bind (wpAny_setField ho hd (by simp) ?_)
    show wpAny _ _ (newExc (.type "StopIteration") [] >>= _) _ _ _
    refine wpAny_bind ?_
    simp only [newExc,newTuple]
    refine wpAny_bind (wpAny_newObj_type ?_ (by size_fits))
    refine wpAny_bind (m:=firstArgMember _ _) (wpAny_of_eq (a:=Value.none) (by first | rfl | (simp only [firstArgMember]; rfl)) ?_)
    refine wpAny_newObj_type ?_ (by size_fits)
    simp only [raiseNew]
    refine wpAny_bind (wpAny_handled ?_)
    rw [show A.in1.handled=none from hh]
    refine wpAny_bind (wpAny_pure (wpAny_throw ?_))
    refine wpAny_bind (wpAny_isInstance (T := "StopIteration") (b:=true) (ag _ (Heap.get?_push_size _ rfl) rfl) isSubtype_stop ?_)
    exact wpAny_pure (hE hge _ (((Heap.SameBut.update ..).extBut.push _).push _))
end
theorem r8 {prog:Program}{w:World}{A:Around} (hh:A.handled=none) (I d:Addr) (hne:d≠I) (es:Array DictEntry) (ep:Nat) :
    Walks prog w A I [I,d] [I] es.size (fun i v=>∃ hi:i<es.size,v=es[i].key) (fun i h=>h.IsKeyIter I d i es.size ep∧RawD h d es ep) where
  sub:=fun b hb=>by simp at hb; simp [hb]
  frame:=fun uu uu uu st hk=>⟨st.1.at fun o e=>hk I (by simp) o e,st.2.at fun o e=>hk d (by simp) o e⟩
  item:=fun i s Q E hi st hQ=>mR hh st.1 st.2 (fun hi' h' hit' hs'=>hQ _ h' s.toks ⟨hi',rfl⟩ ⟨hit',st.2.at fun o e=>hs'.extBut d o hne e⟩ fun b o hb e=>hs'.extBut b o (fun h=>hb (by simp [h])) e) fun hge=>absurd hi (Nat.not_lt.mpr hge)
  done:=fun s Q E st hQ=>mR hh st.1 st.2 (fun hi=>absurd hi (Nat.lt_irrefl _)) fun uu h' he'=>hQ h' s.toks fun b o hb e=>he' b o (fun h=>hb (by simp [h])) e
  self:=fun uu uu uu uu st hQ=>wpAny_pyIter_keyiter st.1 hQ
section
variable {prog:Program}{w:World}{A:Around}{E:Value→Shared→Prop}{s:Shared}{d S:Addr}{es:Array DictEntry}{ep:Nat}
theorem qv {Q:Bool→Shared→Prop} (hT:s.TypeIs (.ref d) "dict") (h:Q false s):wpAny (model prog w) A (Builtin.List.listLengthHint (.ref d)) Q E s:=by
  unfold Builtin.List.listLengthHint
  refine wpAny_bind (wpAny_specialOf hT PySem.F.slot_dict_len.lookup ?_)
  generalize hid:("dict.__len__" : String)=id0
  wp_delta
  rw [show splitId id0=some ("dict", "__len__") from by subst hid; decide +kernel]
  subst hid
  refine wpAny_bind (wpAny_isInstance (T := "dict") (b:=true) hT (by rw [isSubtype_type]; kernel_rfl) ?_)
  refine wpAny_ite_split (fun q=>absurd q (by decide)) fun uu=>wpAny_ite_split (fun uu=>wpAny_bind (wpAny_typeOf hT (wpAny_pure h))) fun q=>absurd (by decide +kernel) q
theorem qk {R:Result→Shared→Prop} (lo:(d == sysModules)=false) (hh:A.handled=none) (hm:RawD s.heap d es ep) (hn:es.size≤sizeLine) (hSd:S≠d) {c₀:Nat} (hS:s.heap.get? S=some { cls:=.type "list", data:=.seq #[] c₀ })
    (hR:∀ h' tk acc' c',(∀ b o,b≠S→s.heap.get? b=some o→h'.get? b=some o)→h'.get? S=some { cls:=.type "list", dict:=none,data:=.seq acc' c',slots:=#[] }→ItemsOf (fun i v=>∃ hi:i<es.size,v=es[i].key) acc' es.size→R (.ok (.ret .none)) { s with heap:=h',toks:=tk }) :
    wpAny (model prog w) A.in1 (Builtin.List.listExtendWith (.ref S) (.ref d) .none)
      (fun fin s'=>match fin with | .done f=>R (.ok f) s' | .again c'=>c'.quiet=true∧codeAny (model prog w) A c' R s') (fun e s'=>R (.error e) s') s:=by
  have hSI:S≠s.heap.objs.size:=Nat.ne_of_lt (Heap.lt_size hS)
  have hdI:d≠s.heap.objs.size:=aa (hm) fun uu e uu=>Nat.ne_of_lt (Heap.lt_size e)
  have hSf:S∉[s.heap.objs.size,d]:=by simp only [List.mem_cons,List.not_mem_nil,or_false,not_or]; exact ⟨hSI,hSd⟩
  have W:=r8 (prog:=prog) (w:=w) (A:=A.in1) hh s.heap.objs.size d hdI es ep
  have loop:∀ (h:Heap) (c₁ tk:Nat),(h.IsKeyIter s.heap.objs.size d 0 es.size ep∧RawD h d es ep)→(∀ b o,b≠S→s.heap.get? b=some o→h.get? b=some o) →
      h.get? S=some { cls:=.type "list", data:=.seq #[] c₁ }→codeAny (model prog w) A (.builtin "list.extend.loop" ⟨[.ref S,.ref s.heap.objs.size,.none],[]⟩) R { s with heap:=h,toks:=tk }:=fun h c₁ tk hst hk hS₁=>by
    refine codeAny_extend_loopS W.toS hn S hSf .none es.size 0 _ #[] c₁ rfl (Nat.zero_le _) hst hS₁ (ItemsOf.nil _) fun s' acc' c' hmv hS' hacc=>?_
    rw [Moved.eq_with hmv]
    refine hR s'.heap s'.toks acc' c' (fun b o hb e=>hmv.heap b o (fun hmem=>?_) (hk b o hb e)) hS' hacc
    rcases List.mem_cons.mp hmem with e' | hmem
    · exact hb e'
    · exact absurd (Heap.lt_size e) (by rw [List.mem_singleton.mp hmem]; exact Nat.lt_irrefl _)
  unfold Builtin.List.listExtendWith
  refine wpAny_bind (wpAny_typeOf (T := "dict") hm.typ ?_)
  have h1:Builtin.List.listSameRef (.ref S) (.ref d)=false:=by simp [Builtin.List.listSameRef,hSd]
  simp only [h1,show (Value.type "dict" == Value.type "list")=false by decide,show (Value.type "dict" == Value.type "tuple")=false by decide,Bool.or_false,Bool.false_eq_true,if_false]
  refine wpAny_bind (tR lo hm ?_)
  have hS₁:=Heap.get?_push_of_some { cls:=.type "dict_keyiterator", data:=.fields #[.ref d,.int 0 0,.int es.size 0,.int ep 0] } hS
  have st:(s.heap.push { cls:=.type "dict_keyiterator", data:=.fields #[.ref d,.int 0 0,.int es.size 0,.int ep 0] }).IsKeyIter s.heap.objs.size d 0 es.size ep∧RawD (s.heap.push { cls:=.type "dict_keyiterator", data:=.fields #[.ref d,.int 0 0,.int es.size 0,.int ep 0] }) d es ep:=⟨(aA _ (Heap.get?_push_size _ rfl) rfl rfl),hm.at fun o e=>Heap.get?_push_of_some _ e⟩
  refine wpAny_bind (wpAny_holding (qv st.2.typ ?_))
  refine wpAny_ite_split (fun uu=>?_) (fun uu=>wpAny_pure ⟨plainId_quiet PySem.F.plain_extend_loop _,loop _ c₀ _ st (fun b o _ e=>Heap.get?_push_of_some _ e) hS₁⟩)
  refine wpAny_bind (wpAny_rule (wpAny_bind ?_))
  show wpAny _ _ (updateSeq S (·.push .none) >>= fun uu=>updateSeq S (·.pop)) _ _ _
  refine wpAny_bind (wpAny_updateSeq hS₁ rfl ?_)
  have hS₂:=Heap.get?_update_self (Obj.mapSeq (·.push Value.none)) hS₁ rfl
  refine wpAny_updateSeq (hz:=by seq_fits) hS₂ rfl ?_
  have hS₃:=Heap.get?_update_self (Obj.mapSeq (·.pop)) hS₂ rfl
  refine wpAny_pure ⟨plainId_quiet PySem.F.plain_extend_loop _,loop _ _ _ ?_ (fun b o hb e=>?_) hS₃⟩
  · refine W.frame 0 _ _ st fun b hb o e=>?_
    have hbS:b≠S:=fun h=>hSf (h▸hb)
    exact (Heap.get?_update_other _ _ (Ne.symm hbS)).trans ((Heap.get?_update_other _ _ (Ne.symm hbS)).trans e)
  · exact (Heap.get?_update_other _ _ (Ne.symm hb)).trans ((Heap.get?_update_other _ _ (Ne.symm hb)).trans (Heap.get?_push_of_some _ e))
theorem uw {Q:Value→Shared→Prop} (lo:(d == sysModules)=false) (hh:A.handled=none) (hm:RawD s.heap d es ep) (hn:es.size≤sizeLine)
    (hQ:∀ h' tk acc' c',(∀ b o,s.heap.get? b=some o→h'.get? b=some o)→h'.get? s.heap.objs.size=some { cls:=.type "list", dict:=none,data:=.seq acc' c',slots:=#[] }→ItemsOf (fun i v=>∃ hi:i<es.size,v=es[i].key) acc' es.size→Q (.ref s.heap.objs.size) { s with heap:=h',toks:=tk }) :
    wpAny (model prog w) A (call (.type "list") [.ref d]) Q E s:=by
  refine callType_codes (Q₁:=fun obj s₁=>obj = .ref s.heap.objs.size∧s₁ = { s with heap:=s.heap.push { cls:=.type "list", data:=.seq #[] } }) PySem.F.called_list (PySem.F.typeCall_list_1 _) PySem.F.entry_list_init
    (code_list_new _ ⟨rfl,rfl⟩) fun obj s₁ h₁=>?_
  refine ae (h₁) fun E5 E6=>?_
  try clear h₁
  subst E5
  subst E6
  have hS:(s.heap.push { cls:=.type "list", data:=.seq #[] }).get? s.heap.objs.size=some { cls:=.type "list", data:=.seq #[] }:=Heap.get?_push_size _ rfl
  have hdS:s.heap.objs.size≠d:=aa (hm) fun uu e uu=>Nat.ne_of_gt (Heap.lt_size e)
  refine ⟨(ag _ hS rfl),PySem.F.args_list_init_2 _ _,?_⟩
  show wpAny _ _ (do let old ← Builtin.List.listItems (.ref s.heap.objs.size); Builtin.List.listUpdate (.ref s.heap.objs.size) (fun uu=>#[]); letGo old.toList.reverse; Builtin.List.listExtendWith (.ref s.heap.objs.size) (.ref d) .none) _ _ _
  refine wpAny_bind ?_
  unfold Builtin.List.listItems
  refine wpAny_bind (wpAny_seqItems hS rfl (wpAny_pure ?_))
  show wpAny _ _ (updateSeq s.heap.objs.size (fun uu=>#[]) >>= fun uu=>letGo (#[]:Array Value).toList.reverse >>= fun uu=>Builtin.List.listExtendWith (.ref s.heap.objs.size) (.ref d) .none) _ _ _
  refine wpAny_bind (wpAny_updateSeq hS rfl ?_)
  have hS₂:=Heap.get?_update_self (Obj.mapSeq (fun uu=>(#[]:Array Value))) hS rfl
  have oth:∀ b o,b≠s.heap.objs.size→s.heap.get? b=some o→((s.heap.push { cls:=.type "list", data:=.seq #[] }).update s.heap.objs.size (Obj.mapSeq (fun uu=>(#[]:Array Value)))).get? b=some o :=
    fun b o hb e=>(Heap.get?_update_other _ _ (Ne.symm hb)).trans (Heap.get?_push_of_some _ e)
  refine wpAny_bind (wpAny_letGo ?_)
  refine qk (A:=A.in1) (S:=s.heap.objs.size) (s:={ s with heap:=(s.heap.push { cls:=.type "list", data:=.seq #[] }).update s.heap.objs.size (Obj.mapSeq (fun uu=>(#[]:Array Value))) }) lo hh (hm.at fun o e=>oth d o hdS.symm e) hn hdS hS₂ fun h' tk acc' c' hk hS' hacc=>?_
  exact ⟨rfl,hQ h' tk acc' c' (fun b o e=>hk b o (Nat.ne_of_lt (Heap.lt_size e)) (oth b o (Nat.ne_of_lt (Heap.lt_size e)) e)) hS' hacc⟩
end
end Mine
set_option linter.unusedSectionVars false
namespace Mine
set_option tactic.hygienic false
set_option linter.unusedVariables false
open PySem PyProof.Rows
variable [SF:Soft]
section
variable {prog:Program}{w:World}{A:Around}{E:Value→Shared→Prop}
theorem tQ {rd:Value→List Int}{vs:List Value}{ks:List (List Int)} (hl:vs.length=ks.length) (hkey:∀ (i:Nat) (v:Value) (k:List Int),vs[i]? = some v→ks[i]? = some k→rd v=k):(vs.zip vs).map (fun p=>(rd p.1,p.2))=ks.zip vs:=by
  apply List.ext_getElem?
  intro i
  rw [List.getElem?_map]
  by_cases hi:i<ks.length
  · have q2:ks[i]? = some ks[i]:=List.getElem?_eq_getElem hi
    have q3:vs[i]? = some vs[i]:=List.getElem?_eq_getElem (by exact BL hl hi)
    rw [ol q3 q3,ol q2 q3]
    simp only [Option.map_some]
    rw [hkey i _ _ q3 q2]
  · rw [List.getElem?_eq_none (by rw [List.length_zip]; exact z4 hl hi),List.getElem?_eq_none (by rw [List.length_zip]; exact Ac hi)]
    rfl
theorem mO {s0 s:Shared}{D:Addr}{vs:List Value}{ks:List (List Int)}{e1:Nat}{st:SortSt}{rd:Value→List Int}{P:PySem.Fin→Shared→Prop} (k0:Kp s0 s) (hD:s.heap.get? D=some (seqObj "list" #[] e1)) (f2:s0.heap.get? D=none)
    (hl:vs.length=ks.length) (h64:vs.length<64) (hkey:∀ (i:Nat) (v:Value) (k:List Int),vs[i]? = some v→ks[i]? = some k→rd v=k)
    (hp:(arrOf st).Perm (vs.toArray.zip vs.toArray)) (hu:(arrOf st).toList.Pairwise fun x y=>ltL (rd y.1) (rd x.1)=false) (hf:failedOf st=none)
    (h:∀ s' out c,Kp s0 s'→s'.heap.get? D=some (seqObj "list" out c)→(∃ ps:List (List Int × Value),ps.Perm (ks.zip vs)∧out.toList=ps.map (·.2)∧ps.Pairwise fun x y=>ltL y.1 x.1=false)→P (.done (.ret .none)) s') :
    wpAny (model prog w) A (do
      let sorted:=(arrOf st).map (·.2)
      let touched:=(← seqEpoch D) != e1
      Builtin.List.listUpdate (.ref D) fun uu=>sorted
      if let some e:=failedOf st then rule "list.sort.comparison-raised"; throw e
      if touched then rule "list.sort.modified"; raiseError "ValueError" "list modified during sort"
      ret .none) P E s:=by
  have s2:=Heap.SameBut.update s.heap D (Obj.mapSeq fun uu=>(arrOf st).map (·.2))
  obtain ⟨c2,hc2⟩:∃ c2,(s.heap.update D (Obj.mapSeq fun uu=>(arrOf st).map (·.2))).get? D=some (seqObj "list" ((arrOf st).map (·.2)) c2):=⟨_,get?_update_seq hD fun uu=>(arrOf st).map (·.2)⟩
  have hsz:(arrOf st).size=vs.length:=by rw [hp.size_eq,Array.size_zip]; simp
  have k2:=Kp.wr k0 hD f2 s2
  dsimp only
  refine wpAny_bind (seqEpoch_at hD rfl ?_)
  refine wpAny_bind (listUpdate_at hD rfl ?_ (Nat.zero_le _) (by rw [Array.size_map,hsz,sizeLine_eq]; exact zy h64))
  rw [hf]
  simp only [bne_self_eq_false,Bool.false_eq_true,if_false]
  refine wpAny_pure (h _ _ c2 k2 hc2 (aA ((arrOf st).toList.map fun p=>(rd p.1,p.2)) ?_ ?_ ?_))
  · have hl2:(arrOf st).toList.Perm (vs.zip vs):=by
      have:=Array.perm_iff_toList_perm.mp hp
      rwa [cY] at this
    exact (hl2.map _).trans (List.Perm.of_eq (tQ hl hkey))
  · rw [Array.toList_map,List.map_map]; rfl
  · rw [List.pairwise_map]; exact hu
structure Keys (prog:Program) (w:World) (κ:SortKind) (Kd:Heap→Value→List Int→Prop) (ne:Prop):Prop where
  fn:∀ {h:Heap}{v:Value}{k k':List Int},Kd h v k→Kd h v k'→k=k'
  kind:∀ {A:Around}{E:Value→Shared→Prop}{s:Shared}{ks:List (List Int)}{vs:List Value}{Q:SortKind→Shared→Prop},vs.length=ks.length→1≤vs.length→(ne→[]∉ks)→(∀ (i:Nat) (v:Value) (k:List Int),vs[i]? = some v→ks[i]? = some k→Kd s.heap v k)→Q κ s→wpAny (model prog w) A (keyKind' vs.toArray) Q E s
  lt:∀ {A:Around}{E:Value→Shared→Prop}{s:Shared}{x y:Value}{k k':List Int}{Q:Bool→Shared→Prop},A.units<cLine→Kd s.heap x k→Kd s.heap y k'→Q (ltL k k') s→wpAny (model prog w) A (keyLt' κ x y) Q E s
section
variable {κ:SortKind}{Kd:Heap→Value→List Int→Prop}{ne:Prop}
open Classical in
noncomputable def dl (Kd:Heap→Value→List Int→Prop) (h:Heap) (v:Value):List Int:=if q:∃ k,Kd h v k then q.choose else []
theorem Keys.read (K:Keys prog w κ Kd ne) {h:Heap}{v:Value}{k:List Int} (x:Kd h v k):dl Kd h v=k:=by
  unfold dl
  have q:∃ k,Kd h v k:=⟨k,x⟩
  rw [dif_pos q]
  exact K.fn q.choose_spec x
theorem Keys.ltOk (K:Keys prog w κ Kd ne) {s:Shared} (hu:A.units<cLine) (ks:List (List Int)):fC (model prog w) A E s (fun p=>rkL ks (dl Kd s.heap p.1)) (fun p=>∃ k∈ks,Kd s.heap p.1 k) κ:=by
  intro x y st Q hx hy hk h
  revert hx; intro Gu
  refine aa (Gu) fun k hm hx=>?_
  try clear Gu
  revert hy; intro F6
  refine aa (F6) fun k' hm' hy=>?_
  try clear F6
  have e:(some (decide ((fun p:Keyed=>rkL ks (dl Kd s.heap p.1)) x<(fun p:Keyed=>rkL ks (dl Kd s.heap p.1)) y)))=some (ltL k k'):=by
    rw [qz hm hm',← K.read hx,← K.read hy]
  rw [e] at h
  rw [lt'_eq]
  refine wpS_bind (wpS_get ?_)
  rw [hk]
  refine wpS_bind (wpS_lift (wpAny_attempt (K.lt hu hx hy ⟨rfl,?_⟩)))
  exact wpS_pure h
set_option maxHeartbeats 4000000 in
theorem jV (K:Keys prog w κ Kd ne) {s0 s:Shared}{D:Addr}{vs:List Value}{ks:List (List Int)}{n:Nat}{P:PySem.Fin→Shared→Prop} (hun:A.units<cLine) (ho:s.heap.get? D=some (seqObj "list" vs.toArray n)) (f2:s0.heap.get? D=none) (k0:Kp s0 s)
    (hl:vs.length=ks.length) (h64:vs.length<64) (hne:ks.length<2∨(ne→[]∉ks)) (hkey:∀ H,KG (fun b=>b≠D) s.heap H→∀ (i:Nat) (v:Value) (k:List Int),vs[i]? = some v→ks[i]? = some k→Kd H v k)
    (h:∀ s' out c,Kp s0 s'→s'.heap.get? D=some (seqObj "list" out c)→(∃ ps:List (List Int × Value),ps.Perm (ks.zip vs)∧out.toList=ps.map (·.2)∧ps.Pairwise fun x y=>ltL y.1 x.1=false)→P (.done (.ret .none)) s') :
    wpAny (model prog w) A (Builtin.«list.sort» ⟨[.ref D],[]⟩) P E s:=by
  rw [list_sort_plain]
  have s1:=Heap.SameBut.update s.heap D (Obj.mapSeq fun uu=>(#[]:Array Value))
  obtain ⟨e1,ho1⟩:∃ e1,(s.heap.update D (Obj.mapSeq fun uu=>(#[]:Array Value))).get? D=some (seqObj "list" #[] e1):=⟨_,get?_update_seq ho fun uu=>#[]⟩
  have k1:=Kp.wr k0 ho f2 s1
  refine wpAny_bind (listItems_at ho rfl ?_)
  refine wpAny_bind (listUpdate_at ho rfl ?_ (by rw [List.size_toArray,sizeLine_eq]; exact wf h64) (Nat.zero_le _))
  refine wpAny_bind (seqEpoch_at ho1 rfl ?_)
  refine wpAny_bind (wpAny_newTuple ?_ (by show vs.length≤_; rw [sizeLine_eq]; exact wf h64))
  refine wpAny_bind (wpAny_newList ?_ (Nat.zero_le _))
  refine wpAny_holding ?_
  have k3:Kp s0 { s with heap:=((s.heap.update D (Obj.mapSeq fun uu=>(#[]:Array Value))).push (seqObj "tuple" vs.toArray 0)).push (seqObj "list" #[] 0) }:=(k1.trans (.push _ _ s.toks)).trans (.push _ _ s.toks)
  have hD3:(((s.heap.update D (Obj.mapSeq fun uu=>(#[]:Array Value))).push (seqObj "tuple" vs.toArray 0)).push (seqObj "list" #[] 0)).get? D=some (seqObj "list" #[] e1):=Heap.get?_push_of_some _ (Heap.get?_push_of_some _ ho1)
  have kg:KG (fun b=>b≠D) s.heap (((s.heap.update D (Obj.mapSeq fun uu=>(#[]:Array Value))).push (seqObj "tuple" vs.toArray 0)).push (seqObj "list" #[] 0)) :=
    (KG.same s1 (fun q=>q rfl) fun o q=>by rw [ho] at q; (have oc:=Option.some.inj q; clear q; subst oc); exact Stay.not_list).trans (.of fun b o _ e=>Heap.get?_push_of_some _ (Heap.get?_push_of_some _ e))
  generalize ((s.heap.update D (Obj.mapSeq fun uu=>(#[]:Array Value))).push (seqObj "tuple" vs.toArray 0)).push (seqObj "list" #[] 0)=H at k3 hD3 kg
  have hkey3:=hkey H kg
  have hrd:∀ (i:Nat) (v:Value) (k:List Int),vs[i]? = some v→ks[i]? = some k→dl Kd H v=k:=fun i v k a b=>K.read (hkey3 i v k a b)
  show wpAny (model prog w) A _ P E { s with heap:=H }
  by_cases h2:vs.toArray.size<2
  · rw [if_pos h2,if_pos h2]
    refine wpAny_bind (wpAny_pure ?_)
    dsimp only
    rw [StateT.run_pure]
    refine wpAny_bind (wpAny_pure ?_)
    dsimp only
    refine mO (s:={ s with heap:=H }) (st:=SortSt.mk' general' (vs.toArray.zip vs.toArray) #[] 7 none) k3 hD3 f2 hl h64 hrd (Array.Perm.refl _) ?_ rfl h
    have hz:(vs.toArray.zip vs.toArray).toList.length≤1:=by
      rw [cY,List.length_zip]; rw [List.size_toArray] at h2; simp; exact BU h2
    show ((vs.toArray.zip vs.toArray).toList).Pairwise _
    exact tD hz
  · rw [if_neg h2,if_neg h2]
    rw [List.size_toArray] at h2
    refine wpAny_bind (K.kind (s:={ s with heap:=H }) (ks:=ks) hl (by exact C0 h2) (hne.resolve_left (by exact AI hl h2)) hkey3 ?_)
    have hzs:(vs.toArray.zip vs.toArray).size=vs.length:=by rw [Array.size_zip]; simp
    have mem:∀ p∈vs.zip vs,∃ k∈ks,Kd H p.1 k:=fun p hp=>by
      refine ai (List.getElem?_of_mem hp) fun i hi=>?_
      refine ae (List.getElem?_zip_eq_some.mp hi) fun q1 q2=>?_
      have hil:i<ks.length:=by rw [← hl]; exact (List.getElem?_eq_some_iff.mp q1).1
      exact (ag (ks[i]) (List.getElem_mem hil) (hkey3 i _ _ q1 (List.getElem?_eq_getElem hil)))
    refine wpAny_bind (wpAny_mono (qp (K.ltOk (E:=E) (s:={ s with heap:=H }) hun ks) (st:=SortSt.mk' κ (vs.toArray.zip vs.toArray) #[] 7 none)
      (Q:=fun uu st'=>(arrOf st').Perm (vs.toArray.zip vs.toArray)∧failedOf st' = none∧Up (fun p=>rkL ks (dl Kd H p.1)) (arrOf st').toList) ⟨fun p hp=>?_,rfl⟩ (by show 2≤(vs.toArray.zip vs.toArray).size; rw [hzs]; exact AL h2) (by show (vs.toArray.zip vs.toArray).size<64; rw [hzs]; exact h64) rfl rfl fun st' a1 a2 a3=>⟨a1,a3,a2⟩) ?_ fun uu uu e=>e)
    · have hp':p∈(vs.toArray.zip vs.toArray).toList:=Array.mem_def.mp hp
      rw [cY] at hp'
      exact mem p hp'
    · rintro ⟨⟨⟩,st'⟩ s'' ⟨rfl,hp,hf,hu⟩
      dsimp only
      refine mO (s:={ s with heap:=H }) k3 hD3 f2 hl h64 hrd hp ?_ hf h
      have hm:∀ p∈(arrOf st').toList,∃ k∈ks,Kd H p.1 k:=fun p hp'=>by
        have:=(Array.perm_iff_toList_perm.mp hp).mem_iff.mp hp'
        rw [cY] at this
        exact mem p this
      refine List.Pairwise.imp_of_mem (fun {a b} ha hb hab=>?_) hu
      refine aa (hm a ha) fun k hk x=>?_
      refine aa (hm b hb) fun k' hk' y=>?_
      have hab':rkL ks (dl Kd H a.1)≤rkL ks (dl Kd H b.1):=hab
      rw [K.read x,K.read y] at hab' ⊢
      rw [qz hk' hk]
      exact decide_eq_false (by exact B9 hab')
end
theorem tZ:Keys prog w (tuples' true) KeyOf True where
  fn:=KeyOf.fn
  kind hl h1 hne hk h:=qx hl h1 (fun i v k a b=>⟨hk i v k a b,fun q=>hne trivial (q▸List.mem_of_getElem? b)⟩) h
  lt _ hx hy h:=si true hx hy h
theorem RA.ofSub {h:Heap}{G:Addr→Prop}:∀ {vs:List Value}{ds:List PyData},vs.length=ds.length→(∀ (i:Nat) (v:Value) (d:PyData),vs[i]? = some v→ds[i]? = some d→∃ bs,R h v d bs∧∀ b∈bs,G b)→∃ cs,RA h vs ds cs∧∀ b∈cs,G b
  | [],[],_,_=>(ag ([]) .nil (fun uu q=>nomatch q))
  | v :: vs,d :: ds,hl,hr=>by
    refine aa (hr 0 v d rfl rfl) fun bs r hb=>?_
    refine aa (RA.ofSub (vs:=vs) (ds:=ds) (by simpa using hl) fun i u e h1 h2=>hr (i + 1) u e h1 h2) fun cs rs hc=>?_
    exact (ag _ (.cons r rs) (fun b q=>(List.mem_append.mp q).elim (hb b) (hc b)))
  | [],_ :: _,hl,_=>by cases hl
  | _ :: _,[],hl,_=>by cases hl
theorem RA.eachSub {h:Heap}{vs:List Value}{ds:List PyData}{as:List Addr} (r:RA h vs ds as):∀ (i:Nat) (v:Value) (d:PyData),vs[i]? = some v→ds[i]? = some d→∃ bs,R h v d bs∧∀ b∈bs,b∈as :=
  RA.ind (N:=fun vs ds as=>∀ (i:Nat) (v:Value) (d:PyData),vs[i]? = some v→ds[i]? = some d→∃ bs,R h v d bs∧∀ b∈bs,b∈as) (fun i v d h1 uu=>by simp at h1) (fun {v vs d ds as bs} r rs ih i u e h1 h2=>by
    cases i with
    | zero=>exact (ag as (Option.some.inj h1▸Option.some.inj h2▸r) (fun b q=>List.mem_append_left _ q))
    | succ i=>
      refine aa (ih i u e h1 h2) fun cs r' hb=>?_
      exact (ag cs r' (fun b q=>List.mem_append_right _ (hb b q)))) r
theorem RA.ofEach {h:Heap}:∀ {vs:List Value}{ds:List PyData},vs.length=ds.length→(∀ (i:Nat) (v:Value) (d:PyData),vs[i]? = some v→ds[i]? = some d→R h v d [])→RA h vs ds []
  | [],[],_,_=>.nil
  | v :: vs,d :: ds,hl,hr=>RA.cons (as:=[]) (bs:=[]) (hr 0 v d rfl rfl) (RA.ofEach (by simpa using hl) fun i u e h1 h2=>hr (i + 1) u e h1 h2)
  | [],_ :: _,hl,_=>by cases hl
  | _ :: _,[],hl,_=>by cases hl
theorem ua {x:PyData}{k:List Int} (h:dj x=some k):x=aL k:=by
  cases x with
  | tuple xs=>
    have key:∀ {xs:List PyData}{k:List Int},aN xs=some k→xs=k.map .int:=fun {xs}=>by
      induction xs with
      | nil=>intro k h; (have oc:=Option.some.inj h; clear h; subst oc); rfl
      | cons y xs ih=>
        intro k h
        cases y with
        | int i=>
          simp only [aN,Option.map_eq_some_iff] at h
          refine aa (h) fun k' h' E5=>?_
          try clear h
          subst E5
          rw [ih h']; rfl
        | _=>exact nN h
    show PyData.tuple xs = .tuple (k.map .int)
    rw [key h]
  | _=>exact nN h
theorem jM:∀ {xs:List PyData}{ks:List (List Int)},dv xs=some ks→xs=ks.map aL
  | [],ks,h=>by (have oc:=Option.some.inj h; clear h; subst oc); rfl
  | x :: xs,ks,h=>by
    simp only [dv] at h
    refine aa (Option.bind_eq_some_iff.mp h) fun k hk h=>?_
    refine aa (Option.map_eq_some_iff.mp h) fun ks' h' E6=>?_
    (clear h; subst E6)
    rw [List.map_cons,← jM h',ua hk]
theorem y4 {k:List Int} (h:k.length≤2 ^ 22):sz (aL k)=true:=sz_tuple.mpr ⟨by rw [List.length_map]; exact h,gV k⟩
variable {P:Addr→Prop}{s:Shared}{Q:Value→Shared→Prop}{Er:Value→Shared→Prop}{va:Value}{as:List Addr}
theorem qW {ks:List (List Int)} (hh:A.handled=none) (ra:RV prog w s.heap va (.dicT ks) as) (hk:ks.length≤lim) (hQ:∀ v s',EP prog w P s (.d (.list (ks.map aL)),fresh (ks.map aL)) v s'→Q v s'):wpAny (model prog w) A (call (bval (b1n .list)) [va]) Q Er s:=by
  refine pL (ra) fun a xs E7 _ lo E8 E9 hks htu=>?_
  try clear ra
  subst E7
  refine cq (E8) fun o es ep e hx hd he _ _=>?_
  try clear E8
  subst E9
  have raw:RawD s.heap a es ep:=(aA o e hx.1 hd)
  have hsz:es.size=xs.length:=size_of_entries he
  rw [List.length_map] at hk
  unfold lim at hk
  refine uw lo hh raw (by rw [hsz,sizeLine_eq]; exact A9 hk) fun h' tk acc' c' hkp hS hacc=>hQ _ _ ?_
  refine EP.aList (vs:=acc'.toList) (n:=c') (as:=[]) (az h' tk rfl (.of hkp)) (Heap.get?_none_of_le (Nat.le_refl _)) (by simpa using hS) (RA.ofEach ?_ fun i v d hi hd'=>?_) (by rw [List.length_map,List.length_map]; exact v6 hk) (fun x hx=>?_) fun uu h=>nomatch h
  · rw [Array.length_toList,List.length_map,List.length_map,hacc.1,hsz]
  · obtain ⟨hi',rfl⟩:=hacc.2 i v (by rw [← Array.getElem?_toList]; exact hi)
    have ee:=entry_at he i
    rw [Array.getElem?_eq_getElem hi'] at ee
    refine aa (Option.map_eq_some_iff.mp ee.symm) fun x hxi hxe=>?_
    have ek:es[i].key = .ref x.2.1:=by rw [← hxe]; rfl
    rw [List.getElem?_map,List.getElem?_map,hxi] at hd'
    (have oc:=Option.some.inj hd'; clear hd'; subst oc)
    rw [ek]
    exact (htu x (List.mem_of_getElem? hxi)).keep hkp
  · refine aa (List.mem_map.mp hx) fun k hk' Fa=>?_
    (clear hx; subst Fa)
    exact y4 (hks k hk')
theorem s8 (ks:List (List Int)):(bH ks).Pairwise fun a b=>ltL b a=false:=by
  have:=List.pairwise_mergeSort (le:=fun a b:List Int=>!ltL b a) (fun a b c h1 h2=>by
    simp only [Bool.not_eq_true'] at h1 h2 ⊢
    cases q:ltL c a with
    | false=>rfl
    | true=>
      cases q2:ltL b c with
      | true=>rw [e8 q2 q] at h1; exact nT h1
      | false=>rw [iJ h2 q2,h1] at q; cases q) (fun a b=>by
    cases q:ltL b a with
    | false=>rfl
    | true=>
      cases q2:ltL a b with
      | false=>rfl
      | true=>have:=e8 q q2; rw [j7] at this; cases this) ks
  exact this.imp fun h=>by simpa using h
theorem oY {κ:SortKind}{Kd:Heap→Value→List Int→Prop}{ne:Prop} (K:Keys prog w κ Kd ne) {g:List Int→PyData}{ks:List (List Int)} (hkd:∀ {h:Heap}{v:Value}{k:List Int}{bs:List Addr},R h v (g k) bs→Kd h v k) (hu:A.units + 200<cLine) (ra:R s.heap va (.list (ks.map g)) as) (ha:∀ b∈as,P b) (hz:sz (.list (ks.map g))=true) (h64:ks.length<64) (hne:ks.length<2∨(ne→[]∉ks)) (hQ:∀ v s',EP prog w P s (.d (.list ((bH ks).map g)),fresh ((bH ks).map g)) v s'→Q v s') :
    wpAny (model prog w) A (call (.builtin "sorted") [va]) Q Er s:=by
  refine bI (ra.isList) fun a vs n cs Fb ea ra' Fc=>?_
  (clear ra; subst Fb)
  subst Fc
  have hl:vs.length=ks.length:=by have:=ra'.length; rw [List.length_map] at this; exact BI this
  have each:∀ (i:Nat) (v:Value) (k:List Int),vs[i]? = some v→ks[i]? = some k→∃ bs,R s.heap v (g k) bs∧∀ b∈bs,b∈cs:=fun i v k h1 h2=>ra'.eachSub i v (g k) h1 (by rw [List.getElem?_map,h2]; rfl)
  have old:∀ b∈cs,∃ o,s.heap.get? b=some o:=fun b hb=>aY (ra'.there b hb) fun uu uu e=>⟨_,e⟩
  refine Calls.call_function_entry kind_sorted plain_sorted entry_sorted (args_sorted1 _) ?_
  unfold Builtin.«sorted»
  refine wpAny_bind (m:=checkCount "sorted" 1 1 _) (wpAny_pure ?_)
  refine wpAny_bind (collect_list (isL ea) ?_ (by rw [sizeLine_eq]; exact vJ h64 hl))
  refine wpAny_bind (wpAny_newList ?_ (by rw [sizeLine_eq]; exact vJ h64 hl))
  have hsz:((s.heap.push (seqObj "list" #[] 0)).update s.heap.objs.size (Obj.mapSeq (· ++ vs.toArray))).objs.size=s.heap.objs.size + 1:=by
    rw [Heap.size_update,size_push']
  have hoL:(((s.heap.push (seqObj "list" #[] 0)).update s.heap.objs.size (Obj.mapSeq (· ++ vs.toArray))).push (seqObj "list" vs.toArray 0)).get? (s.heap.objs.size + 1)=some (seqObj "list" vs.toArray 0):=by
    rw [← hsz]; exact Heap.get?_push_size _ rfl
  have keep:∀ b o,s.heap.get? b=some o→(((s.heap.push (seqObj "list" #[] 0)).update s.heap.objs.size (Obj.mapSeq (· ++ vs.toArray))).push (seqObj "list" vs.toArray 0)).get? b=some o:=fun b o q=>by
    have hlt:b<s.heap.objs.size:=Heap.lt_size q
    rw [Heap.get?_push_ne _ _ _ (by rw [hsz]; exact Nat.ne_of_lt (Nat.lt_succ_of_lt hlt)),Heap.get?_update_ne _ _ _ _ (Nat.ne_of_lt hlt),Heap.get?_push_ne _ _ _ (Nat.ne_of_lt hlt)]
    exact q
  have fnew:s.heap.get? (s.heap.objs.size + 1)=none:=Heap.get?_none_of_le (Nat.le_succ _)
  show wpAny _ _ _ _ _ { s with heap:=((s.heap.push (seqObj "list" #[] 0)).update s.heap.objs.size (Obj.mapSeq (· ++ vs.toArray))).push (seqObj "list" vs.toArray 0) }
  rw [hsz]
  refine wpAny_bind (wpAny_holding (wpAny_call_entry slot_list_sort (ag _ hoL rfl) entry_list_sort ?body (args_list_sort _)))
  case body=>
    refine jV K (s0:=s) (s:={ s with heap:=((s.heap.push (seqObj "list" #[] 0)).update s.heap.objs.size (Obj.mapSeq (· ++ vs.toArray))).push (seqObj "list" vs.toArray 0) }) (by show A.units + 1 + 1<cLine; exact Bh hu) hoL fnew (.of keep) hl (by exact vF h64 hl) hne (fun H kg i v k h1 h2=>?_) fun s' out c kp hD hps=>(ag _ rfl (wpAny_pure (ag _ rfl ?_)))
    · refine aa (each i v k h1 h2) fun bs r hb=>?_
      refine hkd ((r.keep keep).onG kg fun b q e=>?_)
      refine ai (old b (hb b q)) fun o eo=>?_
      rw [e,fnew] at eo; exact nN eo
    refine ao (hps) fun ps p1 p2 p3=>?_
    try clear hps
    have q1:(ps.map (·.1)).Perm ks:=by
      have:=p1.map (·.1)
      rwa [List.map_fst_zip (by exact vS hl)] at this
    have q2:ps.map (·.1)=bH ks:=eS (r:=fun a b=>ltL b a=false) (fun a b h1 h2=>iJ h2 h1) (q1.trans (List.mergeSort_perm ks _).symm) (List.pairwise_map.mpr p3) (s8 ks)
    have hlen:ps.length=ks.length:=by rw [← q1.length_eq,List.length_map]
    obtain ⟨cs',rs,hcs⟩:=RA.ofSub (h:=s'.heap) (G:=fun b=>b∈cs) (vs:=out.toList) (ds:=(bH ks).map g) (by rw [p2,List.length_map,List.length_map,← q2,List.length_map]) fun i v d h1 h2=>by
      rw [← q2,List.map_map,List.getElem?_map] at h2
      rw [p2,List.getElem?_map] at h1
      cases hp:ps[i]? with
      | none=>rw [hp] at h1; exact nN h1
      | some q=>
        rw [hp] at h1 h2
        (have oc:=Option.some.inj h1; clear h1; subst oc); (have oc:=Option.some.inj h2; clear h2; subst oc)
        refine ai (List.getElem?_of_mem (p1.mem_iff.mp (List.mem_of_getElem? hp))) fun j hj=>?_
        refine ae (List.getElem?_zip_eq_some.mp hj) fun j1 j2=>?_
        refine aa (each j _ _ j2 j1) fun bs r hb=>?_
        exact (ag bs (r.k kp.k) hb)
    refine hQ _ _ (EP.aList (vs:=out.toList) (n:=c) (as:=cs') kp fnew (by simpa [seqObj] using hD) rs ?_ (fun x hx=>?_) fun b hb=>⟨ha b (.tail _ (hcs b hb)),fun e=>?_⟩)
    · rw [List.length_map,← q2,List.length_map,hlen]; exact vn h64
    · refine aa (List.mem_map.mp hx) fun k hk' Fd=>?_
      (clear hx; subst Fd)
      refine (sz_list.mp hz).2 _ (List.mem_map.mpr (ag k ?_ rfl))
      exact (List.mergeSort_perm ks _).mem_iff.mp hk'
    · refine ai (old b (hcs b hb)) fun o eo=>?_
      rw [e,fnew] at eo; exact nN eo
theorem oO {xs:List PyData}{ks:List (List Int)} (hu:A.units + 200<cLine) (ra:R s.heap va (.list xs) as) (ha:∀ b∈as,P b) (hz:sz (.list xs)=true) (hk:dv xs=some ks) (h64:xs.length<64) (hne:ks.length<2∨[]∉ks) (hQ:∀ v s',EP prog w P s (.d (.list ((bH ks).map aL)),fresh ((bH ks).map aL)) v s'→Q v s') :
    wpAny (model prog w) A (call (.builtin "sorted") [va]) Q Er s:=by
  cases jM hk
  rw [List.length_map] at h64
  exact oY tZ (fun r=>KeyOf.ofR r) hu ra ha hz h64 (hne.imp id fun h _=>h) hQ
end
end Mine
set_option linter.unusedSectionVars false
namespace Mine
set_option tactic.hygienic false
set_option linter.unusedVariables false
open PySem PyProof.Rows
variable [SF:Soft]
section
variable {prog:Program}{w:World}{A:Around}{E:Value→Shared→Prop}
theorem sy {vs:List Value}{ns:List Int} (h:IntsAre vs ns):(vs.zip vs).map (fun p=>lO p.1)=ns.map Int.toNat:=by
  induction h with
  | nil=>rfl
  | cons n t r ih=>exact congrArg (n.toNat :: ·) ih
theorem wQ {vs:List Value}{ns:List Int} (h:IntsAre vs ns):(∀ i∈ns,0≤i)→∀ p∈vs.zip vs,∃ i t,p.1 = .int i t∧0≤i:=by
  induction h with
  | nil=>exact fun uu p hp=>nomatch hp
  | cons n t r ih=>
    intro h0 p hp
    rcases List.mem_cons.mp (show p∈(Value.int n t,Value.int n t) :: _ from hp) with rfl | hp
    · exact (az n t rfl (h0 n (.head _)))
    · exact ih (fun i hi=>h0 i (.tail _ hi)) p hp
theorem n9 {vs:List Value}{ns:List Int} (hI:IntsAre vs ns) (i:Nat):rkA (fun p=>lO p.1) (vs.toArray.zip vs.toArray) i=((ns.map Int.toNat)[i]?).getD 0:=by
  rw [← sy hI,List.getElem?_map,← cY,Array.getElem?_toList]
  unfold rkA
  cases (vs.toArray.zip vs.toArray)[i]? <;> rfl
set_option maxHeartbeats 4000000 in
theorem mU {s0 s:Shared}{D:Addr}{vs:List Value}{ns:List Int}{n:Nat}{P:PySem.Fin→Shared→Prop} (ho:s.heap.get? D=some (seqObj "list" vs.toArray n)) (f2:s0.heap.get? D=none) (k0:Kp s0 s)
    (hI:IntsAre vs ns) (h2:2≤vs.length) (h128:vs.length<128) (hup:ns.Pairwise (· < ·)) (h0:∀ i∈ns,0≤i)
    (h:∀ s' c,Kp s0 s'→s'.heap.get? D=some (seqObj "list" vs.toArray c)→P (.done (.ret .none)) s') :
    wpAny (model prog w) A (Builtin.«list.sort» ⟨[.ref D],[]⟩) P E s:=by
  rw [list_sort_plain]
  have s1:=Heap.SameBut.update s.heap D (Obj.mapSeq fun uu=>(#[]:Array Value))
  obtain ⟨e1,ho1⟩:∃ e1,(s.heap.update D (Obj.mapSeq fun uu=>(#[]:Array Value))).get? D=some (seqObj "list" #[] e1):=⟨_,get?_update_seq ho fun uu=>#[]⟩
  have k1:=Kp.wr k0 ho f2 s1
  refine wpAny_bind (listItems_at ho rfl ?_)
  refine wpAny_bind (listUpdate_at ho rfl ?_ (by rw [List.size_toArray,sizeLine_eq]; exact wa h128) (Nat.zero_le _))
  refine wpAny_bind (seqEpoch_at ho1 rfl ?_)
  refine wpAny_bind (wpAny_newTuple ?_ (by show vs.length≤_; rw [sizeLine_eq]; exact wa h128))
  refine wpAny_bind (wpAny_newList ?_ (Nat.zero_le _))
  refine wpAny_holding ?_
  have k3:Kp s0 { s with heap:=((s.heap.update D (Obj.mapSeq fun uu=>(#[]:Array Value))).push (seqObj "tuple" vs.toArray 0)).push (seqObj "list" #[] 0) }:=(k1.trans (.push _ _ s.toks)).trans (.push _ _ s.toks)
  have hD3:(((s.heap.update D (Obj.mapSeq fun uu=>(#[]:Array Value))).push (seqObj "tuple" vs.toArray 0)).push (seqObj "list" #[] 0)).get? D=some (seqObj "list" #[] e1):=Heap.get?_push_of_some _ (Heap.get?_push_of_some _ ho1)
  generalize ((s.heap.update D (Obj.mapSeq fun uu=>(#[]:Array Value))).push (seqObj "tuple" vs.toArray 0)).push (seqObj "list" #[] 0)=H at k3 hD3
  show wpAny (model prog w) A _ P E { s with heap:=H }
  have hn2:¬ vs.toArray.size<2:=by rw [List.size_toArray]; exact C2 h2
  rw [if_neg hn2,if_neg hn2]
  have hkk:keyKind' vs.toArray=pure oneType':=by
    rcases vs with _ | ⟨a,_ | ⟨b,vs⟩⟩
    · simp at h2
    · simp at h2
    · exact keyKind_ints hI
  rw [hkk]
  refine wpAny_bind (wpAny_pure ?_)
  have hlen:=hI.length
  have hzs:(vs.toArray.zip vs.toArray).size=vs.length:=by rw [Array.size_zip]; simp
  refine wpAny_bind (wpAny_mono (pT (sq (prog:=prog) (w:=w) (A:=A) (E:=E) (s:={ s with heap:=H })) (st:=SortSt.mk' oneType' (vs.toArray.zip vs.toArray) #[] 7 none)
      (Q:=fun uu st'=>arrOf st' = vs.toArray.zip vs.toArray∧failedOf st' = none) ⟨fun p hp=>?_,rfl⟩ (by show 2≤(vs.toArray.zip vs.toArray).size; rw [hzs]; exact zi h2) (by show (vs.toArray.zip vs.toArray).size<128; rw [hzs]; exact h128) rfl rfl ?_ fun st' a1 a2=>⟨a1,a2⟩) ?_ fun uu uu e=>e)
  · have hp':p∈(vs.toArray.zip vs.toArray).toList:=Array.mem_def.mp hp
    rw [cY] at hp'
    exact wQ hI h0 p hp'
  · intro i j _ hij hj
    replace hj:j<0 + (vs.toArray.zip vs.toArray).size:=hj
    rw [hzs] at hj
    show rkA _ (vs.toArray.zip vs.toArray) i≤rkA _ (vs.toArray.zip vs.toArray) j
    rw [n9 hI,n9 hI,List.getElem?_map,List.getElem?_map,List.getElem?_eq_getElem (show i<ns.length by exact v9 hlen hij hj),List.getElem?_eq_getElem (show j<ns.length by exact vy hlen hj)]
    show (ns[i]'_).toNat≤(ns[j]'_).toNat
    by_cases e:i=j
    · subst e; exact Nat.le_refl _
    · have:=List.pairwise_iff_getElem.mp hup i j (by exact v9 hlen hij hj) (by exact vy hlen hj) (by exact Bm hij e)
      exact Int.toNat_le_toNat (Int.le_of_lt this)
  · rintro ⟨⟨⟩,st'⟩ s'' ⟨rfl,ha,hf⟩
    dsimp only
    have ev:(arrOf st').map (·.2)=vs.toArray:=by
      rw [ha]
      apply Array.toList_inj.mp
      rw [Array.toList_map,cY,List.map_snd_zip (Nat.le_refl _)]
    have s2:=Heap.SameBut.update H D (Obj.mapSeq fun uu=>vs.toArray)
    obtain ⟨c2,hc2⟩:∃ c2,(H.update D (Obj.mapSeq fun uu=>vs.toArray)).get? D=some (seqObj "list" vs.toArray c2):=⟨_,get?_update_seq hD3 fun uu=>vs.toArray⟩
    have k4:=Kp.wr (s:={ s with heap:=H }) k3 hD3 f2 s2
    refine wpAny_bind (seqEpoch_at (s:={ s with heap:=H }) hD3 rfl ?_)
    rw [show (arrOf st').map (fun x=>x.2)=vs.toArray from ev]
    refine wpAny_bind (listUpdate_at (s:={ s with heap:=H }) hD3 rfl ?_ (Nat.zero_le _) (by rw [List.size_toArray,sizeLine_eq]; exact Bi h128))
    rw [show failedOf st' = none from hf]
    simp only [bne_self_eq_false,Bool.false_eq_true,if_false]
    exact wpAny_pure (h _ c2 k4 hc2)
variable {P:Addr→Prop}{s:Shared}{Q:Value→Shared→Prop}{Er:Value→Shared→Prop}{va:Value}{as:List Addr}
theorem pU {xs:List PyData}{ns:List Int} (ra:R s.heap va (.list xs) as) (hi:aN xs=some ns) (h64:¬ xs.length<64) (h128:xs.length<128) (h0:∀ i∈ns,0≤i) (hup:ns.Pairwise (· < ·)) (hQ:∀ v s',EP prog w P s (.d (af ns),.deep) v s'→Q v s') :
    wpAny (model prog w) A (call (.builtin "sorted") [va]) Q Er s:=by
  refine bI (ra.isList) fun a vs n cs E5 ea ra' E6=>?_
  (clear ra; subst E5)
  subst E6
  have hl:=ra'.length
  refine aB (ra'.ints hi) fun hI E7 E8=>?_
  subst E7
  subst E8
  rw [List.length_map] at hl h64 h128
  refine Calls.call_function_entry kind_sorted plain_sorted entry_sorted (args_sorted1 _) ?_
  unfold Builtin.«sorted»
  refine wpAny_bind (m:=checkCount "sorted" 1 1 _) (wpAny_pure ?_)
  refine wpAny_bind (collect_list (isL ea) ?_ (by rw [sizeLine_eq]; exact vG h128 hl))
  refine wpAny_bind (wpAny_newList ?_ (by rw [sizeLine_eq]; exact vG h128 hl))
  have hsz:((s.heap.push (seqObj "list" #[] 0)).update s.heap.objs.size (Obj.mapSeq (· ++ vs.toArray))).objs.size=s.heap.objs.size + 1:=by
    rw [Heap.size_update,size_push']
  have hoL:(((s.heap.push (seqObj "list" #[] 0)).update s.heap.objs.size (Obj.mapSeq (· ++ vs.toArray))).push (seqObj "list" vs.toArray 0)).get? (s.heap.objs.size + 1)=some (seqObj "list" vs.toArray 0):=by
    rw [← hsz]; exact Heap.get?_push_size _ rfl
  have keep:∀ b o,s.heap.get? b=some o→(((s.heap.push (seqObj "list" #[] 0)).update s.heap.objs.size (Obj.mapSeq (· ++ vs.toArray))).push (seqObj "list" vs.toArray 0)).get? b=some o:=fun b o q=>by
    have hlt:b<s.heap.objs.size:=Heap.lt_size q
    rw [Heap.get?_push_ne _ _ _ (by rw [hsz]; exact Nat.ne_of_lt (Nat.lt_succ_of_lt hlt)),Heap.get?_update_ne _ _ _ _ (Nat.ne_of_lt hlt),Heap.get?_push_ne _ _ _ (Nat.ne_of_lt hlt)]
    exact q
  show wpAny _ _ _ _ _ { s with heap:=((s.heap.push (seqObj "list" #[] 0)).update s.heap.objs.size (Obj.mapSeq (· ++ vs.toArray))).push (seqObj "list" vs.toArray 0) }
  rw [hsz]
  refine wpAny_bind (wpAny_holding (wpAny_call_entry slot_list_sort (ag _ hoL rfl) entry_list_sort ?body (args_list_sort _)))
  case body=>
    refine mU (s0:=s) (s:={ s with heap:=((s.heap.push (seqObj "list" #[] 0)).update s.heap.objs.size (Obj.mapSeq (· ++ vs.toArray))).push (seqObj "list" vs.toArray 0) }) hoL (Heap.get?_none_of_le (Nat.le_succ _)) (.of keep) hI (by exact Cs h64 hl) (by exact AA h128 hl) hup h0 fun s' c kp hD=>(ag _ rfl (wpAny_pure (ag _ rfl (hQ _ _ ?_))))
    have ep:EP prog w P s (.d (.list (ns.map .int)),fresh (ns.map .int)) (.ref (s.heap.objs.size + 1)) s' :=
      EP.aList (vs:=vs) (n:=c) (as:=[]) kp (Heap.get?_none_of_le (Nat.le_succ _)) (by simpa [seqObj] using hD) (RA.of_ints hI) (by rw [List.length_map]; exact Am h128) (gV _) fun uu h=>(nomatch h)
    have ef:fresh (ns.map .int) = .deep:=by
      unfold fresh
      rw [if_pos]
      rw [List.all_map,List.all_eq_true]
      intro _ _; rfl
    rw [ef] at ep
    exact ep
end
end Mine
namespace Mine
set_option tactic.hygienic false
set_option linter.unusedVariables false
open PySem PyProof.Rows
set_option linter.unusedSectionVars false
variable [SF:Soft]
section
variable (prog:Program) (w:World) (fns:Fns) (k:Nat) (C:Calls) (XP:String→Shared→Value→Shared→Prop)
noncomputable def b6:Prop:=∀ f g,C f=some g→1≤k∧(f = "law" → fns.lam=true)∧(f∈aM→f∈SF.excN)∧(f∉aM→∃ a,adr fns f=some a∧∀ {A:Around}{P:Addr→Prop}{s:Shared}{Q:Value→Shared→Prop}{Er:Value→Shared→Prop}{xs:List V}{vals:List Value}{as:List Addr},
  Room fns.hand k A→(∃ l,A.frames=some l∧FrOk s.heap l)→GE fns s.heap→RVs prog w s.heap xs vals as→(∀ a∈as,P a)→g xs≠.bad→(∀ r,g xs = .ok r→∀ v s',EP prog w P s r v s'→Q v s')→(∀ c,g xs = .exc c→∀ x s',XP c s x s'→Er x s') →
  wpAny (model prog w) A (call (.ref a) vals []) Q Er s)
end
section
variable {prog:Program}{w:World}{fns:Fns}{k:Nat}{C:Calls}{XP:String→Shared→Value→Shared→Prop}
theorem ln {ns:List (Str × NameKind)}{a:E}{v:Expr}{n:Str}{env:Env} (hs:jq a=true) (ok:okE ns a v=true):attributeBase v n env (eval v env)=eval v env:=by
  cases a with
  | name x=>
    refine Or.elim (qN ok) (fun Fe=>?_) (fun q=>?_)
    · refine av (Fe) fun FK FR Gh FX=>?_
      clear Fe
      (clear ok; subst Gh)
      rfl
    · cases q
  | call f es=>
    refine Or.elim (rD ok) (fun Fg=>?_) (fun q=>?_)
    · refine bP (Fg) fun Go FT xs F5 Gg h=>?_
      clear Fg
      (clear ok; subst Gg)
      simp only [Bool.and_eq_true,Bool.not_eq_true'] at h
      cases xs with
      | nil=>have:=h.1.1.2; exact nT this
      | cons x xs=>rfl
    · cases q
  | _=>exact nF hs
theorem kX {h:Heap}{v:Value}{c n:Int}{d:PyData}{as:List Addr} (r:RV prog w h v (.rule c d n) as):∃ x D vf bs t u mA,v = .ref x∧as=x :: D :: bs∧h.Inst x SF.rule mA∧mA "count" = some (.int c t)∧mA "full" = some vf∧mA "size" = some (.int n u)∧(∀ m∈methNames,mA (Str.ofString m)=none)∧R h vf d bs∧sz d=true:=by
  refine hW (r) fun x D o vf bs t u mA h1 h2 h3 h4 h5 h6 h7 h8 h9 h10 h11 h12 h13 h14=>?_
  try clear r
  exact ⟨x,D,vf,bs,t,u,mA,h1,h2,(a7 o h3 h4 h5 (.inr (aA D h6 h7 h8))),h9,h10,h11,h12,h13,h14⟩
theorem jo:typeLookup (.type "object") "count" = pure none:=by rw [typeLookup_type,builtinLookup_eq_fast]; kernel_rfl
theorem lu:typeLookup (.type "object") "full" = pure none:=by rw [typeLookup_type,builtinLookup_eq_fast]; kernel_rfl
theorem kS:typeLookup (.type "object") "size" = pure none:=by rw [typeLookup_type,builtinLookup_eq_fast]; kernel_rfl
theorem sa {m:String} (hm:m∈methNames):typeLookup (.type "object") (Str.ofString m)=pure none:=by
  simp only [methNames,List.mem_cons,List.not_mem_nil,or_false] at hm
  rcases hm with rfl | rfl | rfl | rfl | rfl <;> (rw [typeLookup_type,builtinLookup_eq_fast]; kernel_rfl)
theorem rG {x:V}{n:String}{r:V × Mode}{va:Value}{as:List Addr}{A:Around}{P:Addr→Prop}{s:Shared}{Q:Value→Shared→Prop}{Er:Value→Shared→Prop}{expr:Bool} (ge:GE fns s.heap) (hi:fns.init.isSome=true) (he:iG x n = .ok r) (ra:RV prog w s.heap va x as) (ha:∀ a∈as,P a)
    (hQ:∀ v s',EP prog w P s r v s'→Q v s'):wpAny (model prog w) A (getAttr va (Str.ofString n) expr) Q Er s:=by
  replace he:=aD he
  revert he; intro F6
  refine aa (F6) fun E5 hq he=>?_
  try clear F6
  obtain ⟨c,d,sz'⟩:=E5
  cases jJ hq
  dsimp only at he ra
  refine sm (kX ra) fun y D vf bs t u mA E6 E7 I f1 f2 f3 f4 rd zd=>?_
  subst E6
  subst E7
  refine ay (ge.cls (.inr hi)) fun N mN E8 quiet _=>?_
  obtain ⟨E9,hn⟩:=E8
  refine dC (E9) fun nm q bs' sn sub col dd k0 k1 k2 k3 k5 hC=>?_
  try clear E9
  obtain ⟨hh,g,dr,tk,os⟩:=s
  have ga:=quiet "__getattribute__" (by simp)
  by_cases e1:n = "count"
  · subst e1
    rw [if_pos rfl] at he; (have oc:=Out.ok.inj he; clear he; subst oc)
    exact load_attr hC hn ga (quiet "count" (by simp)) jo I f1 rfl (hQ _ _ (.int (.toks _ _)))
  rw [if_neg e1] at he
  by_cases e2:n = "full"
  · (clear e1; subst e2)
    rw [if_pos rfl] at he; (have oc:=Out.ok.inj he; clear he; subst oc)
    have hf:handedOut vf=pure vf:=by cases rd <;> rfl
    refine load_attr hC hn ga (quiet "full" (by simp)) lu I f2 hf (hQ _ _ ?_)
    exact .after (.toks ⟨hh,g,dr,tk,os⟩ _) (pi (s:=⟨hh,g,dr,tk + 1,os⟩) (x:=.d d) ⟨rd,zd⟩ fun a h=>ha a (.tail _ (.tail _ h)))
  rw [if_neg e2] at he
  by_cases e3:n = "size"
  · (clear e1 e2; subst e3)
    rw [if_pos rfl] at he; (have oc:=Out.ok.inj he; clear he; subst oc)
    exact load_attr hC hn ga (quiet "size" (by simp)) kS I f3 rfl (hQ _ _ (.int (.toks _ _)))
  rw [if_neg e3] at he
  exact nB he
theorem uy (hC:b6 prog w fns k C XP) {a:E}{n:String} (Sa:SimE prog w fns k C XP a):SimE prog w fns k C XP (.attr a n):=by
  intro ex A env σ P s Q Er ok X nb hQ hE
  replace ok:=yw ok
  revert ok; refine fun Fq=>Or.elim Fq (fun Fl=>?_) (fun ok=>?_)
  · clear Fq
    refine aZ (Fl) fun FU FY FQ hn hs oa=>?_
    clear Fl
    subst FQ
    simp only [je] at nb hQ hE
    cases hR:C "Rule" with
    | none=>rw [hR] at nb; exact absurd rfl nb
    | some g=>
    have hi:fns.init.isSome=true:=by
      refine aa ((hC "Rule" g hR).2.2.2 (by decide)) fun fa hfa _=>?_
      unfold adr at hfa
      rw [if_pos rfl] at hfa
      refine aa (Option.map_eq_some_iff.mp hfa) fun uu q _=>?_
      rw [q]; rfl
    rw [hR] at nb hQ hE
    simp only [aC] at nb hQ hE
    refine ae (aq nb) fun n1 n2=>?_
    rw [arm_eval_Attribute,ln hs oa]
    refine wpAny_bind (Sa oa X n1 (fun x hx va s₁ Ea=>?_) fun c hc=>hE c (by rw [hc]; rfl))
    obtain ⟨ka,as,ra,ha,_⟩:=Ea
    have:∃ r,iG x.1 n = .ok r:=by
      cases h:iG x.1 n with
      | ok r=>exact ⟨r,rfl⟩
      | exc c=>exact absurd h (t0 c)
      | bad=>exact absurd h (n2 x hx)
    refine ai (this) fun r hr=>?_
    try clear this
    refine wpAny_bind (wpAny_standAt (wpAny_bind (wpAny_holding (rG (P:=fun a=>P a∨s.heap.get? a=none) (X.ge.k ka.k) hi hr ra ha fun v s' E=>?_))))
    exact wpAny_bind (wpAny_letTemporaryGo (wpAny_pure (hQ r (by rw [hx]; exact hr) v s' (E.shift ka))))
  · cases ok
theorem jc {ns:List (Str × NameKind)}{env:Env}:∀ {es:Es}{xs:List Expr},cw ns es xs=true→∀ pos:Pos,(backTo pos (starEach xs env)).any (·.1)=false∧(backTo pos (starEach xs env)).all (fun x=>!x.1)=true
  | .nil,xs,h,pos=>by
    refine Or.elim (oZ h) (fun Fo=>?_) (fun q=>?_)
    · refine ae (Fo) fun Gb GB=>?_
      clear Fo
      (clear h; subst Gb)
      exact ⟨rfl,rfl⟩
    · cases q
  | .cons e es,xs,h,pos=>by
    refine Or.elim (l9 h) (fun Fs=>?_) (fun q=>?_)
    · refine av (Fs) fun x ys Gc h=>?_
      clear Fs
      subst Gc
      refine ae (Bool.and_eq_true_iff.mp h) fun h1 h2=>?_
      refine ae (jc (env:=env) h2 pos) fun a b=>?_
      rw [aF h1]
      constructor
      · show (false || (backTo pos (starEach ys env)).any (·.1))=false
        rw [a]; rfl
      · show (!false && (backTo pos (starEach ys env)).all (fun x=>!x.1))=true
        rw [b]; rfl
    · cases q
theorem ly {A:Around}{env:Env}{pos:Pos}{e:Expr}{rest:List Expr}{Q:Value→Shared→Prop}{E:Value→Shared→Prop}{s:Shared}{Cl N:Addr}{mN:Str→Option Value} (he:starEach (e :: rest) env=(false,eval e env) :: starEach rest env) (hp:(backTo pos (starEach rest env)).any (·.1)=false)
    (h:wpAny (model prog w) A (spliced (backTo pos (starEach (e :: rest) env))) (fun vs s₁=>ClsAt s₁.heap Cl N mN∧wpAny (model prog w) A (call (.ref Cl) vs) Q E s₁) E s) :
    wpAny (model prog w) A (callWith pos (.ref Cl) [] (backTo pos (starEach (e :: rest) env)) []) Q E s:=by
  rw [he] at h ⊢
  have hst:((backTo pos ((false,eval e env) :: starEach rest env)).any (fun x=>x.fst) || ([]:List (Option Str × Sem Value)).any fun x=>x.fst.isNone)=false:=by
    show ((false || (backTo pos (starEach rest env)).any (·.1)) || false)=false
    rw [hp]; rfl
  unfold callWith
  refine wpAny_bind (wpAny_holding (Calls.evalArgs_plain (wpAny_mono h (fun vs s₁ h₁=>?_) fun uu uu x=>x)))
  obtain ⟨hh,g,d,t,os⟩:=s₁
  revert h₁; intro FL
  refine ae (FL) fun Fa h₁=>?_
  try clear FL
  obtain ⟨Fb,_⟩:=Fa
  refine dC (Fb) fun nm q bs sn sub col dd k0 k1 k2 k3 k5 hC=>?_
  try clear Fb
  have f1:=tc_lookup
  have hT:(⟨hh,g,d,t,os⟩:Shared).TypeIs (.ref Cl) "type" := (ag _ hC rfl)
  refine wpAny_bind (wpAny_standAt ?_)
  show wpAny _ _ (keeperOf (.ref Cl) >>= _) _ _ _
  unfold keeperOf specialOf
  repeat (any_goals (first | assumption | with_reducible refine wpAny_loadPart_at hC ?_ | with_reducible refine wpAny_load' hC ?_ | wp_step))
  rw [if_pos (by rfl),hst]
  show wpAny _ _ (call (.ref Cl) vs [] >>= fun r=>do holding [r] point; pure r) _ _ _
  exact wpAny_bind (wpAny_mono h₁ (fun r s' hr=>wpAny_bind (wpAny_holding (wpAny_point (wpAny_pure hr)))) fun uu uu x=>x)
theorem ul (hf:fns.hand=false) (hC:b6 prog w fns k C XP) (hXP:∀ c s s₁ x s',Kp s s₁→XP c s₁ x s'→XP c s x s') {a:E}{m:String}{es:Es} (Sa:SimE prog w fns k C XP a) (Ss:ej prog w fns k C XP es):SimE prog w fns k C XP (.meth a m es):=by
  intro ex A env σ P s Q Er ok X nb hQ hE
  replace ok:=yU ok
  revert ok; refine fun FF=>Or.elim FF (fun Fz=>?_) (fun ok=>?_)
  · clear FF
    refine qA (Fz) fun v p xs pos Gf hl hm hne hlt hs oa oes=>?_
    clear Fz
    subst Gf
    simp only [gw] at nb hQ hE
    refine ae (aq nb) fun n1 n2=>?_
    rw [arm_eval_Call,ln hs oa]
    refine wpAny_bind (Sa oa X n1 (fun x hx va s₁ Ea=>?_) fun c hc=>hE c (by rw [hc]; rfl))
    replace n2:=n2 x hx
    rw [hx] at hQ hE
    simp only [Out.ok_bind] at hQ hE
    obtain ⟨ka,as,ra,ha,_⟩:=Ea
    refine wpAny_bind (wpAny_standAt ?_)
    have X₁:=X.k ka.k
    by_cases hq:∃ q g,d0 x.1=some q∧C m=some g
    · revert hq; intro Hk
      refine av (Hk) fun Fc g hq hg=>?_
      try clear Hk
      obtain ⟨c,d,n⟩:=Fc
      have hx1:=jJ hq
      rw [hx1] at ra
      rw [hq,hg] at n2 hQ hE
      simp only [aC] at n2 hQ hE
      refine ae (aq n2) fun n3 n4=>?_
      obtain ⟨fa,hfa,hcall⟩:=(hC m g hg).2.2.2 (by
        simp only [methNames,List.mem_cons,List.not_mem_nil,or_false] at hm
        rcases hm with rfl | rfl | rfl | rfl | rfl <;> decide)
      have hmR:m ≠ "Rule" := by
        rintro rfl
        simp [methNames] at hm
      rw [ot hmR hm] at hfa
      refine aa (Option.map_eq_some_iff.mp hfa) fun pm hpm Fd=>?_
      subst Fd
      refine sm (kX ra) fun y D vf bs t u mA Ff Fi I f1 f2 f3 f4 rd zd=>?_
      subst Ff
      (clear deep top; subst Fi)
      refine aZ (X₁.ge.cls (.inl (bn m pm hpm))) fun N mN Fh quiet _ hmth=>?_
      obtain ⟨Fm,hn⟩:=Fh
      refine dC (Fm) fun nm q bs' sn sub col dd k0 k1 k2 k3 k5 hCl=>?_
      try clear Fm
      refine bG (hmth m pm hpm) fun of g1 g2 g3 g4=>?_
      have hform:methodCallForm (xs.length + ([]:List Keyword).length) (backTo pos (starEach xs env)) (backToKw pos (keywordEach [] env))=true:=by
        unfold methodCallForm
        rw [(jc (env:=env) oes pos).2]
        show (true && true && decide (xs.length + 0 + 0<30))=true
        simp; exact Be hlt
      have hpos:methodCallPos true v env p pos=pure pos:=by unfold methodCallPos; simp [hl]
      unfold methodCall
      rw [hform]
      obtain ⟨hh,gg,dr,tk,os⟩:=s₁
      refine wpAny_bind (wpAny_holding (method_of hCl hn (quiet "__getattribute__" (by simp)) (quiet "__getattr__" (by simp)) g1 g3 g4 (sa hm) I (f4 m hm) ?_))
      refine wpAny_bind (wpAny_of_eq hpos ?_)
      refine ay (g2) fun o fd ho hfd _=>?_
      try clear g2
      refine Calls.callWith_function (o:=o) (fd:=fd) ?_
      cases xs with
      | nil=>simp at hne
      | cons y' ys=>
        cases es with
        | nil=>exact Bool.noConfusion (show false=true from oes)
        | cons e es=>
          have oy:okE env.scope.names e y' = true:=(Bool.and_eq_true_iff.mp (show (okE env.scope.names e y' && cw env.scope.names es ys)=true from oes)).1
          have hS:=Ss (pos:=pos) (A:=A) (P:=P) (s:=⟨hh,gg,dr,tk,os⟩) (Er:=Er) (Q:=fun vs s₂=>(s₂.heap.get? pm.1=some o∧o.data = .func fd)∧wpAny (model prog w) A (call (.ref pm.1) ([.ref y] ++ vs) []) Q Er s₂) oes X₁ n3 (fun l hl vs s₂ Es=>?_) fun c hc z s' hz=>hE c (by rw [hc]; rfl) z s' (hXP c s _ z s' ka hz)
          · rw [aF oy] at hS ⊢
            exact Calls.evalArgs_plain hS
          · obtain ⟨ks,bs₂,rs,hb,_⟩:=Es
            refine ⟨⟨ks.k.exact ho (fun uu q=>by rw [hfd] at q; cases q) fun uu uu q=>(by rw [hfd] at q; cases q),hfd⟩,?_⟩
            have hnb':=n4 l hl
            rw [hl] at hQ hE
            simp only [Out.ok_bind] at hQ hE
            rw [hx1] at hQ hE hnb'
            have kall:=ka.trans ks
            refine hcall (P:=fun a=>P a∨s.heap.get? a=none) X.room (aa (X.frm hf) fun l' a' b'=>(ag l' a' (b'.k kall.k))) (X.ge.k kall.k) (.cons (ra.k ks.k) rs) (fun b h=>?_) hnb' (fun r hr v s' E=>hQ r hr v s' (E.shift kall)) fun c hc z s' hz=>hE c hc z s' (hXP c s _ z s' kall hz)
            rcases List.mem_append.mp h with h | h
            · exact ha b h
            · exact (hb b h).imp id ka.none
    · exfalso
      cases h1:d0 x.1 with
      | none=>rw [h1] at n2; exact n2 rfl
      | some q=>
        cases h2:C m with
        | none=>rw [h1,h2] at n2; exact n2 rfl
        | some g=>exact hq (az q g h1 h2)
  · cases ok
end
end Mine
namespace Mine
set_option tactic.hygienic false
set_option linter.unusedVariables false
open PySem PyProof.Rows
set_option linter.unusedSectionVars false
variable [SF:Soft]
section
variable {prog:Program}{w:World}{fns:Fns}{k:Nat}{C:Calls}{XP:String→Shared→Value→Shared→Prop}
theorem wE {f:B1}{x:V}{c:String}:b1V f x≠.exc c:=yG c
theorem b1_list' {β:Type}{v:V}{f:List PyData→Out β}{r:β} (h:(aC (asD v) fun x=>aC (asL x) f) = .ok r):∃ xs,v = .d (.list xs)∧f xs = .ok r:=by
  refine aa (aD h) fun x h1 h=>?_
  refine aa (aD h) fun xs h2 h=>?_
  exact (ag xs (by rw [cL h1,ce h2]) h)
set_option tactic.hygienic true in
theorem wX {f:B1}{x:V}{r:V × Mode}{va:Value}{as:List Addr}{A:Around}{P:Addr→Prop}{s:Shared}{Q:Value→Shared→Prop}{Er:Value→Shared→Prop} (hh:A.handled=none) (hu:A.units + 200<cLine) (he:b1V f x = .ok r) (ra:RV prog w s.heap va x as) (ha:∀ a∈as,P a)
    (hQ:∀ v s',EP prog w P s r v s'→Q v s'):wpAny (model prog w) A (call (bval (b1n f)) [va]) Q Er s:=by
  unfold b1V at he
  cases hd:o6 x with
  | some ks=>
    rw [hd] at he
    cases su hd
    simp only [lD] at he
    split at he
    · rename_i hk
      revert hk; intro Hq
      refine ae (Hq) fun E5 hk=>?_
      try clear Hq
      subst E5
      (have oc:=Out.ok.inj he; clear he; subst oc)
      exact qW hh ra hk hQ
    · exact nB he
  | none=>
  rw [hd] at he
  dsimp only at he
  cases f with
  | len=>exact t6 he ra hQ
  | list=>
    replace he:=aD he
    revert he; intro GM
    refine aa (GM) fun y hy he=>?_
    try clear GM
    cases cL hy
    cases ht:asT y with
    | none=>
      simp only [ht] at he
      replace he:=aD he
      revert he; intro Ht
      refine aa (Ht) fun xs hx he=>?_
      try clear Ht
      cases ce hx
      (have oc:=Out.ok.inj he; clear he; subst oc)
      refine bI (ra.1.isList) fun a vs n cs E6 ea ra' E7=>?_
      subst E6
      subst E7
      have hz:=sz_list.mp ra.2
      exact ll (.inl rfl) ea ra' hz.1 hz.2 (fun b hb=>ha b (.tail _ hb)) hQ
    | some xs=>
      simp only [ht] at he
      (have oc:=Out.ok.inj he; clear he; subst oc)
      cases jX ht
      refine aS (ra.1.isTup) fun a vs n E8 ea ra'=>?_
      subst E8
      have hz:=sz_tuple.mp ra.2
      exact ll (.inr rfl) ea ra' hz.1 hz.2 ha hQ
  | tuple=>
    replace he:=b1_list' he
    revert he; intro FG
    refine aa (FG) fun xs E9 he=>?_
    try clear FG
    (clear hd; subst E9)
    (have oc:=Out.ok.inj he; clear he; subst oc)
    exact sU ra.1 ra.2 ha hQ
  | sorted=>
    replace he:=b1_list' he
    revert he; intro GN
    refine aa (GN) fun xs Fa he=>?_
    try clear GN
    (clear hd; subst Fa)
    unfold dg at he
    split at he
    · rename_i h64
      split at he
      · rename_i ns hn
        (have oc:=Out.ok.inj he; clear he; subst oc)
        exact qh ra.1 hn h64 hQ
      · unfold eE at he
        cases ht:dv xs with
        | some ks=>
          rw [ht] at he
          dsimp only at he
          split at he
          · rename_i hc
            (have oc:=Out.ok.inj he; clear he; subst oc)
            exact oO hu ra.1 ha ra.2 ht h64 hc hQ
          · exact nB he
        | none=>
          rw [ht] at he
          dsimp only at he
          exact nB he
    · rename_i h64
      split at he
      · rename_i h128
        refine aa (aD he) fun ns hn he=>?_
        split at he
        · rename_i hc
          (have oc:=Out.ok.inj he; clear he; subst oc)
          exact pU ra.1 hn h64 h128 hc.1 hc.2 hQ
        · exact nB he
      · exact nB he
  | max=>
    replace he:=b1_list' he
    revert he; intro FS
    refine aa (FS) fun xs Fb he=>?_
    try clear FS
    (clear hd; subst Fb)
    replace he:=aD he
    revert he; intro GJ
    refine aa (GJ) fun i hi he=>?_
    try clear GJ
    refine aa (Option.bind_eq_some_iff.mp hi) fun ns hi1 hi2=>?_
    (have oc:=Out.ok.inj he; clear he; subst oc)
    exact sS hh ra.1 hi1 hi2 hQ
theorem yg (f:B1):b1n f∈bnames:=by cases f <;> decide
theorem yM (f:B2):b2n f∈bnames:=by cases f <;> decide
theorem zL (f:B1):(Str.ofString (b1n f) == ("__debug__" : Str))=false:=by cases f <;> decide
theorem CX (f:B2):(Str.ofString (b2n f) == ("__debug__" : Str))=false:=by cases f <;> decide
theorem og (hf:fns.hand=false) {f:B1}{a:E} (Sa:SimE prog w fns k C XP a):SimE prog w fns k C XP (.bi1 f a):=by
  intro ex A env σ P s Q Er ok X nb hQ hE
  replace ok:=wd ok
  revert ok; refine fun Fj=>Or.elim Fj (fun Fe=>?_) (fun ok=>?_)
  · clear Fj
    refine bP (Fe) fun FK FR Ga FX FO ok=>?_
    clear Fe
    subst FO
    simp only [Bool.and_eq_true,beq_iff_eq] at ok
    refine ae (ok) fun Fd oa=>?_
    try clear ok
    refine ae (Fd) fun Ff hg=>?_
    try clear Fd
    subst Ff
    simp only [iw] at nb hQ hE
    refine ae (aq nb) fun n1 n2=>?_
    have fin:∀ {B:Value},B=bval (b1n f)→∀ {pos:Pos},wpAny (model prog w) A (spliced (backTo pos (starEach [_] env))) (fun vs s₁=>wpAny (model prog w) A (call B vs) Q Er s₁) Er s:=fun {B} hB {pos}=>by
      subst hB
      refine fN _ oa (Sa oa X n1 (fun r hr v s₁ Ea=>?_) fun c hc=>hE c (by rw [hc]; rfl))
      have n3:=n2 r hr
      cases h:b1V f r.1 with
      | bad=>exact absurd h n3
      | exc c=>exact absurd h wE
      | ok q=>
        obtain ⟨ka,as,ra,ha,_⟩:=Ea
        exact wX (P:=fun a=>P a∨s.heap.get? a=none) (X.room.1 hf) X.room.units h ra ha fun v s' E=>hQ q (by rw [hr]; exact h) v s' (E.shift ka)
    refine eJ X.eok X.ge (yg f) hg (zL f) ?_
    cases f with
    | list=>exact gN (T := "list") _ oa rfl (fin rfl)
    | tuple=>exact gN (T := "tuple") _ oa rfl (fin rfl)
    | _=>exact iW _ oa rfl (fin rfl)
  · cases ok
theorem wu {f:B2}{x y:V}{c:String}:b2V f x y≠.exc c:=xO c
theorem xh (hh0:fns.hand=false) (hXP:∀ c s s₁ x s',Kp s s₁→XP c s₁ x s'→XP c s x s') {f:B2}{a b:E} (Sa:SimE prog w fns k C XP a) (Sb:SimE prog w fns k C XP b):SimE prog w fns k C XP (.bi2 f a b):=by
  intro ex A env σ P s Q Er ok X nb hQ hE
  replace ok:=BH ok
  revert ok; refine fun Fk=>Or.elim Fk (fun Fg=>?_) (fun ok=>?_)
  · clear Fk
    refine gu (Fg) fun FT F5 F0 FU FY FQ ok=>?_
    clear Fg
    subst FQ
    simp only [Bool.and_eq_true,beq_iff_eq] at ok
    refine ae (ok) fun Fi ob=>?_
    try clear ok
    refine ae (Fi) fun Fh oa=>?_
    try clear Fi
    refine ae (Fh) fun Fm hg=>?_
    try clear Fh
    subst Fm
    simp only [jY] at nb hQ hE
    have e:bval (b2n f) = .builtin (b2n f):=by cases f <;> rfl
    refine eJ X.eok X.ge (yM f) hg (CX f) ?_
    rw [e]
    refine iW _ oa (by rw [aF ob]; rfl) (wpAny_items_cons ?_ (aF oa _ env))
    refine wpAny_mono (gk hXP (f:=b2V f) (G:=fun va vb s₂=>wpAny (model prog w) A (call (.builtin (b2n f)) [va,vb]) Q Er s₂) Sa Sb oa ob X nb hE (fun uu uu uu=>wu) fun x y r he hf va vb s₂ as bs kp ra rb ha hb=>?_) (fun va s₁ h=>fN _ ob h) fun uu uu e=>e
    refine ay (fq hf) fun x y Fr Fp h1=>?_
    subst Fr
    subst Fp
    refine ay (dm h1) fun i j Ft Fy _=>?_
    (clear h1; subst Ft)
    subst Fy
    refine aa (ra.1.isInt) fun uu FA FC=>?_
    (clear ra; subst FA)
    subst FC
    refine aa (rb.1.isInt) fun uu FE FH=>?_
    (clear rb; subst FE)
    subst FH
    exact wR (P:=fun a=>P a∨s.heap.get? a=none) (X.room.1 hh0) hf fun v s' E=>hQ r he v s' (E.shift kp)
  · cases ok
theorem tP {x:V}{t c:String}:fB x t≠.exc c:=wP c
theorem uv {t:String}{k:Nat}{b:Bool} (h:jU t k=some b):t∈bnames∧bval t = .type t :=
  l6 h (fun e uu=>e▸⟨by decide,rfl⟩) (fun e uu=>e▸⟨by decide,rfl⟩) (fun e uu=>e▸⟨by decide,rfl⟩) (fun e uu=>e▸⟨by decide,rfl⟩) fun e uu=>e▸⟨by decide,rfl⟩
theorem rI {id:Str}{p:Pos} (xs:List Expr) (env:Env):starEach (.Name id p :: xs) env=(false,eval (.Name id p) env) :: starEach xs env:=rfl
theorem xt {a:E}{t:String} (Sa:SimE prog w fns k C XP a):SimE prog w fns k C XP (.isi a t):=by
  intro ex A env σ P s Q Er ok X nb hQ hE
  replace ok:=CG ok
  revert ok; refine fun Fx=>Or.elim Fx (fun Fo=>?_) (fun ok=>?_)
  · clear Fx
    refine o4 (Fo) fun G3 Hc HR HB HO HU Hx ok=>?_
    clear Fo
    subst Hx
    simp only [Bool.and_eq_true,beq_iff_eq] at ok
    refine ae (ok) fun Gi hdt=>?_
    try clear ok
    refine ae (Gi) fun Gn hgt=>?_
    try clear Gi
    refine ae (Gn) fun Gj GO=>?_
    try clear Gn
    refine ae (Gj) fun Gp oa=>?_
    try clear Gj
    refine ae (Gp) fun GF hg=>?_
    try clear Gp
    subst GF
    subst GO
    simp only [kF] at nb hQ hE
    refine ae (aq nb) fun n1 n2=>?_
    refine eJ X.eok X.ge (id := "isinstance") (by decide) hg (by decide) (iW (id := "isinstance") _ oa rfl (wpAny_items_cons ?_ (aF oa _ env)))
    refine Sa oa X n1 (fun x hx va s₁ Ea=>?_) fun c hc=>hE c (by rw [hc]; rfl)
    cases h:fB x.1 t with
    | bad=>exact absurd h (aq (n2 x hx)).1
    | exc c=>exact absurd h tP
    | ok b=>
      refine aa (t9 h) fun xd hxd hi=>?_
      refine ae (uv hi) fun hm hb=>?_
      have ge:=X.ge.k Ea.keeps.k
      refine ao (ge.glob) fun mg g1 _ g3=>?_
      refine aa (ge.blt) fun mb b1 b2=>?_
      refine wpAny_items_cons ?_ (rI [] env)
      refine Calls.Name_function_global X.eok.kind (eT hgt) (Calls.loadGlobal_builtin (X.eok.glob▸g1) (g3 t hm) (X.eok.blt▸b1) (b2 t hm) ?_) (nd hdt)
      refine wpAny_items_nil ?_
      obtain ⟨ka,as,ra,ha,_⟩:=Ea
      rw [hxd] at ra
      rw [hb]
      exact tp hi ra.1 fun s' kp=>hQ (sB b) (by rw [hx,Out.ok_bind,h]; rfl) _ _ (.bool (ka.trans kp))
  · cases ok
set_option tactic.hygienic true in
theorem uz (hf:fns.hand=false) (hC:b6 prog w fns k C XP) (hXP:∀ c s s₁ x s',Kp s s₁→XP c s₁ x s'→XP c s x s') {f:String}{es:Es} (Ss:ej prog w fns k C XP es):SimE prog w fns k C XP (.call f es):=by
  intro ex A env σ P s Q Er ok X nb hQ hE
  replace ok:=rD ok
  revert ok; refine fun Fu=>Or.elim Fu (fun Fs=>?_) (fun ok=>?_)
  · clear Fu
    refine bP (Fs) fun HY p xs pos HD ok=>?_
    clear Fs
    subst HD
    simp only [Bool.and_eq_true,beq_iff_eq,Bool.not_eq_true',decide_eq_false_iff_not] at ok
    refine ae (ok) fun F9 oes=>?_
    try clear ok
    refine ae (F9) fun Gm hl=>?_
    try clear F9
    refine ae (Gm) fun F4 hne=>?_
    try clear Gm
    refine ae (F4) fun GQ hx=>?_
    try clear F4
    refine ae (GQ) fun Hm hm=>?_
    try clear GQ
    refine ae (Hm) fun GS hd=>?_
    try clear Hm
    refine ae (GS) fun GT hg=>?_
    try clear GS
    subst GT
    simp only [iZ] at nb hQ hE
    split at nb
    · rename_i g hCf
      rw [hCf] at hQ hE
      dsimp only at hQ hE
      refine ae (aq nb) fun n1 n2=>?_
      refine aa ((hC f g hCf).2.2.2 hx) fun fa hfa hcall=>?_
      refine ao (X.ge.glob) fun mg g1 g2 _=>?_
      refine wpAny_Call_NameR (Calls.Name_function_global X.eok.kind (eT hg) (Calls.loadGlobal_global (X.eok.glob▸g1) (g2 f fa hm hfa) ?_) (nd hd))
      cases xs with
      | nil=>simp at hne
      | cons y ys=>
        cases es with
        | nil=>exact Bool.noConfusion (show false=true from oes)
        | cons e es=>
          refine ae (Bool.and_eq_true_iff.mp (show (okE env.scope.names e y && cw env.scope.names es ys)=true from oes)) fun oy oys=>?_
          have fin:∀ l,evs C (.cons e es) σ = .ok l→∀ vs s₁,EPs prog w P s l vs s₁→wpAny (model prog w) A (call (.ref fa) vs []) Q Er s₁:=fun l hl vs s₁ Es=>by
            obtain ⟨ks,as,rs,ha,_⟩:=Es
            exact hcall (P:=fun a=>P a∨s.heap.get? a=none) X.room (aa (X.frm hf) fun l' a' b'=>(ag l' a' (b'.k ks.k))) (X.ge.k ks.k) rs ha (n2 l hl) (fun r hr v s' E=>hQ r (by rw [hl]; exact hr) v s' (E.shift ks)) fun c hc z s' hz=>hE c (by rw [hl]; exact hc) z s' (hXP c s s₁ z s' ks hz)
          by_cases hR:f = "Rule"
          · have hi:fns.init.isSome=true:=by
              unfold adr at hfa
              rw [if_pos hR] at hfa
              refine aa (Option.map_eq_some_iff.mp hfa) fun uu q _=>?_
              rw [q]; rfl
            have hfr:fa=SF.rule:=by
              unfold adr at hfa
              rw [if_pos hR] at hfa
              refine aa (Option.map_eq_some_iff.mp hfa) fun uu uu q=>?_
              exact q.symm
            refine av (X.ge.cls (.inr hi)) fun N mN hcl _=>?_
            rw [← hfr] at hcl
            exact ly (aF oy _ env) (jc oys pos).1 (Ss (pos:=pos) oes X n1 (fun l hl vs s₁ Es=>⟨oH hcl Es.keeps.k,fin l hl vs s₁ Es⟩) fun c hc=>hE c (by rw [hc]; rfl))
          · rw [rM hR hm] at hfa
            refine aa (Option.map_eq_some_iff.mp hfa) fun q hq HF=>?_
            (clear hcall; subst HF)
            refine ay (X.ge.funs f q hq) fun o fd ho hfd _=>?_
            refine Calls.callWith_function (o:=o) (fd:=fd) ?_
            have hS:=Ss (pos:=pos) (A:=A) (P:=P) (s:=s) (Er:=Er) (Q:=fun vs s₁=>(s₁.heap.get? q.1=some o∧o.data = .func fd)∧wpAny (model prog w) A (call (.ref q.1) ([] ++ vs) []) Q Er s₁) oes X n1 (fun l hl vs s₁ Es=>?_) fun c hc=>hE c (by rw [hc]; rfl)
            · rw [aF oy] at hS ⊢
              exact Calls.evalArgs_plain hS
            · refine ⟨⟨Es.keeps.k.exact ho (fun uu q=>by rw [hfd] at q; cases q) fun uu uu q=>(by rw [hfd] at q; cases q),hfd⟩,?_⟩
              rw [List.nil_append]
              exact fin l hl vs s₁ Es
    · exact absurd rfl nb
  · cases ok
noncomputable def rz:Expr→Bool
  | .UnaryOp .Not _ _=>false
  | .BoolOp _ _ _=>false
  | .IfExp _ _ _ _=>false
  | .Compare _ _ _ _=>false
  | _=>true
theorem lK {ex:Expr} (h:rz ex=true) (env:Env) (t:Sem Value):isTrue ex env t=(do let v ← t; standAt ex.pos; holding [v] (truthy v)):=by
  cases ex with
  | UnaryOp op x p=>cases op <;> first | rfl | exact nF h
  | _=>first | rfl | exact nF h
noncomputable def qP:E→Bool
  | .not _ | .cmp _ _ _ | .and _ _ | .or _ _=>false
  | _=>true
theorem sG {ns:List (Str × NameKind)}{e:E}{ex:Expr} (hp:qP e=true) (h:okE ns e ex=true):rz ex=true:=by
  cases ex with
  | UnaryOp op x p=>
    cases e with
    | not _=>exact nF hp
    | neg a=>
      refine Or.elim (we h) (fun Fz=>?_) (fun q=>?_)
      · refine av (Fz) fun HN HM q HT=>?_
        clear Fz
        cases q; rfl
      · cases q
    | _=>exact Bool.noConfusion (show false=true from h)
  | BoolOp _ _ _=>
    cases e with
    | and _ _=>exact nF hp
    | or _ _=>exact nF hp
    | _=>exact Bool.noConfusion (show false=true from h)
  | Compare _ _ _ _=>
    cases e with
    | cmp _ _ _=>exact nF hp
    | _=>exact Bool.noConfusion (show false=true from h)
  | IfExp _ _ _ _=>cases e <;> exact Bool.noConfusion (show false=true from h)
  | _=>rfl
variable (prog w fns k C XP)
structure SimAll (ee:E):Prop where
  e:SimE prog w fns k C XP ee
  t:SimT prog w fns k C XP ee
  a:SimA prog w fns k C XP ee
  o:SimO prog w fns k C XP ee
  ta:SimTA prog w fns k C XP ee
  to:SimTO prog w fns k C XP ee
variable {prog w fns k C XP}
noncomputable def lQ:E→Bool
  | .and _ _=>false
  | _=>true
noncomputable def oR:E→Bool
  | .or _ _=>false
  | _=>true
theorem fb {ns:List (Str × NameKind)}{e:E}{vs:List Expr} (h:lQ e=true):okA ns e vs=false:=by cases e <;> first | rfl | exact nF h
theorem fo {ns:List (Str × NameKind)}{e:E}{vs:List Expr} (h:oR e=true):okO ns e vs=false:=by cases e <;> first | rfl | exact nF h
theorem SimAll.ofET {e:E} (S:SimE prog w fns k C XP e) (T:SimT prog w fns k C XP e) (ha:lQ e=true) (ho:oR e=true):SimAll prog w fns k C XP e where
  e:=S
  t:=T
  a:=iV S fun ok=>by rw [fb ha] at ok; exact nF ok
  o:=ja S fun ok=>by rw [fo ho] at ok; exact nF ok
  ta:=ic T fun ok=>by rw [fb ha] at ok; exact nF ok
  to:=ik T fun ok=>by rw [fo ho] at ok; exact nF ok
theorem SimAll.ofE {e:E} (S:SimE prog w fns k C XP e) (hp:qP e=true) (ha:lQ e=true) (ho:oR e=true):SimAll prog w fns k C XP e :=
  .ofET S (pO S fun uu uu env t ok=>lK (sG hp ok) env t) ha ho
section
variable (hf:fns.hand=false) (hC:b6 prog w fns k C XP) (hXP:∀ c s s₁ x s',Kp s s₁→XP c s₁ x s'→XP c s x s')
include hXP
theorem jl {a b:E} (Sa:SimAll prog w fns k C XP a) (Sb:SimAll prog w fns k C XP b):SimAll prog w fns k C XP (.and a b) :=
    have S:SimE prog w fns k C XP (.and a b):=wD hXP Sa.e Sb.a
    have T:SimT prog w fns k C XP (.and a b):=uK hXP Sa.t Sb.ta
    { e:=S,t:=T,o:=ja S fun ok=>(by rw [fo rfl] at ok; cases ok),to:=ik T fun ok=>(by rw [fo rfl] at ok; cases ok),
      a:=iV S fun {vs} _ _ _ _ _ _ _ _ ok X nb hQ hE=>(by
        replace ok:=i_A ok
        revert ok; refine fun GH=>Or.elim GH (fun GG=>?_) (fun ok=>?_)
        · clear GH
          refine av (GG) fun HW HZ HJ ok=>?_
          clear GG
          subst HJ
          simp only [Bool.and_eq_true] at ok
          exact xU hXP Sa.e Sb.a ok.1 ok.2 X nb hQ hE
        · cases ok),
      ta:=ic T fun {vs} _ _ _ _ _ _ _ ok X nb hQ hE=>(by
        replace ok:=i_A ok
        revert ok; refine fun G2=>Or.elim G2 (fun Hp=>?_) (fun ok=>?_)
        · clear G2
          refine av (Hp) fun HK HV HG ok=>?_
          clear Hp
          subst HG
          simp only [Bool.and_eq_true] at ok
          exact wc hXP Sa.t Sb.ta ok.1 ok.2 X nb hQ hE
        · cases ok) }
theorem kR {a b:E} (Sa:SimAll prog w fns k C XP a) (Sb:SimAll prog w fns k C XP b):SimAll prog w fns k C XP (.or a b) :=
    have S:SimE prog w fns k C XP (.or a b):=yp hXP Sa.e Sb.o
    have T:SimT prog w fns k C XP (.or a b):=wN hXP Sa.t Sb.to
    { e:=S,t:=T,a:=iV S fun ok=>(by rw [fb rfl] at ok; cases ok),ta:=ic T fun ok=>(by rw [fb rfl] at ok; cases ok),
      o:=ja S fun {vs} _ _ _ _ _ _ _ _ ok X nb hQ hE=>(by
        replace ok:=i_O ok
        revert ok; refine fun Hf=>Or.elim Hf (fun Hn=>?_) (fun ok=>?_)
        · clear Hf
          refine av (Hn) fun HP HL HC ok=>?_
          clear Hn
          subst HC
          simp only [Bool.and_eq_true] at ok
          exact orL hXP Sa.e Sb.o ok.1 ok.2 X nb hQ hE
        · cases ok),
      to:=ik T fun {vs} _ _ _ _ _ _ _ ok X nb hQ hE=>(by
        replace ok:=i_O ok
        revert ok; refine fun Hg=>Or.elim Hg (fun Hv=>?_) (fun ok=>?_)
        · clear Hg
          refine av (Hv) fun HS HQ HE ok=>?_
          clear Hv
          subst HE
          simp only [Bool.and_eq_true] at ok
          exact yy hXP Sa.t Sb.to ok.1 ok.2 X nb hQ hE
        · cases ok) }
mutual
theorem c6:∀ e:E,hOk e=true→SimAll prog w fns k C XP e
  | .name x,_=>.ofE (jd x) rfl rfl rfl
  | .int i,_=>.ofE (km i) rfl rfl rfl
  | .bool b,_=>.ofE (nc b) rfl rfl rfl
  | .bin o a b,h=>.ofE (om hXP (c6 a (Bool.and_eq_true_iff.mp h).1).e (c6 b (Bool.and_eq_true_iff.mp h).2).e) rfl rfl rfl
  | .not a,h=>.ofET (oL (c6 a h).e) (mw (c6 a h).t) rfl rfl
  | .cmp o a b,h=>.ofET (oB hXP (c6 a (Bool.and_eq_true_iff.mp h).1).e (c6 b (Bool.and_eq_true_iff.mp h).2).e) (mn hXP (c6 a (Bool.and_eq_true_iff.mp h).1).e (c6 b (Bool.and_eq_true_iff.mp h).2).e) rfl rfl
  | .and a b,h=>jl hXP (c6 a (Bool.and_eq_true_iff.mp h).1) (c6 b (Bool.and_eq_true_iff.mp h).2)
  | .or a b,h=>kR hXP (c6 a (Bool.and_eq_true_iff.mp h).1) (c6 b (Bool.and_eq_true_iff.mp h).2)
  | .list es,h=>.ofE (mC (vL es h)) rfl rfl rfl
  | .str _,h | .none,h | .neg _,h | .tup _,h | .edic,h | .comp _ _ _,h | .compif _ _ _ _,h | .sub _ _,h | .slo _ _,h | .shi _ _,h | .attr _ _,h | .bi1 _ _,h | .bi2 _ _ _,h | .isi _ _,h | .call _ _,h | .meth _ _ _,h=>Bool.noConfusion h
termination_by structural e=>e
theorem vL:∀ es:Es,ui es=true→ej prog w fns k C XP es
  | .nil,_=>lc
  | .cons e es,h=>jA hXP (c6 e (Bool.and_eq_true_iff.mp h).1).e (vL es (Bool.and_eq_true_iff.mp h).2)
termination_by structural es=>es
end
include hf hC
mutual
theorem aw:∀ e:E,SimAll prog w fns k C XP e
  | .name x=>.ofE (jd x) rfl rfl rfl
  | .int i=>.ofE (km i) rfl rfl rfl
  | .str s=>.ofE (xK s) rfl rfl rfl
  | .bool b=>.ofE (nc b) rfl rfl rfl
  | .none=>.ofE tH rfl rfl rfl
  | .bin o a b=>.ofE (om hXP (aw a).e (aw b).e) rfl rfl rfl
  | .neg a=>.ofE (xu (aw a).e) rfl rfl rfl
  | .not a=>.ofET (oL (aw a).e) (mw (aw a).t) rfl rfl
  | .cmp o a b=>.ofET (oB hXP (aw a).e (aw b).e) (mn hXP (aw a).e (aw b).e) rfl rfl
  | .and a b=>jl hXP (aw a) (aw b)
  | .or a b=>kR hXP (aw a) (aw b)
  | .list es=>.ofE (mC (fO es)) rfl rfl rfl
  | .tup es=>.ofE (wq (fO es)) rfl rfl rfl
  | .edic=>.ofE sJ rfl rfl rfl
  | .comp elt x it=>.ofE (ue (dJ it) (aw elt).e) rfl rfl rfl
  | .compif elt x it c=>.ofE (qo (dJ it) (aw elt).e (aw c).t) rfl rfl rfl
  | .sub a i=>.ofE (oK hXP (aw a).e (aw i).e) rfl rfl rfl
  | .slo a i=>.ofE (wm hXP (aw a).e (aw i).e) rfl rfl rfl
  | .shi a i=>.ofE (xF hXP (aw a).e (aw i).e) rfl rfl rfl
  | .attr a n=>.ofE (uy hC (aw a).e) rfl rfl rfl
  | .bi1 f a=>.ofE (og hf (aw a).e) rfl rfl rfl
  | .bi2 f a b=>.ofE (xh hf hXP (aw a).e (aw b).e) rfl rfl rfl
  | .isi a t=>.ofE (xt (aw a).e) rfl rfl rfl
  | .call f es=>.ofE (uz hf hC hXP (fO es)) rfl rfl rfl
  | .meth a m es=>.ofE (ul hf hC hXP (aw a).e (fO es)) rfl rfl rfl
termination_by structural e=>e
theorem fO:∀ es:Es,ej prog w fns k C XP es
  | .nil=>lc
  | .cons e es=>jA hXP (aw e).e (fO es)
termination_by structural es=>es
theorem dJ:∀ it:It,dk prog w fns k C XP it
  | .e a=>wL hf (aw a).e
  | .r1 n=>sY hf (aw n).e
  | .r2 a b=>sM hf hXP (aw a).e (aw b).e
termination_by structural it=>it
end
end
end
end Mine
namespace Mine
set_option tactic.hygienic false
set_option linter.unusedVariables false
open PySem PyProof.Rows
set_option linter.unusedSectionVars false
variable [SF:Soft]
theorem io {σ τ:St}{x:String}{v:V × Mode}{ns:List String} (h:∀ y∈ns,σ y=τ y):∀ y∈ns,upd σ x v y=upd τ x v y:=by
  intro y hy
  unfold upd
  split
  · rfl
  · exact h y hy
mutual
theorem ax (C:Calls):∀ (e:E) (σ τ:St),(∀ y∈fv e,σ y=τ y)→ev C e σ=ev C e τ
  | .name x,σ,τ,h=>by simp only [cZ]; rw [h x (by simp [eL])]
  | .int _,_,_,_=>by simp only [fV]
  | .str _,_,_,_=>by simp only [xC]
  | .bool _,_,_,_=>by simp only [ma]
  | .none,_,_,_=>by simp only [mF]
  | .bin o a b,σ,τ,h=>by
    simp only [xD,List.mem_append] at h
    simp only [kE]; rw [ax C a σ τ fun y hy=>h y (.inl hy),ax C b σ τ fun y hy=>h y (.inr hy)]
  | .neg a,σ,τ,h=>by simp only [xa] at h; simp only [kC]; rw [ax C a σ τ h]
  | .not a,σ,τ,h=>by simp only [wZ] at h; simp only [f9]; rw [ax C a σ τ h]
  | .cmp o a b,σ,τ,h=>by
    simp only [xw,List.mem_append] at h
    simp only [fW]; rw [ax C a σ τ fun y hy=>h y (.inl hy),ax C b σ τ fun y hy=>h y (.inr hy)]
  | .and a b,σ,τ,h=>by
    simp only [w5,List.mem_append] at h
    simp only [fR]; rw [ax C a σ τ fun y hy=>h y (.inl hy),ax C b σ τ fun y hy=>h y (.inr hy)]
  | .or a b,σ,τ,h=>by
    simp only [yr,List.mem_append] at h
    simp only [g7]; rw [ax C a σ τ fun y hy=>h y (.inl hy),ax C b σ τ fun y hy=>h y (.inr hy)]
  | .list es,σ,τ,h=>by simp only [tm] at h; simp only [bU]; rw [dW C es σ τ h]
  | .tup es,σ,τ,h=>by simp only [wt] at h; simp only [iE]; rw [dW C es σ τ h]
  | .edic,_,_,_=>by simp only [mG]
  | .comp elt x it,σ,τ,h=>by
    simp only [tA,List.mem_append] at h
    simp only [gJ]
    rw [dq C it σ τ fun y hy=>h y (.inl hy)]
    have e:∀ d,(ev C elt (upd σ x (mk (.d d))))=ev C elt (upd τ x (mk (.d d))):=fun d=>ax C elt _ _ (io fun y hy=>h y (.inr hy))
    simp only [e]
  | .compif elt x it c,σ,τ,h=>by
    simp only [o0,List.mem_append] at h
    simp only [eg]
    rw [dq C it σ τ fun y hy=>h y (.inl hy)]
    have e:∀ d,(ev C elt (upd σ x (mk (.d d))))=ev C elt (upd τ x (mk (.d d))):=fun d=>ax C elt _ _ (io fun y hy=>h y (.inr (.inr hy)))
    have e':∀ d,(ev C c (upd σ x (mk (.d d))))=ev C c (upd τ x (mk (.d d))):=fun d=>ax C c _ _ (io fun y hy=>h y (.inr (.inl hy)))
    simp only [e,e']
  | .sub a b,σ,τ,h=>by
    simp only [nU,List.mem_append] at h
    simp only [iD]; rw [ax C a σ τ fun y hy=>h y (.inl hy),ax C b σ τ fun y hy=>h y (.inr hy)]
  | .slo a b,σ,τ,h=>by
    simp only [xl,List.mem_append] at h
    simp only [kq]; rw [ax C a σ τ fun y hy=>h y (.inl hy),ax C b σ τ fun y hy=>h y (.inr hy)]
  | .shi a b,σ,τ,h=>by
    simp only [xH,List.mem_append] at h
    simp only [kn]; rw [ax C a σ τ fun y hy=>h y (.inl hy),ax C b σ τ fun y hy=>h y (.inr hy)]
  | .attr a n,σ,τ,h=>by simp only [tr] at h; simp only [je]; rw [ax C a σ τ h]
  | .bi1 f a,σ,τ,h=>by simp only [xG] at h; simp only [iw]; rw [ax C a σ τ h]
  | .bi2 f a b,σ,τ,h=>by
    simp only [xp,List.mem_append] at h
    simp only [jY]; rw [ax C a σ τ fun y hy=>h y (.inl hy),ax C b σ τ fun y hy=>h y (.inr hy)]
  | .isi a t,σ,τ,h=>by simp only [xe] at h; simp only [kF]; rw [ax C a σ τ h]
  | .call f es,σ,τ,h=>by simp only [tq] at h; simp only [iZ]; rw [dW C es σ τ h]
  | .meth a m es,σ,τ,h=>by
    simp only [uk,List.mem_append] at h
    simp only [gw]; rw [ax C a σ τ fun y hy=>h y (.inl hy),dW C es σ τ fun y hy=>h y (.inr hy)]
termination_by structural e=>e
theorem dW (C:Calls):∀ (es:Es) (σ τ:St),(∀ y∈fvs es,σ y=τ y)→evs C es σ=evs C es τ
  | .nil,_,_,_=>by simp only [a9]
  | .cons e es,σ,τ,h=>by
    simp only [qU,List.mem_append] at h
    simp only [aV]; rw [ax C e σ τ fun y hy=>h y (.inl hy),dW C es σ τ fun y hy=>h y (.inr hy)]
termination_by structural es=>es
theorem dq (C:Calls):∀ (it:It) (σ τ:St),(∀ y∈bB it,σ y=τ y)→bf C it σ=bf C it τ
  | .e a,σ,τ,h=>by simp only [iu] at h; simp only [f7]; rw [ax C a σ τ h]
  | .r1 a,σ,τ,h=>by simp only [mh] at h; simp only [eH]; rw [ax C a σ τ h]
  | .r2 a b,σ,τ,h=>by
    simp only [tx,List.mem_append] at h
    simp only [eM]; rw [ax C a σ τ fun y hy=>h y (.inl hy),ax C b σ τ fun y hy=>h y (.inr hy)]
termination_by structural it=>it
end
noncomputable def bV (σ:St) (ns:List String):St:=fun x=>if x∈ns then σ x else none
theorem bC (σ:St) (ns:List String):∀ y∈ns,bV σ ns y=σ y:=fun y hy=>by unfold bV; rw [if_pos hy]
theorem lb {M:Model}{A:Around}{E:Value→Shared→Prop}{s:Shared}{a:Addr}{m:Str→Option Value}{name:Str}{v:Value}{T:Value}{Q:Unit→Shared→Prop} (hn:s.heap.Ns a m) (hc:∃ o,s.heap.get? a=some o∧o.cls=T)
    (h:∀ h',h'.Ns a (fun x=>if x=name then some v else m x)→Heap.SameBut a s.heap h'→(∃ o,h'.get? a=some o∧o.cls=T)→Q () { s with heap:=h',toks:=s.toks + 1 }):wpAny M A (nsSet a name v) Q E s:=by
  refine dO (hn) fun o es ep ho hd hk hm=>?_
  try clear hn
  refine aa (hc) fun o' ho' hT=>?_
  try clear hc
  rw [ho] at ho'
  obtain rfl:=Option.some.inj ho'
  have hany:es.any (·.refKey)=false:=by
    rw [Array.any_eq_false']; intro e he; obtain ⟨n,t,h⟩:=hk e he; simp [DictEntry.refKey,h]
  intro Γ p _
  simp only [nsSet,strHash,Sem.wp_bind',Sem.wp_cmd_ask,Sem.wp_pure',Sem.wp_cmd_mkText]
  rw [Sem.wp_loadPart_of M Γ _ p { s with toks:=s.toks + 1 } (o:=o) _ ho]
  simp only [hd,aRefKeyMayBeTheName_eq,aRefKeyMayBeTheNameByArray,hany,Bool.and_false,Bool.false_eq_true,if_false,Sem.wp_cmd_updatePart]
  refine ⟨by rw [ho]; rfl,h _ ?_ (Heap.SameBut.update ..) ?_⟩
  · obtain ⟨c,d,dt,sl⟩:=o
    (clear hT ho'; subst hd)
    cases hi:es.findIdx? (·.key.isStr name) with
    | some i=>
      refine (fx _ _ ep (Heap.get?_update_self _ ho (by simp only [Obj.putName_eq,Obj.putNameByArray,hi]; rfl)) (by simp only [Obj.putName_eq,Obj.putNameByArray,hi]; rfl) (hk.modify _ _) (fun x=>?_))
      show _=if x=name then some v else m x
      rw [← hm]; exact findBy_modify (fun n v=>v.isStr n) Value.isStr_inj es name x v i hi
    | none=>
      refine (fx _ _ (ep + 1) (Heap.get?_update_self _ ho (by simp only [Obj.putName_eq,Obj.putNameByArray,hi]; rfl)) (by simp only [Obj.putName_eq,Obj.putNameByArray,hi]; rfl) (hk.push _ _ _ _) (fun x=>?_))
      show _=if x=name then some v else m x
      rw [← hm]
      exact findBy_push (fun n v=>v.isStr n) es name x _ _ v (fun y=>by
        show (name == y)=decide (y=name)
        by_cases h:y=name
        · (clear hi; subst h); simp
        · have:¬ name=y:=fun e=>h e.symm
          simp [h,this]) hi
  · obtain ⟨c,d,dt,sl⟩:=o
    (clear ho'; subst hd)
    cases hi:es.findIdx? (·.key.isStr name) with
    | some i=>exact (ag _ (Heap.get?_update_self _ ho (by simp only [Obj.putName_eq,Obj.putNameByArray,hi]; rfl)) (by simp only [Obj.putName_eq,Obj.putNameByArray,hi]; exact hT))
    | none=>exact (ag _ (Heap.get?_update_self _ ho (by simp only [Obj.putName_eq,Obj.putNameByArray,hi]; rfl)) (by simp only [Obj.putName_eq,Obj.putNameByArray,hi]; exact hT))
structure Loc (env:Env) (Z:Addr→Prop) (h:Heap) (vals:String→Option Value):Prop where
  cls:∃ o,h.get? env.locals=some o∧o.cls = .type "frame"
  ns:∃ m,h.Ns env.locals m∧∀ x v,vals x=some v→env.kindOf (Str.ofString x)=some .local→m (Str.ofString x)=some v
  nz:¬ Z env.locals
  cell:∀ n c,env.kindOf n=some .cell→env.cells.lookup n=some c→c≠env.locals∧¬ Z c∧∃ v,h.IsCell c v
  cval:∀ x v c,vals x=some v→env.kindOf (Str.ofString x)=some .cell→env.cells.lookup (Str.ofString x)=some c→h.IsCell c (some v)
  apart:∀ n n' c,env.cells.lookup n=some c→env.cells.lookup n' = some c→n=n'
  kinds:∀ x v,vals x=some v→env.kindOf (Str.ofString x)=some .local∨env.kindOf (Str.ofString x)=some .cell
noncomputable def dD (vals:String→Option Value) (x:String) (v:Value):String→Option Value:=fun y=>if y=x then some v else vals y
noncomputable def tb (T:Addr) (h h':Heap):Prop:=(∃ v,h.IsCell T v)→∀ o,h.get? T=some o→∃ o',h'.get? T=some o'∧o'.cls=o.cls∧o'.dict=o.dict∧∀ c,o'.data≠.cls c
theorem uH {M:Model}{A:Around}{E:Value→Shared→Prop}{s:Shared}{env:Env}{name:Str}{c:Addr}{v₀:Option Value}{v:Value}{Q:Unit→Shared→Prop} (hk:env.scope.kind = .function) (hl:env.kindOf name=some .cell) (hc:env.cells.lookup name=some c) (hv:s.heap.IsCell c v₀)
    (h:∀ h',h'.IsCell c (some v)→Heap.SameBut c s.heap h'→tb c s.heap h'→Q () { s with heap:=h' }):wpAny M A (storeName env name v) Q E s:=by
  unfold storeName
  simp only [hl,hk]
  refine wpAny_bind (wpAny_cellOf hc ?_)
  refine aa (hv) fun o ho hd=>?_
  try clear hv
  unfold cellSet
  refine wpAny_bind (wpAny_load ho ?_)
  rw [hd]
  refine wpAny_update ho (h _ (ag ({ o with data:=.cell (some v) }) (Heap.get?_update_self _ ho rfl) rfl) (.update ..) fun uu o' e=>?_)
  rw [ho] at e; (have oc:=Option.some.inj e; clear e; subst oc)
  exact (a7 ({ o with data:=.cell (some v) }) (Heap.get?_update_self _ ho rfl) rfl rfl (fun uu q=>by cases q))
noncomputable def Spot (env:Env) (h:Heap) (T:Addr):Prop:=(T=env.locals∧∃ m,h.Ns T m)∨∃ v,h.IsCell T v
theorem Spot.noseq {env:Env}{h:Heap}{T:Addr} (t:Spot env h T) (o:Obj) (e:h.get? T=some o) (vs:Array Value) (n:Nat):o.data≠.seq vs n:=by
  intro q
  rcases t with ⟨_,m,o',es,ep,e',hd,_⟩ | ⟨v,o',e',hd⟩
  · rw [e'] at e; (have oc:=Option.some.inj e; clear e; subst oc); rw [hd] at q; cases q
  · rw [e'] at e; (have oc:=Option.some.inj e; clear e; subst oc); rw [hd] at q; cases q
theorem Spot.nostay {env:Env}{h:Heap}{T:Addr} (t:Spot env h T) (o:Obj) (e:h.get? T=some o):¬ Stay o:=by
  rcases t with ⟨_,m,o',es,ep,e',hd,_⟩ | ⟨v,o',e',hd⟩
  · rw [e'] at e; (have oc:=Option.some.inj e; clear e; subst oc); exact Stay.not_dict hd
  · rw [e'] at e; (have oc:=Option.some.inj e; clear e; subst oc); exact Stay.not_data (fun uu q=>by rw [hd] at q; cases q) fun uu uu q=>by rw [hd] at q; cases q
section
variable {prog:Program}{w:World}{fns:Fns}{k:Nat}{C:Calls}{XP:String→Shared→Value→Shared→Prop}
theorem Loc.onK {env:Env}{Z:Addr→Prop}{h h':Heap}{vals:String→Option Value} (L:Loc env Z h vals) (kp:K h h'):Loc env Z h' vals where
  cls:=aa (L.cls) fun o e c=>aa (kp _ o (.inl trivial) e) fun o' e' l=>(ag o' e' (l.cls.trans c))
  ns:=aa (L.ns) fun m a b=>(ag m (eZ a kp) b)
  nz:=L.nz
  cell:=fun n c a b=>let ⟨h1,h2,v,h3⟩:=L.cell n c a b; (bJ h1 h2 (bl v (hY h3 kp)))
  cval:=fun x v c a b d=>hY (L.cval x v c a b d) kp
  apart:=L.apart
  kinds:=L.kinds
theorem Loc.var {env:Env}{Z:Addr→Prop}{h:Heap}{vals:String→Option Value} (L:Loc env Z h vals) (eok:EnvOk env) {x:String}{v:Value} (hv:vals x=some v):VarIs h env (Str.ofString x) v:=by
  rcases L.kinds x v hv with hk | hk
  · refine aa (L.ns) fun m a b=>?_
    exact .loc m hk a (b x v hv hk)
  · refine ai (eok.cells _ (.inl hk)) fun c hc=>?_
    exact .cell c (.inl hk) hc (L.cval x v c hv hk hc)
theorem Loc.store {A:Around}{env:Env}{Z:Addr→Prop}{vals:String→Option Value}{s:Shared}{x:String}{v:Value}{Q:Unit→Shared→Prop}{Er:Value→Shared→Prop} (L:Loc env Z s.heap vals) (eok:EnvOk env)
    (hx:env.kindOf (Str.ofString x)=some .local∨env.kindOf (Str.ofString x)=some .cell)
    (hQ:∀ T h' tk,Heap.SameBut T s.heap h'→Spot env s.heap T→tb T s.heap h'→¬ Z T→Loc env Z h' (dD vals x v)→Q () { s with heap:=h',toks:=tk }):wpAny (model prog w) A (storeName env (Str.ofString x) v) Q Er s:=by
  have inj:∀ y,Str.ofString y=Str.ofString x→y=x:=fun y e=>cG e
  have kinds':∀ y u,dD vals x v y=some u→env.kindOf (Str.ofString y)=some .local∨env.kindOf (Str.ofString y)=some .cell:=fun y u hu=>by
    unfold dD at hu
    split at hu
    · rename_i e; (clear hQ inj; subst e); exact hx
    · exact L.kinds y u hu
  refine aa (L.ns) fun m hm hmv=>?_
  rcases hx with hk | hk
  · rw [storeName_local hk (by rw [eok.kind]; rfl)]
    refine lb hm L.cls (fun h' hn hs hcl=>hQ env.locals h' _ hs (.inl (aG rfl (bl m hm))) (fun ⟨u,o,e,q⟩=>by obtain ⟨o',es,ep,e',q',_⟩:=hm; rw [e] at e'; (have oc:=Option.some.inj e'; clear e'; subst oc); rw [q] at q'; cases q') L.nz ?_)
    refine ⟨hcl,(ag _ hn (fun y u hu hky=>?_)),L.nz,fun n c hkn hc=>?_,fun y u c hu hky hc=>?_,L.apart,kinds'⟩
    · unfold dD at hu
      split at hu
      · rename_i e; (clear hQ hk hn inj kinds'; subst e); (have oc:=Option.some.inj hu; clear hu; subst oc); simp
      · rename_i e
        rw [if_neg fun q=>e (inj y q)]
        exact hmv y u hu hky
    · refine aB (L.cell n c hkn hc) fun h1 h2 Fw=>?_
      refine av (Fw) fun u o h3 h4=>?_
      try clear Fw
      exact (bJ h1 h2 (az u o (hs.extBut c o h1 h3) h4))
    · unfold dD at hu
      split at hu
      · rename_i e; (clear hQ hn inj kinds'; subst e); rw [hk] at hky; cases hky
      · refine ae (L.cell _ c hky hc) fun h1 _=>?_
        refine aa (L.cval y u c hu hky hc) fun o h3 h4=>?_
        exact (ag o (hs.extBut c o h1 h3) h4)
  · refine ai (eok.cells _ (.inl hk)) fun c₀ hc₀=>?_
    refine aB (L.cell _ c₀ hk hc₀) fun h1 h2 FD=>?_
    refine ai (FD) fun v₀ h3=>?_
    try clear FD
    refine uH eok.kind hk hc₀ h3 fun h' hn hs hkp=>hQ c₀ h' s.toks hs (.inr ⟨v₀,h3⟩) hkp h2 ?_
    refine ⟨(aa (L.cls) fun o e c=>(ag o (hs.extBut _ o (Ne.symm h1) e) c)),(ag m (hm.sameBut hs (Ne.symm h1)) (fun y u hu hky=>?_)),L.nz,fun n c hkn hc=>?_,fun y u c hu hky hc=>?_,L.apart,kinds'⟩
    · unfold dD at hu
      split at hu
      · rename_i e; (clear hQ hc₀ inj kinds'; subst e); rw [hk] at hky; cases hky
      · exact hmv y u hu hky
    · refine aB (L.cell n c hkn hc) fun g1 g2 FJ=>?_
      refine av (FJ) fun u o g3 g4=>?_
      try clear FJ
      by_cases e:c=c₀
      · (clear h1 h2 h3 hc₀ hkp hs; subst e); exact (bJ g1 g2 (bl _ hn))
      · exact (bJ g1 g2 (az u o (hs.extBut c o e g3) g4))
    · unfold dD at hu
      split at hu
      · rename_i e; (clear hQ hk inj kinds'; subst e); (have oc:=Option.some.inj hu; clear hu; subst oc)
        rw [hc₀] at hc; (have oc:=Option.some.inj hc; clear hc; subst oc)
        exact hn
      · rename_i e
        refine aa (L.cval y u c hu hky hc) fun o g3 g4=>?_
        refine (ag o (hs.extBut c o (fun q=>?_) g3) g4)
        (clear h1 h2 h3 hkp hn hs; subst q)
        exact e (inj y (L.apart _ _ c hc hc₀))
theorem RV.spot {env:Env}{h h':Heap}{T:Addr}{v:Value}{x:V}{as:List Addr} (r:RV prog w h v x as) (tt:Spot env h T) (hkp:tb T h h') (hL:∀ a∈as,a≠env.locals) (hs:Heap.SameBut T h h'):RV prog w h' v x as:=by
  have kp:∀ b o,b≠T→h.get? b=some o→h'.get? b=some o:=fun b o hb e=>hs.extBut b o hb e
  have dne:∀ a∈as,∀ o es ep,h.get? a=some o→o.data = .dict es ep→a≠T:=fun a ha o es ep e hd q=>by
    (clear hkp hs kp; subst q)
    rcases tt with ⟨t,_⟩ | ⟨v,o',e',hd'⟩
    · exact hL a ha t
    · rw [e'] at e; (have oc:=Option.some.inj e; clear e; subst oc); rw [hd'] at hd; cases hd
  have key:∀ ks a,IsTupleKey (intKind prog w) h ks a→IsTupleKey (intKind prog w) h' ks a:=fun ks a hk=>by
    refine aS (hk) fun o it n a1 a2 a3=>?_
    try clear hk
    refine (cu o it n (kp a o (fun q=>?_) a1) a2 a3)
    (clear dne hkp hs kp; subst q)
    exact tt.noseq o a1 _ _ a3.1
  cases x with
  | d x=>exact ⟨r.1.off (wr:=[T]) (fun b hb o e=>.inl (by rw [List.mem_singleton.mp hb] at e; exact tt.noseq o e)) fun b o hb e=>kp b o (fun q=>hb (by simp [q])) e,r.2⟩
  | dic0=>
    refine iC (r) fun a h1 h2 h3 E5 E6=>?_
    try clear r
    refine dO (E5) fun o es ep e hx hd hr=>?_
    try clear E5
    refine cq (E6) fun o' es' ep' e' h4 h5 h6 h7 h8=>?_
    try clear E6
    (clear hL; subst h2)
    have hne:=dne a (.head _) o es ep e hd
    exact (gy a h1 rfl h3 (fx o es ep (kp a o hne e) hx hd hr) (ez o' es' ep' (kp a o' hne e') h4 h5 h6 (fun y hy=>key _ _ (h7 y hy)) h8))
  | dicI ks=>
    refine bG (r) fun a h1 h2 h3 E7=>?_
    try clear r
    refine dO (E7) fun o es ep e hx hd hr=>?_
    try clear E7
    (clear hL; subst h2)
    have hne:=dne a (.head _) o es ep e hd
    exact (a7 a h1 rfl h3 (fx o es ep (kp a o hne e) hx hd hr))
  | dicT ks=>
    refine jG (r) fun a xs h1 h2 h3 E8 h9=>?_
    try clear r
    refine cq (E8) fun o' es' ep' e' h4 h5 h6 h7 h8=>?_
    try clear E8
    (clear hL; subst h2)
    have hne:=dne a (.head _) o' es' ep' e' h5
    exact (fe a xs h1 rfl h3 (ez o' es' ep' (kp a o' hne e') h4 h5 h6 (fun y hy=>key _ _ (h7 y hy)) h8) h9.1 h9.2.1 (fun x hx=>(h9.2.2 x hx).off (wr:=[T]) (fun b hb o e=>.inl (by rw [List.mem_singleton.mp hb] at e; exact tt.noseq o e)) fun b o hb e=>kp b o (fun q=>hb (by simp [q])) e))
  | rule c d n=>
    refine hW (r) fun x D o vf bs t u mA h1 h2 h3 h4 h5 h6 h7 E9 h9 h10 h11 h12 h13 h14=>?_
    try clear r
    refine ba (E9) fun oD es ep e hd=>?_
    try clear E9
    subst h2
    have hneD:D≠T:=dne D (.tail _ (.head _)) oD es ep e hd.1
    have hx:∃ o',h'.get? x=some o'∧o'.cls = .ref SF.rule∧o'.dict=some D∧∀ c,o'.data≠.cls c:=by
      by_cases q:x=T
      · (clear dne hneD hs kp; subst q)
        revert tt; refine fun Fj=>Or.elim Fj (fun Fe=>?_) (fun tt=>?_)
        · clear Fj
          refine ae (Fe) fun tt FK=>?_
          clear Fe
          exact absurd tt (hL x (.head _))
        · refine bG (hkp tt o h3) fun o' k1 k2 k3 k4=>?_
          exact (a7 o' k1 (k2.trans h4) (k3.trans h6) k4)
      · exact (a7 o (kp x o q h3) h4 h6 h5)
    refine bG (hx) fun o' x1 x2 x3 x4=>?_
    try clear hx
    exact (hU x D o' vf bs t u mA h1 rfl x1 x2 x4 x3 h7 (bQ oD es ep (kp D oD hneD e) hd) h9 h10 h11 h12 (h13.off (wr:=[T]) (fun b hb o e=>.inl (by rw [List.mem_singleton.mp hb] at e; exact tt.noseq o e)) fun b o hb e=>kp b o (fun q=>hb (by simp [q])) e) h14)
end
end Mine
namespace Mine
set_option tactic.hygienic false
set_option linter.unusedVariables false
open PySem PyProof.Rows
set_option linter.unusedSectionVars false
variable [SF:Soft]
section
variable (prog:Program) (w:World) (fns:Fns) (k:Nat)
structure SOK (h0:Heap) (P Z:Addr→Prop) (A:Around) (env:Env) (h:Heap) (σ:St) (vals:String→Option Value) (fp:String→List Addr):Prop where
  room:Room fns.hand k A
  eok:EnvOk env
  ge:GE fns h0
  z0:∀ b o,h0.get? b=some o→Z b
  kp0:K h0 h
  code:fns.lam=true→∃ q,CodeOk h0 env.code q
  out:fns.hand=false→∃ l,A.frames=some (env :: l)∧FrOk h0 l∧env.frame=some env.locals∧¬ SF.old env.locals
  zdom:∀ b,Z b→∃ o,h.get? b=some o
  loc:Loc env Z h vals
  val:∀ x p,σ x=some p→varK env.scope.names x=true∧∃ v,vals x=some v∧RV prog w h v p.1 (fp x)∧∀ a∈fp x,a≠env.locals∧(P a∨h0.get? a=none)
  top:∀ x p,σ x=some p→p.2 = .top→∃ a bs,fp x=a :: bs∧¬ Z a∧a∉bs∧∀ y q,y≠x→σ y=some q→a∉fp y
  deep:∀ x p,σ x=some p→p.2 = .deep→(∀ a∈fp x,¬ Z a∧∀ y q,y≠x→σ y=some q→a∉fp y)∧(fp x).Nodup
noncomputable def Stp (Z:Addr→Prop) (s s':Shared):Prop:=∃ h' tk,s' = { s with heap:=h',toks:=tk }∧KG Z s.heap h'
noncomputable def kB (h0:Heap) (P:Addr→Prop) (r:V × Mode) (v:Value) (s':Shared):Prop :=
  ∃ as,RV prog w s'.heap v r.1 as∧(∀ a∈as,P a∨h0.get? a=none)∧(r.2 = .top→∃ a bs,as=a :: bs∧h0.get? a=none∧a∉bs)∧(r.2 = .deep→(∀ a∈as,h0.get? a=none)∧as.Nodup)
end
theorem Stp.refl (Z:Addr→Prop) (s:Shared):Stp Z s s:=(az s.heap s.toks rfl KG.refl)
theorem Stp.trans {Z:Addr→Prop}{s s₁ s₂:Shared} (a:Stp Z s s₁) (b:Stp Z s₁ s₂):Stp Z s s₂:=by
  refine av (a) fun h t E5 k=>?_
  try clear a
  subst E5
  refine av (b) fun h' t' E6 k'=>?_
  try clear b
  subst E6
  exact (az h' t' rfl (k.trans k'))
theorem Kp.stp {Z:Addr→Prop}{s s₁:Shared} (a:Kp s s₁):Stp Z s s₁:=by
  refine av (a) fun h t E7 k=>?_
  try clear a
  subst E7
  exact (az h t rfl (k.mono fun uu uu=>trivial))
theorem Stp.mono {Z Z':Addr→Prop}{s s₁:Shared} (a:Stp Z' s s₁) (h:∀ b,Z b→Z' b):Stp Z s s₁:=by
  refine av (a) fun h' t E8 k=>?_
  try clear a
  subst E8
  exact (az h' t rfl (k.mono h))
theorem Stp.same {Z:Addr→Prop}{s s₁:Shared}{h':Heap}{tk:Nat}{a:Addr} (st:Stp Z s s₁) (hs:Heap.SameBut a s₁.heap h') (hz:¬ Z a) (hn:∀ o,s₁.heap.get? a=some o→¬ Stay o):Stp Z s { s₁ with heap:=h',toks:=tk }:=by
  refine av (st) fun h t Fa k=>?_
  try clear st
  subst Fa
  exact (az h' tk rfl (k.trans (KG.same hs hz hn)))
section
variable {prog:Program}{w:World}{fns:Fns}{k:Nat}{C:Calls}{XP:String→Shared→Value→Shared→Prop}
variable {h0:Heap}{P Z:Addr→Prop}{A:Around}{env:Env}{h h':Heap}{σ:St}{vals:String→Option Value}{fp:String→List Addr}
theorem SOK.onK (K:SOK prog w fns k h0 P Z A env h σ vals fp) (kp:KG (fun uu=>True) h h'):SOK prog w fns k h0 P Z A env h' σ vals fp where
  room:=K.room
  eok:=K.eok
  ge:=K.ge
  z0:=K.z0
  kp0:=KG.trans K.kp0 kp
  code:=K.code
  out:=K.out
  zdom:=fun b hb=>ai (K.zdom b hb) fun uu e=>Mine.K.there kp e
  loc:=K.loc.onK kp
  val:=fun x p hp=>let ⟨a,v,b,c,d⟩:=K.val x p hp; (aG a (aA v b (c.k kp) d))
  top:=K.top
  deep:=K.deep
theorem SOK.h0n (K:SOK prog w fns k h0 P Z A env h σ vals fp) {a:Addr} (ha:¬ Z a):h0.get? a=none:=by
  cases q:h0.get? a with
  | none=>rfl
  | some o=>exact absurd (K.z0 a o q) ha
theorem eA {v:V} (h:(mk v).2 = .deep):ql v=true:=by
  unfold mk at h; dsimp only at h
  split at h
  · assumption
  · cases h
theorem f8 {v:V}:(mk v).2≠.top:=by
  unfold mk; dsimp only; split <;> simp
theorem RV.scal_nil {v:Value}{x:V}{as:List Addr} (r:RV prog w h v x as) (hs:ql x=true):as=[]:=by
  cases x with
  | d x=>exact r.1.sx_nil hs
  | _=>exact nF hs
theorem aP {σ:St}{ns:List String}{x:String}{p:V × Mode} (h:demote σ ns x=some p):∃ q,σ x=some q∧p.1=q.1∧((x∈ns∧p=mk q.1)∨(x∉ns∧p=q)):=by
  unfold demote at h
  split at h
  · refine aa (Option.map_eq_some_iff.mp h) fun q hq Fb=>?_
    subst Fb
    exact (aA q hq rfl (.inl ⟨by assumption,rfl⟩))
  · exact (aA p h rfl (.inr ⟨by assumption,rfl⟩))
theorem SOK.demote (K:SOK prog w fns k h0 P Z A env h σ vals fp) (ns:List String):SOK prog w fns k h0 P Z A env h (demote σ ns) vals fp where
  room:=K.room
  eok:=K.eok
  ge:=K.ge
  z0:=K.z0
  kp0:=K.kp0
  code:=K.code
  out:=K.out
  zdom:=K.zdom
  loc:=K.loc
  val:=fun x p hp=>by
    refine ao (aP hp) fun q hq e _=>?_
    rw [e]
    exact K.val x q hq
  top:=fun x p hp ht=>by
    refine ao (aP hp) fun q hq e hc=>?_
    rcases hc with ⟨_,rfl⟩ | ⟨_,rfl⟩
    · exact absurd ht f8
    · refine aZ (K.top x p hq ht) fun a bs h1 h2 h3 h4=>?_
      refine (bp a bs h1 h2 h3 (fun y r hy hr=>?_))
      refine aa (aP hr) fun r' hr' _=>?_
      exact h4 y r' hy hr'
  deep:=fun x p hp hd=>by
    refine ao (aP hp) fun q hq e hc=>?_
    rcases hc with ⟨_,rfl⟩ | ⟨_,rfl⟩
    · refine ae (K.val x q hq) fun uu Fv=>?_
      refine ao (Fv) fun v _ hr _=>?_
      try clear Fv
      rw [hr.scal_nil (eA hd)]
      exact ⟨fun uu h=>(nomatch h),.nil⟩
    · refine ae (K.deep x p hq hd) fun h1 h2=>?_
      refine ⟨fun a ha=>⟨(h1 a ha).1,fun y r hy hr=>?_⟩,h2⟩
      refine aa (aP hr) fun r' hr' _=>?_
      exact (h1 a ha).2 y r' hy hr'
theorem SOK.consume (K:SOK prog w fns k h0 P Z A env h σ vals fp) (ns:List String) (m:Mode):SOK prog w fns k h0 P Z A env h (consume σ ns m) vals fp:=by
  unfold Mine.consume
  split
  · exact K
  · exact K.demote ns
noncomputable def Own (σ:St) (fp:String→List Addr) (ns:List String) (a:Addr):Prop:=∃ y q,y∈ns∧σ y=some q∧a∈fp y
theorem SOK.cx {s:Shared} (K:SOK prog w fns k h0 P Z A env s.heap σ vals fp) (ns:List String):Cx prog w fns k A (Own σ fp ns) s.heap env (bV σ ns) where
  room:=K.room
  eok:=K.eok
  ge:=K.ge.k K.kp0
  code:=fun e=>ai (K.code e) fun q c=>⟨q,c.k K.kp0⟩
  frm:=fun e=>by
    refine bG (K.out e) fun l h1 h2 h3 h4=>?_
    refine (ag _ h1 (fun env' he=>?_))
    rcases List.mem_cons.mp he with rfl | he
    · refine aa (K.loc.ns) fun m Fc _=>?_
      refine aS (Fc) fun o es ep e1 e2 _=>?_
      try clear Fc
      refine aa (K.loc.cls) fun o' e3 e4=>?_
      rw [e1] at e3; (have oc:=Option.some.inj e3; clear e3; subst oc)
      exact (aG K.eok.kind (iK _ _ es ep h3 h4 e1 e4 e2))
    · exact (h2.k K.kp0) env' he
  vars:=fun x p hp _=>by
    unfold bV at hp
    split at hp
    · refine ae (K.val x p hp) fun uu FB=>?_
      refine ao (FB) fun v hv hr _=>?_
      try clear FB
      exact (aK v (fp x) (K.loc.var K.eok hv) hr (fun a ha=>(aK x p (by assumption) hp ha)))
    · exact nN hp
theorem SOK.eval {s:Shared}{e:E}{exx:Expr}{r:V × Mode}{Q:Value→Shared→Prop}{Er:Value→Shared→Prop} (K:SOK prog w fns k h0 P Z A env s.heap σ vals fp) (S:SimE prog w fns k C XP e) (ok:okE env.scope.names e exx=true) (he:ev C e σ = .ok r)
    (hQ:∀ v s',EP prog w (Own σ fp (fv e)) s r v s'→Q v s'):wpAny (model prog w) A (eval exx env) Q Er s:=by
  have e1:ev C e (bV σ (fv e)) = .ok r:=by rw [ax C e _ σ (bC σ (fv e))]; exact he
  exact S ok (K.cx (fv e)) (by rw [e1]; simp) (fun r' hr v s' E=>by rw [e1] at hr; (have oc:=Out.ok.inj hr; clear hr; subst oc); exact hQ v s' E) fun c hc=>by rw [e1] at hc; cases hc
theorem SOK.evalT {s:Shared}{e:E}{exx:Expr}{b:Bool}{Q:Bool→Shared→Prop}{Er:Value→Shared→Prop} (K:SOK prog w fns k h0 P Z A env s.heap σ vals fp) (S:SimT prog w fns k C XP e) (ok:okE env.scope.names e exx=true) (he:((ev C e σ).bind fun r=>au r.1) = .ok b)
    (hQ:∀ s',Kp s s'→Q b s'):wpAny (model prog w) A (isTrue exx env (PySem.eval exx env)) Q Er s:=by
  have e1:ev C e (bV σ (fv e))=ev C e σ:=ax C e _ σ (bC σ (fv e))
  refine S ok (K.cx (fv e)) (by rw [e1,he]; simp) (fun r' hr s' kp=>by rw [e1,he] at hr; (have oc:=Out.ok.inj hr; clear hr; subst oc); exact hQ s' kp) fun c hc=>?_
  rw [e1] at hc; rw [hc] at he; exact nE he
theorem SOK.own (K:SOK prog w fns k h0 P Z A env h σ vals fp) {ns:List String}{a:Addr} (ha:Own σ fp ns a):(∃ o,h.get? a=some o)∧a≠env.locals∧(P a∨h0.get? a=none):=by
  refine ay (ha) fun y q _ hq hy=>?_
  try clear ha
  refine ae (K.val y q hq) fun uu Fw=>?_
  refine ao (Fw) fun v _ hr hd=>?_
  try clear Fw
  exact ⟨hr.there a hy,hd a hy⟩
noncomputable def Frm (Z:Addr→Prop) (xs:List String) (σ:St) (vals:String→Option Value) (fp:String→List Addr) (σ':St) (vals':String→Option Value) (fp':String→List Addr):Prop :=
  (∀ y,y∉xs→vals' y=vals y∧fp' y=fp y)∧∀ b,Z b→(∀ z q,σ z=some q→b∉fp z)→∀ z q,σ' z=some q→b∉fp' z
section
variable {xs ys:List String}{σ₁ σ₂:St}{vals₁ vals₂:String→Option Value}{fp₁ fp₂:String→List Addr}{Z':Addr→Prop}
theorem Frm.id (h:∀ z q,σ₁ z=some q→∃ q',σ z=some q'):Frm Z xs σ vals fp σ₁ vals fp :=
  ⟨fun uu uu=>⟨rfl,rfl⟩,fun b _ hb z q hq=>ai (h z q hq) fun q' hq'=>hb z q' hq'⟩
theorem Frm.more (f:Frm Z xs σ vals fp σ₁ vals₁ fp₁) (h:∀ y∈xs,y∈ys):Frm Z ys σ vals fp σ₁ vals₁ fp₁:=⟨fun y hy=>f.1 y fun q=>hy (h y q),f.2⟩
theorem Frm.trans (f:Frm Z xs σ vals fp σ₁ vals₁ fp₁) (g:Frm Z ys σ₁ vals₁ fp₁ σ₂ vals₂ fp₂):Frm Z (xs ++ ys) σ vals fp σ₂ vals₂ fp₂ :=
  ⟨fun y hy=>let a:=f.1 y fun q=>hy (List.mem_append_left _ q); let b:=g.1 y fun q=>hy (List.mem_append_right _ q); ⟨b.1.trans a.1,b.2.trans a.2⟩,fun b hz hb=>g.2 b hz (f.2 b hz hb)⟩
theorem Frm.less (f:Frm Z' xs σ vals fp σ₁ vals₁ fp₁) (h:∀ b,Z b→Z' b):Frm Z xs σ vals fp σ₁ vals₁ fp₁:=⟨f.1,fun b hz=>f.2 b (h b hz)⟩
theorem Frm.one {x:String}{r:V × Mode}{as:List Addr}{σ₁:St}{vals₁:String→Option Value} (hv:∀ y,y≠x→vals₁ y=vals y) (h:∀ z q,σ₁ z=some q→∃ q',σ z=some q') (ha:∀ b∈as,Z b→∃ z q,σ z=some q∧b∈fp z) :
    Frm Z [x] σ vals fp (upd σ₁ x r) vals₁ (fun y=>if y=x then as else fp y):=by
  refine ⟨fun y hy=>⟨hv y fun q=>hy (by simp [q]),if_neg fun q=>hy (by simp [q])⟩,fun b hz hb z q hq hm=>?_⟩
  unfold upd at hq
  dsimp only at hm
  by_cases e:z=x
  · have hm':b∈as:=by rwa [if_pos e] at hm
    refine av (ha b hm' hz) fun z' q' h1 h2=>?_
    exact hb z' q' h1 h2
  · rw [if_neg e] at hq hm
    refine ai (h z q hq) fun q' hq'=>?_
    exact hb z q' hq' hm
end
theorem cH {σ:St}{ns:List String}{m:Mode}{y:String}{q:V × Mode} (hq:Mine.consume σ ns m y=some q):∃ q',σ y=some q':=by
  unfold Mine.consume at hq
  split at hq
  · exact ⟨q,hq⟩
  · obtain ⟨q',hq',_⟩:=aP hq; exact ⟨q',hq'⟩
theorem SOK.put {s:Shared}{x:String}{v:Value}{r:V × Mode}{as:List Addr}{Q:Unit→Shared→Prop}{Er:Value→Shared→Prop} (K:SOK prog w fns k h0 P Z A env s.heap σ vals fp)
    (hvk:varK env.scope.names x=true) (hk:env.kindOf (Str.ofString x)=some .local∨env.kindOf (Str.ofString x)=some .cell)
    (rv:RV prog w s.heap v r.1 as) (ha:∀ a∈as,a≠env.locals∧(P a∨h0.get? a=none))
    (ht:r.2 = .top→∃ a bs,as=a :: bs∧¬ Z a∧a∉bs∧∀ y q,y≠x→σ y=some q→a∉fp y) (hd:r.2 = .deep→(∀ a∈as,¬ Z a∧∀ y q,y≠x→σ y=some q→a∉fp y)∧as.Nodup)
    (hdis:∀ y q,y≠x→σ y=some q→(q.2 = .top→∀ a bs,fp y=a :: bs→a∉as)∧(q.2 = .deep→∀ a∈fp y,a∉as))
    (hQ:∀ s',Stp Z s s'→(∀ b o,b≠env.locals→(∀ u,o.data≠.cell u)→s.heap.get? b=some o→s'.heap.get? b=some o)→SOK prog w fns k h0 P Z A env s'.heap (upd σ x r) (dD vals x v) (fun y=>if y=x then as else fp y)→Q () s'):wpAny (model prog w) A (storeName env (Str.ofString x) v) Q Er s:=by
  refine K.loc.store K.eok hk fun T h' tk hs hT hKp hZ L=>hQ _ ((Stp.refl Z s).same hs hZ hT.nostay) (fun b o hb hc e=>hs.extBut b o (fun q=>?_) e) ?_
  · rcases hT with ⟨hT,_⟩ | ⟨u,o',e',hd'⟩
    · exact hb (q.trans hT)
    · (clear hKp hZ hs; subst q)
      rw [e'] at e; (have oc:=Option.some.inj e; clear e; subst oc)
      exact hc u hd'
  have h0n:∀ a,¬ Z a→h0.get? a=none:=fun a ha=>by
    cases q:h0.get? a with
    | none=>rfl
    | some o=>exact absurd (K.z0 a o q) ha
  have kz:∀ b o,Z b→s.heap.get? b=some o→h'.get? b=some o:=fun b o hb e=>hs.extBut b o (fun q=>hZ (q▸hb)) e
  refine ⟨K.room,K.eok,K.ge,K.z0,Mine.K.same K.kp0 hs (h0n _ hZ) hT.nostay,K.code,K.out,fun b hb=>ai (K.zdom b hb) fun o e=>⟨o,kz b o hb e⟩,L,fun y p hp=>?_,fun y p hp htp=>?_,fun y p hp hdp=>?_⟩
  · unfold upd at hp
    by_cases hy:y=x
    · (clear L hQ hd hdis hk ht; subst hy)
      rw [if_pos rfl] at hp; (have oc:=Option.some.inj hp; clear hp; subst oc)
      refine (aG hvk (aA v (by simp [dD]) ?_ ?_))
      · rw [if_pos rfl]; exact rv.spot hT hKp (fun a h=>(ha a h).1) hs
      · rw [if_pos rfl]; exact ha
    · rw [if_neg hy] at hp
      refine ae (K.val y p hp) fun h1 FD=>?_
      refine ao (FD) fun u h2 h3 h4=>?_
      try clear FD
      refine (aG h1 (aA u (by simpa [dD,hy] using h2) ?_ ?_))
      · rw [if_neg hy]; exact h3.spot hT hKp (fun a h=>(h4 a h).1) hs
      · rw [if_neg hy]; exact h4
  · unfold upd at hp
    by_cases hy:y=x
    · (clear L hQ hd hdis hk hvk; subst hy)
      rw [if_pos rfl] at hp; (have oc:=Option.some.inj hp; clear hp; subst oc)
      refine aZ (ht htp) fun a bs h1 h2 h3 h4=>?_
      refine (bp a bs (by rw [if_pos rfl]; exact h1) h2 h3 (fun z q hz hq=>?_))
      unfold upd at hq
      rw [if_neg hz] at hq ⊢
      exact h4 z q hz hq
    · rw [if_neg hy] at hp
      refine aZ (K.top y p hp htp) fun a bs h1 h2 h3 h4=>?_
      refine (bp a bs (by rw [if_neg hy]; exact h1) h2 h3 (fun z q hz hq=>?_))
      unfold upd at hq
      by_cases hzx:z=x
      · rw [if_pos hzx]
        exact (hdis y p hy hp).1 htp a bs h1
      · rw [if_neg hzx] at hq ⊢
        exact h4 z q hz hq
  · unfold upd at hp
    by_cases hy:y=x
    · (clear L hQ hdis hk ht hvk; subst hy)
      rw [if_pos rfl] at hp; (have oc:=Option.some.inj hp; clear hp; subst oc)
      refine ae (hd hdp) fun h1 h2=>?_
      rw [if_pos rfl]
      refine ⟨fun a h=>⟨(h1 a h).1,fun z q hz hq=>?_⟩,h2⟩
      unfold upd at hq
      rw [if_neg hz] at hq ⊢
      exact (h1 a h).2 z q hz hq
    · rw [if_neg hy] at hp ⊢
      refine ae (K.deep y p hp hdp) fun h1 h2=>?_
      refine ⟨fun a h=>⟨(h1 a h).1,fun z q hz hq=>?_⟩,h2⟩
      unfold upd at hq
      by_cases hzx:z=x
      · rw [if_pos hzx]
        exact (hdis y p hy hp).2 hdp a h
      · rw [if_neg hzx] at hq ⊢
        exact (h1 a h).2 z q hz hq
theorem SOK.put_ep {s s₁:Shared}{x:String}{v:Value}{r:V × Mode}{ns:List String}{Q:Unit→Shared→Prop}{Er:Value→Shared→Prop} (K:SOK prog w fns k h0 P Z A env s.heap σ vals fp)
    (hvk:varK env.scope.names x=true) (hk:env.kindOf (Str.ofString x)=some .local∨env.kindOf (Str.ofString x)=some .cell) (E:EP prog w (Own σ fp ns) s r v s₁)
    (hQ:∀ s' as,RV prog w s₁.heap v r.1 as→Stp Z s₁ s'→(∀ b o,b≠env.locals→(∀ u,o.data≠.cell u)→s₁.heap.get? b=some o→s'.heap.get? b=some o)→SOK prog w fns k h0 P Z A env s'.heap (upd (Mine.consume σ ns r.2) x r) (dD vals x v) (fun y=>if y=x then as else fp y)→Frm Z [x] σ vals fp (upd (Mine.consume σ ns r.2) x r) (dD vals x v) (fun y=>if y=x then as else fp y)→Q () s'):wpAny (model prog w) A (storeName env (Str.ofString x) v) Q Er s₁:=by
  obtain ⟨kp,as,rv,ha,ht,hd⟩:=E
  have K₁:=(K.onK kp.k).consume ns r.2
  have nz:∀ a,s.heap.get? a=none→¬ Z a:=fun a e hz=>by
    refine ai (K.zdom a hz) fun o e'=>?_
    rw [e] at e'; exact nN e'
  have nf:∀ a,s.heap.get? a=none→∀ y q,σ y=some q→a∉fp y:=fun a e y q hq hm=>by
    refine ae (K.val y q hq) fun uu FI=>?_
    refine ao (FI) fun u _ hr _=>?_
    try clear FI
    refine ai (hr.there a hm) fun o e'=>?_
    rw [e] at e'; exact nN e'
  have cs:∀ y q,Mine.consume σ ns r.2 y=some q→∃ q',σ y=some q':=fun y q hq=>by
    unfold Mine.consume at hq
    split at hq
    · exact ⟨q,hq⟩
    · obtain ⟨q',hq',_⟩:=aP hq; exact ⟨q',hq'⟩
  refine aa (K.loc.ns) fun mL hmL _=>?_
  refine K₁.put hvk hk rv (fun a h=>?_) (fun htop=>?_) (fun hdeep=>?_) (fun y q hy hq=>?_) (fun s' st kk K'=>hQ s' as rv st kk K' (.one (fun y hy=>if_neg hy) (fun z q hq=>cH hq) fun b hb hz=>(ha b hb).elim (fun ⟨y,q,_,h1,h2⟩=>(az y q h1 h2)) fun e=>absurd hz (nz b e)))
  · rcases ha a h with h1 | h1
    · exact (K.own h1).2
    · refine ⟨fun q=>?_,.inr ?_⟩
      · refine ba (hmL) fun o _ _ e _=>?_
        try clear hmL
        rw [← q] at e
        rw [h1] at e; exact nN e
      · cases e:h0.get? a with
        | none=>rfl
        | some o=>obtain ⟨_,e'⟩:=Mine.K.there K.kp0 e; rw [e'] at h1; exact nM h1
  · refine ay (ht htop) fun a bs h1 h2 h3=>?_
    exact (bp a bs h1 (nz a h2) h3 (fun y q _ hq=>ai (cs y q hq) fun q' hq'=>nf a h2 y q' hq'))
  · refine ae (hd hdeep) fun h1 h2=>?_
    exact ⟨fun a h=>⟨nz a (h1 a h),fun y q _ hq=>ai (cs y q hq) fun q' hq'=>nf a (h1 a h) y q' hq'⟩,h2⟩
  · have main:∀ a,(a∈as)→(∀ y' q',σ y' = some q'→a∈fp y'→y'≠y∨(y'∈ns∧r.2≠.deep))∨True:=fun uu uu=>.inr trivial
    clear main
    by_cases hdp:r.2 = .deep
    · have h1:=(hd hdp).1
      refine ai (cs y q hq) fun q' hq'=>?_
      exact ⟨fun uu a bs e hm=>nf a (h1 a hm) y q' hq' (by rw [e]; exact .head _),fun uu a ha' hm=>nf a (h1 a hm) y q' hq' ha'⟩
    · have hq2:Mine.demote σ ns y=some q:=by unfold Mine.consume at hq; rwa [if_neg hdp] at hq
      refine ao (aP hq2) fun q' hq' e1 hc=>?_
      rcases hc with ⟨_,rfl⟩ | ⟨hn,rfl⟩
      · refine ⟨fun h=>absurd h f8,fun h a ha'=>?_⟩
        refine ae (K.val y q' hq') fun uu Gy=>?_
        refine ao (Gy) fun u _ hr _=>?_
        try clear Gy
        rw [hr.scal_nil (eA h)] at ha'
        cases ha'
      · refine ⟨fun h a bs e hm=>?_,fun h a ha' hm=>?_⟩
        · refine Or.elim (ha a hm) (fun Fe=>?_) (fun h1=>?_)
          · refine ay (Fe) fun z p hz hp hf=>?_
            clear Fe
            refine aZ (K.top y q hq' h) fun a' bs' e' _ _ h4=>?_
            rw [e] at e'; cases e'
            exact h4 z p (fun q=>hn (q▸hz)) hp hf
          · exact nf a h1 y q hq' (by rw [e]; exact .head _)
        · refine Or.elim (ha a hm) (fun Fg=>?_) (fun h1=>?_)
          · refine ay (Fg) fun z p hz hp hf=>?_
            clear Fg
            exact ((K.deep y q hq' h).1 a ha').2 z p (fun q=>hn (q▸hz)) hp hf
          · exact nf a h1 y q hq' ha'
theorem SOK.freeze (K:SOK prog w fns k h0 P Z A env h σ vals fp) {G:Addr→Prop} (hdom:∀ b,G b→∃ o,h.get? b=some o) (hL:¬ G env.locals) (hc:∀ n c,env.kindOf n=some .cell→env.cells.lookup n=some c→¬ G c)
    (ht:∀ x p,σ x=some p→p.2 = .top→∀ a bs,fp x=a :: bs→¬ G a) (hd:∀ x p,σ x=some p→p.2 = .deep→∀ a∈fp x,¬ G a):SOK prog w fns k h0 P (fun b=>Z b∨G b) A env h σ vals fp where
  room:=K.room
  eok:=K.eok
  ge:=K.ge
  z0:=fun b o e=>.inl (K.z0 b o e)
  kp0:=K.kp0
  code:=K.code
  out:=K.out
  zdom:=fun b hb=>hb.elim (K.zdom b) (hdom b)
  loc:={ K.loc with
    nz:=fun q=>q.elim K.loc.nz hL
    cell:=fun n c a b=>by
      refine aB (K.loc.cell n c a b) fun h1 h2 F3=>?_
      refine av (F3) fun v o h3 h4=>?_
      try clear F3
      exact (bJ h1 (fun q=>q.elim h2 (hc n c a b)) (az v o h3 h4)) }
  val:=K.val
  top:=fun x p hp hq=>by
    refine aZ (K.top x p hp hq) fun a bs h1 h2 h3 h4=>?_
    exact (bp a bs h1 (fun q=>q.elim h2 (ht x p hp hq a bs h1)) h3 h4)
  deep:=fun x p hp hq=>by
    refine ae (K.deep x p hp hq) fun h1 h2=>?_
    exact ⟨fun a ha=>⟨fun q=>q.elim (h1 a ha).1 (hd x p hp hq a ha),(h1 a ha).2⟩,h2⟩
theorem SOK.thaw {Z':Addr→Prop} (K:SOK prog w fns k h0 P Z' A env h σ vals fp) (hz:∀ b,Z b→Z' b) (h0z:∀ b o,h0.get? b=some o→Z b):SOK prog w fns k h0 P Z A env h σ vals fp where
  room:=K.room
  eok:=K.eok
  ge:=K.ge
  z0:=h0z
  kp0:=K.kp0
  code:=K.code
  out:=K.out
  zdom:=fun b hb=>K.zdom b (hz b hb)
  loc:={ K.loc with
    nz:=fun q=>K.loc.nz (hz _ q)
    cell:=fun n c a b=>by
      refine aB (K.loc.cell n c a b) fun h1 h2 h3=>?_
      exact ⟨h1,fun q=>h2 (hz _ q),h3⟩ }
  val:=K.val
  top:=fun x p hp hq=>by
    refine aZ (K.top x p hp hq) fun a bs h1 h2 h3 h4=>?_
    exact (bp a bs h1 (fun q=>h2 (hz _ q)) h3 h4)
  deep:=fun x p hp hq=>by
    refine ae (K.deep x p hp hq) fun h1 h2=>?_
    exact ⟨fun a ha=>⟨fun q=>(h1 a ha).1 (hz _ q),(h1 a ha).2⟩,h2⟩
end
end Mine
namespace Mine
set_option tactic.hygienic false
set_option linter.unusedVariables false
open PySem PyProof.Rows
set_option linter.unusedSectionVars false
variable [SF:Soft]
section
variable {prog:Program}{w:World}{fns:Fns}{k:Nat}{C:Calls}{XP:String→Shared→Value→Shared→Prop}
variable {h0:Heap}{P Z:Addr→Prop}{A:Around}{env:Env}{h h':Heap}{σ:St}{vals:String→Option Value}{fp:String→List Addr}
theorem RV.offA {a:Addr}{o:Obj}{v:Value}{x:V}{as:List Addr} (r:RV prog w h v x as) (ho:h.get? a=some o) (hc:o.cls≠.type "tuple") (hn:a∉as) (hs:Heap.SameBut a h h'):RV prog w h' v x as:=by
  have kp:∀ b o,b≠a→h.get? b=some o→h'.get? b=some o:=fun b o hb e=>hs.extBut b o hb e
  have key:∀ ks b,IsTupleKey (intKind prog w) h ks b→IsTupleKey (intKind prog w) h' ks b:=fun ks b hk=>by
    refine aS (hk) fun o' it n a1 a2 a3=>?_
    try clear hk
    refine (cu o' it n (kp b o' (fun q=>?_) a1) a2 a3)
    (clear hn hs kp; subst q)
    rw [ho] at a1; (have oc:=Option.some.inj a1; clear a1; (clear a3; subst oc))
    exact hc a2
  cases x with
  | d x=>exact ⟨r.1.off (wr:=[a]) (fun b hb o' e=>.inr (by
      rw [List.mem_singleton.mp hb] at e ⊢
      rw [ho] at e; (have oc:=Option.some.inj e; clear e; subst oc)
      exact ⟨hc,hn⟩)) fun b o hb e=>kp b o (fun q=>hb (by simp [q])) e,r.2⟩
  | dic0=>
    refine iC (r) fun b h1 h2 h3 E5 E6=>?_
    try clear r
    refine ba (E5) fun o es ep e hr=>?_
    try clear E5
    refine cq (E6) fun o' es' ep' e' h4 h5 h6 h7 h8=>?_
    try clear E6
    subst h2
    have hne:b≠a:=fun q=>hn (by simp [q])
    exact (gy b h1 rfl h3 (bQ o es ep (kp b o hne e) hr) (ez o' es' ep' (kp b o' hne e') h4 h5 h6 (fun y hy=>key _ _ (h7 y hy)) h8))
  | dicI ks=>
    refine bG (r) fun b h1 h2 h3 E7=>?_
    try clear r
    refine ba (E7) fun o es ep e hr=>?_
    try clear E7
    subst h2
    have hne:b≠a:=fun q=>hn (by simp [q])
    exact (a7 b h1 rfl h3 (bQ o es ep (kp b o hne e) hr))
  | dicT ks=>
    refine jG (r) fun b xs h1 h2 h3 E8 h9=>?_
    try clear r
    refine cq (E8) fun o' es' ep' e' h4 h5 h6 h7 h8=>?_
    try clear E8
    subst h2
    have hne:b≠a:=fun q=>hn (by simp [q])
    exact (fe b xs h1 rfl h3 (ez o' es' ep' (kp b o' hne e') h4 h5 h6 (fun y hy=>key _ _ (h7 y hy)) h8) h9.1 h9.2.1 (fun x hx=>(h9.2.2 x hx).off (wr:=[a]) (fun b hb o' e=>.inr (by
      rw [List.mem_singleton.mp hb] at e ⊢
      rw [ho] at e; (have oc:=Option.some.inj e; clear e; subst oc)
      exact ⟨hc,fun q=>nomatch q⟩)) fun b o hb e=>kp b o (fun q=>hb (by simp [q])) e))
  | rule c d n=>
    refine hW (r) fun y D oy vf bs t u mA h1 h2 h3 h4 h5 h6 h7 E9 h9 h10 h11 h12 h13 h14=>?_
    try clear r
    refine ba (E9) fun oD es ep e hd=>?_
    try clear E9
    subst h2
    have n1:y≠a:=fun q=>hn (by simp [q])
    have n2:D≠a:=fun q=>hn (by simp [q])
    exact (hU y D oy vf bs t u mA h1 rfl (kp y oy n1 h3) h4 h5 h6 h7 (bQ oD es ep (kp D oD n2 e) hd) h9 h10 h11 h12 (h13.off (wr:=[a]) (fun b hb o' e=>.inr (by
      rw [List.mem_singleton.mp hb] at e ⊢
      rw [ho] at e; (have oc:=Option.some.inj e; clear e; subst oc)
      exact ⟨hc,fun q=>hn (.tail _ (.tail _ q))⟩)) fun b o hb e=>kp b o (fun q=>hb (by simp [q])) e) h14)
theorem Loc.offA {a:Addr}{o:Obj} (L:Loc env Z h vals) (ho:h.get? a=some o) (hc:∀ v,o.data≠.cell v) (hL:a≠env.locals) (hs:Heap.SameBut a h h'):Loc env Z h' vals where
  cls:=aa (L.cls) fun o e c=>(ag o (hs.extBut _ o (Ne.symm hL) e) c)
  ns:=aa (L.ns) fun m x y=>(ag m (x.sameBut hs (Ne.symm hL)) y)
  nz:=L.nz
  cell:=fun n c x y=>by
    refine aB (L.cell n c x y) fun h1 h2 Fv=>?_
    refine av (Fv) fun v o' h3 h4=>?_
    try clear Fv
    refine (bJ h1 h2 (az v o' (hs.extBut c o' (fun q=>?_) h3) h4))
    (clear hL hs; subst q)
    rw [ho] at h3; (have oc:=Option.some.inj h3; clear h3; subst oc)
    exact hc v h4
  cval:=fun x v c p q r=>by
    refine aa (L.cval x v c p q r) fun o' h3 h4=>?_
    refine (ag o' (hs.extBut c o' (fun q=>?_) h3) h4)
    (clear hL hs; subst q)
    rw [ho] at h3; (have oc:=Option.some.inj h3; clear h3; subst oc)
    exact hc _ h4
  apart:=L.apart
  kinds:=L.kinds
theorem SOK.write {x:String}{p:V × Mode}{a:Addr}{o:Obj}{v':V}{m':Mode}{bs':List Addr} (K:SOK prog w fns k h0 P Z A env h σ vals fp) (hp:σ x=some p) (hval:vals x=some (.ref a)) (ho:h.get? a=some o) (hoc:o.cls≠.type "tuple") (hst:¬ Stay o) (hod:∀ v,o.data≠.cell v)
    (hnz:¬ Z a) (hne:∀ y q,y≠x→σ y=some q→a∉fp y) (haL:a≠env.locals∧(P a∨h0.get? a=none)) (hs:Heap.SameBut a h h') (rv:RV prog w h' (.ref a) v' (a :: bs')) (hb:∀ b∈bs',b≠env.locals∧(P b∨h0.get? b=none))
    (ht:m' = .top→a∉bs') (hd:m' = .deep→(∀ b∈bs',¬ Z b∧∀ y q,y≠x→σ y=some q→b∉fp y)∧(a :: bs').Nodup)
    (hdis:∀ y q,y≠x→σ y=some q→(q.2 = .top→∀ b cs,fp y=b :: cs→b∉bs')∧(q.2 = .deep→∀ b∈fp y,b∉bs')) :
    SOK prog w fns k h0 P Z A env h' (upd σ x (v',m')) vals (fun y=>if y=x then a :: bs' else fp y):=by
  have h0n:h0.get? a=none:=by
    cases q:h0.get? a with
    | none=>rfl
    | some o=>exact absurd (K.z0 a o q) hnz
  have kz:∀ b o,Z b→h.get? b=some o→h'.get? b=some o:=fun b o hb e=>hs.extBut b o (fun q=>hnz (q▸hb)) e
  refine ⟨K.room,K.eok,K.ge,K.z0,Mine.K.same K.kp0 hs h0n (fun o' e=>by rw [ho] at e; (have oc:=Option.some.inj e; clear e; subst oc); exact hst),K.code,K.out,fun b hb=>ai (K.zdom b hb) fun o e=>⟨o,kz b o hb e⟩,K.loc.offA ho hod haL.1 hs,fun y q hq=>?_,fun y q hq htp=>?_,fun y q hq hdp=>?_⟩
  · unfold upd at hq
    by_cases hy:y=x
    · (clear hd hdis hne; subst hy)
      rw [if_pos rfl] at hq; (have oc:=Option.some.inj hq; clear hq; subst oc)
      rw [if_pos rfl]
      refine (aG ((K.val y p hp).1) (aA (.ref a) hval rv (fun b hb'=>?_)))
      rcases List.mem_cons.mp hb' with rfl | hb'
      · exact haL
      · exact hb b hb'
    · rw [if_neg hy] at hq ⊢
      refine ae (K.val y q hq) fun h1 FB=>?_
      refine ao (FB) fun u h2 h3 h4=>?_
      try clear FB
      exact (aG h1 (aA u h2 (h3.offA ho hoc (hne y q hy hq) hs) h4))
  · unfold upd at hq
    by_cases hy:y=x
    · (clear hd hdis hp hval; subst hy)
      rw [if_pos rfl] at hq; (have oc:=Option.some.inj hq; clear hq; subst oc)
      rw [if_pos rfl]
      refine (bp a bs' rfl hnz (ht htp) (fun z r hz hr=>?_))
      unfold upd at hr
      rw [if_neg hz] at hr ⊢
      exact hne z r hz hr
    · rw [if_neg hy] at hq ⊢
      refine aZ (K.top y q hq htp) fun b cs h1 h2 h3 h4=>?_
      refine (bp b cs h1 h2 h3 (fun z r hz hr=>?_))
      unfold upd at hr
      by_cases hzx:z=x
      · rw [if_pos hzx]
        intro hm
        rcases List.mem_cons.mp hm with e | hm
        · exact hne y q hy hq (by rw [h1,e]; exact .head _)
        · exact (hdis y q hy hq).1 htp b cs h1 hm
      · rw [if_neg hzx] at hr ⊢
        exact h4 z r hz hr
  · unfold upd at hq
    by_cases hy:y=x
    · (clear hdis hp hval; subst hy)
      rw [if_pos rfl] at hq; (have oc:=Option.some.inj hq; clear hq; subst oc)
      rw [if_pos rfl]
      refine ae (hd hdp) fun h1 h2=>?_
      refine ⟨fun b hb'=>?_,h2⟩
      rcases List.mem_cons.mp hb' with rfl | hb'
      · refine ⟨hnz,fun z r hz hr=>?_⟩
        unfold upd at hr
        rw [if_neg hz] at hr ⊢
        exact hne z r hz hr
      · refine ⟨(h1 b hb').1,fun z r hz hr=>?_⟩
        unfold upd at hr
        rw [if_neg hz] at hr ⊢
        exact (h1 b hb').2 z r hz hr
    · rw [if_neg hy] at hq ⊢
      refine ae (K.deep y q hq hdp) fun h1 h2=>?_
      refine ⟨fun b hb'=>⟨(h1 b hb').1,fun z r hz hr=>?_⟩,h2⟩
      unfold upd at hr
      by_cases hzx:z=x
      · rw [if_pos hzx]
        intro hm
        rcases List.mem_cons.mp hm with e | hm
        · exact hne y q hy hq (e▸hb')
        · exact (hdis y q hy hq).2 hdp b hb' hm
      · rw [if_neg hzx] at hr ⊢
        exact (h1 b hb').2 z r hz hr
theorem SOK.head {x:String}{xs:List PyData}{m:Mode} (K:SOK prog w fns k h0 P Z A env h σ vals fp) (hp:σ x=some (.d (.list xs),m)) (hm:m≠.sh) :
    ∃ a vs n bs,vals x=some (.ref a)∧h.get? a=some ⟨.type "list", none,.seq vs.toArray n,#[]⟩∧RA h vs xs bs∧fp x=a :: bs∧sz (.list xs)=true∧¬ Z a∧a∉bs∧(∀ y q,y≠x→σ y=some q→a∉fp y)∧(∀ b∈a :: bs,b≠env.locals∧(P b∨h0.get? b=none)) ∧
      (m = .deep→(∀ b∈bs,¬ Z b∧∀ y q,y≠x→σ y=some q→b∉fp y)∧bs.Nodup):=by
  refine ae (K.val x _ hp) fun uu Fw=>?_
  refine ao (Fw) fun v hv Fa hb=>?_
  try clear Fw
  refine ae (Fa) fun hr hz=>?_
  try clear Fa
  refine bI (hr.isList) fun a vs n bs Fb ea ra e=>?_
  (clear hr; subst Fb)
  refine ⟨a,vs,n,bs,hv,ea,ra,e,hz,?_⟩
  rw [e] at hb
  cases m with
  | sh=>exact absurd rfl hm
  | top=>
    refine aZ (K.top x _ hp rfl) fun a' bs' e' h1 h2 h3=>?_
    rw [e] at e'; cases e'
    exact (b9 h1 h2 h3 hb (fun h=>(by cases h)))
  | deep=>
    refine ae (K.deep x _ hp rfl) fun h1 h2=>?_
    rw [e] at h1 h2
    rw [List.nodup_cons] at h2
    exact (b9 ((h1 a (.head _)).1) h2.1 ((h1 a (.head _)).2) hb (fun uu=>⟨fun b hb=>h1 b (.tail _ hb),h2.2⟩))
end
end Mine
namespace Mine
set_option tactic.hygienic false
set_option linter.unusedVariables false
open PySem PyProof.Rows
set_option linter.unusedSectionVars false
variable [SF:Soft]
noncomputable def bv (ns:List (Str × NameKind)) (x:String):Bool:=varK ns x && aT x && (ns.lookup (Str.ofString x) == some .local || ns.lookup (Str.ofString x) == some .cell)
structure Ps where
  tag:Nat:=0
  e1:Expr:=default
  e2:Expr:=default
  es:List Expr:=[]
  o1:Option Expr:=none
  o2:Option Expr:=none
  s1:List Stmt:=[]
  s2:List Stmt:=[]
  s3:List Stmt:=[]
  hs:List ExceptHandler:=[]
  pos:Pos:=default
noncomputable def ps:Stmt→Ps
  | .Assign x0 x1 x2=>{ tag:=1,es:=x0,e1:=x1,pos:=x2 }
  | .Expr x0 x1=>{ tag:=2,e1:=x0,pos:=x1 }
  | .Return x0 x1=>{ tag:=3,o1:=x0,pos:=x1 }
  | .If x0 x1 x2 x3=>{ tag:=4,e1:=x0,s1:=x1,s2:=x2,pos:=x3 }
  | .For x0 x1 x2 x3 x4=>{ tag:=5,e1:=x0,e2:=x1,s1:=x2,s2:=x3,pos:=x4 }
  | .While x0 x1 x2 x3=>{ tag:=6,e1:=x0,s1:=x1,s2:=x2,pos:=x3 }
  | .Raise x0 x1 x2=>{ tag:=7,o1:=x0,o2:=x1,pos:=x2 }
  | .Try x0 x1 x2 x3 x4=>{ tag:=8,s1:=x0,hs:=x1,s2:=x2,s3:=x3,pos:=x4 }
  | _=>{}
noncomputable def psB (n:Nat) (p:Ps):Stmt:=match n with
  | 1=>.Assign p.es p.e1 p.pos
  | 2=>.Expr p.e1 p.pos
  | 3=>.Return p.o1 p.pos
  | 4=>.If p.e1 p.s1 p.s2 p.pos
  | 5=>.For p.e1 p.e2 p.s1 p.s2 p.pos
  | 6=>.While p.e1 p.s1 p.s2 p.pos
  | 7=>.Raise p.o1 p.o2 p.pos
  | 8=>.Try p.s1 p.hs p.s2 p.s3 p.pos
  | _=>default
theorem wB (e:Stmt):(ps e).tag=0∨psB (ps e).tag (ps e)=e:=by cases e <;> first | exact .inr rfl | exact .inl rfl
theorem eW {e:Stmt}{n:Nat} (hn:n≠0) (h:(ps e).tag=n):e=psB n (ps e):=by
  rcases wB e with q | q
  · exact absurd (h.symm.trans q) hn
  · rw [h] at q; exact q.symm
noncomputable def gT {α:Type}:List α→Option (α × List α)
  | []=>none
  | a :: l=>some (a,l)
theorem c8 {α:Type}{l:List α}{q:α × List α} (h:gT l=some q):l=q.1 :: q.2:=by
  cases l with
  | nil=>exact nN h
  | cons a l=>exact Option.some.inj h▸rfl
noncomputable def tE (s:Stmt):Option Expr:=if (ps s).tag=7∧(ps s).o2.isNone=true then (ps s).o1 else none
theorem tW {s:Stmt}{e:Expr} (h:tE s=some e):∃ p,s = .Raise (some e) none p:=by
  unfold tE at h
  by_cases c:(ps s).tag=7∧(ps s).o2.isNone=true
  · rw [if_pos c] at h
    refine ⟨(ps s).pos,(eW (by decide) c.1).trans ?_⟩
    show Stmt.Raise _ _ _=_
    rw [h,Option.isNone_iff_eq_none.mp c.2]
  · rw [if_neg c] at h; exact nN h
noncomputable def ux (s:Stmt):Option (Stmt × ExceptHandler × List ExceptHandler):=if (ps s).tag=8∧(ps s).s2.isEmpty=true∧(ps s).s3.isEmpty=true then (gT (ps s).s1).bind fun b=>if b.2.isEmpty=true then (gT (ps s).hs).map fun q=>(b.1,q.1,q.2) else none else none
theorem uE {s:Stmt}{q:Stmt × ExceptHandler × List ExceptHandler} (h:ux s=some q):∃ p,s = .Try [q.1] (q.2.1 :: q.2.2) [] [] p:=by
  unfold ux at h
  by_cases c:(ps s).tag=8∧(ps s).s2.isEmpty=true∧(ps s).s3.isEmpty=true
  · rw [if_pos c] at h
    obtain ⟨b,hb,h⟩:=Option.bind_eq_some_iff.mp h
    by_cases d:b.2.isEmpty=true
    · rw [if_pos d] at h
      obtain ⟨r,hr,e⟩:=Option.map_eq_some_iff.mp h
      refine ⟨(ps s).pos,(eW (by decide) c.1).trans ?_⟩
      show Stmt.Try _ _ _ _ _=_
      rw [c8 hb,c8 hr,List.isEmpty_iff.mp d,List.isEmpty_iff.mp c.2.1,List.isEmpty_iff.mp c.2.2,← e]
    · rw [if_neg d] at h; exact nN h
  · rw [if_neg c] at h; exact nN h
noncomputable def dH0:ExceptHandler→Option Expr × Option Str × List Stmt × Pos
  | .ExceptHandler a b c p=>(a,b,c,p)
noncomputable def tU (s:ExceptHandler):Option (Expr × Stmt × List Stmt):=if (dH0 s).2.1.isNone=true then (dH0 s).1.bind fun t=>(gT (dH0 s).2.2.1).map fun q=>(t,q.1,q.2) else none
theorem tL {s:ExceptHandler}{q:Expr × Stmt × List Stmt} (h:tU s=some q):∃ p,s = .ExceptHandler (some q.1) none (q.2.1 :: q.2.2) p:=by
  unfold tU at h
  by_cases c:(dH0 s).2.1.isNone=true
  · rw [if_pos c] at h
    obtain ⟨t,ht,h⟩:=Option.bind_eq_some_iff.mp h
    obtain ⟨r,hr,e⟩:=Option.map_eq_some_iff.mp h
    have back:s = .ExceptHandler (dH0 s).1 (dH0 s).2.1 (dH0 s).2.2.1 (dH0 s).2.2.2:=by cases s; rfl
    refine ⟨(dH0 s).2.2.2,back.trans ?_⟩
    rw [ht,c8 hr,Option.isNone_iff_eq_none.mp c,← e]
  · rw [if_neg c] at h; exact nN h
noncomputable def lL (s:Stmt):Option (List Expr × Expr × Pos):=ifN (ps s).tag 1 ((ps s).es,(ps s).e1,(ps s).pos)
noncomputable def sV (s:Stmt):Option (Expr × Pos):=ifN (ps s).tag 2 ((ps s).e1,(ps s).pos)
noncomputable def pI (s:Stmt):Option (Option Expr × Pos):=ifN (ps s).tag 3 ((ps s).o1,(ps s).pos)
noncomputable def sIf (s:Stmt):Option (Expr × List Stmt × List Stmt × Pos):=ifN (ps s).tag 4 ((ps s).e1,(ps s).s1,(ps s).s2,(ps s).pos)
noncomputable def xT (s:Stmt):Option (Expr × Expr × List Stmt × List Stmt × Pos):=ifN (ps s).tag 5 ((ps s).e1,(ps s).e2,(ps s).s1,(ps s).s2,(ps s).pos)
theorem iY {s:Stmt}{q:List Expr × Expr × Pos} (h:lL s=some q):s = .Assign q.1 q.2.1 q.2.2:=by
  refine ae (aU h) fun h1 E5=>?_
  (clear h; subst E5)
  exact eW (by decide) h1
theorem nk {s:Stmt}{q:Expr × Pos} (h:sV s=some q):s = .Expr q.1 q.2:=by
  refine ae (aU h) fun h1 E6=>?_
  (clear h; subst E6)
  exact eW (by decide) h1
theorem mE {s:Stmt}{q:Option Expr × Pos} (h:pI s=some q):s = .Return q.1 q.2:=by
  refine ae (aU h) fun h1 E7=>?_
  (clear h; subst E7)
  exact eW (by decide) h1
theorem wo {s:Stmt}{q:Expr × List Stmt × List Stmt × Pos} (h:sIf s=some q):s = .If q.1 q.2.1 q.2.2.1 q.2.2.2:=by
  refine ae (aU h) fun h1 E8=>?_
  (clear h; subst E8)
  exact eW (by decide) h1
theorem uB {s:Stmt}{q:Expr × Expr × List Stmt × List Stmt × Pos} (h:xT s=some q):s = .For q.1 q.2.1 q.2.2.1 q.2.2.2.1 q.2.2.2.2:=by
  refine ae (aU h) fun h1 E9=>?_
  (clear h; subst E9)
  exact eW (by decide) h1
noncomputable def o8 (s:Stmt):Option (Expr × Str × Pos × List Expr × Pos × Pos):=(sV s).bind fun q=>(iH q.1).bind fun c=>(c0 c.2.2.1).bind fun uu=>(jp c.1).map fun a=>(a.1,a.2.1,a.2.2,c.2.1,c.2.2.2,q.2)
theorem jg {s:Stmt}{q:Expr × Str × Pos × List Expr × Pos × Pos} (h:o8 s=some q):s = .Expr (.Call (.Attribute q.1 q.2.1 q.2.2.1) q.2.2.2.1 [] q.2.2.2.2.1) q.2.2.2.2.2:=by
  refine aa (Option.bind_eq_some_iff.mp h) fun c h1 h=>?_
  refine aa (Option.bind_eq_some_iff.mp h) fun u h2 h=>?_
  refine aa (Option.bind_eq_some_iff.mp h) fun uu h3 h=>?_
  refine aa (Option.map_eq_some_iff.mp h) fun n h4 h=>?_
  subst h
  rw [nk h1,dh h2,bE h3,fh h4]
noncomputable def DS (ns:List (Str × NameKind)):H1→Stmt→Bool
  | .asg x e,st=>al (lL st) fun q=>al (bN q.1) fun t=>al (bX t) fun n=>n.1 == Str.ofString x && bv ns x && okE ns e q.2.1
  | .ret e,st=>al (pI st) fun q=>al q.1 fun v=>okE ns e v
noncomputable def uG (ns:List (Str × NameKind)):List H1→List Stmt→Bool
  | [],st=>(c0 st).isSome
  | s :: r,st=>al (fm st) fun q=>DS ns s q.1 && uG ns r q.2
noncomputable def D0 (ns:List (Str × NameKind)) (p:String × List H1) (h:ExceptHandler):Bool:=al (tU h) fun q=>al (bX q.1) fun n=>n.1 == Str.ofString p.1 && bY ns p.1 && aT p.1 && uG ns p.2 (q.2.1 :: q.2.2)
noncomputable def pp (ns:List (Str × NameKind)):List (String × List H1)→List ExceptHandler→Bool
  | [],[]=>true
  | p :: r,h :: hs=>D0 ns p h && pp ns r hs
  | _,_=>false
mutual
noncomputable def okS (ns:List (Str × NameKind)):S→Stmt→Bool
  | .assign x e,st=>al (lL st) fun q=>al (bN q.1) fun t=>al (bX t) fun n=>n.1 == Str.ofString x && bv ns x && okE ns e q.2.1
  | .setitem x e,st=>al (lL st) fun q=>al (bN q.1) fun t=>al (pg t) fun u=>al (bX u.1) fun n=>al (eG q.2.1) fun c=>al (pQ c.1) fun b=>b && (n.1 == Str.ofString x && bv ns x && okE ns e u.2.1)
  | .append x e,st=>al (o8 st) fun q=>al (bX q.1) fun n=>al (bN q.2.2.2.1) fun v=>q.2.1 == Str.ofString "append" && (q.2.2.1.endLine == q.2.2.2.2.1.line) && n.1 == Str.ofString x && bv ns x && okE ns e v
  | .insert x i e,st=>al (o8 st) fun q=>al (bX q.1) fun n=>al (lT q.2.2.2.1) fun v=>q.2.1 == Str.ofString "insert" && (q.2.2.1.endLine == q.2.2.2.2.1.line) && n.1 == Str.ofString x && bv ns x && okE ns i v.1 && okE ns e v.2
  | .pop x i,st=>al (o8 st) fun q=>al (bX q.1) fun n=>al (bN q.2.2.2.1) fun v=>q.2.1 == Str.ofString "pop" && (q.2.2.1.endLine == q.2.2.2.2.1.line) && n.1 == Str.ofString x && bv ns x && okE ns i v
  | .expr e,st=>al (sV st) fun q=>(iH q.1).isSome && okE ns e q.1
  | .ret e,st=>al (pI st) fun q=>al q.1 fun v=>okE ns e v
  | .retn x,st=>al (pI st) fun q=>al q.1 fun v=>al (bX v) fun n=>n.1 == Str.ofString x && bv ns x
  | .ite c a b,st=>al (sIf st) fun q=>okE ns c q.1 && cg ns a q.2.1 && cg ns b q.2.2.1
  | .for1 x it b,st=>al (xT st) fun q=>al (c0 q.2.2.2.1) fun uu=>al (bX q.1) fun n=>n.1 == Str.ofString x && bv ns x && fI ns it q.2.1 && cg ns b q.2.2.1
  | .raise c,st=>al (tE st) fun q=>al (iH q) fun a=>al (c0 a.2.2.1) fun uu=>al (bX a.1) fun n=>al (bN a.2.1) fun m=>al (eG m) fun k=>al (t7 k.1) fun t=>n.1 == Str.ofString c && bY ns c && aT c && decide (t.length≤1000)
  | .tryS b hs,st=>al (ux st) fun q=>okS ns b q.1 && pp ns hs (q.2.1 :: q.2.2)
  | .bad,_=>false
termination_by structural s=>s
noncomputable def cg (ns:List (Str × NameKind)):Ss→List Stmt→Bool
  | .nil,st=>(c0 st).isSome
  | .cons s r,st=>al (fm st) fun q=>okS ns s q.1 && cg ns r q.2
termination_by structural s=>s
end
section
variable {ns:List (Str × NameKind)}{st:Stmt}{x:String}{e i c:E}{a b:Ss}
theorem ij (h:okS ns (.assign x e) st=true):(∃ t pt v p,st = .Assign [.Name t pt] v p∧(t == Str.ofString x && bv ns x && okE ns e v)=true)∨False:=by
  refine aa (ah h) fun q e1 h=>?_
  refine aa (ah h) fun t e2 h=>?_
  refine aa (ah h) fun n e3 h=>?_
  exact .inl (dz _ _ _ _ (by rw [iY e1,be e2,aW e3]) h)
theorem qq (h:okS ns (.setitem x e) st=true):(∃ t pt i p1 k p2 p,st = .Assign [.Subscript (.Name t pt) i p1] (.Constant (.bool true) k p2) p∧(t == Str.ofString x && bv ns x && okE ns e i)=true)∨False:=by
  refine aa (ah h) fun q e1 h=>?_
  refine aa (ah h) fun t e2 h=>?_
  refine aa (ah h) fun u e3 h=>?_
  refine aa (ah h) fun n e4 h=>?_
  refine aa (ah h) fun c e5 h=>?_
  refine aa (ah h) fun b e6 h=>?_
  refine ae (Bool.and_eq_true_iff.mp h) fun Fb h=>?_
  subst Fb
  exact .inl (jS _ _ _ _ _ _ _ (by rw [iY e1,be e2,iX e3,aW e4,cO e5,k9 e6]) h)
theorem qL (h:okS ns (.append x e) st=true):(∃ t pt m ap v pos sp,st = .Expr (.Call (.Attribute (.Name t pt) m ap) [v] [] pos) sp∧(m == Str.ofString "append" && (ap.endLine == pos.line) && t == Str.ofString x && bv ns x && okE ns e v)=true)∨False:=by
  refine aa (ah h) fun q e1 h=>?_
  refine aa (ah h) fun n e2 h=>?_
  refine aa (ah h) fun v e3 h=>?_
  exact .inl (jS _ _ _ _ v _ _ (by rw [jg e1,aW e2,be e3]) h)
theorem xW (h:okS ns (.pop x e) st=true):(∃ t pt m ap v pos sp,st = .Expr (.Call (.Attribute (.Name t pt) m ap) [v] [] pos) sp∧(m == Str.ofString "pop" && (ap.endLine == pos.line) && t == Str.ofString x && bv ns x && okE ns e v)=true)∨False:=by
  refine aa (ah h) fun q e1 h=>?_
  refine aa (ah h) fun n e2 h=>?_
  refine aa (ah h) fun v e3 h=>?_
  exact .inl (jS _ _ _ _ v _ _ (by rw [jg e1,aW e2,be e3]) h)
theorem qR (h:okS ns (.insert x i e) st=true):(∃ t pt m ap u v pos sp,st = .Expr (.Call (.Attribute (.Name t pt) m ap) [u,v] [] pos) sp∧(m == Str.ofString "insert" && (ap.endLine == pos.line) && t == Str.ofString x && bv ns x && okE ns i u && okE ns e v)=true)∨False:=by
  refine aa (ah h) fun q e1 h=>?_
  refine aa (ah h) fun n e2 h=>?_
  refine aa (ah h) fun v e3 h=>?_
  exact .inl (ym _ _ _ _ v.1 v.2 _ _ (by rw [jg e1,aW e2,gK e3]) h)
theorem ky (h:okS ns (.expr e) st=true):(∃ f xs ks p sp,st = .Expr (.Call f xs ks p) sp∧okE ns e (.Call f xs ks p)=true)∨False:=by
  refine aa (ah h) fun q e1 h=>?_
  refine ae (Bool.and_eq_true_iff.mp h) fun h1 h2=>?_
  refine ai (Option.isSome_iff_exists.mp h1) fun c e2=>?_
  rw [dh e2] at h2
  exact .inl (lA _ _ _ _ _ (by rw [nk e1,dh e2]) h2)
theorem rp (h:okS ns (.ret e) st=true):(∃ v p,st = .Return (some v) p∧okE ns e v=true)∨False:=by
  refine aa (ah h) fun q e1 h=>?_
  refine aa (ah h) fun v e2 h=>?_
  exact .inl (az v _ (by rw [mE e1,e2]) h)
theorem wK (h:okS ns (.retn x) st=true):(∃ t pt p,st = .Return (some (.Name t pt)) p∧(t == Str.ofString x && bv ns x)=true)∨False:=by
  refine aa (ah h) fun q e1 h=>?_
  refine aa (ah h) fun v e2 h=>?_
  refine aa (ah h) fun n e3 h=>?_
  exact .inl (bQ _ _ _ (by rw [mE e1,e2,aW e3]) h)
theorem rQ (h:okS ns (.ite c a b) st=true):(∃ t u v p,st = .If t u v p∧(okE ns c t && cg ns a u && cg ns b v)=true)∨False:=by
  refine aa (ah h) fun q e1 h=>?_
  exact .inl (dz _ _ _ _ (wo e1) h)
theorem ov {it:It} (h:okS ns (.for1 x it b) st=true):(∃ t pt i u p,st = .For (.Name t pt) i u [] p∧(t == Str.ofString x && bv ns x && fI ns it i && cg ns b u)=true)∨False:=by
  refine aa (ah h) fun q e1 h=>?_
  refine aa (ah h) fun uu e2 h=>?_
  refine aa (ah h) fun n e3 h=>?_
  exact .inl (lA _ _ _ _ _ (by rw [uB e1,bE e2,aW e3]) h)
theorem ud {c:String} (h:okS ns (.raise c) st=true):(∃ n p t k p2 cp pos,st = .Raise (some (.Call (.Name n p) [.Constant (.str t) k p2] [] cp)) none pos∧(n == Str.ofString c && bY ns c && aT c && decide (t.length≤1000))=true)∨False:=by
  refine aa (ah h) fun q e1 h=>?_
  refine aa (ah h) fun a e2 h=>?_
  refine aa (ah h) fun uu e3 h=>?_
  refine aa (ah h) fun n e4 h=>?_
  refine aa (ah h) fun m e5 h=>?_
  refine aa (ah h) fun k e6 h=>?_
  refine aa (ah h) fun t e7 h=>?_
  refine ai (tW e1) fun p e0=>?_
  exact .inl (jS n.1 n.2 t k.2.1 k.2.2 a.2.2.2 p (by rw [e0,dh e2,bE e3,aW e4,be e5,cO e6,mP e7]) h)
theorem yc {b:S}{hs:List (String × List H1)} (h:okS ns (.tryS b hs) st=true):∃ t d ds p,st = .Try [t] (d :: ds) [] [] p∧okS ns b t=true∧pp ns hs (d :: ds)=true:=by
  refine aa (ah h) fun q e1 h=>?_
  refine ai (uE e1) fun p e=>?_
  have h':=Bool.and_eq_true_iff.mp h
  exact (dz _ _ _ p e h')
theorem yO {l:List Stmt} (h:cg ns .nil l=true):(l=[]∧True)∨False:=by
  refine ai (Option.isSome_iff_exists.mp (show (c0 l).isSome=true from h)) fun uu e=>?_
  exact .inl ⟨bE e,trivial⟩
theorem nS {s:S}{l:List Stmt} (h:cg ns (.cons s a) l=true):(∃ t u,l=t :: u∧(okS ns s t && cg ns a u)=true)∨False:=by
  refine aa (ah h) fun q e1 h=>?_
  exact .inl (az _ _ (b7 e1) h)
end
section
variable (prog:Program) (w:World) (fns:Fns) (k:Nat) (C:Calls)
noncomputable def cU (st:S):Prop:=∀ {stmt:Stmt}{h0:Heap}{P Z:Addr→Prop}{A:Around}{env:Env}{σ:St}{vals:String→Option Value}{fp:String→List Addr}{s:Shared}{Q:Flow→Shared→Prop}{Er:Value→Shared→Prop}{σ':St}{fl:Flw},
  okS env.scope.names st stmt=true→SOK prog w fns k h0 P Z A env s.heap σ vals fp→ex C st σ = .ok (σ',fl) →
  (fl = .next→∀ s' vals' fp',Stp Z s s'→SOK prog w fns k h0 P Z A env s'.heap σ' vals' fp'→Frm Z (asg st) σ vals fp σ' vals' fp'→Q .next s')→(∀ r,fl = .ret r→∀ v s',Stp Z s s'→kB prog w h0 P r v s'→Q (.ret v) s') →
  wpAny (model prog w) A (exec stmt env) Q Er s
noncomputable def dQ (st:Ss):Prop:=∀ {stmts:List Stmt}{h0:Heap}{P Z:Addr→Prop}{A:Around}{env:Env}{σ:St}{vals:String→Option Value}{fp:String→List Addr}{s:Shared}{Q:Flow→Shared→Prop}{Er:Value→Shared→Prop}{σ':St}{fl:Flw},
  cg env.scope.names st stmts=true→SOK prog w fns k h0 P Z A env s.heap σ vals fp→exs C st σ = .ok (σ',fl) →
  (fl = .next→∀ s' vals' fp',Stp Z s s'→SOK prog w fns k h0 P Z A env s'.heap σ' vals' fp'→Frm Z (gR st) σ vals fp σ' vals' fp'→Q .next s')→(∀ r,fl = .ret r→∀ v s',Stp Z s s'→kB prog w h0 P r v s'→Q (.ret v) s') →
  wpAny (model prog w) A (execs stmts env) Q Er s
end
section
variable {prog:Program}{w:World}{fns:Fns}{k:Nat}{C:Calls}{XP:String→Shared→Value→Shared→Prop}
theorem bnd {env:Env}{x:String} (h:bv env.scope.names x=true):varK env.scope.names x=true∧aT x=true∧(env.kindOf (Str.ofString x)=some .local∨env.kindOf (Str.ofString x)=some .cell):=by
  unfold bv at h
  simp only [Bool.and_eq_true,Bool.or_eq_true,beq_iff_eq] at h
  exact ⟨h.1.1,h.1.2,h.2⟩
theorem xv {h0:Heap}{P Z:Addr→Prop}{A:Around}{env:Env}{σ:St}{vals:String→Option Value}{fp:String→List Addr}{s s':Shared}{ns:List String}{r:V × Mode}{v:Value} (K:SOK prog w fns k h0 P Z A env s.heap σ vals fp) (E:EP prog w (Own σ fp ns) s r v s') :
    kB prog w h0 P r v s':=by
  obtain ⟨kp,as,rv,ha,ht,hd⟩:=E
  have nh:∀ a,s.heap.get? a=none→h0.get? a=none:=fun a e=>by
    cases q:h0.get? a with
    | none=>rfl
    | some o=>obtain ⟨_,e'⟩:=Mine.K.there K.kp0 q; rw [e'] at e; exact nM e
  exact (a7 as rv (fun a h=>(ha a h).elim (fun q=>(K.own q).2.2) fun q=>.inr (nh a q)) (fun q=>ay (ht q) fun a bs h1 h2 h3=>(aK a bs h1 (nh a h2) h3)) (fun q=>⟨fun a h=>nh a ((hd q).1 a h),(hd q).2⟩))
theorem jm {σ₁ σ':St}{fl:Flw}{l:List String}{h0:Heap}{P Z:Addr→Prop}{A:Around}{env:Env}{σ:St}{vals:String→Option Value}{fp:String→List Addr}{s:Shared}{Q:Flow→Shared→Prop} (he:(Out.ok (σ₁,Flw.next):Out (St × Flw)) = .ok (σ',fl))
    (hN:fl = .next→∀ s' vals' fp',Stp Z s s'→SOK prog w fns k h0 P Z A env s'.heap σ' vals' fp'→Frm Z l σ vals fp σ' vals' fp'→Q .next s'):∀ s' vals' fp',Stp Z s s'→SOK prog w fns k h0 P Z A env s'.heap σ₁ vals' fp'→Frm Z l σ vals fp σ₁ vals' fp'→Q .next s':=by
  cases he
  exact hN rfl
theorem Cp {σ₁ σ':St}{fl:Flw}{r:V × Mode}{N:V × Mode→Prop} (he:(Out.ok (σ₁,Flw.ret r):Out (St × Flw)) = .ok (σ',fl)) (hN:∀ r,fl = .ret r→N r):N r:=by
  cases he
  exact hN r rfl
theorem lV {e:E} (S:SimE prog w fns k C XP e):cU prog w fns k C (.ret e):=by
  intro stmt h0 P Z A env σ vals fp s Q Er σ' fl ok K he hN hR
  replace ok:=rp ok
  revert ok; refine fun Fj=>Or.elim Fj (fun Fe=>?_) (fun ok=>?_)
  · clear Fj
    refine av (Fe) fun FK FR Gh ok=>?_
    clear Fe
    subst Gh
    simp only [eF] at he
    refine aa (Out.bind_ok he) fun r hr he=>?_
    exact wpAny_Return_some (K.eval S ok hr fun v s' E=>Cp he hR v s' E.keeps.stp (xv K E))
  · cases ok
theorem o7 {c:String}:cU prog w fns k C (.raise c):=by
  intro stmt h0 P Z A env σ vals fp s Q Er σ' fl ok K he hN hR
  exfalso
  simp only [fc] at he
  refine aa (aD he) fun uu uu he=>?_
  split at he <;> cases he
set_option tactic.hygienic true in
theorem rl {x:String}:cU prog w fns k C (.retn x):=by
  intro stmt h0 P Z A env σ vals fp s Q Er σ' fl ok K he hN hR
  replace ok:=wK ok
  revert ok; refine fun Fk=>Or.elim Fk (fun Fg=>?_) (fun ok=>?_)
  · clear Fk
    refine ba (Fg) fun FX Go FT Gr ok=>?_
    clear Fg
    subst Gr
    simp only [Bool.and_eq_true,beq_iff_eq] at ok
    refine ae (ok) fun Fc hb=>?_
    try clear ok
    subst Fc
    refine aB (bnd hb) fun h1 h2 h3=>?_
    simp only [jb] at he
    split at he
    · rename_i r hr
      cases he
      refine ae (K.val x r hr) fun uu FB=>?_
      refine ao (FB) fun v hv hrv hd=>?_
      try clear FB
      have nh:∀ a,¬ Z a→h0.get? a=none:=fun a e=>by
        cases q:h0.get? a with
        | none=>rfl
        | some o=>exact absurd (K.z0 a o q) e
      refine wpAny_Return_some (cI K.eok.kind h2 (K.loc.var K.eok hv) (hR r rfl v s (.refl Z s) (a7 (fp x) hrv (fun a h=>(hd a h).2) (fun q=>?_) (fun q=>?_))))
      · refine aZ (K.top x r hr q) fun a bs e1 e2 e3 _=>?_
        exact (aK a bs e1 (nh a e2) e3)
      · refine ae (K.deep x r hr q) fun e1 e2=>?_
        exact ⟨fun a h=>nh a (e1 a h).1,e2⟩
    · exact nB he
  · cases ok
theorem sv {c:E}{a b:Ss} (T:SimT prog w fns k C XP c) (Sa:dQ prog w fns k C a) (Sb:dQ prog w fns k C b):cU prog w fns k C (.ite c a b):=by
  intro stmt h0 P Z A env σ vals fp s Q Er σ' fl ok K he hN hR
  replace ok:=rQ ok
  revert ok; refine fun Fq=>Or.elim Fq (fun Fl=>?_) (fun ok=>?_)
  · clear Fq
    refine bP (Fl) fun F0 FU FY GI Gb ok=>?_
    clear Fl
    subst Gb
    simp only [Bool.and_eq_true] at ok
    simp only [gh] at he
    refine aa (Out.bind_ok he) fun r hr he=>?_
    refine aa (Out.bind_ok he) fun t ht he=>?_
    refine wpAny_If (K.evalT T ok.1.1 (b:=t) (by rw [hr]; exact ht) fun s₁ kp=>?_)
    have K₁:=K.onK kp.k
    cases t with
    | true=>
      rw [if_pos rfl] at he ⊢
      exact Sa ok.1.2 K₁ he (fun e s' vals' fp' st K' F=>hN e s' vals' fp' (kp.stp.trans st) K' (F.more fun y hy=>List.mem_append_left _ hy)) fun r e v s' st R=>hR r e v s' (kp.stp.trans st) R
    | false=>
      simp only [Bool.false_eq_true,if_false] at he ⊢
      exact Sb ok.2 K₁ he (fun e s' vals' fp' st K' F=>hN e s' vals' fp' (kp.stp.trans st) K' (F.more fun y hy=>List.mem_append_right _ hy)) fun r e v s' st R=>hR r e v s' (kp.stp.trans st) R
  · cases ok
theorem rO:dQ prog w fns k C .nil:=by
  intro stmts h0 P Z A env σ vals fp s Q Er σ' fl ok K he hN hR
  replace ok:=yO ok
  revert ok; refine fun Fx=>Or.elim Fx (fun Fo=>?_) (fun ok=>?_)
  · clear Fx
    refine ae (Fo) fun Gw ok=>?_
    clear Fo
    subst Gw
    simp only [cE] at he
    cases he
    exact wpAny_execs_nil (hN rfl s vals fp (.refl Z s) K (.id fun z q h=>⟨q,h⟩))
  · cases ok
theorem qe {st:S}{r:Ss} (S:cU prog w fns k C st) (T:dQ prog w fns k C r):dQ prog w fns k C (.cons st r):=by
  intro stmts h0 P Z A env σ vals fp s Q Er σ' fl ok K he hN hR
  replace ok:=nS ok
  revert ok; refine fun Fu=>Or.elim Fu (fun Fs=>?_) (fun ok=>?_)
  · clear Fu
    refine av (Fs) fun GR GX Ge ok=>?_
    clear Fs
    subst Ge
    simp only [Bool.and_eq_true] at ok
    simp only [bS] at he
    refine aa (Out.bind_ok he) fun Fd h1 he=>?_
    obtain ⟨σ₁,fl₁⟩:=Fd
    dsimp only at he
    refine wpAny_execs_cons (S ok.1 K h1 (fun e s' vals' fp' st K' F=>?_) fun q e v s' st R=>?_)
    · (clear h1; subst e)
      dsimp only at he ⊢
      exact T ok.2 K' he (fun e s'' vals'' fp'' st' K'' F'=>hN e s'' vals'' fp'' (st.trans st') K'' (F.trans F')) fun r e v s'' st' R=>hR r e v s'' (st.trans st') R
    · (clear h1; subst e)
      cases he
      exact hR q rfl v s' st R
  · cases ok
theorem qO {e:E} (S:SimE prog w fns k C XP e):cU prog w fns k C (.expr e):=by
  intro stmt h0 P Z A env σ vals fp s Q Er σ' fl ok K he hN hR
  replace ok:=ky ok
  revert ok; refine fun FF=>Or.elim FF (fun Fz=>?_) (fun ok=>?_)
  · clear FF
    refine gu (Fz) fun G7 HA HX G3 Hc GY ok=>?_
    clear Fz
    subst GY
    simp only [dB] at he
    refine aa (Out.bind_ok he) fun r hr he=>?_
    replace hN:=jm he hN
    clear he hR
    have hi:interactive env=false:=by unfold interactive; rw [K.eok.kind]; rfl
    exact wpAny_Expr_any (K.eval S ok hr fun v s' E=>hN s' vals fp E.keeps.stp ((K.onK E.keeps.k).consume _ _) (.id fun z q h=>cH h)) hi
  · cases ok
theorem SOK.same {h0:Heap}{P Z:Addr→Prop}{A:Around}{env:Env}{h h':Heap}{σ:St}{vals:String→Option Value}{fp:String→List Addr}{D:Addr}{m:Str→Option Value} (K:SOK prog w fns k h0 P Z A env h σ vals fp) (hm:h.Ns D m) (hZ:¬ Z D) (hL:D≠env.locals) (hf:∀ y q,σ y=some q→D∉fp y)
    (hs:Heap.SameBut D h h'):SOK prog w fns k h0 P Z A env h' σ vals fp:=by
  have kz:∀ b o,Z b→h.get? b=some o→h'.get? b=some o:=fun b o hb e=>hs.extBut b o (fun q=>hZ (q▸hb)) e
  have hm':=hm
  refine aS (hm') fun o es ep ho hd _=>?_
  try clear hm'
  refine ⟨K.room,K.eok,K.ge,K.z0,Mine.K.same K.kp0 hs (K.h0n hZ) (fun o' e=>by rw [ho] at e; (have oc:=Option.some.inj e; clear e; subst oc); exact Stay.not_dict hd),K.code,K.out,fun b hb=>ai (K.zdom b hb) fun o e=>⟨o,kz b o hb e⟩,K.loc.offA ho (fun v q=>by rw [hd] at q; cases q) hL hs,fun y q hq=>?_,K.top,K.deep⟩
  refine ae (K.val y q hq) fun h1 FD=>?_
  refine ao (FD) fun u h2 h3 h4=>?_
  try clear FD
  exact (aG h1 (aA u h2 (h3.spot (env:={ env with locals:=D }) (.inl (aG rfl (bl m hm))) (fun ⟨u,o,e,q⟩=>by obtain ⟨o',es,ep,e',q',_⟩:=hm; rw [e] at e'; (have oc:=Option.some.inj e'; clear e'; subst oc); rw [q] at q'; cases q') (fun a ha (e:a=D)=>hf y q hq (e▸ha)) hs) h4))
end
end Mine
namespace Mine
set_option tactic.hygienic false
set_option linter.unusedVariables false
open PySem PyProof.Rows
set_option linter.unusedSectionVars false
variable [SF:Soft]
noncomputable def TrAt (N:Addr→Prop) (h:Heap) (e:Addr) (vs:Array Value) (fl:Value):Prop :=
  ∃ T oT ts,vs[1]? = some (.ref T)∧¬ N T∧T≠e∧h.get? T=some oT∧oT.cls = .type "traceback" ∧ oT.data = .fields ts∧ts[3]? = some fl
noncomputable def Ex0 (N:Addr→Prop) (h:Heap) (c:String) (e:Addr) (vs:Array Value):Prop:=¬ N e∧c∈SF.excN∧∃ oe,h.get? e=some oe∧oe.cls = .ref (SF.exc c)∧oe.data = .fields vs
noncomputable def Exc (N:Addr→Prop) (h:Heap) (c:String) (L:Addr) (x:Value):Prop:=∃ e vs,x = .ref e∧Ex0 N h c e vs∧(vs[1]? = some .none∨∃ fl,(fl = .none∨fl=rawInt L)∧TrAt N h e vs fl)
noncomputable def FlyA (N:Addr→Prop) (h:Heap) (c:String) (fl:Value) (x:Value):Prop:=∃ e vs,x = .ref e∧Ex0 N h c e vs∧TrAt N h e vs fl
noncomputable def Fly (N:Addr→Prop) (h:Heap) (c:String) (x:Value):Prop:=FlyA N h c .none x
theorem Fly.exc {N:Addr→Prop}{h:Heap}{c:String}{L:Addr}{x:Value} (f:Fly N h c x):Exc N h c L x:=ay (f) fun e vs h1 h2 h3=>(aK e vs h1 h2 (.inr (ag _ (.inl rfl) h3)))
theorem FlyA.exc {N:Addr→Prop}{h:Heap}{c:String}{L:Addr}{x:Value} (f:FlyA N h c (rawInt L) x):Exc N h c L x:=ay (f) fun e vs h1 h2 h3=>(aK e vs h1 h2 (.inr (ag _ (.inr rfl) h3)))
theorem TrAt.old {N N':Addr→Prop}{h:Heap}{e:Addr}{vs:Array Value}{fl:Value} (t:TrAt N h e vs fl) (hn:∀ b,N' b→N b):TrAt N' h e vs fl:=aS (t) fun T oT ts a b r=>(cu T oT ts a (fun q=>b (hn _ q)) r)
theorem FlyA.old {N N':Addr→Prop}{h:Heap}{c:String}{fl x:Value} (f:FlyA N h c fl x) (hn:∀ b,N' b→N b):FlyA N' h c fl x:=ay (f) fun e vs h1 h2 h3=>(aK e vs h1 ⟨fun q=>h2.1 (hn _ q),h2.2⟩ (h3.old hn))
theorem Exc.old {N N':Addr→Prop}{h:Heap}{c:String}{L:Addr}{x:Value} (f:Exc N h c L x) (hn:∀ b,N' b→N b):Exc N' h c L x:=ay (f) fun e vs h1 h2 h3=>(aK e vs h1 ⟨fun q=>h2.1 (hn _ q),h2.2⟩ (h3.imp id fun ⟨fl,q,t⟩=>(ag fl q (t.old hn))))
noncomputable def Chg (N:Addr→Prop) (h h':Heap):Prop:=∀ b o,h.get? b=some o→h'.get? b=some o∨(∃ es ep,¬ SF.old b∧o.cls = .type "frame" ∧ o.data = .dict es ep∧∃ sl,h'.get? b=some { o with slots:=sl })∨(¬ N b∧¬ Stay o∧∃ fs,o.data = .fields fs)
theorem Chg.kg {N:Addr→Prop}{h h':Heap} (c:Chg N h h'):KG N h h':=fun b o hb e=>by
  rcases c b o e with q | ⟨es,ep,h1,h2,h3,sl,h4⟩ | ⟨h1,h2,_⟩
  · exact (ag o q (.same rfl))
  · exact (ag _ h4 (.frame es ep h1 h2 h3 rfl rfl rfl))
  · exact absurd hb (fun q=>q.elim h1 h2)
theorem Chg.frames {N:Addr→Prop}{h h':Heap}{l:List Env} (c:Chg N h h') (x:FrOk h l):FrOk h' l:=fun env he=>by
  obtain ⟨h0,L,o,es,ep,h1,h2,h3,h4,h5⟩:=x env he
  rcases c L o h3 with q | ⟨_,_,_,_,_,sl,q⟩ | ⟨_,_,fs,q⟩
  · exact (aG h0 (iK L o es ep h1 h2 q h4 h5))
  · exact (aG h0 (iK L _ es ep h1 h2 q h4 h5))
  · rw [h5] at q; cases q
noncomputable def noH (h:Heap):Heap:={ h with objs:=#[] }
theorem xx (h:Heap) (b:Addr):(noH h).get? b=none:=rfl
theorem FrOk.fun {h:Heap}:∀ {l:List Env},FrOk h l→h.FunFrames (noH h) l
  | [],_=>trivial
  | env :: l,x=>by
    obtain ⟨f0,L,o,es,ep,f1,f2,f3,f4,f5⟩:=x env (.head _)
    exact ⟨by rw [f0]; decide,(bp L o f1 (xx h L) f3 (fun ws q=>by rw [f5] at q; cases q)),FrOk.fun fun y hy=>x y (.tail _ hy)⟩
section
variable {M:Model}{A:Around}{E:Value→Shared→Prop}{env:Env}{l:List Env}{h:Heap}{g:Array GenState}{dr:Drawn}{tk:Nat}{os:OsState}{c:String}{x:Value}{Q:Unit→Shared→Prop}{N:Addr→Prop}{L:Addr}
theorem vw {e:Addr}{vs:Array Value}{head:Value}{hadNext:Bool} (hN:∀ b,N b→∃ o,h.get? b=some o) (hfr:A.frames=some (env :: l)) (hF:FrOk h (env :: l)) (hf:env.frame=some L) (he:Ex0 N h c e vs) (hsz:1<vs.size)
    (hQ:∀ h',FlyA N h' c (rawInt L) (.ref e)→Chg N h h'→Q () ⟨h',g,dr,tk,os⟩) :
    wpAny M A (do let a ← frameOf env; let pl ← entryPlaceOf L hadNext; let b ← EntryCells.newEntry head a .none (rawInt L) .none pl; setField (.ref e) 1 b) Q E ⟨h,g,dr,tk,os⟩:=by
  refine aB (he) fun ne cn Fw=>?_
  try clear he
  refine ao (Fw) fun oe ee hc hd=>?_
  try clear Fw
  have hl:=hF.fun
  have notf:∀ b o fs,h.get? b=some o→o.data = .fields fs→b∉(env :: l).filterMap (·.frame):=fun b o fs eb hb hm=>by
    refine ae (hl.mem hm) fun uu FD=>?_
    refine aa (FD) fun o' e' hnf=>?_
    try clear FD
    rw [eb] at e'; (have oc:=Option.some.inj e'; clear e'; subst oc)
    exact hnf fs hb
  refine wpAny_bind (wpAny_frameOf_fun (s:=⟨h,g,dr,tk,os⟩) hfr hl hf fun h₁ hs₁=>?_)
  refine wpAny_bind (wpAny_entryPlaceOf fun pl hpl=>?_)
  unfold EntryCells.newEntry newFields
  refine wpAny_bind (wpAny_newObj_type ?_ (hpl.sizeOk5 _ _ _ _ _))
  generalize hts:([head,.ref L,.none,rawInt L,.none] ++ (if pl.isEmpty then List.replicate 6 Value.none else pl)).toArray=ts
  have h3:ts[3]? = some (rawInt L):=by rw [← hts]; simp
  have e₁:h₁.get? e=some oe:=(hs₁.2.1 e (notf e oe vs ee hd)).trans ee
  have e₂:=Heap.get?_push_of_some (h:=h₁) { cls:=.type "traceback", dict:=none,data:=.fields ts } e₁
  have hTe:h₁.objs.size≠e:=Nat.ne_of_gt (Heap.lt_size e₁)
  have hTN:¬ N h₁.objs.size:=fun q=>by
    refine ai (hN _ q) fun o eo=>?_
    have:=Heap.lt_size eo
    rw [hs₁.1] at this
    exact Nat.lt_irrefl _ this
  have hd₃:=Obj.data_mapFields hd (·.setIfInBounds 1 (Value.ref h₁.objs.size))
  refine wpAny_setField e₂ hd hsz (hQ _ (aK e _ rfl (bJ ne cn (aA _ (Heap.get?_update_self _ e₂ (Obj.isFreed_of_fields hd₃)) ((Obj.cls_mapFields _ _).trans hc) hd₃)) (jQ h₁.objs.size _ ts (by simp [hsz]) hTN hTe ((Heap.get?_update_other _ _ (Ne.symm hTe)).trans (Heap.get?_push_size h₁ rfl)) rfl rfl h3)) fun b o eb=>?_)
  by_cases hbe:b=e
  · (clear e₁ e₂ hQ hTe; subst hbe)
    rw [ee] at eb; (have oc:=Option.some.inj eb; clear eb; subst oc)
    exact .inr (.inr (bJ ne (Stay.not_cls (by rw [hc]; simp) (by rw [hc]; simp)) (bl vs hd)))
  · have keep:∀ o',h₁.get? b=some o'→((h₁.push { cls:=.type "traceback", dict:=none,data:=.fields ts }).update e (Obj.mapFields (·.setIfInBounds 1 (Value.ref h₁.objs.size)))).get? b=some o':=fun o' e'=>by
      rw [Heap.get?_update_other _ _ (Ne.symm hbe)]
      exact Heap.get?_push_of_some _ e'
    by_cases hm:b∈(env :: l).filterMap (·.frame)
    · refine aa (List.mem_filterMap.mp hm) fun env' he' hb'=>?_
      obtain ⟨_,L',o',es,ep,f1,f2,f3,f4,f5⟩:=hF env' he'
      rw [hb'] at f1; (have oc:=Option.some.inj f1; clear f1; subst oc)
      rw [eb] at f3; (have oc:=Option.some.inj f3; clear f3; subst oc)
      refine ai (hs₁.2.2 b o eb) fun sl e'=>?_
      exact .inr (.inl (bp es ep f2 f4 f5 (bl sl (keep _ e'))))
    · exact .inl (keep o ((hs₁.2.1 b hm).trans eb))
theorem Chg.upd {T:Addr}{oT:Obj}{ts:Array Value}{v:Value} (ht:h.get? T=some oT) (hc:oT.cls = .type "traceback") (hd:oT.data = .fields ts) (hn:¬ N T):Chg N h (h.update T (Obj.mapFields (·.setIfInBounds 3 v))):=fun b o eb=>by
  by_cases hb:b=T
  · subst hb
    rw [ht] at eb; (have oc:=Option.some.inj eb; clear eb; subst oc)
    exact .inr (.inr (bJ hn (Stay.not_cls (by rw [hc]; simp) (by rw [hc]; simp)) (bl ts hd)))
  · exact .inl ((Heap.get?_update_other _ _ (Ne.symm hb)).trans eb)
theorem ub (hN:∀ b,N b→∃ o,h.get? b=some o) (hfr:A.frames=some (env :: l)) (hF:FrOk h (env :: l)) (hf:env.frame=some L) (hx:Exc N h c L x)
    (hQ:∀ h',FlyA N h' c (rawInt L) x→KG N h h'→FrOk h' (env :: l)→Q () ⟨h',g,dr,tk,os⟩):wpAny M A (noteFrame x env) Q E ⟨h,g,dr,tk,os⟩:=by
  refine ay (hx) fun e vs E5 h0 hv=>?_
  try clear hx
  subst E5
  refine aB (h0) fun ne cn FI=>?_
  try clear h0
  refine ao (FI) fun oe ee hc hd=>?_
  try clear FI
  unfold noteFrame
  simp only [hf]
  rcases hv with hv | ⟨fl,hfl,T,oT,ts,h1,hTN,hTe,hT,hTc,hTd,h3⟩
  · refine wpAny_bind (wpAny_field ee hd hv ?_)
    rw [if_neg (by decide)]
    exact vw hN hfr hF hf (bJ ne cn (aA oe ee hc hd)) (Array.getElem?_eq_some_iff.mp hv).1 fun h' f k=>hQ h' f k.kg (k.frames hF)
  · refine wpAny_bind (wpAny_field ee hd h1 ?_)
    rw [if_pos (show (Value.ref T != Value.none)=true from by simp)]
    refine wpAny_bind (wpAny_field hT hTd h3 ?_)
    rcases hfl with rfl | rfl
    · rw [if_neg (show ¬ ((Value.none == rawInt L)=true) from by simp [rawInt])]
      refine wpAny_bind (wpAny_setField hT hTd (Array.getElem?_eq_some_iff.mp h3).1 ?_)
      have ch:Chg N h (h.update T (Obj.mapFields (·.setIfInBounds 3 Value.none))):=Chg.upd hT hTc hTd hTN
      refine vw (fun b hb=>?_) hfr (ch.frames hF) hf (bJ ne cn (aA oe ((Heap.get?_update_other _ _ hTe).trans ee) hc hd)) (Array.getElem?_eq_some_iff.mp h1).1 fun h' f k=>hQ h' f (ch.kg.trans k.kg) (k.frames (ch.frames hF))
      refine ai (hN b hb) fun o e=>?_
      exact ⟨o,(Heap.get?_update_other _ _ (show T≠b from fun q=>hTN (by rw [q]; exact hb))).trans e⟩
    · rw [if_pos (show (rawInt L == rawInt L)=true from by simp)]
      exact wpAny_pure (hQ h (aK e vs rfl (bJ ne cn (aA oe ee hc hd)) (jQ T oT ts h1 hTN hTe hT hTc hTd h3)) .refl hF)
theorem jw {fl:Value}{fr:Option Addr} (hF:FrOk h l) (hx:FlyA N h c fl x) (hQ:∀ h',FlyA N h' c (fr.elim .none fun f=>rawInt f) x→KG N h h'→FrOk h' l→Q () ⟨h',g,dr,tk,os⟩):wpAny M A (setFlight x fr) Q E ⟨h,g,dr,tk,os⟩:=by
  obtain ⟨e,vs,E6,E7,T,oT,ts,h1,hTN,hTe,hT,hTc,hTd,h3⟩:=hx
  subst E6
  refine aB (E7) fun ne cn F3=>?_
  try clear E7
  refine ao (F3) fun oe ee hc hd=>?_
  try clear F3
  unfold setFlight
  refine wpAny_bind (wpAny_field ee hd h1 ?_)
  rw [if_pos (show (Value.ref T != Value.none)=true from by simp)]
  have hsz:=(Array.getElem?_eq_some_iff.mp h3).1
  have ch:Chg N h (h.update T (Obj.mapFields (·.setIfInBounds 3 (fr.elim .none fun f=>rawInt f)))):=Chg.upd hT hTc hTd hTN
  exact wpAny_setField hT hTd hsz (hQ _ (aK e vs rfl (bJ ne cn (aA oe ((Heap.get?_update_other _ _ hTe).trans ee) hc hd)) (jQ T _ _ h1 hTN hTe (Heap.get?_update_self _ hT (Obj.isFreed_of_fields (Obj.data_mapFields hTd _))) ((Obj.cls_mapFields _ _).trans hTc) (Obj.data_mapFields hTd _) (by simp [hsz]))) ch.kg (ch.frames hF))
theorem CI (hN:∀ b,N b→∃ o,h.get? b=some o) (hfr:A.frames=some (env :: l)) (hF:FrOk h (env :: l)) (hf:env.frame=some L) (hx:Exc N h c L x)
    (hQ:∀ h',Fly N h' c x→KG N h h'→Q () ⟨h',g,dr,tk,os⟩):wpAny M A (leaving env x) Q E ⟨h,g,dr,tk,os⟩:=by
  unfold leaving
  exact wpAny_bind (ub hN hfr hF hf hx fun h₁ f₁ k₁ F₁=>jw F₁ f₁ fun h₂ f₂ k₂ _=>hQ h₂ f₂ (k₁.trans k₂))
theorem Cn {E':Value→Shared→Prop}{prog:Program}{w:World} (hN:∀ b,N b→∃ o,h.get? b=some o) (hfr:A.frames=some (env :: l)) (hF:FrOk h (env :: l)) (hf:env.frame=some L) (hx:Exc N h c L x)
    (hQ:∀ h',Exc N h' c L x→KG N h h'→FrOk h' (env :: l)→E' x ⟨h',g,dr,tk,os⟩):notedBy (model prog w) A env (cameBackBy (model prog w) A env E') x ⟨h,g,dr,tk,os⟩:=by
  refine ub hN hfr hF hf hx fun h₁ f₁ k₁ F₁=>?_
  refine ay (f₁) fun e vs E8 E9 GP=>?_
  try clear f₁
  refine ba (GP) fun T oT ts h1 hTr=>?_
  try clear GP
  (clear hx; subst E8)
  refine aB (E9) fun ne cn F1=>?_
  try clear E9
  refine ao (F1) fun oe ee hc hd=>?_
  try clear F1
  refine wpAny_bind (wpAny_field ee hd h1 ?_)
  rw [if_neg (show ¬ (Value.ref T == Value.none)=true from by simp),hf]
  exact jw F₁ (aK e vs rfl (bJ ne cn (aA oe ee hc hd)) (bQ T oT ts h1 hTr)) fun h₂ f₂ k₂ F₂=>hQ h₂ f₂.exc (k₁.trans k₂) F₂
end
noncomputable def dom (h:Heap) (b:Addr):Prop:=∃ o,h.get? b=some o
noncomputable def XPc (c:String) (s:Shared) (x:Value) (s':Shared):Prop:=Kp s s'∧Fly (dom s.heap) s'.heap c x
theorem XPc.of {c:String}{s s₁:Shared}{x:Value}{s':Shared} (k:Kp s s₁) (h:XPc c s₁ x s'):XPc c s x s':=⟨k.trans h.1,h.2.old fun uu ⟨_,e⟩=>aa (k.k _ _ (.inl trivial) e) fun o' e' uu=>⟨o',e'⟩⟩
theorem bk:∀ (c:String) (s s₁:Shared) (x:Value) (s':Shared),Kp s s₁→XPc c s₁ x s'→XPc c s x s':=fun uu uu uu uu uu k h=>.of k h
noncomputable def Lv (A:Around) (env:Env) (h:Heap):Prop:=∃ l,A.frames=some (env :: l)∧FrOk h (env :: l)∧env.frame=some env.locals
section
variable (prog:Program) (w:World) (fns:Fns) (k:Nat) (C:Calls)
noncomputable def cS (st:S):Prop:=∀ {stmt:Stmt}{h0:Heap}{P Z:Addr→Prop}{A:Around}{env:Env}{σ:St}{vals:String→Option Value}{fp:String→List Addr}{s:Shared}{Q:Flow→Shared→Prop}{Er:Value→Shared→Prop}{c:String},
  okS env.scope.names st stmt=true→SOK prog w fns k h0 P Z A env s.heap σ vals fp→ex C st σ = .exc c→(∀ x s',Stp Z s s'→Lv A env s'.heap→Exc Z s'.heap c env.locals x→Er x s')→wpAny (model prog w) A (exec stmt env) Q Er s
noncomputable def dN (st:Ss):Prop:=∀ {stmts:List Stmt}{h0:Heap}{P Z:Addr→Prop}{A:Around}{env:Env}{σ:St}{vals:String→Option Value}{fp:String→List Addr}{s:Shared}{Q:Flow→Shared→Prop}{Er:Value→Shared→Prop}{c:String},
  cg env.scope.names st stmts=true→SOK prog w fns k h0 P Z A env s.heap σ vals fp→exs C st σ = .exc c→(∀ x s',Stp Z s s'→Lv A env s'.heap→Exc Z s'.heap c env.locals x→Er x s')→wpAny (model prog w) A (execs stmts env) Q Er s
end
end Mine
namespace Mine
set_option tactic.hygienic false
set_option linter.unusedVariables false
open PySem PyProof.Rows
set_option linter.unusedSectionVars false
variable [SF:Soft]
section
variable {prog:Program}{w:World}{fns:Fns}{k:Nat}{C:Calls}{XP:String→Shared→Value→Shared→Prop}
noncomputable def ro:Expr→Bool
  | .ListComp .. | .SetComp .. | .DictComp ..=>false
  | _=>true
theorem fH {v:Expr} (h:ro v=true) (t:Option Expr) (l:Nat) (env:Env):swapsWith v t l env=pure false:=by
  cases v <;> first | rfl | exact nF h
theorem jk {e:Expr}{gs:List Comprehension}{sc:Scope}{p:Pos}{t:Str}{q:Pos}{l:Nat}{env:Env}:swapsWith (.ListComp e gs sc p) (some (.Name t q)) l env=pure true∨swapsWith (.ListComp e gs sc p) (some (.Name t q)) l env=pure false:=by
  have e1:swapsWith (.ListComp e gs sc p) (some (.Name t q)) l env=pure (env.blockKind == .function && env.kindOf t == some .local && q.line == (Expr.ListComp e gs sc p).pos.line && !(sc.names.any fun (n,k)=>n == t && (k == .local || k == .cell))):=rfl
  rw [e1]
  generalize (env.blockKind == .function && env.kindOf t == some .local && q.line == (Expr.ListComp e gs sc p).pos.line && !(sc.names.any fun (n,k)=>n == t && (k == .local || k == .cell)))=b
  cases b
  · exact .inr rfl
  · exact .inl rfl
theorem ip {ns:List (Str × NameKind)}{e:E}{ex:Expr} (hp:hJ e=false) (h:okE ns e ex=true):ro ex=true:=by
  cases ex with
  | ListComp _ _ _ _=>
    cases e with
    | comp _ _ _=>exact nT hp
    | compif _ _ _ _=>exact nT hp
    | _=>exact Bool.noConfusion (show false=true from h)
  | _=>first | rfl | (cases e <;> exact Bool.noConfusion (show false=true from h))
theorem jK {x t:String}{px pt:Pos}{elt iter:Expr}{ifs:List Expr}{sc:Scope}{pos spos:Pos}{A:Around}{env:Env}{σ:St}{P:Addr→Prop}{s:Shared}{Q:Flow→Shared→Prop}{Er:Value→Shared→Prop}{h:Heap}
    (hsc:fK env.scope.names sc x=true) (X:Cx prog w fns k A P h env σ) (hset:∀ v,foldedSetIterable iter env v=pure v) (hsw:swapsWith (.ListComp elt [⟨.Name (Str.ofString x) px,iter,ifs,0⟩] sc pos) (some (.Name (Str.ofString t) pt)) spos.line env=pure true)
    (h:∀ cl:List (Str × Addr),(∀ n,(n,NameKind.free)∈sc.names→cl.lookup n=env.cells.lookup n)→wpAny (model prog w) A (eval iter env) (fun v s₁=>wpAny (model prog w) A (pyIter v) (fun i s₂=>wpAny (model prog w) A (newObj (.type "list") (.seq #[]) none) (fun acc s₃=>
      wpAny (model prog w) A (newFunctionEnv sc env.globals cl [] env.qual none .none (some env)) (fun cenv s₄=>
        codeAny (model prog w) A (.compStart (.ListComp elt [⟨.Name (Str.ofString x) px,iter,ifs,0⟩] sc pos) 0 i acc { cenv with scope:=relabel sc env }) (compPost (model prog w) A Er (some (assign (.Name (Str.ofString t) pt) env)) (fun uu s'=>Q .next s') acc cenv.locals) s₄) Er s₃) Er s₂) Er s₁) Er s) :
    wpAny (model prog w) A (exec (.Assign [.Name (Str.ofString t) pt] (.ListComp elt [⟨.Name (Str.ofString x) px,iter,ifs,0⟩] sc pos) spos) env) Q Er s:=by
  refine ck (gj hsc) fun hk hnd htg hnames=>?_
  obtain ⟨cl,hcl,hclk⟩:=jF (scope:=sc) (env:=env) (fun p hp e=>by
    rcases hnames p hp with h | h | h | h
    · rw [h.1] at e; cases e
    · rw [h] at e; cases e
    · rw [h.1] at e; cases e
    · exact X.eok.cells p.1 h.2)
  rw [exec_Assign_Name_used _ _ _ _ hsw]
  refine wpAny_bind (wpAny_standAt (wpAny_bind ?_))
  show wpAny _ A (do let _ ← comprehension (.ListComp elt [⟨.Name (Str.ofString x) px,iter,ifs,0⟩] sc pos) sc env _ (newList []) false (eval iter env) (some (assign (.Name (Str.ofString t) pt) env))) _ _ s
  exact wpAny_bind (wpAny_mono (wpAny_comprehension_free (use:=some (assign (.Name (Str.ofString t) pt) env)) (Q:=fun uu s'=>Q .next s') rfl hset hcl hk (fun y hy e=>by rw [← e]; exact gv hnd hy) (h cl hclk)) (fun uu s' hq=>wpAny_pure (wpAny_pure hq)) fun uu uu e=>e)
theorem mj {h0:Heap}{P Z:Addr→Prop}{A:Around}{env:Env}{σ:St}{vals:String→Option Value}{fp:String→List Addr}{s s₂:Shared}{Q:Flow→Shared→Prop}{Er:Value→Shared→Prop}{x:String}{px:Pos}{ns:List String}{d:PyData}{md:Mode}{v:Value}{h:Heap}{tk:Nat}{D:Addr}{m:Str→Option Value}
    (K:SOK prog w fns k h0 P Z A env s.heap σ vals fp) (hb:bv env.scope.names x=true) (E:EP prog w (Own σ fp ns) s (.d d,md) v { s₂ with heap:=h,toks:=tk }) (hm:h.Ns D m) (hD:s.heap.get? D=none)
    (hN:∀ s' vals' fp',Stp Z s s'→SOK prog w fns k h0 P Z A env s'.heap (upd (consume σ ns md) x (.d d,md)) vals' fp'→Frm Z [x] σ vals fp (upd (consume σ ns md) x (.d d,md)) vals' fp'→Q .next s') :
    compPost (model prog w) A Er (some (assign (.Name (Str.ofString x) px) env)) (fun uu s'=>Q .next s') v D (.ok .next) { s₂ with heap:=h,toks:=tk }:=by
  refine aB (bnd hb) fun h1 h2 h3=>?_
  show wpAny _ A (assign (.Name (Str.ofString x) px) env v) _ _ _
  refine wpAny_assign_Name (K.put_ep h1 h3 E fun s' as rv st kk K' F=>?_)
  have dL:D≠env.locals:=fun q=>by
    refine aa (K.loc.ns) fun m' E5 _=>?_
    refine ba (E5) fun o _ _ e _=>?_
    try clear E5
    rw [← q] at e
    rw [hD] at e; exact nN e
  have hmo:=hm
  refine aS (hmo) fun o es ep ho hd hr=>?_
  try clear hmo
  have ho':=kk D o dL (fun u q=>by rw [hd] at q; cases q) ho
  have hm':s'.heap.Ns D m:=(cu o es ep ho' hd hr)
  refine (ag m hm' (fun h' hs=>hN _ _ _ ?_ (K'.same hm' (fun hz=>?_) dL (fun y q hq hf=>?_) hs) F))
  · refine (E.keeps.stp.trans st).same hs (fun hz=>?_) fun o' e=>by rw [ho'] at e; (have oc:=Option.some.inj e; clear e; subst oc); exact Stay.not_dict hd
    refine ai (K.zdom D hz) fun o e=>?_
    rw [hD] at e; exact nN e
  · refine ai (K.zdom D hz) fun o e=>?_
    rw [hD] at e; exact nN e
  · split at hf
    · refine aY (rv.1.there D hf) fun uu uu e=>?_
      rw [ho] at e; (have oc:=Option.some.inj e; clear e; (clear ho ho'; subst oc)); cases hd
    · rename_i hy
      unfold upd at hq
      rw [if_neg hy] at hq
      have:∃ q',σ y=some q':=by
        unfold consume at hq
        split at hq
        · exact ⟨q,hq⟩
        · obtain ⟨q',hq',_⟩:=aP hq; exact ⟨q',hq'⟩
      refine ai (this) fun q' hq'=>?_
      try clear this
      refine ae (K.val y q' hq') fun uu Fv=>?_
      refine ao (Fv) fun u _ hr _=>?_
      try clear Fv
      refine ai (hr.there D hf) fun o e=>?_
      rw [hD] at e; exact nN e
theorem iP {x:String}{e:E} (S:SimE prog w fns k C XP e) (Sc:(∀ elt y it,e = .comp elt y it→dk prog w fns k C XP it∧SimE prog w fns k C XP elt)∧∀ elt y it c,e = .compif elt y it c→dk prog w fns k C XP it∧SimE prog w fns k C XP elt∧SimT prog w fns k C XP c):cU prog w fns k C (.assign x e):=by
  intro stmt h0 P Z A env σ vals fp s Q Er σ' fl ok K he hN hR
  replace ok:=ij ok
  revert ok; refine fun Fj=>Or.elim Fj (fun Fe=>?_) (fun ok=>?_)
  · clear Fj
    refine bP (Fe) fun t pt v spos FO ok=>?_
    clear Fe
    subst FO
    simp only [Bool.and_eq_true,beq_iff_eq] at ok
    refine ae (ok) fun E6 oe=>?_
    try clear ok
    refine ae (E6) fun E7 hb=>?_
    try clear E6
    subst E7
    refine aB (bnd hb) fun h1 h2 h3=>?_
    simp only [cb] at he
    refine aa (Out.bind_ok he) fun r hr he=>?_
    replace hr:=yN hr
    replace hN:=jm he hN
    clear he hR
    have plain:swapsWith v (some (.Name (Str.ofString x) pt)) spos.line env=pure false→wpAny (model prog w) A (exec (.Assign [.Name (Str.ofString x) pt] v spos) env) Q Er s:=fun hsw=>by
      refine wpAny_Assign_Name (K.eval S oe hr fun u s' E=>?_) hsw
      exact K.put_ep h1 h3 E fun s'' as rv st kk K' F=>hN s'' _ _ (E.keeps.stp.trans st) K' F
    cases hc:hJ e with
    | false=>exact plain (fH (ip hc oe) _ _ _)
    | true=>
      cases e with
      | comp elt y it=>
        refine ae (Sc.1 elt y it rfl) fun Si Se=>?_
        replace oe:=rx oe
        revert oe; refine fun Fk=>Or.elim Fk (fun Fg=>?_) (fun oe=>?_)
        · clear Fk
          refine o4 (Fg) fun ee ty py iter sc pos Gb oe=>?_
          clear Fg
          subst Gb
          rcases jk (e:=ee) (gs:=[⟨.Name ty py,iter,[],0⟩]) (sc:=sc) (p:=pos) (t:=Str.ofString x) (q:=pt) (l:=spos.line) (env:=env) with hsw | hsw
          · simp only [Bool.and_eq_true,beq_iff_eq] at oe
            revert oe; intro FL
            refine ae (FL) fun E8 oe=>?_
            try clear FL
            refine ae (E8) fun E9 oi=>?_
            try clear E8
            refine ae (E9) fun Fa hsc=>?_
            try clear E9
            (clear plain; subst Fa)
            have X:=K.cx (fv (.comp elt y it))
            have e1:ev C (.comp elt y it) (bV σ (fv (.comp elt y it))) = .ok r:=by rw [ax C _ _ σ (bC σ _)]; exact hr
            simp only [gJ] at e1
            refine aa (Out.bind_ok e1) fun q hq e1=>?_
            refine aa (Out.bind_ok e1) fun res hres e1=>?_
            (have oc:=Out.ok.inj e1; clear e1; (clear hr; subst oc))
            refine jK hsc X (j8 oi env) hsw fun cl hcl=>Si oi X (by rw [hq]; simp) (fun q' hq' i s₂ I=>?_) fun c hc=>by rw [hq] at hc; cases hc
            rw [hq] at hq'; (have oc:=Out.ok.inj hq'; clear hq'; subst oc)
            obtain ⟨res',hres'⟩:=dS (by rw [hres]; simp:(bh _ q.1).calm≠.bad)
            rw [hres'] at hres; (have oc:=Out.ok.inj hres; clear hres; subst oc)
            refine ew (RR:=fun acc C=>compPost (model prog w) A Er (some (assign (.Name (Str.ofString x) pt) env)) (fun uu s'=>Q .next s') acc C) (ds:=q.1) hsc X hres' (fun d r hf cenv s₃ P' Q₁ Q₂ Er' hNm X' g1 g2=>wpAny_tests_nil ?_) I (fun D C h tk m E hm hC=>mj K hb E hm hC fun s' vals' fp' st K' F=>hN s' vals' fp' st K' F) hcl
            rw [if_pos rfl]
            refine aa (Out.bind_ok hf) fun z hz e=>?_
            (have oc:=Out.ok.inj e; clear e; (clear g1 hf; subst oc))
            exact Se (hNm▸oe) X' (by rw [hz]; simp) (fun r hr v s' E=>g2 r (by rw [hz] at hr; (have oc:=Out.ok.inj hr; clear hr; (clear E; subst oc)); rfl) v s' E) fun c hc=>by rw [hz] at hc; cases hc
          · exact plain hsw
        · cases oe
      | compif elt y it c=>
        refine aB (Sc.2 elt y it c rfl) fun Si Se Sc'=>?_
        replace oe:=lZ oe
        revert oe; refine fun Fq=>Or.elim Fq (fun Fl=>?_) (fun oe=>?_)
        · clear Fq
          refine iv (Fl) fun ee ty py iter ff sc pos Hz oe=>?_
          clear Fl
          subst Hz
          rcases jk (e:=ee) (gs:=[⟨.Name ty py,iter,[ff],0⟩]) (sc:=sc) (p:=pos) (t:=Str.ofString x) (q:=pt) (l:=spos.line) (env:=env) with hsw | hsw
          · simp only [Bool.and_eq_true,beq_iff_eq] at oe
            revert oe; intro F7
            refine ae (F7) fun Fb oe=>?_
            try clear F7
            refine ae (Fb) fun Fc oc=>?_
            try clear Fb
            refine ae (Fc) fun Fd oi=>?_
            try clear Fc
            refine ae (Fd) fun Ff hsc=>?_
            try clear Fd
            (clear plain; subst Ff)
            have X:=K.cx (fv (.compif elt y it c))
            have e1:ev C (.compif elt y it c) (bV σ (fv (.compif elt y it c))) = .ok r:=by rw [ax C _ _ σ (bC σ _)]; exact hr
            simp only [eg] at e1
            refine aa (Out.bind_ok e1) fun q hq e1=>?_
            refine aa (Out.bind_ok e1) fun res hres e1=>?_
            (have oc:=Out.ok.inj e1; clear e1; (clear hr; subst oc))
            refine jK hsc X (j8 oi env) hsw fun cl hcl=>Si oi X (by rw [hq]; simp) (fun q' hq' i s₂ I=>?_) fun c hc=>by rw [hq] at hc; cases hc
            rw [hq] at hq'; (have oc:=Out.ok.inj hq'; clear hq'; subst oc)
            obtain ⟨res',hres'⟩:=dS (by rw [hres]; simp:(bh _ q.1).calm≠.bad)
            rw [hres'] at hres; (have oc:=Out.ok.inj hres; clear hres; subst oc)
            refine ew (RR:=fun acc C=>compPost (model prog w) A Er (some (assign (.Name (Str.ofString x) pt) env)) (fun uu s'=>Q .next s') acc C) (ds:=q.1) hsc X hres' (fun d r hf cenv s₃ P' Q₁ Q₂ Er' hNm X' g1 g2=>wpAny_tests_one ?_) I (fun D C h tk m E hm hC=>mj K hb E hm hC fun s' vals' fp' st K' F=>hN s' vals' fp' st K' F) hcl
            refine aa (Out.bind_ok hf) fun t ht hf=>?_
            refine aa (Out.bind_ok hf) fun b hb' hf=>?_
            refine Sc' (hNm▸oc) X' (by rw [ht,Out.ok_bind,hb']; simp) (fun b'' hb'' s₄ k₄=>?_) fun c hc=>by rw [ht] at hc; cases hc
            rw [ht,Out.ok_bind,hb'] at hb''
            (have oc:=Out.ok.inj hb''; clear hb''; subst oc)
            cases b with
            | false=>(have oc:=Out.ok.inj hf; clear hf; (clear g2; subst oc)); simpa using g1 rfl s₄ k₄
            | true=>
              rw [if_pos rfl] at hf ⊢
              refine aa (Out.bind_ok hf) fun z hz e=>?_
              (have oc:=Out.ok.inj e; clear e; (clear g1; subst oc))
              exact Se (hNm▸oe) (X'.k k₄.k) (by rw [hz]; simp) (fun r hr v s' E=>g2 r (by rw [hz] at hr; (have oc:=Out.ok.inj hr; clear hr; (clear E; subst oc)); rfl) v s' (E.after k₄)) fun c hc=>by rw [hz] at hc; cases hc
          · exact plain hsw
        · cases oe
      | _=>exact nF hc
  · cases ok
end
end Mine
namespace Mine
set_option tactic.hygienic false
set_option linter.unusedVariables false
open PySem PyProof.Rows
set_option linter.unusedSectionVars false
variable [SF:Soft]
section
variable {prog:Program}{w:World}{fns:Fns}{k:Nat}{C:Calls}{XP:String→Shared→Value→Shared→Prop}
variable {h0:Heap}{P Z:Addr→Prop}{A:Around}{env:Env}{σ:St}{vals:String→Option Value}{fp:String→List Addr}
theorem SOK.putl {s s₂:Shared}{h':Heap}{ns:List String}{x:String}{xs zs:List PyData}{mx m:Mode}{as:List Addr}{σ':St}{fl:Flw}{a:Addr}{vs vs':List Value}{n n':Nat}{bs bs':List Addr}
    (K:SOK prog w fns k h0 P Z A env s.heap σ vals fp) (kp:Kp s s₂) (ha:∀ b∈as,Own σ fp ns b∨s.heap.get? b=none) (hdp:m = .deep→(∀ b∈as,s.heap.get? b=none)∧as.Nodup)
    (hx:σ x=some (.d (.list xs),mx)) (hput:fG σ x ns mx zs m = .ok (σ',fl)) (hm:mx≠.sh)
    (hv:vals x=some (.ref a)) (ea:s.heap.get? a=some ⟨.type "list", none,.seq vs.toArray n,#[]⟩) (hfp:fp x=a :: bs) (hZ:¬ Z a) (hab:a∉bs) (hne:∀ y q,y≠x→σ y=some q→a∉fp y) (hP:∀ b∈a :: bs,b≠env.locals∧(P b∨h0.get? b=none))
    (hdx:mx = .deep→(∀ b∈bs,¬ Z b∧∀ y q,y≠x→σ y=some q→b∉fp y)∧bs.Nodup)
    (hs:Heap.SameBut a s₂.heap h') (ea':h'.get? a=some ⟨.type "list", none,.seq vs'.toArray n',#[]⟩) (rr:RA s₂.heap vs' zs bs') (hz:∀ z∈zs,sz z=true) (hbs:∀ b∈bs',b∈bs∨b∈as) (hnd:(bs ++ as).Nodup→bs'.Nodup) :
    fl = .next∧∃ fp',SOK prog w fns k h0 P Z A env h' σ' vals fp'∧Frm Z [x] σ vals fp σ' vals fp':=by
  have nz:∀ a,s.heap.get? a=none→¬ Z a:=fun a e hz=>by
    refine ai (K.zdom a hz) fun o e'=>?_
    rw [e] at e'; exact nN e'
  have nf:∀ a,s.heap.get? a=none→∀ y q,σ y=some q→a∉fp y:=fun a e y q hq hm=>by
    refine ae (K.val y q hq) fun uu Fv=>?_
    refine ao (Fv) fun u _ hr _=>?_
    try clear Fv
    refine ai (hr.there a hm) fun o e'=>?_
    rw [e] at e'; exact nN e'
  unfold fG at hput
  split at hput
  · rename_i hlen
    have ea₂:=kp.k.get ea rfl
    have main:∀ (hcase:m = .deep∨x∉ns),a∉as:=fun hcase hm=>by
      refine Or.elim (ha a hm) (fun Fe=>?_) (fun h1=>?_)
      · refine ay (Fe) fun z q hz hq hf=>?_
        clear Fe
        rcases hcase with hc | hc
        · have:=(hdp hc).1 a hm
          rw [ea] at this; exact nM this
        · exact hne z q (fun e=>hc (e▸hz)) hq hf
      · rw [ea] at h1; exact nM h1
    have rv':(hcase:m = .deep∨x∉ns)→RV prog w h' (.ref a) (.d (.list zs)) (a :: bs'):=fun hcase=>by
      refine ⟨.list ea' (rr.off (wr:=[a]) (fun b hb o e=>.inr ?_) fun b o hb e=>hs.extBut b o (fun q=>hb (by simp [q])) e),sz_list.mpr ⟨?_,hz⟩⟩
      · rw [List.mem_singleton.mp hb] at e ⊢
        rw [ea₂] at e; (have oc:=Option.some.inj e; clear e; subst oc)
        exact ⟨by simp,fun hm=>(hbs a hm).elim hab (main hcase)⟩
      · unfold lim at hlen; exact v6 hlen
    have pb:∀ b∈bs',b≠env.locals∧(P b∨h0.get? b=none):=fun b hb=>by
      rcases hbs b hb with h1 | h1
      · exact hP b (.tail _ h1)
      · rcases ha b h1 with h2 | h2
        · exact (K.own h2).2
        · refine ⟨fun q=>?_,.inr ?_⟩
          · refine aa (K.loc.ns) fun m' E5 _=>?_
            refine ba (E5) fun o _ _ e _=>?_
            try clear E5
            rw [← q] at e
            rw [h2] at e; exact nN e
          · cases e:h0.get? b with
            | none=>rfl
            | some o=>obtain ⟨_,e'⟩:=Mine.K.there K.kp0 e; rw [e'] at h2; exact nM h2
    have abs:(hcase:m = .deep∨x∉ns)→a∉bs':=fun hcase hm=>(hbs a hm).elim hab (main hcase)
    have org:∀ b∈a :: bs',Z b→∃ z q,σ z=some q∧b∈fp z:=fun b hb hz=>by
      rcases List.mem_cons.mp hb with rfl | hb
      · exact absurd hz hZ
      · rcases hbs b hb with hb | hb
        · exact (az x _ hx (by rw [hfp]; exact .tail _ hb))
        · refine Or.elim (ha b hb) (fun Fg=>?_) (fun h1=>?_)
          · refine ay (Fg) fun y q FK h1 h2=>?_
            clear Fg
            exact (az y q h1 h2)
          · exact absurd hz (nz b h1)
    split at hput
    · rename_i hmd
      cases hput
      refine (aG rfl (ag _ ?_ (.one (fun uu uu=>rfl) (fun z q h=>⟨q,h⟩) org)))
      refine ((K.onK kp.k).write hx hv ea₂ (by simp) Stay.not_list (fun uu q=>by cases q) hZ hne (hP a (.head _)) hs (rv' (.inl hmd)) pb (fun uu=>abs (.inl hmd)) (fun hdeep=>?_) fun y' q hy hq=>?_)
      · refine ae (hdx hdeep) fun g1 g2=>?_
        refine ae (hdp hmd) fun g3 g4=>?_
        refine ⟨fun b hb=>?_,List.nodup_cons.mpr ⟨abs (.inl hmd),hnd (List.nodup_append.mpr ⟨g2,g4,fun b hb c hc q=>?_⟩)⟩⟩
        · rcases hbs b hb with h1 | h1
          · exact g1 b h1
          · exact ⟨nz b (g3 b h1),fun y q _ hq=>nf b (g3 b h1) y q hq⟩
        · subst q
          exact nf b (g3 b hc) x _ hx (by rw [hfp]; exact .tail _ hb)
      · have g3:=(hdp hmd).1
        refine ⟨fun ht b cs e hm=>?_,fun hd b hb hm=>?_⟩
        · refine aZ (K.top y' q hq ht) fun b' cs' e' _ _ h4=>?_
          rw [e] at e'; cases e'
          rcases hbs b hm with h1 | h1
          · exact h4 x _ (Ne.symm hy) hx (by rw [hfp]; exact .tail _ h1)
          · exact nf b (g3 b h1) y' q hq (by rw [e]; exact .head _)
        · rcases hbs b hm with h1 | h1
          · exact ((K.deep y' q hq hd).1 b hb).2 x _ (Ne.symm hy) hx (by rw [hfp]; exact .tail _ h1)
          · exact nf b (g3 b h1) y' q hq hb
    · split at hput
      · exact nB hput
      · rename_i hmd hxn
        cases hput
        have hx':Mine.demote σ ns x=some (V.d (.list xs),mx):=by unfold Mine.demote; rw [if_neg hxn]; exact hx
        refine (aG rfl (ag _ ?_ (.one (fun uu uu=>rfl) (fun z q h=>aa (aP h) fun q' h' uu=>⟨q',h'⟩) org)))
        refine (((K.onK kp.k).demote ns).write hx' hv ea₂ (by simp) Stay.not_list (fun uu q=>by cases q) hZ (fun y' q hy hq=>?_) (hP a (.head _)) hs (rv' (.inr hxn)) pb (fun uu=>abs (.inr hxn)) (fun hdeep=>by cases hdeep) fun y' q hy hq=>?_)
        · refine aa (aP hq) fun q' hq' _=>?_
          exact hne y' q' hy hq'
        · refine ao (aP hq) fun q' hq' e1 hc=>?_
          rcases hc with ⟨_,rfl⟩ | ⟨hn,rfl⟩
          · refine ⟨fun h=>absurd h f8,fun h b hb=>?_⟩
            refine ae (K.val y' q' hq') fun uu FB=>?_
            refine ao (FB) fun u _ hr _=>?_
            try clear FB
            rw [hr.scal_nil (eA h)] at hb
            cases hb
          · refine ⟨fun ht b cs e hm=>?_,fun hd b hb hm=>?_⟩
            · refine aZ (K.top y' q hq' ht) fun b' cs' e' _ _ h4=>?_
              rw [e] at e'; cases e'
              rcases hbs b hm with h1 | h1
              · exact h4 x _ (Ne.symm hy) hx (by rw [hfp]; exact .tail _ h1)
              · refine Or.elim (ha b h1) (fun Fl=>?_) (fun h2=>?_)
                · refine ay (Fl) fun z p hz hp hf=>?_
                  clear Fl
                  exact h4 z p (fun q=>hn (q▸hz)) hp hf
                · exact nf b h2 y' q hq' (by rw [e]; exact .head _)
            · rcases hbs b hm with h1 | h1
              · exact ((K.deep y' q hq' hd).1 b hb).2 x _ (Ne.symm hy) hx (by rw [hfp]; exact .tail _ h1)
              · refine Or.elim (ha b h1) (fun Fo=>?_) (fun h2=>?_)
                · refine ay (Fo) fun z p hz hp hf=>?_
                  clear Fo
                  exact ((K.deep y' q hq' hd).1 b hb).2 z p (fun q=>hn (q▸hz)) hp hf
                · exact nf b h2 y' q hq' hb
  · exact nB hput
theorem pE {env:Env} (eok:EnvOk env):interactive env=false:=by unfold interactive; rw [eok.kind]; rfl
set_option tactic.hygienic true in
theorem nv {x:String}{e:E} (S:SimE prog w fns k C XP e):cU prog w fns k C (.append x e):=by
  intro stmt h0 P Z A env σ vals fp s Q Er σ' fl ok K he hN hR
  replace ok:=qL ok
  revert ok; refine fun Fu=>Or.elim Fu (fun Fs=>?_) (fun ok=>?_)
  · clear Fu
    refine iv (Fs) fun t pt mm ap v pos spos GC ok=>?_
    clear Fs
    subst GC
    simp only [Bool.and_eq_true,beq_iff_eq] at ok
    refine ae (ok) fun E6 oe=>?_
    try clear ok
    refine ae (E6) fun E7 hb=>?_
    try clear E6
    refine ae (E7) fun E8 E9=>?_
    try clear E7
    refine ae (E8) fun Fa hl=>?_
    try clear E8
    subst Fa
    subst E9
    refine aB (bnd hb) fun h1 h2 h3=>?_
    simp only [gz] at he
    refine aa (cC he) fun r hr he=>?_
    obtain ⟨ry,m⟩:=r
    dsimp only at he
    split at he
    · rename_i y vv mx hx0
      split at he
      rotate_left
      · exact nB he
      rename_i xs hxx
      cases fg hxx
      have hx:=hx0
      split at he
      · exact nB he
      · rename_i hmx
        refine mX (K.head hx hmx) fun a vs n bs hv ea ra hfp hz hZ hab hne hP hdx=>?_
        refine wpAny_Expr_any (wpAny_Call_append rfl (by rw [aF oe]; rfl) (by simpa using hl) (by rw [aF oe]; rfl) ?_) (pE K.eok)
        refine cI K.eok.kind h2 (K.loc.var K.eok hv) (aK a vs.toArray rfl (bp _ n ea rfl rfl rfl) (K.eval S oe hr fun u s₂ E=>?_))
        obtain ⟨kp,as,Fb,ha,ht,hd⟩:=E
        refine ae (Fb) fun ru zu=>?_
        try clear Fb
        have hlen:=ra.length
        have hzl:=(sz_list.mp hz)
        refine wpAny_list_append_plain (hsz:=by rw [List.size_toArray,hlen]; unfold sizeLine; exact pY hzl) ⟨n,kp.k.get ea rfl⟩ fun h' hp hs=>?_
        refine ai (hp) fun n' ep=>?_
        try clear hp
        have:=K.putl kp ha hd hx he hmx hv ea hfp hZ hab hne hP hdx hs (vs':=vs ++ [u]) (by simpa using ep) ((ra.k kp.k).append (.cons ru .nil)) (fun z hz'=>by
          rcases List.mem_append.mp hz' with h | h
          · exact hzl.2 z h
          · rw [List.mem_singleton.mp h]; exact zu) (fun b hb=>by
          rcases List.mem_append.mp hb with h | h
          · exact .inl h
          · exact .inr (by simpa using h)) (fun h=>by simpa using h)
        refine ae (this) fun hfl FJ=>?_
        try clear this
        refine aa (FJ) fun fp' K' F'=>?_
        try clear FJ
        exact hN hfl _ vals fp' (kp.stp.same hs hZ fun o e=>by rw [kp.k.get ea rfl] at e; (have oc:=Option.some.inj e; clear e; subst oc); exact Stay.not_list) K' F'
    · exact nB he
  · cases ok
theorem RA.split {h:Heap}{vs:List Value}{xs:List PyData}{bs:List Addr} (r:RA h vs xs bs) (i:Nat):∃ b1 b2,bs=b1 ++ b2∧RA h (vs.take i) (xs.take i) b1∧RA h (vs.drop i) (xs.drop i) b2 :=
  RA.ind (N:=fun vs xs bs=>∀ i,∃ b1 b2,bs=b1 ++ b2∧RA h (vs.take i) (xs.take i) b1∧RA h (vs.drop i) (xs.drop i) b2) (fun i=>(aK ([]) ([]) rfl (by rw [List.take_nil,List.take_nil]; exact RA.nil) (by rw [List.drop_nil,List.drop_nil]; exact RA.nil))) (fun {v vs d ds as bs} x r ih i=>by
    cases i with
    | zero=>exact (aK ([]) (as ++ bs) rfl RA.nil (RA.cons x r))
    | succ i=>
      refine ay (ih i) fun b1 b2 Fc q1 q2=>?_
      exact (aK (as ++ b1) b2 (by rw [List.append_assoc,Fc]) (RA.cons x q1) q2)) r i
theorem xZ (l:List Value) (k:Nat) (y:Value):(l.toArray.extract 0 k).push y ++ l.toArray.extract k=(l.take k ++ y :: l.drop k).toArray:=by
  apply Array.toList_inj.mp
  simp
  exact List.take_of_length_le (by simp)
set_option tactic.hygienic true in
theorem ny (hXP:∀ c s s₁ x s',Kp s s₁→XP c s₁ x s'→XP c s x s') {x:String}{i e:E} (Si:SimE prog w fns k C XP i) (S:SimE prog w fns k C XP e):cU prog w fns k C (.insert x i e):=by
  intro stmt h0 P Z A env σ vals fp s Q Er σ' fl ok K he hN hR
  replace ok:=qR ok
  revert ok; refine fun FF=>Or.elim FF (fun Fz=>?_) (fun ok=>?_)
  · clear FF
    refine yd (Fz) fun t pt mm ap vi v pos spos GW ok=>?_
    clear Fz
    subst GW
    simp only [Bool.and_eq_true,beq_iff_eq] at ok
    refine ae (ok) fun Fd oe=>?_
    try clear ok
    refine ae (Fd) fun Ff oi=>?_
    try clear Fd
    refine ae (Ff) fun Fi hb=>?_
    try clear Ff
    refine ae (Fi) fun Fh Fm=>?_
    try clear Fi
    refine ae (Fh) fun Fr hl=>?_
    try clear Fh
    subst Fr
    subst Fm
    refine aB (bnd hb) fun h1 h2 h3=>?_
    simp only [gD] at he
    refine aa (cC he) fun q hq he1=>?_
    clear he
    refine aa (cC he1) fun r hr he=>?_
    clear he1
    obtain ⟨ri,mi⟩:=q
    obtain ⟨ry,m⟩:=r
    dsimp only at he
    split at he
    · rename_i j y vv mx hx0
      split at he
      rotate_left
      · exact nB he
      rename_i xs hxx
      cases fg hxx
      have hx:=hx0
      split at he
      · exact nB he
      · rename_i hmx
        have hmx':mx≠.sh:=fun q=>hmx (.inl q)
        have hj0:0≤j:=by
          apply Int.not_lt.mp
          exact fun q=>hmx (.inr (.inl q))
        have hjl:j≤xs.length:=by
          apply Int.not_lt.mp
          exact fun q=>hmx (.inr (.inr q))
        refine mX (K.head hx hmx') fun a vs n bs hv ea ra hfp hz hZ hab hne hP hdx=>?_
        have hlen:=ra.length
        have hzl:=(sz_list.mp hz)
        refine wpAny_Expr_any (wpAny_Call_method (T := "list") (id := "list.insert") rfl (by rw [aF oi,aF oe]; rfl) (by simpa using hl) F.plainAttrs_list F.slot_list_insert F.type_list_insert ?_) (pE K.eok)
        refine cI K.eok.kind h2 (K.loc.var K.eok hv) ⟨(ag _ ea rfl),fun b hb=>?_,?_⟩
        · cases hb; exact (ag _ ea rfl)
        have fin:wpAny (model prog w) A (spliced (backTo pos (starEach [vi,v] env))) (fun ws s₁=>wpAny (model prog w) A (call (.builtin "list.insert") ([.ref a] ++ ws)) (fun uu=>Q .next) Er s₁) Er s:=by
          refine wpAny_items_cons ?_ (aF oi _ env)
          refine K.eval Si oi hq fun vj s₁ Ei=>?_
          refine fN _ oe ((K.onK Ei.keeps.k).eval S oe hr fun u s₂ E=>?_)
          obtain ⟨ki,is,Fp,_⟩:=Ei
          refine ae (Fp) fun rj _=>?_
          try clear Fp
          cases rj
          obtain ⟨kp,as,Ft,ha,ht,hd⟩:=E
          refine ae (Ft) fun ru zu=>?_
          try clear Ft
          have kk:=ki.trans kp
          refine call_meets F.slot_list_insert (ag _ (kk.k.get ea rfl) rfl) F.entry_list_insert (F.args_list_insert_3 _ _ _) (AutoSeq1.list_insert_list_int_val_1 a _ n j _ u ?_ ?_) ⟨kk.k.get ea rfl,?_⟩
          · have:Builtin.List.listFitsIndex j=true:=by
              unfold Builtin.List.listFitsIndex
              simp
              exact Cd hmx hzl
            simp [this]
          · rw [List.size_toArray,hlen]; unfold sizeLine; exact pY hzl
          · refine ay ((ra.k kk.k).split j.toNat) fun b1 b2 hb12 q1 q2=>?_
            have hup:=IsL.update (kk.k.get ea rfl) (fun xs:Array Value=>(xs.extract 0 (if j<0 then (j + ((xs.size:Nat):Int)).toNat else min j.toNat xs.size)).push u ++ xs.extract (if j<0 then (j + ((xs.size:Nat):Int)).toNat else min j.toNat xs.size))
            have hmin:(if j<0 then (j + ((vs.toArray.size:Nat):Int)).toNat else min j.toNat vs.toArray.size)=j.toNat:=by
              rw [if_neg (by exact Cb hmx),List.size_toArray,hlen]; exact Ag hmx
            obtain ⟨n',hup'⟩:∃ n',IsL (s₂.heap.update a (Obj.mapSeq fun xs:Array Value=>(xs.extract 0 (if j<0 then (j + ((xs.size:Nat):Int)).toNat else min j.toNat xs.size)).push u ++ xs.extract (if j<0 then (j + ((xs.size:Nat):Int)).toNat else min j.toNat xs.size))) a (vs.take j.toNat ++ u :: vs.drop j.toNat).toArray n':=by
              have:=hup
              rw [hmin,xZ] at this
              exact ⟨_,this⟩
            have:=K.putl kk (as:=as) (fun b hb=>(ha b hb).imp (fun h=>h) ki.none) (fun h=>⟨fun b hb=>ki.none ((hd h).1 b hb),(hd h).2⟩) hx he hmx' hv ea hfp hZ hab hne hP hdx (Heap.SameBut.update ..) hup' (q1.append (.cons ru q2)) (fun z hz'=>by
              rcases List.mem_append.mp hz' with h | h
              · exact hzl.2 z (List.mem_of_mem_take h)
              rcases List.mem_cons.mp h with rfl | h
              · exact zu
              · exact hzl.2 z (List.mem_of_mem_drop h)) (fun b hb=>by
              rw [hb12]
              rcases List.mem_append.mp hb with h | h
              · exact .inl (List.mem_append_left _ h)
              rcases List.mem_append.mp h with h | h
              · exact .inr h
              · exact .inl (List.mem_append_right _ h)) (fun h=>by
              rw [hb12] at h
              have p:(b1 ++ b2 ++ as).Perm (b1 ++ (as ++ b2)):=by
                rw [List.append_assoc]
                exact List.Perm.append_left b1 List.perm_append_comm
              exact p.nodup_iff.mp h)
            refine ae (this) fun hfl F1=>?_
            try clear this
            refine aa (F1) fun fp' K' F'=>?_
            try clear F1
            exact hN hfl _ vals fp' (kk.stp.same (Heap.SameBut.update ..) hZ fun o e=>by rw [kk.k.get ea rfl] at e; (have oc:=Option.some.inj e; clear e; subst oc); exact Stay.not_list) K' F'
        rw [aF oi] at fin ⊢
        exact Calls.callWith_builtin (by rw [aF oe]; rfl) (Calls.evalArgs_plain (wpAny_mono fin (fun vs s₁ h₁=>h₁) fun uu uu e=>e))
    · exact nB he
  · cases ok
end
end Mine
namespace Mine
set_option tactic.hygienic false
set_option linter.unusedVariables false
open PySem PyProof.Rows
set_option linter.unusedSectionVars false
variable [SF:Soft]
section
variable {prog:Program}{w:World}{fns:Fns}{k:Nat}{C:Calls}{XP:String→Shared→Value→Shared→Prop}
variable {h0:Heap}{P Z:Addr→Prop}{A:Around}{env:Env}{σ:St}{vals:String→Option Value}{fp:String→List Addr}
theorem RA.erase {h:Heap}{vs:List Value}{xs:List PyData}{bs:List Addr} (i:Nat) (r:RA h vs xs bs):∃ bs',RA h (vs.eraseIdx i) (xs.eraseIdx i) bs'∧∀ b∈bs',b∈bs :=
  RA.ind (N:=fun vs xs bs=>∀ i,∃ bs',RA h (vs.eraseIdx i) (xs.eraseIdx i) bs'∧∀ b∈bs',b∈bs) (fun uu=>(ag ([]) RA.nil (fun uu h=>(nomatch h)))) (fun x r ih i=>by
    cases i with
    | zero=>exact (ag _ r (fun b hb=>List.mem_append_right _ hb))
    | succ i=>
      refine aa (ih i) fun bs' q hs=>?_
      exact (ag _ (RA.cons x q) (fun b hb=>(List.mem_append.mp hb).elim (List.mem_append_left _) fun h=>List.mem_append_right _ (hs b h)))) r i
theorem tX (l:List Value) (i:Nat):l.toArray.eraseIdxIfInBounds i=(l.eraseIdx i).toArray:=by
  apply Array.toList_inj.mp
  unfold Array.eraseIdxIfInBounds
  split
  · simp
  · rename_i h
    simp at h
    simp [List.eraseIdx_of_length_le h]
set_option tactic.hygienic true in
theorem t8 {x:String}{i:E} (Si:SimE prog w fns k C XP i):cU prog w fns k C (.pop x i):=by
  intro stmt h0 P Z A env σ vals fp s Q Er σ' fl ok K he hN hR
  replace ok:=xW ok
  revert ok; refine fun Fj=>Or.elim Fj (fun Fe=>?_) (fun ok=>?_)
  · clear Fj
    refine iv (Fe) fun t pt mm ap vi pos spos Gg ok=>?_
    clear Fe
    subst Gg
    simp only [Bool.and_eq_true,beq_iff_eq] at ok
    refine ae (ok) fun E5 oi=>?_
    try clear ok
    refine ae (E5) fun E6 hb=>?_
    try clear E5
    refine ae (E6) fun E7 E8=>?_
    try clear E6
    refine ae (E7) fun E9 hl=>?_
    try clear E7
    subst E9
    subst E8
    refine aB (bnd hb) fun h1 h2 h3=>?_
    simp only [kj] at he
    refine aa (cC he) fun q hq he1=>?_
    clear he
    obtain ⟨ri,mi⟩:=q
    dsimp only at he1
    split at he1
    · rename_i j vv mx hx0
      split at he1
      rotate_left
      · exact nB he1
      rename_i xs hxx
      cases fg hxx
      have hx:=hx0
      split at he1
      · exact nB he1
      · rename_i hmx
        replace hN:=jm he1 hN
        clear he1 hR
        have hmx':mx≠.sh:=fun q=>hmx (.inl q)
        have hj0:0≤j:=Int.not_lt.mp fun q=>hmx (.inr (.inl q))
        have hjl:j<xs.length:=Int.not_le.mp fun q=>hmx (.inr (.inr q))
        refine mX (K.head hx hmx') fun a vs n bs hv ea ra hfp hz hZ hab hne hP hdx=>?_
        have hlen:=ra.length
        have hzl:=(sz_list.mp hz)
        refine wpAny_Expr_any (wpAny_Call_method (T := "list") (id := "list.pop") rfl (by rw [aF oi]; rfl) (by simpa using hl) F.plainAttrs_list F.slot_list_pop F.type_list_pop ?_) (pE K.eok)
        refine cI K.eok.kind h2 (K.loc.var K.eok hv) ⟨(ag _ ea rfl),fun b hb=>?_,?_⟩
        · cases hb; exact (ag _ ea rfl)
        have fin:wpAny (model prog w) A (spliced (backTo pos (starEach [vi] env))) (fun ws s₁=>wpAny (model prog w) A (call (.builtin "list.pop") ([.ref a] ++ ws)) (fun uu=>Q .next) Er s₁) Er s:=by
          refine fN _ oi (K.eval Si oi hq fun vj s₂ Ei=>?_)
          obtain ⟨kk,is,Fa,_⟩:=Ei
          refine ae (Fa) fun rj _=>?_
          try clear Fa
          cases rj
          have hlt:j.toNat<vs.length:=by exact Bd hmx hlen
          refine call_meets F.slot_list_pop (ag _ (kk.k.get ea rfl) rfl) F.entry_list_pop (F.args_list_pop_2 _ _) (PySem.MeetsSeq.list_pop_at a vs.toArray n j _ j.toNat vs[j.toNat] ?_ ?_ ?_ ?_) ⟨kk.k.get ea rfl,?_⟩
          · unfold Builtin.List.listFitsIndex
            simp
            exact AK hmx hzl
          · unfold seqIndex?
            rw [List.size_toArray,hlen]
            simp only [if_neg (Int.not_lt.mpr hj0)]
            simp [hj0,hjl]
          · simp [hlt]
          · rw [List.size_toArray,hlen]; unfold sizeLine; exact pY hzl
          · refine aa ((ra.k kk.k).erase j.toNat) fun bs' q1 q2=>?_
            obtain ⟨n',hup⟩:∃ n',IsL (s₂.heap.update a (Obj.mapSeq fun xs=>xs.eraseIdxIfInBounds j.toNat)) a (vs.eraseIdx j.toNat).toArray n':=by
              have:=IsL.update (kk.k.get ea rfl) (fun xs:Array Value=>xs.eraseIdxIfInBounds j.toNat)
              rw [tX] at this
              exact ⟨_,this⟩
            have hs:Heap.SameBut a s₂.heap (s₂.heap.update a (Obj.mapSeq fun xs=>xs.eraseIdxIfInBounds j.toNat)):=Heap.SameBut.update ..
            have hab':a∉bs':=fun h=>hab (q2 a h)
            have rv:RV prog w (s₂.heap.update a (Obj.mapSeq fun xs=>xs.eraseIdxIfInBounds j.toNat)) (.ref a) (.d (.list (xs.eraseIdx j.toNat))) (a :: bs'):=by
              refine ⟨.list hup (q1.off (wr:=[a]) (fun b hb o e=>.inr ?_) fun b o hb e=>hs.extBut b o (fun q=>hb (by simp [q])) e),sz_list.mpr ⟨Nat.le_trans (List.length_eraseIdx_le ..) hzl.1,fun z hz=>hzl.2 z (List.mem_of_mem_eraseIdx hz)⟩⟩
              rw [List.mem_singleton.mp hb] at e ⊢
              rw [kk.k.get ea rfl] at e; (have oc:=Option.some.inj e; clear e; subst oc)
              exact ⟨by simp,hab'⟩
            have K':=(K.onK kk.k).write (m':=.top) hx hv (kk.k.get ea rfl) (by simp) Stay.not_list (fun uu q=>by cases q) hZ hne (hP a (.head _)) hs rv (fun b hb=>hP b (.tail _ (q2 b hb))) (fun uu=>hab') (fun h=>by cases h) fun y' q hy hq=>⟨fun ht b cs e hm=>by
              refine aZ (K.top y' q hq ht) fun b' cs' e' _ _ h4=>?_
              rw [e] at e'; cases e'
              exact h4 x _ (Ne.symm hy) hx (by rw [hfp]; exact .tail _ (q2 b hm)),fun hd b hb hm=>((K.deep y' q hq hd).1 b hb).2 x _ (Ne.symm hy) hx (by rw [hfp]; exact .tail _ (q2 b hm))⟩
            exact hN _ vals _ (kk.stp.same hs hZ fun o e=>by rw [kk.k.get ea rfl] at e; (have oc:=Option.some.inj e; clear e; subst oc); exact Stay.not_list) K' (.one (fun uu uu=>rfl) (fun z q h=>⟨q,h⟩) fun b hb hz=>(List.mem_cons.mp hb).elim (fun q=>absurd hz (q▸hZ)) fun hb=>(az x _ hx (by rw [hfp]; exact .tail _ (q2 b hb))))
        rw [aF oi] at fin ⊢
        exact Calls.callWith_builtin rfl (Calls.evalArgs_plain (wpAny_mono fin (fun vs s₁ h₁=>h₁) fun uu uu e=>e))
    · exact nB he1
  · cases ok
theorem SOK.dict {x:String}{v:V}{h:Heap} (K:SOK prog w fns k h0 P Z A env h σ vals fp) (hx:σ x=some (v,.deep)) {a:Addr} (hfp:fp x=[a]) :
    ¬ Z a∧(∀ y q,y≠x→σ y=some q→a∉fp y)∧a≠env.locals∧(P a∨h0.get? a=none):=by
  refine ae (K.deep x _ hx rfl) fun h1 _=>?_
  refine ae (K.val x _ hx) fun uu Fw=>?_
  refine ao (Fw) fun u _ _ h2=>?_
  try clear Fw
  have hm:a∈fp x:=by rw [hfp]; exact .head _
  exact ⟨(h1 a hm).1,(h1 a hm).2,h2 a hm⟩
theorem nK (ks:List Int) (i:Int):stored (ks.map fun k=>(k,Value.bool true)) i (.bool true)=(if i∈ks then ks else ks ++ [i]).map fun k=>(k,.bool true):=by
  unfold stored
  by_cases hi:i∈ks
  · rw [if_pos (by simpa using hi),if_pos hi,List.map_map]
    apply List.map_congr_left
    intro a _
    simp only [Function.comp]
    split <;> rfl
  · rw [if_neg (by simpa using hi),if_neg hi,List.map_append]
    rfl
theorem lR {h h':Heap}{a a':Addr}{o:Obj}{es:Array DictEntry}{ep:Nat}{xs:List (List Int × Addr × Value)}{t:List Int}{v:Value} (ho:h.get? a=some o) (hd:o.data = .dict es ep) (hs:Heap.SameBut a h h') (r:R h (.ref a') (aL t) []) (hx:∀ x∈xs,R h (.ref x.2.1) (aL x.1) []):∀ x∈storedH xs t a' v,R h' (.ref x.2.1) (aL x.1) []:=by
  have off:∀ {v:Value}{d:PyData},R h v d []→R h' v d []:=fun r=>r.off (wr:=[a]) (fun b hb o' e=>.inl fun vs n q=>by rw [List.mem_singleton.mp hb,ho] at e; (have oc:=Option.some.inj e; clear e; subst oc); rw [hd] at q; cases q) fun b o hb e=>hs.extBut b o (fun q=>hb (by simp [q])) e
  intro x hm
  rcases mem_storedH hm with ⟨y,hy,e1,e2⟩ | ⟨e1,e2⟩
  · rw [e1,e2]; exact off (hx y hy)
  · rw [e1,e2]; exact off r
theorem hM (xs:List (List Int × Addr × Value)) (t:List Int) (a:Addr) (v:Value):(storedH xs t a v).map (·.1)=if t∈xs.map (·.1) then xs.map (·.1) else xs.map (·.1) ++ [t]:=by
  unfold storedH
  rw [iq]
  by_cases hi:t∈xs.map (·.1)
  · rw [if_pos (by simpa using hi),if_pos hi,List.map_map]
    apply List.map_congr_left
    intro y _
    simp only [Function.comp,putAt]
    split <;> rfl
  · rw [if_neg (by simpa using hi),if_neg hi,List.map_append]
    rfl
theorem jv:∀ {xs:List PyData}{ns:List Int},aN xs=some ns→ns.length=xs.length
  | [],ns,h=>by simp [aN] at h; subst h; rfl
  | y :: xs,ns,h=>by
    cases y <;> simp only [aN] at h <;> try (cases h)
    refine aa (Option.map_eq_some_iff.mp h) fun ms e Fb=>?_
    (clear h; subst Fb)
    rw [List.length_cons,List.length_cons,jv e]
theorem nj {x:PyData}{t:List Int} (h:dj x=some t) (z:sz x=true):t.length≤2 ^ 22:=by
  cases x <;> simp only [dj] at h <;> try (cases h)
  rw [jv h]
  exact (sz_tuple.mp z).1
set_option tactic.hygienic true in
theorem lN {x:String}{e:E} (S:SimE prog w fns k C XP e):cU prog w fns k C (.setitem x e):=by
  intro stmt h0 P Z A env σ vals fp s Q Er σ' fl ok K he hN hR
  replace ok:=qq ok
  revert ok; refine fun Fk=>Or.elim Fk (fun Fg=>?_) (fun ok=>?_)
  · clear Fk
    refine iv (Fg) fun t pt ix ps c1 c2 spos Ge ok=>?_
    clear Fg
    subst Ge
    simp only [Bool.and_eq_true,beq_iff_eq] at ok
    refine ae (ok) fun Fc oe=>?_
    try clear ok
    refine ae (Fc) fun Fd hb=>?_
    try clear Fc
    subst Fd
    refine aB (bnd hb) fun h1 h2 h3=>?_
    simp only [cf] at he
    refine aa (cC he) fun r hr he1=>?_
    clear he
    obtain ⟨ri,mi⟩:=r
    dsimp only at he1
    split at he1
    · rename_i kd v hx
      refine wpAny_Assign_Subscript (wpAny_Constant_bool ?_)
      refine ae (K.val x _ hx) fun uu FJ=>?_
      refine ao (FJ) fun u hv hrv _=>?_
      try clear FJ
      dsimp only at hrv
      refine cI K.eok.kind h2 (K.loc.var K.eok hv) (K.eval S oe hr fun vk s₂ E=>?_)
      obtain ⟨kk,is,Ff,_⟩:=E
      refine ae (Ff) fun rk zk=>?_
      try clear Ff
      have K₂:=K.onK kk.k
      have hrv₂:=hrv.k kk.k
      have fin:∀ {a:Addr}{o:Obj}{v':V}{h':Heap}{tk':Nat},u = .ref a→fp x=[a]→s₂.heap.get? a=some o→o.ExactDict→(∃ es ep,o.data = .dict es ep)→Heap.SameBut a s₂.heap h'→RV prog w h' (.ref a) v' [a]→(Out.ok (upd σ x (v',.deep),Flw.next):Out (St × Flw)) = .ok (σ',fl)→Q .next { s₂ with heap:=h',toks:=tk' }:=fun {a} {o} {v'} {h'} {tk'} hu hfp ho hox hdd hs rv he=>by
        (clear hrv hrv₂; subst hu)
        refine ck (K.dict hx hfp) fun d1 d2 d3 d4=>?_
        have hoc:o.cls≠.type "tuple" := fun q=>by
          rw [hox.1] at q; simp at q
        have hod:∀ v,o.data≠.cell v:=fun v q=>by
          refine aY (hdd) fun es ep e=>?_
          try clear hdd
          rw [e] at q; cases q
        have K':=K₂.write (m':=.deep) (bs':=[]) hx hv ho hoc (hdd.elim fun es hdd=>hdd.elim fun ep hdd=>Stay.not_dict hdd) hod d1 d2 ⟨d3,d4⟩ hs rv (fun uu h=>(nomatch h)) (fun uu h=>(nomatch h)) (fun uu=>⟨fun uu h=>(nomatch h),by simp⟩) fun y q hy hq=>⟨fun uu uu uu uu h=>(nomatch h),fun uu uu uu h=>(nomatch h)⟩
        exact jm he hN _ vals _ (kk.stp.same hs d1 fun o' e=>by rw [ho] at e; (have oc:=Option.some.inj e; clear e; subst oc); exact hdd.elim fun es hdd=>hdd.elim fun ep hdd=>Stay.not_dict hdd) K' (.one (fun uu uu=>rfl) (fun z q h=>⟨q,h⟩) fun b hb hz=>absurd hz (List.mem_singleton.mp hb▸d1))
      cases v with
      | dic0=>
        refine iC (hrv₂) fun a Fi hfp hsm hdI hdT=>?_
        try clear hrv₂
        (clear hrv hv; subst Fi)
        simp only [eU] at he1
        split at he1
        · rename_i i hi
          (have oc:=cy hi; (clear hr zk; subst oc))
          refine aa (R.isInt rk) fun ti oqi _=>?_
          (clear rk; subst oqi)
          have hd':=hdI
          refine dO (hd') fun o es ep ho hox hdd _=>?_
          try clear hd'
          refine wpAny_setItem_pairs (intKind_is prog w _ _) hdI (fun h' hm' hs=>fin (v':=.dicI [_]) rfl hfp ho hox (bn _ _ hdd) hs (a7 a rfl rfl hsm ?_) he1) (by simp [sizeLine])
          simpa [stored] using hm'
        · split at he1
          · rename_i t ht
            refine aa (dT (prog:=prog) (w:=w) rk ht) fun a' Fh hk=>?_
            subst Fh
            have hd':=hdT
            refine dO (hd') fun o es ep ho hox hdd _=>?_
            try clear hd'
            refine wpAny_setItem_heap (tupleKind_room_in1 (by exact rm1 K.room.2.2)) hk hdT (fun h' hm' hs=>fin (v':=.dicT [_]) rfl hfp ho hox (bn _ _ hdd) hs (fe a _ rfl rfl hsm hm' ?_ ?_ ?_) he1) (by simp [sizeLine])
            · rw [hM]; simp
            · intro z hz
              rw [List.mem_singleton.mp hz]
              exact nj ht zk
            · exact lR ho hdd hs (nQ rk ht) fun x hx=>nomatch hx
          · exact nB he1
      | dicI ks=>
        refine bG (hrv₂) fun a Fm hfp hsm hdI=>?_
        try clear hrv₂
        (clear hrv hv; subst Fm)
        simp only [eU] at he1
        split at he1
        · rename_i i hi
          split at he1
          · rename_i hlen
            (have oc:=cy hi; (clear hr zk; subst oc))
            refine aa (R.isInt rk) fun ti oqi _=>?_
            (clear rk; subst oqi)
            have hd':=hdI
            refine dO (hd') fun o es ep ho hox hdd _=>?_
            try clear hd'
            refine wpAny_setItem_pairs (intKind_is prog w _ _) hdI (fun h' hm' hs=>fin (v':=.dicI _) rfl hfp ho hox (bn _ _ hdd) hs (a7 a rfl rfl hsm ?_) he1) (by rw [List.length_map]; unfold lim at hlen; unfold sizeLine; exact v0 hlen)
            rw [nK] at hm'
            exact hm'
          · exact nB he1
        · exact nB he1
      | dicT ks=>
        refine pL (hrv₂) fun a xs Fr hfp hsm hdT Fp hks htu=>?_
        try clear hrv₂
        (clear hrv hv; subst Fr)
        subst Fp
        simp only [eU] at he1
        split at he1
        · rename_i t ht
          split at he1
          · rename_i hlen
            refine aa (dT (prog:=prog) (w:=w) rk ht) fun a' Ft hk=>?_
            subst Ft
            have hd':=hdT
            refine dO (hd') fun o es ep ho hox hdd _=>?_
            try clear hd'
            refine wpAny_setItem_heap (tupleKind_room_in1 (by exact rm1 K.room.2.2)) hk hdT (fun h' hm' hs=>fin (v':=.dicT _) rfl hfp ho hox (bn _ _ hdd) hs (fe a _ rfl rfl hsm hm' ?_ ?_ ?_) he1) (by rw [List.length_map] at hlen; unfold lim at hlen; unfold sizeLine; exact v0 hlen)
            · rw [hM]
            · intro z hz
              split at hz
              · exact hks z hz
              · rcases List.mem_append.mp hz with h | h
                · exact hks z h
                · rw [List.mem_singleton.mp h]; exact nj ht zk
            · exact lR ho hdd hs (nQ rk ht) htu
          · exact nB he1
        · exact nB he1
      | _=>simp only [eU] at he1; exact nB he1
    · exact nB he1
  · cases ok
end
end Mine
namespace Mine
set_option tactic.hygienic false
set_option linter.unusedVariables false
open PySem PyProof.Rows
set_option linter.unusedSectionVars false
variable [SF:Soft]
section
variable {prog:Program}{w:World}{fns:Fns}{k:Nat}{C:Calls}
variable {h0:Heap}{P Z:Addr→Prop}{A:Around}{env:Env}{σ:St}{vals:String→Option Value}{fp:String→List Addr}{s:Shared}
theorem SOK.lv (hf:fns.hand=false) {h:Heap} (K:SOK prog w fns k h0 P Z A env h σ vals fp):Lv A env h:=by
  refine bG (K.out hf) fun l h1 h2 h3 h4=>?_
  refine (aA l h1 (fun env' he'=>?_) h3)
  rcases List.mem_cons.mp he' with rfl | he'
  · refine aa (K.loc.ns) fun m E5 _=>?_
    refine aS (E5) fun o es ep e hd _=>?_
    try clear E5
    refine aa (K.loc.cls) fun o' e' hc=>?_
    rw [e] at e'; (have oc:=Option.some.inj e'; clear e'; subst oc)
    exact (aG K.eok.kind (iK _ o es ep h3 h4 e hc hd))
  · exact h2.k K.kp0 env' he'
theorem SOK.zd {h:Heap} (K:SOK prog w fns k h0 P Z A env h σ vals fp) (b:Addr) (hb:Z b):dom h b:=K.zdom b hb
theorem SOK.evalX (hf:fns.hand=false) {e:E}{exx:Expr}{c:String}{Q:Value→Shared→Prop}{Er:Value→Shared→Prop} (K:SOK prog w fns k h0 P Z A env s.heap σ vals fp) (S:SimE prog w fns k C XPc e) (ok:okE env.scope.names e exx=true) (he:ev C e σ = .exc c)
    (hE:∀ x s',Stp Z s s'→Lv A env s'.heap→Exc Z s'.heap c env.locals x→Er x s'):wpAny (model prog w) A (PySem.eval exx env) Q Er s:=by
  have e1:ev C e (bV σ (fv e)) = .exc c:=by rw [ax C e _ σ (bC σ (fv e))]; exact he
  refine S ok (K.cx (fv e)) (by rw [e1]; simp) (fun r hr=>by rw [e1] at hr; cases hr) fun c' hc x s' X=>?_
  rw [e1] at hc; cases hc
  exact hE x s' X.1.stp ((K.onK X.1.k).lv hf) (Fly.exc (X.2.old K.zd))
theorem SOK.evalTX (hf:fns.hand=false) {e:E}{exx:Expr}{c:String}{Q:Bool→Shared→Prop}{Er:Value→Shared→Prop} (K:SOK prog w fns k h0 P Z A env s.heap σ vals fp) (S:SimT prog w fns k C XPc e) (ok:okE env.scope.names e exx=true) (he:ev C e σ = .exc c)
    (hE:∀ x s',Stp Z s s'→Lv A env s'.heap→Exc Z s'.heap c env.locals x→Er x s'):wpAny (model prog w) A (isTrue exx env (PySem.eval exx env)) Q Er s:=by
  have e1:ev C e (bV σ (fv e)) = .exc c:=by rw [ax C e _ σ (bC σ (fv e))]; exact he
  refine S ok (K.cx (fv e)) (by rw [e1]; simp) (fun r hr=>by rw [e1] at hr; cases hr) fun c' hc x s' X=>?_
  rw [e1] at hc; cases hc
  exact hE x s' X.1.stp ((K.onK X.1.k).lv hf) (Fly.exc (X.2.old K.zd))
theorem sR {v:V}:NE (au v):=fun c h=>by
  unfold au at h
  split at h <;> cases h
theorem sA (hf:fns.hand=false) {e:E} (S:SimE prog w fns k C XPc e):cS prog w fns k C (.ret e):=by
  intro stmt h0 P Z A env σ vals fp s Q Er c ok K he hE
  replace ok:=rp ok
  revert ok; refine fun Fj=>Or.elim Fj (fun Fe=>?_) (fun ok=>?_)
  · clear Fj
    refine av (Fe) fun FK FR Gh ok=>?_
    clear Fe
    subst Gh
    simp only [eF] at he
    rcases bq he with he | ⟨_,_,he⟩
    · exact wpAny_Return_some (K.evalX hf S ok he hE)
    · cases he
  · cases ok
theorem rW (hf:fns.hand=false) {e:E} (S:SimE prog w fns k C XPc e):cS prog w fns k C (.expr e):=by
  intro stmt h0 P Z A env σ vals fp s Q Er c ok K he hE
  replace ok:=ky ok
  revert ok; refine fun Fk=>Or.elim Fk (fun Fg=>?_) (fun ok=>?_)
  · clear Fk
    refine gu (Fg) fun FX Go FT F5 F0 GC ok=>?_
    clear Fg
    subst GC
    simp only [dB] at he
    have hi:interactive env=false:=by unfold interactive; rw [K.eok.kind]; rfl
    rcases bq he with he | ⟨_,_,he⟩
    · exact wpAny_Expr_any (K.evalX hf S ok he hE) hi
    · cases he
  · cases ok
theorem nq (hf:fns.hand=false) {x:String}{e:E} (S:SimE prog w fns k C XPc e):cS prog w fns k C (.assign x e):=by
  intro stmt h0 P Z A env σ vals fp s Q Er c ok K he hE
  replace ok:=ij ok
  revert ok; refine fun Fq=>Or.elim Fq (fun Fl=>?_) (fun ok=>?_)
  · clear Fq
    refine bP (Fl) fun FY GI GL GB Gc ok=>?_
    clear Fl
    subst Gc
    simp only [Bool.and_eq_true,beq_iff_eq] at ok
    refine ae (ok) fun E6 oe=>?_
    try clear ok
    refine ae (E6) fun E7 hb=>?_
    try clear E6
    subst E7
    simp only [cb] at he
    rcases bq he with he | ⟨_,_,he⟩
    · refine ae (oG he) fun he hc=>?_
      exact wpAny_Assign_Name (K.evalX hf S oe he hE) (fH (ip hc oe) _ _ _)
    · cases he
  · cases ok
theorem sF (hf:fns.hand=false) {c:E}{a b:Ss} (T:SimT prog w fns k C XPc c) (Xa:dN prog w fns k C a) (Xb:dN prog w fns k C b):cS prog w fns k C (.ite c a b):=by
  intro stmt h0 P Z A env σ vals fp s Q Er c' ok K he hE
  replace ok:=rQ ok
  revert ok; refine fun Fx=>Or.elim Fx (fun Fo=>?_) (fun ok=>?_)
  · clear Fx
    refine bP (Fo) fun GX G0 G7 HA Hy ok=>?_
    clear Fo
    subst Hy
    simp only [Bool.and_eq_true] at ok
    simp only [gh] at he
    rcases bq he with he | ⟨r,hr,he⟩
    · exact wpAny_If (K.evalTX hf T ok.1.1 he hE)
    · rcases bq he with he | ⟨t,ht,he⟩
      · exact absurd he (sR c')
      · refine wpAny_If (K.evalT T ok.1.1 (b:=t) (by rw [hr]; exact ht) fun s₁ kp=>?_)
        have K₁:=K.onK kp.k
        cases t with
        | true=>
          rw [if_pos rfl] at he ⊢
          exact Xa ok.1.2 K₁ he fun x s' st=>hE x s' (kp.stp.trans st)
        | false=>
          simp only [Bool.false_eq_true,if_false] at he ⊢
          exact Xb ok.2 K₁ he fun x s' st=>hE x s' (kp.stp.trans st)
  · cases ok
theorem pj {st:S}{r:Ss} (S:cU prog w fns k C st) (X:cS prog w fns k C st) (Xr:dN prog w fns k C r):dN prog w fns k C (.cons st r):=by
  intro stmts h0 P Z A env σ vals fp s Q Er c ok K he hE
  replace ok:=nS ok
  revert ok; refine fun Fu=>Or.elim Fu (fun Fs=>?_) (fun ok=>?_)
  · clear Fu
    refine av (Fs) fun G3 Hc GY ok=>?_
    clear Fs
    subst GY
    simp only [Bool.and_eq_true] at ok
    simp only [bS] at he
    rcases bq he with he | ⟨⟨σ₁,fl₁⟩,h1,he⟩
    · exact wpAny_execs_cons (X ok.1 K he hE)
    · dsimp only at he
      cases fl₁ with
      | ret v=>cases he
      | next=>
        refine wpAny_execs_cons (S ok.1 K h1 (fun uu s' vals' fp' st K' F=>?_) fun q e=>by cases e)
        exact Xr ok.2 K' he fun x s'' st'=>hE x s'' (st.trans st')
  · cases ok
theorem q0:dN prog w fns k C .nil:=by
  intro stmts h0 P Z A env σ vals fp s Q Er c ok K he hE
  simp only [cE] at he
  cases he
theorem pS (hf:fns.hand=false) (hC:b6 prog w fns k C XPc) {c:String}:cS prog w fns k C (.raise c):=by
  intro stmt h0 P Z A env σ vals fp s Q Er c' ok K he hE
  replace ok:=ud ok
  revert ok; refine fun FF=>Or.elim FF (fun Fz=>?_) (fun ok=>?_)
  · clear FF
    refine iv (Fz) fun HB np t kk p2 cp pos HH ok=>?_
    clear Fz
    subst HH
    simp only [Bool.and_eq_true,beq_iff_eq,decide_eq_true_eq] at ok
    refine ae (ok) fun E8 hl=>?_
    try clear ok
    refine ae (E8) fun E9 hd=>?_
    try clear E8
    refine ae (E9) fun Fa hg=>?_
    try clear E9
    subst Fa
    simp only [fc] at he
    cases hc:C c with
    | none=>rw [hc] at he; cases he
    | some g=>
      rw [hc] at he
      simp only [aC] at he
      split at he
      · rename_i hn
        cases he
        have hN:=(hC c g hc).2.2.1 hn
        have ge:=K.ge.k K.kp0
        refine ao (ge.exc) fun mg g1 g2 _=>?_
        obtain ⟨gm,N,nm,q,bs,hdct,sn,sub,ab,col,dd,k0,k1,k2,k3,k5,mN,e1,e2,e3,e4⟩:=g2 c hN
        refine wpAny_Raise_call_subT (C:=SF.exc c) (nm:=nm) (q:=q) (N:=N) (bs:=bs) (bm:=dG c) (hdct:=hdct) (sn:=sn) (sub:=sub) (ab:=ab) (col:=col) (dd:=dd) (k0:=k0) (k1:=k1) (k2:=k2) (k3:=k3) (k5:=k5)
          PySem.F.excBase_ValueError (mN:=mN) (e4.hasType PySem.F.excBase_ValueError.hasBase) (K.room.1 hf) rfl e3 (Calls.Name_function_global K.eok.kind (eT hg) (Calls.loadGlobal_global (K.eok.glob▸g1) gm ⟨rfl,?_⟩) (nd hd))
        refine Calls.evalArgs_plain (wpAny_items_cons (wpAny_Constant_str (wpAny_items_nil (ei rfl (by show 1≤sizeLine; rw [sizeLine_eq]; exact BG) e1 e2 e4 (fun h' e Mk=>?_)))) rfl)
        refine ao (Mk.there) fun tt m1 m2 m3=>?_
        have kp:Kp s { s with heap:=h',toks:=s.toks + 1 }:=.of Mk.keeps
        refine hE _ _ kp.stp ((K.onK kp.k).lv hf) (aK e _ rfl (bJ (fun q=>(by obtain ⟨o,eo⟩:=K.zdom e q; rw [Mk.new] at eo; cases eo)) hN (aA _ m1 rfl rfl)) (.inl rfl))
      · cases he
  · cases ok
theorem br {α β:Type}{o:Out α}{f:α→Out β}{c:String} (h:o.calm.bind f = .exc c):∃ a,f a = .exc c:=by
  cases o with
  | ok a=>exact ⟨a,h⟩
  | exc c=>cases h
  | bad=>cases h
theorem b8 {α β:Type}{o:Option α}{f:α→Out β}{c:String} (h:aC o f = .exc c):∃ a,f a = .exc c:=by
  cases o with
  | some a=>exact ⟨a,h⟩
  | none=>cases h
theorem w6 {σ:St}{x:String}{v:V}{k:PyData}{c:String} (h:eU σ x v k = .exc c):False:=by
  unfold eU at h
  repeat' (split at h)
  all_goals cases h
theorem n6 {σ:St}{x:String}{ns:List String}{mx m:Mode}{xs:List PyData}{c:String} (h:fG σ x ns mx xs m = .exc c):False:=by
  unfold fG at h
  repeat' (split at h)
  all_goals cases h
theorem dI {st:S} (h:∀ σ c,ex C st σ≠.exc c):cS prog w fns k C st:=by
  intro stmt h0 P Z A env σ vals fp s Q Er c ok K he hE
  exact absurd he (h σ c)
theorem me {x:String}{e:E}:cS prog w fns k C (.setitem x e):=dI fun σ c h=>by
  simp only [cf] at h
  refine ai (br h) fun r h=>?_
  split at h
  · exact w6 h
  · cases h
theorem nG {x:String}{e:E}:cS prog w fns k C (.append x e):=dI fun σ c h=>by
  simp only [gz] at h
  refine ai (br h) fun r h=>?_
  split at h
  · split at h
    · split at h
      · cases h
      · exact n6 h
    · cases h
  · cases h
theorem nC {x:String}{i e:E}:cS prog w fns k C (.insert x i e):=dI fun σ c h=>by
  simp only [gD] at h
  refine ai (br h) fun q h=>?_
  refine ai (br h) fun r h=>?_
  split at h
  · split at h
    · split at h
      · cases h
      · exact n6 h
    · cases h
  · cases h
theorem ut {x:String}{i:E}:cS prog w fns k C (.pop x i):=dI fun σ c h=>by
  simp only [kj] at h
  refine ai (br h) fun q h=>?_
  split at h
  · split at h
    · split at h <;> cases h
    · cases h
  · cases h
theorem qJ {x:String}:cS prog w fns k C (.retn x):=dI fun σ c h=>by
  simp only [jb] at h
  split at h <;> cases h
theorem sD:cS prog w fns k C .bad:=dI fun σ c h=>by simp only [wG] at h; cases h
end
end Mine
namespace Mine
set_option tactic.hygienic false
set_option linter.unusedVariables false
open PySem PyProof.Rows
set_option linter.unusedSectionVars false
variable [SF:Soft]
section
variable {M:Model}{A:Around}{E:Value→Shared→Prop}{g:Array GenState}{dr:Drawn}{tk:Nat}{os:OsState}
theorem nu {h:Heap}{C D N N':Addr}{nm nm' q q':Str}{bs bs' bm bm':List Value}{hdct hdct':Bool}{sn sn':List Str}{sub sub':List Value}{ab ab':Bool}{col col':Option Bool}{dd dd':Option Addr}{k0 k1 k2 k3 k5 j0 j1 j2 j3 j5:Option Value}{ni ni':String}{e:Addr}{oe:Obj}{Q:Bool→Shared→Prop}
    (hC:h.get? C=some (excClassObj nm q C N bs bm hdct sn sub ab col dd k0 k1 k2 k3 k5 ni)) (hD:h.get? D=some (excClassObj nm' q' D N' bs' bm' hdct' sn' sub' ab' col' dd' j0 j1 j2 j3 j5 ni')) (he:h.get? e=some oe) (hcls:oe.cls = .ref C) (hbase:bm'.contains (.type "BaseException")=true)
    (hq:Q ((Value.ref C :: bm).contains (.ref D)) ⟨h,g,dr,tk,os⟩):wpAny M A (excMatches (.ref e) (.ref D)) Q E ⟨h,g,dr,tk,os⟩:=by
  have hcB:(Value.ref D :: bm').contains (.type "BaseException")=true:=by rw [List.contains_cons,hbase,Bool.or_true]
  have f:=tc_notTuple
  unfold excMatches
  repeat (first | (with_reducible refine wpAny_loadPart_at he ?_; rw [hcls]) | with_reducible refine wpAny_loadPart_at hD ?_ | (with_reducible refine wpAny_isSubtype_exc hD ?_; rw [hcB]) | with_reducible refine wpAny_isSubtype_exc hC ?_ | wp_step)
  cases hb:(Value.ref C :: bm).contains (.ref D) <;> (rw [hb] at hq; wp_walk; exact hq)
end
section
variable {prog:Program}{w:World}{fns:Fns}{k:Nat}{C:Calls}
variable {h0:Heap}{P Z:Addr→Prop}{A:Around}{env:Env}{σ:St}{vals:String→Option Value}{fp:String→List Addr}{s:Shared}
theorem SOK.hand (hf:fns.hand=false) {h:Heap} (K:SOK prog w fns k h0 P Z A env h σ vals fp) (v:Value):SOK prog w { fns with hand:=true } k h0 P Z (A.mark (some v)) env h σ vals fp where
  room:=by
    refine ae (K.room.at hf) fun h1 h2=>?_
    refine ⟨(fun q=>by cases q),?_,?_⟩
    · show A.depth + 2 * k + 1<_; exact AX h1
    · show A.units + 100 * k + 200<_; exact C5 h2
  eok:=K.eok
  ge:=K.ge.flag _ _
  z0:=K.z0
  kp0:=K.kp0
  code:=K.code
  out:=fun q=>by exact nT q
  zdom:=K.zdom
  loc:=K.loc
  val:=K.val
  top:=K.top
  deep:=K.deep
theorem SOK.back {h h₁:Heap}{σ₁:St}{vals₁:String→Option Value}{fp₁:String→List Addr}{v:Value} (K:SOK prog w { fns with hand:=true } k h0 P Z (A.mark (some v)) env h σ vals fp) (K₀:SOK prog w fns k h0 P Z A env h₁ σ₁ vals₁ fp₁):SOK prog w fns k h0 P Z A env h σ vals fp where
  room:=K₀.room
  eok:=K.eok
  ge:=K₀.ge
  z0:=K.z0
  kp0:=K.kp0
  code:=K.code
  out:=K₀.out
  zdom:=K.zdom
  loc:=K.loc
  val:=K.val
  top:=K.top
  deep:=K.deep
theorem calm_bind_ok' {α β:Type}{o:Out α}{f:α→Out β}{b:β} (h:o.calm.bind f = .ok b):∃ a,o = .ok a∧f a = .ok b:=by
  cases o with
  | ok a=>exact (ag a rfl h)
  | exc c=>exact nB h
  | bad=>exact nB h
theorem v4:∀ (b:List H1) {stmts:List Stmt}{h0:Heap}{P Z:Addr→Prop}{A:Around}{env:Env}{σ:St}{vals:String→Option Value}{fp:String→List Addr}{s:Shared}{Q:Flow→Shared→Prop}{Er:Value→Shared→Prop}{σ':St}{fl:Flw},
    uG env.scope.names b stmts=true→SOK prog w fns k h0 P Z A env s.heap σ vals fp→exH b σ = .ok (σ',fl) →
    (fl = .next→∀ s' vals' fp',Stp Z s s'→SOK prog w fns k h0 P Z A env s'.heap σ' vals' fp'→Frm Z (uJ b) σ vals fp σ' vals' fp'→Q .next s')→(∀ r,fl = .ret r→∀ v s',Stp Z s s'→kB prog w h0 P r v s'→Q (.ret v) s') →
    wpAny (model prog w) A (execs stmts env) Q Er s
  | [],stmts,h0,P,Z,A,env,σ,vals,fp,s,Q,Er,σ',fl,ok,K,he,hN,hR=>by
    refine ai (Option.isSome_iff_exists.mp (show (c0 stmts).isSome=true from ok)) fun uu e=>?_
    rw [bE e]
    cases he
    exact wpAny_execs_nil (hN rfl s vals fp (.refl Z s) K (.id fun z q h=>⟨q,h⟩))
  | .asg x e :: r,stmts,h0,P,Z,A,env,σ,vals,fp,s,Q,Er,σ',fl,ok,K,he,hN,hR=>by
    refine aa (ah ok) fun q e1 ok=>?_
    refine ae (Bool.and_eq_true_iff.mp ok) fun o1 o2=>?_
    rw [b7 e1]
    unfold exH at he
    split at he
    · rename_i hh
      refine aa (calm_bind_ok' he) fun v hv he=>?_
      have S:SimE prog w fns k noC XPc e:=(c6 bk e hh).e
      refine wpAny_execs_cons (iP (x:=x) S ⟨fun uu uu uu q=>(by (clear S hN he hv o1 ok; subst q); cases hh),fun uu uu uu uu q=>(by (clear S hN he hv o1 ok; subst q); cases hh)⟩ (show okS env.scope.names (.assign x e) q.1=true from o1) K (σ':=upd (consume σ (fv e) v.2) x v) (fl:=.next) (by simp only [cb]; rw [jR hv]; rfl) (fun uu s₁ vals₁ fp₁ st₁ K₁ F₁=>?_) fun r q=>by cases q)
      exact v4 r o2 K₁ he (fun e s' vals' fp' st K' F=>hN e s' vals' fp' (st₁.trans st) K' (F₁.trans F)) fun r e v s' st=>hR r e v s' (st₁.trans st)
    · exact nB he
  | .ret e :: r,stmts,h0,P,Z,A,env,σ,vals,fp,s,Q,Er,σ',fl,ok,K,he,hN,hR=>by
    refine aa (ah ok) fun q e1 ok=>?_
    refine ae (Bool.and_eq_true_iff.mp ok) fun o1 o2=>?_
    rw [b7 e1]
    unfold exH at he
    split at he
    · rename_i hh
      refine aa (calm_bind_ok' he) fun v hv he=>?_
      cases he
      have S:SimE prog w fns k noC XPc e:=(c6 bk e hh).e
      exact wpAny_execs_cons (lV S (show okS env.scope.names (.ret e) q.1=true from o1) K (σ':=σ) (fl:=.ret v) (by simp only [eF]; rw [hv]; rfl) (fun q=>by cases q) fun r q u s' st R=>hR r q u s' st R)
    · exact nB he
noncomputable def DR (prog:Program) (w:World) (fns:Fns) (k:Nat) (C:Calls) (st:S):Prop:=∀ {stmt:Stmt}{h0:Heap}{P Z:Addr→Prop}{A:Around}{env:Env}{σ:St}{vals:String→Option Value}{fp:String→List Addr}{s:Shared}{Q:Flow→Shared→Prop}{Er:Value→Shared→Prop}{c:String},
  okS env.scope.names st stmt=true→SOK prog w fns k h0 P Z A env s.heap σ vals fp→ex C st σ = .exc c→(∀ x s',XPc c s x s'→Er x s')→wpAny (model prog w) A (exec stmt env) Q Er s
theorem SOK.evalK {e:E}{exx:Expr}{c:String}{Q:Value→Shared→Prop}{Er:Value→Shared→Prop} (K:SOK prog w fns k h0 P Z A env s.heap σ vals fp) (S:SimE prog w fns k C XPc e) (ok:okE env.scope.names e exx=true) (he:ev C e σ = .exc c)
    (hE:∀ x s',XPc c s x s'→Er x s'):wpAny (model prog w) A (PySem.eval exx env) Q Er s:=by
  have e1:ev C e (bV σ (fv e)) = .exc c:=by rw [ax C e _ σ (bC σ (fv e))]; exact he
  refine S ok (K.cx (fv e)) (by rw [e1]; simp) (fun r hr=>by rw [e1] at hr; cases hr) fun c' hc x s' X=>?_
  rw [e1] at hc; cases hc
  exact hE x s' X
theorem ur {b:S} (hb:pF b=true) (Se:∀ e,b = .expr e→SimE prog w fns k C XPc e) (Sa:∀ x e,b = .assign x e→SimE prog w fns k C XPc e):DR prog w fns k C b:=by
  intro stmt h0 P Z A env σ vals fp s Q Er c ok K he hE
  cases b with
  | expr e=>
    replace ok:=ky ok
    revert ok; refine fun Fj=>Or.elim Fj (fun Fe=>?_) (fun ok=>?_)
    · clear Fj
      refine gu (Fe) fun FK FR Ga FX Go GV ok=>?_
      clear Fe
      subst GV
      simp only [dB] at he
      have hi:interactive env=false:=by unfold interactive; rw [K.eok.kind]; rfl
      rcases bq he with he | ⟨_,_,he⟩
      · exact wpAny_Expr_any (K.evalK (Se e rfl) ok he hE) hi
      · cases he
    · cases ok
  | assign x e=>
    replace ok:=ij ok
    revert ok; refine fun Fk=>Or.elim Fk (fun Fg=>?_) (fun ok=>?_)
    · clear Fk
      refine bP (Fg) fun F5 F0 FU FY FQ ok=>?_
      clear Fg
      subst FQ
      simp only [Bool.and_eq_true,beq_iff_eq] at ok
      refine ae (ok) fun E5 oe=>?_
      try clear ok
      refine ae (E5) fun E6 hb=>?_
      try clear E5
      subst E6
      simp only [cb] at he
      rcases bq he with he | ⟨_,_,he⟩
      · refine ae (oG he) fun he hc=>?_
        exact wpAny_Assign_Name (K.evalK (Sa x e rfl) oe he hE) (fH (ip hc oe) _ _ _)
      · cases he
    · cases ok
  | _=>exact nF hb
theorem uF {c d:String} (inj:∀ c∈SF.excN,∀ c' ∈ "PickError" :: SF.excN,SF.exc c=SF.exc c'→c=c') (hc:c∈SF.excN) (hd:d∈SF.excN):(Value.ref (SF.exc c) :: dG c).contains (.ref (SF.exc d))=decide (d=c∨d = "PickError"):=by
  have hb:bmV.contains (.ref (SF.exc d))=false:=by unfold bmV; simp
  by_cases h1:d=c
  · (clear hc; subst h1); simp
  · have n1:SF.exc d≠SF.exc c:=fun q=>h1 (inj d hd c (.tail _ hc) q)
    rw [List.contains_cons]
    have e1:(Value.ref (SF.exc d) == Value.ref (SF.exc c))=false:=by simpa using n1
    rw [e1,Bool.false_or]
    unfold dG
    by_cases h2:d = "PickError"
    · (clear e1 hb hd n1; subst h2)
      have:c ≠ "PickError" := fun q=>h1 q.symm
      rw [if_neg this]
      simp
    · have n2:SF.exc d≠SF.exc "PickError" := fun q=>h2 (inj d hd _ (.head _) q)
      have:decide (d=c∨d = "PickError")=false:=by simp [h1,h2]
      rw [this]
      split
      · exact hb
      · rw [List.contains_cons,hb,Bool.or_false]
        simpa using n2
theorem rg (hf:fns.hand=false) (hC:b6 prog w fns k C XPc) {c:String}{x:Value}{Q:Flow→Shared→Prop}{Er:Value→Shared→Prop}{σ':St}{fl:Flw}{l:List Env} (K₀:SOK prog w fns k h0 P Z A env s.heap σ vals fp):∀ (hs:List (String × List H1)) (ds:List ExceptHandler) {h:Heap}{tk:Nat},pp env.scope.names hs ds=true →
    K s.heap h→FlyA (dom s.heap) h c .none x→FrOk h l→ir C c hs σ = .ok (σ',fl) →
    (fl = .next→∀ s' vals' fp',Stp Z s s'→SOK prog w fns k h0 P Z A env s'.heap σ' vals' fp'→Frm Z (qi hs) σ vals fp σ' vals' fp'→Q .next s')→(∀ r,fl = .ret r→∀ v s',Stp Z s s'→kB prog w h0 P r v s'→Q (.ret v) s') →
    wpAny (model prog w) A (handleBy x env ds) Q Er { s with heap:=h,toks:=tk }
  | [],ds,h,tk,ok,kk,fly,fr,he,hN,hR=>by exact nB he
  | p :: r,[],h,tk,ok,kk,fly,fr,he,hN,hR=>by exact nF ok
  | p :: r,d :: ds,h,tk,ok,kk,fly,fr,he,hN,hR=>by
    refine ae (Bool.and_eq_true_iff.mp ok) fun o1 o2=>?_
    refine aa (ah o1) fun q e1 o1=>?_
    refine aa (ah o1) fun n e2 o1=>?_
    simp only [Bool.and_eq_true,beq_iff_eq] at o1
    refine ae (o1) fun E7 ob=>?_
    try clear o1
    refine ae (E7) fun E8 hd=>?_
    try clear E7
    refine ae (E8) fun hn hg=>?_
    try clear E8
    refine ai (tL e1) fun pos e3=>?_
    rw [e3,aW e2,hn]
    unfold ir at he
    refine aa (aD he) fun gC hgC he=>?_
    split at he
    · rename_i hne
      have hdN:=(hC p.1 gC hgC).2.2.1 hne
      have ge:=K₀.ge.k (KG.trans K₀.kp0 kk)
      refine ao (ge.exc) fun mg g1 g2 g3=>?_
      obtain ⟨gm,N',nm',q',bs',hdct',sn',sub',ab',col',dd',j0,j1,j2,j3,j5,mN',d1,d2,d3,d4⟩:=g2 p.1 hdN
      have fly':=fly
      refine ay (fly) fun e vs E9 Fa _=>?_
      try clear fly
      subst E9
      refine aB (Fa) fun ne cn FB=>?_
      try clear Fa
      refine ao (FB) fun oe ee hc hdt=>?_
      try clear FB
      obtain ⟨_,N,nm,qn,bs,hdct,sn,sub,ab,col,dd,k0,k1,k2,k3,k5,mN,c1,c2,c3,c4⟩:=g2 c cn
      refine wpAny_handleBy_cons (codeAny_handlers_test (Calls.Name_function_global K₀.eok.kind (eT hg) (Calls.loadGlobal_global (K₀.eok.glob▸g1) gm ?_) (nd hd))) (by intro q; cases q)
      refine nu c1 d1 ee hc (d4.hasType PySem.F.excBase_ValueError.hasBase) ?_
      rw [uF g3 cn hdN]
      split at he
      · rename_i hm
        rw [decide_eq_true hm]
        refine codeAny_handlers_suite (jw (l:=l) fr fly' fun h₄ f₄ k₄ F₄=>?_)
        have k04:K s.heap h₄:=Mine.K.step kk k₄ fun b o e=>⟨o,e⟩
        have st₄:Stp Z s { s with heap:=h₄,toks:=tk }:=(az h₄ tk rfl (k04.mono fun uu uu=>trivial))
        refine v4 (fns:={ fns with hand:=true }) (s:={ s with heap:=h₄,toks:=tk }) p.2 ob ((K₀.onK k04).hand hf (.ref e)) he (fun e s' vals' fp' st K' F=>?_) fun r e v s' st R=>hR r e v s' (st₄.trans st) R
        (clear hR; subst e)
        exact hN rfl s' vals' fp' (st₄.trans st) (K'.back K₀) (F.more fun y hy=>List.mem_append_left _ hy)
      · rename_i hm
        rw [decide_eq_false hm]
        exact rg hf hC K₀ r ds o2 kk fly' fr he (fun e s' vals' fp' st K' F=>hN e s' vals' fp' st K' (F.more fun y hy=>List.mem_append_right _ hy)) hR
    · exact nB he
theorem wO {b:S}{hs:List (String × List H1)}{o:Out (St × Flw)}{r:St × Flw} (h:orH C b hs σ o = .ok r):o = .ok r∨∃ c,o = .exc c∧pF b=true∧ir C c hs σ = .ok r:=by
  cases o with
  | ok a=>exact .inl h
  | exc c=>
    simp only [orH] at h
    split at h
    · rename_i q; exact .inr (aA c rfl q h)
    · exact nB h
  | bad=>exact nB h
theorem s5 (hf:fns.hand=false) (hC:b6 prog w fns k C XPc) {b:S}{hs:List (String × List H1)} (Sb:cU prog w fns k C b) (Se:∀ e,b = .expr e→SimE prog w fns k C XPc e) (Sa:∀ x e,b = .assign x e→SimE prog w fns k C XPc e):cU prog w fns k C (.tryS b hs):=by
  intro stmt h0 P Z A env σ vals fp s Q Er σ' fl ok K he hN hR
  refine pz (yc ok) fun t d ds p Fb ob oh=>?_
  (clear ok; subst Fb)
  simp only [jf] at he
  refine wpAny_Try_except (wpAny_execs_cons ?_)
  rcases wO he with he | ⟨c,he,h1,h2⟩
  · refine Sb ob K he (fun e s' vals' fp' st K' F=>?_) fun r e v s' st R=>hR r e v s' st R
    exact wpAny_execs_nil (wpAny_execs_nil (hN e s' vals' fp' st K' (F.more fun y hy=>List.mem_append_left _ hy)))
  · refine ur h1 Se Sa ob K he fun x s₁ X=>?_
    refine ae (X) fun Fc fly=>?_
    try clear X
    refine av (Fc) fun h₁ tk₁ Fd k₁=>?_
    try clear Fc
    subst Fd
    refine ao ((K.onK k₁).lv hf) fun l l1 l2 l3=>?_
    have hN':∀ b,dom s.heap b→∃ o,h₁.get? b=some o:=fun b ⟨o,e⟩=>aa (k₁ b o (.inl trivial) e) fun o' e' uu=>⟨o',e'⟩
    refine ub hN' l1 l2 l3 (Fly.exc fly) fun h₂ f₂ k₂ F₂=>jw F₂ f₂ fun h₃ f₃ k₃ F₃=>?_
    exact rg hf hC K hs (d :: ds) oh (Mine.K.step (Mine.K.step k₁ k₂ fun b o e=>⟨o,e⟩) k₃ fun b o e=>⟨o,e⟩) f₃ F₃ h2 (fun e s' vals' fp' st K' F=>hN e s' vals' fp' st K' (F.more fun y hy=>List.mem_append_right _ hy)) hR
theorem rJ {c:String}:∀ (b:List H1) (σ:St),exH b σ≠.exc c
  | [],σ,h=>by cases h
  | .asg x e :: r,σ,h=>by
    unfold exH at h
    split at h
    · refine ai (br h) fun q h=>?_
      exact rJ r _ h
    · cases h
  | .ret e :: r,σ,h=>by
    unfold exH at h
    split at h
    · refine ai (br h) fun q h=>?_
      cases h
    · cases h
theorem oF {c c':String}:∀ (hs:List (String × List H1)) (σ:St),ir C c hs σ≠.exc c'
  | [],σ,h=>by cases h
  | p :: r,σ,h=>by
    unfold ir at h
    refine ai (b8 h) fun uu h=>?_
    split at h
    · split at h
      · exact rJ _ _ h
      · exact oF r σ h
    · cases h
theorem tJ {b:S}{hs:List (String × List H1)}:cS prog w fns k C (.tryS b hs):=dI fun σ c h=>by
  simp only [jf] at h
  cases o:ex C b σ with
  | ok a=>rw [o] at h; cases h
  | exc c=>
    rw [o] at h
    simp only [orH] at h
    split at h
    · exact oF _ _ h
    · cases h
  | bad=>rw [o] at h; cases h
end
end Mine
namespace Mine
set_option tactic.hygienic false
set_option linter.unusedVariables false
open PySem PyProof.Rows
set_option linter.unusedSectionVars false
variable [SF:Soft]
section
variable {prog:Program}{w:World}{fns:Fns}{k:Nat}{C:Calls}{XP:String→Shared→Value→Shared→Prop}
variable {h0:Heap}{P Z:Addr→Prop}{A:Around}{env:Env}{σ:St}{vals:String→Option Value}{fp:String→List Addr}
theorem RV.fields {h h':Heap}{wr:List Addr}{v:Value}{x:V}{as:List Addr} (r:RV prog w h v x as) (hw:∀ b∈wr,∃ o,h.get? b=some o∧(∀ C,o.cls≠.ref C)∧∃ fs,o.data = .fields fs) (kp:∀ b o,b∉wr→h.get? b=some o→h'.get? b=some o):RV prog w h' v x as:=by
  have out:∀ b o,h.get? b=some o→(∀ fs,o.data≠.fields fs)→b∉wr:=fun b o e hd hm=>by
    refine ao (hw b hm) fun o' e' _ Fv=>?_
    refine ai (Fv) fun fs q=>?_
    try clear Fv
    rw [e] at e'; (have oc:=Option.some.inj e'; clear e'; subst oc)
    exact hd fs q
  have key:∀ ks b,IsTupleKey (intKind prog w) h ks b→IsTupleKey (intKind prog w) h' ks b:=fun ks b hk=>by
    refine aS (hk) fun o' it n a1 a2 a3=>?_
    try clear hk
    exact (cu o' it n (kp b o' (out b o' a1 fun fs q=>by rw [a3.1] at q; cases q) a1) a2 a3)
  cases x with
  | d x=>exact ⟨r.1.off (wr:=wr) (fun b hb o e=>.inl fun vs n q=>by
      refine ao (hw b hb) fun o' e' _ FB=>?_
      refine ai (FB) fun fs q'=>?_
      try clear FB
      rw [e] at e'; (have oc:=Option.some.inj e'; clear e'; subst oc)
      rw [q] at q'; cases q') kp,r.2⟩
  | dic0=>
    refine iC (r) fun b h1 h2 h3 E5 E6=>?_
    try clear r
    refine dO (E5) fun o es ep e hx hd hr=>?_
    try clear E5
    refine cq (E6) fun o' es' ep' e' h4 h5 h6 h7 h8=>?_
    try clear E6
    exact (gy b h1 h2 h3 (fx o es ep (kp b o (out b o e fun fs q=>by rw [hd] at q; cases q) e) hx hd hr) (ez o' es' ep' (kp b o' (out b o' e' fun fs q=>by rw [h5] at q; cases q) e') h4 h5 h6 (fun y hy=>key _ _ (h7 y hy)) h8))
  | dicI ks=>
    refine bG (r) fun b h1 h2 h3 E7=>?_
    try clear r
    refine dO (E7) fun o es ep e hx hd hr=>?_
    try clear E7
    exact (a7 b h1 h2 h3 (fx o es ep (kp b o (out b o e fun fs q=>by rw [hd] at q; cases q) e) hx hd hr))
  | dicT ks=>
    refine jG (r) fun b xs h1 h2 h3 E8 h9=>?_
    try clear r
    refine cq (E8) fun o' es' ep' e' h4 h5 h6 h7 h8=>?_
    try clear E8
    exact (fe b xs h1 h2 h3 (ez o' es' ep' (kp b o' (out b o' e' fun fs q=>by rw [h5] at q; cases q) e') h4 h5 h6 (fun y hy=>key _ _ (h7 y hy)) h8) h9.1 h9.2.1 (fun x hx=>(h9.2.2 x hx).off (wr:=wr) (fun b hb o e=>.inl fun vs n q=>by
      refine ao (hw b hb) fun o' e' _ Fw=>?_
      refine ai (Fw) fun fs q'=>?_
      try clear Fw
      rw [e] at e'; (have oc:=Option.some.inj e'; clear e'; subst oc)
      rw [q] at q'; cases q') kp))
  | rule c d n=>
    refine hW (r) fun x D o vf bs t u mA h1 h2 h3 h4 h5 h6 h7 E9 h9 h10 h11 h12 h13 h14=>?_
    try clear r
    refine ba (E9) fun oD es ep e hd=>?_
    try clear E9
    have nx:x∉wr:=fun hm=>by
      refine ao (hw x hm) fun o' e' hn _=>?_
      rw [h3] at e'; (have oc:=Option.some.inj e'; clear e'; subst oc)
      exact hn _ h4
    have nD:D∉wr:=out D oD e fun fs q=>by rw [hd.1] at q; cases q
    exact (hU x D o vf bs t u mA h1 h2 (kp x o nx h3) h4 h5 h6 h7 (bQ oD es ep (kp D oD nD e) hd) h9 h10 h11 h12 (h13.off (wr:=wr) (fun b hb o e=>.inl fun vs n q=>by
      refine ao (hw b hb) fun o' e' _ FD=>?_
      refine ai (FD) fun fs q'=>?_
      try clear FD
      rw [e] at e'; (have oc:=Option.some.inj e'; clear e'; subst oc)
      rw [q] at q'; cases q') kp) h14)
theorem SOK.iter {h h':Heap}{wr:List Addr} (K:SOK prog w fns k h0 P Z A env h σ vals fp) (hw:∀ b∈wr,∃ o,h.get? b=some o∧(∀ C,o.cls≠.ref C)∧∃ fs,o.data = .fields fs) (hw':∀ b∈wr,Z b→∃ o,h'.get? b=some o) (hw0:∀ b∈wr,h0.get? b=none) (hns:∀ b∈wr,∀ o,h.get? b=some o→¬ Stay o) (kp:∀ b o,b∉wr→h.get? b=some o→h'.get? b=some o):SOK prog w fns k h0 P Z A env h' σ vals fp:=by
  have out:∀ b o,h.get? b=some o→(∀ fs,o.data≠.fields fs)→b∉wr:=fun b o e hd hm=>by
    refine ao (hw b hm) fun o' e' _ FJ=>?_
    refine ai (FJ) fun fs q=>?_
    try clear FJ
    rw [e] at e'; (have oc:=Option.some.inj e'; clear e'; subst oc)
    exact hd fs q
  refine ⟨K.room,K.eok,K.ge,K.z0,Mine.K.step K.kp0 (KG.ofW kp hns) (fun b o e hm=>by rw [hw0 b hm] at e; cases e),K.code,K.out,fun b hb=>?_,⟨(let ⟨m,⟨o',es,ep,e',hd,_⟩,_⟩:=K.loc.ns; aa (K.loc.cls) fun o e c=>(ag o (kp _ o (out _ o e fun fs q=>by rw [e] at e'; (have oc:=Option.some.inj e'; clear e'; subst oc); rw [hd] at q; cases q) e) c)),?_,K.loc.nz,fun n c a b=>?_,fun x v c a b d=>?_,K.loc.apart,K.loc.kinds⟩,fun x p hp=>?_,K.top,K.deep⟩
  · by_cases hm:b∈wr
    · exact hw' b hm hb
    · refine ai (K.zdom b hb) fun o e=>?_
      exact ⟨o,kp b o hm e⟩
  · refine aa (K.loc.ns) fun m Fa hv=>?_
    refine aS (Fa) fun o es ep e hd hr=>?_
    try clear Fa
    exact (ag m (cu o es ep (kp _ o (out _ o e fun fs q=>by rw [hd] at q; cases q) e) hd hr) hv)
  · refine aB (K.loc.cell n c a b) fun h1 h2 FI=>?_
    refine av (FI) fun v o h3 h4=>?_
    try clear FI
    exact (bJ h1 h2 (az v o (kp c o (out c o h3 fun fs q=>by rw [h4] at q; cases q) h3) h4))
  · refine aa (K.loc.cval x v c a b d) fun o h3 h4=>?_
    exact (ag o (kp c o (out c o h3 fun fs q=>by rw [h4] at q; cases q) h3) h4)
  · refine ae (K.val x p hp) fun h1 Gy=>?_
    refine ao (Gy) fun v h2 h3 h4=>?_
    try clear Gy
    exact (aG h1 (aA v h2 (h3.fields hw kp) h4))
theorem SOK.excl {s:Shared}{ns:List String}{m:Mode}{F:List Addr} (K:SOK prog w fns k h0 P Z A env s.heap σ vals fp) (ha:∀ a∈F,Own σ fp ns a∨s.heap.get? a=none) (hd:m = .deep→∀ a∈F,s.heap.get? a=none) :
    ∀ y q,Mine.consume σ ns m y=some q→(q.2 = .top→∀ a bs,fp y=a :: bs→a∉F)∧(q.2 = .deep→∀ a∈fp y,a∉F):=by
  have nf:∀ a,s.heap.get? a=none→∀ y q,σ y=some q→a∉fp y:=fun a e y q hq hm=>by
    refine ae (K.val y q hq) fun uu F3=>?_
    refine ao (F3) fun u _ hr _=>?_
    try clear F3
    refine ai (hr.there a hm) fun o e'=>?_
    rw [e] at e'; exact nN e'
  intro y q hq
  by_cases hdp:m = .deep
  · have hq':σ y=some q:=by unfold Mine.consume at hq; rwa [if_pos hdp] at hq
    exact ⟨fun uu a bs e hm=>nf a (hd hdp a hm) y q hq' (by rw [e]; exact .head _),fun uu a ha' hm=>nf a (hd hdp a hm) y q hq' ha'⟩
  · have hq2:Mine.demote σ ns y=some q:=by unfold Mine.consume at hq; rwa [if_neg hdp] at hq
    refine ao (aP hq2) fun q' hq' e1 hc=>?_
    rcases hc with ⟨_,rfl⟩ | ⟨hn,rfl⟩
    · refine ⟨fun h=>absurd h f8,fun h a ha'=>?_⟩
      refine ae (K.val y q' hq') fun uu GP=>?_
      refine ao (GP) fun u _ hr _=>?_
      try clear GP
      rw [hr.scal_nil (eA h)] at ha'
      cases ha'
    · refine ⟨fun h a bs e hm=>?_,fun h a ha' hm=>?_⟩
      · refine Or.elim (ha a hm) (fun Fe=>?_) (fun h1=>?_)
        · refine ay (Fe) fun z p hz hp hf=>?_
          clear Fe
          refine aZ (K.top y q hq' h) fun a' bs' e' _ _ h4=>?_
          rw [e] at e'; cases e'
          exact h4 z p (fun q=>hn (q▸hz)) hp hf
        · exact nf a h1 y q hq' (by rw [e]; exact .head _)
      · refine Or.elim (ha a hm) (fun Fg=>?_) (fun h1=>?_)
        · refine ay (Fg) fun z p hz hp hf=>?_
          clear Fg
          exact ((K.deep y q hq' h).1 a ha').2 z p (fun q=>hn (q▸hz)) hp hf
        · exact nf a h1 y q hq' ha'
set_option maxHeartbeats 1000000 in
theorem qT {x:String}{it:It}{b:Ss} (Si:dk prog w fns k C XP it) (Sb:dQ prog w fns k C b) (Xb:dN prog w fns k C b) {stmt:Stmt}{s:Shared}{Q:Flow→Shared→Prop}{Er:Value→Shared→Prop}{σ₀:Mine.St}{out:Out (Mine.St × Flw)}{ds:List PyData}{md:Mode} (L:Addr→Prop)
    (ok:okS env.scope.names (.for1 x it b) stmt=true) (K:SOK prog w fns k h0 P Z A env s.heap σ vals fp) (e1:bf C it (bV σ (bB it)) = .ok (ds,md)) (he1:cr (fun y σ=>exs C b (upd σ x (mk (.d y)))) ds σ₀=out) (hnb:out≠.bad)
    (hK:∀ h',Mine.K s.heap h'→SOK prog w fns k h0 P Z A env h' σ₀ vals fp) (cs:∀ y q,σ₀ y=some q→∃ q',σ y=some q')
    (hex:∀ F:List Addr,(∀ a∈F,Own σ fp (bB it) a∨s.heap.get? a=none)→(md = .deep→∀ a∈F,s.heap.get? a=none)→∀ y q,σ₀ y=some q→(q.2 = .top→∀ a bs,fp y=a :: bs→a∉F)∧(q.2 = .deep→∀ a∈fp y,a∉F))
    (hL1:∀ a,L a→a≠env.locals∧∃ vs n,s.heap.get? a=some ⟨.type "list", none,.seq vs n,#[]⟩) (hL2:∀ y q,σ₀ y=some q→∀ a∈fp y,¬ L a) (hsc:(∀ d∈ds,sx d=true)∨∀ y q,σ y=some q→∃ q',σ₀ y=some q')
    (hN:∀ σ',out = .ok (σ',.next)→∀ s' vals' fp',Stp Z s s'→KG (fun b=>Z b∨L b) s.heap s'.heap→SOK prog w fns k h0 P Z A env s'.heap σ' vals' fp'→Frm (fun b=>Z b∨L b) (x :: gR b) σ₀ vals fp σ' vals' fp'→Q .next s')
    (hR:∀ σ' r,out = .ok (σ',.ret r)→∀ v s',Stp Z s s'→kB prog w h0 P r v s'→Q (.ret v) s') (hX:∀ c,out = .exc c→∀ x s',Stp Z s s'→Lv A env s'.heap→Exc Z s'.heap c env.locals x→Er x s'):wpAny (model prog w) A (exec stmt env) Q Er s:=by
  replace ok:=ov ok
  revert ok; refine fun Fq=>Or.elim Fq (fun Fl=>?_) (fun ok=>?_)
  · clear Fq
    refine gu (Fl) fun t pt iter body spos GV ok=>?_
    clear Fl
    subst GV
    simp only [Bool.and_eq_true,beq_iff_eq] at ok
    refine ae (ok) fun Fb ob=>?_
    try clear ok
    refine ae (Fb) fun Fc oi=>?_
    try clear Fb
    refine ae (Fc) fun Fd hb=>?_
    try clear Fc
    subst Fd
    refine aB (bnd hb) fun g1 g2 g3=>?_
    refine wpAny_For (Si oi (K.cx (bB it)) (by rw [e1]; simp) (fun q' hq' i s₂ I=>?_) fun c hc=>by rw [e1] at hc; cases hc) (j8 oi env)
    rw [e1] at hq'; (have oc:=Out.ok.inj hq'; clear hq'; subst oc)
    obtain ⟨kp₂,Ff,hsm⟩:=I
    refine rc (Ff) fun I fpw wr Pw St F Fi W hst hwr hfp hPw hF hFP hFd=>?_
    try clear Ff
    subst Fi
    have exists_s:∀ b o,s.heap.get? b=some o→b∉wr:=fun b o e hm=>by rw [(hwr b hm).1] at e; exact nN e
    have hLs:∃ o es ep,s.heap.get? env.locals=some o∧o.data = .dict es ep:=by
      refine aa (K.loc.ns) fun m Fh _=>?_
      refine aS (Fh) fun o es ep e hd _=>?_
      try clear Fh
      exact (bQ o es ep e hd)
    have hFL:env.locals∉F:=fun hm=>by
      refine ba (hLs) fun o es ep e hd=>?_
      try clear hLs
      refine aY (hF _ hm) fun vs n e'=>?_
      obtain ⟨_,e1,d1,_⟩:=kp₂.k.data e fun fs q=>by rw [hd] at q; cases q
      rw [e1] at e'; (have oc:=Option.some.inj e'; clear e'; (clear e1 right; subst oc)); rw [hd] at d1; cases d1
    have ex0:=hex F hFP hFd
    have nf:∀ y q,σ₀ y=some q→∀ a∈fp y,a∉wr:=fun y q hq a ha hm=>by
      refine ai (cs y q hq) fun q' hq'=>?_
      refine ae (K.val y q' hq') fun uu GA=>?_
      refine ao (GA) fun u _ hr _=>?_
      try clear GA
      refine ai (hr.there a ha) fun o e=>?_
      exact exists_s a o e hm
    have wz:∀ b∈wr,¬ Z b:=fun b hm hz=>by
      refine ai (K.zdom b hz) fun o e=>?_
      exact exists_s b o e hm
    have w0:∀ b∈wr,h0.get? b=none:=fun b hm=>by
      cases e:h0.get? b with
      | none=>rfl
      | some o=>exact absurd (K.z0 b o e) (wz b hm)
    have K₂:SOK prog w fns k h0 P (fun b=>Z b∨(b∈F∨b∈wr∨L b)) A env s₂.heap σ₀ vals fp:=by
      refine (hK _ kp₂.k).freeze (fun b hb=>?_) (fun hm=>?_) (fun n c hkn hc hm=>?_) (fun y q hq hqt a bs e hm=>?_) (fun y q hq hqd a ha hm=>?_)
      · rcases hb with hb | hb | hb
        · obtain ⟨vs,n,e⟩:=hF b hb; exact ⟨_,e⟩
        · obtain ⟨o,e,_⟩:=(hwr b hb).2.2 0 _ hst; exact ⟨o,e⟩
        · obtain ⟨_,vs,n,e⟩:=hL1 b hb; exact ⟨_,kp₂.k.get e rfl⟩
      · rcases hm with hm | hm | hm
        · exact hFL hm
        · refine ba (hLs) fun o es ep e hd=>?_
          try clear hLs
          exact exists_s _ o e hm
        · exact (hL1 _ hm).1 rfl
      · refine aB (K.loc.cell n c hkn hc) fun uu uu G9=>?_
        refine av (G9) fun v o e hd=>?_
        try clear G9
        rcases hm with hm | hm | hm
        · refine aY (hF c hm) fun vs n e'=>?_
          obtain ⟨_,e1,d1,_⟩:=kp₂.k.data e fun fs q=>by rw [hd] at q; cases q
          rw [e1] at e'; (have oc:=Option.some.inj e'; clear e'; (clear e1 right; subst oc)); rw [hd] at d1; cases d1
        · exact exists_s c o e hm
        · refine ae (hL1 c hm) fun uu He=>?_
          refine aY (He) fun vs n e'=>?_
          try clear He
          rw [e] at e'; (have oc:=Option.some.inj e'; clear e'; (clear e; subst oc)); cases hd
      · rcases hm with hm | hm | hm
        · exact (ex0 y q hq).1 hqt a bs e hm
        · exact nf y q hq a (by rw [e]; exact .head _) hm
        · exact hL2 y q hq a (by rw [e]; exact .head _) hm
      · rcases hm with hm | hm | hm
        · exact (ex0 y q hq).2 hqd a ha hm
        · exact nf y q hq a ha hm
        · exact hL2 y q hq a ha hm
    have FP:∀ a∈F,a≠env.locals∧(P a∨h0.get? a=none):=fun a ha=>by
      refine ⟨fun q=>hFL (q▸ha),?_⟩
      rcases hFP a ha with h | h
      · exact (K.own h).2.2
      · right
        cases e:h0.get? a with
        | none=>rfl
        | some o=>obtain ⟨_,e'⟩:=Mine.K.there K.kp0 e; rw [e'] at h; exact nM h
    have stp₂:Stp Z s s₂:=kp₂.stp
    refine codeAny_forLoop_any
      (fun n s'=>∃ (j:Nat) (σj:Mine.St) (vals':String→Option Value) (fp':String→List Addr),Stp Z s s'∧SOK prog w fns k h0 P (fun b=>Z b∨(b∈F∨b∈wr∨L b)) A env s'.heap σj vals' fp'∧St j s'.heap∧j≤ds.length∧n=ds.length + 1 - j ∧
        cr (fun y σ=>exs C b (upd σ x (mk (.d y)))) (ds.drop j) σj=out∧KG (fun b=>Z b∨(b∈F∨L b)) s₂.heap s'.heap∧Frm (fun b=>Z b∨L b) (x :: gR b) σ₀ vals fp σj vals' fp') ?_ (ds.length + 1)
      (mZ 0 _ vals fp stp₂ K₂ hst (Nat.zero_le _) rfl (by simpa using he1) KG.refl (.id fun z q h=>⟨q,h⟩))
    intro n s' Fm
    refine qA (Fm) fun j σj vals' fp' stp' K' hst' hj Fr hloop hkp hfr=>?_
    try clear Fm
    subst Fr
    have hLw:∀ b,L b→b∉wr:=fun b hb=>let ⟨_,vs,n,e⟩:=hL1 b hb; exists_s b _ e
    have hwf:∀ b∈wr,∃ o,s'.heap.get? b=some o∧(∀ C,o.cls≠.ref C)∧∃ fs,o.data = .fields fs:=fun b hm=>ao ((hwr b hm).2.2 j _ hst') fun o e g f=>(aA o e g.2.2 f)
    have hFw:∀ a∈F,a∉wr:=fun a ha hm=>(hwr a hm).2.1 ha
    have hns:∀ b∈wr,∀ o,s'.heap.get? b=some o→¬ Stay o:=fun b hm o e=>by
      refine ao ((hwr b hm).2.2 j _ hst') fun o' e' Fp G8=>?_
      refine ai (G8) fun fs q=>?_
      try clear G8
      refine ae (Fp) fun uu hc=>?_
      try clear Fp
      rw [e] at e'; (have oc:=Option.some.inj e'; clear e'; (clear uu; subst oc))
      exact fun x=>x.elim (fun x=>hc.1 x.1) fun x=>let ⟨_,vs,n,e⟩:=x; by rw [q] at e; cases e
    have step1:∀ h₁ tk₁,(∀ b∈wr,∃ o,h₁.get? b=some o)→(∀ b o,b∉wr→s'.heap.get? b=some o→h₁.get? b=some o)→SOK prog w fns k h0 P (fun b=>Z b∨(b∈F∨b∈wr∨L b)) A env h₁ σj vals' fp'∧Stp Z s { s' with heap:=h₁,toks:=tk₁ }:=fun h₁ tk₁ hw₁ hk₁=>by
      refine ⟨K'.iter hwf (fun b hm _=>hw₁ b hm) w0 hns hk₁,?_⟩
      refine av (stp') fun hh tk' Ft kk=>?_
      try clear stp'
      (clear K' hkp hst' hwf; subst Ft)
      exact (az h₁ tk₁ rfl (kk.trans ((KG.ofW hk₁ hns).mono fun b hz hm=>wz b hm hz)))
    by_cases hlt:j<ds.length
    · obtain ⟨d,hd⟩:∃ d,ds[j]? = some d:=⟨_,List.getElem?_eq_getElem hlt⟩
      have hdd:ds.drop j=d :: ds.drop (j + 1):=by
        rw [List.drop_eq_getElem_cons hlt]
        rw [List.getElem?_eq_getElem hlt] at hd
        (have oc:=Option.some.inj hd; clear hd; subst oc); rfl
      rw [hdd] at hloop
      simp only [cr] at hloop
      refine W.item j _ _ _ hlt hst' fun v h₁ tk₁ hPv hst₁ hk₁=>?_
      obtain ⟨K₁,stp₁⟩:=step1 h₁ tk₁ (fun b hm=>aa ((hwr b hm).2.2 (j + 1) h₁ hst₁) fun o e uu=>⟨o,e⟩) hk₁
      refine aa (hPw j v hPv d hd) fun bs hrv hbs=>?_
      have hkp₁:KG (fun b=>Z b∨(b∈F∨L b)) s₂.heap h₁:=hkp.trans ((KG.ofW hk₁ hns).mono fun b hb hm=>hb.elim (wz b hm) fun hf=>hf.elim (fun hf=>hFw b hf hm) fun hf=>hLw b hf hm)
      have hrv₁:R h₁ v d bs:=hrv.onG hkp₁ fun b hb=>.inr (.inl (hbs b hb))
      have hfpH:∀ b∈fpw,∀ o,h₁.get? b=some o→hardB o=true:=fun b hb o e=>by
        rcases hfp b hb with hb | hb
        · refine ao ((hwr b hb).2.2 _ _ hst₁) fun o' e' Fy _=>?_
          refine ae (Fy) fun hh _=>?_
          try clear Fy
          rw [e] at e'; (have oc:=Option.some.inj e'; clear e'; subst oc); exact hh
        · refine aY (hF b hb) fun vs' n' e'=>?_
          rw [hkp₁.hard (.inl (.inr (.inl hb))) e' rfl] at e
          (have oc:=Option.some.inj e; clear e; subst oc); rfl
      have hzd:sz d=true:=hsm.2 d (List.mem_of_getElem? hd)
      refine wpAny_of_eq rfl ?_
      refine wpAny_assign_Name (K₁.put (r:=mk (.d d)) (as:=bs) g1 g3 ⟨hrv₁,hzd⟩ (fun a ha=>FP a (hbs a ha)) (fun h=>absurd h f8) (fun h=>?_) (fun y q hy hq=>⟨fun ht a cs e hm=>?_,fun hdp a ha hm=>?_⟩) fun s₃ st₃ kk₃ K₃=>?_)
      · have:bs=[]:=hrv₁.sx_nil (eA h)
        (clear hbs hrv hrv₁; subst this)
        exact ⟨fun uu h=>(nomatch h),.nil⟩
      · refine ay (K₁.top y q hq ht) fun a' bs' e' h1 _=>?_
        rw [e] at e'; cases e'
        exact h1 (.inr (.inl (hbs a hm)))
      · exact ((K₁.deep y q hq hdp).1 a ha).1 (.inr (.inl (hbs a hm)))
      · have hfx:Frm (fun b=>Z b∨L b) (x :: gR b) σ₀ vals fp (upd σj x (mk (.d d))) (dD vals' x v) (fun y=>if y=x then bs else fp' y):=by
          refine ⟨fun y hy=>?_,fun b' hz hb' z q hq hm=>?_⟩
          · have hyx:y≠x:=fun q=>hy (q▸.head _)
            have:=hfr.1 y hy
            exact ⟨(if_neg hyx).trans this.1,(if_neg hyx).trans this.2⟩
          · unfold upd at hq
            dsimp only at hm
            by_cases e:z=x
            · rw [if_pos e] at hm
              rcases hsc with h | h
              · rw [hrv₁.sx_nil (h d (List.mem_of_getElem? hd))] at hm; cases hm
              · refine Or.elim (hFP b' (hbs b' hm)) (fun Fo=>?_) (fun h1=>?_)
                · refine ay (Fo) fun y q F5 h1 h2=>?_
                  clear Fo
                  refine ai (h y q h1) fun q' hq'=>?_
                  exact hb' y q' hq' h2
                · rcases hz with hz | hz
                  · refine ai (K.zdom b' hz) fun o e=>?_
                    rw [h1] at e; exact nN e
                  · refine ae (hL1 b' hz) fun uu Ho=>?_
                    refine aY (Ho) fun vs n e=>?_
                    try clear Ho
                    rw [h1] at e; exact nN e
            · rw [if_neg e] at hq hm
              exact hfr.2 b' hz hb' z q hq hm
        have body₃:∀ s₄,Stp (fun b=>Z b∨(b∈F∨b∈wr∨L b)) s₃ s₄→Stp Z s s₄∧St (j + 1) s₄.heap∧KG (fun b=>Z b∨(b∈F∨L b)) s₂.heap s₄.heap:=fun s₄ st₄=>by
          have st:=st₃.trans st₄
          refine ⟨stp₁.trans (st.mono fun b hb=>.inl hb),?_,?_⟩
          · refine av (st) fun h₄ tk₄ FA kk₄=>?_
            try clear st
            (clear st₄; subst FA)
            exact W.frame _ _ _ hst₁ fun b hb o e=>kk₄.hard (.inl (.inr ((hfp b hb).elim (fun h=>.inr (.inl h)) .inl))) e (hfpH b hb o e)
          · refine av (st) fun h₄ tk₄ FC kk₄=>?_
            try clear st
            (clear st₄; subst FC)
            exact hkp₁.trans (kk₄.mono fun b hb=>hb.imp id fun h=>h.imp id .inr)
        cases hbody:exs C b (upd σj x (mk (.d d))) with
        | bad=>rw [hbody] at hloop; exact absurd hloop.symm hnb
        | exc c=>
          rw [hbody] at hloop
          refine Xb ob K₃ hbody fun z s₄ st₄ lv exc=>?_
          refine ao (lv) fun l l1 l2 l3=>?_
          try clear lv
          refine av ((body₃ s₄ st₄).1) fun h₄ tk₄ e₄ kk₄=>?_
          (clear st₄; subst e₄)
          refine Cn (N:=Z) (fun b hb=>?_) l1 l2 l3 (exc.old fun b hb=>.inl hb) fun h' ex' kg' fr'=>hX c hloop.symm z _ (az h' tk₄ rfl (kk₄.trans kg')) (aA l l1 fr' l3) ex'
          refine ai (K.zdom b hb) fun o e=>?_
          refine aa (kk₄ b o (.inl hb) e) fun o' e' _=>?_
          exact ⟨o',e'⟩
        | ok o=>
        obtain ⟨σ₁,fl₁⟩:=o
        rw [hbody] at hloop
        simp only [Out.ok_bind] at hloop
        refine Sb ob K₃ hbody (fun e s₄ vals₄ fp₄ st₄ K₄ F₄=>?_) fun r e v s₄ st₄ R₄=>?_
        · (clear hbody; subst e)
          refine aB (body₃ s₄ st₄) fun q1 q2 q3=>?_
          refine (ag (ds.length + 1 - (j + 1)) (by exact pa hlt) (mZ (j + 1) σ₁ vals₄ fp₄ q1 K₄ q2 hlt rfl hloop q3 ((hfx.trans (F₄.less fun b hb=>hb.imp id fun h=>.inr (.inr h))).more fun y hy=>(List.mem_append.mp hy).elim (fun h=>h) (.tail _))))
        · (clear hbody; subst e)
          exact hR σ₁ r hloop.symm v s₄ (body₃ s₄ st₄).1 R₄
    · have hjl:j=ds.length:=by exact ve hj hlt
      (clear hj hlt; subst hjl)
      rw [List.drop_length] at hloop
      simp only [cr] at hloop
      refine W.done _ _ _ hst' fun h₁ tk₁ hk₁=>?_
      have st1:Stp Z s { s' with heap:=h₁,toks:=tk₁ }:=by
        refine av (stp') fun hh tk' FE kk=>?_
        try clear stp'
        (clear K' hkp hst' hwf step1; subst FE)
        exact (az h₁ tk₁ rfl (kk.trans ((KG.ofW hk₁ hns).mono fun b hz hm=>wz b hm hz)))
      have kgL:KG (fun b=>Z b∨L b) s.heap h₁:=((kp₂.k.mono fun uu uu=>trivial).trans (hkp.mono fun b hb=>hb.imp id .inr)).trans ((KG.ofW hk₁ hns).mono fun b hb hm=>hb.elim (wz b hm) fun h=>hLw b h hm)
      exact wpAny_execs_nil (hN σj hloop.symm { s' with heap:=h₁,toks:=tk₁ } vals' fp' st1 kgL ((K'.thaw (Z:=Z) (fun b hb=>.inl hb) K.z0).iter hwf (fun b hm hz=>absurd hz (wz b hm)) w0 hns hk₁) hfr)
  · cases ok
theorem uX {σ:Mine.St}{ns:List String}{md:Mode} (y:String) (q:V × Mode) (hy:σ y=some q):∃ q',Mine.consume σ ns md y=some q':=by
  unfold Mine.consume
  split
  · exact ⟨q,hy⟩
  · unfold Mine.demote
    split
    · exact ⟨_,by rw [hy]; rfl⟩
    · exact ⟨q,hy⟩
theorem th {x:String}{it:It}{b:Ss} (Si:dk prog w fns k C XP it) (Sb:dQ prog w fns k C b) (Xb:dN prog w fns k C b):cU prog w fns k C (.for1 x it b):=by
  intro stmt h0 P Z A env σ vals fp s Q Er σ' fl ok K he hN hR
  simp only [gH] at he
  refine aa (Out.bind_ok he) fun FH hq he1=>?_
  obtain ⟨ds,md⟩:=FH
  have e1:bf C it (bV σ (bB it)) = .ok (ds,md):=by rw [dq C it _ σ (bC σ _)]; exact hq
  exact qT Si Sb Xb (fun uu=>False) ok K e1 he1 (by simp) (fun h' kp=>(K.onK kp).consume (bB it) md) (fun y q hq=>cH hq) (fun F h1 h2=>K.excl h1 h2) (fun a h=>h.elim) (fun uu uu uu uu uu h=>h) (.inr uX)
    (fun σ'' e s' vals' fp' st _ K' F=>by cases e; exact hN rfl s' vals' fp' st K' ⟨F.1,fun b hz hb=>F.2 b (.inl hz) fun z q hq=>ai (cH hq) fun q' hq'=>hb z q' hq'⟩) (fun σ'' r e=>by cases e; exact hR r rfl) fun c e=>by cases e
theorem uN (hf:fns.hand=false) {x:String}{it:It}{b:Ss} (Si:dk prog w fns k C XPc it) (Sb:dQ prog w fns k C b) (Xb:dN prog w fns k C b):cS prog w fns k C (.for1 x it b):=by
  intro stmt h0 P Z A env σ vals fp s Q Er c ok K he hE
  simp only [gH] at he
  rcases bq he with he | ⟨⟨ds,md⟩,hq,he1⟩
  · replace ok:=ov ok
    revert ok; refine fun Fu=>Or.elim Fu (fun Fs=>?_) (fun ok=>?_)
    · clear Fu
      refine gu (Fs) fun F0 FU FY GI GL Gw ok=>?_
      clear Fs
      subst Gw
      simp only [Bool.and_eq_true,beq_iff_eq] at ok
      have e1:bf C it (bV σ (bB it)) = .exc c:=by rw [dq C it _ σ (bC σ _)]; exact he
      refine wpAny_For (Si ok.1.2 (K.cx (bB it)) (by rw [e1]; simp) (fun q' hq'=>by rw [e1] at hq'; cases hq') fun c' hc x s' X=>?_) (j8 ok.1.2 env)
      rw [e1] at hc; cases hc
      exact hE x s' X.1.stp ((K.onK X.1.k).lv hf) (Fly.exc (X.2.old K.zd))
    · cases ok
  · have e1:bf C it (bV σ (bB it)) = .ok (ds,md):=by rw [dq C it _ σ (bC σ _)]; exact hq
    exact qT Si Sb Xb (fun uu=>False) ok K e1 he1 (by simp) (fun h' kp=>(K.onK kp).consume (bB it) md) (fun y q hq=>cH hq) (fun F h1 h2=>K.excl h1 h2) (fun a h=>h.elim) (fun uu uu uu uu uu h=>h) (.inr uX)
      (fun σ'' e=>by cases e) (fun σ'' r e=>by cases e) fun c' e=>by cases e; exact hE
section
variable (hf:fns.hand=false) (hC:b6 prog w fns k C XPc)
include hf hC
mutual
theorem fy:∀ st:S,cU prog w fns k C st∧cS prog w fns k C st
  | .assign x e=>⟨iP (aw hf hC bk e).e ⟨fun elt y it _=>⟨dJ hf hC bk it,(aw hf hC bk elt).e⟩,fun elt y it c _=>⟨dJ hf hC bk it,(aw hf hC bk elt).e,(aw hf hC bk c).t⟩⟩,nq hf (aw hf hC bk e).e⟩
  | .setitem x e=>⟨lN (aw hf hC bk e).e,me⟩
  | .append x e=>⟨nv (aw hf hC bk e).e,nG⟩
  | .insert x i e=>⟨ny bk (aw hf hC bk i).e (aw hf hC bk e).e,nC⟩
  | .pop x i=>⟨t8 (aw hf hC bk i).e,ut⟩
  | .expr e=>⟨qO (aw hf hC bk e).e,rW hf (aw hf hC bk e).e⟩
  | .ret e=>⟨lV (aw hf hC bk e).e,sA hf (aw hf hC bk e).e⟩
  | .retn x=>⟨rl,qJ⟩
  | .ite c a b=>⟨sv (aw hf hC bk c).t (a0 a).1 (a0 b).1,sF hf (aw hf hC bk c).t (a0 a).2 (a0 b).2⟩
  | .for1 x it b=>⟨th (dJ hf hC bk it) (a0 b).1 (a0 b).2,uN hf (dJ hf hC bk it) (a0 b).1 (a0 b).2⟩
  | .raise _=>⟨o7,pS hf hC⟩
  | .tryS b hs=>⟨s5 hf hC (fy b).1 (fun e _=>(aw hf hC bk e).e) (fun x e _=>(aw hf hC bk e).e),tJ⟩
  | .bad=>⟨fun ok=>Bool.noConfusion (show false=true from ok),sD⟩
termination_by structural s=>s
theorem a0:∀ st:Ss,dQ prog w fns k C st∧dN prog w fns k C st
  | .nil=>⟨rO,q0⟩
  | .cons s r=>⟨qe (fy s).1 (a0 r).1,pj (fy s).1 (fy s).2 (a0 r).2⟩
termination_by structural s=>s
end
theorem lg (st:Ss):dQ prog w fns k C st:=(a0 hf hC st).1
theorem lw (st:Ss):dN prog w fns k C st:=(a0 hf hC st).2
end
end
end Mine
namespace Mine
set_option tactic.hygienic false
set_option linter.unusedVariables false
open PySem PyProof.Rows
set_option linter.unusedSectionVars false
variable [SF:Soft]
structure InF (s₀:Shared) (L:Addr) (m:Str→Option Value) (cs:List (Str × Addr)) (cm:Str→Option Value) (s:Shared):Prop where
  x:InCallC s₀ L m cs cm s
  c:∃ o,s.heap.get? L=some o∧o.cls = .type "frame"
section
variable {M:Model}{A:Around}{E:Value→Shared→Prop}{s₀:Shared}{env:Env}
theorem ie (f:Str × Value→PUnit→Sem (ForInStep PUnit)) (hf:∀ n v u,f (n,v) u=(do storeName env n v; pure (.yield ⟨⟩))) (hk:env.scope.kind = .function) :
    ∀ (binds:List (Str × Value)) (m cm:Str→Option Value) (s:Shared) (Q:PUnit→Shared→Prop),InF s₀ env.locals m env.cells cm s →
      (∀ x∈binds,env.kindOf x.1=some .local∨(env.kindOf x.1=some .cell∧(env.cells.lookup x.1).isSome=true)) →
      (∀ s',InF s₀ env.locals (bindL env.kindOf binds m) env.cells (bindC env.kindOf binds cm) s'→Q ⟨⟩ s')→wpAny M A (forIn binds ⟨⟩ f) Q E s
  | [],m,cm,s,Q,x,_,h=>by rw [List.forIn_nil]; exact wpAny_pure (h s x)
  | (n,v) :: r,m,cm,s,Q,⟨x,c⟩,hkind,h=>by
    rw [List.forIn_cons,hf]
    have hr:∀ y∈r,env.kindOf y.1=some .local∨(env.kindOf y.1=some .cell∧(env.cells.lookup y.1).isSome=true):=fun y hy=>hkind y (List.mem_cons_of_mem _ hy)
    refine aY (x.toInCall.same) fun h₁ tk e₁=>?_
    rcases hkind (n,v) List.mem_cons_self with hl | ⟨hl,hc⟩
    · refine wpAny_bind (wpAny_bind ?_)
      rw [storeName_local hl (by rw [hk]; rfl)]
      refine lb x.toInCall.ns c fun h' hn' hs' hc'=>wpAny_pure (ie f hf hk r (fun x=>if x=n then some v else m x) cm _ Q ⟨⟨⟨(bn h' (s.toks + 1) (by rw [e₁])),hn',fun b o e=>?_,x.toInCall.fresh⟩,fun k c hc=>?_,x.apart,x.above⟩,hc'⟩ hr fun s'' x''=>h s'' ?_)
      · exact hs'.extBut b o (Nat.ne_of_lt (Nat.lt_of_lt_of_le (Heap.lt_size e) x.toInCall.fresh)) (x.toInCall.keep b o e)
      · exact (x.cell k c hc).sameBut hs' (Nat.ne_of_gt (x.above k c (mem_of_lookup hc)))
      · unfold bindL bindC; rw [if_pos hl,if_pos hl]; exact x''
    · refine ai (Option.isSome_iff_exists.mp hc) fun cc hc=>?_
      have hnl:¬ env.kindOf n=some .local:=by rw [hl]; decide
      have hLc:=x.above n cc (mem_of_lookup hc)
      refine wpAny_bind (wpAny_bind (wpAny_storeName_cell hk hl hc (x.cell n cc hc) fun h' hc' hs'=>wpAny_pure (ie f hf hk r m (fun y=>if y=n then some v else cm y) _ Q ⟨⟨⟨(bn h' s.toks (by rw [e₁])),x.toInCall.ns.sameBut hs' (Nat.ne_of_lt hLc),fun b o e=>?_,x.toInCall.fresh⟩,fun k c' hk'=>?_,x.apart,x.above⟩,aa (c) fun o e q=>(ag o (hs'.extBut _ o (Nat.ne_of_lt hLc) e) q)⟩ hr fun s'' x''=>h s'' ?_)))
      · exact hs'.extBut b o (Nat.ne_of_lt (Nat.lt_trans (Nat.lt_of_lt_of_le (Heap.lt_size e) x.toInCall.fresh) hLc)) (x.toInCall.keep b o e)
      · by_cases hkn:k=n
        · (clear h hkind hl hnl; subst hkn)
          rw [hc] at hk'; (have oc:=Option.some.inj hk'; clear hk'; subst oc)
          show h'.IsCell _ (if _=_ then some v else cm _)
          rw [if_pos rfl]; exact hc'
        · show h'.IsCell _ (if _=_ then some v else cm _)
          rw [if_neg hkn]
          exact (x.cell k c' hk').sameBut hs' fun e=>hkn (name_of_addr x.apart (mem_of_lookup hk') (e▸mem_of_lookup hc))
      · unfold bindL bindC; rw [if_neg hnl,if_neg hnl]; exact x''
end
section
variable {prog:Program}{w:World}{A:Around}{s:Shared}
theorem oj {R:Result→Shared→Prop}{a:Addr}{o:Obj}{fd:FuncData}{body:List Stmt}{vals:List Value}{binds:List (Str × Value)}
    (hroom:A.depth<recursionLimit) (ho:s.heap.get? a=some o) (hdata:o.data = .func fd) (hlim:s.heap.NoLimit) (hcd:s.heap.CodeRec fd.code fd.qualname)
    (hbody:fd.body = .stmts body) (hbind:bindArgs fd ⟨vals,[]⟩=pure binds) (hclo:fd.closure=[])
    (hkind:∀ x∈binds,fd.scope.names.lookup x.1=some .local∨(fd.scope.names.lookup x.1=some .cell∧((cellsFrom (s.heap.objs.size + 1) fd.scope.names []).lookup x.1).isSome=true))
    (h:∀ s₁,InF s (callEnvC fd s.heap.objs.size a).locals (bindL (callEnvC fd s.heap.objs.size a).kindOf binds fun uu=>none) (callEnvC fd s.heap.objs.size a).cells
        (bindC (callEnvC fd s.heap.objs.size a).kindOf binds fun uu=>none) s₁ →
      wpAny (model prog w) (A.deeper (callEnvC fd s.heap.objs.size a)) (execs body (callEnvC fd s.heap.objs.size a)) (fun f s'=>R (.ok (.ret (match f with | .ret v=>v | _=>.none))) s')
        (fun e s'=>wpAny (model prog w) (A.deeper (callEnvC fd s.heap.objs.size a)) (leaving (callEnvC fd s.heap.objs.size a) e) (fun uu s''=>R (.error e) s'') (fun e' s''=>R (.error e') s'') s') s₁)
    (hco:fd.scope.isCoroutine=false) (hgen:fd.scope.isGenerator=false) (hk:fd.scope.kind = .function) :
    codeAny (model prog w) A (.call (.ref a) ⟨vals,[]⟩) R s:=by
  refine codeAny_call_function hroom ho hdata hco hgen hbody hcd ?_
  rw [hbind,hclo]
  refine wpAny_pure ?_
  simp only [newFunctionEnv,Option.isSome_none,Bool.false_eq_true,if_false]
  refine wpAny_bind (wpAny_alloc ?_)
  refine wpAny_bind (wpAny_layCells _ (fun name kind cells=>by cases hkc:kind == NameKind.cell <;> simp [hkc]) _ _ _ _ ?_)
  have ok:=cellsFrom_ok fd.scope.names (s.heap.push { cls:=.type "frame", data:=.dict #[] }) (s.heap.objs.size + 1) [] ⟨fun uu uu hm=>(nomatch hm),List.Pairwise.nil⟩ (by rw [Heap.size_push]; exact Nat.le_refl _)
  rw [Heap.size_push] at ok
  rw [show ({ s with heap:=s.heap.push { cls:=.type "frame", data:=.dict #[] } }:Shared).heap.objs.size=s.heap.objs.size + 1 from Heap.size_push ..]
  refine wpAny_bind (ie (s₀:=s) (env:=callEnvC fd s.heap.objs.size a) _ (fun uu uu uu=>rfl) hk binds (fun uu=>none) (fun uu=>none) _ _
    ⟨⟨⟨(bn _ _ rfl),(Heap.Ns.new s.heap (.type "frame")).keeps (pushCells_keeps _ _),fun b o e=>pushCells_keeps _ _ b o (Heap.get?_push_of_some _ e),Nat.le_refl _⟩,
      fun n c hc=>(ok.empty n c (mem_of_lookup hc)).1,ok.apart,fun n c hm=>(ok.empty n c hm).2⟩,_,pushCells_keeps _ _ _ _ (Heap.get?_push_size _ rfl),rfl⟩
    hkind fun s' x=>wpAny_pure ⟨hlim.keeps x.x.toInCall.keep,codeAny_func (h s' x)⟩)
end
end Mine
namespace Mine
set_option tactic.hygienic false
set_option linter.unusedVariables false
open PySem PyProof.Rows
set_option linter.unusedSectionVars false
variable [SF:Soft]
noncomputable def okF (ft:FnT) (f:Fn):Bool:=decide (ft.params=f.params) && f.params.all (bv ft.scope.names) && decide f.params.Nodup && cg ft.scope.names f.body ft.body && ft.scope.names.all fun p=>p.2 != .free
theorem cJ {n:Str}:∀ (names:List (Str × NameKind)) (k:Nat) (acc:List (Str × Addr)),(names.lookup n=some .cell∨(acc.lookup n).isSome=true)→((cellsFrom k names acc).lookup n).isSome=true
  | [],_,acc,h=>h.elim (fun e=>by cases e) id
  | (m,kd) :: r,k,acc,h=>by
    unfold cellsFrom
    by_cases hk:kd = .cell
    · subst hk
      simp only [beq_self_eq_true,if_true]
      by_cases e:n=m
      · (clear h; subst e)
        exact cJ r _ _ (.inr (by simp))
      · have e':(n == m)=false:=by simpa using e
        refine cJ r _ _ (h.imp (fun h=>?_) fun h=>?_)
        · rw [List.lookup_cons,e'] at h; exact h
        · rw [List.lookup_cons,e']; exact h
    · have hb:(kd == NameKind.cell)=false:=by simpa using hk
      simp only [hb,Bool.false_eq_true,if_false]
      by_cases e:n=m
      · subst e
        rcases h with h | h
        · simp at h; exact absurd h hk
        · exact cJ r _ _ (.inr h)
      · have e':(n == m)=false:=by simpa using e
        refine cJ r _ _ (h.imp (fun h=>?_) id)
        rw [List.lookup_cons,e'] at h; exact h
theorem iO {kd:Str→Option NameKind}{y:Str}:∀ (bs:List (Str × Value)) (m:Str→Option Value),(∀ p∈bs,p.1≠y)→bindL kd bs m y=m y
  | [],_,_=>rfl
  | (n,v) :: r,m,h=>by
    unfold bindL
    rw [iO r _ fun p hp=>h p (.tail _ hp)]
    split
    · exact if_neg fun (e:y=n)=>h (n,v) (.head _) e.symm
    · rfl
theorem iT {kd:Str→Option NameKind}{y:Str}:∀ (bs:List (Str × Value)) (m:Str→Option Value),(∀ p∈bs,p.1≠y)→bindC kd bs m y=m y
  | [],_,_=>rfl
  | (n,v) :: r,m,h=>by
    unfold bindC
    rw [iT r _ fun p hp=>h p (.tail _ hp)]
    split
    · rfl
    · exact if_neg fun (e:y=n)=>h (n,v) (.head _) e.symm
theorem qw {p:String}{ps:List String}{vs:List Value} (h:p∉ps):∀ q∈(ps.map Str.ofString).zip vs,q.1≠Str.ofString p:=by
  intro q hq e
  have:=(List.of_mem_zip hq).1
  refine aa (List.mem_map.mp this) fun y hy e'=>?_
  exact h (cG (e'.trans e)▸hy)
theorem ls {kd:Str→Option NameKind}{x:String}{v:Value}:∀ (ps:List String) (vs:List Value) (m:Str→Option Value),ps.Nodup→(ps.zip vs).lookup x=some v→kd (Str.ofString x)=some .local→bindL kd ((ps.map Str.ofString).zip vs) m (Str.ofString x)=some v
  | [],_,_,_,h,_=>by simp at h
  | _ :: _,[],_,_,h,_=>by simp at h
  | p :: ps,u :: vs,m,hn,h,hk=>by
    rw [List.nodup_cons] at hn
    rw [List.zip_cons_cons,List.lookup_cons] at h
    rw [List.map_cons,List.zip_cons_cons]
    unfold bindL
    by_cases e:x=p
    · subst e
      simp at h
      subst h
      rw [iO _ _ (qw hn.1),if_pos hk]
      simp
    · have e':(x == p)=false:=by simpa using e
      rw [e'] at h
      exact ls ps vs _ hn.2 h hk
theorem kN {kd:Str→Option NameKind}{x:String}{v:Value}:∀ (ps:List String) (vs:List Value) (m:Str→Option Value),ps.Nodup→(ps.zip vs).lookup x=some v→kd (Str.ofString x)=some .cell→bindC kd ((ps.map Str.ofString).zip vs) m (Str.ofString x)=some v
  | [],_,_,_,h,_=>by simp at h
  | _ :: _,[],_,_,h,_=>by simp at h
  | p :: ps,u :: vs,m,hn,h,hk=>by
    rw [List.nodup_cons] at hn
    rw [List.zip_cons_cons,List.lookup_cons] at h
    rw [List.map_cons,List.zip_cons_cons]
    unfold bindC
    by_cases e:x=p
    · subst e
      simp at h
      subst h
      rw [iT _ _ (qw hn.1),if_neg (by rw [hk]; simp)]
      simp
    · have e':(x == p)=false:=by simpa using e
      rw [e'] at h
      exact kN ps vs _ hn.2 h hk
section
variable {prog:Program}{w:World}{fns:Fns}{k:Nat}{C:Calls}{XP:String→Shared→Value→Shared→Prop}
theorem l4 {h:Heap}{xs:List V}{vals:List Value}{as:List Addr} (rs:RVs prog w h xs vals as):∀ {ps:List String}{σ:St},bi ps xs=some σ →
    vals.length=ps.length∧∃ fp:String→List Addr,∀ x q,σ x=some q→x∈ps∧∃ V v,q=mk V∧(ps.zip vals).lookup x=some v∧RV prog w h v V (fp x)∧∀ a∈fp x,a∈as:=by
  induction rs with
  | nil=>
    intro ps σ hb
    cases ps with
    | nil=>exact (aG rfl (bl (fun uu=>[]) (fun x q h=>nN ((congrFun (Option.some.inj hb) x).trans h))))
    | cons p ps=>exact nN hb
  | @cons V xs v vs a1 bs r rs IH=>
    intro ps σ hb
    cases ps with
    | nil=>exact nN hb
    | cons p ps=>
    replace hb:=Option.map_eq_some_iff.mp (show (bi ps xs).map _=_ from hb)
    refine aa (hb) fun σ' hb' E5=>?_
    clear hb
    subst E5
    obtain ⟨hl,fp',ih⟩:=IH hb'
    refine (aG (by rw [List.length_cons,List.length_cons,hl]) (bl (fun x=>if x=p then a1 else fp' x) (fun x q hq=>?_)))
    unfold upd at hq
    by_cases e:x=p
    · subst e
      rw [if_pos rfl] at hq; (have oc:=Option.some.inj hq; clear hq; subst oc)
      have e1:(if x=x then a1 else fp' x)=a1:=if_pos rfl
      refine (aG (.head _) (bp V v rfl (by simp) ?_ (fun a ha=>?_)))
      · show RV prog w h v V (if x=x then a1 else fp' x)
        rw [e1]; exact r
      · have ha':a∈(if x=x then a1 else fp' x):=ha
        rw [e1] at ha'
        exact List.mem_append_left _ ha'
    · rw [if_neg e] at hq
      obtain ⟨h1,V',v',h2,h3,h4,h5⟩:=ih x q hq
      have e':(x == p)=false:=by simpa using e
      exact (aG (.tail _ h1) (bp V' v' h2 (by rw [List.zip_cons_cons,List.lookup_cons,e']; exact h3) (by show RV prog w h v' V' (if x=p then a1 else fp' x); rw [if_neg e]; exact h4) (fun a ha=>List.mem_append_right _ (h5 a (by have ha':a∈(if x=p then a1 else fp' x):=ha; rwa [if_neg e] at ha')))))
theorem kQ {ft:FnT}{fd:FuncData}{fa:Addr}{A:Around}{P:Addr→Prop}{s:Shared}{h₁:Heap}{tk₁:Nat}{σ:St}{pn:List String}{pv:List Value}{fp:String→List Addr}
    (hf:fns.hand=false) (hnd:pn.Nodup) (hpb:∀ x∈pn,bv ft.scope.names x=true) (hfree:∀ p∈ft.scope.names,(p.2 != .free)=true) (hh:fns.hand=false→A.handled=none) (r1:A.depth + 2 * k + 5<recursionLimit) (r2:A.units + 100 * k + 303<cLine) (hfr:∃ l,A.frames=some l∧FrOk s.heap l) (ge:GE fns s.heap)
    (hsc:fd.scope=ft.scope) (hgl:fd.globals=mainGlobals) (hbl:fd.builtins=builtinsNs) (hkind:fd.scope.kind = .function) (hcode:ft.lam=true→CodeOk s.heap fd.code fd.qualname)
    (X:InF s (callEnvC fd s.heap.objs.size fa).locals (bindL (callEnvC fd s.heap.objs.size fa).kindOf ((pn.map Str.ofString).zip pv) fun uu=>none) (callEnvC fd s.heap.objs.size fa).cells (bindC (callEnvC fd s.heap.objs.size fa).kindOf ((pn.map Str.ofString).zip pv) fun uu=>none) { s with heap:=h₁,toks:=tk₁ })
    (hfp:∀ x q,σ x=some q→x∈pn∧∃ V v,q=mk V∧(pn.zip pv).lookup x=some v∧RV prog w s.heap v V (fp x)∧∀ a∈fp x,P a) :
    SOK prog w { fns with lam:=ft.lam } k s.heap P (fun b=>∃ o,s.heap.get? b=some o) (A.deeper (callEnvC fd s.heap.objs.size fa)) (callEnvC fd s.heap.objs.size fa) h₁ σ (fun x=>(pn.zip pv).lookup x) fp:=by
  have hin:=X.x.toInCall
  have hnames:(callEnvC fd s.heap.objs.size fa).scope.names=ft.scope.names:=by show fd.scope.names=_; rw [hsc]
  have hloc:(callEnvC fd s.heap.objs.size fa).locals=s.heap.objs.size:=rfl
  have hko:∀ n,(callEnvC fd s.heap.objs.size fa).kindOf n=ft.scope.names.lookup n:=fun n=>by show fd.scope.names.lookup n=_; rw [hsc]
  have nofree:∀ n,(callEnvC fd s.heap.objs.size fa).kindOf n≠some .free:=fun n e=>by
    rw [hko] at e
    have:=hfree _ (mem_of_lookup e)
    simp at this
  have hold:¬ SF.old s.heap.objs.size:=fun q=>by
    refine ai (ge.old _ q) fun o e=>?_
    rw [a8] at e; exact nN e
  refine ⟨⟨hh,?_,?_⟩,⟨hkind,hgl,hbl,fun n hn=>?_⟩,ge.flag ft.lam fns.hand,fun b o e=>⟨o,e⟩,.of hin.keep,fun q=>⟨_,hcode q⟩,fun uu=>?_,fun b ⟨o,e⟩=>⟨o,hin.keep b o e⟩,⟨X.c,(ag _ hin.ns (fun x v hv hk=>?_)),fun ⟨o,e⟩=>?_,fun n c hk hc=>?_,fun x v c hv hk hc=>?_,fun n n' c h1 h2=>?_,fun x v hv=>?_⟩,fun x p hp=>?_,fun x p hp ht=>?_,fun x p hp hdp=>?_⟩
  · show A.depth + 1 + 2 * k + (if fns.hand then 1 else 4)<_
    rw [hf]; simp only [Bool.false_eq_true,if_false]; exact zA r1
  · show A.units + 3 + 100 * k + (if fns.hand then 200 else 300)<_
    rw [hf]; simp only [Bool.false_eq_true,if_false]; exact Au r2
  · rcases hn with hn | hn
    · rw [hko] at hn
      exact Option.isSome_iff_exists.mp (by show ((cellsFrom _ fd.scope.names []).lookup n).isSome=true; rw [hsc]; exact cJ _ _ _ (.inl hn))
    · exact absurd hn (nofree n)
  · refine aa (hfr) fun l e1 e2=>?_
    try clear hfr
    exact (a7 l (Around.frames_deeper e1) e2 rfl hold)
  · exact ls pn pv _ hnd hv hk
  · rw [hloc] at e
    rw [a8] at e; exact nN e
  · have hm:=mem_of_lookup hc
    have hlt:=X.x.above n c hm
    refine (bJ (Nat.ne_of_gt hlt) (fun ⟨o,e⟩=>?_) (bl _ (X.x.cell n c hc)))
    have:=Heap.lt_size e
    rw [hloc] at hlt
    exact Nat.lt_irrefl _ (Nat.lt_trans this hlt)
  · have:=X.x.cell _ c hc
    rw [kN pn pv _ hnd hv hk] at this
    exact this
  · exact name_of_addr X.x.apart (mem_of_lookup h1) (mem_of_lookup h2)
  · have hm:x∈pn:=by
      have:(x,v)∈pn.zip pv:=by
        generalize pn.zip pv=l at hv
        induction l with
        | nil=>exact nN hv
        | cons q l ih=>
          rw [List.lookup_cons] at hv
          split at hv
          · rename_i e
            (have oc:=Option.some.inj hv; clear hv; (clear ih; subst oc))
            rw [beq_iff_eq.mp e]
            exact .head _
          · exact .tail _ (ih hv)
      exact (List.of_mem_zip this).1
    have hb:=hpb x hm
    unfold bv at hb
    simp only [Bool.and_eq_true,Bool.or_eq_true,beq_iff_eq] at hb
    rw [hko]
    exact hb.2
  · obtain ⟨h1,V,v,E6,h3,h4,h5⟩:=hfp x p hp
    (clear hp; subst E6)
    have hb:=hpb x h1
    unfold bv at hb
    simp only [Bool.and_eq_true] at hb
    refine (aG (by rw [hnames]; exact hb.1.1) (aA v h3 (h4.keep hin.keep) (fun a h=>⟨fun q=>?_,.inl (h5 a h)⟩)))
    refine ai (h4.there a h) fun o e=>?_
    rw [q,hloc,a8] at e; exact nN e
  · obtain ⟨h1,V,v,E7,_⟩:=hfp x p hp
    (clear hp; subst E7)
    exact absurd ht f8
  · obtain ⟨h1,V,v,E8,h3,h4,h5⟩:=hfp x p hp
    (clear hp; subst E8)
    rw [h4.scal_nil (eA hdp)]
    exact ⟨fun uu h=>(nomatch h),.nil⟩
theorem jL {ft:FnT}{fd:FuncData}{pn:List String}{vals:List Value}{n:Nat} (hsc:fd.scope=ft.scope) (hbk:∀ x∈pn,bv ft.scope.names x=true):∀ x∈(pn.map Str.ofString).zip vals,fd.scope.names.lookup x.1=some .local∨(fd.scope.names.lookup x.1=some .cell∧((cellsFrom n fd.scope.names []).lookup x.1).isSome=true):=by
  intro x hx
  refine aa (List.mem_map.mp (List.of_mem_zip hx).1) fun y hy e=>?_
  have hb:=hbk y hy
  unfold bv at hb
  simp only [Bool.and_eq_true,Bool.or_eq_true,beq_iff_eq] at hb
  rw [hsc,← e]
  rcases hb.2 with h | h
  · exact .inl h
  · exact .inr ⟨h,cJ _ _ _ (.inl h)⟩
section
variable {f:Fn}{vs:List V}{σ σ':St}
theorem sN (h:bi f.params vs=some σ) (e:exs C f.body σ = .bad):aE C f vs = .bad:=by unfold aE; rw [h]; dsimp only; rw [e]; rfl
theorem uC {c:String} (h:bi f.params vs=some σ) (e:exs C f.body σ = .exc c):aE C f vs = .exc c:=by unfold aE; rw [h]; dsimp only; rw [e]; rfl
theorem qG (h:bi f.params vs=some σ) (e:exs C f.body σ = .ok (σ',.next)):aE C f vs = .ok (.d .none,.deep):=by unfold aE; rw [h]; dsimp only; rw [e]; rfl
theorem uD {r:V × Mode} (h:bi f.params vs=some σ) (e:exs C f.body σ = .ok (σ',.ret r)):aE C f vs = .ok r:=by unfold aE; rw [h]; dsimp only; rw [e]; rfl
theorem tK (h:bi f.params vs=some σ) (e:exs C f.body σ = .bad):cj C f vs = .bad:=by unfold cj; rw [h]; dsimp only; rw [e]; rfl
theorem tG {c:String} (h:bi f.params vs=some σ) (e:exs C f.body σ = .exc c):cj C f vs = .exc c:=by unfold cj; rw [h]; dsimp only; rw [e]; rfl
theorem kZ (h:bi f.params vs=some σ) (e:exs C f.body σ = .ok (σ',.next)):cj C f vs=dX σ':=by unfold cj; rw [h]; dsimp only; rw [e]; rfl
theorem tn {r:V × Mode} (h:bi f.params vs=some σ) (e:exs C f.body σ = .ok (σ',.ret r)):cj C f vs = .bad:=by unfold cj; rw [h]; dsimp only; rw [e]; rfl
end
theorem lS {A:Around}{env:Env}{s s₁:Shared}{c:String}{x:Value}{R:Shared→Prop}{E:Value→Shared→Prop} (kp:Kp s s₁) (lv:Lv A env s₁.heap) (ex:Exc (dom s.heap) s₁.heap c env.locals x) (hR:∀ s',XPc c s x s'→R s') :
    wpAny (model prog w) A (leaving env x) (fun uu s'=>R s') E s₁:=by
  refine ao (lv) fun l l1 l2 l3=>?_
  try clear lv
  refine av (kp) fun h₁ tk₁ E9 k₁=>?_
  try clear kp
  subst E9
  refine CI (N:=dom s.heap) (fun b hb=>?_) l1 l2 l3 ex fun h' fl kg=>hR _ ⟨(az h' tk₁ rfl (Mine.K.step k₁ kg fun b o e=>⟨o,e⟩)),fl⟩
  refine ai (hb) fun o e=>?_
  try clear hb
  refine aa (k₁ b o (.inl trivial) e) fun o' e' _=>?_
  exact ⟨o',e'⟩
set_option maxHeartbeats 1000000 in
theorem kv (hf:fns.hand=false) {fn:Fn}{ft:FnT}{fa:Addr} (hC:b6 prog w { fns with lam:=ft.lam } k C XPc) (hok:okF ft fn=true) {A:Around}{P:Addr→Prop}{s:Shared}{Q:Value→Shared→Prop}{Er:Value→Shared→Prop}{xs:List V}{vals:List Value}{as:List Addr}
    (hroom:Room fns.hand (k + 1) A) (hfr:∃ l,A.frames=some l∧FrOk s.heap l) (ge:GE fns s.heap) (hfa:FnAt s.heap ft fa) (rs:RVs prog w s.heap xs vals as) (ha:∀ a∈as,P a) (nb:aE C fn xs≠.bad) (hQ:∀ r,aE C fn xs = .ok r→∀ v s',EP prog w P s r v s'→Q v s') (hE:∀ c,aE C fn xs = .exc c→∀ x s',XPc c s x s'→Er x s') :
    wpAny (model prog w) A (call (.ref fa) vals []) Q Er s:=by
  unfold okF at hok
  simp only [Bool.and_eq_true,decide_eq_true_eq,List.all_eq_true] at hok
  refine ae (hok) fun Fa hfree=>?_
  try clear hok
  refine ae (Fa) fun Fb hbody=>?_
  try clear Fa
  refine ae (Fb) fun Fc hnd=>?_
  try clear Fb
  refine ae (Fc) fun hps hbk=>?_
  try clear Fc
  cases hσ:bi fn.params xs with
  | none=>exact absurd (by unfold aE; rw [hσ]) nb
  | some σ=>
  obtain ⟨hlen,fp,hfp⟩:=l4 rs hσ
  refine rf (hfa) fun o fd ho hd hbd hsc hgl hcl hbl hcr hcode hbind hco hgen hkind=>?_
  try clear hfa
  rw [hps] at hbind
  refine wpAny_call (oj (by have:=hroom.at hf; exact CO this) ho hd ge.nolim hcr hbd (hbind vals hlen) hcl (jL hsc hbk) (fun s₁ X=>?_) hco hgen hkind)
  refine aY (X.x.toInCall.same) fun h₁ tk₁ Fd=>?_
  subst Fd
  have K:=kQ (k:=k) (ft:=ft) (fa:=fa) (σ:=σ) (pn:=fn.params) (pv:=vals) (fp:=fp) (P:=P) hf hnd hbk hfree hroom.1 (Nat.lt_of_le_of_lt (by exact Nat.le_succ _) (hroom.at hf).1) (Nat.lt_of_le_of_lt (by exact BA) (hroom.at hf).2) hfr ge hsc hgl hbl hkind hcode X fun x q hq=>by
    obtain ⟨h1,V,v,h2,h3,h4,h5⟩:=hfp x q hq
    exact (aG h1 (bp V v h2 h3 h4 (fun a h=>ha a (h5 a h))))
  have kp:∀ s',Stp (fun b=>∃ o,s.heap.get? b=some o) { s with heap:=h₁,toks:=tk₁ } s'→Kp s s':=fun s' st=>by
    refine av (st) fun h' tk' Ff kk=>?_
    try clear st
    subst Ff
    exact (az h' tk' rfl (Mine.K.step (Mine.K.of X.x.toInCall.keep) kk fun b o e=>⟨o,e⟩))
  have okb:cg (callEnvC fd s.heap.objs.size fa).scope.names fn.body ft.body=true:=by show cg fd.scope.names fn.body ft.body=true; rw [hsc]; exact hbody
  cases hex:exs C fn.body σ with
  | bad=>exact absurd (sN hσ hex) nb
  | exc c=>exact lw (fns:={ fns with lam:=ft.lam }) hf hC fn.body okb K hex fun x s' st lv ex=>lS (kp s' st) lv ex fun s'' X=>hE c (uC hσ hex) x s'' X
  | ok o=>
    obtain ⟨σ',fl⟩:=o
    refine lg (fns:={ fns with lam:=ft.lam }) hf hC fn.body okb K hex (fun e s' vals' fp' st K' _=>?_) fun q e v s' st R=>?_
    · subst e
      exact hQ _ (qG hσ hex) _ _ (.scalar (kp s' st) .none rfl (by simp))
    · subst e
      refine bG (R) fun as' h1 h2 h3 h4=>?_
      try clear R
      exact hQ _ (uD hσ hex) _ _ ⟨kp s' st,as',h1,h2,h3,h4⟩
end
end Mine
namespace Mine
set_option tactic.hygienic false
set_option linter.unusedVariables false
open PySem PyProof.Rows
set_option linter.unusedSectionVars false
variable [SF:Soft]
theorem ld {env:Env}:∀ (l1 l2:List Stmt),execs (l1 ++ l2) env=(execs l1 env >>= fun f=>match f with | .next=>execs l2 env | f=>pure f)
  | [],l2=>rfl
  | st :: l1,l2=>by
    rw [List.cons_append,execs_cons,execs_cons,bind_assoc]
    congr 1
    funext f
    cases f with
    | next=>exact ld l1 l2
    | _=>rfl
noncomputable def dM (ns:List (Str × NameKind)) (n:String) (e:E) (st:Stmt):Bool:=al (lL st) fun q=>al (bN q.1) fun t=>al (jp t) fun u=>al (bX u.1) fun m=>m.1 == Str.ofString "self" && u.2.1 == Str.ofString n && okE ns e q.2.1
theorem i0 {ns:List (Str × NameKind)}{n:String}{e:E}{st:Stmt} (h:dM ns n e st=true):∃ p1 p2 v p,st = .Assign [.Attribute (.Name (Str.ofString "self") p1) (Str.ofString n) p2] v p∧okE ns e v=true:=by
  refine aa (ah h) fun q e1 h=>?_
  refine aa (ah h) fun t e2 h=>?_
  refine aa (ah h) fun u e3 h=>?_
  refine aa (ah h) fun m e4 h=>?_
  simp only [Bool.and_eq_true,beq_iff_eq] at h
  refine (dz m.2 u.2.2 q.2.1 q.2.2 ?_ h.2)
  rw [iY e1,be e2,fh e3,aW e4,h.1.1,h.1.2]
noncomputable def dE:E:=.bi1 .len (.sub (.name "full") (.int 0))
noncomputable def ok3 (ns:List (Str × NameKind)) (l:List Stmt):Bool:=al (gT l) fun p=>al (gT p.2) fun q=>al (gT q.2) fun r=>r.2.isEmpty && (dM ns "count" (.name "count") p.1 && (dM ns "full" (.name "full") q.1 && dM ns "size" dE r.1))
theorem wJ {ns:List (Str × NameKind)}{l:List Stmt} (h:ok3 ns l=true):∃ a b c,l=[a,b,c]∧dM ns "count" (.name "count") a=true∧dM ns "full" (.name "full") b=true∧dM ns "size" dE c=true:=by
  obtain ⟨p,h1,h⟩:=ah h
  obtain ⟨q,h2,h⟩:=ah h
  obtain ⟨r,h3,h⟩:=ah h
  have e:=bA h
  have e2:=bA e.2
  have e3:=bA e2.2
  refine (fx p.1 q.1 r.1 ?_ e2.1 e3.1 e3.2)
  rw [c8 h1,c8 h2,c8 h3,List.isEmpty_iff.mp e.1]
noncomputable def okI (ft:FnT) (f:Fn):Bool:=decide (ft.params = "self" :: f.params) && ft.params.all (bv ft.scope.names) && decide ft.params.Nodup && cg ft.scope.names f.body (ft.body.take (ft.body.length - 3)) && ok3 ft.scope.names (ft.body.drop (ft.body.length - 3)) && decide ("self" ∉ gR f.body) && (ft.scope.names.all fun p=>p.2 != .free) && !ft.lam
section
variable {prog:Program}{w:World}{fns:Fns}{k:Nat}{C:Calls}
noncomputable def But2 (x D:Addr) (h h':Heap):Prop:=∀ b o,b≠x→b≠D→h.get? b=some o→h'.get? b=some o
theorem But2.kk {x D:Addr}{h0 h h':Heap} (a:But2 x D h h') (k:K h0 h) (hx:h0.get? x=none) (hD:h0.get? D=none) (nx:∀ o,h.get? x=some o→¬ Stay o) (nD:∀ o,h.get? D=some o→¬ Stay o):K h0 h' :=
  K.step k (G:=fun b=>b≠x∧b≠D) (.of fun b o hb e=>a b o (fun q=>hb.elim (fun h=>h.1 q) (nx o (q▸e))) (fun q=>hb.elim (fun h=>h.2 q) (nD o (q▸e))) e) fun b o e=>⟨fun q=>(by rw [q,hx] at e; cases e),fun q=>(by rw [q,hD] at e; cases e)⟩
theorem Loc.but2 {x D:Addr}{h h':Heap}{env:Env}{Z:Addr→Prop}{vals:String→Option Value} (L:Loc env Z h vals) (a:But2 x D h h') (hx:Z x) (hD:Z D):Loc env Z h' vals where
  cls:=aa (L.cls) fun o e c=>(ag o (a _ o (fun q=>L.nz (q▸hx)) (fun q=>L.nz (q▸hD)) e) c)
  ns:=let ⟨m,⟨o,es,ep,e,r⟩,q⟩:=L.ns; (ag m (bQ o es ep (a _ o (fun q=>L.nz (q▸hx)) (fun q=>L.nz (q▸hD)) e) r) q)
  nz:=L.nz
  cell:=fun n c q1 q2=>by
    refine aB (L.cell n c q1 q2) fun h1 h2 Fv=>?_
    refine av (Fv) fun v o e r=>?_
    try clear Fv
    exact (bJ h1 h2 (az v o (a c o (fun q=>h2 (q▸hx)) (fun q=>h2 (q▸hD)) e) r))
  cval:=fun y v c q1 q2 q3=>by
    refine aB (L.cell _ c q2 q3) fun uu h2 _=>?_
    refine aa (L.cval y v c q1 q2 q3) fun o e r=>?_
    exact (ag o (a c o (fun q=>h2 (q▸hx)) (fun q=>h2 (q▸hD)) e) r)
  apart:=L.apart
  kinds:=L.kinds
theorem hH {A:Around}{h:Heap}{g:Array GenState}{dr:Drawn}{tk:Nat}{os:OsState}{E:Value→Shared→Prop}{x D:Addr}{mA:Str→Option Value}{n:String}{v:Value}{Q:Unit→Shared→Prop}{ns:List Str} (ge:RuleAt fns h) (hn:n∈fieldNames) (hw:Within mA ns) (hs:ns.length≤8) (hxC:x≠SF.rule)
    (I:h.Inst x SF.rule mA) (hd:∀ o,h.get? x=some o→o.dict=some D)
    (hQ:∀ h' tk',h'.Inst x SF.rule (fun y=>if y=Str.ofString n then some v else mA y)→But2 x D h h'→(∀ o,h'.get? x=some o→o.dict=some D)→Q () ⟨h',g,dr,tk',os⟩) :
    wpAny (model prog w) A (setAttr (.ref x) (Str.ofString n) v) Q E ⟨h,g,dr,tk,os⟩:=by
  refine ay (ge) fun N mN E5 quiet _=>?_
  try clear ge
  obtain ⟨E6,hN⟩:=E5
  refine dC (E6) fun nm q bs' sn sub col dd k0 k1 k2 k3 k5 hC=>?_
  try clear E6
  have hB:typeLookup (.type "object") (Str.ofString n)=pure none:=by
    simp only [fieldNames,List.mem_cons,List.not_mem_nil,or_false] at hn
    rcases hn with rfl | rfl | rfl
    · exact jo
    · exact lu
    · exact kS
  have hq:mN (Str.ofString n)=none:=quiet n (by
    simp only [fieldNames,List.mem_cons,List.not_mem_nil,or_false] at hn
    rcases hn with rfl | rfl | rfl <;> simp)
  refine store_attr PySem.F.store_object hC hN (quiet "__setattr__" (by simp)) hq hB hxC I (fun h' tk' I' hk hsame=>?_) hw (by rw [sizeLine_eq]; exact zY hs)
  refine aa (I) fun o e _=>?_
  try clear I
  have hdo:=hd o e
  refine hQ h' tk' I' (fun b ob h1 h2 eb=>hk b ob h1 (fun o₀ dx e₀ ed=>by rw [e] at e₀; (have oc:=Option.some.inj e₀; clear e₀; subst oc); rw [hdo] at ed; (have oc:=Option.some.inj ed; clear ed; subst oc); exact h2) eb) fun o' e'=>?_
  refine iC (hsame o e) fun o₁ e₁ _ _ _ hdd=>?_
  rw [e'] at e₁; (have oc:=Option.some.inj e₁; clear e₁; subst oc)
  exact hdd D hdo
theorem Inst.ns1 {h:Heap}{x Cl D:Addr}{mA:Str→Option Value} (I:h.Inst x Cl mA) (hd:∀ o,h.get? x=some o→o.dict=some D):∃ o,h.get? x=some o∧o.cls = .ref Cl∧(∀ c,o.data≠.cls c)∧o.dict=some D∧D≠x∧h.Ns1 D mA:=by
  refine bG (I) fun o e h1 h2 h3=>?_
  try clear I
  have:=hd o e
  rcases h3 with ⟨q,_⟩ | ⟨d,q1,q2,q3⟩
  · rw [this] at q; exact nM q
  · rw [this] at q1; (have oc:=Option.some.inj q1; clear q1; subst oc)
    exact (iy o e h1 h2 this q2 q3)
theorem Inst.kk {h h':Heap}{x Cl D:Addr}{mA:Str→Option Value} (I:h.Inst x Cl mA) (hd:∀ o,h.get? x=some o→o.dict=some D) (k:K h h'):h'.Inst x Cl mA∧∀ o,h'.get? x=some o→o.dict=some D:=by
  refine gA (Inst.ns1 I hd) fun o e h1 h2 h3 h4 E7=>?_
  refine aS (E7) fun oD es ep eD hdD r=>?_
  try clear E7
  have e':=K.get k e (by unfold hardB; rw [h1])
  obtain ⟨oD',eD',q,_⟩:=K.data k eD fun fs q=>by rw [hdD] at q; cases q
  exact ⟨(a7 o e' h1 h2 (.inr (aA D h3 h4 (cu oD' es ep eD' (q.trans hdD) r)))),fun o' q=>by rw [e'] at q; (have oc:=Option.some.inj q; clear q; subst oc); exact h3⟩
theorem qV {σ:St}{c:String} (h:dX σ = .exc c):False:=by
  unfold dX at h
  refine ai (b8 h) fun uu h=>?_
  refine ai (b8 h) fun uu h=>?_
  refine ai (b8 h) fun uu h=>?_
  refine ai (b8 h) fun uu h=>?_
  refine ai (b8 h) fun uu h=>?_
  refine ai (b8 h) fun uu h=>?_
  refine ai (b8 h) fun uu h=>?_
  refine ai (b8 h) fun uu h=>?_
  split at h <;> cases h
set_option maxHeartbeats 2000000 in
theorem pC {σ:St}{r:V × Mode} (h:dX σ = .ok r):∃ ci mc rows ys,r=(.rule ci (.list rows) (ys:List PyData).length,.deep)∧σ "count" = some (.d (.int ci),mc)∧σ "full" = some (.d (.list rows),.deep)∧rows[0]? = some (.list ys):=by
  unfold dX at h
  obtain ⟨⟨pc,mc⟩,hc1,h⟩:=aD h
  obtain ⟨dc,hc2,h⟩:=aD h
  obtain ⟨ci,hc3,h⟩:=aD h
  obtain ⟨⟨pf,mf⟩,hf1,h⟩:=aD h
  obtain ⟨df,hf2,h⟩:=aD h
  obtain ⟨rows,hf3,h⟩:=aD h
  obtain ⟨row0,hf4,h⟩:=aD h
  obtain ⟨ys,hf5,h⟩:=aD h
  by_cases hd:mf = .deep
  · rw [if_pos hd] at h
    have e1:=cL hc2
    have e2:=cy hc3
    have e3:=cL hf2
    have e4:=ce hf3
    have e5:=ce hf5
    dsimp only at e1 e3
    rw [e1,e2] at hc1
    rw [e3,e4,hd] at hf1
    rw [e5] at hf4
    exact (gG ci mc rows ys ((Out.ok.inj h).symm) hc1 hf1 hf4)
  · rw [if_neg hd] at h; exact nB h
theorem uc {σ:St}{rows ys:List PyData} (hf1:σ "full" = some (.d (.list rows),.deep)) (hf4:rows[0]? = some (.list ys)):ev C dE (bV σ ["full"]) = .ok (sI ys.length):=by
  have h1:bV σ ["full"] "full" = some (.d (.list rows),.deep):=by unfold bV; rw [if_pos (by simp)]; exact hf1
  have h2:oM (.list rows) 0=some (.list ys):=by
    show (bF 0 rows.length).bind (fun k=>rows[k]?)=_
    have hl:0<rows.length:=(List.getElem?_eq_some_iff.mp hf4).1
    unfold bF
    rw [if_pos (Int.le_refl 0),if_pos (by exact la3 hl)]
    exact hf4
  unfold dE
  rw [iw,iD,cZ,fV,h1]
  show ((d6 (.list rows) (.int 0)).bind _)=_
  unfold d6
  rw [show dK (.int 0)=some 0 from rfl]
  simp only [aC,h2,Out.ok_bind]
  rfl
theorem rP (C:Calls) (hf:fns.hand=false) {A:Around}{env:Env}{P:Addr→Prop}{hh h' hs:Heap}{g:Array GenState}{dr:Drawn}{tk tk':Nat}{os:OsState}{x D:Addr}{σ:St}{vals:String→Option Value}{fp:String→List Addr}{Q:Flow→Shared→Prop}{Er:Value→Shared→Prop}
    {ci:Int}{mc:Mode}{rows ys:List PyData}{a3 b3 c3:Stmt} (Mk:Heap.MadeObj hh h' x D SF.rule) (hxC:x≠SF.rule) (kh:K h' hs) (ge:GE fns hh) (R0:RuleAt fns hh) (hlam:fns.lam=false)
    (K':SOK prog w fns k h' P (fun b=>∃ o,h'.get? b=some o) A env hs σ vals fp) (hfr:∃ l,A.frames=some (env :: l)∧FrOk hh l) (hvs:vals "self" = some (.ref x))
    (hc1:σ "count" = some (.d (.int ci),mc)) (hf1:σ "full" = some (.d (.list rows),.deep)) (hf4:rows[0]? = some (.list ys))
    (o1:dM env.scope.names "count" (.name "count") a3=true) (o2:dM env.scope.names "full" (.name "full") b3=true) (o3:dM env.scope.names "size" dE c3=true)
    (hQ:∀ s',EP prog w P ⟨hh,g,dr,tk,os⟩ (.rule ci (.list rows) ys.length,.deep) (.ref x) s'→Q .next s'):wpAny (model prog w) A (execs [a3,b3,c3] env) Q Er ⟨hs,g,dr,tk',os⟩:=by
  have kM:K hh h':=.of Mk.keeps
  have Zx:∃ o,h'.get? x=some o:=by obtain ⟨o,e,_⟩:=Mk.inst; exact ⟨o,e⟩
  refine gA (Inst.ns1 Mk.inst Mk.dict) fun ox ex hxc hxd hxdict hDx hNs=>?_
  have ZD:∃ o,h'.get? D=some o:=by obtain ⟨o,_,_,e,_⟩:=hNs; exact ⟨o,e⟩
  have kall:K hh hs:=KG.trans kM kh
  refine ae (K'.val "count" _ hc1) fun uu F1=>?_
  refine ao (F1) fun vc hvc Ft _=>?_
  try clear F1
  refine ae (Ft) fun rvc _=>?_
  try clear Ft
  refine aa (rvc.isInt) fun tc Fy _=>?_
  (clear rvc; subst Fy)
  refine ae (K'.val "full" _ hf1) fun uu GA=>?_
  refine ao (GA) fun vf hvf FA _=>?_
  try clear GA
  refine ae (FA) fun rvf zvf=>?_
  try clear FA
  refine ae (K'.deep "full" _ hf1 rfl) fun dp1 dp2=>?_
  refine ae (Inst.kk Mk.inst Mk.dict kh) fun I1 D1=>?_
  refine bP (i0 o1) fun q1 q2 v1 q3 FC ov1=>?_
  (clear o1; subst FC)
  refine bP (i0 o2) fun q4 q5 v2 q6 FE ov2=>?_
  (clear o2; subst FE)
  refine bP (i0 o3) fun q7 q8 v3 q9 FH ov3=>?_
  (clear o3; subst FH)
  refine ao (ji ov1) fun q10 FZ _ nd1=>?_
  subst FZ
  refine ao (ji ov2) fun q11 FW _ nd2=>?_
  subst FW
  have nds:aT "self" = true:=by decide
  have xStay:∀ {h:Heap}{mA:Str→Option Value},h.Inst x SF.rule mA→∀ o,h.get? x=some o→¬ Stay o:=fun I o e=>by
    refine ao (I) fun o' e' c' _=>?_
    try clear I
    rw [e] at e'; (have oc:=Option.some.inj e'; clear e'; subst oc)
    exact Stay.not_cls (by rw [c']; simp) (by rw [c']; simp)
  have dStay:∀ {h:Heap}{mA:Str→Option Value},h.Inst x SF.rule mA→(∀ o,h.get? x=some o→o.dict=some D)→(∀ o,h.get? D=some o→¬ Stay o)∧∀ o,h.get? D=some o→∀ vs n,o.data≠.seq vs n:=fun I d=>by
    obtain ⟨_,_,_,_,_,_,o',es,ep,e',hd',_⟩:=Inst.ns1 I d
    exact ⟨fun o e=>by rw [e] at e'; (have oc:=Option.some.inj e'; clear e'; subst oc); exact Stay.not_dict hd',fun o e vs n q=>by rw [e] at e'; (have oc:=Option.some.inj e'; clear e'; subst oc); rw [hd'] at q; cases q⟩
  have nxf:x∉fp "full" := fun q=>(dp1 x q).1 Zx
  have nDf:D∉fp "full" := fun q=>(dp1 D q).1 ZD
  have keepR:∀ {h h2:Heap}{mA:Str→Option Value},h.Inst x SF.rule mA→(∀ o,h.get? x=some o→o.dict=some D)→But2 x D h h2→R h vf (.list rows) (fp "full")→R h2 vf (.list rows) (fp "full"):=fun I d b r=>by
    refine r.on2 fun a o ha ⟨vs,n,hs⟩ e=>b a o (fun q=>?_) (fun q=>?_) e
    · (clear D1 I1 Mk Zx b d dStay ex hDx hQ hvs hxC xStay; subst q)
      refine ao (I) fun o' e' c' _=>?_
      try clear I
      rw [e] at e'; (have oc:=Option.some.inj e'; clear e'; subst oc)
      rcases ha with ha | ha
      · exact nxf ha
      · rw [c'] at ha; cases ha
    · (clear D1 Mk ZD b hDx hNs hxdict nDf; subst q)
      exact (dStay I d).2 o e vs n hs
  refine wpAny_execs_cons (plainObj_wpAny_Assign_Attribute (cI K'.eok.kind nd1 (K'.loc.var K'.eok hvc) (cI K'.eok.kind nds (K'.loc.var K'.eok hvs) (hH (fns:=fns) (R0.k kall) (by simp [fieldNames]) Within.nil (by simp) hxC I1 D1 fun h2 tk2 I2 b2 D2=>?_))) rfl)
  have k2:K hh h2:=b2.kk kall Mk.newX Mk.newD (xStay I1) (dStay I1 D1).1
  have L2:=K'.loc.but2 b2 Zx ZD
  refine wpAny_execs_cons (plainObj_wpAny_Assign_Attribute (cI K'.eok.kind nd2 (L2.var K'.eok hvf) (cI K'.eok.kind nds (L2.var K'.eok hvs) (hH (fns:=fns) (R0.k k2) (by simp [fieldNames]) (Within.cons _ _ Within.nil) (by simp) hxC I2 D2 fun h3 tk3 I3 b3 D3=>?_))) rfl)
  have k3:K hh h3:=b3.kk k2 Mk.newX Mk.newD (xStay I2) (dStay I2 D2).1
  have L3:=L2.but2 b3 Zx ZD
  have rf3:R h3 vf (.list rows) (fp "full"):=keepR I2 D2 b3 (keepR I1 D1 b2 rvf)
  have he:ev C dE (bV σ ["full"]) = .ok (sI ys.length):=uc hf1 hf4
  have cx3:Cx prog w fns k A (fun uu=>True) h3 env (bV σ ["full"]):=by
    refine ⟨K'.room,K'.eok,ge.k k3,(fun q=>by rw [hlam] at q; cases q),fun q=>?_,fun y py hy _=>?_⟩
    · refine bG (K'.out q) fun l e1 e2 e3 e4=>?_
      refine aa (hfr) fun l' f1 f2=>?_
      refine (ag _ f1 (fun env' he'=>?_))
      rcases List.mem_cons.mp he' with rfl | he'
      · refine aa (L3.ns) fun m F2 _=>?_
        refine aS (F2) fun o es ep g1 g2 _=>?_
        refine aa (L3.cls) fun o' g3 g4=>?_
        rw [g1] at g3; (have oc:=Option.some.inj g3; clear g3; subst oc)
        exact (aG K'.eok.kind (iK _ _ es ep e3 e4 g1 g4 g2))
      · exact (f2.k k3) env' he'
    · unfold bV at hy
      split at hy
      · rename_i hm
        rw [List.mem_singleton.mp hm] at hy ⊢
        rw [hf1] at hy; (have oc:=Option.some.inj hy; clear hy; subst oc)
        exact (aK vf (fp "full") (L3.var K'.eok hvf) ⟨rf3,zvf⟩ (fun uu uu=>trivial))
      · exact nN hy
  have S3:SimE prog w fns k C XPc dE:=og hf (oK bk (jd "full") (km 0))
  refine wpAny_execs_cons (plainObj_wpAny_Assign_Attribute (S3 ov3 cx3 (by rw [he]; simp) (fun r hr v s4 E4=>?_) (fun c hc=>by rw [he] at hc; cases hc)) (by
    refine Or.elim (wd ov3) (fun Fe=>?_) (fun q=>?_)
    · refine bP (Fe) fun FK FR Ga FX FO FT=>?_
      clear Fe
      subst FO
      rfl
    · cases q))
  rw [he] at hr; (have oc:=Out.ok.inj hr; clear hr; subst oc)
  obtain ⟨FV,as4,Gl,_⟩:=E4
  refine av (FV) fun h4 tk4 Gk k34=>?_
  try clear FV
  subst Gk
  refine ae (Gl) fun rv4 _=>?_
  try clear Gl
  refine aa (rv4.isInt) fun t4 F8 _=>?_
  (clear rv4; subst F8)
  refine ae (Inst.kk I3 D3 k34) fun I4 D4=>?_
  have k4:K hh h4:=KG.trans k3 k34
  have L4:=L3.onK k34
  refine cI K'.eok.kind nds (L4.var K'.eok hvs) (hH (fns:=fns) (R0.k k4) (by simp [fieldNames]) (Within.cons _ _ (Within.cons _ _ Within.nil)) (by simp) hxC I4 D4 fun h5 tk5 I5 b5 D5=>?_)
  have k5':K hh h5:=b5.kk k4 Mk.newX Mk.newD (xStay I4) (dStay I4 D4).1
  have rf5:R h5 vf (.list rows) (fp "full"):=keepR I4 D4 b5 (rf3.k k34)
  refine gA (Inst.ns1 I5 D5) fun o5 e5 c5 d5 di5 ne5 ns5=>?_
  have nh:∀ a,¬ (∃ o,h'.get? a=some o)→hh.get? a=none:=fun a q=>by
    cases e:hh.get? a with
    | none=>rfl
    | some o=>exact absurd ⟨o,Mk.keeps a o e⟩ q
  refine wpAny_execs_nil (hQ _ ⟨(az h5 tk5 rfl k5'),x :: D :: fp "full", (hU x D o5 vf (fp "full") tc t4 _ rfl rfl e5 c5 d5 di5 ne5 ns5 ?_ ?_ ?_ ?_ rf5 zvf),fun a ha'=>.inr ?_,(fun q=>by cases q),fun uu=>⟨fun a ha'=>?_,?_⟩⟩)
  · rfl
  · rfl
  · rfl
  · intro m hm
    simp only [methNames,List.mem_cons,List.not_mem_nil,or_false] at hm
    rcases hm with rfl | rfl | rfl | rfl | rfl <;> rfl
  · rcases List.mem_cons.mp ha' with rfl | ha'
    · exact Mk.newX
    · rcases List.mem_cons.mp ha' with rfl | ha'
      · exact Mk.newD
      · exact nh a (dp1 a ha').1
  · rcases List.mem_cons.mp ha' with rfl | ha'
    · exact Mk.newX
    · rcases List.mem_cons.mp ha' with rfl | ha'
      · exact Mk.newD
      · exact nh a (dp1 a ha').1
  · refine List.nodup_cons.mpr ⟨fun q=>?_,List.nodup_cons.mpr ⟨nDf,dp2⟩⟩
    rcases List.mem_cons.mp q with q | q
    · exact ne5 q.symm
    · exact nxf q
theorem rU (hf:fns.hand=false) {fn:Fn}{p:Addr × FnT} (hp:fns.init=some p) (hC:b6 prog w { fns with lam:=p.2.lam } k C XPc) (hok:okI p.2 fn=true) {A:Around}{P:Addr→Prop}{s:Shared}{Q:Value→Shared→Prop}{Er:Value→Shared→Prop}{xs:List V}{vals:List Value}{as:List Addr}
    (hroom:Room fns.hand (k + 1) A) (hfr:∃ l,A.frames=some l∧FrOk s.heap l) (ge:GE fns s.heap) (rs:RVs prog w s.heap xs vals as) (ha:∀ a∈as,P a) (nb:cj C fn xs≠.bad) (hQ:∀ r,cj C fn xs = .ok r→∀ v s',EP prog w P s r v s'→Q v s') (hE:∀ c,cj C fn xs = .exc c→∀ x s',XPc c s x s'→Er x s') :
    wpAny (model prog w) A (call (.ref SF.rule) vals []) Q Er s:=by
  unfold okI at hok
  simp only [Bool.and_eq_true,decide_eq_true_eq,List.all_eq_true,Bool.not_eq_true'] at hok
  refine ae (hok) fun E8 hlam=>?_
  try clear hok
  refine ae (E8) fun E9 hfree=>?_
  try clear E8
  refine ae (E9) fun Fa hself=>?_
  try clear E9
  refine ae (Fa) fun Fb hlast=>?_
  try clear Fa
  refine ae (Fb) fun Fc hbody=>?_
  try clear Fb
  refine ae (Fc) fun Fd hnd=>?_
  try clear Fc
  refine ae (Fd) fun hps hbk=>?_
  try clear Fd
  refine dO (wJ hlast) fun a3 b3 c3 hl3 o1 o2 o3=>?_
  cases hσ:bi fn.params xs with
  | none=>exact absurd (by unfold cj; rw [hσ]) nb
  | some σ=>
    refine ae (l4 rs hσ) fun hlen Fw=>?_
    refine ai (Fw) fun fp hfp=>?_
    try clear Fw
    have R0:=ge.cls (.inr (by rw [hp]; rfl))
    refine aZ (R0) fun N mN Ff quiet Fi _=>?_
    try clear R0
    obtain ⟨Fh,hN⟩:=Ff
    refine dC (Fh) fun nm q bs' sn sub col dd k0 k1 k2 k3 k5 hCl=>?_
    try clear Fh
    refine jG (Fi) fun p' oI i1 i2 i3 i4 i5=>?_
    try clear Fi
    rw [hp] at i1; (have oc:=Option.some.inj i1; clear i1; subst oc)
    obtain ⟨hh,g,dr,tk,os⟩:=s
    refine wpAny_call_obj_init PySem.F.objNew hCl hN i2 i4 i5 fun h' x D Mk=>?_
    have hxC:x≠SF.rule:=fun q=>by have:=Mk.newX; rw [q] at this; rw [this] at hCl; exact nN hCl
    have kM:K hh h':=.of Mk.keeps
    refine rf (i3.k kM) fun o fd ho hd hbd hsc hgl hcl hbl hcr hcode hbind hco hgen hkind=>?_
    rw [hps] at hbind
    refine ae (hroom.at hf) fun r1 r2=>?_
    have ge':GE fns h':=ge.k kM
    have K0fp:∀ y q,σ y=some q→y ∈ "self" :: fn.params∧∃ V v,q=mk V∧(("self" :: fn.params).zip (.ref x :: vals)).lookup y=some v∧RV prog w h' v V (fp y)∧∀ a∈fp y,P a:=fun y q hq=>by
      refine ae (hfp y q hq) fun h1 FI=>?_
      refine aZ (FI) fun V v h2 h3 h4 h5=>?_
      try clear FI
      have hys:y ≠ "self" := fun e=>by
        rw [hps] at hnd
        exact (List.nodup_cons.mp hnd).1 (e▸h1)
      refine (aG (.tail _ h1) (bp V v h2 ?_ (h4.k kM) (fun a h=>ha a (h5 a h))))
      rw [List.zip_cons_cons,List.lookup_cons,beq_eq_false_iff_ne.mpr hys]
      exact h3
    have hu:(A.under (.builtin "type.__call__" ⟨.ref SF.rule :: vals,[]⟩)).units≤A.units + 50:=by
      have:(Code.builtin "type.__call__" ⟨.ref SF.rule :: vals,[]⟩).cUnits≤50:=by
        have:(Code.builtin "type.__call__" ⟨.ref SF.rule :: vals,[]⟩).cUnits=1 + 3 * (Code.builtin "type.__call__" ⟨.ref SF.rule :: vals,[]⟩).frames:=rfl
        rw [this]
        have:(Code.builtin "type.__call__" ⟨.ref SF.rule :: vals,[]⟩).frames≤1:=by first | exact Nat.le_refl _ | exact Nat.zero_le _
        exact z2 this
      show A.units + _≤_
      exact zC this
    refine wpAny_call (oj (s:=⟨h',g,dr,tk,os⟩) (A:=A.under (.builtin "type.__call__" ⟨.ref SF.rule :: vals,[]⟩)) (by rw [depth_under_make]; exact Bc r1) ho hd (oE ge.nolim kM) hcr hbd (hbind (.ref x :: vals) (by rw [List.length_cons,List.length_cons,hlen])) hcl (jL hsc (fun y hy=>hbk y (hps▸hy))) (fun s₁ X=>?_) hco hgen hkind)
    refine aY (X.x.toInCall.same) fun h₁ tk₁ Fm=>?_
    subst Fm
    have hk₁:=X.x.toInCall.keep
    have KS:=kQ (k:=k) (ft:=p.2) (fa:=p.1) (σ:=σ) (pn := "self" :: fn.params) (pv:=.ref x :: vals) (fp:=fp) (P:=P) (s:=⟨h',g,dr,tk,os⟩) hf (hps▸hnd) (fun y hy=>hbk y (hps▸hy)) hfree (A:=A.under (.builtin "type.__call__" ⟨.ref SF.rule :: vals,[]⟩)) hroom.1 (by rw [depth_under_make]; exact Br r1) (Nat.lt_of_le_of_lt (by exact z3 hu) r2) (by
      refine aa (hfr) fun l e1 e2=>?_
      try clear hfr
      exact (ag l e1 (e2.k kM))) ge' hsc hgl hbl hkind hcode X K0fp
    have hsplit:p.2.body=p.2.body.take (p.2.body.length - 3) ++ [a3,b3,c3]:=by rw [← hl3]; exact (List.take_append_drop _ _).symm
    rw [hsplit,ld]
    refine wpAny_bind ?_
    have okb:cg (callEnvC fd h'.objs.size p.1).scope.names fn.body (p.2.body.take (p.2.body.length - 3))=true:=by show cg fd.scope.names fn.body _=true; rw [hsc]; exact hbody
    cases hex:exs C fn.body σ with
    | bad=>exact absurd (tK hσ hex) nb
    | exc c=>
      refine lw (fns:={ fns with lam:=p.2.lam }) hf hC fn.body okb KS hex fun x s' st lv ex=>?_
      have kp:Kp ⟨h',g,dr,tk,os⟩ s':=by
        refine av (st) fun h₂ tk' Fr kk=>?_
        try clear st
        (clear ex lv; subst Fr)
        exact (az h₂ tk' rfl (Mine.K.step (Mine.K.of hk₁) kk fun b o e=>⟨o,e⟩))
      exact lS kp lv ex fun s'' X=>hE c (tG hσ hex) x s'' (.of (az h' tk rfl kM) X)
    | ok o=>
    obtain ⟨σ',fl⟩:=o
    cases fl with
    | ret q=>exact absurd (tn hσ hex) nb
    | next=>
    cases hfl:dX σ' with
    | bad=>exact absurd ((kZ hσ hex).trans hfl) nb
    | exc c=>
      exact (qV hfl).elim
    | ok r=>
    replace hQ:=hQ r ((kZ hσ hex).trans hfl)
    refine bI (pC hfl) fun ci mc rows ys er hc1 hf1 hf4=>?_
    refine lg (fns:={ fns with lam:=p.2.lam }) hf hC fn.body okb KS hex (fun uu s' vals' fp' st K' F=>?_) fun q e=>by cases e
    refine av (st) fun hs' tk' Fp kgs=>?_
    (clear st; subst Fp)
    rw [er] at hQ
    have R0:=ge.cls (.inr (by rw [hp]; rfl))
    refine rP (fns:={ fns with lam:=p.2.lam }) C hf Mk hxC (Mine.K.step (Mine.K.of hk₁) kgs fun b o e=>⟨o,e⟩) (ge.flag _ _) R0 hlam K' ?_ ?_ hc1 hf1 hf4 (by show dM fd.scope.names _ _ _=true; rw [hsc]; exact o1) (by show dM fd.scope.names _ _ _=true; rw [hsc]; exact o2) (by show dM fd.scope.names _ _ _=true; rw [hsc]; exact o3) fun s' E=>⟨rfl,hQ _ _ E⟩
    · refine aa (hfr) fun l' f1 f2=>?_
      exact (ag l' (Around.frames_deeper (A:=A.under (.builtin "type.__call__" ⟨.ref SF.rule :: vals,[]⟩)) f1) f2)
    · rw [(F.1 "self" hself).1]
      show (("self" :: fn.params).zip (Value.ref x :: vals)).lookup "self" = _
      rw [List.zip_cons_cons,List.lookup_cons,beq_self_eq_true]
end
end Mine
namespace Mine
set_option tactic.hygienic false
set_option linter.unusedVariables false
open PySem PyProof.Rows
set_option linter.unusedSectionVars false
variable [SF:Soft]
section
variable {prog:Program}{w:World}{fns:Fns}{L:List (String × Fn)}
noncomputable def uZ (fns:Fns) (L:List (String × Fn)):Prop:=∀ f fn,L.lookup f=some fn→(f∈aM→f∈SF.excN)∧(f∉aM→if f = "Rule" then ∃ p,fns.init=some p∧okI p.2 fn=true else if f∈methNames then ∃ p,fns.mth f=some p∧okF p.2 fn=true∧p.2.lam=false else ∃ p,fns.fn f=some p∧okF p.2 fn=true∧p.2.lam=true)
theorem wk {ft:FnT}{f:Fn} (h:okI ft f=true):ft.lam=false:=by
  unfold okI at h
  simp only [Bool.and_eq_true,Bool.not_eq_true'] at h
  exact h.2
theorem rK (hf:fns.hand=false) (hL:uZ fns L):∀ n,b6 prog w { fns with lam:=true } n (mkC L n) XPc∧b6 prog w { fns with lam:=false } n (aH (mkC L n)) XPc
  | 0=>⟨(fun f g h=>by cases h),fun f g h=>by
    unfold aH at h
    split at h <;> cases h⟩
  | n + 1=>by
    refine ae (rK hf hL n) fun i1 i2=>?_
    have main:∀ (b:Bool) (f:String) (g:List V→Out (V × Mode)),mkC L (n + 1) f=some g→(f∈aM→f∈SF.excN)∧(f∉aM→∃ a,adr { fns with lam:=b } f=some a∧∀ {A:Around}{P:Addr→Prop}{s:Shared}{Q:Value→Shared→Prop}{Er:Value→Shared→Prop}{xs:List V}{vals:List Value}{as:List Addr},
        Room fns.hand (n + 1) A→(∃ l,A.frames=some l∧FrOk s.heap l)→GE { fns with lam:=b } s.heap→RVs prog w s.heap xs vals as→(∀ a∈as,P a)→g xs≠.bad→(∀ r,g xs = .ok r→∀ v s',EP prog w P s r v s'→Q v s')→(∀ c,g xs = .exc c→∀ x s',XPc c s x s'→Er x s') →
        wpAny (model prog w) A (call (.ref a) vals []) Q Er s):=fun b f g h=>by
      refine aa (Option.map_eq_some_iff.mp (show (L.lookup f).map (fun fn vs=>bZ f (mkC L n) fn vs)=some g from h)) fun fn hfn E5=>?_
      (clear h; subst E5)
      refine ae (hL f fn hfn) fun h1 h2=>?_
      refine ⟨h1,fun he=>?_⟩
      replace h2:=h2 he
      by_cases hr:f = "Rule"
      · rw [if_pos hr] at h2
        refine aa (h2) fun p hp hok=>?_
        try clear h2
        refine (ag SF.rule (by unfold adr; rw [if_pos hr]; show (fns.init).map _=_; rw [hp]; rfl) (fun room fr ge rs ha nb hQ hE=>?_))
        have hk:∀ xs,bZ f (mkC L n) fn xs=cj (aH (mkC L n)) fn xs:=fun xs=>by unfold bZ; rw [if_pos hr]
        dsimp only at nb
        rw [hk] at nb
        refine rU (fns:={ fns with lam:=b }) hf (p:=p) hp (by rw [wk hok]; exact i2) hok room fr ge rs ha nb (fun r e=>hQ r ((hk _).trans e)) fun c e=>hE c ((hk _).trans e)
      · rw [if_neg hr] at h2
        by_cases hm:f∈methNames
        · rw [if_pos hm] at h2
          refine ao (h2) fun p hp hok hl=>?_
          try clear h2
          refine (ag p.1 (by rw [ot hr hm]; show (fns.mth f).map _=_; rw [hp]; rfl) (fun room fr ge rs ha nb hQ hE=>?_))
          have hk:∀ xs,bZ f (mkC L n) fn xs=aE (aH (mkC L n)) fn xs:=fun xs=>by unfold bZ; rw [if_neg hr,if_pos hm]
          dsimp only at nb
          rw [hk] at nb
          refine aZ (ge.cls (.inl (bn f p hp))) fun uu uu uu uu uu hmt=>?_
          refine ao (hmt f p hp) fun uu uu hat _=>?_
          exact kv (fns:={ fns with lam:=b }) hf (ft:=p.2) (by rw [hl]; exact i2) hok room fr ge hat rs ha nb (fun r e=>hQ r ((hk _).trans e)) fun c e=>hE c ((hk _).trans e)
        · rw [if_neg hm] at h2
          refine ao (h2) fun p hp hok hl=>?_
          try clear h2
          refine (ag p.1 (by rw [rM hr hm]; show (fns.fn f).map _=_; rw [hp]; rfl) (fun room fr ge rs ha nb hQ hE=>?_))
          have hk:∀ xs,bZ f (mkC L n) fn xs=aE (mkC L n) fn xs:=fun xs=>by unfold bZ; rw [if_neg hr,if_neg hm]
          dsimp only at nb
          rw [hk] at nb
          exact kv (fns:={ fns with lam:=b }) hf (ft:=p.2) (by rw [hl]; exact i1) hok room fr ge (ge.funs f p hp) rs ha nb (fun r e=>hQ r ((hk _).trans e)) fun c e=>hE c ((hk _).trans e)
    refine ⟨fun f g h=>⟨Nat.le_add_left 1 n,fun uu=>rfl,main true f g h⟩,fun f g h=>?_⟩
    unfold aH at h
    split at h
    · exact nN h
    · rename_i hn
      exact ⟨Nat.le_add_left 1 n,fun q=>absurd q hn,main false f g h⟩
end
end Mine
namespace Mine
set_option tactic.hygienic false
set_option linter.unusedVariables false
open PySem PyProof.Rows
set_option linter.unusedSectionVars false
noncomputable def jh (h:Heap) (c:String):Addr:=match h.clsAt mainGlobals (Str.ofString c) with
  | some x=>x.1
  | none=>0
noncomputable def yK (h:Heap) (c:String):Option (List Value):=(h.clsAt mainGlobals (Str.ofString c)).map fun x=>x.2.2.mro
noncomputable def Ci (h:Heap) (c:String):List Value:=if c = "PickError" then bmV else .ref (jh h "PickError") :: bmV
noncomputable def m8 (cs:List String) (h:Heap):Bool:=h.isNs mainGlobals && (cs.all fun c=>yK h c == some (.ref (jh h c) :: Ci h c)) && (cs.all fun c=>cs.all fun c'=>jh h c != jh h c' || c == c') &&
  match h.clsAt mainGlobals "Rule" with
  | some x=>h.isNs x.2.2.ns && fieldNames.all fun n=>(h.nsMap x.2.2.ns (Str.ofString n)).isNone
  | none=>false
noncomputable def gU (cs:List String) (h:Heap):Prop:=∃ mg,h.Ns mainGlobals mg∧∃ ad:String→Addr,(∀ c∈cs,∃ o cd,mg (Str.ofString c)=some (.ref (ad c))∧h.get? (ad c)=some o∧o.data = .cls cd∧cd.mro = .ref (ad c) :: (if c = "PickError" then bmV else .ref (ad "PickError") :: bmV)) ∧
  (∀ c∈cs,∀ c'∈cs,ad c=ad c'→c=c')∧∃ C o cd mN,mg "Rule" = some (.ref C)∧h.get? C=some o∧o.data = .cls cd∧h.Ns cd.ns mN∧∀ n∈fieldNames,mN (Str.ofString n)=none
set_option tactic.hygienic true in
theorem wx {cs:List String}{h:Heap} (e:m8 cs h=true):gU cs h:=by
  unfold m8 at e
  simp only [Bool.and_eq_true,List.all_eq_true] at e
  refine ae (e) fun E5 h4=>?_
  try clear e
  refine ae (E5) fun E6 h3=>?_
  try clear E5
  refine ae (E6) fun h1 h2=>?_
  try clear E6
  refine ⟨h.nsMap mainGlobals,.of_isNs h1,jh h,fun c hc=>?_,fun c hc c' hc' q=>?_,?_⟩
  · have:=beq_iff_eq.mp (h2 c hc)
    unfold yK at this
    refine aa (Option.map_eq_some_iff.mp this) fun x hx hm=>?_
    obtain ⟨C,o,cd⟩:=x
    refine aB (Heap.clsAt_spec hx) fun e1 e2 e3=>?_
    have ea:jh h c=C:=by unfold jh; rw [hx]
    rw [ea] at hm ⊢
    exact ⟨o,cd,e1,e2,e3,hm⟩
  · have:=h3 c hc c' hc'
    simp only [Bool.or_eq_true,bne_iff_ne,beq_iff_eq] at this
    exact this.resolve_left fun n=>n q
  · split at h4
    · rename_i x hx
      obtain ⟨C,o,cd⟩:=x
      refine aB (Heap.clsAt_spec hx) fun e1 e2 e3=>?_
      simp only [Bool.and_eq_true,List.all_eq_true,Option.isNone_iff_eq_none] at h4
      exact ⟨C,o,cd,_,e1,e2,e3,.of_isNs h4.1,h4.2⟩
    · exact nF h4
noncomputable def DD (cs:List String):PySem.W.Hook:=⟨Bool,fun s=>m8 cs s.heap,fun uu=>true,fun uu h=>gU cs h,fun uu uu e=>wx e,fun uu h h' x k=>aa (x) fun mg g1 y=>ao (y) fun ad a1 a2 z=>zT (z) fun C o cd mN b1 b2 b3 b4 b5=>⟨mg,g1.keeps k,ad,fun c hc=>ay (a1 c hc) fun o cd c1 c2 c3=>⟨o,cd,c1,k _ _ c2,c3⟩,a2,C,o,cd,mN,b1,k _ _ b2,b3,b4.keeps k,b5⟩⟩
noncomputable def eQ (a:Arguments) (ps:List String):Bool:=a.posonlyargs.isEmpty && (a.args.map (·.arg) == ps.map Str.ofString) && a.vararg.isNone && a.kwonlyargs.isEmpty && a.kwarg.isNone
noncomputable def eP (sc:Scope):Bool:=!sc.isCoroutine && !sc.isGenerator && sc.kind == .function
noncomputable def gc (p:Program) (loose:List Str):Option ClsRec:=(plainsOf p loose).find? fun c=>c.name == Str.ofString "Rule"
noncomputable def da (p:Program) (loose:List Str) (m:String):Option MethRec:=(gc p loose).bind fun c=>c.meths.find? fun r=>r.name == Str.ofString m
noncomputable def fQ (p:Program) (loose:List Str) (f:String) (fn:Fn):Bool :=
  if f∈aM then specOf p (Str.ofString f) == some ("ValueError.__new__", bmV)
  else if f = "Rule" then al (da p loose "__init__") fun r=>okI ⟨"self" :: fn.params,r.body,r.scope,false⟩ fn && eQ r.params ("self" :: fn.params) && eP r.scope
  else if f∈methNames then al (da p loose f) fun r=>okF ⟨fn.params,r.body,r.scope,false⟩ fn && eQ r.params fn.params && eP r.scope
  else al ((recsOf p).find? fun d=>d.name == Str.ofString f) fun d=>okF ⟨fn.params,d.body,d.scope,true⟩ fn && eQ d.params fn.params && eP d.scope
noncomputable def lG (p:Program) (loose:List Str) (L:List (String × Fn)):Bool:=L.all fun q=>fQ p loose q.1 q.2
noncomputable def bt (L:List (String × Fn)):List String:=(L.map (·.1)).filter fun f=>decide (f∈aM)
noncomputable def yj (p:Program) (loose:List Str):Bool:=bnames.all fun x=>!startupNames.contains (Str.ofString x) && !loose.contains (Str.ofString x) && !((recsOf p).map (·.name)).contains (Str.ofString x) && !((litsOf p).map (·.1)).contains (Str.ofString x) && !((clssOf p loose).map (·.name)).contains (Str.ofString x)
noncomputable def eO (v:Option Value):Option Addr:=match v with
  | some (.ref a)=>some a
  | _=>none
noncomputable def bK (p:Program) (loose:List Str) (mg mN:Str→Option Value) (L:List (String × Fn)):Fns where
  fn f:=if f = "Rule" ∨ f∈methNames∨f∈aM then none else (L.lookup f).bind fun fn=>((recsOf p).find? fun d=>d.name == Str.ofString f).bind fun d=>(eO (mg (Str.ofString f))).map fun a=>(a,⟨fn.params,d.body,d.scope,true⟩)
  mth m:=if m∈methNames then (L.lookup m).bind fun fn=>(da p loose m).bind fun r=>(eO (mN (Str.ofString m))).map fun a=>(a,⟨fn.params,r.body,r.scope,false⟩) else none
  init:=(L.lookup "Rule").bind fun fn=>(da p loose "__init__").bind fun r=>(eO (mN "__init__")).map fun a=>(a,⟨"self" :: fn.params,r.body,r.scope,false⟩)
  lam:=true
  hand:=false
theorem fA {α:Type}:∀ {l:List (String × α)}{x:String}{v:α},l.lookup x=some v→(x,v)∈l
  | (y,u) :: l,x,v,h=>by
    rw [List.lookup_cons] at h
    split at h
    · rename_i e; (have oc:=Option.some.inj h; clear h; subst oc); rw [beq_iff_eq.mp e]; exact .head _
    · exact .tail _ (fA h)
variable [SF:Soft]
theorem oX {ps:List String} (h:ps.Nodup):(ps.map Str.ofString).Nodup:=List.pairwise_map.mpr (List.Pairwise.imp (fun h e=>h (cG e)) h)
theorem nV {fd:FuncData}{ps:List String} (h:eQ fd.params ps=true) (hd:fd.defaults = .none) (hn:ps.Nodup) (vals:List Value) (hl:vals.length=ps.length):bindArgs fd ⟨vals,[]⟩=pure ((ps.map Str.ofString).zip vals):=by
  unfold eQ at h
  simp only [Bool.and_eq_true,beq_iff_eq,List.isEmpty_iff,Option.isNone_iff_eq_none] at h
  refine ae (h) fun E7 h6=>?_
  try clear h
  refine ae (E7) fun E8 h5=>?_
  try clear E7
  refine ae (E8) fun E9 h4=>?_
  try clear E8
  refine ae (E9) fun h2 h3=>?_
  try clear E9
  exact pJ h2 h3 h4 h5 h6 hd (oX hn) (by rw [List.length_map]; exact hl)
theorem la {ft:FnT}{f:Fn} (h:okF ft f=true):f.params.Nodup:=by
  unfold okF at h
  simp only [Bool.and_eq_true,decide_eq_true_eq] at h
  exact h.1.1.2
theorem rL {ft:FnT}{f:Fn} (h:okI ft f=true):ft.params.Nodup:=by
  unfold okI at h
  simp only [Bool.and_eq_true,decide_eq_true_eq] at h
  exact h.1.1.1.1.1.2
theorem jH {sc:Scope} (h:eP sc=true):sc.isCoroutine=false∧sc.isGenerator=false∧sc.kind = .function:=by
  unfold eP at h
  simp only [Bool.and_eq_true,Bool.not_eq_true',beq_iff_eq] at h
  exact ⟨h.1.1,h.1.2,h.2⟩
section
variable {p:Program}{loose:List Str}{mean:ExcName→Option Value}{mg mb:Str→Option Value}{h:Heap}{L:List (String × Fn)}
theorem Ae (hS:∀ c P,h.TableAt c P #[]→SF.tab P) (T:Top p loose mean mg mb h) {f:String}{ps:List String}{d:DefRec} (hd:(recsOf p).find? (fun d=>d.name == Str.ofString f)=some d) (hn:ps.Nodup) (h1:eQ d.params ps=true) (h2:eP d.scope=true) :
    ∃ a,mg (Str.ofString f)=some (.ref a)∧FnAt h ⟨ps,d.body,d.scope,true⟩ a:=by
  have hm:=List.mem_of_find?_eq_some hd
  have hnm:=List.find?_some hd
  simp only [beq_iff_eq] at hnm
  refine vM (T.fn d hm) fun a o pm code doc t1 t2 t3 t4=>?_
  have hcode:CodeOk h code d.name:=by
    refine yx (T.tab d hm) fun a' o' fd c P u1 u2 u3 u4 u5 u6=>?_
    rw [t1] at u1; cases u1
    rw [t2] at u2; (have oc:=Option.some.inj u2; clear u2; subst oc)
    rw [t3] at u3; cases u3
    exact ⟨c,P,#[],u4,t4,u5,u6,⟨trivial,fun pos cv q=>by cases q⟩,hS c P u6⟩
  refine aB (jH h2) fun h7 h8 h9=>?_
  exact ⟨a,by rw [← hnm]; exact t1,o,_,t2,t3,rfl,rfl,rfl,rfl,rfl,t4,fun uu=>hcode,fun vals hl=>nV (by exact h1) rfl hn vals hl,h7,h8,h9⟩
theorem n7 {C N:Addr}{mN:Str→Option Value}{c:ClsRec} (P:PlainAt h c C N mN) {m:String}{ps:List String}{r:MethRec} (hr:c.meths.find? (fun r=>r.name == Str.ofString m)=some r) (hn:ps.Nodup) (h1:eQ r.params ps=true) (h2:eP r.scope=true) :
    ∃ a o,mN (Str.ofString m)=some (.ref a)∧FnAt h ⟨ps,r.body,r.scope,false⟩ a∧h.get? a=some o∧o.cls = .type "function" := by
  have hnm:=List.find?_some hr
  simp only [beq_iff_eq] at hnm
  refine yL (P.meths r (List.mem_of_find?_eq_some hr)) fun a o pm cd doc t1 t2 t3 t4 t5=>?_
  refine aB (jH h2) fun h7 h8 h9=>?_
  exact ⟨a,o,by rw [← hnm]; exact t1,⟨o,_,t2,t4,rfl,rfl,rfl,rfl,rfl,t5,(fun q=>by cases q),fun vals hl=>nV (by exact h1) rfl hn vals hl,h7,h8,h9⟩,t2,t3⟩
theorem xI (TE:TopE p loose mg h) (Y:gU (bt L) h) (T:Top p loose mean mg mb h) (hr:(gc p loose).isSome=true):∃ c C N mN,gc p loose=some c∧mg "Rule" = some (.ref C)∧PlainAt h c C N mN∧∀ n∈fieldNames,mN (Str.ofString n)=none:=by
  refine ai (Option.isSome_iff_exists.mp hr) fun c hc=>?_
  have hm:=List.mem_of_find?_eq_some hc
  have hn:=List.find?_some hc
  simp only [beq_iff_eq] at hn
  refine ba (TE c hm) fun C N mN h1 P=>?_
  rw [hn] at h1
  refine ⟨c,C,N,mN,hc,h1,P.ofCmp,fun n hf=>?_⟩
  obtain ⟨mg',g',ad,_,_,C',o,cd,mN',b1,b2,b3,b4,b5⟩:=Y
  have hg:mg' = mg:=g'.eq_nsMap.trans T.g.eq_nsMap.symm
  (clear T TE; subst hg)
  have e1:mg' "Rule" = some (.ref C):=h1
  rw [b1] at e1; cases e1
  refine dC (P.cls.obj) fun nm q bs sn sub col dd k0 k1 k2 k3 k5 e=>?_
  rw [b2] at e; (have oc:=Option.some.inj e; clear e; (clear b2; subst oc))
  cases b3
  have hN:mN' = mN:=b4.eq_nsMap.trans P.cls.ns.eq_nsMap.symm
  rw [← hN]
  exact b5 n hf
theorem yJ (Y:gU (bt L) h) (T:Top p loose mean mg mb h) (ht:lG p loose L=true) {ad:String→Addr} (had:∀ c∈bt L,mg (Str.ofString c)=some (.ref (ad c))) (hP:bt L=[] ∨ "PickError" ∈ bt L) (hSF:∀ c,SF.exc c=ad c) :
    (∀ c∈bt L,ExcAt h c)∧∀ c∈bt L,∀ c' ∈ "PickError" :: bt L,ad c=ad c'→c=c':=by
  obtain ⟨mg',g',ad',a1,a2,_⟩:=Y
  have hg:mg' = mg:=g'.eq_nsMap.trans T.g.eq_nsMap.symm
  subst hg
  have ea:∀ c∈bt L,ad' c=ad c:=fun c hc=>by
    refine av (a1 c hc) fun uu uu q _=>?_
    rw [had c hc] at q
    exact (Value.ref.inj (Option.some.inj q)).symm
  refine ⟨fun c hc=>?_,fun c hc c' hc' q=>?_⟩
  · have hP' : "PickError" ∈ bt L:=hP.resolve_left fun q=>by rw [q] at hc; cases hc
    refine aZ (a1 c hc) fun o cd b1 b2 b3 b4=>?_
    refine ae (List.mem_filter.mp hc) fun hcm hce=>?_
    refine aa (List.mem_map.mp hcm) fun Fa hq Fb=>?_
    obtain ⟨f,fn⟩:=Fa
    (clear hcm; subst Fb)
    have ht1:=List.all_eq_true.mp ht _ hq
    unfold fQ at ht1
    rw [if_pos (of_decide_eq_true hce),beq_iff_eq] at ht1
    refine aa (T.ownAt ht1) fun C O _=>?_
    obtain ⟨bm,N,nm,q,bs,hdct,sn,sub,ab,col,dd,k0,k1,k2,k3,k5,mN,c1,c2,c3,c4⟩:=O.obj
    have eC:=O.bound
    rw [b1] at eC; cases eC
    rw [b2] at c1; (have oc:=Option.some.inj c1; clear c1; subst oc)
    cases b3
    dsimp only at b4
    injection b4 with _ b4
    have e1:SF.exc f=ad' f:=by rw [hSF,ea f hc]
    have e2:SF.exc "PickError" = ad' "PickError" := by rw [hSF,ea _ hP']
    have e3:bm=dG f:=by rw [b4]; unfold dG; rw [e2]
    subst e3
    rw [← e1] at b2
    exact ⟨N,nm,q,bs,hdct,sn,sub,ab,col,dd,k0,k1,k2,k3,k5,mN,by rw [e1] at b2 ⊢; exact b2,c2,c3 _ (.head _),c4.tail⟩
  · have hP' : "PickError" ∈ bt L:=hP.resolve_left fun q=>by rw [q] at hc; cases hc
    have hc'':c'∈bt L:=(List.mem_cons.mp hc').elim (fun q=>q▸hP') id
    exact a2 c hc c' hc'' (by rw [ea c hc,ea c' hc'']; exact q)
theorem wM (Y:gU (bt L) h) (T:Top p loose mean mg mb h):∀ c∈bt L,∃ a,mg (Str.ofString c)=some (.ref a):=fun c hc=>by
  obtain ⟨mg',g',ad',a1,_⟩:=Y
  have hg:mg' = mg:=g'.eq_nsMap.trans T.g.eq_nsMap.symm
  (clear T; subst hg)
  refine av (a1 c hc) fun uu uu q _=>?_
  exact ⟨_,q⟩
theorem jZ (ht:lG p loose L=true) {f:String}{fn:Fn} (hf:L.lookup f=some fn):fQ p loose f fn=true:=List.all_eq_true.mp ht _ (fA hf)
theorem sE {f:String}{fn:Fn} (hf:L.lookup f=some fn) (he:f∈aM):f∈bt L:=List.mem_filter.mpr ⟨List.mem_map.mpr ⟨_,fA hf,rfl⟩,decide_eq_true he⟩
theorem qF (hS:∀ c P,h.TableAt c P #[]→SF.tab P) (hO:∀ b,SF.old b→∃ o,h.get? b=some o) (T:Top p loose mean mg mb h) (TE:TopE p loose mg h) (Y:gU (bt L) h) (ht:lG p loose L=true) (hb:yj p loose=true) (hr:(gc p loose).isSome=true) (hL:(L.lookup "Rule").isSome=true) (hP:bt L=[] ∨ "PickError" ∈ bt L)
    (hN:SF.excN=bt L) (hA:∀ c,SF.exc c=((eO (mg (Str.ofString c))).getD 0)) (hR:SF.rule=(eO (mg "Rule")).getD 0):∃ mN,GE (bK p loose mg mN L) h∧uZ (bK p loose mg mN L) L:=by
  refine bI (xI TE Y T hr) fun c C N mN hc hC Pl hfn=>?_
  have eR:SF.rule=C:=by rw [hR,hC]; rfl
  have had:∀ c∈bt L,mg (Str.ofString c)=some (.ref (SF.exc c)):=fun c hc=>by
    refine ai (wM Y T c hc) fun a e=>?_
    rw [hA,e]; rfl
  refine ae (yJ Y T ht (ad:=SF.exc) had hP fun uu=>rfl) fun x1 x2=>?_
  have mrec:∀ m,da p loose m=c.meths.find? fun r=>r.name == Str.ofString m:=fun m=>by unfold da; rw [hc]; rfl
  have tM:∀ m fn,L.lookup m=some fn→m∈methNames→∃ a o r,da p loose m=some r∧mN (Str.ofString m)=some (.ref a)∧FnAt h ⟨fn.params,r.body,r.scope,false⟩ a∧h.get? a=some o∧o.cls = .type "function" ∧ okF ⟨fn.params,r.body,r.scope,false⟩ fn=true:=fun m fn hm hmm=>by
    have h1:=jZ ht hm
    have n1:m∉aM:=fun q=>by
      simp only [methNames,List.mem_cons,List.not_mem_nil,or_false] at hmm
      rcases hmm with rfl | rfl | rfl | rfl | rfl <;> revert q <;> decide
    have n2:m ≠ "Rule" := fun q=>by (clear h1 hm n1; subst q); revert hmm; decide
    unfold fQ at h1
    rw [if_neg n1,if_neg n2,if_pos hmm] at h1
    refine aa (ah h1) fun r hr h1=>?_
    simp only [Bool.and_eq_true] at h1
    refine aZ (n7 Pl ((mrec m).symm.trans hr) (la h1.1.1) h1.1.2 h1.2) fun a o e1 e2 e3 e4=>?_
    exact ⟨a,o,r,hr,e1,e2,e3,e4,h1.1.1⟩
  have tI:∀ fn,L.lookup "Rule" = some fn→∃ a o r,da p loose "__init__" = some r∧mN "__init__" = some (.ref a)∧FnAt h ⟨"self" :: fn.params,r.body,r.scope,false⟩ a∧h.get? a=some o∧o.cls = .type "function" ∧ okI ⟨"self" :: fn.params,r.body,r.scope,false⟩ fn=true:=fun fn hm=>by
    have h1:=jZ ht hm
    unfold fQ at h1
    rw [if_neg (by decide),if_pos rfl] at h1
    refine aa (ah h1) fun r hr h1=>?_
    simp only [Bool.and_eq_true] at h1
    refine aZ (n7 Pl (ps := "self" :: fn.params) ((mrec "__init__").symm.trans hr) (rL h1.1.1) h1.1.2 h1.2) fun a o e1 e2 e3 e4=>?_
    exact ⟨a,o,r,hr,e1,e2,e3,e4,h1.1.1⟩
  have tF:∀ f fn,L.lookup f=some fn→¬ (f = "Rule" ∨ f∈methNames∨f∈aM)→∃ a d,(recsOf p).find? (fun d=>d.name == Str.ofString f)=some d∧mg (Str.ofString f)=some (.ref a)∧FnAt h ⟨fn.params,d.body,d.scope,true⟩ a∧okF ⟨fn.params,d.body,d.scope,true⟩ fn=true:=fun f fn hm hn=>by
    have h1:=jZ ht hm
    unfold fQ at h1
    rw [if_neg (fun q=>hn (.inr (.inr q))),if_neg (fun q=>hn (.inl q)),if_neg (fun q=>hn (.inr (.inl q)))] at h1
    refine aa (ah h1) fun d hd h1=>?_
    simp only [Bool.and_eq_true] at h1
    refine aa (Ae hS T hd (la h1.1.1) h1.1.2 h1.2) fun a e1 e2=>?_
    exact ⟨a,d,hd,e1,e2,h1.1.1⟩
  have gF:∀ f p',(bK p loose mg mN L).fn f=some p'→¬ (f = "Rule" ∨ f∈methNames∨f∈aM)∧mg (Str.ofString f)=some (.ref p'.1)∧FnAt h p'.2 p'.1:=fun f p' hp=>by
    simp only [bK] at hp
    split at hp
    · exact nN hp
    · rename_i hn
      refine aa (Option.bind_eq_some_iff.mp hp) fun fn hfn hp=>?_
      refine aZ (tF f fn hfn hn) fun a d e1 e2 e3 _=>?_
      rw [e1,e2] at hp
      (have oc:=Option.some.inj hp; clear hp; subst oc)
      exact ⟨hn,e2,e3⟩
  have gM:∀ m p',(bK p loose mg mN L).mth m=some p'→m∈methNames∧∃ o,mN (Str.ofString m)=some (.ref p'.1)∧FnAt h p'.2 p'.1∧h.get? p'.1=some o∧o.cls = .type "function" := fun m p' hp=>by
    simp only [bK] at hp
    split at hp
    · rename_i hn
      refine aa (Option.bind_eq_some_iff.mp hp) fun fn hfn hp=>?_
      refine cq (tM m fn hfn hn) fun a o r e1 e2 e3 e4 e5 _=>?_
      rw [e1,e2] at hp
      (have oc:=Option.some.inj hp; clear hp; subst oc)
      exact ⟨hn,o,e2,e3,e4,e5⟩
    · exact nN hp
  have gI:∀ p',(bK p loose mg mN L).init=some p'→∃ o,mN "__init__" = some (.ref p'.1)∧FnAt h p'.2 p'.1∧h.get? p'.1=some o∧o.cls = .type "function" := fun p' hp=>by
    simp only [bK] at hp
    refine aa (Option.bind_eq_some_iff.mp hp) fun fn hfn hp=>?_
    refine cq (tI fn hfn) fun a o r e1 e2 e3 e4 e5 _=>?_
    rw [e1,e2] at hp
    (have oc:=Option.some.inj hp; clear hp; subst oc)
    exact ⟨o,e2,e3,e4,e5⟩
  refine ⟨mN,⟨⟨mg,T.g,fun f a hf hq=>?_,fun x hx=>?_⟩,fun f p' hp=>(gF f p' hp).2.2,fun uu=>?_,⟨mb,T.b,fun x hx=>?_⟩,T.nolimit,hO,⟨mg,T.g,fun c hc=>?_,?_⟩,vY (T.bmain) fun bm ob a b c d e f=>⟨mg,bm,ob,T.g,a,b,c,d,e,f⟩⟩,fun f fn hf=>⟨fun he=>by rw [hN]; exact sE hf he,fun he=>?_⟩⟩
  · unfold adr at hq
    by_cases h1:f = "Rule"
    · rw [if_pos h1] at hq
      refine aa (Option.map_eq_some_iff.mp hq) fun uu uu Fc=>?_
      subst Fc
      rw [h1,eR]; exact hC
    · rw [if_neg h1,if_neg hf] at hq
      refine aa (Option.map_eq_some_iff.mp hq) fun p' hp Fd=>?_
      subst Fd
      exact (gF f p' hp).2.1
  · have:=List.all_eq_true.mp hb x hx
    simp only [Bool.and_eq_true,Bool.not_eq_true',List.contains_eq_mem,decide_eq_false_iff_not] at this
    refine ae (this) fun Ff h5=>?_
    try clear this
    refine ae (Ff) fun Fi h4=>?_
    try clear Ff
    refine ae (Fi) fun Fh h3=>?_
    try clear Fi
    refine ae (Fh) fun h1 h2=>?_
    try clear Fh
    exact T.free _ h1 h2 h3 h4 h5
  · refine ai (Option.isSome_iff_exists.mp hL) fun fn hfn'=>?_
    refine cq (tI fn hfn') fun a o r e1 e2 e3 e4 e5 _=>?_
    refine ⟨N,mN,eR▸Pl.cls,fun n hn=>?_,⟨(a,⟨"self" :: fn.params,r.body,r.scope,false⟩),o,?_,e2,e3,e4,e5⟩,fun m p' hp=>(gM m p' hp).2⟩
    · simp only [List.mem_cons,List.not_mem_nil,or_false] at hn
      rcases hn with rfl | rfl | rfl | rfl | rfl | rfl
      · exact Pl.quiet _ (List.mem_append_left _ (.head _))
      · exact Pl.quiet _ (List.mem_append_left _ (.tail _ (.head _)))
      · exact Pl.quiet _ (List.mem_append_left _ (.tail _ (.tail _ (.head _))))
      · exact hfn _ (.head _)
      · exact hfn _ (.tail _ (.head _))
      · exact hfn _ (.tail _ (.tail _ (.head _)))
    · simp only [bK,hfn',e1,e2,Option.bind_some,eO,Option.map_some]
  · simp only [bnames,List.mem_cons,List.not_mem_nil,or_false] at hx
    rcases hx with rfl | rfl | rfl | rfl | rfl | rfl | rfl | rfl | rfl | rfl | rfl | rfl <;> (rw [T.builtins _ (by decide +kernel)]; kernel_rfl)
  · rw [hN] at hc
    exact ⟨had c hc,x1 c hc⟩
  · rw [hN]; exact x2
  · by_cases h1:f = "Rule"
    · rw [if_pos h1]
      (clear he; subst h1)
      refine cq (tI fn hf) fun a o r e1 e2 e3 e4 e5 e6=>?_
      exact ⟨(a,⟨"self" :: fn.params,r.body,r.scope,false⟩),by simp only [bK,hf,e1,e2,Option.bind_some,eO,Option.map_some],e6⟩
    · rw [if_neg h1]
      by_cases h2:f∈methNames
      · rw [if_pos h2]
        refine cq (tM f fn hf h2) fun a o r e1 e2 e3 e4 e5 e6=>?_
        exact ⟨(a,⟨fn.params,r.body,r.scope,false⟩),by simp only [bK,if_pos h2,hf,e1,e2,Option.bind_some,eO,Option.map_some],e6,rfl⟩
      · rw [if_neg h2]
        refine aZ (tF f fn hf fun q=>q.elim h1 fun q=>q.elim h2 he) fun a d e1 e2 e3 e6=>?_
        exact ⟨(a,⟨fn.params,d.body,d.scope,true⟩),by simp only [bK,if_neg (show ¬ (f = "Rule" ∨ f∈methNames∨f∈aM) from fun q=>q.elim h1 fun q=>q.elim h2 he),hf,e1,e2,Option.bind_some,eO,Option.map_some],e6,rfl⟩
theorem nw {n:Nat} (h:n≤60):Room false n callerA:=⟨fun uu=>rfl,by show 1 + claimMargin + 2 * n + 4<recursionLimit; unfold claimMargin recursionLimit; exact A6 h,by show 4 + 100 * n + 300<cLine; unfold cLine; exact BQ h⟩
omit SF in
theorem uL {w:World}{prog:Program}{s:Shared}{fn:Fn}{fa a:Addr}{n:Nat}{ns:List Int}{vs:List Value}{m:Mode}{Q:Value→Shared→Prop}{Er:Value→Shared→Prop} (T:Top p loose mean mg mb s.heap) (TE:TopE p loose mg s.heap) (Y:gU (bt L) s.heap) (ht:lG p loose L=true) (hb:yj p loose=true) (hr:(gc p loose).isSome=true) (hL:(L.lookup "Rule").isSome=true) (hP:bt L=[] ∨ "PickError" ∈ bt L)
    (hf:L.lookup "law" = some fn) (hmg:mg (Str.ofString "law")=some (.ref fa)) (hn:n≤50) (hrun:aE (mkC L n) fn [.d (af ns)] = .ok (.d (.bool true),m)) (ea:s.heap.get? a=some { cls:=.type "list", data:=.seq vs.toArray }) (hI:IntsAre vs ns) (hlen:ns.length≤2 ^ 22)
    (hQ:∀ h' tk,OldK s.heap h'→Q (.bool true) { s with heap:=h',toks:=tk }):wpAny (model prog w) callerA (call (.ref fa) [.ref a]) Q Er s:=by
  letI SF:Soft:=⟨fun P=>∃ c,s.heap.TableAt c P #[],fun b=>∃ o,s.heap.get? b=some o,(eO (mg "Rule")).getD 0,fun c=>(eO (mg (Str.ofString c))).getD 0,bt L⟩
  refine aa (qF (SF:=SF) (fun c P x=>⟨c,x⟩) (fun b hb=>hb) T TE Y ht hb hr hL hP rfl (fun uu=>rfl) rfl) fun mN ge tab=>?_
  obtain ⟨p',hp,hok,hlam⟩:∃ p',(bK p loose mg mN L).fn "law" = some p'∧okF p'.2 fn=true∧p'.2.lam=true:=(tab "law" fn hf).2 (by decide)
  have ha:p'.1=fa:=by
    have:(bK p loose mg mN L).fn "law" = some p':=hp
    simp only [bK] at this
    rw [if_neg (by decide),hf] at this
    refine aa (Option.bind_eq_some_iff.mp (show ((recsOf p).find? _).bind _=some p' from this)) fun d _ this=>?_
    rw [hmg] at this
    (have oc:=Option.some.inj this; clear this; (clear hlam hok hp; subst oc)); rfl
  have hC:b6 prog w { (bK p loose mg mN L) with lam:=p'.2.lam } n (mkC L n) XPc:=by rw [hlam]; exact (rK (fns:=bK p loose mg mN L) rfl tab n).1
  have rs:RVs prog w s.heap [.d (af ns)] [.ref a] ([a] ++ []):=by
    refine .cons ⟨.list ea (RA.of_ints hI),?_⟩ .nil
    exact sz_list.mpr ⟨by rw [List.length_map]; exact hlen,gV ns⟩
  have hat:FnAt s.heap p'.2 fa:=ha▸ge.funs "law" p' hp
  refine kv (fns:=bK p loose mg mN L) (P:=fun uu=>True) rfl hC hok (nw (by exact zq hn)) ⟨[],rfl,fun uu h=>nomatch h⟩ ge hat rs (fun uu uu=>trivial) (by rw [hrun]; simp) (fun r hr v s' E=>?_) fun c hc=>by rw [hrun] at hc; cases hc
  rw [hrun] at hr; (have oc:=Out.ok.inj hr; clear hr; subst oc)
  obtain ⟨Fm,as,Fr,_⟩:=E
  refine av (Fm) fun h' tk Fp kp=>?_
  try clear Fm
  subst Fp
  refine ae (Fr) fun r _=>?_
  try clear Fr
  cases r
  refine hQ h' tk ⟨fun b o e=>?_,fun b o e=>K.there kp e⟩
  refine aa (kp b o (.inl trivial) e) fun o' e' l=>?_
  cases l with
  | same q=>exact .inl (q▸e')
  | tab ps more q1 q2 q3 _=>
    revert q1; intro G5
    refine ai (G5) fun c q1=>?_
    try clear G5
    (clear e; subst q2 q3)
    exact .inr (.inl ⟨q1.isCodeTable,rfl,ps,more,rfl,e'⟩)
  | frame es ep q1 _ _ _ _ _=>exact absurd ⟨o,e⟩ q1
end
omit SF in
theorem qf {P:Params}{h:Heap}{a:Addr}{vs:List Value}{xs:List W.WData} (x:W.Well P h (.ref a) (.list xs)) (hL:h.IsList a vs.toArray):h.get? a=some { cls:=.type "list", data:=.seq vs.toArray }:=by
  obtain ⟨o,e,hc,n,hd⟩:=hL
  cases x with
  | list e' _=>
    rw [e] at e'; (have oc:=Option.some.inj e'; clear e'; (clear hc; subst oc))
    dsimp only at hd
    injection hd with h1 h2
    rw [e,h1]
end Mine
namespace Mine
set_option tactic.hygienic false
set_option linter.unusedVariables false
open PySem
theorem iN {n:Nat}:∀ {xs:List PyData},(∀ x∈xs,x.depth≤n)→PyData.depthAll xs≤n
  | [],_=>by simp [PyData.depthAll]
  | x :: xs,h=>by
    rw [PyData.depthAll]
    exact Nat.max_le.mpr ⟨h x (.head _),iN fun y hy=>h y (.tail _ hy)⟩
theorem gZ:∀ {xs:List PyData},(∀ x∈xs,x.canLay0=true)→PyData.canLayAll0 xs=true
  | [],_=>by simp [PyData.canLayAll0]
  | x :: xs,h=>by
    rw [PyData.canLayAll0,h x (.head _),gZ fun y hy=>h y (.tail _ hy)]; rfl
noncomputable def Low (n:Nat) (d:PyData):Prop:=d.canLay0=true∧d.depth≤n
theorem Low.okc {n:Nat}{d:PyData} (h:Low n d) (hn:n≤64:=by decide):okc d=true:=by
  unfold Mine.okc
  rw [h.1,decide_eq_true (Nat.le_trans h.2 hn)]; rfl
theorem Low.int (i:Int) (n:Nat):Low (n + 1) (.int i):=⟨rfl,by simp [PyData.depth]⟩
theorem Low.list {n:Nat}{xs:List PyData} (h:∀ x∈xs,Low n x):Low (n + 1) (.list xs) :=
  ⟨by rw [PyData.canLay0]; exact gZ fun x hx=>(h x hx).1,by rw [PyData.depth]; have:=iN fun x hx=>(h x hx).2; exact lB this⟩
theorem mJ (ns:List Int) (n:Nat):Low (n + 2) (af ns):=.list fun x hx=>by
  refine aa (List.mem_map.mp hx) fun i _ E5=>?_
  (clear hx; subst E5)
  exact .int i n
theorem uf (t:List (List Int)) (n:Nat):Low (n + 3) (aj t):=.list fun x hx=>by
  refine aa (List.mem_map.mp hx) fun i _ E7=>?_
  (clear hx; subst E7)
  exact mJ i n
@[simp] theorem fU (i:Int):okc (.int i)=true:=(Low.int i 0).okc
@[simp] theorem Dz:okc .none=true:=rfl
@[simp] theorem cB (ns:List Int):okc (af ns)=true:=(mJ ns 0).okc
@[simp] theorem okc_ints' (ns:List Int):okc (.list (ns.map .int))=true:=cB ns
@[simp] theorem dH (t:List (List Int)):okc (aj t)=true:=(uf t 0).okc
@[simp] theorem okc_rows' (t:List (List Int)):okc (.list (t.map af))=true:=dH t
@[simp] theorem EU:okc (.list [])=true:=cB []
@[simp] theorem j9 (a b:Int):PyData.eqv (.int a) (.int b)=decide (a=b):=by
  rw [PyData.eqv]; by_cases h:a=b <;> simp [h]
theorem iQ:∀ (a b:List Int),PyData.eqvAll (a.map .int) (b.map .int)=decide (a=b)
  | [],[]=>by simp [PyData.eqvAll]
  | [],y :: b=>by simp [PyData.eqvAll]
  | x :: a,[]=>by simp [PyData.eqvAll]
  | x :: a,y :: b=>by
    rw [List.map_cons,List.map_cons,PyData.eqvAll,iQ a b,j9]
    by_cases h1:x=y <;> by_cases h2:a=b <;> simp [h1,h2]
@[simp] theorem eY (a b:List Int):PyData.eqv (af a) (af b)=decide (a=b):=by
  unfold af; rw [PyData.eqv]; exact iQ a b
@[simp] theorem eqv_ints' (a b:List Int):PyData.eqv (.list (a.map .int)) (.list (b.map .int))=decide (a=b):=eY a b
theorem iS:∀ (a b:List (List Int)),PyData.eqvAll (a.map af) (b.map af)=decide (a=b)
  | [],[]=>by simp [PyData.eqvAll]
  | [],y :: b=>by simp [PyData.eqvAll]
  | x :: a,[]=>by simp [PyData.eqvAll]
  | x :: a,y :: b=>by
    rw [List.map_cons,List.map_cons,PyData.eqvAll,iS a b,eY]
    by_cases h1:x=y <;> by_cases h2:a=b <;> simp [h1,h2]
@[simp] theorem mM (a b:List (List Int)):PyData.eqv (aj a) (aj b)=decide (a=b):=by
  unfold aj; rw [PyData.eqv]; exact iS a b
@[simp] theorem y6 (a:List Int):PyData.eqv (af a) (.list [])=decide (a=[]):=eY a []
@[simp] theorem mB (k:Int) (ns:List Int):inV (.int k) (.d (af ns)) = .ok (decide (k∈ns)):=by
  show (if okc (.int k) && okc (af ns) then Out.ok ((ns.map PyData.int).any fun y=>PyData.eqv y (.int k)) else .bad)=_
  rw [fU,cB,if_pos (by decide)]
  congr 1
  rw [Bool.eq_iff_iff,List.any_map]
  simp [List.any_eq_true]
@[simp] theorem sH (k:List Int) (t:List (List Int)):inV (af k) (.d (aj t)) = .ok (decide (k∈t)):=by
  show (if okc (af k) && okc (aj t) then Out.ok ((t.map af).any fun y=>PyData.eqv y (af k)) else .bad)=_
  rw [cB,dH,if_pos (by decide)]
  congr 1
  rw [Bool.eq_iff_iff,List.any_map]
  simp [List.any_eq_true]
@[simp] theorem cP:∀ ns:List Int,aN (ns.map .int)=some ns
  | []=>rfl
  | i :: ns=>by rw [List.map_cons,aN,cP ns]; rfl
theorem r5 (ns:List Int):(ns.map PyData.int).all sx=true:=by rw [List.all_map,List.all_eq_true]; intro _ _; rfl
@[simp] theorem fw (ns:List Int):fresh (ns.map .int) = .deep:=by unfold fresh; rw [r5]; rfl
@[simp] theorem xN (i:Int):mk (.d (.int i))=sI i:=rfl
@[simp] theorem EY (ns:List Int):mk (.d (af ns))=(.d (af ns),.sh):=rfl
theorem jj {F:PyData→Out (Option (V × Mode))}{f:Int→Int}{p:Int→Bool}:∀ {ns:List Int},(∀ i∈ns,F (.int i) = .ok (if p i then some (sI (f i)) else none))→bh F (ns.map .int) = .ok (((ns.filter p).map f).map .int,true)
  | [],_=>rfl
  | i :: ns,h=>by
    rw [List.map_cons,bh,h i (.head _),jj fun j hj=>h j (.tail _ hj)]
    simp only [Out.ok_bind]
    cases hp:p i <;> simp [hp,sI,List.filter_cons]
theorem mT {α:Type}{F:PyData→Out (Option (V × Mode))}{e:α→PyData}{f:α→Int}:∀ {l:List α},(∀ i∈l,F (e i) = .ok (some (sI (f i))))→bh F (l.map e) = .ok ((l.map f).map .int,true)
  | [],_=>rfl
  | i :: l,h=>by
    rw [List.map_cons,bh,h i (.head _),mT fun j hj=>h j (.tail _ hj)]
    rfl
theorem gS {α:Type}{F:PyData→Out (Option (V × Mode))}{e:α→PyData}{f:α→List Int}{p:α→Bool}{m:α→Mode}:∀ {l:List α},(∀ i∈l,F (e i) = .ok (if p i then some (.d (af (f i)),m i) else none)) →
    ∃ b,bh F (l.map e) = .ok (((l.filter p).map f).map af,b)∧((∀ i∈l,m i = .deep)→b=true)
  | [],_=>(ag true rfl (fun uu=>rfl))
  | i :: l,h=>by
    refine aa (gS (l:=l) fun j hj=>h j (.tail _ hj)) fun b e1 e2=>?_
    rw [List.map_cons,bh,h i (.head _),e1]
    simp only [Out.ok_bind]
    cases hp:p i
    · exact (ag b (by simp [hp,List.filter_cons]) (fun q=>e2 fun j hj=>q j (.tail _ hj)))
    · refine (ag (decide (m i = .deep) && b) (by simp [hp,List.filter_cons]) (fun q=>?_))
      rw [q i (.head _),e2 fun j hj=>q j (.tail _ hj)]; rfl
theorem jN (a b:Int):cF a b=((List.range (b - a).toNat).map fun (k:Nat)=>a + (k:Int)).map .int:=by
  unfold cF; rw [List.map_map]; rfl
noncomputable def aR (n:Nat):List Int:=(List.range n).map fun (k:Nat)=>(k:Int)
theorem sk {n:Nat} (h:n≤1000000):bT 0 n = .ok ((aR n).map .int,.deep):=by
  unfold bT
  rw [if_pos (b9 (by unfold lim; exact BF h) (by exact zt) (by exact B4) (by exact AT) (by exact Cv h)),jN]
  simp [aR]
theorem mem_upTo {n:Nat}{i:Int}:i∈aR n↔0≤i∧i<n:=by
  unfold aR
  simp only [List.mem_map,List.mem_range]
  constructor
  · rintro ⟨k,hk,rfl⟩; exact AU hk
  · rintro ⟨h1,h2⟩; exact (ag i.toNat (by exact la1 h1 h2) (by exact CH h1))
theorem kH {xs:List PyData}{i:Int}{k:Nat}{y:PyData} (hk:bF i xs.length=some k) (h:xs[k]? = some y):d6 (.list xs) (.int i) = .ok (mk (.d y)):=by
  show (aC ((bF i xs.length).bind fun k=>xs[k]?) fun z=>Out.ok (mk (.d z)))=_
  rw [hk,Option.bind_some,h]; rfl
theorem eu {i:Int}{n:Nat} (h0:0≤i) (h:i<n):bF i n=some i.toNat:=by unfold bF; rw [if_pos h0,if_pos h]
theorem se {ns:List Int}{i:Int}{x:Int} (h0:0≤i) (h:ns[i.toNat]? = some x):d6 (af ns) (.int i) = .ok (sI x):=by
  have hlt:i.toNat<ns.length:=(List.getElem?_eq_some_iff.mp h).1
  exact kH (eu h0 (by rw [List.length_map]; exact vq hlt)) (by rw [List.getElem?_map,h]; rfl)
section
variable (a b:Int) (xs ys:List Int) (t u:List (List Int)) (σ:St) (x y:String) (v:V × Mode)
@[simp] theorem EZ:upd σ x v y=if y=x then some v else σ y:=rfl
@[simp] theorem bz (b:Bool):au (.d (.bool b)) = .ok b:=rfl
@[simp] theorem E1:bM .lt (.d (.int a)) (.d (.int b)) = .ok (decide (a<b)):=rfl
@[simp] theorem E0:bM .gt (.d (.int a)) (.d (.int b)) = .ok (decide (b<a)):=rfl
@[simp] theorem E2:bM .ge (.d (.int a)) (.d (.int b)) = .ok (decide (b≤a)):=rfl
@[simp] theorem xR:bM .eq (.d (.int a)) (.d (.int b)) = .ok (decide (a=b)):=by
  show (if okc (.int a) && okc (.int b) then Out.ok (PyData.eqv (.int a) (.int b)) else .bad)=_
  rw [fU,fU,j9,if_pos (by decide)]
@[simp] theorem yt:bM .ne (.d (.int a)) (.d (.int b)) = .ok (!decide (a=b)):=by
  show (if okc (.int a) && okc (.int b) then Out.ok (!PyData.eqv (.int a) (.int b)) else .bad)=_
  rw [fU,fU,j9,if_pos (by decide)]
@[simp] theorem xA:bM .eq (.d (af xs)) (.d (af ys)) = .ok (decide (xs=ys)):=by
  show (if okc (af xs) && okc (af ys) then Out.ok (PyData.eqv (af xs) (af ys)) else .bad)=_
  rw [cB,cB,eY,if_pos (by decide)]
@[simp] theorem xE:bM .ne (.d (af xs)) (.d (af ys)) = .ok (!decide (xs=ys)):=by
  show (if okc (af xs) && okc (af ys) then Out.ok (!PyData.eqv (af xs) (af ys)) else .bad)=_
  rw [cB,cB,eY,if_pos (by decide)]
@[simp] theorem xo:bM .eq (.d (aj t)) (.d (aj u)) = .ok (decide (t=u)):=by
  show (if okc (aj t) && okc (aj u) then Out.ok (PyData.eqv (aj t) (aj u)) else .bad)=_
  rw [dH,dH,mM,if_pos (by decide)]
@[simp] theorem EW:bM .ne (.d (aj t)) (.d (aj u)) = .ok (!decide (t=u)):=by
  show (if okc (aj t) && okc (aj u) then Out.ok (!PyData.eqv (aj t) (aj u)) else .bad)=_
  rw [dH,dH,mM,if_pos (by decide)]
@[simp] theorem yY:bM .isin (.d (.int a)) (.d (af xs)) = .ok (decide (a∈xs)):=mB a xs
@[simp] theorem xB:bM .notin (.d (.int a)) (.d (af xs)) = .ok (!decide (a∈xs)):=by
  show ((inV (.int a) (.d (af xs))).bind fun b=>Out.ok (!b))=_
  rw [mB]; rfl
@[simp] theorem wv:bM .isin (.d (af xs)) (.d (aj t)) = .ok (decide (xs∈t)):=sH xs t
@[simp] theorem EX:cT .add (.int a) (.int b) = .ok (sI (a + b)):=rfl
@[simp] theorem ET:cT .sub (.int a) (.int b) = .ok (sI (a - b)):=rfl
@[simp] theorem EV:cT .xor (.int a) (.int b) = .ok (sI (Builtin.bitXor a b)):=rfl
theorem sf (h:a.natAbs<2 ^ 63):cT .mul (.int a) (.int b) = .ok (sI (a * b)):=by
  show (if a.natAbs<2 ^ 63∨b.natAbs<2 ^ 63 then Out.ok (sI (a * b)) else .bad)=_
  rw [if_pos (.inl h)]
theorem sb (h:b.natAbs<2 ^ 63):cT .mul (.int a) (.int b) = .ok (sI (a * b)):=by
  show (if a.natAbs<2 ^ 63∨b.natAbs<2 ^ 63 then Out.ok (sI (a * b)) else .bad)=_
  rw [if_pos (.inr h)]
theorem wY (h:0<b):cT .mod (.int a) (.int b) = .ok (sI (a % b)):=by
  show (if b=0 then Out.bad else Out.ok (sI (a.fmod b)))=_
  rw [if_neg (by exact zW h),Int.fmod_eq_emod_of_nonneg _ (by exact vU h)]
theorem wT (h:0<b) (h':b<1000000000):cT .fdiv (.int a) (.int b) = .ok (sI (a / b)):=by
  show (if b=0∨1000000000≤b.natAbs then Out.bad else Out.ok (sI (a.fdiv b)))=_
  rw [if_neg (by lia),Int.fdiv_eq_ediv_of_nonneg _ (by exact vU h)]
theorem tN (h:xs.length + ys.length≤1000000):cT .add (af xs) (af ys) = .ok (.d (af (xs ++ ys)),.deep):=by
  show (if (xs.map PyData.int).length + (ys.map PyData.int).length≤lim then Out.ok (V.d (.list (xs.map .int ++ ys.map .int)),fresh (xs.map .int ++ ys.map .int)) else .bad)=_
  rw [List.length_map,List.length_map,if_pos (show _≤lim from h),← List.map_append,fw]; rfl
@[simp] theorem xQ:b1V .len (.d (af xs)) = .ok (sI xs.length):=by
  show Out.ok (sI (xs.map PyData.int).length)=_
  rw [List.length_map]
@[simp] theorem xb:b1V .len (.d (aj t)) = .ok (sI t.length):=by
  show Out.ok (sI (t.map af).length)=_
  rw [List.length_map]
@[simp] theorem wA:b1V .list (.d (af xs)) = .ok (.d (af xs),.deep):=by
  show Out.ok (V.d (.list (xs.map PyData.int)),fresh (xs.map PyData.int))=_
  rw [fw]; rfl
@[simp] theorem tT:b1V .tuple (.d (af xs)) = .ok (.d (aL xs),.deep):=by
  show Out.ok (V.d (.tuple (xs.map PyData.int)),if (xs.map PyData.int).all sx then Mode.deep else .sh)=_
  rw [r5,if_pos rfl]; rfl
noncomputable def fz (xs:List Int):List Int:=xs.mergeSort fun a b=>decide (a≤b)
theorem li (h:xs.length<64):b1V .sorted (.d (af xs)) = .ok (.d (af (fz xs)),.deep):=by
  show dg (xs.map PyData.int)=_
  unfold dg
  rw [List.length_map,if_pos h,cP]; rfl
theorem nJ (h:xs.length<128) (h0:∀ i∈xs,0≤i) (hu:xs.Pairwise (· < ·)) (hs:fz xs=xs):b1V .sorted (.d (af xs)) = .ok (.d (af xs),.deep):=by
  by_cases h1:xs.length<64
  · rw [li xs h1,hs]
  show dg (xs.map PyData.int)=_
  unfold dg
  rw [List.length_map,if_neg h1,if_pos h,cP]
  show (if _ then _ else _)=_
  rw [if_pos ⟨h0,hu⟩]
@[simp] theorem zc:fB (.d (.int a)) "int" = .ok true:=rfl
@[simp] theorem yQ:fB (.d (.int a)) "bool" = .ok false:=rfl
@[simp] theorem xM:fB (.d (af xs)) "list" = .ok true:=rfl
@[simp] theorem yk:(sI a).1 = .d (.int a):=rfl
@[simp] theorem Ej:(sI a).2 = .deep:=rfl
@[simp] theorem gp (b:Bool):(sB b).1 = .d (.bool b):=rfl
@[simp] theorem E3 (b:Bool):(sB b).2 = .deep:=rfl
@[simp] theorem Di:bx []=some []:=rfl
@[simp] theorem ED (m:Mode) (l:List (V × Mode)):bx ((.d (.int a),m) :: l)=(bx l).map (.int a :: ·):=rfl
@[simp] theorem ES (l:List (V × Mode)):bx (sI a :: l)=(bx l).map (.int a :: ·):=rfl
@[simp] theorem y9:allDeep []=true:=rfl
@[simp] theorem CQ (l:List (V × Mode)):allDeep (sI a :: l)=allDeep l:=by simp [allDeep]
end
theorem pW (xs:List Int):(fz xs).Perm xs:=List.mergeSort_perm ..
theorem lM (xs:List Int):(fz xs).Pairwise (·≤·):=by
  have:=List.pairwise_mergeSort (le:=fun a b:Int=>decide (a≤b)) (fun a b c h1 h2=>by simp at *; exact uO h1 h2) (fun a b=>by simp; exact vd) xs
  exact this.imp (by intro a b h; simpa using h)
theorem lp:∀ {l l':List Int},l.Perm l'→l.Pairwise (·≤·)→l'.Pairwise (·≤·)→l=l'
  | [],l',p,_,_=>by rw [p.nil_eq]
  | a :: l,[],p,_,_=>by cases p.eq_nil
  | a :: l,b :: l',p,h,h'=>by
    refine ae (List.pairwise_cons.mp h) fun h1 h2=>?_
    refine ae (List.pairwise_cons.mp h') fun h3 h4=>?_
    have e:a=b:=by
      rcases List.mem_cons.mp (p.mem_iff.mp (List.mem_cons_self (a:=a) (l:=l))) with e | e
      · exact e
      · rcases List.mem_cons.mp (p.mem_iff.mpr (List.mem_cons_self (a:=b) (l:=l'))) with e' | e'
        · exact e'.symm
        · have:=h1 b e'; have:=h3 a e; exact pH (by assumption) this
    (clear h' h3; subst e)
    rw [lp ((List.perm_cons a).mp p) h2 h4]
theorem sT {xs ys:List Int} (p:xs.Perm ys) (h:ys.Pairwise (·≤·)):fz xs=ys:=lp ((pW xs).trans p) (lM xs) h
@[simp] theorem rF (xs:List Int):eK (.d (af xs))=some (xs.map .int):=rfl
@[simp] theorem kJ (t:List (List Int)):eK (.d (aj t))=some (t.map af):=rfl
@[simp] theorem bW (xs:List Int) (m:Mode):itV (.d (af xs),m) = .ok (xs.map .int,m):=rfl
@[simp] theorem aQ (t:List (List Int)) (m:Mode):itV (.d (aj t),m) = .ok (t.map af,m):=rfl
@[simp] theorem y8 (xs:List Int) (a:Int):PyData.list (xs.map .int ++ [.int a])=af (xs ++ [a]):=by unfold af; rw [List.map_append]; rfl
theorem kI {σ:St}{x:String}{ns:List String}{mx:Mode}{xs:List PyData} (h:xs.length≤1000000):fG σ x ns mx xs .deep = .ok (upd σ x (.d (.list xs),mx),.next):=by
  unfold fG
  rw [if_pos (show _≤lim from h),if_pos rfl]
@[simp] theorem bg (n:Nat):(aR n).length=n:=by simp [aR]
theorem pP (xs:List Int) (j:Nat) (x:Int):PyData.list ((xs.map PyData.int).take j ++ .int x :: (xs.map PyData.int).drop j)=af (xs.take j ++ x :: xs.drop j):=by
  unfold af; rw [List.map_append,List.map_cons,List.map_take,List.map_drop]
theorem qZ (xs:List Int) (n:Nat) (h:n≤1000000):gr (af xs) (.int n) = .ok (.d (af (xs.take n)),.deep):=by
  unfold af gr
  dsimp only
  rw [if_pos ⟨by exact qb,by exact vV h⟩,Int.toNat_natCast,← List.map_take,fw]
theorem rX (xs:List Int) (n:Nat) (h:n≤1000000):gE (af xs) (.int n) = .ok (.d (af (xs.drop n)),.deep):=by
  unfold af gE
  dsimp only
  rw [if_pos ⟨by exact qb,by exact vV h⟩,Int.toNat_natCast,← List.map_drop,fw]
theorem gO {C:Calls}{s:S}{r:Ss}{σ σ':St} (h:ex C s σ = .ok (σ',.next)):exs C (.cons s r) σ=exs C r σ':=by
  simp only [bS,h,Out.ok_bind]
theorem wU {C:Calls}{s:S}{r:Ss}{σ σ':St}{v:V × Mode} (h:ex C s σ = .ok (σ',.ret v)):exs C (.cons s r) σ = .ok (σ',.ret v):=by
  simp only [bS,h,Out.ok_bind]
section
variable {C:Calls}{a b:E}{σ:St}{x y:PyData}{mx my:Mode}
theorem yn (ha:ev C a σ = .ok (.d x,mx)) (hb:ev C b σ = .ok (.d y,my)):ev C (.shi a b) σ=gr x y:=by simp only [kn,ha,hb,Out.ok_bind]
theorem yi (ha:ev C a σ = .ok (.d x,mx)) (hb:ev C b σ = .ok (.d y,my)):ev C (.slo a b) σ=gE x y:=by simp only [kq,ha,hb,Out.ok_bind]
theorem js (ha:ev C a σ = .ok (.d x,mx)) (hb:ev C b σ = .ok (.d y,my)):ev C (.sub a b) σ=d6 x y:=by simp only [iD,ha,hb,Out.ok_bind]
theorem dw {o:BOp} (ha:ev C a σ = .ok (.d x,mx)) (hb:ev C b σ = .ok (.d y,my)):ev C (.bin o a b) σ=cT o x y:=by simp only [kE,ha,hb,Out.ok_bind]
theorem xV {r:V × Mode} (h:ev C a σ = .ok r):ex C (.ret a) σ = .ok (σ,.ret r):=by simp only [eF,h,Out.ok_bind]
theorem rh {z:String}{r:V × Mode} (h:ev C a σ = .ok r) (hd:r.2 = .deep):ex C (.assign z a) σ = .ok (upd σ z r,.next):=by
  simp only [cb,jR h,Out.ok_bind,consume,hd,if_true]
end
section
variable {C:Calls}{a b c:E}{σ:St}{x y:V}{mx my:Mode}
theorem iI {f:String}{g:List V→Out (V × Mode)}{es:Es}{l:List (V × Mode)} (hC:C f=some g) (he:evs C es σ = .ok l):ev C (.call f es) σ=g (l.map (·.1)):=by simp only [iZ,hC,he,Out.ok_bind]
theorem am {es:Es}{r:V × Mode}{l:List (V × Mode)} (h:ev C a σ = .ok r) (hs:evs C es σ = .ok l):evs C (.cons a es) σ = .ok (r :: l):=by simp only [aV,h,hs,Out.ok_bind]
theorem aI:evs C .nil σ = .ok []:=by simp only [a9]
theorem bj {o:COp}{t:Bool} (ha:ev C a σ = .ok (x,mx)) (hb:ev C b σ = .ok (y,my)) (h:bM o x y = .ok t):ev C (.cmp o a b) σ = .ok (sB t):=by simp only [fW,ha,hb,h,Out.ok_bind]
theorem dZ {t:Bool} (ha:ev C a σ = .ok (sB t)):ev C (.not a) σ = .ok (sB (!t)):=by simp only [f9,ha,Out.ok_bind,gp,bz]
theorem xr {t:Bool} (ha:ev C a σ = .ok (sB false)) (hb:ev C b σ = .ok (sB t)):ev C (.or a b) σ = .ok (sB t):=by
  simp only [g7,ha,hb,Out.ok_bind,gp,bz,Bool.false_eq_true,if_false]
theorem xn (ha:ev C a σ = .ok (sB true)):ev C (.or a b) σ = .ok (sB true):=by
  simp only [g7,ha,Out.ok_bind,gp,bz,if_true]
theorem uI {t:Bool} (ha:ev C a σ = .ok (sB true)) (hb:ev C b σ = .ok (sB t)):ev C (.and a b) σ = .ok (sB t):=by
  simp only [fR,ha,hb,Out.ok_bind,gp,bz,if_true]
theorem sC (ha:ev C a σ = .ok (sB false)):ev C (.and a b) σ = .ok (sB false):=by
  simp only [fR,ha,Out.ok_bind,gp,bz,Bool.false_eq_true,if_false]
theorem kA {u v:Ss} (h:ev C c σ = .ok (sB false)):ex C (.ite c u v) σ=exs C v σ:=by simp only [gh,h,Out.ok_bind,gp,bz,Bool.false_eq_true,if_false]
theorem oA {u v:Ss} (h:ev C c σ = .ok (sB true)):ex C (.ite c u v) σ=exs C u σ:=by simp only [gh,h,Out.ok_bind,gp,bz,if_true]
theorem fP:exs C .nil σ = .ok (σ,.next):=by simp only [cE]
theorem du {f:B1} (ha:ev C a σ = .ok (x,mx)):ev C (.bi1 f a) σ=b1V f x:=by simp only [iw,ha,Out.ok_bind]
theorem pD {z:String}{p r:V × Mode} (h:σ z=some p) (hr:mk p.1=r):ev C (.name z) σ = .ok r:=by simp only [cZ,h,hr]
theorem aJ {r:V × Mode}{q:List PyData × Mode} (h:ev C a σ = .ok r) (hq:itV r = .ok q):bf C (.e a) σ = .ok q:=by simp only [f7,h,Out.ok_bind,hq]
theorem bD {n:Nat}{m:Mode} (h:ev C a σ = .ok (.d (.int n),m)) (hn:n≤1000000):bf C (.r1 a) σ = .ok ((aR n).map .int,.deep):=by
  simp only [eH,h,Out.ok_bind]; exact sk hn
theorem oJ {elt:E}{z:String}{it:It}{q:List PyData × Mode}{r:List PyData × Bool} (h:bf C it σ = .ok q) (hr:bh (fun y=>(ev C elt (upd σ z (mk (.d y)))).bind fun r=>.ok (some r)) q.1 = .ok r):ev C (.comp elt z it) σ = .ok (.d (.list r.1),if r.2 then .deep else .top):=by
  simp only [gJ,h,Out.ok_bind,hr,Out.calm_ok]
theorem lj {elt c:E}{z:String}{it:It}{q:List PyData × Mode}{r:List PyData × Bool} (h:bf C it σ = .ok q) (hr:bh (fun y=>(ev C c (upd σ z (mk (.d y)))).bind fun t=>(au t.1).bind fun b=>if b then (ev C elt (upd σ z (mk (.d y)))).bind fun r=>.ok (some r) else .ok none) q.1 = .ok r):ev C (.compif elt z it c) σ = .ok (.d (.list r.1),if r.2 then .deep else .top):=by
  simp only [eg,h,Out.ok_bind,hr,Out.calm_ok]
theorem c9 {c:E}{z:String}{it:It}{ns:List Int}{m:Mode} (p:Int→Bool) (h:bf C it σ = .ok (ns.map .int,m)) (hc:∀ i∈ns,ev C c (upd σ z (sI i)) = .ok (sB (p i))):ev C (.compif (.name z) z it c) σ = .ok (.d (af (ns.filter p)),.deep):=by
  rw [lj h (r:=((ns.filter p).map .int,true))]
  · rfl
  · have:=jj (F:=fun y=>(ev C c (upd σ z (mk (.d y)))).bind fun t=>(au t.1).bind fun b=>if b then (ev C (.name z) (upd σ z (mk (.d y)))).bind fun r=>.ok (some r) else .ok none) (f:=fun i=>i) (p:=p) (ns:=ns) fun i hi=>by
      rw [xN,hc i hi]
      cases p i <;> simp [cZ]
    simpa using this
theorem rt {t:List (List Int)}{i:Int}{r:List Int} (h0:0≤i) (h:t[i.toNat]? = some r):d6 (aj t) (.int i) = .ok (.d (af r),.sh):=by
  have hlt:i.toNat<t.length:=(List.getElem?_eq_some_iff.mp h).1
  exact kH (eu h0 (by rw [List.length_map]; exact vq hlt)) (by rw [List.getElem?_map,h]; rfl)
end
end Mine
namespace Mine
set_option tactic.hygienic false
set_option linter.unusedVariables false
open PySem
def Val (σ:St) (x:String) (v:V):Prop:=∃ m,σ x=some (v,m)
def Has (σ:St) (l:List (String × V)):Prop:=∀ x v,l.lookup x=some v→Val σ x v
def Sub (l:List (String × V)):List (String × V)→Prop
  | []=>True
  | p :: r=>l.lookup p.1=some p.2∧Sub l r
theorem mV (σ:St) (x:String) (r:V × Mode):upd σ x r x=some r:=if_pos rfl
theorem k6 {β:Type} (x:String) (v:β) (l:List (String × β)):List.lookup x ((x,v) :: l)=some v:=by
  rw [List.lookup_cons,beq_self_eq_true]
theorem lm {β:Type}{x y:String} (h:x≠y) (v:β) (l:List (String × β)):List.lookup x ((y,v) :: l)=l.lookup x:=by
  rw [List.lookup_cons,beq_eq_false_iff_ne.mpr h]
section
variable {C:Calls}{σ:St}{l l':List (String × V)}
theorem Has.nil:Has σ []:=fun uu uu h=>by exact nN h
theorem Has.ev {x:String}{v:V} (H:Has σ l) (h:l.lookup x=some v):ev C (.name x) σ = .ok (mk v):=by
  refine ai (H x v h) fun m e=>?_
  exact pD e rfl
theorem Has.upd (H:Has σ l) (x:String) (v:V) (m:Mode):Has (Mine.upd σ x (v,m)) ((x,v) :: l):=by
  intro y u h
  by_cases e:y=x
  · subst e
    rw [k6] at h
    (have oc:=Option.some.inj h; clear h; subst oc)
    exact ⟨m,if_pos rfl⟩
  · rw [lm e] at h
    refine ai (H y u h) fun m' q=>?_
    exact ⟨m',(if_neg e).trans q⟩
theorem Has.demote (H:Has σ l) (ns:List String):Has (Mine.demote σ ns) l:=by
  intro x v h
  refine ai (H x v h) fun m q=>?_
  by_cases e:x∈ns
  · exact ⟨(mk v).2,(if_pos e).trans (by rw [q]; rfl)⟩
  · exact ⟨m,(if_neg e).trans q⟩
theorem Has.consume (H:Has σ l) (ns:List String) (m:Mode):Has (Mine.consume σ ns m) l:=by
  unfold Mine.consume
  by_cases e:m = .deep
  · rw [if_pos e]; exact H
  · rw [if_neg e]; exact H.demote ns
theorem Has.sub (H:Has σ l) (h:Sub l l'):Has σ l':=by
  induction l' with
  | nil=>exact .nil
  | cons p r ih=>
    intro x v hx
    by_cases e:x=p.1
    · subst e
      rw [k6] at hx
      (have oc:=Option.some.inj hx; clear hx; subst oc)
      exact H _ _ h.1
    · rw [lm e] at hx
      exact ih h.2 x v hx
noncomputable def Runs (C:Calls) (b:Ss) (σ:St) (Post:St→Flw→Prop):Prop:=∃ σ' fl,exs C b σ = .ok (σ',fl)∧Post σ' fl
noncomputable def Cont (C:Calls) (b:Ss) (Post:St→Flw→Prop) (σ:St):Flw→Prop
  | .next=>Runs C b σ Post
  | .ret v=>Post σ (.ret v)
variable {b u v:Ss}{s:S}{e c:E}{Post Post':St→Flw→Prop}{r:V × Mode}{x:String}
theorem Cont.ret (h:Post σ (.ret r)):Cont C b Post σ (.ret r):=h
theorem Runs.mono (h:Runs C b σ Post) (k:∀ σ' fl,Post σ' fl→Post' σ' fl):Runs C b σ Post':=av (h) fun a f h1 h2=>(az a f h1 (k a f h2))
theorem Runs.nil (h:Post σ .next):Runs C .nil σ Post:=(az σ .next fP h)
theorem Runs.cons {o:St × Flw} (he:ex C s σ = .ok o) (k:Cont C b Post o.1 o.2):Runs C (.cons s b) σ Post:=by
  obtain ⟨σ',fl⟩:=o
  cases fl with
  | next=>
    refine av (k) fun a f h1 h2=>?_
    try clear k
    exact (az a f (by rw [gO he]; exact h1) h2)
  | ret v=>exact (az σ' (.ret v) (wU he) k)
theorem Runs.set (H:Has σ l) (he:Mine.ev C e σ = .ok r) (k:∀ σ',Has σ' ((x,r.1) :: l)→σ' x=some r→Runs C b σ' Post):Runs C (.cons (.assign x e) b) σ Post :=
  Runs.cons (o:=(Mine.upd (Mine.consume σ (fv e) r.2) x r,.next)) (by simp only [cb,jR he,Out.ok_bind]) (k _ ((H.consume _ _).upd x r.1 r.2) (if_pos rfl))
theorem Runs.expr (H:Has σ l) (he:Mine.ev C e σ = .ok r) (k:∀ σ',Has σ' l→(∀ y,y∉fv e→σ' y=σ y)→Runs C b σ' Post):Runs C (.cons (.expr e) b) σ Post :=
  Runs.cons (o:=(Mine.consume σ (fv e) r.2,.next)) (by simp only [dB,he,Out.ok_bind]) (k _ (H.consume _ _) fun y hy=>by
    unfold Mine.consume
    by_cases q:r.2 = .deep
    · rw [if_pos q]
    · rw [if_neg q]; exact if_neg hy)
theorem Runs.ret (he:Mine.ev C e σ = .ok r) (k:Post σ (.ret r)):Runs C (.cons (.ret e) b) σ Post:=Runs.cons (o:=(σ,.ret r)) (xV he) k
theorem Runs.retn (he:σ x=some r) (k:Post σ (.ret r)):Runs C (.cons (.retn x) b) σ Post:=Runs.cons (o:=(σ,.ret r)) (by simp only [jb,he]) k
theorem Runs.no (he:Mine.ev C c σ = .ok (sB false)) (k:Runs C b σ Post):Runs C (.cons (.ite c u .nil) b) σ Post:=Runs.cons (o:=(σ,.next)) ((kA he).trans fP) k
theorem Runs.ite {t:Bool} (he:Mine.ev C c σ = .ok (sB t)) (kt:t=true→Runs C u σ (Cont C b Post)) (kf:t=false→Runs C v σ (Cont C b Post)):Runs C (.cons (.ite c u v) b) σ Post:=by
  cases t with
  | true=>
    refine av (kt rfl) fun a f h1 h2=>?_
    exact Runs.cons (o:=(a,f)) ((oA he).trans h1) h2
  | false=>
    refine av (kf rfl) fun a f h1 h2=>?_
    exact Runs.cons (o:=(a,f)) ((kA he).trans h1) h2
theorem Runs.next {σ':St} (he:ex C s σ = .ok (σ',.next)) (k:Runs C b σ' Post):Runs C (.cons s b) σ Post:=Runs.cons (o:=(σ',.next)) he k
theorem Runs.iteTo {t:Bool} (Inv:St→Prop) (he:Mine.ev C c σ = .ok (sB t)) (kt:t=true→Runs C u σ (fun σ' fl=>fl = .next∧Inv σ')) (kf:t=false→Runs C v σ (fun σ' fl=>fl = .next∧Inv σ')) (k:∀ σ',Inv σ'→Runs C b σ' Post):Runs C (.cons (.ite c u v) b) σ Post :=
  Runs.ite he (fun q=>(kt q).mono fun σ' fl h=>by obtain ⟨rfl,h⟩:=h; exact k σ' h) fun q=>(kf q).mono fun σ' fl h=>by obtain ⟨rfl,h⟩:=h; exact k σ' h
theorem fE {ns:List String}{m:Mode}:(∀ l,Has σ l→Has (Mine.consume σ ns m) l)∧∀ y,y∉ns→Mine.consume σ ns m y=σ y:=⟨fun uu H=>H.consume ns m,fun y hy=>by
  unfold Mine.consume
  by_cases q:m = .deep
  · rw [if_pos q]
  · rw [if_neg q]; exact if_neg hy⟩
theorem kU {α:Type}{body:Ss}{z:String}{g:α→PyData}{xs:List α} (Inv:List α→St→Prop)
    (hs:∀ pre y post,xs=pre ++ y :: post→∀ σ,Inv pre σ→Runs C body (Mine.upd σ z (mk (.d (g y)))) (fun σ' fl=>match fl with | .next=>Inv (pre ++ [y]) σ' | .ret v=>Post σ' (.ret v))) :
    ∀ (post pre:List α) (σ:St),xs=pre ++ post→Inv pre σ→∃ o,cr (fun y σ=>exs C body (Mine.upd σ z (mk (.d y)))) (post.map g) σ = .ok o∧match o.2 with | .next=>Inv xs o.1 | .ret v=>Post o.1 (.ret v)
  | [],pre,σ,hl,h=>(ag (σ,.next) rfl (by rw [hl,List.append_nil]; exact h))
  | y :: post,pre,σ,hl,h=>by
    refine av (hs pre y post hl σ h) fun a f h1 h2=>?_
    cases f with
    | ret v=>exact (ag (a,.ret v) (by rw [List.map_cons,cr,h1]; rfl) h2)
    | next=>
      obtain ⟨o,h3,h4⟩:=kU Inv hs post (pre ++ [y]) a (by rw [hl,List.append_assoc]; rfl) h2
      exact (ag o (by rw [List.map_cons,cr,h1]; exact h3) h4)
theorem Runs.for {α:Type}{body:Ss}{z:String}{it:It}{g:α→PyData}{xs:List α}{m:Mode} (Inv:List α→St→Prop) (hit:bf C it σ = .ok (xs.map g,m)) (h0:∀ σ0,(∀ l,Has σ l→Has σ0 l)→(∀ y,y∉bB it→σ0 y=σ y)→Inv [] σ0)
    (hs:∀ pre y post,xs=pre ++ y :: post→∀ σ,Inv pre σ→Runs C body (Mine.upd σ z (mk (.d (g y)))) (fun σ' fl=>match fl with | .next=>Inv (pre ++ [y]) σ' | .ret v=>Post σ' (.ret v)))
    (k:∀ σ',Inv xs σ'→Runs C b σ' Post):Runs C (.cons (.for1 z it body) b) σ Post:=by
  refine aa (kU Inv hs xs [] (Mine.consume σ (bB it) m) rfl (h0 _ fE.1 fE.2)) fun o h1 h2=>?_
  refine Runs.cons (o:=o) (by simp only [gH,hit,Out.ok_bind]; exact h1) ?_
  obtain ⟨a,f⟩:=o
  cases f with
  | next=>exact k a h2
  | ret v=>exact h2
noncomputable def Sk {β:Type} (o:Option β) (Inv:St→Prop) (rv:β→V × Mode) (σ:St) (fl:Flw):Prop:=match o with
  | none=>fl = .next∧Inv σ
  | some q=>fl = .ret (rv q)
theorem Sk.next {β:Type}{o:Option β}{Inv:St→Prop}{rv:β→V × Mode} (h:o=none) (hI:Inv σ):Sk o Inv rv σ .next:=by subst h; exact ⟨rfl,hI⟩
theorem Sk.ret {β:Type}{o:Option β}{q:β}{Inv:St→Prop}{rv:β→V × Mode} (h:o=some q):Sk o Inv rv σ (.ret (rv q)):=by subst h; exact rfl
theorem Runs.seek {α β:Type}{body:Ss}{z:String}{it:It}{g:α→PyData}{xs:List α}{m:Mode} (Inv:St→Prop) (f:α→Option β) (rv:β→V × Mode) (hit:bf C it σ = .ok (xs.map g,m)) (h0:∀ σ0,(∀ l,Has σ l→Has σ0 l)→(∀ y,y∉bB it→σ0 y=σ y)→Inv σ0)
    (hs:∀ y∈xs,∀ σ,Inv σ→Runs C body (Mine.upd σ z (mk (.d (g y)))) (Sk (f y) Inv rv))
    (k:xs.findSome? f=none→∀ σ',Inv σ'→Runs C b σ' Post) (kr:∀ q,xs.findSome? f=some q→∀ σ',Post σ' (.ret (rv q))):Runs C (.cons (.for1 z it body) b) σ Post:=by
  refine Runs.for (fun pre σ=>Inv σ∧pre.findSome? f=none) hit (fun σ0 h1 h2=>⟨h0 σ0 h1 h2,rfl⟩) (fun pre y post hl σ1 h1=>?_) fun σ' h=>k h.2 σ' h.1
  refine (hs y (by rw [hl]; exact List.mem_append_right _ (.head _)) σ1 h1.1).mono fun σ' fl h=>?_
  cases hf:f y with
  | none=>
    rw [hf] at h
    revert h; intro GK
    refine ae (GK) fun E5 h=>?_
    try clear GK
    subst E5
    exact ⟨h,by rw [List.findSome?_append,h1.2,List.findSome?_cons,hf]; rfl⟩
  | some q=>
    rw [hf] at h
    subst h
    exact kr q (by rw [hl,List.findSome?_append,h1.2,List.findSome?_cons,hf]; rfl) σ'
theorem c7:∀ (ps:List String) (vs:List V),ps.length=vs.length→∃ σ,bi ps vs=some σ∧Has σ (ps.zip vs)
  | [],[],_=>(ag _ rfl .nil)
  | [],v :: vs,h=>by cases h
  | p :: ps,[],h=>by cases h
  | p :: ps,v :: vs,h=>by
    refine aa (c7 ps vs (Nat.succ.inj h)) fun σ h1 h2=>?_
    exact (ag _ (by rw [bi,h1]; rfl) (h2.upd p (mk v).1 (mk v).2))
theorem cD {ps:List String}{vs:List V}{P:V × Mode→Prop} (hl:ps.length=vs.length) (h:∀ σ,Has σ (ps.zip vs)→Runs C b σ (fun uu fl=>∃ r,fl = .ret r∧P r)):∃ r,aE C ⟨ps,b⟩ vs = .ok r∧P r:=by
  refine aa (c7 ps vs hl) fun σ h1 h2=>?_
  obtain ⟨a,f,h3,r,E6,h4⟩:=h σ h2
  subst E6
  exact (ag r (by unfold aE; dsimp only; rw [h1]; dsimp only; rw [h3]; rfl) h4)
theorem cQ {ps:List String}{vs:List V}{r:V × Mode} (hl:ps.length=vs.length) (h:∀ σ,Has σ (ps.zip vs)→Runs C b σ (fun uu fl=>fl = .ret r)):aE C ⟨ps,b⟩ vs = .ok r:=by
  refine aa (cD (P:=fun q=>q=r) hl fun σ H=>(h σ H).mono fun uu uu e=>(ag r e rfl)) fun q h1 E7=>?_
  (clear h; subst E7)
  exact h1
def fY (f:String):Bool:=!decide (f = "Rule") && !decide (f∈methNames)
theorem j6 {f:String} (h:fY f=true) (fn:Fn) (vs:List V):bZ f C fn vs=aE C fn vs:=by
  unfold fY at h
  simp only [Bool.and_eq_true,Bool.not_eq_true',decide_eq_false_iff_not] at h
  unfold bZ
  rw [if_neg h.1,if_neg h.2]
theorem dP {L:List (String × Fn)}{n:Nat}{f:String}{fn:Fn}{es:Es}{q:List (V × Mode)}{vs:List V} (hL:L.lookup f=some fn) (he:evs (mkC L (n + 1)) es σ = .ok q) (hv:q.map (·.1)=vs) (h:aE (mkC L n) fn vs = .ok r) (hp:fY f=true:=by decide):Mine.ev (mkC L (n + 1)) (.call f es) σ = .ok r:=by
  have hC:mkC L (n + 1) f=some fun vs=>bZ f (mkC L n) fn vs:=by show (L.lookup f).map _=_; rw [hL]; rfl
  rw [iI hC he,hv,j6 hp,h]
end
section
variable {C:Calls}{σ:St}{a b c:E}{x y:Int}{p q:Bool}{xs ys:List Int}{t u:List (List Int)}{m m':Mode}
theorem ak (i:Int):ev C (.int i) σ = .ok (sI i):=by simp only [fV]
theorem dy (i:Bool):ev C (.bool i) σ = .ok (sB i):=by simp only [ma]
theorem im:ev C .none σ = .ok (.d .none,.deep):=by simp only [mF]
theorem rC:ev C .edic σ = .ok (.dic0,.deep):=by simp only [mG]
theorem pX:ev C (.list .nil) σ = .ok (.d (af []),.deep):=by simp only [bU,a9]; rfl
theorem e9 (h:ev C a σ = .ok (sI x)):ev C (.list (.cons a .nil)) σ = .ok (.d (af [x]),.deep):=by simp only [bU,a9,aV,h,Out.ok_bind]; rfl
theorem B0 (h:ev C a σ = .ok (sI x)) (h':ev C b σ = .ok (sI y)):ev C (.list (.cons a (.cons b .nil))) σ = .ok (.d (af [x,y]),.deep):=by simp only [bU,a9,aV,h,h',Out.ok_bind]; rfl
theorem bw (ha:ev C a σ = .ok (sI x)) (hb:ev C b σ = .ok (sI y)):ev C (.bin .add a b) σ = .ok (sI (x + y)):=(dw ha hb).trans rfl
theorem AD (ha:ev C a σ = .ok (sI x)) (hb:ev C b σ = .ok (sI y)):ev C (.bin .xor a b) σ = .ok (sI (Builtin.bitXor x y)):=(dw ha hb).trans rfl
theorem jO (ha:ev C a σ = .ok (sI x)) (hb:ev C b σ = .ok (sI y)) (h:x.natAbs<2 ^ 63):ev C (.bin .mul a b) σ = .ok (sI (x * y)):=(dw ha hb).trans (sf x y h)
theorem aO (ha:ev C a σ = .ok (sI x)) (hb:ev C b σ = .ok (sI y)) (h:0<y):ev C (.bin .mod a b) σ = .ok (sI (x % y)):=(dw ha hb).trans (wY x y h)
theorem cX (ha:ev C a σ = .ok (sI x)) (hb:ev C b σ = .ok (sI y)) (h:0<y) (h':y<1000000000):ev C (.bin .fdiv a b) σ = .ok (sI (x / y)):=(dw ha hb).trans (wT x y h h')
theorem pq (ha:ev C a σ = .ok (sI x)) (hb:ev C b σ = .ok (sI y)):ev C (.cmp .lt a b) σ = .ok (sB (decide (x<y))):=bj ha hb rfl
theorem pR (ha:ev C a σ = .ok (sI x)) (hb:ev C b σ = .ok (sI y)):ev C (.cmp .gt a b) σ = .ok (sB (decide (y<x))):=bj ha hb rfl
theorem DT (ha:ev C a σ = .ok (sI x)) (hb:ev C b σ = .ok (sI y)):ev C (.cmp .ge a b) σ = .ok (sB (decide (y≤x))):=bj ha hb rfl
theorem cz (ha:ev C a σ = .ok (sI x)) (hb:ev C b σ = .ok (sI y)):ev C (.cmp .eq a b) σ = .ok (sB (decide (x=y))):=bj ha hb (xR x y)
theorem te (ha:ev C a σ = .ok (sI x)) (hb:ev C b σ = .ok (sI y)):ev C (.cmp .ne a b) σ = .ok (sB (!decide (x=y))):=bj ha hb (yt x y)
theorem uT (ha:ev C a σ = .ok (.d (af xs),m)) (hb:ev C b σ = .ok (.d (af ys),m')):ev C (.cmp .ne a b) σ = .ok (sB (!decide (xs=ys))):=bj ha hb (xE xs ys)
theorem zU (ha:ev C a σ = .ok (.d (af xs),m)) (hb:ev C b σ = .ok (.d (af ys),m')):ev C (.cmp .eq a b) σ = .ok (sB (decide (xs=ys))):=bj ha hb (xA xs ys)
theorem mt (ha:ev C a σ = .ok (sI x)) (hb:ev C b σ = .ok (.d (af xs),m)):ev C (.cmp .isin a b) σ = .ok (sB (decide (x∈xs))):=bj ha hb (yY x xs)
theorem iA (ha:ev C a σ = .ok (sI x)) (hb:ev C b σ = .ok (.d (af xs),m)):ev C (.cmp .notin a b) σ = .ok (sB (!decide (x∈xs))):=bj ha hb (xB x xs)
theorem AB (ha:ev C a σ = .ok (.d (af xs),m)) (hb:ev C b σ = .ok (.d (aj t),m')):ev C (.cmp .isin a b) σ = .ok (sB (decide (xs∈t))):=bj ha hb (wv xs t)
theorem dY (ha:ev C a σ = .ok (.d (af xs),m)) (hb:ev C b σ = .ok (.d (af ys),m')) (h:xs.length + ys.length≤1000000):ev C (.bin .add a b) σ = .ok (.d (af (xs ++ ys)),.deep):=(dw ha hb).trans (tN xs ys h)
theorem um (t u:List (List Int)) (h:t.length + u.length≤1000000):∃ m,cT .add (aj t) (aj u) = .ok (.d (aj (t ++ u)),m):=by
  refine ⟨fresh ((t ++ u).map af),?_⟩
  show (if (t.map af).length + (u.map af).length≤lim then Out.ok (V.d (.list (t.map af ++ u.map af)),fresh (t.map af ++ u.map af)) else .bad)=_
  rw [List.length_map,List.length_map,if_pos (show _≤lim from h),← List.map_append]; rfl
theorem jx (ha:ev C a σ = .ok (.d (aj t),m)) (hb:ev C b σ = .ok (.d (aj u),m')) (h:t.length + u.length≤1000000):∃ m,ev C (.bin .add a b) σ = .ok (.d (aj (t ++ u)),m):=by
  refine ai (um t u h) fun m q=>?_
  exact ⟨m,(dw ha hb).trans q⟩
theorem cM (ha:ev C a σ = .ok (.d (af xs),m)):ev C (.bi1 .len a) σ = .ok (sI xs.length):=(du ha).trans (xQ xs)
theorem jy (ha:ev C a σ = .ok (.d (aj t),m)):ev C (.bi1 .len a) σ = .ok (sI t.length):=(du ha).trans (xb t)
theorem fZ (ha:ev C a σ = .ok (.d (af xs),m)):ev C (.bi1 .list a) σ = .ok (.d (af xs),.deep):=(du ha).trans (wA xs)
theorem nZ (ha:ev C a σ = .ok (.d (af xs),m)):ev C (.bi1 .tuple a) σ = .ok (.d (aL xs),.deep):=(du ha).trans (tT xs)
theorem td (ha:ev C a σ = .ok (.d (af xs),m)) (h:xs.length<64):ev C (.bi1 .sorted a) σ = .ok (.d (af (fz xs)),.deep):=(du ha).trans (li xs h)
theorem tz {r:List Int} (h:r.Pairwise (· < ·)):fz r=r:=sT (.refl _) (h.imp fun h=>Int.le_of_lt h)
theorem pd (ha:ev C a σ = .ok (.d (af xs),m)) (h:xs.length<128) (h0:∀ i∈xs,0≤i) (hu:xs.Pairwise (· < ·)):ev C (.bi1 .sorted a) σ = .ok (.d (af xs),.deep):=(du ha).trans (nJ xs h h0 hu (tz hu))
theorem go {i:Int} (ha:ev C a σ = .ok (.d (af xs),m)) (hb:ev C b σ = .ok (sI i)) (h0:0≤i) (h:xs[i.toNat]? = some x):ev C (.sub a b) σ = .ok (sI x):=(js ha hb).trans (se h0 h)
theorem r6 {i:Int} (ha:ev C a σ = .ok (.d (aj t),m)) (hb:ev C b σ = .ok (sI i)) (h0:0≤i) (h:t[i.toNat]? = some xs):ev C (.sub a b) σ = .ok (.d (af xs),.sh):=(js ha hb).trans (rt h0 h)
theorem fk (ha:ev C a σ = .ok (sB p)) (hb:p=true→ev C b σ = .ok (sB q)):ev C (.and a b) σ = .ok (sB (p && q)):=by
  cases p with
  | true=>exact uI ha (hb rfl)
  | false=>exact sC ha
theorem fL (ha:ev C a σ = .ok (sB p)) (hb:p=false→ev C b σ = .ok (sB q)):ev C (.or a b) σ = .ok (sB (p || q)):=by
  cases p with
  | true=>exact xn ha
  | false=>exact xr ha (hb rfl)
theorem wW {i j:Int} (ha:ev C a σ = .ok (sI i)) (hb:ev C b σ = .ok (sI j)) (h1:0≤i) (h2:i≤1000) (h3:0≤j) (h4:j≤1000):bf C (.r2 a b) σ = .ok (((List.range (j - i).toNat).map fun (k:Nat)=>i + (k:Int)).map .int,.deep):=by
  simp only [eM,ha,hb,Out.ok_bind]
  show bT i j=_
  unfold bT
  rw [if_pos (b9 (by unfold lim; exact Ca h1 h4) (by exact uR h1) (by exact uY h2) (by exact uR h3) (by exact uY h4)),jN]
theorem db {α:Type}{g:α→PyData}{l:List α}{z:String}{it:It}{q:Mode} (f:α→List Int) (mm:Mode) (h:bf C it σ = .ok (l.map g,q)) (hc:∀ i∈l,ev C a (upd σ z (mk (.d (g i)))) = .ok (.d (af (f i)),mm)) :
    ∃ m,ev C (.comp a z it) σ = .ok (.d (aj (l.map f)),m)∧(mm = .deep→m = .deep)∧m≠.sh:=by
  obtain ⟨b,h1,h2⟩:=gS (F:=fun y=>(ev C a (upd σ z (mk (.d y)))).bind fun r=>.ok (some r)) (e:=g) (f:=f) (p:=fun uu=>true) (m:=fun uu=>mm) (l:=l) fun i hi=>by rw [hc i hi]; rfl
  rw [List.filter_eq_self.mpr (fun uu uu=>rfl)] at h1
  exact (aA (if b then .deep else .top) (oJ h h1) (fun hm=>by rw [h2 fun uu uu=>hm]; rfl) (by cases b <;> simp))
theorem hV {α:Type}{g:α→PyData}{l:List α}{z:String}{it:It}{r:Mode} (f:α→List Int) (p:α→Bool) (mm:Mode) (h:bf C it σ = .ok (l.map g,r)) (hp:∀ i∈l,ev C c (upd σ z (mk (.d (g i)))) = .ok (sB (p i)))
    (hc:∀ i∈l,p i=true→ev C a (upd σ z (mk (.d (g i)))) = .ok (.d (af (f i)),mm)):∃ m,ev C (.compif a z it c) σ = .ok (.d (aj ((l.filter p).map f)),m)∧(mm = .deep→m = .deep)∧m≠.sh:=by
  obtain ⟨b,h1,h2⟩:=gS (F:=fun y=>(ev C c (upd σ z (mk (.d y)))).bind fun t=>(au t.1).bind fun b=>if b then (ev C a (upd σ z (mk (.d y)))).bind fun r=>.ok (some r) else .ok none) (e:=g) (f:=f) (p:=p) (m:=fun uu=>mm) (l:=l) fun i hi=>by
    rw [hp i hi]
    cases hq:p i with
    | true=>simp only [Out.ok_bind,gp,bz,if_true,hc i hi hq]
    | false=>simp only [Out.ok_bind,gp,bz,Bool.false_eq_true,if_false]
  exact (aA (if b then .deep else .top) (lj h h1) (fun hm=>by rw [h2 fun uu uu=>hm]; rfl) (by cases b <;> simp))
theorem gd {α:Type}{g:α→PyData}{l:List α}{z:String}{it:It}{q:Mode} (f:α→Int) (h:bf C it σ = .ok (l.map g,q)) (hc:∀ i∈l,ev C a (upd σ z (mk (.d (g i)))) = .ok (sI (f i))):ev C (.comp a z it) σ = .ok (.d (af (l.map f)),.deep):=by
  rw [oJ h (r:=((l.map f).map .int,true))]
  · rfl
  · exact mT (F:=fun y=>(ev C a (upd σ z (mk (.d y)))).bind fun r=>.ok (some r)) (e:=g) fun i hi=>by rw [hc i hi]; rfl
theorem g8 {xs:List Int} (h:xs≠[]):∃ i,dA xs=some i∧i∈xs:=by
  cases xs with
  | nil=>exact absurd rfl h
  | cons x xs=>
    refine (ag _ rfl ?_)
    have key:∀ (l:List Int) (a:Int),l.foldl (fun a b=>if a<b then b else a) a=a∨l.foldl (fun a b=>if a<b then b else a) a∈l:=by
      intro l
      induction l with
      | nil=>exact fun a=>.inl rfl
      | cons y l ih=>
        intro a
        rw [List.foldl_cons]
        by_cases q:a<y
        · rw [if_pos q]
          rcases ih y with e | e
          · exact .inr (by rw [e]; exact .head _)
          · exact .inr (.tail _ e)
        · rw [if_neg q]
          exact (ih a).imp id fun e=>.tail _ e
    rcases key xs x with e | e
    · rw [e]; exact .head _
    · exact .tail _ e
theorem AS (ha:ev C a σ = .ok (.d (af xs),m)) (h:xs≠[]):∃ i,ev C (.bi1 .max a) σ = .ok (sI i)∧i∈xs:=by
  refine aa (g8 h) fun i h1 h2=>?_
  refine (ag i ((du ha).trans ?_) h2)
  show (aC ((aN (xs.map PyData.int)).bind dA) fun i=>Out.ok (sI i))=_
  rw [cP,Option.bind_some,h1]; rfl
theorem mW:ev C (.list (.cons (.list .nil) .nil)) σ = .ok (.d (aj [[]]),.deep):=by simp only [bU,a9,aV]; rfl
theorem kl:ev C (.list .nil) σ = .ok (.d (aj []),.deep):=by simp only [bU,a9]; rfl
theorem iR {α:Type}{l:List α}{Q:α→Bool→Prop} (h:∀ i∈l,∃ b,Q i b):∃ p:α→Bool,∀ i∈l,Q i (p i):=by
  classical
  exact ⟨fun i=>if hi:i∈l then (h i hi).choose else false,fun i hi=>by dsimp only; rw [dif_pos hi]; exact (h i hi).choose_spec⟩
theorem Has.mk {l:List (String × V)} (H:Has σ l) (z:String) (v:V):Has (Mine.upd σ z (Mine.mk v)) ((z,v) :: l):=H.upd z v (Mine.mk v).2
variable {l:List (String × V)}{z:String}{bb:Ss}{Post:St→Flw→Prop}
theorem Runs.appR (H:Has σ l) (hz:σ z=some (.d (aj t),m)) (hm:m≠.sh) (h:ev C a σ = .ok (.d (af xs),.deep)) (hl:t.length<1000000) (k:∀ σ',Has σ' ((z,.d (aj (t ++ [xs]))) :: l)→σ' z=some (.d (aj (t ++ [xs])),m)→(∀ y,y≠z→σ' y=σ y)→Runs C bb σ' Post):Runs C (.cons (.append z a) bb) σ Post:=by
  refine Runs.cons (o:=(upd σ z (.d (aj (t ++ [xs])),m),.next)) ?_ (k _ (H.upd z _ m) (if_pos rfl) fun y hy=>if_neg hy)
  simp only [gz,h,Out.calm_ok,Out.ok_bind,hz,kJ,if_neg hm]
  rw [kI (by rw [List.length_append,List.length_map]; exact hl)]
  unfold aj; rw [List.map_append]; rfl
theorem kO {α β:Type} (f:α→β):∀ (l:List α) (i:Nat),(l.map f).eraseIdx i=(l.eraseIdx i).map f
  | [],_=>rfl
  | _ :: _,0=>rfl
  | a :: l,i + 1=>congrArg (f a :: ·) (kO f l i)
theorem Runs.popR (H:Has σ l) (hz:σ z=some (.d (aj t),m)) (hm:m≠.sh) (h:ev C a σ = .ok (sI x)) (h0:0≤x) (h1:x<t.length) (k:∀ σ',Has σ' ((z,.d (aj (t.eraseIdx x.toNat))) :: l)→σ' z=some (.d (aj (t.eraseIdx x.toNat)),.top)→Runs C bb σ' Post):Runs C (.cons (.pop z a) bb) σ Post:=by
  refine Runs.cons (o:=(upd σ z (.d (aj (t.eraseIdx x.toNat)),.top),.next)) ?_ (k _ (H.upd z _ .top) (if_pos rfl))
  simp only [kj,h,Out.calm_ok,Out.ok_bind,hz,kJ,yk]
  rw [if_neg (by rw [List.length_map]; exact fun q=>q.elim hm fun q=>by exact A1 h0 h1 q)]
  unfold aj; rw [kO]
theorem pM {r:PyData}{q:List PyData} (h:ev C a σ = .ok (.d (.tuple (r :: q)),m)) (hb:ev C b σ = .ok (sI 0)):ev C (.sub a b) σ = .ok (mk (.d r)):=by
  rw [js h hb]
  show (aC ((bF 0 (r :: q).length).bind fun k=>(r :: q)[k]?) fun z=>Out.ok (mk (.d z)))=_
  rw [eu (by decide) (by rw [List.length_cons]; exact z8)]; rfl
theorem pk {r r':PyData}{q:List PyData} (h:ev C a σ = .ok (.d (.tuple (r :: r' :: q)),m)) (hb:ev C b σ = .ok (sI 1)):ev C (.sub a b) σ = .ok (mk (.d r')):=by
  rw [js h hb]
  show (aC ((bF 1 (r :: r' :: q).length).bind fun k=>(r :: r' :: q)[k]?) fun z=>Out.ok (mk (.d z)))=_
  rw [eu (by decide) (by rw [List.length_cons,List.length_cons]; exact B5)]; rfl
theorem di (ha:ev C a σ = .ok (sI x)) (hb:ev C b σ = .ok (.d (aj t),m)):∃ m,ev C (.tup (.cons a (.cons b .nil))) σ = .ok (.d (.tuple [.int x,aj t]),m):=by
  refine ⟨if allDeep [sI x,(.d (aj t),m)] then .deep else .sh,?_⟩
  simp only [iE,a9,aV,ha,hb,Out.ok_bind]
  rfl
theorem pB {v:V}{ty:String} (h:ev C a σ = .ok (v,m)) (hi:fB v ty = .ok p):ev C (.isi a ty) σ = .ok (sB p):=by simp only [kF,h,Out.ok_bind,hi]
theorem qI {x y z:PyData}{m1 m2 m3:Mode} (ha:ev C a σ = .ok (.d x,m1)) (hb:ev C b σ = .ok (.d y,m2)) (hc:ev C c σ = .ok (.d z,m3)):ev C (.tup (.cons a (.cons b (.cons c .nil)))) σ = .ok (.d (.tuple [x,y,z]),if allDeep [(.d x,m1),(.d y,m2),(.d z,m3)] then .deep else .sh):=by
  simp only [iE,a9,aV,ha,hb,hc,Out.ok_bind]; rfl
end
end Mine
namespace Mine
set_option tactic.hygienic false
set_option linter.unusedVariables false
open PySem
noncomputable def p_exchanged:Fn:=⟨["choice", "out", "thing"],
    (.cons (.ret (.bi1 .sorted (.bin .add (.compif (.name "one") "one" (.e (.name "choice")) (.cmp .ne (.name "one") (.name "out"))) (.list (.cons (.name "thing") .nil)))))
    .nil)⟩
noncomputable def p_known_of:Fn:=⟨["table"],
    (.cons (.assign "known" .edic)
    (.cons (.for1 "choice" (.e (.name "table"))
    (.cons (.setitem "known" (.bi1 .tuple (.name "choice")))
    .nil))
    (.cons (.retn "known")
    .nil)))⟩
noncomputable def p_goes:Fn:=⟨["known", "one", "other", "thing"],
    (.cons (.for1 "out" (.e (.name "one"))
    (.cons (.ite (.and (.cmp .notin (.name "out") (.name "other")) (.cmp .isin (.bi1 .tuple (.call "exchanged" (.cons (.name "one") (.cons (.name "out") (.cons (.name "thing") .nil))))) (.name "known")))
    (.cons (.ret (.bool true))
    .nil)
    .nil)
    .nil))
    (.cons (.ret (.bool false))
    .nil))⟩
noncomputable def p_fault:Fn:=⟨["count", "table"],
    (.cons (.assign "known" (.call "known_of" (.cons (.name "table") .nil)))
    (.cons (.for1 "one" (.e (.name "table"))
    (.cons (.for1 "thing" (.r1 (.name "count"))
    (.cons (.ite (.cmp .notin (.name "thing") (.name "one"))
    (.cons (.for1 "other" (.e (.name "table"))
    (.cons (.ite (.and (.cmp .isin (.name "thing") (.name "other")) (.not (.call "goes" (.cons (.name "known") (.cons (.name "one") (.cons (.name "other") (.cons (.name "thing") .nil)))))))
    (.cons (.ret (.tup (.cons (.bi1 .list (.name "one")) (.cons (.bi1 .list (.name "other")) (.cons (.name "thing") .nil)))))
    .nil)
    .nil)
    .nil))
    .nil)
    .nil)
    .nil))
    .nil))
    (.cons (.ret .none)
    .nil)))⟩
noncomputable def l_cell_at:Fn:=⟨["_law_script", "_law_k"],
    (.cons (.ite (.cmp .lt (.name "_law_k") (.bi1 .len (.name "_law_script")))
    (.cons (.ret (.sub (.name "_law_script") (.name "_law_k")))
    .nil)
    .nil)
    (.cons (.ite (.cmp .eq (.name "_law_script") (.list .nil))
    (.cons (.ret (.int 0))
    .nil)
    .nil)
    (.cons (.ret (.bin .add (.bin .mul (.sub (.name "_law_script") (.bin .mod (.name "_law_k") (.bi1 .len (.name "_law_script")))) (.int 7)) (.name "_law_k")))
    .nil)))⟩
noncomputable def l_whole:Fn:=⟨["_law_found"],
    (.cons (.ret (.and (.isi (.name "_law_found") "int") (.not (.isi (.name "_law_found") "bool"))))
    .nil)⟩
noncomputable def l_subsets:Fn:=⟨["_law_count"],
    (.cons (.assign "_law_rows" (.list (.cons (.list .nil) .nil)))
    (.cons (.for1 "_law_thing" (.r1 (.name "_law_count"))
    (.cons (.assign "_law_rows" (.bin .add (.name "_law_rows") (.comp (.bin .add (.name "_law_row") (.list (.cons (.name "_law_thing") .nil))) "_law_row" (.e (.name "_law_rows")))))
    .nil))
    (.cons (.retn "_law_rows")
    .nil)))⟩
noncomputable def l_apart:Fn:=⟨["_law_vectors", "_law_row"],
    (.cons (.assign "_law_sums" (.list (.cons (.int 0) .nil)))
    (.cons (.for1 "_law_thing" (.e (.name "_law_row"))
    (.cons (.ite (.cmp .isin (.sub (.name "_law_vectors") (.name "_law_thing")) (.name "_law_sums"))
    (.cons (.ret (.bool false))
    .nil)
    .nil)
    (.cons (.assign "_law_sums" (.bin .add (.name "_law_sums") (.comp (.bin .xor (.name "_law_one") (.sub (.name "_law_vectors") (.name "_law_thing"))) "_law_one" (.e (.name "_law_sums")))))
    .nil)))
    (.cons (.ret (.bool true))
    .nil)))⟩
noncomputable def l_parts:Fn:=⟨["_law_script", "_law_kind", "_law_count", "_law_more"],
    (.cons (.assign "_law_rows" (.call "_law_subsets" (.cons (.name "_law_count") .nil)))
    (.cons (.ite (.cmp .eq (.name "_law_kind") (.int 0))
    (.cons (.ret (.tup (.cons (.name "_law_count") (.cons (.comp (.sub (.name "_law_rows") (.bin .mod (.call "_law_cell_at" (.cons (.name "_law_script") (.cons (.bin .add (.int 6) (.name "_law_k")) .nil))) (.bi1 .len (.name "_law_rows")))) "_law_k" (.r1 (.bin .mod (.name "_law_more") (.int 6)))) .nil))))
    .nil)
    .nil)
    (.cons (.ite (.cmp .eq (.bin .mod (.name "_law_more") (.int 9)) (.int 8))
    (.cons (.assign "_law_count" (.bin .add (.int 7) (.bin .mod (.bin .fdiv (.name "_law_more") (.int 9)) (.int 3))))
    (.cons (.assign "_law_rows" (.list .nil))
    (.cons (.for1 "_law_one" (.r1 (.name "_law_count"))
    (.cons (.assign "_law_rows" (.bin .add (.name "_law_rows") (.comp (.list (.cons (.name "_law_one") (.cons (.name "_law_thing") .nil))) "_law_thing" (.r2 (.bin .add (.name "_law_one") (.int 1)) (.name "_law_count")))))
    .nil))
    (.cons (.ret (.tup (.cons (.name "_law_count") (.cons (.name "_law_rows") .nil))))
    .nil))))
    .nil)
    (.cons (.ret (.tup (.cons (.name "_law_count") (.cons (.compif (.name "_law_row") "_law_row" (.e (.name "_law_rows")) (.cmp .eq (.bi1 .len (.name "_law_row")) (.bin .mod (.name "_law_more") (.bin .add (.name "_law_count") (.int 1))))) .nil))))
    .nil))))⟩
noncomputable def l_few:Fn:=⟨["_law_script"],
    (.cons (.assign "_law_kind" (.bin .mod (.call "_law_cell_at" (.cons (.name "_law_script") (.cons (.int 0) .nil))) (.int 9)))
    (.cons (.assign "_law_count" (.sub (.list (.cons (.int 6) (.cons (.int 5) (.cons (.int 4) (.cons (.int 3) (.cons (.int 6) (.cons (.int 1) (.cons (.int 0) .nil)))))))) (.bin .mod (.bin .fdiv (.call "_law_cell_at" (.cons (.name "_law_script") (.cons (.int 0) .nil))) (.int 9)) (.int 7))))
    (.cons (.assign "_law_more" (.call "_law_cell_at" (.cons (.name "_law_script") (.cons (.int 1) .nil))))
    (.cons (.ite (.cmp .eq (.name "_law_kind") (.int 7))
    (.cons (.assign "_law_many" (.bin .add (.int 1) (.bin .mod (.name "_law_more") (.int 4))))
    (.cons (.ite (.cmp .gt (.bi1 .len (.name "_law_script")) (.int 63))
    (.cons (.assign "_law_many" (.bin .add (.int 1) (.bin .mod (.name "_law_more") (.int 5))))
    .nil)
    .nil)
    (.cons (.ret (.tup (.cons (.bin .mul (.int 2) (.name "_law_many")) (.cons (.call "_law_pairs_by" (.cons (.name "_law_many") .nil)) .nil))))
    .nil)))
    .nil)
    (.cons (.ite (.cmp .lt (.name "_law_kind") (.int 2))
    (.cons (.ret (.call "_law_parts" (.cons (.name "_law_script") (.cons (.name "_law_kind") (.cons (.name "_law_count") (.cons (.name "_law_more") .nil))))))
    .nil)
    .nil)
    (.cons (.assign "_law_count" (.sub (.list (.cons (.int 6) (.cons (.int 5) (.cons (.int 4) (.cons (.int 3) (.cons (.int 7) (.cons (.int 7) (.cons (.int 2) .nil)))))))) (.bin .mod (.bin .fdiv (.call "_law_cell_at" (.cons (.name "_law_script") (.cons (.int 0) .nil))) (.int 9)) (.int 7))))
    (.cons (.assign "_law_rows" (.list (.cons (.list .nil) .nil)))
    (.cons (.for1 "_law_thing" (.r1 (.name "_law_count"))
    (.cons (.assign "_law_rows" (.bin .add (.name "_law_rows") (.compif (.bin .add (.name "_law_row") (.list (.cons (.name "_law_thing") .nil))) "_law_row" (.e (.name "_law_rows")) (.cmp .lt (.bi1 .len (.name "_law_row")) (.int 3)))))
    .nil))
    (.cons (.assign "_law_vectors" (.comp (.bin .mod (.call "_law_cell_at" (.cons (.name "_law_script") (.cons (.bin .add (.int 6) (.name "_law_thing")) .nil))) (.int 8)) "_law_thing" (.r1 (.name "_law_count"))))
    (.cons (.assign "_law_good" (.compif (.name "_law_row") "_law_row" (.e (.name "_law_rows")) (.call "_law_apart" (.cons (.name "_law_vectors") (.cons (.name "_law_row") .nil)))))
    (.cons (.assign "_law_most" (.bi1 .max (.comp (.bi1 .len (.name "_law_row")) "_law_row" (.e (.name "_law_good")))))
    (.cons (.assign "_law_table_here" (.compif (.name "_law_row") "_law_row" (.e (.name "_law_good")) (.cmp .eq (.bi1 .len (.name "_law_row")) (.name "_law_most"))))
    (.cons (.ite (.cmp .eq (.name "_law_kind") (.int 3))
    (.cons (.pop "_law_table_here" (.bin .mod (.name "_law_more") (.bi1 .len (.name "_law_table_here"))))
    .nil)
    .nil)
    (.cons (.ret (.tup (.cons (.name "_law_count") (.cons (.name "_law_table_here") .nil))))
    .nil))))))))))))))⟩
noncomputable def l_pairs_by:Fn:=⟨["_law_many"],
    (.cons (.assign "_law_rows" (.list (.cons (.list .nil) .nil)))
    (.cons (.for1 "_law_k" (.r1 (.name "_law_many"))
    (.cons (.assign "_law_rows" (.bin .add (.comp (.bin .add (.name "_law_row") (.list (.cons (.bin .mul (.int 2) (.name "_law_k")) .nil))) "_law_row" (.e (.name "_law_rows"))) (.comp (.bin .add (.name "_law_row") (.list (.cons (.bin .add (.bin .mul (.int 2) (.name "_law_k")) (.int 1)) .nil))) "_law_row" (.e (.name "_law_rows")))))
    .nil))
    (.cons (.retn "_law_rows")
    .nil)))⟩
noncomputable def l_table:Fn:=⟨["_law_script"],
    (.cons (.assign "_law_kind" (.bin .mod (.call "_law_cell_at" (.cons (.name "_law_script") (.cons (.int 0) .nil))) (.int 9)))
    (.cons (.assign "_law_more" (.call "_law_cell_at" (.cons (.name "_law_script") (.cons (.int 1) .nil))))
    (.cons (.ite (.cmp .eq (.name "_law_kind") (.int 4))
    (.cons (.assign "_law_count" (.bin .add (.int 7) (.bin .mod (.name "_law_more") (.int 12))))
    (.cons (.assign "_law_step" (.bin .add (.int 1) (.bin .mod (.bin .fdiv (.name "_law_more") (.int 12)) (.int 4))))
    (.cons (.ret (.tup (.cons (.name "_law_count") (.cons (.compif (.list (.cons (.name "_law_thing") .nil)) "_law_thing" (.r1 (.name "_law_count")) (.cmp .eq (.bin .mod (.name "_law_thing") (.name "_law_step")) (.int 0))) .nil))))
    .nil)))
    .nil)
    (.cons (.ite (.cmp .eq (.name "_law_kind") (.int 5))
    (.cons (.assign "_law_count" (.bin .add (.int 7) (.bin .mod (.name "_law_more") (.int 6))))
    (.cons (.ret (.tup (.cons (.name "_law_count") (.cons (.comp (.compif (.name "_law_thing") "_law_thing" (.r1 (.name "_law_count")) (.cmp .ne (.name "_law_thing") (.name "_law_gone"))) "_law_gone" (.r1 (.name "_law_count"))) .nil))))
    .nil))
    .nil)
    (.cons (.assign "_law_made" (.call "_law_few" (.cons (.name "_law_script") .nil)))
    (.cons (.assign "_law_far" (.call "_law_cell_at" (.cons (.name "_law_script") (.cons (.int 12) .nil))))
    (.cons (.ite (.or (.cmp .ne (.bin .mod (.name "_law_far") (.int 3)) (.int 1)) (.or (.cmp .gt (.bi1 .len (.sub (.name "_law_made") (.int 1))) (.int 8)) (.cmp .gt (.sub (.name "_law_made") (.int 0)) (.int 9))))
    (.cons (.retn "_law_made")
    .nil)
    .nil)
    (.cons (.assign "_law_step" (.bin .add (.int 1) (.bin .mod (.bin .fdiv (.name "_law_far") (.int 3)) (.int 9))))
    (.cons (.assign "_law_first" (.bin .mod (.bin .fdiv (.name "_law_far") (.int 27)) (.int 9)))
    (.cons (.assign "_law_table_here" (.list .nil))
    (.cons (.for1 "_law_choice" (.e (.sub (.name "_law_made") (.int 1)))
    (.cons (.append "_law_table_here" (.comp (.bin .add (.name "_law_first") (.bin .mul (.name "_law_step") (.name "_law_thing"))) "_law_thing" (.e (.name "_law_choice"))))
    .nil))
    (.cons (.ret (.tup (.cons (.bin .add (.name "_law_first") (.bin .mul (.name "_law_step") (.sub (.name "_law_made") (.int 0)))) (.cons (.name "_law_table_here") .nil))))
    .nil))))))))))))⟩
noncomputable def l_can:Fn:=⟨["_law_table_here", "_law_one", "_law_other", "_law_thing"],
    (.cons (.for1 "_law_out" (.e (.name "_law_one"))
    (.cons (.assign "_law_made" (.bi1 .sorted (.bin .add (.compif (.name "_law_left") "_law_left" (.e (.name "_law_one")) (.cmp .ne (.name "_law_left") (.name "_law_out"))) (.list (.cons (.name "_law_thing") .nil)))))
    (.cons (.ite (.and (.cmp .notin (.name "_law_out") (.name "_law_other")) (.cmp .isin (.name "_law_made") (.name "_law_table_here")))
    (.cons (.ret (.bool true))
    .nil)
    .nil)
    .nil)))
    (.cons (.ret (.bool false))
    .nil))⟩
noncomputable def l_fault:Fn:=⟨["_law_count", "_law_table_here"],
    (.cons (.for1 "_law_one" (.e (.name "_law_table_here"))
    (.cons (.for1 "_law_thing" (.r1 (.name "_law_count"))
    (.cons (.ite (.cmp .notin (.name "_law_thing") (.name "_law_one"))
    (.cons (.for1 "_law_other" (.e (.name "_law_table_here"))
    (.cons (.ite (.and (.cmp .isin (.name "_law_thing") (.name "_law_other")) (.not (.call "_law_can" (.cons (.name "_law_table_here") (.cons (.name "_law_one") (.cons (.name "_law_other") (.cons (.name "_law_thing") .nil)))))))
    (.cons (.ret (.tup (.cons (.name "_law_one") (.cons (.name "_law_other") (.cons (.name "_law_thing") .nil)))))
    .nil)
    .nil)
    .nil))
    .nil)
    .nil)
    .nil))
    .nil))
    (.cons (.ret .none)
    .nil))⟩
structure Lib (L:List (String × Fn)):Prop where
  cell:L.lookup "_law_cell_at" = some l_cell_at
  whole:L.lookup "_law_whole" = some l_whole
  subs:L.lookup "_law_subsets" = some l_subsets
  apart:L.lookup "_law_apart" = some l_apart
  parts:L.lookup "_law_parts" = some l_parts
  few:L.lookup "_law_few" = some l_few
  pairs:L.lookup "_law_pairs_by" = some l_pairs_by
  table:L.lookup "_law_table" = some l_table
  can:L.lookup "_law_can" = some l_can
  lfault:L.lookup "_law_fault" = some l_fault
  exch:L.lookup "exchanged" = some p_exchanged
  known:L.lookup "known_of" = some p_known_of
  goes:L.lookup "goes" = some p_goes
  fault:L.lookup "fault" = some p_fault
noncomputable def aX (s:List Int) (k:Int):Int:=if k<s.length then s[k.toNat]?.getD 0 else if s=[] then 0 else s[(k % s.length).toNat]?.getD 0 * 7 + k
theorem getD_some {s:List Int}{i:Nat} (h:i<s.length):s[i]? = some (s[i]?.getD 0):=by rw [List.getElem?_eq_getElem h]; rfl
theorem mH (C:Calls) (s:List Int) (k:Int) (hk:0≤k):aE C l_cell_at [.d (af s),.d (.int k)] = .ok (sI (aX s k)):=by
  unfold l_cell_at
  refine cQ rfl fun σ H=>?_
  have e1:=pq (C:=C) (H.ev (x := "_law_k") rfl) (cM (H.ev (x := "_law_script") rfl))
  unfold aX
  by_cases h1:k<s.length
  · rw [if_pos h1]
    refine Runs.ite (e1.trans (by rw [decide_eq_true h1])) (fun uu=>Runs.ret (go (H.ev rfl) (H.ev rfl) hk (getD_some (by exact la1 hk h1))) rfl) fun q=>by cases q
  · rw [if_neg h1]
    refine Runs.no (e1.trans (by rw [decide_eq_false h1])) ?_
    have e2:=zU (C:=C) (H.ev (x := "_law_script") rfl) pX
    by_cases h2:s=[]
    · rw [if_pos h2]
      exact Runs.ite (e2.trans (by rw [decide_eq_true h2])) (fun uu=>Runs.ret (ak 0) rfl) fun q=>by cases q
    · rw [if_neg h2]
      refine Runs.no (e2.trans (by rw [decide_eq_false h2])) ?_
      have hl:0<s.length:=List.length_pos_iff.mpr h2
      have h3:0≤k % s.length:=Int.emod_nonneg _ (by exact la2 hl)
      have h4:k % s.length<s.length:=Int.emod_lt_of_pos _ (by exact la3 hl)
      refine Runs.ret (bw ((dw (go (H.ev rfl) (aO (H.ev rfl) (cM (H.ev rfl)) (by exact la3 hl)) h3 (getD_some (by exact la4 hl h4))) (ak 7)).trans (sb _ 7 (by decide))) (H.ev rfl)) rfl
theorem pA (C:Calls) (i:Int):aE C l_whole [.d (.int i)] = .ok (sB true):=by
  unfold l_whole
  refine cQ rfl fun σ H=>Runs.ret (fk (p:=true) (q:=true) ?_ fun uu=>?_) rfl
  · exact pB (H.ev rfl) rfl
  · exact dZ (t:=false) (pB (H.ev rfl) rfl)
def Srt (c:Int) (r:List Int):Prop:=r.Pairwise (· < ·)∧∀ x∈r,0≤x∧x<c
theorem Srt.snoc {c x:Int}{r:List Int} (h:Srt c r) (h0:0≤c) (hx:c≤x):Srt (x + 1) (r ++ [x]):=by
  refine ⟨List.pairwise_append.mpr ⟨h.1,List.pairwise_singleton _ _,fun a ha b hb=>?_⟩,fun a ha=>?_⟩
  · rw [List.mem_singleton.mp hb]; have:=h.2 a ha; exact la5 hx this
  · rcases List.mem_append.mp ha with ha | ha
    · have:=h.2 a ha; exact la6 hx this
    · rw [List.mem_singleton.mp ha]; exact la7 h0 hx
theorem Srt.mono {c d:Int}{r:List Int} (h:Srt c r) (hd:c≤d):Srt d r:=⟨h.1,fun x hx=>by have:=h.2 x hx; exact la8 hd this⟩
theorem Srt.nil (c:Int):Srt c []:=⟨.nil,fun uu h=>by cases h⟩
theorem eV {c:Nat}{pre post:List Int}{y:Int} (h:aR c=pre ++ y :: post):y=pre.length∧pre.length<c:=by
  have hl:=congrArg List.length h
  rw [bg,List.length_append,List.length_cons] at hl
  have hy:(aR c)[pre.length]? = some y:=by rw [h,List.getElem?_append_right (Nat.le_refl _),Nat.sub_self]; rfl
  have hp:pre.length<c:=by exact la9 hl
  unfold aR at hy
  rw [List.getElem?_map,List.getElem?_range hp] at hy
  exact ⟨(Option.some.inj hy).symm,hp⟩
def lY (k n:Nat) (c:Int) (t:List (List Int)):Prop:=t≠[]∧t.length≤n∧∀ r∈t,r.length≤k∧Srt c r
def subs:Nat→List (List Int)
  | 0=>[[]]
  | k + 1=>subs k ++ (subs k).map fun r=>r ++ [(k:Int)]
def jD:Nat→List (List Int)
  | 0=>[[]]
  | k + 1=>jD k ++ ((jD k).filter fun r=>decide ((r.length:Int)<3)).map fun r=>r ++ [(k:Int)]
theorem tS:∀ c≤6,∀ r∈subs c,((subs c).filter fun r'=>decide ((r'.length:Int)=r.length)).length≤63:=by decide +kernel
theorem rn:∀ c≤7,∀ r∈jD c,((jD c).filter fun r'=>decide ((r'.length:Int)=r.length)).length≤63:=by decide +kernel
theorem ml {t:List (List Int)} (h:∀ r∈t,(t.filter fun r'=>decide ((r'.length:Int)=r.length)).length≤63) (k:Int):(t.filter fun r=>decide ((r.length:Int)=k)).length≤63:=by
  cases e:t.filter fun r=>decide ((r.length:Int)=k) with
  | nil=>exact Nat.zero_le _
  | cons r u=>
    obtain ⟨h1,h2⟩:=List.mem_filter.mp (show r∈t.filter fun r=>decide ((r.length:Int)=k) by rw [e]; exact .head _)
    have:=h r h1
    rw [of_decide_eq_true h2,e] at this
    exact this
theorem mQ (C:Calls) (c:Nat) (hc:c≤7):∃ r,aE C l_subsets [.d (.int c)] = .ok r∧∃ t,r.1 = .d (aj t)∧t=subs c∧[]∈t∧lY c 128 c t:=by
  unfold l_subsets
  refine cD rfl fun σ H=>?_
  refine Runs.set H mW fun σ H _=>?_
  refine Runs.for (g:=PyData.int) (xs:=aR c) (fun pre σ=>∃ t,Has σ [("_law_rows", .d (aj t)),("_law_count", .d (.int c))]∧t=subs pre.length∧[]∈t∧lY pre.length (2 ^ pre.length) pre.length t) (bD (H.ev rfl) (by exact EO hc)) (fun σ0 h _=>(iy ([[]]) ((h _ H).sub ⟨rfl,rfl,trivial⟩) rfl (.head _) (by simp) (by simp) (fun r hr=>?_))) ?_ ?_
  · cases List.mem_singleton.mp hr; exact ⟨Nat.le_refl _,.nil _⟩
  · intro pre y post hl σ E5
    refine gA (E5) fun t H ht h0 g1 g2 g3=>?_
    try clear E5
    refine ae (eV hl) fun hy hp=>?_
    have hpow:2 ^ pre.length≤2 ^ 6:=Nat.pow_le_pow_right (by decide) (by exact yI hc hp)
    have H1:=H.mk "_law_thing" (.d (.int y))
    obtain ⟨m1,e1,_⟩:=db (fun r=>r ++ [y]) .deep (aJ (H1.ev (C:=C) (x := "_law_rows") rfl) (aQ t .sh)) (a:=.bin .add (.name "_law_row") (.list (.cons (.name "_law_thing") .nil))) (z := "_law_row") (fun r hr=>by
      have H2:=H1.mk "_law_row" (.d (af r))
      exact dY (H2.ev rfl) (e9 (H2.ev rfl)) (by have:=(g3 r hr).1; rw [List.length_singleton]; exact Ev hc hp this))
    obtain ⟨m2,e2⟩:=jx (H1.ev (C:=C) (x := "_law_rows") rfl) e1 (by rw [List.length_map]; exact D8 g2 hpow)
    refine Runs.set H1 e2 fun σ H _=>Runs.nil (iy _ (H.sub ⟨rfl,rfl,trivial⟩) (by rw [ht,hy,List.length_append,List.length_singleton]; rfl) (List.mem_append_left _ h0) ?_ ?_ (fun r hr=>?_))
    · exact fun q=>g1 (List.append_eq_nil_iff.mp q).1
    · rw [List.length_append,List.length_append,List.length_map,List.length_singleton,Nat.pow_succ]; exact yE g2
    · rw [List.length_append,List.length_singleton]
      rcases List.mem_append.mp hr with hr | hr
      · obtain ⟨q1,q2⟩:=g3 r hr; exact ⟨by exact Nat.le_succ_of_le (by assumption),q2.mono (by exact yb)⟩
      · refine aa (List.mem_map.mp hr) fun r' hr' E6=>?_
        (clear hr; subst E6)
        refine ae (g3 r' hr') fun q1 q2=>?_
        rw [List.length_append,List.length_singleton]
        exact ⟨by exact Nat.lt_succ_of_le (by assumption),(q2.snoc (by exact Int.natCast_nonneg _) (x:=y) (by exact yV hy)).mono (by exact yq hy)⟩
  · intro σ' E7
    refine gA (E7) fun t H ht h0 g1 g2 g3=>?_
    try clear E7
    refine ai (H "_law_rows" _ rfl) fun m e=>?_
    rw [bg] at ht g2 g3
    have hpow:2 ^ c≤2 ^ 7:=Nat.pow_le_pow_right (by decide) (by assumption)
    exact Runs.retn e (ag _ rfl (iy t rfl ht h0 g1 (by exact Nat.le_trans (by assumption) (by assumption)) g3))
section
variable {L:List (String × Fn)}{n:Nat}{σ:St}
theorem bO (lib:Lib L) {s:List Int}{k:Int}{m:Mode}{a b:E} (ha:ev (mkC L (n + 1)) a σ = .ok (.d (af s),m)) (hb:ev (mkC L (n + 1)) b σ = .ok (sI k)) (hk:0≤k):ev (mkC L (n + 1)) (.call "_law_cell_at" (.cons a (.cons b .nil))) σ = .ok (sI (aX s k)) :=
  dP lib.cell (am ha (am hb aI)) rfl (mH _ s k hk)
end
theorem oP (C:Calls) (vec row:List Int) (h:∀ i∈row,0≤i∧i<vec.length) (hl:row.length≤7):∃ r,aE C l_apart [.d (af vec),.d (af row)] = .ok r∧∃ b,r=sB b∧(row=[]→b=true):=by
  unfold l_apart
  refine cD rfl fun σ H=>?_
  refine Runs.set H (e9 (ak 0)) fun σ H _=>?_
  refine Runs.for (g:=PyData.int) (xs:=row) (fun pre σ=>∃ ss:List Int,Has σ [("_law_sums", .d (af ss)),("_law_vectors", .d (af vec))]∧ss.length=2 ^ pre.length) (aJ (H.ev rfl) (bW row .sh)) (fun σ0 h _=>(ag ([0]) ((h _ H).sub ⟨rfl,rfl,trivial⟩) rfl)) ?_ ?_
  · intro pre y post hr σ E8
    refine aa (E8) fun ss H hs=>?_
    try clear E8
    have hp:pre.length<row.length:=by rw [hr,List.length_append,List.length_cons]; exact uo
    have hpow:2 ^ pre.length≤2 ^ 6:=Nat.pow_le_pow_right (by decide) (by exact yI hl hp)
    obtain ⟨y0,y1⟩:=h y (by rw [hr]; exact List.mem_append_right _ (.head _))
    have H1:=H.mk "_law_thing" (.d (.int y))
    have ev1:∀ {σ:St}{l:List (String × V)},Has σ l→l.lookup "_law_vectors" = some (.d (af vec))→l.lookup "_law_thing" = some (.d (.int y))→ev C (.sub (.name "_law_vectors") (.name "_law_thing")) σ = .ok (sI (vec[y.toNat]?.getD 0)):=fun H a b=>go (H.ev a) (H.ev b) y0 (getD_some (by exact la1 y0 y1))
    refine Runs.ite (mt (ev1 H1 rfl rfl) (H1.ev rfl)) (fun uu=>Runs.ret (dy false) (ag _ rfl (ag false rfl (fun q=>?_)))) fun uu=>Runs.nil ?_
    · rw [q] at hr; exact absurd hr (by simp)
    refine Runs.set H1 (dY (H1.ev rfl) (gd (g:=PyData.int) (fun i=>Builtin.bitXor i (vec[y.toNat]?.getD 0)) (aJ (H1.ev rfl) (bW ss .sh)) fun i _=>?_) ?_) fun σ H _=>Runs.nil (ag _ (H.sub ⟨rfl,rfl,trivial⟩) ?_)
    · have H2:=H1.mk "_law_one" (.d (.int i))
      exact AD (H2.ev rfl) (ev1 H2 rfl rfl)
    · rw [List.length_map]; exact Ew hs hpow
    · rw [List.length_append,List.length_append,List.length_map,List.length_singleton,Nat.pow_succ]; exact Do hs
  · intro σ' E9
    refine aa (E9) fun ss H hs=>?_
    try clear E9
    exact Runs.ret (dy true) (ag _ rfl (ag true rfl (fun uu=>rfl)))
def Tb (c:Int) (t:List (List Int)):Prop:=0≤c∧c≤100∧t.length≤63∧∀ r∈t,r.length≤12∧Srt c r
def qc (r:V × Mode):Prop:=∃ c t,r.1 = .d (.tuple [.int c,aj t])∧Tb c t
theorem oS (C:Calls) (c:Nat) (hc:c≤5):∃ r,aE C l_pairs_by [.d (.int c)] = .ok r∧∃ t,r.1 = .d (aj t)∧lY c 32 (2 * c) t:=by
  unfold l_pairs_by
  refine cD rfl fun σ H=>?_
  refine Runs.set H mW fun σ H _=>?_
  refine Runs.for (g:=PyData.int) (xs:=aR c) (fun pre σ=>∃ t,Has σ [("_law_rows", .d (aj t)),("_law_many", .d (.int c))]∧lY pre.length (2 ^ pre.length) (2 * pre.length) t) (bD (H.ev rfl) (by exact DU hc)) (fun σ0 h _=>(a7 ([[]]) ((h _ H).sub ⟨rfl,rfl,trivial⟩) (by simp) (by simp) (fun r hr=>?_))) ?_ ?_
  · cases List.mem_singleton.mp hr; exact ⟨Nat.le_refl _,.nil _⟩
  · intro pre y post hl σ Fa
    refine bG (Fa) fun t H g1 g2 g3=>?_
    try clear Fa
    refine ae (eV hl) fun hy hp=>?_
    have hpow:2 ^ pre.length≤2 ^ 5:=Nat.pow_le_pow_right (by decide) (by exact Dp hc hp)
    have H1:=H.mk "_law_k" (.d (.int y))
    obtain ⟨m1,e1,_⟩:=db (fun r=>r ++ [2 * y]) .deep (aJ (H1.ev (C:=C) (x := "_law_rows") rfl) (aQ t .sh)) (a:=.bin .add (.name "_law_row") (.list (.cons (.bin .mul (.int 2) (.name "_law_k")) .nil))) (z := "_law_row") (fun r hr=>by
      have H2:=H1.mk "_law_row" (.d (af r))
      exact dY (H2.ev rfl) (e9 (jO (ak 2) (H2.ev rfl) (by decide))) (by have:=(g3 r hr).1; rw [List.length_singleton]; exact yv hc hp this))
    obtain ⟨m2,e2,_⟩:=db (fun r=>r ++ [2 * y + 1]) .deep (aJ (H1.ev (C:=C) (x := "_law_rows") rfl) (aQ t .sh)) (a:=.bin .add (.name "_law_row") (.list (.cons (.bin .add (.bin .mul (.int 2) (.name "_law_k")) (.int 1)) .nil))) (z := "_law_row") (fun r hr=>by
      have H2:=H1.mk "_law_row" (.d (af r))
      exact dY (H2.ev rfl) (e9 (bw (jO (ak 2) (H2.ev rfl) (by decide)) (ak 1))) (by have:=(g3 r hr).1; rw [List.length_singleton]; exact yv hc hp this))
    obtain ⟨m3,e3⟩:=jx e1 e2 (by rw [List.length_map,List.length_map]; exact EL g2 hpow)
    refine Runs.set H1 e3 fun σ H _=>Runs.nil (a7 _ (H.sub ⟨rfl,rfl,trivial⟩) ?_ ?_ (fun r hr=>?_))
    · exact fun q=>g1 (List.map_eq_nil_iff.mp (List.append_eq_nil_iff.mp q).1)
    · rw [List.length_append,List.length_append,List.length_map,List.length_map,List.length_singleton,Nat.pow_succ]; exact yE g2
    · rw [List.length_append,List.length_singleton]
      rcases List.mem_append.mp hr with hr | hr
      · refine aa (List.mem_map.mp hr) fun r' hr' Fb=>?_
        (clear hr; subst Fb)
        refine ae (g3 r' hr') fun q1 q2=>?_
        rw [List.length_append,List.length_singleton]
        exact ⟨by exact Nat.lt_succ_of_le (by assumption),(q2.snoc (by exact Int.natCast_nonneg _) (x:=2 * y) (by exact DB hy)).mono (by exact Dk hy)⟩
      · refine aa (List.mem_map.mp hr) fun r' hr' Fc=>?_
        (clear hr; subst Fc)
        refine ae (g3 r' hr') fun q1 q2=>?_
        rw [List.length_append,List.length_singleton]
        exact ⟨by exact Nat.lt_succ_of_le (by assumption),(q2.snoc (by exact Int.natCast_nonneg _) (x:=2 * y + 1) (by exact El hy)).mono (by exact DO hy)⟩
  · intro σ' Fd
    refine bG (Fd) fun t H g1 g2 g3=>?_
    try clear Fd
    refine ai (H "_law_rows" _ rfl) fun m e=>?_
    rw [bg] at g2 g3
    have hpow:2 ^ c≤2 ^ 5:=Nat.pow_le_pow_right (by decide) (by assumption)
    exact Runs.retn e (ag _ rfl (a7 t rfl g1 (by exact Nat.le_trans (by assumption) (by assumption)) g3))
theorem cV {L:List (String × Fn)}{n:Nat}{σ:St}{f:String}{fn:Fn}{es:Es}{q:List (V × Mode)}{vs:List V}{P:V × Mode→Prop} (hL:L.lookup f=some fn) (he:evs (mkC L (n + 1)) es σ = .ok q) (hv:q.map (·.1)=vs) (h:∃ r,aE (mkC L n) fn vs = .ok r∧P r) (hp:fY f=true:=by decide):∃ r,ev (mkC L (n + 1)) (.call f es) σ = .ok r∧P r:=by
  refine aa (h) fun r h1 h2=>?_
  try clear h
  exact (ag r (dP hL he hv h1 hp) h2)
def tri (k:Nat):Nat:=((List.range k).map fun i=>8 - i).sum
theorem qY:∀ k≤9,tri k≤36:=by decide
theorem sL (k:Nat):tri (k + 1)=tri k + (8 - k):=by unfold tri; rw [List.range_succ,List.map_append,List.sum_append]; rfl
theorem pN {L:List (String × Fn)} (lib:Lib L) (n:Nat) (s:List Int) (kind more:Int) (c:Nat) (hc:c≤6):∃ r,aE (mkC L (n + 1)) l_parts [.d (af s),.d (.int kind),.d (.int c),.d (.int more)] = .ok r∧qc r:=by
  unfold l_parts
  refine cD rfl fun σ H=>?_
  obtain ⟨Ff,e1,t,ht,hsub,h0,g1,g2,g3⟩:=cV (σ:=σ) (n:=n) lib.subs (es:=.cons (.name "_law_count") .nil) (am (H.ev rfl) aI) rfl (mQ _ c (by exact Nat.le_succ_of_le (by assumption)))
  obtain ⟨rv,rm⟩:=Ff
  cases ht
  refine Runs.set H e1 fun σ H _=>?_
  have m6:=Int.emod_nonneg more (show (6:Int)≠0 by decide)
  have m6':=Int.emod_lt_of_pos more (show (0:Int)<6 by decide)
  have hpos:0<t.length:=List.length_pos_iff.mpr g1
  refine Runs.ite (cz (H.ev rfl) (ak 0)) (fun uu=>?_) fun uu=>Runs.nil ?_
  · obtain ⟨k,hk⟩:∃ k:Nat,more % 6=k:=⟨(more % 6).toNat,by exact DY⟩
    have idx:∀ i:Int,∃ r,t[(aX s (6 + i) % t.length).toNat]? = some r:=fun i=>⟨_,List.getElem?_eq_getElem (by have:=Int.emod_lt_of_pos (aX s (6 + i)) (show (0:Int)<t.length by exact la3 hpos); have:=Int.emod_nonneg (aX s (6 + i)) (show (t.length:Int)≠0 by exact la2 hpos); exact la4 hpos (by assumption))⟩
    obtain ⟨m1,e2,_⟩:=db (C:=mkC L (n + 1)) (σ:=σ) (g:=PyData.int) (l:=aR k) (z := "_law_k") (it:=.r1 (.bin .mod (.name "_law_more") (.int 6))) (a:=.sub (.name "_law_rows") (.bin .mod (.call "_law_cell_at" (.cons (.name "_law_script") (.cons (.bin .add (.int 6) (.name "_law_k")) .nil))) (.bi1 .len (.name "_law_rows")))) (fun i=>(t[(aX s (6 + i) % t.length).toNat]?).getD []) .sh (bD (n:=k) (m:=.deep) ((aO (H.ev rfl) (ak 6) (by decide)).trans (by rw [hk]; rfl)) (by exact Dj hk)) (fun i hi=>by
      have H2:=H.mk "_law_k" (.d (.int i))
      have:=mem_upTo.mp hi
      refine ai (idx i) fun r hr=>?_
      rw [hr]
      exact r6 (H2.ev rfl) (aO (bO lib (H2.ev rfl) (bw (ak 6) (H2.ev rfl)) (by exact yC this)) (jy (H2.ev rfl)) (by exact la3 hpos)) (Int.emod_nonneg _ (by exact la2 hpos)) hr)
    refine ai (di (H.ev (x := "_law_count") rfl) e2) fun m2 e3=>?_
    refine Runs.ret e3 (ag _ rfl (dR c _ rfl (by exact Int.natCast_nonneg _) (by exact yB hc) (by rw [List.length_map,bg]; exact D9 hk) (fun r hr=>?_)))
    refine aa (List.mem_map.mp hr) fun i _ Fi=>?_
    (clear hr; subst Fi)
    refine ai (idx i) fun r hr=>?_
    rw [hr]
    refine ae (g3 r (List.mem_of_getElem? hr)) fun q1 q2=>?_
    exact ⟨by show r.length≤12; exact yW hc q1,q2⟩
  · refine Runs.ite (cz (aO (H.ev rfl) (ak 9) (by decide)) (ak 8)) (fun uu=>?_) fun uu=>Runs.nil ?_
    · have a1:=Int.emod_nonneg (more / 9) (show (3:Int)≠0 by decide)
      have a2:=Int.emod_lt_of_pos (more / 9) (show (0:Int)<3 by decide)
      obtain ⟨d,hd⟩:∃ d:Nat,7 + more / 9 % 3=d:=⟨(7 + more / 9 % 3).toNat,by exact Df⟩
      refine Runs.set H (bw (ak 7) (aO (cX (H.ev rfl) (ak 9) (by decide) (by decide)) (ak 3) (by decide))) fun σ H _=>?_
      rw [hd] at H
      refine Runs.set H kl fun σ H _=>?_
      refine Runs.for (g:=PyData.int) (xs:=aR d) (fun pre σ=>∃ t,Has σ [("_law_rows", .d (aj t)),("_law_count", .d (.int d))]∧t.length≤tri pre.length∧∀ r∈t,r.length≤12∧Srt d r) (bD (H.ev rfl) (by exact EN hd)) (fun σ0 h _=>(aA ([]) ((h _ H).sub ⟨rfl,rfl,trivial⟩) (by simp) (fun uu q=>by cases q))) ?_ ?_
      · intro pre y post hl σ Fh
        refine ao (Fh) fun t H q1 q2=>?_
        try clear Fh
        refine ae (eV hl) fun hy hp=>?_
        have H1:=H.mk "_law_one" (.d (.int y))
        obtain ⟨m1,e2,_⟩:=db (C:=mkC L (n + 1)) (σ:=upd σ "_law_one" (mk (.d (.int y)))) (g:=PyData.int) (z := "_law_thing") (it:=.r2 (.bin .add (.name "_law_one") (.int 1)) (.name "_law_count")) (a:=.list (.cons (.name "_law_one") (.cons (.name "_law_thing") .nil))) (fun i=>[y,i]) .deep (wW (bw (H1.ev rfl) (ak 1)) (H1.ev rfl) (by exact DL hy) (by exact DP hd hy hp) (by exact Int.natCast_nonneg _) (by exact Ex hd)) (fun i hi=>by
          have H2:=H1.mk "_law_thing" (.d (.int i))
          exact B0 (H2.ev rfl) (H2.ev rfl))
        obtain ⟨m2,e3⟩:=jx (H1.ev (C:=mkC L (n + 1)) (x := "_law_rows") rfl) e2 (by rw [List.length_map,List.length_map,List.length_range]; have:=qY pre.length (by exact Ek hd hp); exact Dq hd q1 hy this)
        refine Runs.set H1 e3 fun σ H _=>Runs.nil (aA _ (H.sub ⟨rfl,rfl,trivial⟩) ?_ (fun r hr=>?_))
        · rw [List.length_append,List.length_append,List.length_map,List.length_map,List.length_range,List.length_singleton,sL]; exact Dg hd q1 hy
        · rcases List.mem_append.mp hr with hr | hr
          · exact q2 r hr
          · refine aa (List.mem_map.mp hr) fun i hi Fm=>?_
            (clear hr; subst Fm)
            refine aa (List.mem_map.mp hi) fun k hk Fr=>?_
            (clear hi hr; subst Fr)
            have:=List.mem_range.mp hk
            exact ⟨by simp,by simp; exact Dv,fun x hx=>by
              rcases List.mem_cons.mp hx with rfl | hx
              · exact Dt hp hy
              · rw [List.mem_singleton.mp hx]; exact Du hy this⟩
      · intro σ' Fp
        refine ao (Fp) fun t H q1 q2=>?_
        try clear Fp
        refine ai (di (H.ev (C:=mkC L (n + 1)) (x := "_law_count") rfl) (H.ev (x := "_law_rows") rfl)) fun m2 e3=>?_
        rw [bg] at q1
        have:=qY d (by exact EJ hd)
        exact Runs.ret e3 (ag _ rfl (dR d t rfl (by exact Int.natCast_nonneg _) (by exact DQ hd) (by exact Ef q1 this) q2))
    · obtain ⟨m1,e2,_⟩:=hV (C:=mkC L (n + 1)) (σ:=σ) (g:=af) (l:=t) (z := "_law_row") (it:=.e (.name "_law_rows")) (a:=.name "_law_row") (c:=.cmp .eq (.bi1 .len (.name "_law_row")) (.bin .mod (.name "_law_more") (.bin .add (.name "_law_count") (.int 1)))) (fun r=>r) (fun r=>decide ((r.length:Int)=more % (c + 1))) .sh (aJ (H.ev rfl) (aQ t .sh)) (fun r hr=>by
        have H2:=H.mk "_law_row" (.d (af r))
        exact cz (cM (H2.ev rfl)) (aO (H2.ev rfl) (bw (H2.ev rfl) (ak 1)) (by exact mz))) (fun r hr _=>(H.mk "_law_row" (.d (af r))).ev rfl)
      refine ai (di (H.ev (x := "_law_count") rfl) e2) fun m2 e3=>?_
      refine Runs.ret e3 (ag _ rfl (dR c _ rfl (by exact Int.natCast_nonneg _) (by exact yB hc) ?_ (fun r hr=>?_)))
      · rw [List.map_id']; exact ml (by rw [hsub]; exact tS c hc) _
      · rw [List.map_id'] at hr
        refine ae (g3 r (List.mem_filter.mp hr).1) fun q1 q2=>?_
        exact ⟨by exact yW hc q1,q2⟩
theorem vm {l:List Int}{x:Int}{b:Int} (h:l.length=7) (hb:∀ i∈l,0≤i∧i≤b):∃ c:Nat,l[(x / 9 % 7).toNat]? = some (c:Int)∧(c:Int)≤b:=by
  have h1:=Int.emod_nonneg (x / 9) (show (7:Int)≠0 by decide)
  have h2:=Int.emod_lt_of_pos (x / 9) (show (0:Int)<7 by decide)
  have hl:(x / 9 % 7).toNat<l.length:=by exact Ed h
  have:=hb _ (List.getElem_mem hl)
  exact (ag (l[(x / 9 % 7).toNat].toNat) (by rw [List.getElem?_eq_getElem hl]; congr 1; exact DV this) (by exact Dm this))
theorem ow {C:Calls}{σ:St} (a b c d e f g:Int):ev C (.list (.cons (.int a) (.cons (.int b) (.cons (.int c) (.cons (.int d) (.cons (.int e) (.cons (.int f) (.cons (.int g) .nil)))))))) σ = .ok (.d (af [a,b,c,d,e,f,g]),.deep):=by
  simp only [fV,bU,a9,aV,Out.ok_bind]; rfl
theorem tv {L:List (String × Fn)} (lib:Lib L) (n:Nat) (s:List Int) (hs:s.length≤63):∃ r,aE (mkC L (n + 2)) l_few [.d (af s)] = .ok r∧qc r:=by
  unfold l_few
  refine cD rfl fun σ H=>?_
  refine Runs.set H (aO (bO lib (H.ev rfl) (ak 0) (by decide)) (ak 9) (by decide)) fun σ H _=>?_
  refine aa (vm (l:=[6,5,4,3,6,1,0]) (x:=aX s 0) (b:=6) rfl (by decide)) fun c hc1 hc2=>?_
  refine Runs.set H (go (ow 6 5 4 3 6 1 0) (aO (cX (bO lib (H.ev rfl) (ak 0) (by decide)) (ak 9) (by decide) (by decide)) (ak 7) (by decide)) (Int.emod_nonneg _ (by decide)) hc1) fun σ H _=>?_
  refine Runs.set H (bO lib (H.ev rfl) (ak 1) (by decide)) fun σ H _=>?_
  generalize aX s 0 % 9=kind at H
  generalize aX s 1=more at H
  refine Runs.ite (cz (H.ev rfl) (ak 7)) (fun uu=>?_) fun uu=>Runs.nil ?_
  · have a1:=Int.emod_nonneg more (show (4:Int)≠0 by decide)
    have a2:=Int.emod_lt_of_pos more (show (0:Int)<4 by decide)
    obtain ⟨d,hd⟩:∃ d:Nat,1 + more % 4=d:=⟨(1 + more % 4).toNat,by exact DF⟩
    refine Runs.set H (bw (ak 1) (aO (H.ev rfl) (ak 4) (by decide))) fun σ H _=>?_
    rw [hd] at H
    refine Runs.no ((pR (cM (H.ev rfl)) (ak 63)).trans (by rw [decide_eq_false (by exact DX hs)])) ?_
    obtain ⟨Ft,e1,t,ht,g1,g2,g3⟩:=cV (σ:=σ) (n:=n + 1) lib.pairs (es:=.cons (.name "_law_many") .nil) (am (H.ev rfl) aI) rfl (oS _ d (by exact De hd))
    obtain ⟨rv,rm⟩:=Ft
    cases ht
    refine ai (di (jO (ak 2) (H.ev (x := "_law_many") rfl) (by decide)) e1) fun m2 e3=>?_
    exact Runs.ret e3 (ag _ rfl (dR _ t rfl (by exact Int.natCast_nonneg _) (by exact EI hd) (by exact Dd g2) (fun r hr=>ae (g3 r hr) fun q1 q2=>⟨by exact D6 hd q1,q2⟩)))
  · refine Runs.ite (pq (H.ev rfl) (ak 2)) (fun uu=>?_) fun uu=>Runs.nil ?_
    · refine aa (cV (σ:=σ) (n:=n + 1) lib.parts (es:=.cons (.name "_law_script") (.cons (.name "_law_kind") (.cons (.name "_law_count") (.cons (.name "_law_more") .nil)))) (am (H.ev rfl) (am (H.ev rfl) (am (H.ev rfl) (am (H.ev rfl) aI)))) rfl (pN lib n s kind more c (by exact DK hc2))) fun r e1 h=>?_
      exact Runs.ret e1 (ag r rfl h)
    · clear hc1 hc2
      refine aa (vm (l:=[6,5,4,3,7,7,2]) (x:=aX s 0) (b:=7) rfl (by decide)) fun c hc1 hc2=>?_
      refine Runs.set H (go (ow 6 5 4 3 7 7 2) (aO (cX (bO lib (H.ev rfl) (ak 0) (by decide)) (ak 9) (by decide) (by decide)) (ak 7) (by decide)) (Int.emod_nonneg _ (by decide)) hc1) fun σ H _=>?_
      refine Runs.set H mW fun σ H _=>?_
      refine Runs.for (g:=PyData.int) (xs:=aR c) (fun pre σ=>∃ t,Has σ [("_law_rows", .d (aj t)),("_law_count", .d (.int c)),("_law_script", .d (af s)),("_law_kind", .d (.int kind)),("_law_more", .d (.int more))]∧t=jD pre.length∧[]∈t∧lY pre.length (2 ^ pre.length) pre.length t) (bD (H.ev rfl) (by exact yX hc2)) (fun σ0 h _=>(iy ([[]]) ((h _ H).sub (ei rfl rfl rfl rfl rfl trivial)) rfl (.head _) (by simp) (by simp) (fun r hr=>?_))) ?_ ?_
      · cases List.mem_singleton.mp hr; exact ⟨Nat.le_refl _,.nil _⟩
      · intro pre y post hl σ Fy
        refine gA (Fy) fun t H h3 h0 g1 g2 g3=>?_
        try clear Fy
        refine ae (eV hl) fun hy hp=>?_
        have hpow:2 ^ pre.length≤2 ^ 6:=Nat.pow_le_pow_right (by decide) (by exact EE hc2 hp)
        have H1:=H.mk "_law_thing" (.d (.int y))
        obtain ⟨m1,e1,_⟩:=hV (C:=mkC L (n + 2)) (fun r=>r ++ [y]) (fun r=>decide ((r.length:Int)<3)) .deep (aJ (H1.ev (x := "_law_rows") rfl) (aQ t .sh)) (a:=.bin .add (.name "_law_row") (.list (.cons (.name "_law_thing") .nil))) (c:=.cmp .lt (.bi1 .len (.name "_law_row")) (.int 3)) (z := "_law_row") (fun r hr=>pq (cM ((H1.mk "_law_row" (.d (af r))).ev rfl)) (ak 3)) (fun r hr _=>by
          have H2:=H1.mk "_law_row" (.d (af r))
          exact dY (H2.ev rfl) (e9 (H2.ev rfl)) (by have:=(g3 r hr).1; rw [List.length_singleton]; exact Ey hc2 hp this))
        have hf:=List.length_filter_le (fun r:List Int=>decide ((r.length:Int)<3)) t
        obtain ⟨m2,e2⟩:=jx (H1.ev (C:=mkC L (n + 2)) (x := "_law_rows") rfl) e1 (by rw [List.length_map]; exact DG g2 hpow hf)
        refine Runs.set H1 e2 fun σ H _=>Runs.nil (iy _ (H.sub (ei rfl rfl rfl rfl rfl trivial)) (by rw [h3,hy,List.length_append,List.length_singleton]; rfl) (List.mem_append_left _ h0) ?_ ?_ (fun r hr=>?_))
        · exact fun q=>g1 (List.append_eq_nil_iff.mp q).1
        · rw [List.length_append,List.length_append,List.length_map,List.length_singleton,Nat.pow_succ]; exact Ep g2 hf
        · rw [List.length_append,List.length_singleton]
          rcases List.mem_append.mp hr with hr | hr
          · obtain ⟨q1,q2⟩:=g3 r hr; exact ⟨by exact Nat.le_succ_of_le (by assumption),q2.mono (by exact yb)⟩
          · refine aa (List.mem_map.mp hr) fun r' hr' FA=>?_
            (clear hr; subst FA)
            refine ae (g3 r' (List.mem_filter.mp hr').1) fun q1 q2=>?_
            rw [List.length_append,List.length_singleton]
            exact ⟨by exact Nat.lt_succ_of_le (by assumption),(q2.snoc (by exact Int.natCast_nonneg _) (x:=y) (by exact yV hy)).mono (by exact yq hy)⟩
      · intro σ FC
        refine gA (FC) fun t H h3 h0 g1 g2 g3=>?_
        try clear FC
        rw [bg] at h3 g2 g3
        have hpow:2 ^ c≤2 ^ 7:=Nat.pow_le_pow_right (by decide) (by exact y7 hc2)
        obtain ⟨vec,hvec⟩:∃ vec,(aR c).map (fun i=>aX s (6 + i) % 8)=vec:=⟨_,rfl⟩
        have hvl:vec.length=c:=by rw [← hvec,List.length_map,bg]
        refine Runs.set H (r:=(.d (af vec),.deep)) ((gd (g:=PyData.int) (fun i=>aX s (6 + i) % 8) (bD (n:=c) (H.ev rfl) (by exact yX hc2)) fun i hi=>?_).trans (by rw [hvec])) fun σ H _=>?_
        · have H2:=H.mk "_law_thing" (.d (.int i))
          have:=mem_upTo.mp hi
          exact aO (bO lib (H2.ev rfl) (bw (ak 6) (H2.ev rfl)) (by exact yC this)) (ak 8) (by decide)
        obtain ⟨p,hp⟩:=iR (l:=t) (Q:=fun r b=>ev (mkC L (n + 2)) (.call "_law_apart" (.cons (.name "_law_vectors") (.cons (.name "_law_row") .nil))) (upd σ "_law_row" (mk (.d (af r)))) = .ok (sB b)∧(r=[]→b=true)) fun r hr=>by
          have H2:=H.mk "_law_row" (.d (af r))
          refine ae (g3 r hr) fun q1 q2=>?_
          obtain ⟨_,e1,b,rfl,hb⟩:=cV (n:=n + 1) lib.apart (es:=.cons (.name "_law_vectors") (.cons (.name "_law_row") .nil)) (am (H2.ev rfl) (am (H2.ev rfl) aI)) rfl (oP _ vec r (fun i hi=>by have:=q2.2 i hi; exact Dw hvl this) (by exact EK hc2 q1))
          exact (ag b e1 hb)
        refine aa (hV (C:=mkC L (n + 2)) (σ:=σ) (g:=af) (l:=t) (z := "_law_row") (it:=.e (.name "_law_rows")) (a:=.name "_law_row") (c:=.call "_law_apart" (.cons (.name "_law_vectors") (.cons (.name "_law_row") .nil))) (fun r=>r) p .sh (aJ (H.ev rfl) (aQ t .sh)) (fun r hr=>(hp r hr).1) (fun r hr _=>(H.mk "_law_row" (.d (af r))).ev rfl)) fun m1 e1 _=>?_
        rw [List.map_id'] at e1
        refine Runs.set H e1 fun σ H _=>?_
        have hne:(t.filter p).map (fun r=>(r.length:Int))≠[]:=fun q=>by
          have:[]∈t.filter p:=List.mem_filter.mpr ⟨h0,(hp [] h0).2 rfl⟩
          rw [List.map_eq_nil_iff.mp q] at this
          cases this
        refine aa (AS (gd (C:=mkC L (n + 2)) (σ:=σ) (g:=af) (l:=t.filter p) (z := "_law_row") (it:=.e (.name "_law_good")) (a:=.bi1 .len (.name "_law_row")) (fun r=>(r.length:Int)) (aJ (H.ev rfl) (aQ _ .sh)) fun r _=>cM ((H.mk "_law_row" (.d (af r))).ev rfl)) hne) fun mo e2 hmo=>?_
        refine Runs.set H e2 fun σ H _=>?_
        refine aa (List.mem_map.mp hmo) fun r0 hr0 hr1=>?_
        obtain ⟨tt,htt⟩:∃ tt,(t.filter p).filter (fun r=>decide ((r.length:Int)=mo))=tt:=⟨_,rfl⟩
        have hpos:0<tt.length:=List.length_pos_iff.mpr fun q=>by
          have:r0∈tt:=by rw [← htt]; exact List.mem_filter.mpr ⟨hr0,decide_eq_true hr1⟩
          rw [q] at this; cases this
        have hsub:∀ r∈tt,r∈t:=fun r hr=>by rw [← htt] at hr; exact (List.mem_filter.mp (List.mem_filter.mp hr).1).1
        have hlen:tt.length≤63:=by
          have q1:=List.length_filter_le p (t.filter fun r:List Int=>decide ((r.length:Int)=mo))
          have q2:=ml (t:=t) (by rw [h3]; exact rn c (by exact y7 hc2)) mo
          rw [← htt,List.filter_filter]
          rw [List.filter_filter] at q1
          simp only [Bool.and_comm] at q1 ⊢
          exact EH q1 q2
        obtain ⟨m3,e3,_,hm3⟩:=hV (C:=mkC L (n + 2)) (σ:=σ) (g:=af) (l:=t.filter p) (z := "_law_row") (it:=.e (.name "_law_good")) (a:=.name "_law_row") (c:=.cmp .eq (.bi1 .len (.name "_law_row")) (.name "_law_most")) (fun r=>r) (fun r=>decide ((r.length:Int)=mo)) .sh (aJ (H.ev rfl) (aQ _ .sh)) (fun r hr=>by
          have H2:=H.mk "_law_row" (.d (af r))
          exact cz (cM (H2.ev rfl)) (H2.ev rfl)) (fun r hr _=>(H.mk "_law_row" (.d (af r))).ev rfl)
        rw [List.map_id',htt] at e3
        refine Runs.set H e3 fun σ H hσ=>?_
        have fin:∀ {σ:St}{l:List (String × V)} (t':List (List Int)),Has σ l→l.lookup "_law_count" = some (.d (.int c))→l.lookup "_law_table_here" = some (.d (aj t'))→(∀ r∈t',r∈t)→t'.length≤63→Runs (mkC L (n + 2)) (.cons (.ret (.tup (.cons (.name "_law_count") (.cons (.name "_law_table_here") .nil)))) .nil) σ (fun uu fl=>∃ r,fl = .ret r∧qc r):=fun t' H a b ht' hl'=>by
          refine ai (di (H.ev (C:=mkC L (n + 2)) a) (H.ev b)) fun m2 e4=>?_
          exact Runs.ret e4 (ag _ rfl (dR c t' rfl (by exact Int.natCast_nonneg _) (by exact Dy hc2) hl' (fun r hr=>ae (g3 r (ht' r hr)) fun q1 q2=>⟨by exact Ec hc2 q1,q2⟩)))
        refine Runs.ite (cz (H.ev rfl) (ak 3)) (fun uu=>?_) fun uu=>Runs.nil (fin tt H rfl rfl hsub hlen)
        refine Runs.popR H hσ hm3 (aO (H.ev rfl) (jy (H.ev rfl)) (by exact la3 hpos)) (Int.emod_nonneg _ (by exact la2 hpos)) (Int.emod_lt_of_pos _ (by exact la3 hpos)) fun σ H _=>Runs.nil (fin _ H rfl rfl (fun r hr=>hsub r (List.mem_of_mem_eraseIdx hr)) (Nat.le_trans (List.length_eraseIdx_le ..) hlen))
theorem Srt.affine {c a b:Int}{r:List Int} (h:Srt c r) (ha:0≤a) (hb:0<b):Srt (a + b * c) (r.map fun x=>a + b * x):=by
  refine ⟨?_,fun x hx=>?_⟩
  · rw [List.pairwise_map]
    refine h.1.imp fun {x y} q=>?_
    have:=Int.mul_lt_mul_of_pos_left q hb
    exact C9 this
  · refine aa (List.mem_map.mp hx) fun y hy FE=>?_
    (clear hx; subst FE)
    refine ae (h.2 y hy) fun h0 h1=>?_
    have q1:=Int.mul_nonneg (Int.le_of_lt hb) h0
    have q2:=Int.mul_lt_mul_of_pos_left h1 hb
    exact D7 ha q1 q2
theorem fM (c:Nat):(aR c).Pairwise (· < ·):=by
  unfold aR
  rw [List.pairwise_map]
  exact List.pairwise_lt_range.imp fun {a b} h=>by exact DJ h
theorem ph {L:List (String × Fn)} (lib:Lib L) (n:Nat) (s:List Int) (hs:s.length≤63):∃ r,aE (mkC L (n + 3)) l_table [.d (af s)] = .ok r∧qc r:=by
  unfold l_table
  refine cD rfl fun σ H=>?_
  refine Runs.set H (aO (bO lib (H.ev rfl) (ak 0) (by decide)) (ak 9) (by decide)) fun σ H _=>?_
  refine Runs.set H (bO lib (H.ev rfl) (ak 1) (by decide)) fun σ H _=>?_
  generalize aX s 0 % 9=kind at H
  generalize aX s 1=more at H
  refine Runs.ite (cz (H.ev rfl) (ak 4)) (fun uu=>?_) fun uu=>Runs.nil ?_
  · have a1:=Int.emod_nonneg more (show (12:Int)≠0 by decide)
    have a2:=Int.emod_lt_of_pos more (show (0:Int)<12 by decide)
    have a3:=Int.emod_nonneg (more / 12) (show (4:Int)≠0 by decide)
    obtain ⟨d,hd⟩:∃ d:Nat,7 + more % 12=d:=⟨(7 + more % 12).toNat,by exact Ds⟩
    refine Runs.set H (bw (ak 7) (aO (H.ev rfl) (ak 12) (by decide))) fun σ H _=>?_
    rw [hd] at H
    refine Runs.set H (bw (ak 1) (aO (cX (H.ev rfl) (ak 12) (by decide) (by decide)) (ak 4) (by decide))) fun σ H _=>?_
    obtain ⟨m1,e1,_⟩:=hV (C:=mkC L (n + 3)) (σ:=σ) (g:=PyData.int) (l:=aR d) (z := "_law_thing") (it:=.r1 (.name "_law_count")) (a:=.list (.cons (.name "_law_thing") .nil)) (c:=.cmp .eq (.bin .mod (.name "_law_thing") (.name "_law_step")) (.int 0)) (fun i=>[i]) (fun i=>decide (i % (1 + more / 12 % 4)=0)) .deep (bD (H.ev rfl) (by exact EM hd)) (fun i _=>by
      have H2:=H.mk "_law_thing" (.d (.int i))
      exact cz (aO (H2.ev rfl) (H2.ev rfl) (by exact Da)) (ak 0)) (fun i _ _=>e9 ((H.mk "_law_thing" (.d (.int i))).ev rfl))
    refine ai (di (H.ev (C:=mkC L (n + 3)) (x := "_law_count") rfl) e1) fun m2 e2=>?_
    refine Runs.ret e2 (ag _ rfl (dR d _ rfl (by exact Int.natCast_nonneg _) (by exact EF hd) ?_ (fun r hr=>?_)))
    · rw [List.length_map]
      have:=List.length_filter_le (fun i=>decide (i % (1 + more / 12 % 4)=0)) (aR d)
      rw [bg] at this; exact Eg hd this
    · refine aa (List.mem_map.mp hr) fun i hi FH=>?_
      (clear hr; subst FH)
      have:=mem_upTo.mp (List.mem_filter.mp hi).1
      exact ⟨by simp,by simp,fun x hx=>by rw [List.mem_singleton.mp hx]; exact ya this⟩
  · refine Runs.ite (cz (H.ev rfl) (ak 5)) (fun uu=>?_) fun uu=>Runs.nil ?_
    · have a1:=Int.emod_nonneg more (show (6:Int)≠0 by decide)
      have a2:=Int.emod_lt_of_pos more (show (0:Int)<6 by decide)
      obtain ⟨d,hd⟩:∃ d:Nat,7 + more % 6=d:=⟨(7 + more % 6).toNat,by exact DC⟩
      refine Runs.set H (bw (ak 7) (aO (H.ev rfl) (ak 6) (by decide))) fun σ H _=>?_
      rw [hd] at H
      obtain ⟨m1,e1,_⟩:=db (C:=mkC L (n + 3)) (σ:=σ) (g:=PyData.int) (l:=aR d) (z := "_law_gone") (it:=.r1 (.name "_law_count")) (a:=.compif (.name "_law_thing") "_law_thing" (.r1 (.name "_law_count")) (.cmp .ne (.name "_law_thing") (.name "_law_gone"))) (fun g=>(aR d).filter fun i=>!decide (i=g)) .deep (bD (H.ev rfl) (by exact yf hd)) (fun g _=>by
        have H2:=H.mk "_law_gone" (.d (.int g))
        exact c9 (fun i=>!decide (i=g)) (bD (H2.ev rfl) (by exact yf hd)) fun i _=>by
          have H3:Has (upd (upd σ "_law_gone" (mk (.d (.int g)))) "_law_thing" (sI i)) _:=H2.upd "_law_thing" (.d (.int i)) .deep
          exact te (H3.ev rfl) (H3.ev rfl))
      refine ai (di (H.ev (C:=mkC L (n + 3)) (x := "_law_count") rfl) e1) fun m2 e2=>?_
      refine Runs.ret e2 (ag _ rfl (dR d _ rfl (by exact Int.natCast_nonneg _) (by exact Dr hd) (by rw [List.length_map,bg]; exact DN hd) (fun r hr=>?_)))
      refine aa (List.mem_map.mp hr) fun g _ FZ=>?_
      (clear hr; subst FZ)
      refine ⟨?_,(fM d).filter _,fun x hx=>?_⟩
      · have:=List.length_filter_le (fun i=>!decide (i=g)) (aR d)
        rw [bg] at this; exact En hd this
      · have:=mem_upTo.mp (List.mem_filter.mp hx).1
        exact ya this
    · obtain ⟨FW,e1,c,t,hr,h0,h1,h2,h3⟩:=cV (σ:=σ) (n:=n + 2) lib.few (es:=.cons (.name "_law_script") .nil) (am (H.ev rfl) aI) rfl (tv lib n s hs)
      obtain ⟨rv,rm⟩:=FW
      cases hr
      refine Runs.set H e1 fun σ H hσ=>?_
      refine Runs.set H (bO lib (H.ev rfl) (ak 12) (by decide)) fun σ' H hσ'=>?_
      generalize aX s 12=far at H
      have made:∀ {σ:St}{l:List (String × V)},Has σ l→l.lookup "_law_made" = some (.d (.tuple [.int c,aj t]))→ev (mkC L (n + 3)) (.sub (.name "_law_made") (.int 0)) σ = .ok (sI c)∧ev (mkC L (n + 3)) (.sub (.name "_law_made") (.int 1)) σ = .ok (.d (aj t),.sh):=fun H a=>⟨pM (m:=.sh) (H.ev a) (ak 0),pk (m:=.sh) (H.ev a) (ak 1)⟩
      refine ae (made H rfl) fun d1 d2=>?_
      refine Runs.ite (fL (te (aO (H.ev rfl) (ak 3) (by decide)) (ak 1)) fun uu=>fL (pR (jy d2) (ak 8)) fun uu=>pR d1 (ak 9)) (fun uu=>?_) fun q=>Runs.nil ?_
      · refine ai (H "_law_made" _ rfl) fun m e=>?_
        exact Runs.retn e (ag _ rfl (dR c t rfl h0 h1 h2 h3))
      · have hc9:c≤9:=by
          have:=(Bool.or_eq_false_iff.mp (Bool.or_eq_false_iff.mp q).2).2
          have:=of_decide_eq_false this
          exact EB this
        have ht8:t.length≤8:=by
          have:=(Bool.or_eq_false_iff.mp (Bool.or_eq_false_iff.mp q).2).1
          have:=of_decide_eq_false this
          exact DE this
        clear q d1 d2
        refine Runs.set H (bw (ak 1) (aO (cX (H.ev rfl) (ak 3) (by decide) (by decide)) (ak 9) (by decide))) fun σ H _=>?_
        refine Runs.set H (aO (cX (H.ev rfl) (ak 27) (by decide) (by decide)) (ak 9) (by decide)) fun σ H _=>?_
        have b1:=Int.emod_nonneg (far / 3) (show (9:Int)≠0 by decide)
        have b2:=Int.emod_lt_of_pos (far / 3) (show (0:Int)<9 by decide)
        have b3:=Int.emod_nonneg (far / 27) (show (9:Int)≠0 by decide)
        have b4:=Int.emod_lt_of_pos (far / 27) (show (0:Int)<9 by decide)
        generalize hst:1 + far / 3 % 9=st at H
        generalize hfi:far / 27 % 9=fi at H
        refine Runs.set H kl fun σ H hσ=>?_
        refine Runs.for (g:=af) (xs:=t) (fun pre σ=>Has σ [("_law_table_here", .d (aj (pre.map fun r=>r.map fun x=>fi + st * x))),("_law_made", .d (.tuple [.int c,aj t])),("_law_step", .d (.int st)),("_law_first", .d (.int fi))]∧σ "_law_table_here" = some (.d (aj (pre.map fun r=>r.map fun x=>fi + st * x)),.deep)) (aJ (made H rfl).2 (aQ t .sh)) (fun σ0 h hh=>⟨(h _ H).sub (b9 rfl rfl rfl rfl trivial),(hh _ (by simp [iu,eL,w8,nU])).trans hσ⟩) ?_ ?_
        · intro pre y post hl σ F2
          refine ae (F2) fun H hσ=>?_
          try clear F2
          have hp:pre.length<t.length:=by rw [hl,List.length_append,List.length_cons]; exact uo
          have H1:=H.mk "_law_choice" (.d (af y))
          refine Runs.appR H1 (t:=pre.map fun r=>r.map fun x=>fi + st * x) (m:=.deep) ((if_neg (by decide)).trans hσ) (by decide) (gd (g:=PyData.int) (fun x=>fi + st * x) (aJ (H1.ev rfl) (bW y .sh)) fun i _=>?_) (by rw [List.length_map]; exact EC ht8 hp) fun σ H hσ _=>Runs.nil ?_
          · have H2:=H1.mk "_law_thing" (.d (.int i))
            exact bw (H2.ev rfl) (jO (H2.ev rfl) (H2.ev rfl) (by lia))
          · have e:(pre ++ [y]).map (fun r=>r.map fun x=>fi + st * x)=pre.map (fun r=>r.map fun x=>fi + st * x) ++ [y.map fun x=>fi + st * x]:=by rw [List.map_append]; rfl
            show Has σ _∧_
            rw [e]
            exact ⟨H.sub (b9 rfl rfl rfl rfl trivial),hσ⟩
        · intro σ FV
          refine ae (FV) fun H _=>?_
          try clear FV
          refine ai (di (bw (H.ev (C:=mkC L (n + 3)) (x := "_law_first") rfl) (jO (H.ev (x := "_law_step") rfl) (made H rfl).1 (by lia))) (H.ev (x := "_law_table_here") rfl)) fun m2 e2=>?_
          have q1:=Int.mul_nonneg (show 0≤st by exact Ee hst) h0
          have q2:st * c≤9 * 9:=Int.mul_le_mul (by exact Dx hst) hc9 h0 (by decide)
          refine Runs.ret e2 (ag _ rfl (dR _ _ rfl (by exact DZ hfi q1) (by exact Db hfi q2) (by rw [List.length_map]; exact EQ ht8) (fun r hr=>?_)))
          refine aa (List.mem_map.mp hr) fun r' hr' Gl=>?_
          (clear hr; subst Gl)
          refine ae (h3 r' hr') fun q3 q4=>?_
          exact ⟨by rw [List.length_map]; exact Ez q3,q4.affine (by exact EG hfi) (by exact Eo hst)⟩
noncomputable def cW (one:List Int) (o x:Int):List Int:=fz (one.filter (fun y=>!decide (y=o)) ++ [x])
noncomputable def cR (t:List (List Int)) (one other:List Int) (x:Int):Bool:=one.any fun o=>!decide (o∈other) && decide (cW one o x∈t)
noncomputable def dU (c:Nat) (t:List (List Int)):Option (List Int × List Int × Int) :=
  t.findSome? fun one=>(aR c).findSome? fun x=>if x∈one then none else t.findSome? fun other=>if (decide (x∈other) && !cR t one other x)=true then some (one,other,x) else none
theorem gP {α:Type} (p:α→Bool) (l:List α):l.findSome? (fun x=>if p x=true then some () else none)=if l.any p=true then some () else none:=by
  induction l with
  | nil=>rfl
  | cons a l ih=>
    rw [List.findSome?_cons,List.any_cons]
    cases p a with
    | true=>rfl
    | false=>simpa using ih
theorem nX {C:Calls}{σ:St}{c:List Int}{o t:Int}{m:Mode}{a b d:E}{z:String}{l:List (String × V)} (H:Has σ l) (hz:z ≠ "x") (ha:ev C a σ = .ok (.d (af c),m)) (hd:ev C d σ = .ok (sI t)) (hb:∀ i:Int,ev C b (upd σ z (sI i)) = .ok (sI o)) (h:c.length<63) :
    ev C (.bi1 .sorted (.bin .add (.compif (.name z) z (.e a) (.cmp .ne (.name z) b)) (.list (.cons d .nil)))) σ = .ok (.d (af (cW c o t)),.deep):=by
  have hl:(c.filter fun x=>!decide (x=o)).length≤c.length:=List.length_filter_le ..
  refine td (dY (c9 (fun i=>!decide (i=o)) (aJ ha (bW c m)) fun i _=>te (pD (p:=sI i) (if_pos rfl) rfl) (hb i)) (e9 hd) (by rw [List.length_singleton]; exact DI h hl)) ?_
  rw [List.length_append,List.length_singleton]; exact DM h hl
theorem jT (C:Calls) (c:List Int) (o t:Int) (h:c.length<63):aE C p_exchanged [.d (af c),.d (.int o),.d (.int t)] = .ok (.d (af (cW c o t)),.deep):=by
  unfold p_exchanged
  exact cQ rfl fun σ H=>Runs.ret (nX H (by decide) (H.ev rfl) (H.ev rfl) (fun i=>(H.upd "one" (.d (.int i)) .deep).ev rfl) h) rfl
theorem ug (C:Calls) (t:List (List Int)) (one other:List Int) (x:Int) (h:one.length<63):aE C l_can [.d (aj t),.d (af one),.d (af other),.d (.int x)] = .ok (sB (cR t one other x)):=by
  unfold l_can cR
  refine cQ rfl fun σ H=>?_
  refine Runs.seek (g:=PyData.int) (xs:=one) (fun σ=>Has σ [("_law_table_here", .d (aj t)),("_law_one", .d (af one)),("_law_other", .d (af other)),("_law_thing", .d (.int x))]) (fun o=>if (!decide (o∈other) && decide (cW one o x∈t))=true then some () else none) (fun uu=>sB true) (aJ (H.ev rfl) (bW one .sh)) (fun σ0 h _=>(h _ H).sub (b9 rfl rfl rfl rfl trivial)) (fun o ho σ H=>?_) (fun q σ' _=>?_) fun uu q σ'=>?_
  · have H1:=H.mk "_law_out" (.d (.int o))
    refine Runs.set H1 (nX H1 (by decide) (H1.ev rfl) (H1.ev rfl) (fun i=>(H1.upd "_law_left" (.d (.int i)) .deep).ev rfl) h) fun σ H2 _=>?_
    refine Runs.ite (fk (iA (H2.ev rfl) (H2.ev rfl)) fun uu=>AB (H2.ev rfl) (H2.ev rfl)) (fun q=>Runs.ret (dy true) ?_) fun q=>Runs.nil (Runs.nil ?_)
    · exact Cont.ret (Sk.ret (q:=()) (if_pos q))
    · exact Sk.next (if_neg (by rw [q]; decide)) (H2.sub (b9 rfl rfl rfl rfl trivial))
  · rw [gP] at q
    refine Runs.ret (dy false) ?_
    by_cases e:(one.any fun o=>!decide (o∈other) && decide (cW one o x∈t))=true
    · rw [if_pos e] at q; cases q
    · rw [Bool.eq_false_iff.mpr e]
  · rw [gP] at q
    by_cases e:(one.any fun o=>!decide (o∈other) && decide (cW one o x∈t))=true
    · rw [e]
    · rw [if_neg e] at q; cases q
theorem nO {L:List (String × Fn)} (lib:Lib L) (n:Nat) (c:Nat) (t:List (List Int)) (hc:c≤1000) (h:∀ r∈t,r.length<63):aE (mkC L (n + 1)) l_fault [.d (.int c),.d (aj t)] = .ok (match dU c t with | none=>(.d .none,.deep) | some (a,b,x)=>(.d (.tuple [af a,af b,.int x]),.sh)):=by
  unfold l_fault dU
  refine cQ rfl fun σ H=>?_
  let rv:List Int × List Int × Int→V × Mode:=fun q=>(.d (.tuple [af q.1,af q.2.1,.int q.2.2]),.sh)
  let Inv:St→Prop:=fun σ=>Has σ [("_law_table_here", .d (aj t)),("_law_count", .d (.int c))]
  refine Runs.seek (g:=af) (xs:=t) Inv (fun one=>(aR c).findSome? fun x=>if x∈one then none else t.findSome? fun other=>if (decide (x∈other) && !cR t one other x)=true then some (one,other,x) else none) rv (aJ (H.ev rfl) (aQ t .sh)) (fun σ0 h _=>(h _ H).sub ⟨rfl,rfl,trivial⟩) (fun one hone σ H=>?_) (fun q σ' _=>?_) fun q hq σ'=>?_
  · have H1:=H.mk "_law_one" (.d (af one))
    refine Runs.seek (g:=PyData.int) (xs:=aR c) (fun σ=>Has σ [("_law_table_here", .d (aj t)),("_law_count", .d (.int c)),("_law_one", .d (af one))]) (fun x=>if x∈one then none else t.findSome? fun other=>if (decide (x∈other) && !cR t one other x)=true then some (one,other,x) else none) rv (bD (H1.ev rfl) (by exact qm hc)) (fun σ0 h _=>(h _ H1).sub (ca rfl rfl rfl trivial)) (fun x hx σ H=>?_) (fun q σ' H=>Runs.nil ?_) fun q hq σ'=>?_
    · have H2:=H.mk "_law_thing" (.d (.int x))
      refine Runs.ite (iA (H2.ev rfl) (H2.ev rfl)) (fun q=>?_) fun q=>Runs.nil (Runs.nil ?_)
      · have hx':x∉one:=by simpa using q
        refine Runs.seek (g:=af) (xs:=t) (fun σ=>Has σ [("_law_table_here", .d (aj t)),("_law_count", .d (.int c)),("_law_one", .d (af one)),("_law_thing", .d (.int x))]) (fun other=>if (decide (x∈other) && !cR t one other x)=true then some (one,other,x) else none) rv (aJ (H2.ev rfl) (aQ t .sh)) (fun σ0 h _=>(h _ H2).sub (b9 rfl rfl rfl rfl trivial)) (fun other ho σ H=>?_) (fun q σ' H=>Runs.nil (Runs.nil ?_)) fun q hq σ'=>?_
        · have H3:=H.mk "_law_other" (.d (af other))
          refine Runs.ite (fk (mt (H3.ev rfl) (H3.ev rfl)) fun uu=>dZ (dP lib.can (am (H3.ev rfl) (am (H3.ev rfl) (am (H3.ev rfl) (am (H3.ev rfl) aI)))) rfl (ug _ t one other x (h one hone)))) (fun q=>?_) fun q=>Runs.nil (Runs.nil ?_)
          · have e3:ev (mkC L (n + 1)) (.tup (.cons (.name "_law_one") (.cons (.name "_law_other") (.cons (.name "_law_thing") .nil)))) (upd σ "_law_other" (mk (.d (af other)))) = .ok (rv (one,other,x)):=by
              exact qI (m1:=.sh) (m2:=.sh) (m3:=.deep) (H3.ev rfl) (H3.ev rfl) (H3.ev rfl)
            exact Runs.ret e3 (Cont.ret (Sk.ret (q:=(one,other,x)) (if_pos q)))
          · exact Sk.next (if_neg (by rw [q]; decide)) (H3.sub (b9 rfl rfl rfl rfl trivial))
        · exact Sk.next ((if_neg hx').trans q) (H.sub (ca rfl rfl rfl trivial))
        · exact Cont.ret (Sk.ret ((if_neg hx').trans hq))
      · have hx':x∈one:=by simpa using q
        exact Sk.next (if_pos hx') (H2.sub (ca rfl rfl rfl trivial))
    · exact Sk.next q (H.sub ⟨rfl,rfl,trivial⟩)
    · exact Sk.ret hq
  · rw [q]; exact Runs.ret im rfl
  · rw [hq]
def Kn (pre:List (List Int)) (v:V):Prop:=(pre=[]∧v = .dic0)∨∃ ks,v = .dicT ks∧ks.length≤pre.length∧(∀ k,k∈ks↔k∈pre)∧ks.Nodup
theorem gq (r:List Int):dj (aL r)=some r:=cP r
theorem Kn.add {pre:List (List Int)}{v:V}{σ:St}{z:String} (K:Kn pre v) (r:List Int) (hl:pre.length≤1000):∃ v',eU σ z v (aL r) = .ok (upd σ z (v',.deep),.next)∧Kn (pre ++ [r]) v':=by
  rcases K with ⟨rfl,rfl⟩ | ⟨ks,rfl,h1,h2,h3⟩
  · refine (ag (.dicT [r]) ?_ (.inr (a7 ([r]) rfl (Nat.le_refl _) (fun k=>Iff.rfl) (by simp))))
    simp only [eU,gq,show dK (aL r)=none from rfl]
  · refine (ag (.dicT (if r∈ks then ks else ks ++ [r])) ?_ (.inr (a7 _ rfl ?_ (fun k=>?_) ?_)))
    · show (match dj (aL r) with | some i=>if ks.length≤lim then Out.ok (upd σ z (V.dicT (if i∈ks then ks else ks ++ [i]),Mode.deep),Flw.next) else .bad | none=>.bad)=_
      rw [gq]
      show (if ks.length≤lim then _ else _)=_
      rw [if_pos (by unfold lim; exact yP hl h1)]
    · rw [List.length_append,List.length_singleton]
      by_cases e:r∈ks
      · rw [if_pos e]; exact vg h1
      · rw [if_neg e,List.length_append,List.length_singleton]; exact lB h1
    · by_cases e:r∈ks
      · rw [if_pos e,h2,List.mem_append,List.mem_singleton]
        exact ⟨.inl,fun q=>q.elim id fun q=>q▸(h2 r).mp e⟩
      · rw [if_neg e,List.mem_append,List.mem_append,h2]
    · by_cases e:r∈ks
      · rw [if_pos e]; exact h3
      · rw [if_neg e]; exact List.nodup_append.mpr ⟨h3,by simp,fun a ha b hb q=>e (by rw [List.mem_singleton.mp hb] at q; exact q▸ha)⟩
theorem jE (C:Calls) (t:List (List Int)) (hl:t.length≤1000):∃ r,aE C p_known_of [.d (aj t)] = .ok r∧∃ v,r=(v,.deep)∧Kn t v:=by
  unfold p_known_of
  refine cD rfl fun σ H=>?_
  refine Runs.set H rC fun σ H hσ=>?_
  refine Runs.for (g:=af) (xs:=t) (fun pre σ=>∃ v,σ "known" = some (v,.deep)∧Kn pre v) (aJ (H.ev rfl) (aQ t .sh)) (fun σ0 _ hh=>(ag .dic0 ((hh _ (by simp [iu,eL])).trans hσ) (.inl ⟨rfl,rfl⟩))) ?_ ?_
  · intro pre y post hl' σ Gk
    refine aa (Gk) fun v hv K=>?_
    try clear Gk
    have hp:pre.length<t.length:=by rw [hl',List.length_append,List.length_cons]; exact uo
    refine aa (K.add (σ:=upd σ "choice" (mk (.d (af y)))) (z := "known") y (by exact B3 hl hp)) fun v' h1 h2=>?_
    have hv':upd σ "choice" (mk (.d (af y))) "known" = some (v,.deep):=(if_neg (by decide)).trans hv
    refine Runs.next (σ':=upd (upd σ "choice" (mk (.d (af y)))) "known" (v',.deep)) ?_ (Runs.nil (ag v' (mV _ _ _) h2))
    simp only [cf,nZ (C:=C) (pD (C:=C) (σ:=upd σ "choice" (mk (.d (af y)))) (z := "choice") (p:=(.d (af y),.sh)) (if_pos rfl) rfl),Out.ok_bind,hv']
    exact h1
  · intro σ' F8
    refine aa (F8) fun v hv K=>?_
    try clear F8
    exact Runs.retn hv (ag _ rfl (ag v rfl K))
theorem qX {L:List (String × Fn)} (lib:Lib L) (n:Nat) (t:List (List Int)) (v:V) (K:Kn t v) (one other:List Int) (x:Int) (ht:t≠[]) (h:one.length<63):aE (mkC L (n + 1)) p_goes [v,.d (af one),.d (af other),.d (.int x)] = .ok (sB (cR t one other x)):=by
  rcases K with ⟨q,_⟩ | ⟨ks,rfl,_,hk,_⟩
  · exact absurd q ht
  unfold p_goes cR
  refine cQ rfl fun σ H=>?_
  refine Runs.seek (g:=PyData.int) (xs:=one) (fun σ=>Has σ [("known", .dicT ks),("one", .d (af one)),("other", .d (af other)),("thing", .d (.int x))]) (fun o=>if (!decide (o∈other) && decide (cW one o x∈t))=true then some () else none) (fun uu=>sB true) (aJ (H.ev rfl) (bW one .sh)) (fun σ0 h _=>(h _ H).sub (b9 rfl rfl rfl rfl trivial)) (fun o ho σ H=>?_) (fun q σ' _=>?_) fun uu q σ'=>?_
  · have H1:=H.mk "out" (.d (.int o))
    have e1:ev (mkC L (n + 1)) (.cmp .isin (.bi1 .tuple (.call "exchanged" (.cons (.name "one") (.cons (.name "out") (.cons (.name "thing") .nil))))) (.name "known")) (upd σ "out" (mk (.d (.int o)))) = .ok (sB (decide (cW one o x∈t))):=by
      refine bj (nZ (dP lib.exch (am (H1.ev rfl) (am (H1.ev rfl) (am (H1.ev rfl) aI))) rfl (jT _ one o x h))) (H1.ev (x := "known") rfl) ?_
      show (aC (dj (aL (cW one o x))) fun i=>Out.ok (decide (i∈ks)))=_
      rw [gq]
      exact congrArg Out.ok (decide_eq_decide.mpr (hk _))
    refine Runs.ite (fk (iA (H1.ev rfl) (H1.ev rfl)) fun uu=>e1) (fun q=>Runs.ret (dy true) (Cont.ret (Sk.ret (q:=()) (if_pos q)))) fun q=>Runs.nil (Runs.nil (Sk.next (if_neg (by rw [q]; decide)) (H1.sub (b9 rfl rfl rfl rfl trivial))))
  · rw [gP] at q
    refine Runs.ret (dy false) ?_
    by_cases e:(one.any fun o=>!decide (o∈other) && decide (cW one o x∈t))=true
    · rw [if_pos e] at q; cases q
    · rw [Bool.eq_false_iff.mpr e]
  · rw [gP] at q
    by_cases e:(one.any fun o=>!decide (o∈other) && decide (cW one o x∈t))=true
    · rw [e]
    · rw [if_neg e] at q; cases q
noncomputable def pK:Option (List Int × List Int × Int)→V × Mode
  | none=>(.d .none,.deep)
  | some q=>(.d (.tuple [af q.1,af q.2.1,.int q.2.2]),.deep)
theorem oQ {L:List (String × Fn)} (lib:Lib L) (n:Nat) (c:Nat) (t:List (List Int)) (hc:c≤1000) (hl:t.length≤1000) (h:∀ one∈t,∀ other∈t,∀ x∈other,x∉one→one.length<63):aE (mkC L (n + 2)) p_fault [.d (.int c),.d (aj t)] = .ok (pK (dU c t)):=by
  unfold p_fault dU
  refine cQ rfl fun σ H=>?_
  obtain ⟨_,e0,v,Gz,K⟩:=cV (σ:=σ) (n:=n + 1) lib.known (es:=.cons (.name "table") .nil) (am (H.ev rfl) aI) rfl (jE _ t hl)
  subst Gz
  refine Runs.set H e0 fun σ H _=>?_
  refine Runs.seek (g:=af) (xs:=t) (fun σ=>Has σ [("table", .d (aj t)),("count", .d (.int c)),("known", v)]) (fun one=>(aR c).findSome? fun x=>if x∈one then none else t.findSome? fun other=>if (decide (x∈other) && !cR t one other x)=true then some (one,other,x) else none) (fun q=>pK (some q)) (aJ (H.ev rfl) (aQ t .sh)) (fun σ0 h _=>(h _ H).sub (ca rfl rfl rfl trivial)) (fun one hone σ H=>?_) (fun q σ' _=>?_) fun q hq σ'=>?_
  · have H1:=H.mk "one" (.d (af one))
    refine Runs.seek (g:=PyData.int) (xs:=aR c) (fun σ=>Has σ [("table", .d (aj t)),("count", .d (.int c)),("known", v),("one", .d (af one))]) (fun x=>if x∈one then none else t.findSome? fun other=>if (decide (x∈other) && !cR t one other x)=true then some (one,other,x) else none) (fun q=>pK (some q)) (bD (H1.ev rfl) (by exact qm hc)) (fun σ0 h _=>(h _ H1).sub (b9 rfl rfl rfl rfl trivial)) (fun x hx σ H=>?_) (fun q σ' H=>Runs.nil ?_) fun q hq σ'=>?_
    · have H2:=H.mk "thing" (.d (.int x))
      refine Runs.ite (iA (H2.ev rfl) (H2.ev rfl)) (fun q=>?_) fun q=>Runs.nil (Runs.nil ?_)
      · have hx':x∉one:=by simpa using q
        refine Runs.seek (g:=af) (xs:=t) (fun σ=>Has σ [("table", .d (aj t)),("count", .d (.int c)),("known", v),("one", .d (af one)),("thing", .d (.int x))]) (fun other=>if (decide (x∈other) && !cR t one other x)=true then some (one,other,x) else none) (fun q=>pK (some q)) (aJ (H2.ev rfl) (aQ t .sh)) (fun σ0 h _=>(h _ H2).sub (ei rfl rfl rfl rfl rfl trivial)) (fun other ho σ H=>?_) (fun q σ' H=>Runs.nil (Runs.nil ?_)) fun q hq σ'=>?_
        · have H3:=H.mk "other" (.d (af other))
          refine Runs.ite (fk (mt (H3.ev rfl) (H3.ev rfl)) fun hp=>dZ (dP lib.goes (am (H3.ev rfl) (am (H3.ev rfl) (am (H3.ev rfl) (am (H3.ev rfl) aI)))) rfl (qX lib n t v K one other x (List.ne_nil_of_mem hone) (h one hone other ho x (of_decide_eq_true hp) hx')))) (fun q=>?_) fun q=>Runs.nil (Runs.nil ?_)
          · exact Runs.ret (qI (fZ (H3.ev rfl)) (fZ (H3.ev rfl)) (H3.ev rfl)) (Cont.ret (Sk.ret (q:=(one,other,x)) (if_pos q)))
          · exact Sk.next (if_neg (by rw [q]; decide)) (H3.sub (ei rfl rfl rfl rfl rfl trivial))
        · exact Sk.next ((if_neg hx').trans q) (H.sub (b9 rfl rfl rfl rfl trivial))
        · exact Cont.ret (Sk.ret ((if_neg hx').trans hq))
      · have hx':x∈one:=by simpa using q
        exact Sk.next (if_pos hx') (H2.sub (b9 rfl rfl rfl rfl trivial))
    · exact Sk.next q (H.sub (ca rfl rfl rfl trivial))
    · exact Sk.ret hq
  · rw [q]; exact Runs.ret im rfl
  · rw [hq]
end Mine
namespace Mine
set_option tactic.hygienic false
set_option linter.unusedVariables false
open PySem
noncomputable def p_need_row:Fn:=⟨["count", "things"],
    (.cons (.assign "seen" .edic)
    (.cons (.for1 "thing" (.e (.name "things"))
    (.cons (.ite (.or (.cmp .lt (.name "thing") (.int 0)) (.or (.cmp .ge (.name "thing") (.name "count")) (.cmp .isin (.name "thing") (.name "seen"))))
    (.cons (.raise "NoThing")
    .nil)
    .nil)
    (.cons (.setitem "seen" (.name "thing"))
    .nil)))
    .nil))⟩
noncomputable def gB:Ss:=(.cons (.ite (.or (.cmp .lt (.name "thing") (.int 0)) (.or (.cmp .ge (.name "thing") (.name "count")) (.cmp .isin (.name "thing") (.name "seen"))))
    (.cons (.raise "NoThing")
    .nil)
    .nil)
    (.cons (.setitem "seen" (.name "thing"))
    .nil))
def Good (c:Int) (xs:List Int):Prop:=(∀ x∈xs,0≤x∧x<c)∧xs.Nodup
def Sn (pre:List Int) (v:V):Prop:=(pre=[]∧v = .dic0)∨∃ ks,v = .dicI ks∧ks.length≤pre.length∧∀ k,k∈ks↔k∈pre
theorem Sn.has {pre:List Int}{v:V} (K:Sn pre v) (x:Int):bM .isin (.d (.int x)) v = .ok (decide (x∈pre)):=by
  rcases K with ⟨rfl,rfl⟩ | ⟨ks,rfl,h1,h2⟩
  · rfl
  · show Out.ok (decide (x∈ks))=_
    rw [decide_eq_decide.mpr (h2 x)]
theorem Sn.add {pre:List Int}{v:V}{σ:St}{z:String} (K:Sn pre v) (x:Int) (hl:pre.length≤1000):∃ v',eU σ z v (.int x) = .ok (upd σ z (v',.deep),.next)∧Sn (pre ++ [x]) v':=by
  rcases K with ⟨rfl,rfl⟩ | ⟨ks,rfl,h1,h2⟩
  · exact (ag (.dicI [x]) rfl (.inr (aA ([x]) rfl (Nat.le_refl _) (fun k=>Iff.rfl))))
  · refine (ag (.dicI (if x∈ks then ks else ks ++ [x])) ?_ (.inr (aA _ rfl ?_ (fun k=>?_))))
    · show (if ks.length≤lim then _ else _)=_
      rw [if_pos (by unfold lim; exact yP hl h1)]
    · rw [List.length_append,List.length_singleton]
      by_cases e:x∈ks
      · rw [if_pos e]; exact vg h1
      · rw [if_neg e,List.length_append,List.length_singleton]; exact lB h1
    · by_cases e:x∈ks
      · rw [if_pos e,h2,List.mem_append,List.mem_singleton]
        exact ⟨.inl,fun q=>q.elim id fun q=>q▸(h2 x).mp e⟩
      · rw [if_neg e,List.mem_append,List.mem_append,h2]
theorem lq {C:Calls}{g:List V→Out (V × Mode)} (hC:C "NoThing" = some g) (c:Int):∀ (xs pre:List Int) (σ:St) (v:V),Has σ [("count", .d (.int c))]→σ "seen" = some (v,.deep)→Sn pre v→Good c pre→pre.length + xs.length≤1000 →
    (Good c (pre ++ xs)→∃ σ',cr (fun y σ=>exs C gB (upd σ "thing" (mk (.d y)))) (xs.map .int) σ = .ok (σ',.next))∧(¬ Good c (pre ++ xs)→cr (fun y σ=>exs C gB (upd σ "thing" (mk (.d y)))) (xs.map .int) σ = .exc "NoThing")
  | [],pre,σ,v,H,hs,K,hg,hl=>by
    rw [List.append_nil]
    exact ⟨fun uu=>⟨σ,rfl⟩,fun q=>absurd hg q⟩
  | x :: xs,pre,σ,v,H,hs,K,hg,hl=>by
    have H1:Has (upd σ "thing" (mk (.d (.int x)))) [("thing", .d (.int x)),("count", .d (.int c))]:=H.mk "thing" (.d (.int x))
    have hs1:upd σ "thing" (mk (.d (.int x))) "seen" = some (v,.deep):=(if_neg (by decide)).trans hs
    have et:=H1.ev (C:=C) (x := "thing") rfl
    have e2:ev C (.cmp .isin (.name "thing") (.name "seen")) (upd σ "thing" (mk (.d (.int x)))) = .ok (sB (decide (x∈pre))):=bj et (by simp only [cZ,hs1]; rfl) (K.has x)
    have ec:ev C (.or (.cmp .lt (.name "thing") (.int 0)) (.or (.cmp .ge (.name "thing") (.name "count")) (.cmp .isin (.name "thing") (.name "seen")))) (upd σ "thing" (mk (.d (.int x)))) = .ok (sB (decide (x<0) || (decide (c≤x) || decide (x∈pre)))) :=
      fL (pq et (ak 0)) fun uu=>fL (DT et (H1.ev rfl)) fun uu=>e2
    simp only [List.map_cons,cr]
    by_cases bad:x<0∨c≤x∨x∈pre
    · have eb:(decide (x<0) || (decide (c≤x) || decide (x∈pre)))=true:=by simpa using bad
      rw [eb] at ec
      have ng:¬ Good c (pre ++ x :: xs):=fun ⟨h1,h2⟩=>by
        have hx:=h1 x (by simp)
        rcases bad with q | q | q
        · exact vh hx q
        · exact vO hx q
        · exact (List.nodup_append.mp h2).2.2 x q x (.head _) rfl
      have er:exs C gB (upd σ "thing" (mk (.d (.int x)))) = .exc "NoThing" := by
        unfold gB
        simp only [cE,bS]
        rw [oA ec]
        simp only [cE,bS,cf,fc,hC,aC]
        rfl
      refine ⟨fun q=>absurd q ng,fun uu=>?_⟩
      rw [er]; rfl
    · have eb:(decide (x<0) || (decide (c≤x) || decide (x∈pre)))=false:=by simpa using bad
      rw [eb] at ec
      obtain ⟨v',e4,K'⟩:=K.add (σ:=upd σ "thing" (mk (.d (.int x)))) (z := "seen") x (by rw [List.length_cons] at hl; exact AR hl)
      have er:exs C gB (upd σ "thing" (mk (.d (.int x)))) = .ok (upd (upd σ "thing" (mk (.d (.int x)))) "seen" (v',.deep),.next):=by
        unfold gB
        rw [gO ((kA ec).trans fP)]
        refine (gO (σ':=upd (upd σ "thing" (mk (.d (.int x)))) "seen" (v',.deep)) ?_).trans fP
        simp only [cf,et,Out.calm_ok,Out.ok_bind,hs1]
        exact e4
      have hg':Good c (pre ++ [x]):=by
        refine ⟨fun y hy=>?_,List.nodup_append.mpr ⟨hg.2,by simp,fun a ha b hb q=>?_⟩⟩
        · rcases List.mem_append.mp hy with h | h
          · exact hg.1 y h
          · rw [List.mem_singleton.mp h]; exact An bad
        · rw [List.mem_singleton.mp hb] at q; (clear H1 K' e2 e4 eb er et hb hl hs1; subst q); exact bad (.inr (.inr ha))
      have ih:=lq hC c xs (pre ++ [x]) (upd (upd σ "thing" (mk (.d (.int x)))) "seen" (v',.deep)) v' ((H1.upd "seen" v' .deep).sub ⟨rfl,trivial⟩) (mV _ _ _) K' hg' (by rw [List.length_append,List.length_singleton]; rw [List.length_cons] at hl; exact Cw hl)
      rw [List.append_assoc] at ih
      rw [er]
      exact ih
theorem gW {C:Calls}{g:List V→Out (V × Mode)} (hC:C "NoThing" = some g) (c:Int) (xs:List Int) (hl:xs.length≤1000) :
    (Good c xs→aE C p_need_row [.d (.int c),.d (af xs)] = .ok (.d .none,.deep))∧(¬ Good c xs→aE C p_need_row [.d (.int c),.d (af xs)] = .exc "NoThing"):=by
  refine aa (c7 ["count", "things"] [.d (.int c),.d (af xs)] rfl) fun σ hσ H=>?_
  have hb:bi p_need_row.params [.d (.int c),.d (af xs)]=some σ:=hσ
  have e1:ex C (.assign "seen" .edic) σ = .ok (upd σ "seen" (.dic0,.deep),.next):=by
    simp only [cb]
    rw [jR (rC (C:=C) (σ:=σ))]
    rfl
  have H1:Has (upd σ "seen" (.dic0,.deep)) [("seen", .dic0),("count", .d (.int c)),("things", .d (af xs))]:=H.upd "seen" .dic0 .deep
  have hit:=aJ (C:=C) (H1.ev (C:=C) (x := "things") rfl) (bW xs .sh)
  refine ae (lq hC c xs [] (consume (upd σ "seen" (.dic0,.deep)) (bB (.e (.name "things"))) .sh) .dic0 ((H1.sub (l':=[("count", .d (.int c))]) ⟨rfl,trivial⟩).consume _ _) ((fE.2 "seen" (by simp [iu,eL])).trans (mV _ _ _)) (.inl ⟨rfl,rfl⟩) ⟨fun uu h=>(nomatch h),.nil⟩ (by simpa using hl)) fun l1 l2=>?_
  have e2:exs C p_need_row.body σ=(cr (fun y σ=>exs C gB (upd σ "thing" (mk (.d y)))) (xs.map .int) (consume (upd σ "seen" (.dic0,.deep)) (bB (.e (.name "things"))) .sh)).bind fun q=>match q.2 with | .next=>exs C .nil q.1 | .ret v=>.ok (q.1,.ret v):=by
    show exs C (.cons (.assign "seen" .edic) _) σ=_
    rw [gO e1]
    simp only [cE,bS,cf,gh,gH,fc,hit,Out.ok_bind]
    rfl
  refine ⟨fun q=>?_,fun q=>?_⟩
  · refine ai (l1 q) fun σ' l1=>?_
    rw [l1] at e2
    unfold aE
    rw [hb]
    dsimp only
    rw [e2]
    simp only [Out.ok_bind,fP]
  · rw [l2 q] at e2
    unfold aE
    rw [hb]
    dsimp only
    rw [e2]
    rfl
end Mine
namespace Mine
set_option tactic.hygienic false
set_option linter.unusedVariables false
open PySem
def NoF (c:Nat) (t:List (List Int)):Prop:=∀ one∈t,∀ x∈aR c,x∉one→∀ other∈t,x∈other→cR t one other x=true
theorem fault_none {c:Nat}{t:List (List Int)}:dU c t=none↔NoF c t:=by
  unfold dU NoF
  rw [List.findSome?_eq_none_iff]
  refine forall_congr' fun one=>imp_congr_right fun uu=>?_
  rw [List.findSome?_eq_none_iff]
  refine forall_congr' fun x=>imp_congr_right fun uu=>?_
  by_cases hx:x∈one
  · simp [hx]
  · rw [if_neg hx,List.findSome?_eq_none_iff]
    refine ⟨fun h _ other ho hxo=>?_,fun h other ho=>?_⟩
    · have:=h other ho
      cases hc:cR t one other x with
      | true=>rfl
      | false=>rw [if_pos (by simp [hxo,hc])] at this; cases this
    · by_cases hxo:x∈other
      · rw [if_neg (by simp [h hx other ho hxo])]
      · rw [if_neg (by simp [hxo])]
theorem tO {t u:List (List Int)} (h:∀ r,r∈t↔r∈u) (one other:List Int) (x:Int):cR t one other x=cR u one other x:=by
  unfold cR
  congr 1
  funext o
  rw [decide_eq_decide.mpr (h (cW one o x))]
theorem NoF.set {c:Nat}{t u:List (List Int)} (n:NoF c t) (h:∀ r,r∈t↔r∈u):NoF c u:=fun one ho x hx hn other hot hxo=>by
  rw [← tO h]
  exact n one ((h one).mpr ho) x hx hn other ((h other).mpr hot) hxo
theorem NoF.empty {c:Nat}{t:List (List Int)} (n:NoF c t) (hr:∀ r∈t,Srt c r) (h:[]∈t):∀ r∈t,r=[]:=fun r hr'=>by
  cases r with
  | nil=>rfl
  | cons x r=>
    have hx:=(hr _ hr').2 x (.head _)
    have:=n [] h x (mem_upTo.mpr hx) (fun q=>nomatch q) _ hr' (.head _)
    cases this
theorem NoF.one (c:Nat) (r:List Int):NoF c [r]:=fun one ho x hx hn other hot hxo=>by
  rw [List.mem_singleton.mp ho] at hn
  rw [List.mem_singleton.mp hot] at hxo
  exact absurd hxo hn
end Mine
namespace Mine
set_option tactic.hygienic false
set_option linter.unusedVariables false
open PySem
noncomputable def p_Rule:Fn:=⟨["count", "table"],
    (.cons (.ite (.cmp .eq (.bi1 .len (.name "table")) (.int 0))
    (.cons (.raise "NoChoice")
    .nil)
    .nil)
    (.cons (.for1 "choice" (.e (.name "table"))
    (.cons (.expr (.call "need_row" (.cons (.name "count") (.cons (.name "choice") .nil))))
    .nil))
    (.cons (.assign "known" (.call "known_of" (.cons (.comp (.bi1 .sorted (.name "choice")) "choice" (.e (.name "table"))) .nil)))
    (.cons (.assign "full" (.comp (.bi1 .list (.name "choice")) "choice" (.e (.bi1 .sorted (.bi1 .list (.name "known"))))))
    (.cons (.ite (.cmp .isnot (.call "fault" (.cons (.name "count") (.cons (.name "full") .nil))) .none)
    (.cons (.raise "NoExchange")
    .nil)
    .nil)
    .nil)))))⟩
structure LibR (L:List (String × Fn)):Prop extends Lib L where
  need:L.lookup "need_row" = some p_need_row
  rule:L.lookup "Rule" = some p_Rule
  nth:∃ f,L.lookup "NoThing" = some f
theorem jn {L:List (String × Fn)}{n:Nat}{σ:St}{f:String}{fn:Fn}{es:Es}{q:List (V × Mode)}{vs:List V}{r:V × Mode} (hL:L.lookup f=some fn) (he:evs (aH (mkC L (n + 1))) es σ = .ok q) (hv:q.map (·.1)=vs) (h:aE (mkC L n) fn vs = .ok r) (hp:fY f=true:=by decide) (hl:f ≠ "law" := by decide):ev (aH (mkC L (n + 1))) (.call f es) σ = .ok r:=by
  have hC:aH (mkC L (n + 1)) f=some fun vs=>bZ f (mkC L n) fn vs:=by
    unfold aH
    rw [if_neg hl]
    show (L.lookup f).map _=_; rw [hL]; rfl
  rw [iI hC he,hv,j6 hp,h]
theorem Srt.good {c:Int}{r:List Int} (h:Srt c r):Good c r:=⟨h.2,h.1.imp fun q e=>by rw [e] at q; exact Int.lt_irrefl _ q⟩
theorem iU:∀ ks:List (List Int),dv (ks.map aL)=some ks
  | []=>rfl
  | k :: ks=>by simp only [List.map_cons,dv,gq,iU ks,Option.bind_some,Option.map_some]
theorem nA {ks:List (List Int)} (h0:ks≠[]) (h64:ks.length<64) (hne:ks.length<2∨[]∉ks):∃ m,b1V .sorted (.d (.list (ks.map aL))) = .ok (.d (.list ((bH ks).map aL)),m):=by
  refine ⟨fresh ((bH ks).map aL),?_⟩
  show dg (ks.map aL)=_
  unfold dg
  have hi:aN (ks.map aL)=none:=by
    cases ks with
    | nil=>exact absurd rfl h0
    | cons k ks=>rfl
  rw [if_pos (by rw [List.length_map]; exact h64),hi]
  show eE _=_
  unfold eE
  rw [iU]
  show (if ks.length<2∨[]∉ks then _ else _)=_
  rw [if_pos hne]
theorem s6 (r:List Int):b1V .list (.d (aL r)) = .ok (.d (af r),.deep):=by
  show Out.ok (V.d (.list (r.map PyData.int)),fresh (r.map PyData.int))=_
  have:fresh (r.map PyData.int) = .deep:=by
    unfold fresh
    rw [if_pos]
    rw [List.all_map,List.all_eq_true]
    intro _ _; rfl
  rw [this]; rfl
theorem w7 {t:List (List Int)}{a b:List Int} (h:t.length≤1) (ha:a∈t) (hb:b∈t):b=a:=by
  rcases t with _ | ⟨x,_ | ⟨y,t⟩⟩
  · cases ha
  · rw [List.mem_singleton.mp ha,List.mem_singleton.mp hb]
  · simp at h
theorem rA {L:List (String × Fn)} (lib:LibR L) (n:Nat) (c:Nat) (t:List (List Int)) (hc:c≤1000) (ht:t≠[]) (hl:t.length≤63) (hr:∀ r∈t,r.length≤100∧Srt c r) (h1:1<t.length→∀ r∈t,r.length≤60) (nf:NoF c t) :
    ∃ u x,cj (aH (mkC L (n + 3))) p_Rule [.d (.int c),.d (aj t)] = .ok (.rule c (aj u) (x:List Int).length,.deep)∧(∀ r,r∈u↔r∈t)∧u[0]? = some x:=by
  refine ai (lib.nth) fun nt hnt=>?_
  have hNT:mkC L (n + 2) "NoThing" = some fun vs=>bZ "NoThing" (mkC L (n + 1)) nt vs:=by show (L.lookup "NoThing").map _=_; rw [hnt]; rfl
  have main:∀ σ,Has σ (["count", "table"].zip [V.d (.int c),V.d (aj t)])→Runs (aH (mkC L (n + 3))) p_Rule.body σ (fun σ' fl=>fl = .next∧∃ u:List (List Int),Has σ' [("count", .d (.int c))]∧σ' "full" = some (.d (aj u),.deep)∧(∀ r,r∈u↔r∈t)):=fun σ H=>by
    refine Runs.no ((cz (jy (H.ev (x := "table") rfl)) (ak 0)).trans (by rw [decide_eq_false (fun q=>ht (List.eq_nil_of_length_eq_zero (by exact Bt q)))])) ?_
    refine Runs.for (g:=af) (xs:=t) (fun pre σ=>Has σ [("count", .d (.int c)),("table", .d (aj t))]) (aJ (H.ev (x := "table") rfl) (aQ t .sh)) (fun σ0 h _=>(h _ H).sub ⟨rfl,rfl,trivial⟩) ?_ ?_
    · rintro pre y post hl' σ H
      have hy:y∈t:=by rw [hl']; simp
      have H1:=H.mk "choice" (.d (af y))
      refine Runs.expr H1 (jn lib.need (am (H1.ev (x := "count") rfl) (am (H1.ev (x := "choice") rfl) aI)) rfl ((gW hNT c y (by have:=(hr y hy).1; exact pw this)).1 (hr y hy).2.good)) fun σ' H' _=>Runs.nil (H'.sub ⟨rfl,rfl,trivial⟩)
    · rintro σ H
      obtain ⟨m1,e1,_,_⟩:=db (C:=aH (mkC L (n + 3))) (σ:=σ) (g:=af) (l:=t) (z := "choice") (it:=.e (.name "table")) (a:=.bi1 .sorted (.name "choice")) (fun r=>r) .deep (aJ (H.ev rfl) (aQ t .sh)) fun r hr'=>pd ((Has.nil.mk "choice" (.d (af r))).ev rfl) (by have:=(hr r hr').1; exact CW this) (fun i hi=>((hr r hr').2.2 i hi).1) (hr r hr').2.1
      rw [List.map_id'] at e1
      obtain ⟨r,e2,v,E5,K⟩:=jE (mkC L (n + 2)) t (by exact zw hl)
      subst E5
      refine Runs.set H (jn lib.known (am e1 aI) rfl e2) fun σ H hk=>?_
      rcases K with ⟨q,_⟩ | ⟨ks,rfl,k1,k2,k3⟩
      · exact absurd q ht
      have hne:ks.length<2∨[]∉ks:=by
        by_cases q:[]∈ks
        · left
          have all:=nf.empty (fun r hr'=>(hr r hr').2) ((k2 _).mp q)
          rcases ks with _ | ⟨a,_ | ⟨b,ks⟩⟩
          · simp
          · simp
          · have ha:=all a ((k2 a).mp (by simp))
            have hb:=all b ((k2 b).mp (by simp))
            (clear H e2 hk k1 k2 q; subst ha hb)
            simp at k3
        · exact .inr q
      have h0:ks≠[]:=fun q=>by
        refine ai (List.exists_mem_of_ne_nil t ht) fun a ha=>?_
        have:=(k2 a).mpr ha
        rw [q] at this; cases this
      have e3:ev (aH (mkC L (n + 3))) (.bi1 .list (.name "known")) σ = .ok (.d (.list (ks.map aL)),fresh (ks.map aL)):=by
        rw [du (H.ev (x := "known") rfl)]
        show lD .list ks=_
        unfold lD
        rw [if_pos ⟨rfl,by unfold lim; exact CU hl k1⟩]
      refine ai (nA h0 (by exact Ce hl k1) hne) fun m4 e4=>?_
      have e5:ev (aH (mkC L (n + 3))) (.bi1 .sorted (.bi1 .list (.name "known"))) σ = .ok (.d (.list ((bH ks).map aL)),m4):=(du e3).trans e4
      refine ao (db (C:=aH (mkC L (n + 3))) (σ:=σ) (g:=aL) (l:=bH ks) (z := "choice") (it:=.e (.bi1 .sorted (.bi1 .list (.name "known")))) (a:=.bi1 .list (.name "choice")) (fun r=>r) .deep (aJ e5 rfl) fun r _=>(du ((Has.nil.mk "choice" (.d (aL r))).ev rfl)).trans (s6 r)) fun m6 e6 hm6 _=>?_
      rw [List.map_id',hm6 rfl] at e6
      have mem:∀ r,r∈bH ks↔r∈t:=fun r=>((List.mergeSort_perm ks _).mem_iff).trans (k2 r)
      refine Runs.set H e6 fun σ H hf=>?_
      have ef:=oQ lib.toLib n c (bH ks) hc (by have:=(List.mergeSort_perm ks (fun a b=>!ltL b a)).length_eq; show (bH ks).length≤_; unfold bH; exact zp hl k1 this) fun r hr' o ho x hx hn=>by
        by_cases q:1<t.length
        · have:=h1 q r ((mem r).mp hr'); exact zj this
        · exact absurd (w7 (by exact C4 q) ((mem r).mp hr') ((mem o).mp ho)▸hx) hn
      rw [fault_none.mpr (nf.set fun r=>(mem r).symm)] at ef
      refine Runs.no (bj (t:=false) (jn lib.fault (am (H.ev (x := "count") rfl) (am (H.ev (x := "full") rfl) aI)) rfl ef) im rfl) ?_
      exact Runs.nil (aG rfl (aA (bH ks) (H.sub ⟨rfl,trivial⟩) hf mem))
  refine aa (c7 ["count", "table"] [V.d (.int c),V.d (aj t)] rfl) fun σ hσ H=>?_
  obtain ⟨σ',fl,he,E6,u,H',hu,hm⟩:=main σ H
  subst E6
  obtain ⟨x,hx⟩:∃ x,u[0]? = some x:=by
    cases u with
    | nil=>
      refine ai (List.exists_mem_of_ne_nil t ht) fun a ha=>?_
      have:=(hm a).mpr ha
      cases this
    | cons x u=>exact ⟨x,rfl⟩
  refine (aK u x ?_ hm hx)
  refine ai (H' "count" _ rfl) fun mc hcnt=>?_
  unfold cj
  rw [show bi p_Rule.params [V.d (.int c),V.d (aj t)]=some σ from hσ]
  dsimp only
  rw [he]
  simp only [Out.ok_bind]
  unfold dX
  rw [hcnt,hu]
  show (aC ((u.map af)[0]?) _)=_
  rw [List.getElem?_map,hx]
  show Out.ok (V.rule c (.list (u.map af)) ((x.map PyData.int).length:Int),Mode.deep)=_
  rw [List.length_map]
  rfl
end Mine
namespace Mine
set_option tactic.hygienic false
set_option linter.unusedVariables false
open PySem
noncomputable def p_rank:Fn:=⟨["self", "things"],
    (.cons (.expr (.call "need_row" (.cons (.attr (.name "self") "count") (.cons (.name "things") .nil))))
    (.cons (.ret (.bi1 .max (.comp (.bi1 .len (.compif (.name "thing") "thing" (.e (.name "choice")) (.cmp .isin (.name "thing") (.name "things")))) "choice" (.e (.attr (.name "self") "full")))))
    .nil))⟩
noncomputable def p_together:Fn:=⟨["self", "things"],
    (.cons (.ret (.cmp .eq (.meth (.name "self") "rank" (.cons (.name "things") .nil)) (.bi1 .len (.name "things"))))
    .nil)⟩
noncomputable def bL (things choice:List Int):Nat:=(choice.filter fun x=>decide (x∈things)).length
theorem gb:∀ {a b:List Int},a.Nodup→(∀ x∈a,x∈b)→a.length≤b.length
  | [],_,_,_=>Nat.zero_le _
  | x :: a,b,hn,h=>by
    have hx:=h x (.head _)
    refine ae (List.nodup_cons.mp hn) fun n1 n2=>?_
    have:=gb (b:=b.erase x) n2 fun y hy=>(List.mem_erase_of_ne (fun (q:y=x)=>n1 (q▸hy))).mpr (h y (.tail _ hy))
    rw [List.length_erase_of_mem hx] at this
    have hp:0<b.length:=List.length_pos_of_mem hx
    rw [List.length_cons]; exact zK this hp
theorem wC {a b:List Int} (hn:a.Nodup) (h:∀ x∈a,x∈b) (hl:b.length≤a.length):∀ x∈b,x∈a:=fun x hx=>by
  by_cases q:x∈a
  · exact q
  · have:=gb (a:=x :: a) (List.nodup_cons.mpr ⟨q,hn⟩) fun y hy=>(List.mem_cons.mp hy).elim (fun e=>e▸hx) (h y)
    rw [List.length_cons] at this
    exact zO hl this
theorem ou {things choice:List Int} (h:choice.Nodup):bL things choice≤things.length:=gb (h.filter _) fun x hx=>of_decide_eq_true (List.mem_filter.mp hx).2
theorem lJ {things choice:List Int} (hc:choice.Nodup) (ht:things.Nodup):bL things choice=things.length↔∀ x∈things,x∈choice:=by
  constructor
  · intro h x hx
    exact (List.mem_filter.mp (wC (hc.filter fun x=>decide (x∈things)) (fun x hx=>of_decide_eq_true (List.mem_filter.mp hx).2) (by unfold bL at h; exact vS h) x hx)).1
  · intro h
    exact Nat.le_antisymm (ou hc) (gb ht fun x hx=>List.mem_filter.mpr ⟨h x hx,decide_eq_true hx⟩)
theorem yH {L:List (String × Fn)}{n:Nat}{σ:St}{f:String}{fn:Fn}{es:Es}{q:List (V × Mode)}{vs:List V}{c:String} (hL:L.lookup f=some fn) (he:evs (aH (mkC L (n + 1))) es σ = .ok q) (hv:q.map (·.1)=vs) (h:aE (mkC L n) fn vs = .exc c) (hp:fY f=true:=by decide) (hl:f ≠ "law" := by decide):ev (aH (mkC L (n + 1))) (.call f es) σ = .exc c:=by
  have hC:aH (mkC L (n + 1)) f=some fun vs=>bZ f (mkC L n) fn vs:=by
    unfold aH
    rw [if_neg hl]
    show (L.lookup f).map _=_; rw [hL]; rfl
  rw [iI hC he,hv,j6 hp,h]
theorem l7 {C:Calls}{σ:St}{a:E}{g:List V→Out (V × Mode)}{c k:Int}{d:PyData}{m:Mode} (hC:C "Rule" = some g) (h:ev C a σ = .ok (.rule c d k,m)):ev C (.attr a "count") σ = .ok (sI c)∧ev C (.attr a "full") σ = .ok (mk (.d d))∧ev C (.attr a "size") σ = .ok (sI k):=by
  refine ⟨?_,?_,?_⟩ <;> (simp only [je,hC,aC,h,Out.ok_bind]; rfl)
theorem yT {C:Calls}{σ:St}{a:E}{xs:List Int}{m:Mode}{i:Int} (ha:ev C a σ = .ok (.d (af xs),m)) (h:dA xs=some i):ev C (.bi1 .max a) σ = .ok (sI i):=by
  rw [du ha]
  show (aC ((aN (xs.map PyData.int)).bind dA) fun i=>Out.ok (sI i))=_
  rw [cP,Option.bind_some,h]
  rfl
theorem il {L:List (String × Fn)} (lib:LibR L) (n:Nat) (c k:Int) (u:List (List Int)) (things:List Int) (hu:u≠[]) (hl:things.length≤1000) :
    (Good c things→∃ i,dA (u.map fun r=>(bL things r:Int))=some i∧aE (aH (mkC L (n + 2))) p_rank [.rule c (aj u) k,.d (af things)] = .ok (sI i)) ∧
    (¬ Good c things→aE (aH (mkC L (n + 2))) p_rank [.rule c (aj u) k,.d (af things)] = .exc "NoThing"):=by
  refine ai (lib.nth) fun nt hnt=>?_
  have hNT:mkC L (n + 1) "NoThing" = some fun vs=>bZ "NoThing" (mkC L n) nt vs:=by show (L.lookup "NoThing").map _=_; rw [hnt]; rfl
  have hRu:aH (mkC L (n + 2)) "Rule" = some fun vs=>bZ "Rule" (mkC L (n + 1)) p_Rule vs:=by
    unfold aH
    rw [if_neg (by decide)]
    show (L.lookup "Rule").map _=_; rw [lib.rule]; rfl
  refine ae (gW hNT c things hl) fun s1 s2=>?_
  refine ⟨fun hg=>?_,fun hg=>?_⟩
  · refine aa (g8 (xs:=u.map fun r=>(bL things r:Int)) (by simpa using hu)) fun i hi _=>?_
    refine (ag i hi ?_)
    unfold p_rank
    refine cQ rfl fun σ H=>?_
    have hs:=H.ev (C:=aH (mkC L (n + 2))) (x := "self") rfl
    refine Runs.expr H (jn lib.need (am (l7 hRu hs).1 (am (H.ev (x := "things") rfl) aI)) rfl (s1 hg)) fun σ H _=>?_
    have hs:=H.ev (C:=aH (mkC L (n + 2))) (x := "self") rfl
    refine Runs.ret (yT (gd (g:=af) (l:=u) (fun r=>(bL things r:Int)) (aJ (l7 hRu hs).2.1 (aQ u .sh)) fun r _=>?_) hi) rfl
    have H1:=H.mk "choice" (.d (af r))
    exact cM (c9 (fun x=>decide (x∈things)) (aJ (H1.ev rfl) (bW r .sh)) fun x _=>by
      have H2:=H1.mk "thing" (.d (.int x))
      exact mt (H2.ev (x := "thing") rfl) (H2.ev (x := "things") rfl))
  · refine aa (c7 ["self", "things"] [V.rule c (aj u) k,V.d (af things)] rfl) fun σ hσ H=>?_
    have hs:=H.ev (C:=aH (mkC L (n + 2))) (x := "self") rfl
    have e1:=yH lib.need (am (l7 hRu hs).1 (am (H.ev (x := "things") rfl) aI)) rfl (s2 hg)
    unfold aE
    rw [show bi p_rank.params [V.rule c (aj u) k,V.d (af things)]=some σ from hσ]
    dsimp only
    unfold p_rank
    simp only [cE,bS,dB,eF,e1,Out.exc_bind]
structure LibT (L:List (String × Fn)):Prop extends LibR L where
  rank:L.lookup "rank" = some p_rank
  tog:L.lookup "together" = some p_together
theorem iz {L:List (String × Fn)} (lib:LibT L) {C:Calls} (n:Nat) (hC:C "rank" = mkC L (n + 3) "rank") {σ:St}{a b:E}{m m':Mode}{c k:Int}{u:List (List Int)}{things:List Int} (ha:ev C a σ = .ok (.rule c (aj u) k,m)) (hb:ev C b σ = .ok (.d (af things),m')) :
    ev C (.meth a "rank" (.cons b .nil)) σ=aE (aH (mkC L (n + 2))) p_rank [.rule c (aj u) k,.d (af things)]:=by
  have h1:C "rank" = some fun vs=>bZ "rank" (mkC L (n + 2)) p_rank vs:=by rw [hC]; show (L.lookup "rank").map _=_; rw [lib.rank]; rfl
  simp only [gw,ha,Out.ok_bind,d0,aC,h1,a9,aV,hb,List.map_cons,List.map_nil]
  rfl
theorem gY {L:List (String × Fn)} (lib:LibT L) (n:Nat) (c k:Int) (u:List (List Int)) (things:List Int) (hu:u≠[]) (hl:things.length≤1000) :
    (Good c things→∃ i,dA (u.map fun r=>(bL things r:Int))=some i∧aE (aH (mkC L (n + 3))) p_together [.rule c (aj u) k,.d (af things)] = .ok (sB (decide (i=things.length)))) ∧
    (¬ Good c things→aE (aH (mkC L (n + 3))) p_together [.rule c (aj u) k,.d (af things)] = .exc "NoThing"):=by
  refine ae (il lib.toLibR n c k u things hu hl) fun r1 r2=>?_
  have hC:aH (mkC L (n + 3)) "rank" = mkC L (n + 3) "rank" := by unfold aH; rw [if_neg (by decide)]
  refine ⟨fun hg=>?_,fun hg=>?_⟩
  · refine aa (r1 hg) fun i hi h=>?_
    refine (ag i hi ?_)
    unfold p_together
    refine cQ rfl fun σ H=>?_
    refine Runs.ret (cz ((iz lib n hC (H.ev (x := "self") rfl) (H.ev (x := "things") rfl)).trans h) (cM (H.ev (x := "things") rfl))) rfl
  · refine aa (c7 ["self", "things"] [V.rule c (aj u) k,V.d (af things)] rfl) fun σ hσ H=>?_
    have e1:=(iz lib n hC (H.ev (x := "self") rfl) (H.ev (x := "things") rfl)).trans (r2 hg)
    unfold aE
    rw [show bi p_together.params [V.rule c (aj u) k,V.d (af things)]=some σ from hσ]
    dsimp only
    unfold p_together
    simp only [cE,bS,eF]
    rw [show ev (aH (mkC L (n + 3))) (.cmp .eq (.meth (.name "self") "rank" (.cons (.name "things") .nil)) (.bi1 .len (.name "things"))) σ = .exc "NoThing" from by rw [fW,e1]; rfl]
    rfl
end Mine
namespace Mine
set_option tactic.hygienic false
set_option linter.unusedVariables false
open PySem
noncomputable def l_bit:Fn:=⟨["_law_cell", "_law_k"],
    (.cons (.for1 "_law_j" (.r1 (.name "_law_k"))
    (.cons (.assign "_law_cell" (.bin .fdiv (.name "_law_cell") (.int 2)))
    .nil))
    (.cons (.ret (.cmp .eq (.bin .mod (.name "_law_cell") (.int 2)) (.int 1)))
    .nil))⟩
noncomputable def l_held:Fn:=⟨["_law_script"],
    (.cons (.assign "_law_made" (.call "_law_table" (.cons (.name "_law_script") .nil)))
    (.cons (.ite (.or (.cmp .eq (.sub (.name "_law_made") (.int 1)) (.list .nil)) (.cmp .isnot (.call "_law_fault" (.cons (.sub (.name "_law_made") (.int 0)) (.cons (.sub (.name "_law_made") (.int 1)) .nil))) .none))
    (.cons (.ret (.tup (.cons (.sub (.name "_law_made") (.int 0)) (.cons (.list (.cons (.compif (.name "_law_thing") "_law_thing" (.r1 (.sub (.name "_law_made") (.int 0))) (.call "_law_bit" (.cons (.call "_law_cell_at" (.cons (.name "_law_script") (.cons (.int 2) .nil))) (.cons (.name "_law_thing") .nil)))) .nil)) .nil))))
    .nil)
    .nil)
    (.cons (.retn "_law_made")
    .nil)))⟩
structure LibH (L:List (String × Fn)):Prop extends Lib L where
  bit:L.lookup "_law_bit" = some l_bit
  held:L.lookup "_law_held" = some l_held
structure Hd (c:Nat) (t:List (List Int)):Prop where
  hc:c≤100
  ne:t≠[]
  len:t.length≤63
  rows:∀ r∈t,r.length≤100∧Srt c r
  few:1<t.length→∀ r∈t,r.length≤60
  nf:NoF c t
theorem sZ (C:Calls) (x:Int) (k:Nat) (hk:k≤1000):∃ r,aE C l_bit [.d (.int x),.d (.int k)] = .ok r∧∃ b,r=sB b:=by
  unfold l_bit
  refine cD rfl fun σ H=>?_
  refine Runs.for (g:=PyData.int) (xs:=aR k) (fun pre σ=>∃ y:Int,Has σ [("_law_cell", .d (.int y))]) (bD (H.ev rfl) (by exact qm hk)) (fun σ0 h _=>⟨x,(h _ H).sub ⟨rfl,trivial⟩⟩) ?_ ?_
  · intro pre y post hl σ E5
    refine ai (E5) fun z H=>?_
    try clear E5
    have H1:=H.mk "_law_j" (.d (.int y))
    exact Runs.set H1 (cX (H1.ev rfl) (ak 2) (by decide) (by decide)) fun σ H _=>Runs.nil ⟨_,H.sub ⟨rfl,trivial⟩⟩
  · intro σ E6
    refine ai (E6) fun z H=>?_
    try clear E6
    exact Runs.ret (cz (aO (H.ev rfl) (ak 2) (by decide)) (ak 1)) (ag _ rfl (bl _ rfl))
theorem Ch {C:Calls}{σ:St}{a b:E}{t u:List (List Int)}{m m':Mode} (ha:ev C a σ = .ok (.d (aj t),m)) (hb:ev C b σ = .ok (.d (aj u),m')):ev C (.cmp .eq a b) σ = .ok (sB (decide (t=u))):=bj ha hb (xo t u)
theorem y3 {C:Calls}{σ:St}{a:E}{r:List Int}{m:Mode} (ha:ev C a σ = .ok (.d (af r),m)):∃ m,ev C (.list (.cons a .nil)) σ = .ok (.d (aj [r]),m):=by
  refine ⟨if allDeep [(.d (af r),m)] then .deep else .top,?_⟩
  simp only [bU,a9,aV,ha,Out.ok_bind]
  rfl
theorem qy {L:List (String × Fn)} (lib:LibH L) (n:Nat) (s:List Int) (hs:s.length≤63):∃ r,aE (mkC L (n + 4)) l_held [.d (af s)] = .ok r∧∃ (c:Nat) (t:List (List Int)),r.1 = .d (.tuple [.int c,aj t])∧Hd c t:=by
  unfold l_held
  refine cD rfl fun σ H=>?_
  obtain ⟨E7,e1,c,t,hr,h0,h1,h2,h3⟩:=cV (σ:=σ) (n:=n + 3) lib.table (es:=.cons (.name "_law_script") .nil) (am (H.ev rfl) aI) rfl (ph lib.toLib n s hs)
  obtain ⟨rv,rm⟩:=E7
  cases hr
  obtain ⟨c,rfl⟩:∃ d:Nat,c=d:=⟨c.toNat,by exact z6 h0⟩
  refine Runs.set H e1 fun σ H hσ=>?_
  have made:∀ {σ:St}{l:List (String × V)},Has σ l→l.lookup "_law_made" = some (.d (.tuple [.int c,aj t]))→ev (mkC L (n + 4)) (.sub (.name "_law_made") (.int 0)) σ = .ok (sI c)∧ev (mkC L (n + 4)) (.sub (.name "_law_made") (.int 1)) σ = .ok (.d (aj t),.sh):=fun H a=>⟨pM (m:=.sh) (H.ev a) (ak 0),pk (m:=.sh) (H.ev a) (ak 1)⟩
  refine ae (made H rfl) fun d1 d2=>?_
  have ef:=dP (σ:=σ) lib.lfault (am d1 (am d2 aI)) rfl (nO lib.toLib (n + 2) c t (by exact CM h1) fun r hr=>by have:=(h3 r hr).1; exact zg this)
  have en:ev (mkC L (n + 4)) (.cmp .isnot (.call "_law_fault" (.cons (.sub (.name "_law_made") (.int 0)) (.cons (.sub (.name "_law_made") (.int 1)) .nil))) .none) σ = .ok (sB (!decide (dU c t=none))):=by
    cases hf:dU c t with
    | none=>
      rw [hf] at ef
      exact bj ef im rfl
    | some q=>
      rw [hf] at ef
      exact bj (mx:=.sh) ef im rfl
  refine Runs.ite (fL (Ch d2 kl) fun uu=>en) (fun uu=>?_) fun q=>Runs.nil ?_
  · obtain ⟨p,hp⟩:=iR (l:=aR c) (Q:=fun i b=>ev (mkC L (n + 4)) (.call "_law_bit" (.cons (.call "_law_cell_at" (.cons (.name "_law_script") (.cons (.int 2) .nil))) (.cons (.name "_law_thing") .nil))) (upd σ "_law_thing" (sI i)) = .ok (sB b)) fun i hi=>by
      have H2:Has (upd σ "_law_thing" (sI i)) _:=H.upd "_law_thing" (.d (.int i)) .deep
      obtain ⟨i,rfl⟩:∃ d:Nat,i=d:=⟨i.toNat,by have:=mem_upTo.mp hi; exact zz this⟩
      obtain ⟨_,e1,b,rfl⟩:=cV (n:=n + 3) lib.bit (es:=.cons (.call "_law_cell_at" (.cons (.name "_law_script") (.cons (.int 2) .nil))) (.cons (.name "_law_thing") .nil)) (am (bO lib.toLib (H2.ev rfl) (ak 2) (by decide)) (am (H2.ev rfl) aI)) rfl (sZ _ _ i (by have:=mem_upTo.mp hi; exact AY h1 this))
      exact ⟨b,e1⟩
    refine ai (y3 (c9 (z := "_law_thing") p (bD d1 (by exact AE h1)) hp)) fun m1 e3=>?_
    refine ai (di d1 e3) fun m2 e4=>?_
    have hl:((aR c).filter p).length≤100:=by
      have:=List.length_filter_le p (aR c)
      rw [bg] at this; exact Ba h1 this
    refine Runs.ret e4 ⟨_,rfl,c,_,rfl,by exact uP h1,by simp,by simp,fun r hr=>?_,fun q=>by simp at q,.one c _⟩
    rw [List.mem_singleton.mp hr]
    exact ⟨hl,(fM c).filter _,fun x hx=>mem_upTo.mp (List.mem_filter.mp hx).1⟩
  · refine ai (H "_law_made" _ rfl) fun m e=>?_
    refine ae (Bool.or_eq_false_iff.mp q) fun q1 q2=>?_
    refine Runs.retn e ⟨_,rfl,c,t,rfl,by exact uP h1,of_decide_eq_false q1,h2,fun r hr=>⟨by have:=(h3 r hr).1; exact Ar this,(h3 r hr).2⟩,fun uu r hr=>by have:=(h3 r hr).1; exact zN this,fault_none.mp ?_⟩
    simpa using q2
theorem xf {L:List (String × Fn)} (lib:LibR L) (n:Nat) {c:Nat}{t:List (List Int)} (h:Hd c t):∃ u x,cj (aH (mkC L (n + 3))) p_Rule [.d (.int c),.d (aj t)] = .ok (.rule c (aj u) (x:List Int).length,.deep)∧(∀ r,r∈u↔r∈t)∧u[0]? = some x :=
  rA lib n c t (by have:=h.hc; exact pw this) h.ne h.len h.rows h.few h.nf
end Mine
namespace Mine
set_option tactic.hygienic false
set_option linter.unusedVariables false
open PySem
noncomputable def nH:Fn:=⟨[],.nil⟩
noncomputable def oW:Fn:=⟨[],.nil⟩
noncomputable def qM:Fn:=⟨[],.nil⟩
noncomputable def mK:Fn:=⟨[],.nil⟩
noncomputable def lC:Fn:=⟨["_law_choice", "_law_things"],
    (.cons (.for1 "_law_thing" (.e (.name "_law_things"))
    (.cons (.ite (.cmp .notin (.name "_law_thing") (.name "_law_choice"))
    (.cons (.ret (.bool false))
    .nil)
    .nil)
    .nil))
    (.cons (.ret (.bool true))
    .nil))⟩
noncomputable def m7:Fn:=⟨["_law_script", "_law_count"],
    (.cons (.assign "_law_row" (.list .nil))
    (.cons (.for1 "_law_thing" (.r1 (.name "_law_count"))
    (.cons (.assign "_law_cell" (.call "_law_cell_at" (.cons (.name "_law_script") (.cons (.bin .add (.int 13) (.name "_law_thing")) .nil))))
    (.cons (.ite (.cmp .gt (.bin .mod (.name "_law_cell") (.int 3)) (.int 0))
    (.cons (.insert "_law_row" (.bin .mod (.bin .fdiv (.name "_law_cell") (.int 3)) (.bin .add (.bi1 .len (.name "_law_row")) (.int 1))) (.name "_law_thing"))
    .nil)
    .nil)
    .nil)))
    (.cons (.retn "_law_row")
    .nil)))⟩
noncomputable def d7:Fn:=⟨["_law_rule", "_law_things"],
    (.cons (.assign "_law_refused" (.int 0))
    (.cons (.tryS (.expr (.meth (.name "_law_rule") "together" (.cons (.bi1 .list (.name "_law_things")) .nil))) [("NoThing", [.asg "_law_refused" (.bin .add (.name "_law_refused") (.int 1))])])
    (.cons (.tryS (.expr (.meth (.name "_law_rule") "rank" (.cons (.bi1 .list (.name "_law_things")) .nil))) [("NoThing", [.asg "_law_refused" (.bin .add (.name "_law_refused") (.int 1))])])
    (.cons (.ret (.cmp .eq (.name "_law_refused") (.int 2)))
    .nil))))⟩
noncomputable def eX:Fn:=⟨["_law_rule", "_law_table_here", "_law_things"],
    (.cons (.assign "_law_handed" (.bi1 .list (.name "_law_things")))
    (.cons (.assign "_law_told" (.meth (.name "_law_rule") "together" (.cons (.name "_law_handed") .nil)))
    (.cons (.assign "_law_most" (.meth (.name "_law_rule") "rank" (.cons (.name "_law_handed") .nil)))
    (.cons (.ite (.or (.cmp .ne (.name "_law_handed") (.name "_law_things")) (.or (.not (.isi (.name "_law_told") "bool")) (.not (.call "_law_whole" (.cons (.name "_law_most") .nil)))))
    (.cons (.ret (.bool false))
    .nil)
    .nil)
    (.cons (.assign "_law_due" (.bool false))
    (.cons (.assign "_law_best" (.int 0))
    (.cons (.for1 "_law_choice" (.e (.name "_law_table_here"))
    (.cons (.assign "_law_due" (.or (.name "_law_due") (.call "_law_has" (.cons (.name "_law_choice") (.cons (.name "_law_things") .nil)))))
    (.cons (.assign "_law_best" (.bi2 .max (.name "_law_best") (.bi1 .len (.compif (.name "_law_thing") "_law_thing" (.e (.name "_law_choice")) (.cmp .isin (.name "_law_thing") (.name "_law_things"))))))
    .nil)))
    (.cons (.ret (.and (.cmp .eq (.name "_law_told") (.name "_law_due")) (.cmp .eq (.name "_law_most") (.name "_law_best"))))
    .nil))))))))⟩
noncomputable def qu:Fn:=⟨["_law_script"],
    (.cons (.assign "_law_made" (.call "_law_held" (.cons (.name "_law_script") .nil)))
    (.cons (.assign "_law_count" (.sub (.name "_law_made") (.int 0)))
    (.cons (.assign "_law_table_here" (.sub (.name "_law_made") (.int 1)))
    (.cons (.assign "_law_rule" (.call "Rule" (.cons (.name "_law_count") (.cons (.name "_law_table_here") .nil))))
    (.cons (.assign "_law_things" (.call "_law_some" (.cons (.name "_law_script") (.cons (.name "_law_count") .nil))))
    (.cons (.assign "_law_more" (.call "_law_cell_at" (.cons (.name "_law_script") (.cons (.int 3) .nil))))
    (.cons (.ite (.cmp .eq (.bin .mod (.name "_law_more") (.int 6)) (.int 1))
    (.cons (.assign "_law_odd" (.sub (.list (.cons (.name "_law_count") (.cons (.neg (.int 1)) (.cons (.bin .pow (.int 10) (.int 12)) .nil)))) (.bin .mod (.bin .fdiv (.name "_law_more") (.int 6)) (.int 3))))
    (.cons (.ite (.and (.cmp .ne (.name "_law_things") (.list .nil)) (.cmp .eq (.bin .mod (.bin .fdiv (.name "_law_more") (.int 18)) (.int 2)) (.int 1)))
    (.cons (.assign "_law_odd" (.sub (.name "_law_things") (.bin .mod (.bin .fdiv (.name "_law_more") (.int 36)) (.bi1 .len (.name "_law_things")))))
    .nil)
    .nil)
    (.cons (.assign "_law_at" (.bin .mod (.bin .fdiv (.name "_law_more") (.int 72)) (.bin .add (.bi1 .len (.name "_law_things")) (.int 1))))
    (.cons (.ite (.not (.call "_law_both_refuse" (.cons (.name "_law_rule") (.cons (.bin .add (.bin .add (.shi (.name "_law_things") (.name "_law_at")) (.list (.cons (.name "_law_odd") .nil))) (.slo (.name "_law_things") (.name "_law_at"))) .nil))))
    (.cons (.ret (.bool false))
    .nil)
    .nil)
    .nil))))
    .nil)
    (.cons (.assign "_law_others" (.compif (.name "_law_thing") "_law_thing" (.r1 (.name "_law_count")) (.or (.cmp .notin (.name "_law_thing") (.name "_law_things")) (.cmp .eq (.bin .mod (.name "_law_thing") (.int 3)) (.bin .mod (.name "_law_more") (.int 3))))))
    (.cons (.ite (.or (.not (.call "_law_told_right" (.cons (.name "_law_rule") (.cons (.name "_law_table_here") (.cons (.name "_law_things") .nil))))) (.not (.call "_law_told_right" (.cons (.name "_law_rule") (.cons (.name "_law_table_here") (.cons (.name "_law_others") .nil))))))
    (.cons (.ret (.bool false))
    .nil)
    .nil)
    (.cons (.ret (.and (.call "_law_told_right" (.cons (.name "_law_rule") (.cons (.name "_law_table_here") (.cons (.bi1 .list (.sub (.name "_law_table_here") (.int 0))) .nil)))) (.call "_law_told_right" (.cons (.name "_law_rule") (.cons (.name "_law_table_here") (.cons (.name "_law_things") .nil))))))
    .nil))))))))))⟩
noncomputable def p_L:List (String × Fn):=[("exchanged", p_exchanged),("PickError", nH),("NoChoice", oW),("NoThing", qM),("NoExchange", mK),("known_of", p_known_of),("goes", p_goes),("fault", p_fault),("need_row", p_need_row),("Rule", p_Rule),("together", p_together),("rank", p_rank),("_law_cell_at", l_cell_at),("_law_whole", l_whole),("_law_bit", l_bit),("_law_subsets", l_subsets),("_law_apart", l_apart),("_law_parts", l_parts),("_law_few", l_few),("_law_pairs_by", l_pairs_by),("_law_table", l_table),("_law_can", l_can),("_law_fault", l_fault),("_law_held", l_held),("_law_has", lC),("_law_some", m7),("_law_both_refuse", d7),("_law_told_right", eX),("law", qu)]
theorem libH:LibH p_L:=⟨⟨rfl,rfl,rfl,rfl,rfl,rfl,rfl,rfl,rfl,rfl,rfl,rfl,rfl,rfl⟩,rfl,rfl⟩
theorem libT:LibT p_L:=⟨⟨libH.toLib,rfl,rfl,⟨_,rfl⟩⟩,rfl,rfl⟩
theorem wy (a b:Bool):bM .eq (.d (.bool a)) (.d (.bool b)) = .ok (decide (a=b)):=by cases a <;> cases b <;> rfl
theorem Bl {C:Calls}{σ:St}{a b:E}{p q:Bool} (ha:ev C a σ = .ok (sB p)) (hb:ev C b σ = .ok (sB q)):ev C (.cmp .eq a b) σ = .ok (sB (decide (p=q))):=bj ha hb (wy p q)
theorem Runs.ins {C:Calls}{σ:St}{l:List (String × V)}{z:String}{xs:List Int}{m:Mode}{a e:E}{i x:Int}{bb:Ss}{Post:St→Flw→Prop} (H:Has σ l) (hz:σ z=some (.d (af xs),m)) (hm:m≠.sh) (hi:ev C a σ = .ok (sI i)) (h:ev C e σ = .ok (sI x)) (h0:0≤i) (h1:i≤xs.length) (hl:xs.length<1000000)
    (k:∀ σ',Has σ' ((z,.d (af (xs.take i.toNat ++ x :: xs.drop i.toNat))) :: l)→σ' z=some (.d (af (xs.take i.toNat ++ x :: xs.drop i.toNat)),m)→Runs C bb σ' Post):Runs C (.cons (.insert z a e) bb) σ Post:=by
  refine Runs.cons (o:=(upd σ z (.d (af (xs.take i.toNat ++ x :: xs.drop i.toNat)),m),.next)) ?_ (k _ (H.upd z _ m) (if_pos rfl))
  simp only [gD,hi,h,Out.calm_ok,Out.ok_bind,hz,rF,yk,Ej]
  rw [if_neg (by rw [List.length_map]; exact fun q=>q.elim hm fun q=>q.elim (by exact CV h0) (by exact AJ h1)),kI (by rw [List.length_append,List.length_cons,List.length_take,List.length_drop,List.length_map]; exact A2 hl),pP]
theorem Runs.tryX {C:Calls}{g:List V→Out (V × Mode)}{σ:St}{l:List (String × V)}{e h:E}{x c:String}{r:V × Mode}{bb:Ss}{Post:St→Flw→Prop} (H:Has σ l) (hC:C c=some g) (he:ev C e σ = .exc c) (hm:c∈aM) (hk:hOk h=true) (hv:ev noC h σ = .ok r) (k:∀ σ',Has σ' ((x,r.1) :: l)→Runs C bb σ' Post) :
    Runs C (.cons (.tryS (.expr e) [(c,[.asg x h])]) bb) σ Post:=by
  refine Runs.cons (o:=(upd (consume σ (fv h) r.2) x r,.next)) ?_ (k _ ((H.consume _ _).upd x r.1 r.2))
  simp only [dB,jf,he,Out.exc_bind,orH,pF,ir,hC,aC,if_pos hm,true_or,exH,hk,hv,Out.calm_ok,Out.ok_bind,if_true]
theorem sg {L:List (String × Fn)} (lib:LibT L) {C:Calls} (n:Nat) (hC:C "together" = mkC L (n + 4) "together") {σ:St}{a b:E}{m m':Mode}{c k:Int}{u:List (List Int)}{things:List Int} (ha:ev C a σ = .ok (.rule c (aj u) k,m)) (hb:ev C b σ = .ok (.d (af things),m')) :
    ev C (.meth a "together" (.cons b .nil)) σ=aE (aH (mkC L (n + 3))) p_together [.rule c (aj u) k,.d (af things)]:=by
  have h1:C "together" = some fun vs=>bZ "together" (mkC L (n + 3)) p_together vs:=by rw [hC]; show (L.lookup "together").map _=_; rw [lib.tog]; rfl
  simp only [gw,ha,Out.ok_bind,d0,aC,h1,a9,aV,hb,List.map_cons,List.map_nil]
  rfl
theorem xy {L:List (String × Fn)} (lib:LibR L) {n:Nat}{σ:St}{es:Es}{q:List (V × Mode)}{vs:List V}{r:V × Mode} (he:evs (mkC L (n + 1)) es σ = .ok q) (hv:q.map (·.1)=vs) (h:cj (aH (mkC L n)) p_Rule vs = .ok r):ev (mkC L (n + 1)) (.call "Rule" es) σ = .ok r:=by
  have hC:mkC L (n + 1) "Rule" = some fun vs=>bZ "Rule" (mkC L n) p_Rule vs:=by show (L.lookup "Rule").map _=_; rw [lib.rule]; rfl
  rw [iI hC he,hv]
  exact h
theorem sw (C:Calls) (choice things:List Int):aE C lC [.d (af choice),.d (af things)] = .ok (sB (decide (∀ x∈things,x∈choice))):=by
  unfold lC
  refine cQ rfl fun σ H=>?_
  refine Runs.seek (g:=PyData.int) (xs:=things) (fun σ=>Has σ [("_law_choice", .d (af choice))]) (fun x=>if x∈choice then none else some ()) (fun uu=>sB false) (aJ (H.ev rfl) (bW things .sh)) (fun σ0 h _=>(h _ H).sub ⟨rfl,trivial⟩) (fun x hx σ H=>?_) (fun q σ' _=>?_) fun uu q σ'=>?_
  · have H1:=H.mk "_law_thing" (.d (.int x))
    refine Runs.ite (iA (H1.ev rfl) (H1.ev rfl)) (fun q=>Runs.ret (dy false) (Cont.ret (Sk.ret (q:=()) (if_neg (by simpa using q))))) fun q=>Runs.nil (Runs.nil (Sk.next (if_pos (by simpa using q)) (H1.sub ⟨rfl,trivial⟩)))
  · have h:∀ x∈things,x∈choice:=fun x hx=>by
      have:=List.findSome?_eq_none_iff.mp q x hx
      by_cases e:x∈choice
      · exact e
      · rw [if_neg e] at this; cases this
    rw [decide_eq_true h]
    exact Runs.ret (dy true) rfl
  · refine aa (List.exists_of_findSome?_eq_some q) fun x hx h=>?_
    have:¬ ∀ x∈things,x∈choice:=fun a=>by rw [if_pos (a x hx)] at h; cases h
    rw [decide_eq_false this]
theorem Good.ins {c x:Int}{xs:List Int}{k:Nat} (h:Good c xs) (h0:0≤x) (h1:x<c) (hx:x∉xs):Good c (xs.take k ++ x :: xs.drop k):=by
  have p:(xs.take k ++ x :: xs.drop k).Perm (x :: xs):=by
    have:=List.perm_middle (a:=x) (l₁:=xs.take k) (l₂:=xs.drop k)
    rwa [List.take_append_drop] at this
  refine ⟨fun y hy=>?_,p.nodup_iff.mpr (List.nodup_cons.mpr ⟨hx,h.2⟩)⟩
  rcases List.mem_cons.mp (p.mem_iff.mp hy) with rfl | q
  · exact ⟨h0,h1⟩
  · exact h.1 y q
theorem uq {c x:Int}{xs:List Int}{k:Nat} (h:x<0∨c≤x∨x∈xs):¬ Good c (xs.take k ++ [x] ++ xs.drop k):=fun g=>by
  have p:(xs.take k ++ [x] ++ xs.drop k).Perm (x :: xs):=by
    have:=List.perm_middle (a:=x) (l₁:=xs.take k) (l₂:=xs.drop k)
    rw [List.take_append_drop] at this
    rwa [List.append_assoc]
  have hx:=g.1 x (p.mem_iff.mpr (.head _))
  rcases h with h | h | h
  · exact vh hx h
  · exact vO hx h
  · exact (List.nodup_cons.mp (p.nodup_iff.mp g.2)).1 h
theorem Good.len {c:Nat}{xs:List Int} (h:Good c xs):xs.length≤c:=by
  have:=gb (b:=aR c) h.2 fun x hx=>mem_upTo.mpr (h.1 x hx)
  rwa [bg] at this
theorem so {L:List (String × Fn)} (lib:Lib L) (n:Nat) (s:List Int) (c:Nat) (hc:c≤1000):∃ r,aE (mkC L (n + 1)) m7 [.d (af s),.d (.int c)] = .ok r∧∃ xs,r.1 = .d (af xs)∧Good c xs:=by
  unfold m7
  refine cD rfl fun σ H=>?_
  refine Runs.set H pX fun σ H hσ=>?_
  refine Runs.for (g:=PyData.int) (xs:=aR c) (fun pre σ=>∃ xs,Has σ [("_law_script", .d (af s)),("_law_row", .d (af xs))]∧σ "_law_row" = some (.d (af xs),.deep)∧Good pre.length xs) (bD (H.ev rfl) (by exact qm hc)) (fun σ0 h hh=>(a7 ([]) ((h _ H).sub ⟨rfl,rfl,trivial⟩) ((hh _ (by simp [mh,eL])).trans hσ) (fun uu q=>nomatch q) .nil)) ?_ ?_
  · intro pre y post hl σ E5
    refine ao (E5) fun xs H hσ g=>?_
    try clear E5
    refine ae (eV hl) fun hy hp=>?_
    have hg:=g.len
    have H1:=H.mk "_law_thing" (.d (.int y))
    have hσ1:upd σ "_law_thing" (mk (.d (.int y))) "_law_row" = some (.d (af xs),.deep):=(if_neg (by decide)).trans hσ
    have el:(pre ++ [y]).length=pre.length + 1:=by simp
    refine Runs.cons (o:=(upd (upd σ "_law_thing" (mk (.d (.int y)))) "_law_cell" (sI (aX s (13 + y))),.next)) (rh (bO lib (H1.ev rfl) (bw (ak 13) (H1.ev rfl)) (by exact Aj hy)) rfl) ?_
    have H2:=H1.upd "_law_cell" (.d (.int (aX s (13 + y)))) .deep
    have hσ2:upd (upd σ "_law_thing" (mk (.d (.int y)))) "_law_cell" (sI (aX s (13 + y))) "_law_row" = some (.d (af xs),.deep):=(if_neg (by decide)).trans hσ1
    refine Runs.ite (pR (aO (H2.ev rfl) (ak 3) (by decide)) (ak 0)) (fun uu=>?_) fun uu=>Runs.nil (Runs.nil (aA xs (H2.sub ⟨rfl,rfl,trivial⟩) hσ2 (by rw [el]; exact ⟨fun x hx=>by have:=g.1 x hx; exact vB this,g.2⟩)))
    refine Runs.ins H2 hσ2 (by decide) (aO (cX (H2.ev rfl) (ak 3) (by decide) (by decide)) (bw (cM (H2.ev rfl)) (ak 1)) (by exact mz)) (H2.ev rfl) (Int.emod_nonneg _ (by exact vx)) ?_ (by exact BZ hc hp hg) fun σ' H3 hσ3=>Runs.nil (Runs.nil (aA _ (H3.sub ⟨rfl,rfl,trivial⟩) hσ3 ?_))
    · have:=Int.emod_lt_of_pos (aX s (13 + y) / 3) (show (0:Int)<xs.length + 1 by exact mz)
      exact BM this
    · rw [el]
      exact Good.ins ⟨fun x hx=>by have:=g.1 x hx; exact vB this,g.2⟩ (by exact zF hy) (by exact zv hy) fun q=>by have:=g.1 y q; exact C3 hy this
  · intro σ E6
    refine ao (E6) fun xs H hσ g=>?_
    try clear E6
    rw [bg] at g
    exact Runs.retn hσ (ag _ rfl (ag xs rfl g))
theorem nL {L:List (String × Fn)} (lib:LibT L) (n:Nat) (c k:Int) (u:List (List Int)) (things:List Int) (hu:u≠[]) (hl:things.length≤1000) (hg:¬ Good c things):aE (mkC L (n + 4)) d7 [.rule c (aj u) k,.d (af things)] = .ok (sB true):=by
  refine ai (lib.nth) fun nt hnt=>?_
  have hNT:mkC L (n + 4) "NoThing" = some fun vs=>bZ "NoThing" (mkC L (n + 3)) nt vs:=by show (L.lookup "NoThing").map _=_; rw [hnt]; rfl
  unfold d7
  refine cQ rfl fun σ H=>?_
  refine Runs.set H (ak 0) fun σ H _=>?_
  refine Runs.tryX H hNT ((sg lib n rfl (H.ev (x := "_law_rule") rfl) (fZ (H.ev (x := "_law_things") rfl))).trans ((gY lib n c k u things hu hl).2 hg)) (by decide) rfl (bw (H.ev rfl) (ak 1)) fun σ H=>?_
  refine Runs.tryX H hNT ((iz lib (n + 1) rfl (H.ev (x := "_law_rule") rfl) (fZ (H.ev (x := "_law_things") rfl))).trans ((il lib.toLibR (n + 1) c k u things hu hl).2 hg)) (by decide) rfl (bw (H.ev rfl) (ak 1)) fun σ H=>?_
  exact Runs.ret (cz (H.ev rfl) (ak 2)) rfl
theorem wI {xs:List Int}{i:Int} (h:dA xs=some i):∀ x∈xs,x≤i:=by
  cases xs with
  | nil=>cases h
  | cons a xs=>
    have key:∀ (l:List Int) (a:Int),a≤l.foldl (fun a b=>if a<b then b else a) a∧∀ x∈l,x≤l.foldl (fun a b=>if a<b then b else a) a:=by
      intro l
      induction l with
      | nil=>exact fun a=>⟨Int.le_refl _,fun uu q=>nomatch q⟩
      | cons y l ih=>
        intro a
        rw [List.foldl_cons]
        by_cases q:a<y
        · rw [if_pos q]
          refine ae (ih y) fun h1 h2=>?_
          exact ⟨by exact By q h1,fun x hx=>(List.mem_cons.mp hx).elim (fun e=>e▸h1) (h2 x)⟩
        · rw [if_neg q]
          refine ae (ih a) fun h1 h2=>?_
          exact ⟨h1,fun x hx=>(List.mem_cons.mp hx).elim (fun e=>by rw [e]; exact As q h1) (h2 x)⟩
    refine ae (key xs a) fun h1 h2=>?_
    cases h
    exact fun x hx=>(List.mem_cons.mp hx).elim (fun e=>e▸h1) (h2 x)
theorem ye {C:Calls}{σ:St}{a b:E}{x y:Int} (ha:ev C a σ = .ok (sI x)) (hb:ev C b σ = .ok (sI y)):ev C (.bi2 .max a b) σ = .ok (sI (if x<y then y else x)):=by
  simp only [jY,ha,hb,Out.ok_bind]
  rfl
theorem rq {L:List (String × Fn)} (lib:LibT L) (hhas:L.lookup "_law_has" = some lC) (n:Nat) {c:Nat}{k:Int}{t u:List (List Int)} (h:Hd c t) (hm:∀ r,r∈u↔r∈t) {things:List Int} (hg:Good c things) :
    aE (mkC L (n + 4)) eX [.rule c (aj u) k,.d (aj t),.d (af things)] = .ok (sB true):=by
  have hu:u≠[]:=fun q=>by
    refine ai (List.exists_mem_of_ne_nil t h.ne) fun a ha=>?_
    have:=(hm a).mpr ha
    rw [q] at this; cases this
  have hl:=hg.len
  have hc:=h.hc
  refine aa ((gY lib n c k u things hu (by exact uS hl hc)).1 hg) fun i hi e1=>?_
  refine aa ((il lib.toLibR (n + 1) c k u things hu (by exact uS hl hc)).1 hg) fun i' hi' e2=>?_
  obtain rfl:i=i':=Option.some.inj (hi.symm.trans hi')
  refine aa (g8 (xs:=u.map fun r=>(bL things r:Int)) (by simpa using hu)) fun j hj hji=>?_
  obtain rfl:i=j:=Option.some.inj (hi.symm.trans hj)
  refine aa (List.mem_map.mp hji) fun r0 hr0 hr1=>?_
  have hle:=wI hi
  have nd:∀ r∈t,r.Nodup:=fun r hr=>(h.rows r hr).2.good.2
  unfold eX
  refine cQ rfl fun σ H=>?_
  refine Runs.set H (fZ (H.ev (x := "_law_things") rfl)) fun σ H _=>?_
  refine Runs.set H ((sg lib n rfl (H.ev (x := "_law_rule") rfl) (H.ev (x := "_law_handed") rfl)).trans e1) fun σ H _=>?_
  refine Runs.set H ((iz lib (n + 1) rfl (H.ev (x := "_law_rule") rfl) (H.ev (x := "_law_handed") rfl)).trans e2) fun σ H _=>?_
  refine Runs.no ?_ ?_
  · refine (fL (p:=false) (q:=false) ((uT (H.ev (x := "_law_handed") rfl) (H.ev (x := "_law_things") rfl)).trans (by simp)) fun uu=>fL (p:=false) (q:=false) (dZ (t:=true) (pB (m:=.deep) (H.ev (x := "_law_told") rfl) rfl)) fun uu=>dZ (t:=true) ?_)
    exact dP lib.whole (am (H.ev (x := "_law_most") rfl) aI) rfl (pA _ i)
  refine Runs.set H (dy false) fun σ H _=>?_
  refine Runs.set H (ak 0) fun σ H _=>?_
  refine Runs.for (g:=af) (xs:=t) (fun pre σ=>∃ best:Int,Has σ [("_law_due", .d (.bool (decide (∃ r∈pre,∀ x∈things,x∈r)))),("_law_best", .d (.int best)),("_law_things", .d (af things)),("_law_told", .d (.bool (decide (i=things.length)))),("_law_most", .d (.int i))]∧0≤best∧(∀ r∈pre,(bL things r:Int)≤best)∧(best=0∨∃ r∈pre,best=bL things r)) (aJ (H.ev rfl) (aQ t .sh)) (fun σ0 h _=>(a7 0 ((h _ H).sub (ei rfl rfl rfl rfl rfl trivial)) (Int.le_refl _) (fun uu q=>nomatch q) (.inl rfl))) ?_ ?_
  · intro pre y post hl' σ E7
    refine bG (E7) fun best H b0 b1 b2=>?_
    try clear E7
    have H1:=H.mk "_law_choice" (.d (af y))
    refine Runs.set H1 (fL (H1.ev rfl) fun uu=>dP hhas (am (H1.ev rfl) (am (H1.ev rfl) aI)) rfl (sw _ y things)) fun σ H2 _=>?_
    refine Runs.set H2 (ye (H2.ev rfl) (cM (c9 (fun x=>decide (x∈things)) (aJ (H2.ev rfl) (bW y .sh)) fun x _=>by
      have H3:=H2.upd "_law_thing" (.d (.int x)) .deep
      exact mt (H3.ev (x := "_law_thing") rfl) (H3.ev (x := "_law_things") rfl)))) fun σ H3 _=>Runs.nil (a7 (if best<(bL things y:Int) then (bL things y:Int) else best) ?_ ?_ ?_ ?_)
    · have e:decide (∃ r∈pre ++ [y],∀ x∈things,x∈r)=(decide (∃ r∈pre,∀ x∈things,x∈r) || decide (∀ x∈things,x∈y)):=by
        rw [Bool.eq_iff_iff]
        simp only [Bool.or_eq_true,decide_eq_true_eq,List.mem_append,List.mem_singleton]
        constructor
        · rintro ⟨r,q | rfl,hr⟩
          · exact .inl (ag r q hr)
          · exact .inr hr
        · rintro (⟨r,q,hr⟩ | q)
          · exact (ag r (.inl q) hr)
          · exact (ag y (.inr rfl) q)
      rw [e]
      exact H3.sub (ei rfl rfl rfl rfl rfl trivial)
    · split <;> lia
    · intro r hr
      rcases List.mem_append.mp hr with q | q
      · have:=b1 r q
        split <;> lia
      · rw [List.mem_singleton.mp q]
        show (bL things y:Int)≤if best<(bL things y:Int) then (bL things y:Int) else best
        split <;> lia
    · show (if best<(bL things y:Int) then (bL things y:Int) else best)=0∨∃ r∈pre ++ [y],(if best<(bL things y:Int) then (bL things y:Int) else best)=bL things r
      by_cases q:best<(bL things y:Int)
      · rw [if_pos q]
        exact .inr (ag y (by simp) rfl)
      · rw [if_neg q]
        rcases b2 with b2 | ⟨r,hr,b2⟩
        · exact .inl b2
        · exact .inr (ag r (List.mem_append_left _ hr) b2)
  · intro σ E9
    refine bG (E9) fun best H b0 b1 b2=>?_
    try clear E9
    have hbest:i=best:=by
      have q1:i≤best:=by rw [← hr1]; exact b1 r0 ((hm r0).mp hr0)
      have q2:best≤i:=by
        rcases b2 with b2 | ⟨r,hr,b2⟩
        · rw [b2,← hr1]; exact qb
        · rw [b2]; exact hle _ (List.mem_map.mpr (ag r ((hm r).mpr hr) rfl))
      exact pH q1 q2
    have hdue:decide (i=things.length)=decide (∃ r∈t,∀ x∈things,x∈r):=by
      refine decide_eq_decide.mpr ⟨fun q=>(ag r0 ((hm r0).mp hr0) ((lJ (nd r0 ((hm r0).mp hr0)) hg.2).mp ?_)),fun ⟨r,hr,hx⟩=>?_⟩
      · have:(bL things r0:Int)=things.length:=hr1.trans q
        exact BV hr1 q
      · have q1:=(lJ (nd r hr) hg.2).mpr hx
        have q2:=hle _ (List.mem_map.mpr (ag r ((hm r).mpr hr) rfl))
        have q3:=ou (things:=things) (nd r0 ((hm r0).mp hr0))
        exact zl hr1 q1 q2 q3
    refine Runs.ret (fk (p:=true) (q:=true) ((Bl (H.ev rfl) (H.ev rfl)).trans ?_) fun uu=>(cz (H.ev rfl) (H.ev rfl)).trans ?_) rfl
    · rw [decide_eq_true hdue]
    · rw [decide_eq_true hbest]
theorem wS {C:Calls}{σ:St}{a b d:E}{x y z:Int} (ha:ev C a σ = .ok (sI x)) (hb:ev C b σ = .ok (sI y)) (hd:ev C d σ = .ok (sI z)):ev C (.list (.cons a (.cons b (.cons d .nil)))) σ = .ok (.d (af [x,y,z]),.deep):=by simp only [bU,a9,aV,ha,hb,hd,Out.ok_bind]; rfl
theorem tB (s:List Int) (hs:s.length≤63):∃ m,aE (mkC p_L 8) qu [.d (af s)] = .ok (.d (.bool true),m):=by
  refine ⟨.deep,?_⟩
  unfold qu
  refine cQ rfl fun σ H=>?_
  obtain ⟨Fa,e1,c,t,hr,hd⟩:=cV (σ:=σ) (n:=7) libH.held (es:=.cons (.name "_law_script") .nil) (am (H.ev rfl) aI) rfl (qy libH 3 s hs)
  obtain ⟨rv,rm⟩:=Fa
  cases hr
  have hc:=hd.hc
  refine Runs.set H e1 fun σ H _=>?_
  refine Runs.set H (pM (m:=.sh) (H.ev (x := "_law_made") rfl) (ak 0)) fun σ H _=>?_
  refine Runs.set H (pk (m:=.sh) (H.ev (x := "_law_made") rfl) (ak 1)) fun σ H _=>?_
  refine ay (xf libT.toLibR 4 hd) fun u x e2 hm hx=>?_
  refine Runs.set H (xy libT.toLibR (am (H.ev (x := "_law_count") rfl) (am (H.ev (x := "_law_table_here") rfl) aI)) rfl e2) fun σ H _=>?_
  obtain ⟨Fb,e3,things,hr,hg⟩:=cV (σ:=σ) (L:=p_L) (n:=7) (f := "_law_some") rfl (es:=.cons (.name "_law_script") (.cons (.name "_law_count") .nil)) (am (H.ev rfl) (am (H.ev (x := "_law_count") rfl) aI)) rfl (so libH.toLib 6 s c (by exact pw hc))
  obtain ⟨rv,rm⟩:=Fb
  cases hr
  have hgl:=hg.len
  refine Runs.set H e3 fun σ H _=>?_
  refine Runs.set H (bO libH.toLib (H.ev rfl) (ak 3) (by decide)) fun σ H _=>?_
  generalize aX s 3=more at H
  let l0:List (String × V):=[("_law_count", .d (.int c)),("_law_table_here", .d (aj t)),("_law_rule", .rule c (aj u) x.length),("_law_things", .d (af things)),("_law_more", .d (.int more))]
  have hu:u≠[]:=fun q=>by rw [q] at hx; cases hx
  refine Runs.iteTo (fun σ=>Has σ l0) (cz (aO (H.ev rfl) (ak 6) (by decide)) (ak 1)) (fun uu=>?_) (fun uu=>Runs.nil ⟨rfl,H.sub (ei rfl rfl rfl rfl rfl trivial)⟩) ?_
  · have a1:=Int.emod_nonneg (more / 6) (show (3:Int)≠0 by decide)
    have a2:=Int.emod_lt_of_pos (more / 6) (show (0:Int)<3 by decide)
    obtain ⟨o,ho,hb⟩:∃ o:Int,[(c:Int),-1,10 ^ 12][(more / 6 % 3).toNat]? = some o∧(o<0∨c≤o):=by
      have:more / 6 % 3=0∨more / 6 % 3=1∨more / 6 % 3=2:=by exact ze
      rcases this with q | q | q <;> rw [q]
      · exact (ag c rfl (.inr (Int.le_refl _)))
      · exact (ag (-1) rfl (.inl (by decide)))
      · exact (ag (10 ^ 12) rfl (.inr (by exact z9 hc)))
    refine Runs.set H (go (wS (H.ev (x := "_law_count") rfl) (y:=-1) (by simp only [fV,kC,Out.ok_bind]; rfl) (z:=10 ^ 12) ((dw (ak 10) (ak 12)).trans rfl)) (aO (cX (H.ev rfl) (ak 6) (by decide) (by decide)) (ak 3) (by decide)) a1 ho) fun σ H _=>?_
    refine Runs.iteTo (fun σ=>∃ o:Int,Has σ (("_law_odd", .d (.int o)) :: l0)∧(o<0∨c≤o∨o∈things)) (fk (uT (H.ev (x := "_law_things") rfl) pX) fun uu=>cz (aO (cX (H.ev rfl) (ak 18) (by decide) (by decide)) (ak 2) (by decide)) (ak 1)) (fun q=>?_) (fun uu=>Runs.nil (aG rfl (ag o (H.sub (vP rfl rfl rfl rfl rfl rfl trivial)) (by exact B6 hb)))) ?_
    · have hne:things≠[]:=by simpa using (Bool.and_eq_true_iff.mp q).1
      have hpos:0<things.length:=List.length_pos_iff.mpr hne
      have b1:=Int.emod_nonneg (more / 36) (show (things.length:Int)≠0 by exact la2 hpos)
      have b2:=Int.emod_lt_of_pos (more / 36) (show (0:Int)<things.length by exact la3 hpos)
      have hi:(more / 36 % things.length).toNat<things.length:=by exact Cg hpos b2
      refine Runs.set H (go (H.ev (x := "_law_things") rfl) (aO (cX (H.ev rfl) (ak 36) (by decide) (by decide)) (cM (H.ev (x := "_law_things") rfl)) (by exact la3 hpos)) b1 (List.getElem?_eq_getElem hi)) fun σ H _=>Runs.nil (aG rfl (ag _ (H.sub (vP rfl rfl rfl rfl rfl rfl trivial)) (.inr (.inr (List.getElem_mem hi)))))
    · intro σ Fc
      refine aa (Fc) fun o H hbad=>?_
      try clear Fc
      have b1:=Int.emod_nonneg (more / 72) (show (things.length:Int) + 1≠0 by exact vx)
      have b2:=Int.emod_lt_of_pos (more / 72) (show (0:Int)<things.length + 1 by exact mz)
      refine Runs.set H (aO (cX (H.ev rfl) (ak 72) (by decide) (by decide)) (bw (cM (H.ev (x := "_law_things") rfl)) (ak 1)) (by exact mz)) fun σ H _=>?_
      obtain ⟨a,ha⟩:∃ a:Nat,more / 72 % (things.length + 1)=a:=⟨(more / 72 % (things.length + 1)).toNat,by exact Ai b1⟩
      rw [ha] at H
      have s1:=(yn (C:=mkC p_L 8) (H.ev (x := "_law_things") rfl) (H.ev (x := "_law_at") rfl)).trans (qZ things a (by exact vE hc hgl b2 ha))
      have s2:=(yi (C:=mkC p_L 8) (H.ev (x := "_law_things") rfl) (H.ev (x := "_law_at") rfl)).trans (rX things a (by exact vE hc hgl b2 ha))
      have s3:=dY (dY s1 (e9 (H.ev (x := "_law_odd") rfl)) (by rw [List.length_take,List.length_singleton]; exact zB hc hgl)) s2 (by rw [List.length_append,List.length_take,List.length_singleton,List.length_drop]; exact AW hc hgl)
      refine Runs.no (dZ (t:=true) (dP (L:=p_L) (f := "_law_both_refuse") rfl (am (H.ev (x := "_law_rule") rfl) (am s3 aI)) rfl (nL libT 3 c x.length u _ hu (by rw [List.length_append,List.length_append,List.length_take,List.length_singleton,List.length_drop]; exact zP hc hgl) (uq hbad)))) ?_
      exact Runs.nil ⟨rfl,H.sub (ei rfl rfl rfl rfl rfl trivial)⟩
  · rintro σ H
    refine Runs.set H (c9 (fun i=>!decide (i∈things) || decide (i % 3=more % 3)) (bD (H.ev (x := "_law_count") rfl) (by exact AV hc)) fun i _=>by
      have H2:=H.upd "_law_thing" (.d (.int i)) .deep
      exact fL (iA (H2.ev rfl) (H2.ev rfl)) fun uu=>cz (aO (H2.ev rfl) (ak 3) (by decide)) (aO (H2.ev rfl) (ak 3) (by decide))) fun σ H _=>?_
    have hgo:Good c ((aR c).filter fun i=>!decide (i∈things) || decide (i % 3=more % 3)):=Srt.good ⟨(fM c).filter _,fun x hx=>mem_upTo.mp (List.mem_filter.mp hx).1⟩
    have tell:∀ {z:E}{xs:List Int}{m:Mode},Good c xs→ev (mkC p_L 8) z σ = .ok (.d (af xs),m)→ev (mkC p_L 8) (.call "_law_told_right" (.cons (.name "_law_rule") (.cons (.name "_law_table_here") (.cons z .nil)))) σ = .ok (sB true):=fun g e=>
      dP (L:=p_L) (f := "_law_told_right") rfl (am (H.ev (x := "_law_rule") rfl) (am (H.ev (x := "_law_table_here") rfl) (am e aI))) rfl (rq libT rfl 3 hd hm g)
    refine Runs.no (fL (p:=false) (q:=false) (dZ (t:=true) (tell hg (H.ev rfl))) fun uu=>dZ (t:=true) (tell hgo (H.ev rfl))) ?_
    obtain ⟨r0,hr0⟩:∃ r,t[0]? = some r:=by
      cases t with
      | nil=>exact absurd rfl hd.ne
      | cons r t=>exact ⟨r,rfl⟩
    exact Runs.ret (fk (p:=true) (q:=true) (tell (hd.rows r0 (List.mem_of_getElem? hr0)).2.good (fZ (r6 (H.ev (x := "_law_table_here") rfl) (ak 0) (by decide) hr0))) fun uu=>tell hg (H.ev rfl)) rfl
end Mine
open PySem PySem.W PyProof.Rows
set_option maxRecDepth 100000
set_option maxHeartbeats 8000000
theorem PySem.Challenge.cw_uf050037_05_holds : PySem.Challenge.rw_uf050037_05.Holds := by
  w_on; o_law; o_head (Mine.DD (Mine.bt Mine.p_L)); (case hw=>w_witness2)
  intro w s₀ s₁ mg mb G Y fa o pm cd doc dV kV ho hd hcd hD hmg hg args vals as hpre hlay hrd hwl hlo
  refine Ground.open G ?_
  intro T B D TE TW
  clear hd hcd hD
  wrow_args hpre hlay hrd hwl hlo
  rename_i ns _ _ _ _ _ _ _ a vs _ hL ra w1 r0 hI hr hc1 hc2
  have e:=Mine.qf (by simpa only [ofPy] using w1) hL
  obtain ⟨m,hsp⟩:=Mine.tB ns (by omega)
  refine Mine.uL (n:=8) (ns:=ns) T TE Y (L:=Mine.p_L) (by kernel_rfl) (by kernel_rfl) (by kernel_rfl) rfl (.inr (by decide)) rfl hmg (by decide) hsp e hI (by omega) fun h' tk kk=>?_
  refine ⟨.inl ⟨_,.bool true,[],rfl,?_,?_,?_,?_⟩,kk,rfl,.of_eq hg⟩
  · intro cls; first | rfl | exact raisesW_false allW_false_nil
  · exact .bool true
  · wrow_post
  · exact fun _=>⟨.nil,fun _ h=>nomatch h⟩
