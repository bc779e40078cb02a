import PyProof.Rows.All
import Wide.All
import Wide.FinOn
import Open.Line
import PyProof.P3Statements
import PyProof.Lay0
import PyProof.P3In
import PyProof.NeData
import PyProof.CompFree
import PyProof.DictRoadsH
import PyProof.DictWalks
import PyProof.Rows.SortShell
import PyProof.Rows.RuleB_xor
import PyProof.Rows.RuleB_small
import PyProof.Rows.RuleB_floordiv
import PyProof.Rows.RuleB_mod
import PyProof.Rows.RuleB_mul
import PyProof.Rows.IntRules
import PyProof.Rows.RuleC_int
import PyProof.Rows.RuleU_int
import PyProof.ListOps
import PyProof.Cells
import PyProof.Calls
import PyProof.SliceMore
import PyProof.TupleOfSeq
import PyProof.ListCopy
import PyProof.CodeObjX
import PyProof.Rows.PlainObj
import PyProof.ExcClass2
import PyProof.ExcArgsOwn
import PyProof.IsInstanceH
import PyProof.ExcAttrAll.ValueError
import PyProof.DictStraight
import PyProof.Rows.StrTemp
import PyProof.TupleOps
import PyProof.ListIndexNeg
import PyProof.Rules3
import PyProof.SliceList
import PyProof.Rows.TupSub
import PyProof.ForRange
import PyProof.Rows.DictMade
import PyProof.WalkInts
import PyProof.SeqI3
import PyProof.SumWalkG
import PyProof.WalksMore
import PyProof.IsiPairs
import PyProof.IsiHeapPairs
import PyProof.ListRange
import PyProof.Rows.SortWalk
import PyProof.IsiNone
import PyProof.Rows.SortRuns
import PyProof.Rows.CallKwBuiltin
import PyProof.DefMake
import PyProof.EvalArms
import PyProof.RangeFor
import PyProof.ListNew
import PyProof.Rows.DictUnroll
import PyProof.EqAt
import PyProof.FactsAll.tuple_2
import PyProof.Rows.PlainNoArg
import PyProof.LetGo
import PyProof.ForAppend
import PyProof.CallRoads
import PyProof.MeetsSeq
import PyProof.AutoSeq1
import PyProof.ForAny
import PyProof.Raises
import PyProof.RaisesMany
import PyProof.StationsW
import PyProof.ExcBaseAll.ValueError
import PyProof.Rows.TupTab
import PyProof.NsDelKeeps
import PyProof.RulesTry
import PyProof.ObjNew
import PyProof.InstStore
import PyProof.AssignAttr
import PySem.Challenge.RW_uf050037_04
set_option Elab.async false
set_option autoImplicit false
set_option bootstrap.genMatcherCode false
set_option genSizeOf false

set_option tactic.hygienic false
set_option linter.unusedVariables false
set_option linter.unusedSectionVars false
namespace Mine
theorem nLe {x n:Nat}(h:(x:Int)≤@OfNat.ofNat Int n instOfNat):x≤n:=Int.ofNat_le.mp h
theorem nLm {x n:Nat}(h:x≤n):(x:Int)≤@OfNat.ofNat Int n instOfNat:=Int.ofNat_le.mpr h
theorem lte {a b c:Nat}(h:a<c) (e:b=c):a<b:=e▸h
theorem lee {a b c:Nat}(h:a≤c) (e:b=c):a≤b:=e▸h
theorem elt {a b c:Nat}(e:a=c) (h:c<b):a<b:=e▸h
theorem ele {a b c:Nat}(e:a=c) (h:c≤b):a≤b:=e▸h
theorem jle {a b c:Int}(e:a=c) (h:c≤b):a≤b:=e▸h
theorem nn {x:Int}{n:Nat}(e:x = ↑n):0≤x:=e▸Int.natCast_nonneg n
theorem m9 {x:Int}{n:Nat}(h:7+x/9%3 = ↑n):n≤9:=by lia
theorem m18 {x:Int}{n:Nat}(h:7+x%12 = ↑n):n≤18:=by lia
theorem m12 {x:Int}{n:Nat}(h:7+x%6 = ↑n):n≤12:=by lia
theorem m4 {x:Int}{n:Nat}(h:1+x%4 = ↑n):n≤4:=by lia
theorem m5 {x:Int}{n:Nat}(h:x%6 = ↑n):n≤5:=by lia
theorem p9 {x y:Int}(h:1+x/3%9=y):0<y:=by lia
theorem q9 {x y:Int}(h:1+x/3%9=y):y≤9:=by lia
theorem r9 {x y:Int}(h:x/27%9=y):0≤y:=by lia
theorem dbl {a b:Nat}(h:a≤b):a+a≤b*2:=by lia
theorem tlt {x:Int}{n:Nat}(h0:0<n) (h:x < ↑n):x.toNat<n:=by lia
theorem tln {x:Int}{n:Nat}(h0:0≤x) (h:x < ↑n):x.toNat<n:=by lia
theorem nxl {a b c:Nat}(h:a+b<c):a<c:=Nat.lt_of_le_of_lt (Nat.le_add_right a b) h
theorem nxe {a b c:Nat}(h:a+b≤c):a≤c:=Nat.le_trans (Nat.le_add_right a b) h
theorem adl {a b c d:Nat}(h:b<c) (g:a+c≤d):a+b<d:=Nat.lt_of_lt_of_le (Nat.add_lt_add_left h a) g
theorem adE {a b c d:Nat}(h:b≤c) (g:a+c≤d):a+b≤d:=Nat.le_trans (Nat.add_le_add_left h a) g
theorem w5 {a b c:Nat}(h:a<c):a-b<c:=Nat.lt_of_le_of_lt (Nat.sub_le a b) h
theorem Fg {a b c:Nat}(h:a≤c):a-b≤c:=Nat.le_trans (Nat.sub_le a b) h
theorem mne {a b c:Nat}(h:b≤c):min a b≤c:=Nat.le_trans (Nat.min_le_right a b) h
theorem mnl {a b c:Nat}(h:a≤c):min a b≤c:=Nat.le_trans (Nat.min_le_left a b) h
end Mine
namespace Mine
theorem vlo {a b c:Nat}:a≤a+b-(a+b-(a+c)):=Nat.le_sub_of_add_le (Nat.add_le_add_left (Nat.le_trans (Nat.le_of_eq (Nat.add_sub_add_left a b c)) (Nat.sub_le b c)) a)
theorem pl {a b:Nat}(p:0<a) (h:a<b+1):a-1<b:=Nat.lt_of_lt_of_le (Nat.sub_one_lt (Nat.ne_of_gt p)) (Nat.le_of_lt_succ h)
theorem sl {a b:Nat}(h:1≤b):a+b-1<a+b:=Nat.sub_lt (Nat.lt_of_lt_of_le h (Nat.le_add_left _ _)) Nat.one_pos
theorem ts {a b:Nat}{x:Int}(e:x = ↑b):((a:Int)-(x+1)).toNat=a-(b+1):=by subst e; exact Int.toNat_sub a (b+1)
theorem r9b {x y:Int}(h:x/27%9=y):y≤8:=h▸Int.le_of_lt_add_one (Int.emod_lt_of_pos _ (by decide))
end Mine
namespace Mine
theorem rm1 {u k c:Nat}{b:Prop} [Decidable b] (h:u+100*k+(if b then 200 else 300)<c):u+1<c:=Nat.lt_of_le_of_lt (Nat.add_le_add (Nat.le_add_right u _) (by split<;>decide)) h
theorem na1 {a:Int}(h:a.natAbs<2^63):-2^64<a:=by lia
theorem na2 {a:Int}(h:a.natAbs<2^63):a<2^64:=by lia
end Mine
namespace Mine
variable {a b c d e f:Nat}
theorem la1 {a:Int}{b:Nat}: (0:Int)≤a->a<(↑b:Int)->a.toNat<b:=fun p q=>(Mine.tln p q)
theorem la2 {a:Nat}: (0:Nat)<a->(↑a:Int)≠(0:Int):=fun p=>(Int.ne_of_gt (Int.natCast_pos.mpr p))
theorem la3 {a:Nat}: (0:Nat)<a->(0:Int)<(↑a:Int):=fun p=>(Int.natCast_pos.mpr p)
theorem la4 {a:Int}{b:Nat}: (0:Nat)<b->a%(↑b:Int)<(↑b:Int)->(a%(↑b:Int)).toNat<b:=fun p q=>(Mine.tlt p q)
theorem la5 {a b c:Int}: c≤b->(0:Int)≤a/\a<c->a<b:=fun p q=>(Int.lt_of_lt_of_le q.2 p)
theorem la6 {a b c:Int}: c≤b->(0:Int)≤a/\a<c->(0:Int)≤a/\a<b+(1:Int):=fun p q=>And.intro q.1 (Int.lt_of_lt_of_le q.2 (Int.le_trans p (Int.le_of_lt (Int.lt_succ _))))
theorem la7 {a b:Int}: (0:Int)≤b->b≤a->(0:Int)≤a/\a<a+(1:Int):=fun p q=>(And.intro (Int.le_trans p q) (Int.lt_succ _))
theorem la8 {a b c:Int}: c≤b->(0:Int)≤a/\a<c->(0:Int)≤a/\a<b:=fun p q=>(And.intro q.1 (Int.lt_of_lt_of_le q.2 p))
theorem la9:b=a+(c+1)->a<b:=fun p=>(Mine.lte (Nat.lt_add_of_pos_right (Nat.succ_pos _)) p)
theorem Gc:a≤7->a≤1000000:=fun p=>(Nat.le_trans p (by decide))
theorem A2:b≤7->a<b->a≤6:=fun p q=>(Nat.le_of_lt_succ (Nat.lt_of_lt_of_le q p))
theorem Gv:b≤7->c<b->a≤c->a+1≤1000000:=fun p q r=>(Nat.le_trans (Nat.le_trans (Nat.succ_le_of_lt (Nat.lt_of_le_of_lt r q)) p) (by decide))
theorem FS:a≤b->b≤2^6->a+a≤1000000:=fun p q=>(Nat.le_trans (Mine.dbl (Nat.le_trans p q)) (by decide))
theorem zZ:a≤b->a+a≤b*2:=fun p=>(Mine.dbl p)
theorem Av {a:Nat}: (↑a:Int)≤(↑(a+(1:Nat)):Int):=(Int.ofNat_le.mpr (Nat.le_add_right _ _))
theorem z5 {a:Nat}{b:Int}: b=(↑a:Int)->(↑a:Int)≤b:=fun p=>(Int.le_of_eq (Eq.symm p))
theorem An {a:Int}{b:Nat}: a=(↑b:Int)->a+(1:Int)≤(↑(b+(1:Nat)):Int):=fun p=>Int.le_of_eq (by rw [p]; rfl)
theorem vY:a<a+(b+1):=(Nat.lt_add_of_pos_right (Nat.succ_pos _))
theorem FZ:a=b->b≤2^6->a+a≤1000000:=fun p q=>(Nat.le_trans (Mine.dbl (Mine.ele p q)) (by decide))
theorem GH:a=b->a+a=b*2:=fun p=>by rw [p,Nat.mul_two]
theorem FL:a≤5->a≤1000000:=fun p=>(Nat.le_trans p (by decide))
theorem F2:b≤5->a<b->a≤5:=fun p q=>(Nat.le_trans (Nat.le_of_lt q) p)
theorem Az:b≤5->c<b->a≤c->a+1≤1000000:=fun p q r=>(Nat.le_trans (Nat.le_trans (Nat.succ_le_of_lt (Nat.lt_of_le_of_lt r q)) p) (by decide))
theorem FF:a≤b->b≤2^5->a+a≤1000000:=fun p q=>(Nat.le_trans (Mine.dbl (Nat.le_trans p q)) (by decide))
theorem Ff {a:Nat}{b:Int}: b=(↑a:Int)->(2:Int)*(↑a:Int)≤(2:Int)*b:=fun p=>Int.le_of_eq (by rw [p])
theorem FQ {a:Int}{b:Nat}: a=(↑b:Int)->(2:Int)*a+(1:Int)≤(2:Int)*(↑(b+(1:Nat)):Int):=by intro p; lia
theorem Gj {a:Nat}{b:Int}: b=(↑a:Int)->(2:Int)*(↑a:Int)≤(2:Int)*b+(1:Int):=by intro p; lia
theorem Fx {a:Int}{b:Nat}: a=(↑b:Int)->(2:Int)*a+(1:Int)+(1:Int)≤(2:Int)*(↑(b+(1:Nat)):Int):=by intro p; lia
theorem GI {a:Int}: a%(6:Int)=(↑(a%(6:Int)).toNat:Int):=(Eq.symm (Int.toNat_of_nonneg (Int.emod_nonneg _ (by decide))))
theorem Fc {a:Nat}{b:Int}: b%(6:Int)=(↑a:Int)->a≤(1000000:Nat):=fun p=>(Nat.le_trans (Mine.m5 p) (by decide))
theorem AD {a:Int}{b:Nat}: (0:Int)≤a/\a<(↑b:Int)->(0:Int)≤(6:Int)+a:=fun p=>(Int.add_nonneg (by decide) p.1)
theorem AG {a:Nat}: a≤(6:Nat)->(↑a:Int)≤(100:Int):=fun p=>(Int.le_trans (Int.ofNat_le.mpr p) (by decide))
theorem zW:b≤6->a≤b->a≤12:=fun p q=>(Nat.le_trans q (Nat.le_trans p (by decide)))
theorem FC {a:Int}: (7:Int)+a/(9:Int)%(3:Int)=(↑((7:Int)+a/(9:Int)%(3:Int)).toNat:Int):=(Int.toNat_of_nonneg (Int.add_nonneg (by decide) (Int.emod_nonneg _ (by decide)))).symm
theorem Fz {a:Nat}{b:Int}: (7:Int)+b/(9:Int)%(3:Int)=(↑a:Int)->a≤(1000000:Nat):=fun p=>(Nat.le_trans (Mine.m9 p) (by decide))
theorem FA {a:Int}{b:Nat}: a=(↑b:Int)->(0:Int)≤a+(1:Int):=fun p=>(Int.add_nonneg (Mine.nn p) (by decide))
theorem Fe {a b:Int}{c d:Nat}: (7:Int)+b/(9:Int)%(3:Int)=(↑c:Int)->a=(↑d:Int)->d<c->a+(1:Int)≤(1000:Int):=fun p q r=>by subst q; exact Int.ofNat_le.mpr (Nat.le_trans r (Nat.le_trans (m9 p) (by decide)))
theorem GP {a:Nat}{b:Int}: (7:Int)+b/(9:Int)%(3:Int)=(↑a:Int)->(↑a:Int)≤(1000:Int):=fun p=>(Int.le_trans (Int.ofNat_le.mpr (Mine.m9 p)) (by decide))
theorem Gr {a:Nat}{b:Int}{c:Nat}: (7:Int)+b/(9:Int)%(3:Int)=(↑c:Int)->a<c->a≤(9:Nat):=fun p q=>(Nat.le_trans (Nat.le_of_lt q) (Mine.m9 p))
theorem FY {a b:Nat}{c d:Int}{e f:Nat}: (7:Int)+d/(9:Int)%(3:Int)=(↑b:Int)->a≤e->c=(↑f:Int)->e≤(36:Nat)->a+((↑b:Int)-(c+(1:Int))).toNat≤(1000000:Nat):=fun p q r s=>Nat.le_trans (Nat.add_le_add (Nat.le_trans q s) (Nat.le_trans (Nat.le_of_eq (ts r)) (Nat.le_trans (Nat.sub_le _ _) (m9 p)))) (by decide)
theorem Gk {a b:Nat}{c:Int}{d e:Nat}{f:Int}: (7:Int)+f/(9:Int)%(3:Int)=(↑b:Int)->a≤d->c=(↑e:Int)->a+((↑b:Int)-(c+(1:Int))).toNat≤d+((8:Nat)-e):=fun p q r=>Nat.add_le_add q (Nat.le_trans (Nat.le_of_eq (ts r)) (Nat.le_trans (Nat.sub_le_sub_right (m9 p) _) (Nat.le_of_eq (Nat.succ_sub_succ 8 _))))
theorem FO {a:Int}{b:Nat}: a<a+(1:Int)+(↑b:Int):=by lia
theorem Fm {a:Int}{b c:Nat}: c<b->a=(↑c:Int)->(0:Int)≤a/\a<(↑b:Int):=fun p q=>by subst q; exact ⟨Int.natCast_nonneg _,Int.ofNat_lt.mpr p⟩
theorem FG {a:Int}{b c d:Nat}: a=(↑d:Int)->b<((↑c:Int)-(a+(1:Int))).toNat->(0:Int)≤a+(1:Int)+(↑b:Int)/\a+(1:Int)+(↑b:Int)<(↑c:Int):=fun p q=>And.intro (Int.add_nonneg (Int.add_nonneg (nn p) (by decide)) (Int.natCast_nonneg _)) (by subst p; exact Int.ofNat_lt.mpr (Nat.add_lt_of_lt_sub' (Nat.lt_of_lt_of_eq q (ts rfl))))
theorem GA {a:Nat}{b:Int}: (7:Int)+b/(9:Int)%(3:Int)=(↑a:Int)->a≤(9:Nat):=fun p=>(Mine.m9 p)
theorem GD {a:Nat}{b:Int}: (7:Int)+b/(9:Int)%(3:Int)=(↑a:Int)->(↑a:Int)≤(100:Int):=fun p=>(Int.le_trans (Int.ofNat_le.mpr (Mine.m9 p)) (by decide))
theorem wC {a:Nat}: (0:Int)<(↑a:Int)+(1:Int):=(Int.lt_add_one_of_le (Int.natCast_nonneg _))
theorem FK {a:Int}{b:Nat}: b=(7:Nat)->(a/(9:Int)%(7:Int)).toNat<b:=fun p=>p▸(Int.toNat_lt (Int.emod_nonneg _ (by decide))).mpr (Int.emod_lt_of_pos _ (by decide))
theorem FN {a b:Int}: (0:Int)≤a/\a≤b->a=(↑a.toNat:Int):=fun p=>(Eq.symm (Int.toNat_of_nonneg p.1))
theorem Gn {a b:Int}: (0:Int)≤a/\a≤b->(↑a.toNat:Int)≤b:=fun p=>(Mine.jle (Int.toNat_of_nonneg p.1) p.2)
theorem Ga {a:Int}: (1:Int)+a%(4:Int)=(↑((1:Int)+a%(4:Int)).toNat:Int):=(Int.toNat_of_nonneg (Int.add_nonneg (by decide) (Int.emod_nonneg _ (by decide)))).symm
theorem Fu {a:Nat}: a≤(63:Nat)->¬(63:Int)<(↑a:Int):=fun p=>(Int.not_lt.mpr (Mine.nLm p))
theorem Gf {a:Nat}{b:Int}: (1:Int)+b%(4:Int)=(↑a:Int)->a≤(5:Nat):=fun p=>(Nat.le_trans (Mine.m4 p) (by decide))
theorem FM {a:Nat}{b:Int}: (1:Int)+b%(4:Int)=(↑a:Int)->(2:Int)*(↑a:Int)≤(100:Int):=fun p=>Int.ofNat_le.mpr (Nat.le_trans (Nat.mul_le_mul_left 2 (m4 p)) (by decide))
theorem Fh {a:Nat}{b:Int}{c:Nat}: (1:Int)+b%(4:Int)=(↑c:Int)->a≤c->a≤(12:Nat):=fun p q=>(Nat.le_trans q (Nat.le_trans (Mine.m4 p) (by decide)))
theorem Fq {a:Nat}: (↑a:Int)≤(6:Int)->a≤(6:Nat):=fun p=>(Mine.nLe p)
theorem z2 {a:Nat}: (↑a:Int)≤(7:Int)->a≤(1000000:Nat):=fun p=>(Nat.le_trans (Mine.nLe p) (by decide))
theorem FX {a b:Nat}: (↑b:Int)≤(7:Int)->a<b->a≤(6:Nat):=fun p q=>(Nat.le_of_lt_succ (Nat.lt_of_lt_of_le q (Mine.nLe p)))
theorem FU {a b c:Nat}: (↑b:Int)≤(7:Int)->c<b->a≤c->a+(1:Nat)≤(1000000:Nat):=fun p q r=>Nat.le_trans (Nat.succ_le_succ r) (Nat.le_trans q (Nat.le_trans (nLe p) (by decide)))
theorem FD:a≤c->c≤2^6->b≤a->a+b≤1000000:=fun p q r=>Nat.le_trans (Nat.add_le_add (Nat.le_trans p q) (Nat.le_trans r (Nat.le_trans p q))) (by decide)
theorem GG:a≤c->b≤a->a+b≤c*2:=fun p q=>(Mine.adE q (Mine.dbl p))
theorem zU {a:Nat}: (↑a:Int)≤(7:Int)->a≤(7:Nat):=fun p=>(Mine.nLe p)
theorem Gp {a:Int}{b c:Nat}: b=c->(0:Int)≤a/\a<(↑c:Int)->(0:Int)≤a/\a<(↑b:Int):=fun p q=>p▸q
theorem Fs {a b:Nat}: (↑b:Int)≤(7:Int)->a≤b->a≤(7:Nat):=fun p q=>(Nat.le_trans q (Mine.nLe p))
theorem Fl {a:Nat}: (↑a:Int)≤(7:Int)->(↑a:Int)≤(100:Int):=fun p=>(Int.le_trans p (by decide))
theorem F8 {a b:Nat}: (↑b:Int)≤(7:Int)->a≤b->a≤(12:Nat):=fun p q=>(Nat.le_trans q (Nat.le_trans (Mine.nLe p) (by decide)))
theorem Gz {a b c d:Int}: b*c<b*d->a+b*c<a+b*d:=fun p=>(Int.add_lt_add_left p _)
theorem GC {a b c d:Int}: (0:Int)≤a->(0:Int)≤b*c->b*c<b*d->(0:Int)≤a+b*c/\a+b*c<a+b*d:=fun p q r=>(And.intro (Int.add_nonneg p q) (Int.add_lt_add_left r _))
theorem GK {a b:Nat}: a<b->(↑a:Int)<(↑b:Int):=fun p=>(Int.ofNat_lt.mpr p)
theorem FH {a:Int}: (7:Int)+a%(12:Int)=(↑((7:Int)+a%(12:Int)).toNat:Int):=(Int.toNat_of_nonneg (Int.add_nonneg (by decide) (Int.emod_nonneg _ (by decide)))).symm
theorem Fk {a:Nat}{b:Int}: (7:Int)+b%(12:Int)=(↑a:Int)->a≤(1000000:Nat):=fun p=>(Nat.le_trans (Mine.m18 p) (by decide))
theorem F4 {a:Int}: (0:Int)<(1:Int)+a/(12:Int)%(4:Int):=by lia
theorem GM {a:Nat}{b:Int}: (7:Int)+b%(12:Int)=(↑a:Int)->(↑a:Int)≤(100:Int):=fun p=>(Int.le_trans (Int.ofNat_le.mpr (Mine.m18 p)) (by decide))
theorem Ad {a:Int}{b:Nat}: (0:Int)≤a/\a<(↑b:Int)->(0:Int)≤a/\a<(↑b:Int):=by intro p; omega
theorem Fy {a:Int}: (7:Int)+a%(6:Int)=(↑((7:Int)+a%(6:Int)).toNat:Int):=(Int.toNat_of_nonneg (Int.add_nonneg (by decide) (Int.emod_nonneg _ (by decide)))).symm
theorem Ax {a:Nat}{b:Int}: (7:Int)+b%(6:Int)=(↑a:Int)->a≤(1000000:Nat):=fun p=>(Nat.le_trans (Mine.m12 p) (by decide))
theorem GB {a:Nat}{b:Int}: (7:Int)+b%(6:Int)=(↑a:Int)->(↑a:Int)≤(100:Int):=fun p=>(Int.le_trans (Int.ofNat_le.mpr (Mine.m12 p)) (by decide))
theorem F9 {a:Nat}{b:Int}{c:Nat}: (7:Int)+b%(6:Int)=(↑c:Int)->a≤c->a≤(12:Nat):=fun p q=>(Nat.le_trans q (Mine.m12 p))
theorem Gw {a:Int}: ¬(9:Int)<a->a≤(9:Int):=fun p=>(Int.not_lt.mp p)
theorem GF {a:Nat}: ¬(8:Int)<(↑a:Int)->a≤(8:Nat):=fun p=>(Mine.nLe (Int.not_lt.mp p))
theorem F1:b≤8->a<b->a<1000000:=fun p q=>(Nat.lt_of_lt_of_le q (Nat.le_trans p (by decide)))
theorem Fd {a b:Int}: (1:Int)+b/(3:Int)%(9:Int)=a->(0:Int)≤a:=fun p=>(Int.le_of_lt (Mine.p9 p))
theorem FE {a b:Int}: (1:Int)+b/(3:Int)%(9:Int)=a->a≤(9:Int):=fun p=>(Mine.q9 p)
theorem GN {a b c d:Int}: d/(27:Int)%(9:Int)=a->(0:Int)≤b*c->(0:Int)≤a+b*c:=fun p q=>(Int.add_nonneg (Mine.r9 p) q)
theorem Gy {a b c d:Int}: d/(27:Int)%(9:Int)=a->b*c≤(9:Int)*(9:Int)->a+b*c≤(100:Int):=fun p q=>Int.le_trans (Int.add_le_add (r9b p) q) (by decide)
theorem Gu:a≤12->a≤12:=by intro p; omega
theorem Fo {a b:Int}: b/(27:Int)%(9:Int)=a->(0:Int)≤a:=fun p=>(Mine.r9 p)
theorem Gs {a b:Int}: (1:Int)+b/(3:Int)%(9:Int)=a->(0:Int)<a:=fun p=>(Mine.p9 p)
theorem Gg:b<63->a≤b->a+1≤1000000:=fun p q=>(Nat.le_trans (Nat.succ_le_of_lt (Nat.lt_of_le_of_lt q p)) (by decide))
theorem FV:b<63->a≤b->a+1<64:=fun p q=>(Nat.add_lt_add_right (Nat.lt_of_le_of_lt q p) _)
theorem pC:a≤1000->a≤1000000:=fun p=>(Nat.le_trans p (by decide))
theorem zP:b≤1000->a≤b->a≤1000000:=fun p q=>(Nat.le_trans q (Nat.le_trans p (by decide)))
theorem xD:a≤b->a≤b+1:=fun p=>(Nat.le_succ_of_le p)
theorem nJ:a≤b->a+1≤b+1:=fun p=>(Nat.succ_le_succ p)
theorem Dr:b≤1000->a<b->a≤1000:=fun p q=>(Nat.le_trans (Nat.le_of_lt q) p)
theorem EB {a b:Int}: (0:Int)≤a/\a<b->a<(0:Int)->False:=fun p q=>(absurd q (Int.not_lt.mpr p.1))
theorem EH {a b:Int}: (0:Int)≤a/\a<b->b≤a->False:=fun p q=>(absurd p.2 (Int.not_lt.mpr q))
theorem Bb {a:Nat}: (↑a:Int)+(1:Int)≠(0:Int):=(Int.ne_of_gt (Int.lt_add_one_of_le (Int.natCast_nonneg _)))
theorem nK {a:Nat}: (0:Int)≤(↑a:Int):=(Int.natCast_nonneg _)
theorem xM {a b:Int}: a≤b->b≤a->a=b:=fun p q=>(Int.le_antisymm p q)
theorem C2 {a:Nat}: (↑a:Int)≤(100:Int)->a≤(1000:Nat):=fun p=>(Nat.le_trans (Mine.nLe p) (by decide))
theorem B9 {a:Nat}: (↑a:Int)=(0:Int)->a=(0:Nat):=fun p=>(Nat.eq_zero_of_le_zero (Int.ofNat_le.mp (Mine.jle p (by decide))))
theorem Bs:a≤63->a≤1000:=fun p=>(Nat.le_trans p (by decide))
theorem BU:b≤63->a≤b->a≤1000000:=fun p q=>(Nat.le_trans q (Nat.le_trans p (by decide)))
theorem Bq:b≤63->a≤b->a<64:=fun p q=>(Nat.lt_of_le_of_lt q (Nat.lt_of_le_of_lt p (by decide)))
theorem DY:a+(b+1)≤1000->a≤1000:=fun p=>(Mine.nxe p)
theorem B0 {a b:Int}{c:Prop}: ¬(a<(0:Int)\/b≤a\/c)->(0:Int)≤a/\a<b:=fun p=>And.intro (Int.not_lt.mp fun g=>p (.inl g)) (Int.not_le.mp fun g=>p (.inr (.inl g)))
theorem Bp:a+(b+1)≤1000->a+1+b≤1000:=fun p=>by rw [Nat.add_right_comm]; exact p
theorem Df:b=a->a≤b:=fun p=>(Nat.le_of_eq (Eq.symm p))
theorem Di {a:Nat}: a≤(1000000:Nat)->((↑a:Int)-(0:Int)).toNat≤(1000000:Nat):=fun p=>Int.toNat_le.mpr (Int.le_trans (Int.sub_le_self _ (Int.le_refl 0)) (Int.ofNat_le.mpr p))
theorem D7:-(2:Int)^(60:Nat)≤(0:Int):=by decide
theorem CW:(0:Int)<(2:Int)^(60:Nat):=by decide
theorem E8 {a:Nat}: -(2:Int)^(60:Nat)≤(↑a:Int):=by lia
theorem BR {a:Nat}: a≤(1000000:Nat)->(↑a:Int)<(2:Int)^(60:Nat):=fun p=>(Int.lt_of_le_of_lt (Int.ofNat_le.mpr p) (by decide))
theorem EM {a b:Nat}: a<b->(0:Int)≤(↑a:Int)/\(↑a:Int)<(↑b:Int):=fun p=>(And.intro (Int.natCast_nonneg _) (Int.ofNat_lt.mpr p))
theorem Ep {a:Int}: (0:Int)≤a->(↑a.toNat:Int)=a:=fun p=>(Int.toNat_of_nonneg p)
theorem xp {a:Int}{b:Nat}: a.toNat<b->a<(↑b:Int):=fun p=>Int.lt_of_le_of_lt (Int.self_le_toNat _) (Int.ofNat_lt.mpr p)
theorem Bg {a:Int}: (0:Int)<a->¬a=(0:Int):=fun p=>(Int.ne_of_gt p)
theorem xB {a:Int}: (0:Int)<a->(0:Int)≤a:=fun p=>(Int.le_of_lt p)
theorem x8 {a b c:Int}: a≤c->c≤b->a≤b:=fun p q=>(Int.le_trans p q)
theorem xW {a b:Int}: a≤b\/b≤a:=Int.le_total _ _
theorem xa {a:Nat}: a≤(1000000:Nat)->(↑a:Int)<(2:Int)^(62:Nat):=fun p=>(Int.lt_of_le_of_lt (Int.ofNat_le.mpr p) (by decide))
theorem CC {a b:Int}: (0:Int)≤b->a≤(1000:Int)->(a-b).toNat≤(1000000:Nat):=fun p q=>Int.toNat_le.mpr (Int.le_trans (Int.sub_le_self _ p) (Int.le_trans q (by decide)))
theorem yc {a:Int}: (0:Int)≤a->-(2:Int)^(60:Nat)≤a:=by intro p; lia
theorem x9 {a:Int}: a≤(1000:Int)->a<(2:Int)^(60:Nat):=fun p=>(Int.lt_of_le_of_lt p (by decide))
theorem CV {a:Int}{b:Nat}: (0:Int)≤a->a<(↑b:Int)->a<(0:Int)\/(↑b:Int)≤a->False:=fun p q r=>r.elim (fun g=>Int.not_lt.mpr p g) (fun g=>Int.not_le.mpr q g)
theorem ET {a:Nat}: (0:Int)<(↑(a+(1:Nat)):Int):=(Int.natCast_pos.mpr (Nat.succ_pos _))
theorem Cm {a:Nat}: (1:Int)<(↑(a+(1:Nat)+(1:Nat)):Int):=Int.ofNat_lt.mpr (Nat.succ_lt_succ (Nat.succ_pos _))
theorem yf:a≤b+c->¬a=b+c->a≤b+c-1:=fun p q=>(Nat.le_sub_one_of_lt (Nat.lt_of_le_of_ne p q))
theorem rJ:1≤b->a+b-1<a+b:=fun p=>sl p
theorem xX:a<b+(c+1)->¬a=b+c->a<b+c:=fun p q=>Nat.lt_of_le_of_ne (Nat.le_of_lt_succ p) q
theorem BG:a≤c/\c<b->a≤a+b-1-c:=fun p=>(Nat.le_sub_of_add_le (Nat.le_sub_one_of_lt (Nat.add_lt_add_left p.2 _)))
theorem EA:a≤c/\c<b->a+b-1-c<b:=fun p=>Nat.lt_of_le_of_lt (Nat.sub_le_sub_left p.1 _) (by rw [Nat.sub_right_comm,Nat.add_sub_cancel_left]; exact Nat.sub_lt (Nat.lt_of_le_of_lt (Nat.zero_le _) p.2) Nat.one_pos)
theorem DK:d≤a->c≤f->b<d\/f≤b->¬(a≤b/\b<c):=fun p q r=>fun e=>r.elim (fun g=>Nat.not_lt_of_le (Nat.le_trans p e.1) g) (fun g=>Nat.not_lt_of_le (Nat.le_trans q g) e.2)
theorem C6:a+d≤c->b≤d->a+b≤c:=fun p q=>(Mine.adE q p)
theorem BV:c<a+b->a≤a+(a+b)-1-c:=fun p=>(Nat.le_sub_of_add_le (Nat.le_sub_one_of_lt (Nat.add_lt_add_left p _)))
theorem EG:d≤c->a+(a+b)-1-c≤a+(a+b)-1-d:=fun p=>(Nat.sub_le_sub_left p _)
theorem EW:1≤b->a≤c->a+(a+b)-1-c<a+b:=fun p q=>Nat.lt_of_le_of_lt (Nat.sub_le_sub_left q _) (by rw [Nat.sub_right_comm,Nat.add_sub_cancel_left]; exact sl p)
theorem Em:max a b≤b->max a b=b:=fun p=>(Nat.le_antisymm p (Nat.le_max_right _ _))
theorem x7:c+1-(0+1)≤b->b<c+1->a+b=a+(c+1)-1:=fun p q=>congrArg (_ + ·) (Nat.le_antisymm (Nat.le_of_lt_succ q) p)
theorem nG:a+d≤e->b<d->c=e->a+b<c:=fun p q r=>(Mine.lte (Mine.adl q p) r)
theorem xn:a+d≤e->b<d->c=e->a+b-1<c:=fun p q r=>(Mine.lte (Mine.w5 (Mine.adl q p)) r)
theorem x5:a+d≤e->b<d->c=e->a+b≤c:=fun p q r=>(Nat.le_of_lt (Mine.lte (Mine.adl q p) r))
theorem xT:c+1≤b->a≤a+b-(c+1):=fun p=>(Nat.le_sub_of_add_le (Nat.add_le_add_left p _))
theorem xr:d+a-(b+1)≤c->a-(b+1)≤c-d:=fun p=>Nat.sub_le_of_le_add (Nat.le_of_add_le_add_left (Nat.le_trans (Nat.le_add_of_sub_le p) (Nat.le_trans (Nat.add_le_add_right (Nat.sub_le_iff_le_add'.mp (Nat.le_refl _)) _) (Nat.le_of_eq (Nat.add_assoc _ _ _)))))
theorem xv:d+1≤c->a<b+c->a-b<c:=fun p q=>(Nat.lt_or_ge a b).elim (fun g=>Nat.lt_of_le_of_lt (Nat.le_of_eq (Nat.sub_eq_zero_of_le (Nat.le_of_lt g))) (Nat.lt_of_lt_of_le (Nat.succ_pos _) p)) (fun g=>Nat.sub_lt_left_of_lt_add g q)
theorem xL:c+1≤d->a+d-(c+1)≤b->a+(b-a)=b:=fun p q=>Nat.add_sub_of_le (Nat.le_trans (Nat.le_sub_of_add_le (Nat.add_le_add_left p _)) q)
theorem A8:¬b<a->¬a<b->a=b:=fun p q=>(Nat.le_antisymm (Nat.le_of_not_lt p) (Nat.le_of_not_lt q))
theorem E5:a+(b+1)-1=a+b:=by rfl
theorem Dm:a+1-(b+1+1)≤c->a-(b+1)≤c:=fun p=>Nat.succ_sub_succ _ _▸p
theorem Dh:a<b+1->¬a=b->a<b:=fun p q=>(Nat.lt_of_le_of_ne (Nat.le_of_lt_succ p) q)
theorem Cr:max (a+1) b≤b->max (a+1) b=b:=fun p=>(Nat.le_antisymm p (Nat.le_max_right _ _))
theorem xU:a+d≤e->b≤d->c=e->a+b≤c:=fun p q r=>(Mine.lee (Mine.adE q p) r)
theorem rh:a+b≤d->c=d->a+b≤c:=fun p q=>(Mine.lee p q)
theorem DD:b+1≤a->1≤a:=fun p=>(Nat.le_trans (Nat.le_add_left _ _) p)
theorem xG:c≤a->a≤b->b<c+1->a=b:=fun p q r=>(Nat.le_antisymm q (Nat.le_trans (Nat.le_of_lt_succ r) p))
theorem Dl:max 1 a≤a->max 1 a=a:=fun p=>(Nat.le_antisymm p (Nat.le_max_right _ _))
theorem DE:a≤b->a≠b->a<b:=fun p q=>(Nat.lt_of_le_of_ne p q)
theorem DW:1≤c->a+c≤b->a<b:=fun p q=>(Nat.lt_of_lt_of_le (Nat.lt_add_of_pos_right (Nat.lt_of_succ_le p)) q)
theorem DH:1≤b->b≤d->a+d≤c->a+b-1<c:=fun p q r=>Nat.lt_of_lt_of_le (sl p) (Nat.le_trans (Nat.add_le_add_left q _) r)
theorem Du:a<b+c->a≤b+c-1:=fun p=>(Nat.le_sub_one_of_lt p)
theorem EF:¬c<b->c≤a->a≤b->a=b:=fun p q r=>(Nat.le_antisymm r (Nat.le_trans (Nat.le_of_not_lt p) q))
theorem xk:b≤d->a+d≤c->a+b≤c:=fun p q=>(Mine.adE p q)
theorem C5:1≤a->¬a>1->a=1:=fun p q=>(Nat.le_antisymm (Nat.le_of_not_lt q) p)
theorem DV:a<b->a≤(a+b)/2/\(a+b)/2<b:=fun p=>And.intro ((Nat.le_div_iff_mul_le (by decide)).mpr (by rw [Nat.mul_two]; exact Nat.add_le_add_left (Nat.le_of_lt p) _)) ((Nat.div_lt_iff_lt_mul (by decide)).mpr (by rw [Nat.mul_two]; exact Nat.add_lt_add_right p _))
theorem DT:a<b->min a b=a:=fun p=>(Nat.min_eq_left (Nat.le_of_lt p))
theorem E7:c<0->a≤b:=fun p=>(absurd p (Nat.not_lt_zero _))
theorem BW:c≤d->d<c->a<b:=fun p q=>(absurd q (Nat.not_lt_of_le p))
theorem EU {a b c d e f g:Nat}: a+d≤e->f<d->g≤f->c=e->b<g->a+b<c:=by intro p q r s t; lia
theorem D0:c≤b->a<c->a≤b:=fun p q=>(Nat.le_trans (Nat.le_of_lt q) p)
theorem Cj:e-b≤c-d->a<e->a-b≤c-(d+1):=fun p q=>Nat.le_trans (Nat.sub_le_sub_right (Nat.le_sub_one_of_lt q) _) (Nat.le_trans (Nat.le_of_eq (Nat.sub_right_comm _ 1 _)) (Nat.sub_le_sub_right p 1))
theorem Bc:a-e≤c-d->e≤b->a-(b+1)≤c-(d+1):=fun p q=>Nat.sub_le_sub_right (Nat.le_trans (Nat.sub_le_sub_left q _) p) 1
theorem Bt:b<c+1->a+b≤a+c:=fun p=>(Nat.add_le_add_left (Nat.le_of_lt_succ p) _)
theorem DG:d≤c->b<d->a+b<a+c:=fun p q=>(Nat.add_lt_add_left (Nat.lt_of_lt_of_le q p) _)
theorem Dq:a-c≤d-max 0 d->c≤b->a≤b:=fun p q=>Nat.le_trans (Nat.le_of_sub_eq_zero (Nat.eq_zero_of_le_zero (Nat.le_trans p (Nat.le_of_eq (Nat.sub_eq_zero_of_le (Nat.le_max_right 0 _)))))) q
theorem DC:c<f->a<b\/b+f≤a->¬a=b+c-(b+c-(b+d)):=fun p q=>fun e=>q.elim (fun g=>Nat.not_lt_of_le vlo (e▸g)) (fun g=>Nat.not_lt_of_le (Nat.le_trans g (Nat.le_trans (Nat.le_of_eq e) (Nat.sub_le _ _))) (Nat.add_lt_add_left p _))
theorem CQ:b<f->d<a\/a+f≤d->¬(a+b-(a+b-(a+c))<d/\d≤a+b):=fun p q=>fun e=>q.elim (fun g=>Nat.not_lt_of_le vlo (Nat.lt_trans e.1 g)) (fun g=>Nat.not_lt_of_le (Nat.le_trans g e.2) (Nat.add_lt_add_left p _))
theorem CH:a<b->min (a+1) b=a+1:=fun p=>(Nat.min_eq_left (Nat.succ_le_of_lt p))
theorem Ci:c≤b->a+b-(a+b-(a+c))=a+c:=fun p=>Nat.sub_sub_self (Nat.add_le_add_left p _)
theorem Ds:e≤c->c<a+(d+1)->e=a+b->¬c=a+b->a+b<c/\c≤a+d:=fun p q r s=>And.intro (Nat.lt_of_le_of_ne (r▸p) (Ne.symm s)) (Nat.le_of_lt_succ q)
theorem C8:d≤b->d=c+a->¬b=c+a->a≤b-1-c:=fun p q r=>Nat.le_sub_of_add_le (Nat.le_sub_one_of_lt (Nat.add_comm _ _▸Nat.lt_of_le_of_ne (q▸p) (Ne.symm r)))
theorem Ed:d≤a->a<b+(c+1)->d=b+e->¬a=b+e->a-1-b<c:=fun p q r s=>Nat.sub_lt_left_of_lt_add (Nat.le_sub_one_of_lt (Nat.lt_of_le_of_lt (Nat.le_add_right _ _) (Nat.lt_of_le_of_ne (r▸p) (Ne.symm s)))) (pl (Nat.lt_of_le_of_lt (Nat.zero_le _) (Nat.lt_of_le_of_ne (r▸p) (Ne.symm s))) q)
theorem Cg:c≤b->c=a+d->¬b=a+d->a+(b-1-a)=b-1:=fun p q r=>Nat.add_sub_of_le (Nat.le_sub_one_of_lt (Nat.lt_of_le_of_lt (Nat.le_add_right _ _) (Nat.lt_of_le_of_ne (q▸p) (Ne.symm r))))
theorem EK:c≤f->f=a+b->¬(a+b<c/\c≤a+d):=fun p q=>fun e=>Nat.not_lt_of_le (q▸p) e.1
theorem De:b≤a->a≤d->¬a=b+c->d=b+c->a-b<c:=fun p q r s=>Nat.sub_lt_left_of_lt_add p (Nat.lt_of_le_of_ne (s▸q) r)
theorem DI:a≤b->a+(b-a)=b:=fun p=>(Nat.add_sub_cancel' p)
theorem Cs:c≤e->e<a+(d+1)->a+b<c->a+b<c/\c≤a+d:=fun p q r=>And.intro r (Nat.le_of_lt_succ (Nat.lt_of_le_of_lt p q))
theorem CR:e≤c->c<a+(d+1)->a+b<e->a+b<c/\c≤a+d:=fun p q r=>And.intro (Nat.lt_of_lt_of_le r p) (Nat.le_of_lt_succ q)
theorem EL:a+c<b->a≤b-1:=fun p=>(Mine.nxe (Nat.le_sub_one_of_lt p))
theorem DO:a≤b->a-1≤b-1:=fun p=>(Nat.sub_le_sub_right p _)
theorem CT:d≤a->a<b+(c+1)->b+e<d->a-1<b+c:=fun p q r=>pl (Nat.lt_of_le_of_lt (Nat.zero_le _) (Nat.lt_of_lt_of_le r p)) q
theorem w9:¬a+b<c->¬(a+b<c/\c≤a+d):=fun p=>fun e=>p e.1
theorem CS:c<a+(d+1)->a+b<c->a+b<c/\c≤a+d:=fun p q=>And.intro q (Nat.le_of_lt_succ p)
theorem Cn:¬c+d<a->c+d<b->a≤b-1:=fun p q=>(Nat.le_trans (Nat.le_of_not_lt p) (Nat.le_sub_one_of_lt q))
theorem Db:a<b+(c+1)->b+d<a->a-1<b+c:=fun p q=>pl (Nat.lt_of_le_of_lt (Nat.zero_le _) q) p
theorem Ee:d≤c->¬a=b+d->¬b+d<a->a<b+c:=fun p q r=>(Nat.lt_of_lt_of_le (Nat.lt_of_le_of_ne (Nat.le_of_not_lt r) q) (Nat.add_le_add_left p _))
theorem B4:min (max (max a 1) b) b=b:=Nat.min_eq_right (Nat.le_max_right _ _)
theorem CJ:c≤a->a≤b->b<c+min (max d 1) e->d=0->a=b:=fun p q r s=>Nat.le_antisymm q (Nat.le_trans (Nat.le_of_lt_succ (Nat.lt_of_lt_of_le r (Nat.add_le_add_left (Nat.le_trans (Nat.min_le_left (max d 1) e) (by rw [s]; decide:max d 1≤1)) _))) p)
theorem Bn:a<b+min (max c 1) d->¬c=0->a<b+c:=fun p q=>Nat.lt_of_lt_of_le p (Nat.add_le_add_left (Nat.le_trans (Nat.min_le_left _ _) (Nat.max_le.mpr ⟨Nat.le_refl _,Nat.pos_of_ne_zero q⟩)) _)
theorem D9 {a b c:Int}: a<c->c<b->¬a=b:=fun p q=>(Int.ne_of_lt (Int.lt_of_lt_of_le p (Int.le_of_lt q)))
theorem Dc {a b c:Int}: a<c->c<b->a<b:=fun p q=>(Int.lt_of_lt_of_le p (Int.le_of_lt q))
theorem B3 {a:Prop}{b c:Int}: ¬b=c->¬b<c->¬c<b->a:=fun p q r=>absurd (Int.le_antisymm (Int.not_lt.mp r) (Int.not_lt.mp q)) p
theorem Ek:a≤b->a≤b+c:=fun p=>(Nat.le_trans p (Nat.le_add_right _ _))
theorem BX:a≤b->a<b+1:=fun p=>(Nat.lt_succ_of_le p)
theorem Bo:a<b->a<b+c:=fun p=>(Nat.lt_of_lt_of_le p (Nat.le_add_right _ _))
theorem BQ:a<b->b<a->False:=fun p q=>(absurd q (Nat.not_lt_of_le (Nat.le_of_lt p)))
theorem CU {a:Prop}{b:Nat}: 1≤b->0=b->a:=fun p q=>(absurd (Mine.lee p q) (by decide))
theorem Bw:2≤a->a=a-1+1:=fun p=>(Nat.sub_add_cancel (Nat.le_of_succ_le p)).symm
theorem Ck:b=a->0+(a-0)≤b:=fun p=>by rw [Nat.zero_add]; exact Nat.le_of_eq p.symm
theorem Eu:b=a->0+min (a-0) a≤b:=fun p=>by rw [p,Nat.zero_add]; exact Nat.min_le_right _ _
theorem DA:a<b->a≤min (b-0) b:=fun p=>Nat.le_min.mpr ⟨Nat.le_of_lt p,Nat.le_of_lt p⟩
theorem Ev:min (a-0) a=a:=Nat.min_self _
theorem DJ:a≤b-0->¬a<b->a=b:=fun p q=>(Nat.le_antisymm (Nat.le_trans p (Nat.sub_le _ _)) (Nat.le_of_not_lt q))
theorem BP {a b:Prop}{c:Nat}: 2≤c->max 0 c=0->a/\b:=by intro p q; lia
theorem El:b=a->0+a≤b:=fun p=>by rw [p,Nat.zero_add]; exact Nat.le_refl _
theorem DS:a=b->a≤b:=fun p=>(Nat.le_of_eq p)
theorem DZ {a:Int}: ¬(0:Int)≤a->a<(0:Int):=fun p=>(Int.not_le.mp p)
theorem Bu {a:Int}{b:Nat}: b≤(2:Nat)^(22:Nat)->a<(↑b:Int)->a<(2:Int)^(63:Nat):=fun p q=>(Int.lt_of_lt_of_le q (Int.le_trans (Int.ofNat_le.mpr p) (by decide)))
theorem DM {a:Int}{b:Nat}: b≤(2:Nat)^(22:Nat)->-(↑b:Int)≤a->-(2:Int)^(63:Nat)≤a:=fun p q=>Int.le_trans (Int.le_trans (by decide) (Int.neg_le_neg (Int.ofNat_le.mpr p))) q
theorem BT {a:Int}: (0:Int)≤a->¬a<(0:Int):=fun p=>(Int.not_lt.mpr p)
theorem Dz {a:Int}: -(2:Int)^(22:Nat)≤a/\a<(2:Int)^(22:Nat)->-(2:Int)^(63:Nat)≤a:=fun p=>Int.le_trans (by decide) p.1
theorem Bd {a:Int}: -(2:Int)^(22:Nat)≤a/\a<(2:Int)^(22:Nat)->a<(2:Int)^(63:Nat):=fun p=>Int.lt_trans p.2 (by decide)
theorem xm:b≤2^22->a=b->a≤2^24:=fun p q=>(Nat.le_trans (Mine.ele q p) (by decide))
theorem BI {a:Nat}{b:Int}: a≤(2:Nat)^(22:Nat)->a-b.toNat≤(2:Nat)^(22:Nat):=fun p=>(Mine.Fg p)
theorem Ba {a:Int}{b:Nat}: b≤(2:Nat)^(22:Nat)->min a.toNat b≤(2:Nat)^(22:Nat):=fun p=>(Mine.mne p)
theorem EI {a:Nat}: ((↑a:Int)-(1:Int)-(-1:Int)-(-1:Int)-(1:Int)).toNat=a:=by lia
theorem Fa {a:Nat}: ¬(↑a:Int)-(1:Int)>(-1:Int)->Int.toNat (0:Int)=a:=by intro p; lia
theorem B5 {a b:Nat}: ((↑a:Int)-(1:Int)+(-1:Int)*(↑b:Int)).toNat=a-(1:Nat)-b:=by rw [Int.neg_mul,Int.one_mul,← Int.sub_eq_add_neg,Int.sub_sub,Nat.sub_sub]; exact Int.toNat_sub a (1+b)
theorem CN:b=c->a<c->a<b:=fun p q=>(Mine.lte q p)
theorem DX:a=c->¬b<c->min a a≤b:=fun p q=>(Mine.mne (Mine.ele p (Nat.le_of_not_lt q)))
theorem Dd:¬c<a->min a b≤c:=fun p=>(Mine.mnl (Nat.le_of_not_lt p))
theorem Bj:a<64->a≤16777216+1:=fun p=>(Nat.le_trans (Nat.le_of_lt p) (by decide))
theorem yh:a<64->a≤16777216:=fun p=>(Nat.le_trans (Nat.le_of_lt p) (by decide))
theorem Dp:a<2->a≤1:=fun p=>(Nat.le_of_lt_succ p)
theorem BC:¬a<2->1≤a:=fun p=>(Nat.le_trans (Nat.le_add_left _ _) (Nat.le_of_not_lt p))
theorem Cd:b=a->¬b<2->¬a<2:=fun p q=>(Nat.not_lt_of_le (Nat.le_trans (Nat.le_of_not_lt q) (Nat.le_of_eq p)))
theorem EE:¬a<2->2≤a:=fun p=>(Nat.le_of_not_lt p)
theorem Ex:b≤a->¬a<b:=fun p=>(Nat.not_lt_of_le p)
theorem Da:a≤1000000->a≤16777216:=fun p=>(Nat.le_trans p (by decide))
theorem xC:a≤1000000->a≤2^22:=fun p=>(Nat.le_trans p (by decide))
theorem BO:a=b->a=b:=by intro p; omega
theorem xJ:b<64->a=b->a≤16777216:=fun p q=>(Nat.le_trans (Nat.le_of_lt (Mine.elt q p)) (by decide))
theorem Ez:a+200<b->a+1+1<b:=fun p=>Nat.lt_of_le_of_lt (Nat.add_le_add_left (by decide:2≤200) a) p
theorem xH:b<64->a=b->a<64:=fun p q=>(Mine.elt q p)
theorem xo:a<64->a≤2^22:=fun p=>(Nat.le_trans (Nat.le_of_lt p) (by decide))
theorem Dv {a b:Nat}: a=b->b≤(2:Nat)^(22:Nat)->(↑a:Int)<(2:Int)^(63:Nat):=fun p q=>(Int.lt_of_le_of_lt (Int.ofNat_le.mpr (Mine.ele p q)) (by decide))
theorem D6 {a b:Nat}: a=b->b≤(2:Nat)^(22:Nat)->¬(↑a:Int)≥(2:Int)^(63:Nat):=fun p q=>fun g=>absurd (Int.le_trans g (Int.ofNat_le.mpr (Nat.le_trans (Nat.le_of_eq p) q))) (by decide)
theorem CO {a b:Nat}{c:Prop}: a=b->b≤2^22/\c->a≤2^24:=fun p q=>(Nat.le_trans (Mine.ele p q.1) (by decide))
theorem Cw:a+100*c+200<b->a+200<b:=fun p=>Nat.lt_of_le_of_lt (Nat.add_le_add_right (Nat.le_add_right _ _) 200) p
theorem Cq:a+100*c+300<b->a+200<b:=fun p=>Nat.lt_of_le_of_lt (Nat.add_le_add (Nat.le_add_right _ _) (by decide)) p
theorem xF:a+200<d->b+1≤64->a+1+min b c<d:=fun p q=>Nat.lt_of_le_of_lt (Nat.le_trans (Nat.le_of_eq (Nat.add_assoc _ 1 _)) (Nat.add_le_add_left (Nat.le_trans (Nat.add_le_add_left (Nat.min_le_left _ _) 1) (Nat.le_trans (Nat.le_of_eq (Nat.add_comm 1 _)) (Nat.le_trans q (by decide)))) _)) p
theorem yg:a+200<b->a+1<b:=fun p=>(Nat.lt_of_le_of_lt (Nat.succ_le_succ (Nat.le_add_right _ _)) p)
theorem xw:a+200<d->b≤64->a+min b c<d:=fun p q=>Nat.lt_of_le_of_lt (Nat.add_le_add_left (Nat.le_trans (Nat.min_le_left _ _) (Nat.le_trans q (by decide))) _) p
theorem xz {a b:Nat}{c:Prop}{d:Nat}: b<1000/\c->a=d->d=b->a≤2^24:=fun p q r=>(Nat.le_trans (Nat.le_of_lt (Mine.elt q (Mine.elt r p.1))) (by decide))
theorem xy {a b:Nat}{c:Prop}{d:Nat}: b<1000/\c->d=b->a=d->a≤2^22:=fun p q r=>(Nat.le_trans (Nat.le_of_lt (Mine.elt r (Mine.elt q p.1))) (by decide))
theorem C4 {a b:Int}: -(2:Int)^(60:Nat)≤a/\a<(2:Int)^(60:Nat)/\-(2:Int)^(60:Nat)≤b/\b<(2:Int)^(60:Nat)->-(2:Int)^(62:Nat)≤a:=fun p=>Int.le_trans (by decide) p.1
theorem Co {a b:Int}: -(2:Int)^(60:Nat)≤a/\a<(2:Int)^(60:Nat)/\-(2:Int)^(60:Nat)≤b/\b<(2:Int)^(60:Nat)->a<(2:Int)^(62:Nat):=fun p=>Int.lt_trans p.2.1 (by decide)
theorem Dt {a b:Int}: -(2:Int)^(60:Nat)≤b/\b<(2:Int)^(60:Nat)/\-(2:Int)^(60:Nat)≤a/\a<(2:Int)^(60:Nat)->-(2:Int)^(62:Nat)≤a:=fun p=>Int.le_trans (by decide) p.2.2.1
theorem Ct {a b:Int}: -(2:Int)^(60:Nat)≤b/\b<(2:Int)^(60:Nat)/\-(2:Int)^(60:Nat)≤a/\a<(2:Int)^(60:Nat)->a<(2:Int)^(62:Nat):=fun p=>Int.lt_trans p.2.2.2 (by decide)
theorem Dw {a b:Int}: (a-b).toNat≤(1000000:Nat)->(a-b).toNat≤(2:Nat)^(22:Nat):=fun p=>(Nat.le_trans p (by decide))
theorem qX:b<a->a+1-(b+1)<a+1-b:=fun p=>Nat.sub_lt_sub_left (Nat.lt_succ_of_lt p) (Nat.lt_succ_self _)
theorem DF {a b:Nat}{c:Prop}{d:Nat}: b≤2^22/\c->a≤d->d<b->a≤2^24:=fun p q r=>(Nat.le_trans q (Nat.le_trans (Nat.le_trans (Nat.le_of_lt r) p.1) (by decide)))
theorem xu:a≤b->¬a<b->a=b:=fun p q=>(Nat.le_antisymm p (Nat.le_of_not_lt q))
theorem Eh:a≤0->a=0:=fun p=>(Nat.eq_zero_of_le_zero p)
theorem xZ:a≤b+1->¬a=b+1->a≤b:=fun p q=>(Nat.le_of_lt_succ (Nat.lt_of_le_of_ne p q))
theorem E6 {a b c:Int}: b>c->a≤c->a≤b:=fun p q=>(Int.le_trans q (Int.le_of_lt p))
theorem Dy {a b:Int}: ¬a>b->a≤b:=fun p=>(Int.not_lt.mp p)
theorem DN:0<b->a≤b-1->a<b:=fun p q=>(Nat.lt_of_le_of_lt q (Nat.sub_lt p (by decide)))
theorem Dj:a<b->a≤b-1:=fun p=>(Nat.le_sub_one_of_lt p)
theorem x6 {a:Nat}: ¬(↑a:Int)<(0:Int):=(Int.not_lt.mpr (Int.natCast_nonneg _))
theorem Bm:¬b<a->a≤b:=fun p=>(Nat.le_of_not_lt p)
theorem xO {a:Nat}{b:Prop}: a≤2^22/\b->a≤2^24:=fun p=>(Nat.le_trans p.1 (by decide))
theorem A7 {a:Int}{b:Nat}{c:Prop}{d:Nat}: ¬(c\/a<(0:Int)\/(↑d:Int)≤a)->b=d->a.toNat<b:=fun p q=>q▸(Int.toNat_lt (Int.not_lt.mp fun g=>p (.inr (.inl g)))).mpr (Int.not_le.mp fun g=>p (.inr (.inr g)))
theorem Be {a:Int}{b:Prop}{c:Nat}{d:Prop}: ¬(b\/a<(0:Int)\/(↑c:Int)≤a)->c≤(2:Nat)^(22:Nat)/\d->(-9223372036854775808:Int)≤a/\a<(9223372036854775808:Int):=fun p q=>And.intro (Int.le_trans (by decide) (Int.not_lt.mp fun g=>p (.inr (.inl g)))) (Int.lt_trans (Int.not_le.mp fun g=>p (.inr (.inr g))) (Int.lt_of_le_of_lt (Int.ofNat_le.mpr q.1) (by decide)))
theorem xf:a≤1000000->a≤2^24:=fun p=>(Nat.le_trans p (by decide))
theorem Dx:a<1000000->a+1≤2^22:=fun p=>(Nat.le_trans (Nat.succ_le_of_lt p) (by decide))
theorem xe:a<1000000->a≤2^24:=fun p=>(Nat.le_trans (Nat.le_of_lt p) (by decide))
theorem EQ:1≤16777216:=by decide
theorem E1:a+2*b+4<c->a+2*b+1<c:=fun p=>(Nat.lt_of_le_of_lt (Nat.succ_le_succ (Nat.le_add_right _ _)) p)
theorem C3:a+100*b+300<c->a+100*b+200<c:=fun p=>(Nat.lt_of_le_of_lt (Nat.add_le_add_left (Nat.le_add_left _ _) _) p)
theorem BS:a+2*b+5<c->a+1+2*b+4<c:=fun p=>by rw [Nat.add_right_comm _ 1]; exact p
theorem En:a+100*b+303<c->a+3+100*b+300<c:=fun p=>by rw [Nat.add_right_comm _ 3]; exact p
theorem EJ:a+2*(c+1)+4<b/\d+100*(c+1)+300<e->a<b:=fun p=>(Mine.nxl (Mine.nxl p.1))
theorem CD:a+100*b+303≤a+100*(b+1)+300:=by lia
theorem C7:a≤8->a≤16777216:=fun p=>(Nat.le_trans p (by decide))
theorem Dk:a≤1->1+3*a≤50:=fun p=>Nat.le_trans (Nat.add_le_add_left (Nat.mul_le_mul_left 3 p) 1) (by decide)
theorem CP:b≤50->a+b≤a+50:=fun p=>(Nat.add_le_add_left p _)
theorem CK:a+2*(c+1)+4<b->a+1<b:=fun p=>Nat.lt_of_le_of_lt (Nat.add_le_add (Nat.le_add_right _ _) (by decide)) p
theorem Dg:a+2*(b+1)+4<c->a+1+2*b+5<c:=fun p=>by rw [Nat.add_right_comm _ 1]; exact p
theorem Cc:a≤c+50->a+100*b+303≤c+100*(b+1)+300:=by intros; lia
theorem CB:a+b≤1000000->a+b≤2^22:=fun p=>(Nat.le_trans p (by decide))
theorem DB:a+b≤1000000->a+b≤2^24:=fun p=>(Nat.le_trans p (by decide))
theorem BN {a:Nat}{b:Int}: ¬(b=(0:Int)\/(1000000000:Nat)≤a)->a<(1073741824:Nat):=fun p=>Nat.lt_trans (Nat.lt_of_not_le fun g=>p (.inr g)) (by decide)
theorem B7 {a:Int}{b:Nat}: (0:Int)≤a/\a≤(1000:Int)/\b<(2:Nat)^(63:Nat)->a≤(1000000:Int):=fun p=>Int.le_trans p.2.1 (by decide)
theorem CG {a:Nat}{b:Int}: (0:Int)≤b/\b≤(1000:Int)/\a<(2:Nat)^(63:Nat)->a<(2:Nat)^(64:Nat):=fun p=>Nat.lt_trans p.2.2 (by decide)
theorem DL:a≤60->1+300+2*a+4<1000:=fun p=>Nat.lt_of_le_of_lt (Nat.add_le_add_right (Nat.add_le_add_left (Nat.mul_le_mul_left 2 p) _) 4) (by decide)
theorem CM:a≤60->4+100*a+300<9900:=fun p=>Nat.lt_of_le_of_lt (Nat.add_le_add_right (Nat.add_le_add_left (Nat.mul_le_mul_left 100 p) _) 300) (by decide)
theorem CA:a≤50->a+1≤60:=fun p=>(Nat.le_trans (Nat.succ_le_succ p) (by decide))
theorem yb {a:Int}{b:Nat}: (0:Int)≤a/\a<(↑b:Int)->a.toNat<b:=fun p=>(Mine.tln p.1 p.2)
theorem Cp:a≤1000->a<1000000:=fun p=>(Nat.lt_of_le_of_lt p (by decide))
theorem BM:a≤63->a<64:=fun p=>(Nat.lt_of_le_of_lt p (by decide))
theorem EC {a b:Int}: a≤b->a≠b->a<b:=by intro p q; lia
theorem xc:b≤63->a≤b->a≤1000:=fun p q=>(Nat.le_trans q (Nat.le_trans p (by decide)))
theorem xi {a:Int}: a≤(1000:Int)->a<(2:Int)^(62:Nat):=fun p=>(Int.lt_of_le_of_lt p (by decide))
theorem xx {a:Nat}: (↑a:Int)≤(1000:Int)->a≤(1000000:Nat):=fun p=>(Nat.le_trans (Mine.nLe p) (by decide))
theorem Bh:a≤62->a≤63:=fun p=>(Nat.le_trans p (by decide))
theorem rQ:a≤12->a≤13:=fun p=>(Nat.le_trans p (by decide))
theorem Ca {a:Int}{b:Nat}: (0:Nat)<b->a<(↑b:Int)->a.toNat<b:=fun p q=>(Mine.tlt p q)
theorem BZ {a:Int}: a/(3:Int)%(3:Int)<(3:Int):=by lia
theorem xE {a:Int}{b:Nat}: b≤(12:Nat)->a<(↑b:Int)+(1:Int)->a≤(1000:Int):=fun p q=>(Int.le_trans (Int.le_trans (Int.le_of_lt_add_one q) (Int.ofNat_le.mpr p)) (by decide))
theorem B6 {a:Int}{b:Nat}: b≤(12:Nat)->min a.toNat b≤(999999:Nat):=fun p=>(Nat.le_trans (Mine.mne p) (by decide))
theorem ER {a:Int}{b:Nat}: b≤(12:Nat)->min a.toNat b+(1:Nat)+(b-a.toNat)≤(1000000:Nat):=by intro p; grind
theorem CZ {a:Int}{b:Nat}: b≤(62:Nat)->a<(↑b:Int)->a≤(1000:Int):=fun p q=>(Int.le_trans (Int.le_trans (Int.le_of_lt q) (Int.ofNat_le.mpr p)) (by decide))
theorem Bv {a:Int}{b:Nat}: b≤(62:Nat)->min a.toNat b≤(999999:Nat):=fun p=>(Nat.le_trans (Mine.mne p) (by decide))
theorem BA {a:Int}: (0:Int)≤a->(0:Int)≤a+(1:Int):=fun p=>(Int.add_nonneg p (by decide))
theorem Cf {a:Int}{b:Nat}: b≤(62:Nat)->a<(↑b:Int)->a+(1:Int)≤(1000:Int):=by intro p q; lia
theorem Ch {a:Int}{b:Nat}: b≤(62:Nat)->min a.toNat b+(1:Nat)+(b-(a+(1:Int)).toNat)≤(1000000:Nat):=by intro p; omega
theorem Cz {a:Int}{b:Nat}: b≤(62:Nat)->min a.toNat b+(b-(a+(1:Int)).toNat+(1:Nat))≤(63:Nat):=by intro p; omega
theorem C1 {a:Int}{b:Nat}: b≤(12:Nat)->min a.toNat b+(b-a.toNat+(1:Nat))≤(13:Nat):=by intro p; grind
theorem CE:a≤62->a≤999999:=fun p=>(Nat.le_trans p (by decide))
theorem D8:a≤62->a≤62:=by intro p; omega
theorem EY {a b:Nat}: b≤(1000:Nat)->a<b->(↑a:Int)≤(1000:Int):=fun p q=>(Mine.nLm (Nat.le_trans (Nat.le_of_lt q) p))
theorem Br {a:Int}{b:Nat}: a<(0:Int)->(0:Int)≤a/\a<(↑b:Int)->False:=fun p q=>(absurd p (Int.not_lt.mpr q.1))
theorem Bx {a:Nat}{b:Int}: (↑a:Int)≤b->(0:Int)≤b/\b<(↑a:Int)->False:=fun p q=>(absurd q.2 (Int.not_lt.mpr p))
theorem EN {a:Int}{b:Nat}{c:Prop}: ¬(a<(0:Int)\/(↑b:Int)≤a\/c)->(0:Int)≤a/\a<(↑b:Int):=by intro p; lia
theorem nC:a≤60->a≤1000:=fun p=>(Nat.le_trans p (by decide))
theorem EZ:b≤63->a≤c->c≤b->a<1000000:=fun p q r=>(Nat.lt_of_le_of_lt q (Nat.lt_of_le_of_lt r (Nat.lt_of_le_of_lt p (by decide))))
theorem Bk:b≤63->a≤b->a≤63:=fun p q=>(Nat.le_trans q p)
theorem E9:a≤63->a<1000000:=fun p=>(Nat.lt_of_le_of_lt p (by decide))
theorem A9:a≤13->a≤60:=fun p=>(Nat.le_trans p (by decide))
theorem BB {a:Int}: (0:Int)<a->a≠(0:Int):=fun p=>(Int.ne_of_gt p)
theorem Cu {a:Nat}{b:Int}: b%(6:Int)=(↑a:Int)->a≤(62:Nat):=fun p=>(Nat.le_trans (Mine.m5 p) (by decide))
theorem Ew:a≤b->b≤36->a≤62:=fun p q=>(Nat.le_trans p (Nat.le_trans q (by decide)))
theorem C9:a≤32->a≤62:=fun p=>(Nat.le_trans p (by decide))
theorem EV:a≤b->b≤62->a≤62:=fun p q=>(Nat.le_trans p q)
theorem Ec {a:Nat}{b:Int}{c:Nat}: (7:Int)+b%(12:Int)=(↑c:Int)->a≤c->a≤(62:Nat):=fun p q=>(Nat.le_trans q (Nat.le_trans (Mine.m18 p) (by decide)))
theorem BF {a:Nat}{b:Int}: (7:Int)+b%(6:Int)=(↑a:Int)->a≤(62:Nat):=fun p=>(Nat.le_trans (Mine.m12 p) (by decide))
theorem Ey:a≤8->a≤62:=fun p=>(Nat.le_trans p (by decide))
end Mine
namespace Mine
theorem aE  {p0 p1:Prop}  (h0:p0 ) (h1:p1 ):p0/\p1:=⟨h0,h1⟩
theorem bM  {p0 p1 p2:Prop}  (h0:p0 ) (h1:p1 ) (h2:p2 ):p0/\p1/\p2:=⟨h0,h1,h2⟩
theorem cS  {p0 p1 p2 p3:Prop}  (h0:p0 ) (h1:p1 ) (h2:p2 ) (h3:p3 ):p0/\p1/\p2/\p3:=⟨h0,h1,h2,h3⟩
theorem cH  {p0 p1 p2 p3 p4:Prop}  (h0:p0 ) (h1:p1 ) (h2:p2 ) (h3:p3 ) (h4:p4 ):p0/\p1/\p2/\p3/\p4:=⟨h0,h1,h2,h3,h4⟩
theorem kU  {p0 p1 p2 p3 p4 p5:Prop}  (h0:p0 ) (h1:p1 ) (h2:p2 ) (h3:p3 ) (h4:p4 ) (h5:p5 ):p0/\p1/\p2/\p3/\p4/\p5:=⟨h0,h1,h2,h3,h4,h5⟩
theorem bI.{u0}{A:Sort u0}{p0:A->Prop}(a:A) (h0:p0 a):∃ a,p0 a:=⟨a,h0⟩
theorem ah.{u0}{A:Sort u0}{p0 p1:A->Prop}(a:A) (h0:p0 a) (h1:p1 a):∃ a,p0 a/\p1 a:=⟨a,h0,h1⟩
theorem aC.{u0}{A:Sort u0}{p0 p1 p2:A->Prop}(a:A) (h0:p0 a) (h1:p1 a) (h2:p2 a):∃ a,p0 a/\p1 a/\p2 a:=⟨a,h0,h1,h2⟩
theorem br.{u0}{A:Sort u0}{p0 p1 p2 p3:A->Prop}(a:A) (h0:p0 a) (h1:p1 a) (h2:p2 a) (h3:p3 a):∃ a,p0 a/\p1 a/\p2 a/\p3 a:=⟨a,h0,h1,h2,h3⟩
theorem iq.{u0}{A:Sort u0}{p0 p1 p2 p3 p4:A->Prop}(a:A) (h0:p0 a) (h1:p1 a) (h2:p2 a) (h3:p3 a) (h4:p4 a):∃ a,p0 a/\p1 a/\p2 a/\p3 a/\p4 a:=⟨a,h0,h1,h2,h3,h4⟩
theorem jw.{u0}{A:Sort u0}{p0 p1 p2 p3 p4 p5:A->Prop}(a:A) (h0:p0 a) (h1:p1 a) (h2:p2 a) (h3:p3 a) (h4:p4 a) (h5:p5 a):∃ a,p0 a/\p1 a/\p2 a/\p3 a/\p4 a/\p5 a:=⟨a,h0,h1,h2,h3,h4,h5⟩
theorem rR.{u0}{A:Sort u0}{p0 p1 p2 p3 p4 p5 p6:A->Prop}(a:A) (h0:p0 a) (h1:p1 a) (h2:p2 a) (h3:p3 a) (h4:p4 a) (h5:p5 a) (h6:p6 a):∃ a,p0 a/\p1 a/\p2 a/\p3 a/\p4 a/\p5 a/\p6 a:=⟨a,h0,h1,h2,h3,h4,h5,h6⟩
theorem bD.{u0,u1}{A:Sort u0}{B:Sort u1}{p0:A->B->Prop}(a:A) (b:B) (h0:p0 a b):∃ a b,p0 a b:=⟨a,b,h0⟩
theorem aB.{u0,u1}{A:Sort u0}{B:Sort u1}{p0 p1:A->B->Prop}(a:A) (b:B) (h0:p0 a b) (h1:p1 a b):∃ a b,p0 a b/\p1 a b:=⟨a,b,h0,h1⟩
theorem aO.{u0,u1}{A:Sort u0}{B:Sort u1}{p0 p1 p2:A->B->Prop}(a:A) (b:B) (h0:p0 a b) (h1:p1 a b) (h2:p2 a b):∃ a b,p0 a b/\p1 a b/\p2 a b:=⟨a,b,h0,h1,h2⟩
theorem bl.{u0,u1}{A:Sort u0}{B:Sort u1}{p0 p1 p2 p3:A->B->Prop}(a:A) (b:B) (h0:p0 a b) (h1:p1 a b) (h2:p2 a b) (h3:p3 a b):∃ a b,p0 a b/\p1 a b/\p2 a b/\p3 a b:=⟨a,b,h0,h1,h2,h3⟩
theorem dT.{u0,u1}{A:Sort u0}{B:Sort u1}{p0 p1 p2 p3 p4:A->B->Prop}(a:A) (b:B) (h0:p0 a b) (h1:p1 a b) (h2:p2 a b) (h3:p3 a b) (h4:p4 a b):∃ a b,p0 a b/\p1 a b/\p2 a b/\p3 a b/\p4 a b:=⟨a,b,h0,h1,h2,h3,h4⟩
theorem r6.{u0,u1}{A:Sort u0}{B:Sort u1}{p0 p1 p2 p3 p4 p5:A->B->Prop}(a:A) (b:B) (h0:p0 a b) (h1:p1 a b) (h2:p2 a b) (h3:p3 a b) (h4:p4 a b) (h5:p5 a b):∃ a b,p0 a b/\p1 a b/\p2 a b/\p3 a b/\p4 a b/\p5 a b:=⟨a,b,h0,h1,h2,h3,h4,h5⟩
theorem fS.{u0,u1}{A:Sort u0}{B:Sort u1}{p0 p1 p2 p3 p4 p5 p6:A->B->Prop}(a:A) (b:B) (h0:p0 a b) (h1:p1 a b) (h2:p2 a b) (h3:p3 a b) (h4:p4 a b) (h5:p5 a b) (h6:p6 a b):∃ a b,p0 a b/\p1 a b/\p2 a b/\p3 a b/\p4 a b/\p5 a b/\p6 a b:=⟨a,b,h0,h1,h2,h3,h4,h5,h6⟩
theorem AO.{u0,u1}{A:Sort u0}{B:Sort u1}{p0 p1 p2 p3 p4 p5 p6 p7 p8 p9:A->B->Prop}(a:A) (b:B) (h0:p0 a b) (h1:p1 a b) (h2:p2 a b) (h3:p3 a b) (h4:p4 a b) (h5:p5 a b) (h6:p6 a b) (h7:p7 a b) (h8:p8 a b) (h9:p9 a b):∃ a b,p0 a b/\p1 a b/\p2 a b/\p3 a b/\p4 a b/\p5 a b/\p6 a b/\p7 a b/\p8 a b/\p9 a b:=⟨a,b,h0,h1,h2,h3,h4,h5,h6,h7,h8,h9⟩
theorem b0.{u0,u1,u2}{A:Sort u0}{B:Sort u1}{C:Sort u2}{p0 p1:A->B->C->Prop}(a:A) (b:B) (c:C) (h0:p0 a b c) (h1:p1 a b c):∃ a b c,p0 a b c/\p1 a b c:=⟨a,b,c,h0,h1⟩
theorem cy.{u0,u1,u2}{A:Sort u0}{B:Sort u1}{C:Sort u2}{p0 p1 p2:A->B->C->Prop}(a:A) (b:B) (c:C) (h0:p0 a b c) (h1:p1 a b c) (h2:p2 a b c):∃ a b c,p0 a b c/\p1 a b c/\p2 a b c:=⟨a,b,c,h0,h1,h2⟩
theorem fc.{u0,u1,u2}{A:Sort u0}{B:Sort u1}{C:Sort u2}{p0 p1 p2 p3:A->B->C->Prop}(a:A) (b:B) (c:C) (h0:p0 a b c) (h1:p1 a b c) (h2:p2 a b c) (h3:p3 a b c):∃ a b c,p0 a b c/\p1 a b c/\p2 a b c/\p3 a b c:=⟨a,b,c,h0,h1,h2,h3⟩
theorem sr.{u0,u1,u2}{A:Sort u0}{B:Sort u1}{C:Sort u2}{p0 p1 p2 p3 p4:A->B->C->Prop}(a:A) (b:B) (c:C) (h0:p0 a b c) (h1:p1 a b c) (h2:p2 a b c) (h3:p3 a b c) (h4:p4 a b c):∃ a b c,p0 a b c/\p1 a b c/\p2 a b c/\p3 a b c/\p4 a b c:=⟨a,b,c,h0,h1,h2,h3,h4⟩
theorem eX.{u0,u1,u2}{A:Sort u0}{B:Sort u1}{C:Sort u2}{p0 p1 p2 p3 p4 p5:A->B->C->Prop}(a:A) (b:B) (c:C) (h0:p0 a b c) (h1:p1 a b c) (h2:p2 a b c) (h3:p3 a b c) (h4:p4 a b c) (h5:p5 a b c):∃ a b c,p0 a b c/\p1 a b c/\p2 a b c/\p3 a b c/\p4 a b c/\p5 a b c:=⟨a,b,c,h0,h1,h2,h3,h4,h5⟩
theorem lq.{u0,u1,u2}{A:Sort u0}{B:Sort u1}{C:Sort u2}{p0 p1 p2 p3 p4 p5 p6:A->B->C->Prop}(a:A) (b:B) (c:C) (h0:p0 a b c) (h1:p1 a b c) (h2:p2 a b c) (h3:p3 a b c) (h4:p4 a b c) (h5:p5 a b c) (h6:p6 a b c):∃ a b c,p0 a b c/\p1 a b c/\p2 a b c/\p3 a b c/\p4 a b c/\p5 a b c/\p6 a b c:=⟨a,b,c,h0,h1,h2,h3,h4,h5,h6⟩
theorem dY.{u0,u1,u2,u3}{A:Sort u0}{B:Sort u1}{C:Sort u2}{D:Sort u3}{p0 p1:A->B->C->D->Prop}(a:A) (b:B) (c:C) (d:D) (h0:p0 a b c d) (h1:p1 a b c d):∃ a b c d,p0 a b c d/\p1 a b c d:=⟨a,b,c,d,h0,h1⟩
theorem g9.{u0,u1,u2,u3}{A:Sort u0}{B:Sort u1}{C:Sort u2}{D:Sort u3}{p0 p1 p2 p3:A->B->C->D->Prop}(a:A) (b:B) (c:C) (d:D) (h0:p0 a b c d) (h1:p1 a b c d) (h2:p2 a b c d) (h3:p3 a b c d):∃ a b c d,p0 a b c d/\p1 a b c d/\p2 a b c d/\p3 a b c d:=⟨a,b,c,d,h0,h1,h2,h3⟩
theorem jH.{u0,u1,u2,u3}{A:Sort u0}{B:Sort u1}{C:Sort u2}{D:Sort u3}{p0 p1 p2 p3 p4:A->B->C->D->Prop}(a:A) (b:B) (c:C) (d:D) (h0:p0 a b c d) (h1:p1 a b c d) (h2:p2 a b c d) (h3:p3 a b c d) (h4:p4 a b c d):∃ a b c d,p0 a b c d/\p1 a b c d/\p2 a b c d/\p3 a b c d/\p4 a b c d:=⟨a,b,c,d,h0,h1,h2,h3,h4⟩
theorem tC.{u0,u1,u2,u3}{A:Sort u0}{B:Sort u1}{C:Sort u2}{D:Sort u3}{p0 p1 p2 p3 p4 p5 p6 p7:A->B->C->D->Prop}(a:A) (b:B) (c:C) (d:D) (h0:p0 a b c d) (h1:p1 a b c d) (h2:p2 a b c d) (h3:p3 a b c d) (h4:p4 a b c d) (h5:p5 a b c d) (h6:p6 a b c d) (h7:p7 a b c d):∃ a b c d,p0 a b c d/\p1 a b c d/\p2 a b c d/\p3 a b c d/\p4 a b c d/\p5 a b c d/\p6 a b c d/\p7 a b c d:=⟨a,b,c,d,h0,h1,h2,h3,h4,h5,h6,h7⟩
theorem rP.{u0,u1,u2,u3,u4}{A:Sort u0}{B:Sort u1}{C:Sort u2}{D:Sort u3}{E:Sort u4}{p0 p1:A->B->C->D->E->Prop}(a:A) (b:B) (c:C) (d:D) (e:E) (h0:p0 a b c d e) (h1:p1 a b c d e):∃ a b c d e,p0 a b c d e/\p1 a b c d e:=⟨a,b,c,d,e,h0,h1⟩
theorem rp.{u0,u1,u2,u3,u4}{A:Sort u0}{B:Sort u1}{C:Sort u2}{D:Sort u3}{E:Sort u4}{p0 p1 p2 p3:A->B->C->D->E->Prop}(a:A) (b:B) (c:C) (d:D) (e:E) (h0:p0 a b c d e) (h1:p1 a b c d e) (h2:p2 a b c d e) (h3:p3 a b c d e):∃ a b c d e,p0 a b c d e/\p1 a b c d e/\p2 a b c d e/\p3 a b c d e:=⟨a,b,c,d,e,h0,h1,h2,h3⟩
theorem xN.{u0,u1,u2,u3,u4,u5}{A:Sort u0}{B:Sort u1}{C:Sort u2}{D:Sort u3}{E:Sort u4}{F:Sort u5}{p0 p1:A->B->C->D->E->F->Prop}(a:A) (b:B) (c:C) (d:D) (e:E) (f:F) (h0:p0 a b c d e f) (h1:p1 a b c d e f):∃ a b c d e f,p0 a b c d e f/\p1 a b c d e f:=⟨a,b,c,d,e,f,h0,h1⟩
theorem jG.{u0,u1,u2,u3,u4,u5,u6}{A:Sort u0}{B:Sort u1}{C:Sort u2}{D:Sort u3}{E:Sort u4}{F:Sort u5}{H:Sort u6}{p0 p1:A->B->C->D->E->F->H->Prop}(a:A) (b:B) (c:C) (d:D) (e:E) (f:F) (g:H) (h0:p0 a b c d e f g) (h1:p1 a b c d e f g):∃ a b c d e f g,p0 a b c d e f g/\p1 a b c d e f g:=⟨a,b,c,d,e,f,g,h0,h1⟩
theorem AE.{u0,u1,u2,u3,u4,u5,u6}{A:Sort u0}{B:Sort u1}{C:Sort u2}{D:Sort u3}{E:Sort u4}{F:Sort u5}{H:Sort u6}{p0 p1 p2 p3 p4 p5 p6:A->B->C->D->E->F->H->Prop}(a:A) (b:B) (c:C) (d:D) (e:E) (f:F) (g:H) (h0:p0 a b c d e f g) (h1:p1 a b c d e f g) (h2:p2 a b c d e f g) (h3:p3 a b c d e f g) (h4:p4 a b c d e f g) (h5:p5 a b c d e f g) (h6:p6 a b c d e f g):∃ a b c d e f g,p0 a b c d e f g/\p1 a b c d e f g/\p2 a b c d e f g/\p3 a b c d e f g/\p4 a b c d e f g/\p5 a b c d e f g/\p6 a b c d e f g:=⟨a,b,c,d,e,f,g,h0,h1,h2,h3,h4,h5,h6⟩
theorem ua.{u0,u1,u2,u3,u4,u5,u6,u7}{A:Sort u0}{B:Sort u1}{C:Sort u2}{D:Sort u3}{E:Sort u4}{F:Sort u5}{H:Sort u6}{I:Sort u7}{p0 p1:A->B->C->D->E->F->H->I->Prop}(a:A) (b:B) (c:C) (d:D) (e:E) (f:F) (g:H) (i:I) (h0:p0 a b c d e f g i) (h1:p1 a b c d e f g i):∃ a b c d e f g i,p0 a b c d e f g i/\p1 a b c d e f g i:=⟨a,b,c,d,e,f,g,i,h0,h1⟩
theorem gL.{u0,u1,u2,u3,u4,u5,u6,u7}{A:Sort u0}{B:Sort u1}{C:Sort u2}{D:Sort u3}{E:Sort u4}{F:Sort u5}{H:Sort u6}{I:Sort u7}{p0 p1 p2 p3 p4 p5 p6 p7 p8 p9 p10 p11 p12 p13:A->B->C->D->E->F->H->I->Prop}(a:A) (b:B) (c:C) (d:D) (e:E) (f:F) (g:H) (i:I) (h0:p0 a b c d e f g i) (h1:p1 a b c d e f g i) (h2:p2 a b c d e f g i) (h3:p3 a b c d e f g i) (h4:p4 a b c d e f g i) (h5:p5 a b c d e f g i) (h6:p6 a b c d e f g i) (h7:p7 a b c d e f g i) (h8:p8 a b c d e f g i) (h9:p9 a b c d e f g i) (h10:p10 a b c d e f g i) (h11:p11 a b c d e f g i) (h12:p12 a b c d e f g i) (h13:p13 a b c d e f g i):∃ a b c d e f g i,p0 a b c d e f g i/\p1 a b c d e f g i/\p2 a b c d e f g i/\p3 a b c d e f g i/\p4 a b c d e f g i/\p5 a b c d e f g i/\p6 a b c d e f g i/\p7 a b c d e f g i/\p8 a b c d e f g i/\p9 a b c d e f g i/\p10 a b c d e f g i/\p11 a b c d e f g i/\p12 a b c d e f g i/\p13 a b c d e f g i:=⟨a,b,c,d,e,f,g,i,h0,h1,h2,h3,h4,h5,h6,h7,h8,h9,h10,h11,h12,h13⟩
theorem pF.{u0,u1,u2,u3,u4,u5,u6,u7,u8}{A:Sort u0}{B:Sort u1}{C:Sort u2}{D:Sort u3}{E:Sort u4}{F:Sort u5}{H:Sort u6}{I:Sort u7}{J:Sort u8}{p0 p1 p2 p3 p4 p5 p6 p7 p8 p9 p10 p11 p12 p13:A->B->C->D->E->F->H->I->J->Prop}(a:A) (b:B) (c:C) (d:D) (e:E) (f:F) (g:H) (i:I) (j:J) (h0:p0 a b c d e f g i j) (h1:p1 a b c d e f g i j) (h2:p2 a b c d e f g i j) (h3:p3 a b c d e f g i j) (h4:p4 a b c d e f g i j) (h5:p5 a b c d e f g i j) (h6:p6 a b c d e f g i j) (h7:p7 a b c d e f g i j) (h8:p8 a b c d e f g i j) (h9:p9 a b c d e f g i j) (h10:p10 a b c d e f g i j) (h11:p11 a b c d e f g i j) (h12:p12 a b c d e f g i j) (h13:p13 a b c d e f g i j):∃ a b c d e f g i j,p0 a b c d e f g i j/\p1 a b c d e f g i j/\p2 a b c d e f g i j/\p3 a b c d e f g i j/\p4 a b c d e f g i j/\p5 a b c d e f g i j/\p6 a b c d e f g i j/\p7 a b c d e f g i j/\p8 a b c d e f g i j/\p9 a b c d e f g i j/\p10 a b c d e f g i j/\p11 a b c d e f g i j/\p12 a b c d e f g i j/\p13 a b c d e f g i j:=⟨a,b,c,d,e,f,g,i,j,h0,h1,h2,h3,h4,h5,h6,h7,h8,h9,h10,h11,h12,h13⟩
end Mine
namespace Mine
section
variable {G:Prop}
theorem ae  {p0 p1:Prop}(h:p0/\p1) (k:p0->p1->G):G:=by
 obtain ⟨h0,h1⟩:=h
 exact k h0 h1
theorem ai.{u0}{A:Sort u0}{p0:A->Prop}(h:∃ a,p0 a) (k:∀ a,p0 a->G):G:=by
 obtain ⟨a,h0⟩:=h
 exact k a h0
theorem aD  {p0 p1 p2:Prop}(h:p0/\p1/\p2) (k:p0->p1->p2->G):G:=by
 obtain ⟨h0,h1,h2⟩:=h
 exact k h0 h1 h2
theorem af.{u0}{A:Sort u0}{p0 p1:A->Prop}(h:∃ a,p0 a/\p1 a) (k:∀ a,p0 a->p1 a->G):G:=by
 obtain ⟨a,h0,h1⟩:=h
 exact k a h0 h1
theorem bg.{u0,u1}{A:Sort u0}{B:Sort u1}{p0:A->B->Prop}(h:∃ a b,p0 a b) (k:∀ a b,p0 a b->G):G:=by
 obtain ⟨a,b,h0⟩:=h
 exact k a b h0
theorem cJ  {p0 p1 p2 p3:Prop}(h:p0/\p1/\p2/\p3) (k:p0->p1->p2->p3->G):G:=by
 obtain ⟨h0,h1,h2,h3⟩:=h
 exact k h0 h1 h2 h3
theorem ao.{u0}{A:Sort u0}{p0 p1 p2:A->Prop}(h:∃ a,p0 a/\p1 a/\p2 a) (k:∀ a,p0 a->p1 a->p2 a->G):G:=by
 obtain ⟨a,h0,h1,h2⟩:=h
 exact k a h0 h1 h2
theorem av.{u0,u1}{A:Sort u0}{B:Sort u1}{p0 p1:A->B->Prop}(h:∃ a b,p0 a b/\p1 a b) (k:∀ a b,p0 a b->p1 a b->G):G:=by
 obtain ⟨a,b,h0,h1⟩:=h
 exact k a b h0 h1
theorem xA.{u0,u1,u2}{A:Sort u0}{B:Sort u1}{C:Sort u2}{p0:A->B->C->Prop}(h:∃ a b c,p0 a b c) (k:∀ a b c,p0 a b c->G):G:=by
 obtain ⟨a,b,c,h0⟩:=h
 exact k a b c h0
theorem cw.{u0}{A:Sort u0}{p0 p1 p2 p3:A->Prop}(h:∃ a,p0 a/\p1 a/\p2 a/\p3 a) (k:∀ a,p0 a->p1 a->p2 a->p3 a->G):G:=by
 obtain ⟨a,h0,h1,h2,h3⟩:=h
 exact k a h0 h1 h2 h3
theorem aA.{u0,u1}{A:Sort u0}{B:Sort u1}{p0 p1 p2:A->B->Prop}(h:∃ a b,p0 a b/\p1 a b/\p2 a b) (k:∀ a b,p0 a b->p1 a b->p2 a b->G):G:=by
 obtain ⟨a,b,h0,h1,h2⟩:=h
 exact k a b h0 h1 h2
theorem bn.{u0,u1,u2}{A:Sort u0}{B:Sort u1}{C:Sort u2}{p0 p1:A->B->C->Prop}(h:∃ a b c,p0 a b c/\p1 a b c) (k:∀ a b c,p0 a b c->p1 a b c->G):G:=by
 obtain ⟨a,b,c,h0,h1⟩:=h
 exact k a b c h0 h1
theorem Cy.{u0,u1,u2,u3}{A:Sort u0}{B:Sort u1}{C:Sort u2}{D:Sort u3}{p0:A->B->C->D->Prop}(h:∃ a b c d,p0 a b c d) (k:∀ a b c d,p0 a b c d->G):G:=by
 obtain ⟨a,b,c,d,h0⟩:=h
 exact k a b c d h0
theorem jr.{u0}{A:Sort u0}{p0 p1 p2 p3 p4:A->Prop}(h:∃ a,p0 a/\p1 a/\p2 a/\p3 a/\p4 a) (k:∀ a,p0 a->p1 a->p2 a->p3 a->p4 a->G):G:=by
 obtain ⟨a,h0,h1,h2,h3,h4⟩:=h
 exact k a h0 h1 h2 h3 h4
theorem a7.{u0,u1}{A:Sort u0}{B:Sort u1}{p0 p1 p2 p3:A->B->Prop}(h:∃ a b,p0 a b/\p1 a b/\p2 a b/\p3 a b) (k:∀ a b,p0 a b->p1 a b->p2 a b->p3 a b->G):G:=by
 obtain ⟨a,b,h0,h1,h2,h3⟩:=h
 exact k a b h0 h1 h2 h3
theorem aI.{u0,u1,u2}{A:Sort u0}{B:Sort u1}{C:Sort u2}{p0 p1 p2:A->B->C->Prop}(h:∃ a b c,p0 a b c/\p1 a b c/\p2 a b c) (k:∀ a b c,p0 a b c->p1 a b c->p2 a b c->G):G:=by
 obtain ⟨a,b,c,h0,h1,h2⟩:=h
 exact k a b c h0 h1 h2
theorem cb.{u0,u1,u2,u3}{A:Sort u0}{B:Sort u1}{C:Sort u2}{D:Sort u3}{p0 p1:A->B->C->D->Prop}(h:∃ a b c d,p0 a b c d/\p1 a b c d) (k:∀ a b c d,p0 a b c d->p1 a b c d->G):G:=by
 obtain ⟨a,b,c,d,h0,h1⟩:=h
 exact k a b c d h0 h1
theorem iz.{u0}{A:Sort u0}{p0 p1 p2 p3 p4 p5:A->Prop}(h:∃ a,p0 a/\p1 a/\p2 a/\p3 a/\p4 a/\p5 a) (k:∀ a,p0 a->p1 a->p2 a->p3 a->p4 a->p5 a->G):G:=by
 obtain ⟨a,h0,h1,h2,h3,h4,h5⟩:=h
 exact k a h0 h1 h2 h3 h4 h5
theorem f8.{u0,u1}{A:Sort u0}{B:Sort u1}{p0 p1 p2 p3 p4:A->B->Prop}(h:∃ a b,p0 a b/\p1 a b/\p2 a b/\p3 a b/\p4 a b) (k:∀ a b,p0 a b->p1 a b->p2 a b->p3 a b->p4 a b->G):G:=by
 obtain ⟨a,b,h0,h1,h2,h3,h4⟩:=h
 exact k a b h0 h1 h2 h3 h4
theorem dh.{u0,u1,u2}{A:Sort u0}{B:Sort u1}{C:Sort u2}{p0 p1 p2 p3:A->B->C->Prop}(h:∃ a b c,p0 a b c/\p1 a b c/\p2 a b c/\p3 a b c) (k:∀ a b c,p0 a b c->p1 a b c->p2 a b c->p3 a b c->G):G:=by
 obtain ⟨a,b,c,h0,h1,h2,h3⟩:=h
 exact k a b c h0 h1 h2 h3
theorem jz.{u0,u1,u2,u3}{A:Sort u0}{B:Sort u1}{C:Sort u2}{D:Sort u3}{p0 p1 p2:A->B->C->D->Prop}(h:∃ a b c d,p0 a b c d/\p1 a b c d/\p2 a b c d) (k:∀ a b c d,p0 a b c d->p1 a b c d->p2 a b c d->G):G:=by
 obtain ⟨a,b,c,d,h0,h1,h2⟩:=h
 exact k a b c d h0 h1 h2
theorem jE.{u0,u1,u2,u3,u4}{A:Sort u0}{B:Sort u1}{C:Sort u2}{D:Sort u3}{E:Sort u4}{p0 p1:A->B->C->D->E->Prop}(h:∃ a b c d e,p0 a b c d e/\p1 a b c d e) (k:∀ a b c d e,p0 a b c d e->p1 a b c d e->G):G:=by
 obtain ⟨a,b,c,d,e,h0,h1⟩:=h
 exact k a b c d e h0 h1
theorem xt.{u0}{A:Sort u0}{p0 p1 p2 p3 p4 p5 p6:A->Prop}(h:∃ a,p0 a/\p1 a/\p2 a/\p3 a/\p4 a/\p5 a/\p6 a) (k:∀ a,p0 a->p1 a->p2 a->p3 a->p4 a->p5 a->p6 a->G):G:=by
 obtain ⟨a,h0,h1,h2,h3,h4,h5,h6⟩:=h
 exact k a h0 h1 h2 h3 h4 h5 h6
theorem nu.{u0,u1}{A:Sort u0}{B:Sort u1}{p0 p1 p2 p3 p4 p5:A->B->Prop}(h:∃ a b,p0 a b/\p1 a b/\p2 a b/\p3 a b/\p4 a b/\p5 a b) (k:∀ a b,p0 a b->p1 a b->p2 a b->p3 a b->p4 a b->p5 a b->G):G:=by
 obtain ⟨a,b,h0,h1,h2,h3,h4,h5⟩:=h
 exact k a b h0 h1 h2 h3 h4 h5
theorem nv.{u0,u1,u2}{A:Sort u0}{B:Sort u1}{C:Sort u2}{p0 p1 p2 p3 p4:A->B->C->Prop}(h:∃ a b c,p0 a b c/\p1 a b c/\p2 a b c/\p3 a b c/\p4 a b c) (k:∀ a b c,p0 a b c->p1 a b c->p2 a b c->p3 a b c->p4 a b c->G):G:=by
 obtain ⟨a,b,c,h0,h1,h2,h3,h4⟩:=h
 exact k a b c h0 h1 h2 h3 h4
theorem fU.{u0,u1,u2,u3}{A:Sort u0}{B:Sort u1}{C:Sort u2}{D:Sort u3}{p0 p1 p2 p3:A->B->C->D->Prop}(h:∃ a b c d,p0 a b c d/\p1 a b c d/\p2 a b c d/\p3 a b c d) (k:∀ a b c d,p0 a b c d->p1 a b c d->p2 a b c d->p3 a b c d->G):G:=by
 obtain ⟨a,b,c,d,h0,h1,h2,h3⟩:=h
 exact k a b c d h0 h1 h2 h3
theorem Bl.{u0,u1,u2,u3,u4}{A:Sort u0}{B:Sort u1}{C:Sort u2}{D:Sort u3}{E:Sort u4}{p0 p1 p2:A->B->C->D->E->Prop}(h:∃ a b c d e,p0 a b c d e/\p1 a b c d e/\p2 a b c d e) (k:∀ a b c d e,p0 a b c d e->p1 a b c d e->p2 a b c d e->G):G:=by
 obtain ⟨a,b,c,d,e,h0,h1,h2⟩:=h
 exact k a b c d e h0 h1 h2
theorem nw.{u0,u1,u2,u3,u4,u5}{A:Sort u0}{B:Sort u1}{C:Sort u2}{D:Sort u3}{E:Sort u4}{F:Sort u5}{p0 p1:A->B->C->D->E->F->Prop}(h:∃ a b c d e f,p0 a b c d e f/\p1 a b c d e f) (k:∀ a b c d e f,p0 a b c d e f->p1 a b c d e f->G):G:=by
 obtain ⟨a,b,c,d,e,f,h0,h1⟩:=h
 exact k a b c d e f h0 h1
theorem k9.{u0,u1}{A:Sort u0}{B:Sort u1}{p0 p1 p2 p3 p4 p5 p6:A->B->Prop}(h:∃ a b,p0 a b/\p1 a b/\p2 a b/\p3 a b/\p4 a b/\p5 a b/\p6 a b) (k:∀ a b,p0 a b->p1 a b->p2 a b->p3 a b->p4 a b->p5 a b->p6 a b->G):G:=by
 obtain ⟨a,b,h0,h1,h2,h3,h4,h5,h6⟩:=h
 exact k a b h0 h1 h2 h3 h4 h5 h6
theorem cQ.{u0,u1,u2}{A:Sort u0}{B:Sort u1}{C:Sort u2}{p0 p1 p2 p3 p4 p5:A->B->C->Prop}(h:∃ a b c,p0 a b c/\p1 a b c/\p2 a b c/\p3 a b c/\p4 a b c/\p5 a b c) (k:∀ a b c,p0 a b c->p1 a b c->p2 a b c->p3 a b c->p4 a b c->p5 a b c->G):G:=by
 obtain ⟨a,b,c,h0,h1,h2,h3,h4,h5⟩:=h
 exact k a b c h0 h1 h2 h3 h4 h5
theorem EO.{u0,u1,u2,u3}{A:Sort u0}{B:Sort u1}{C:Sort u2}{D:Sort u3}{p0 p1 p2 p3 p4:A->B->C->D->Prop}(h:∃ a b c d,p0 a b c d/\p1 a b c d/\p2 a b c d/\p3 a b c d/\p4 a b c d) (k:∀ a b c d,p0 a b c d->p1 a b c d->p2 a b c d->p3 a b c d->p4 a b c d->G):G:=by
 obtain ⟨a,b,c,d,h0,h1,h2,h3,h4⟩:=h
 exact k a b c d h0 h1 h2 h3 h4
theorem rN.{u0,u1,u2,u3,u4}{A:Sort u0}{B:Sort u1}{C:Sort u2}{D:Sort u3}{E:Sort u4}{p0 p1 p2 p3:A->B->C->D->E->Prop}(h:∃ a b c d e,p0 a b c d e/\p1 a b c d e/\p2 a b c d e/\p3 a b c d e) (k:∀ a b c d e,p0 a b c d e->p1 a b c d e->p2 a b c d e->p3 a b c d e->G):G:=by
 obtain ⟨a,b,c,d,e,h0,h1,h2,h3⟩:=h
 exact k a b c d e h0 h1 h2 h3
theorem g7.{u0,u1,u2,u3,u4,u5,u6}{A:Sort u0}{B:Sort u1}{C:Sort u2}{D:Sort u3}{E:Sort u4}{F:Sort u5}{H:Sort u6}{p0 p1:A->B->C->D->E->F->H->Prop}(h:∃ a b c d e f g,p0 a b c d e f g/\p1 a b c d e f g) (k:∀ a b c d e f g,p0 a b c d e f g->p1 a b c d e f g->G):G:=by
 obtain ⟨a,b,c,d,e,f,g,h0,h1⟩:=h
 exact k a b c d e f g h0 h1
theorem z3.{u0,u1,u2}{A:Sort u0}{B:Sort u1}{C:Sort u2}{p0 p1 p2 p3 p4 p5 p6:A->B->C->Prop}(h:∃ a b c,p0 a b c/\p1 a b c/\p2 a b c/\p3 a b c/\p4 a b c/\p5 a b c/\p6 a b c) (k:∀ a b c,p0 a b c->p1 a b c->p2 a b c->p3 a b c->p4 a b c->p5 a b c->p6 a b c->G):G:=by
 obtain ⟨a,b,c,h0,h1,h2,h3,h4,h5,h6⟩:=h
 exact k a b c h0 h1 h2 h3 h4 h5 h6
theorem Ae.{u0,u1,u2,u3,u4}{A:Sort u0}{B:Sort u1}{C:Sort u2}{D:Sort u3}{E:Sort u4}{p0 p1 p2 p3 p4:A->B->C->D->E->Prop}(h:∃ a b c d e,p0 a b c d e/\p1 a b c d e/\p2 a b c d e/\p3 a b c d e/\p4 a b c d e) (k:∀ a b c d e,p0 a b c d e->p1 a b c d e->p2 a b c d e->p3 a b c d e->p4 a b c d e->G):G:=by
 obtain ⟨a,b,c,d,e,h0,h1,h2,h3,h4⟩:=h
 exact k a b c d e h0 h1 h2 h3 h4
theorem A1.{u0,u1,u2,u3,u4,u5,u6,u7}{A:Sort u0}{B:Sort u1}{C:Sort u2}{D:Sort u3}{E:Sort u4}{F:Sort u5}{H:Sort u6}{I:Sort u7}{p0 p1:A->B->C->D->E->F->H->I->Prop}(h:∃ a b c d e f g i,p0 a b c d e f g i/\p1 a b c d e f g i) (k:∀ a b c d e f g i,p0 a b c d e f g i->p1 a b c d e f g i->G):G:=by
 obtain ⟨a,b,c,d,e,f,g,i,h0,h1⟩:=h
 exact k a b c d e f g i h0 h1
theorem AI.{u0,u1,u2,u3,u4}{A:Sort u0}{B:Sort u1}{C:Sort u2}{D:Sort u3}{E:Sort u4}{p0 p1 p2 p3 p4 p5:A->B->C->D->E->Prop}(h:∃ a b c d e,p0 a b c d e/\p1 a b c d e/\p2 a b c d e/\p3 a b c d e/\p4 a b c d e/\p5 a b c d e) (k:∀ a b c d e,p0 a b c d e->p1 a b c d e->p2 a b c d e->p3 a b c d e->p4 a b c d e->p5 a b c d e->G):G:=by
 obtain ⟨a,b,c,d,e,h0,h1,h2,h3,h4,h5⟩:=h
 exact k a b c d e h0 h1 h2 h3 h4 h5
theorem Ac.{u0,u1}{A:Sort u0}{B:Sort u1}{p0 p1 p2 p3 p4 p5 p6 p7 p8 p9:A->B->Prop}(h:∃ a b,p0 a b/\p1 a b/\p2 a b/\p3 a b/\p4 a b/\p5 a b/\p6 a b/\p7 a b/\p8 a b/\p9 a b) (k:∀ a b,p0 a b->p1 a b->p2 a b->p3 a b->p4 a b->p5 a b->p6 a b->p7 a b->p8 a b->p9 a b->G):G:=by
 obtain ⟨a,b,h0,h1,h2,h3,h4,h5,h6,h7,h8,h9⟩:=h
 exact k a b h0 h1 h2 h3 h4 h5 h6 h7 h8 h9
theorem Ah.{u0,u1,u2,u3}{A:Sort u0}{B:Sort u1}{C:Sort u2}{D:Sort u3}{p0 p1 p2 p3 p4 p5 p6 p7:A->B->C->D->Prop}(h:∃ a b c d,p0 a b c d/\p1 a b c d/\p2 a b c d/\p3 a b c d/\p4 a b c d/\p5 a b c d/\p6 a b c d/\p7 a b c d) (k:∀ a b c d,p0 a b c d->p1 a b c d->p2 a b c d->p3 a b c d->p4 a b c d->p5 a b c d->p6 a b c d->p7 a b c d->G):G:=by
 obtain ⟨a,b,c,d,h0,h1,h2,h3,h4,h5,h6,h7⟩:=h
 exact k a b c d h0 h1 h2 h3 h4 h5 h6 h7
theorem eB.{u0,u1,u2,u3,u4,u5,u6,u7,u8,u9,u10,u11}{A:Sort u0}{B:Sort u1}{C:Sort u2}{D:Sort u3}{E:Sort u4}{F:Sort u5}{H:Sort u6}{I:Sort u7}{J:Sort u8}{K:Sort u9}{L:Sort u10}{M:Sort u11}{p0:A->B->C->D->E->F->H->I->J->K->L->M->Prop}(h:∃ a b c d e f g i j l m n,p0 a b c d e f g i j l m n) (k:∀ a b c d e f g i j l m n,p0 a b c d e f g i j l m n->G):G:=by
 obtain ⟨a,b,c,d,e,f,g,i,j,l,m,n,h0⟩:=h
 exact k a b c d e f g i j l m n h0
theorem tU.{u0,u1,u2,u3}{A:Sort u0}{B:Sort u1}{C:Sort u2}{D:Sort u3}{p0 p1 p2 p3 p4 p5 p6 p7 p8 p9:A->B->C->D->Prop}(h:∃ a b c d,p0 a b c d/\p1 a b c d/\p2 a b c d/\p3 a b c d/\p4 a b c d/\p5 a b c d/\p6 a b c d/\p7 a b c d/\p8 a b c d/\p9 a b c d) (k:∀ a b c d,p0 a b c d->p1 a b c d->p2 a b c d->p3 a b c d->p4 a b c d->p5 a b c d->p6 a b c d->p7 a b c d->p8 a b c d->p9 a b c d->G):G:=by
 obtain ⟨a,b,c,d,h0,h1,h2,h3,h4,h5,h6,h7,h8,h9⟩:=h
 exact k a b c d h0 h1 h2 h3 h4 h5 h6 h7 h8 h9
theorem tS.{u0,u1}{A:Sort u0}{B:Sort u1}{p0 p1 p2 p3 p4 p5 p6 p7 p8 p9 p10 p11 p12:A->B->Prop}(h:∃ a b,p0 a b/\p1 a b/\p2 a b/\p3 a b/\p4 a b/\p5 a b/\p6 a b/\p7 a b/\p8 a b/\p9 a b/\p10 a b/\p11 a b/\p12 a b) (k:∀ a b,p0 a b->p1 a b->p2 a b->p3 a b->p4 a b->p5 a b->p6 a b->p7 a b->p8 a b->p9 a b->p10 a b->p11 a b->p12 a b->G):G:=by
 obtain ⟨a,b,h0,h1,h2,h3,h4,h5,h6,h7,h8,h9,h10,h11,h12⟩:=h
 exact k a b h0 h1 h2 h3 h4 h5 h6 h7 h8 h9 h10 h11 h12
theorem uC.{u0,u1,u2,u3,u4,u5}{A:Sort u0}{B:Sort u1}{C:Sort u2}{D:Sort u3}{E:Sort u4}{F:Sort u5}{p0 p1 p2 p3 p4 p5 p6 p7 p8:A->B->C->D->E->F->Prop}(h:∃ a b c d e f,p0 a b c d e f/\p1 a b c d e f/\p2 a b c d e f/\p3 a b c d e f/\p4 a b c d e f/\p5 a b c d e f/\p6 a b c d e f/\p7 a b c d e f/\p8 a b c d e f) (k:∀ a b c d e f,p0 a b c d e f->p1 a b c d e f->p2 a b c d e f->p3 a b c d e f->p4 a b c d e f->p5 a b c d e f->p6 a b c d e f->p7 a b c d e f->p8 a b c d e f->G):G:=by
 obtain ⟨a,b,c,d,e,f,h0,h1,h2,h3,h4,h5,h6,h7,h8⟩:=h
 exact k a b c d e f h0 h1 h2 h3 h4 h5 h6 h7 h8
theorem AU.{u0,u1,u2,u3,u4,u5,u6}{A:Sort u0}{B:Sort u1}{C:Sort u2}{D:Sort u3}{E:Sort u4}{F:Sort u5}{H:Sort u6}{p0 p1 p2 p3 p4 p5 p6 p7 p8:A->B->C->D->E->F->H->Prop}(h:∃ a b c d e f g,p0 a b c d e f g/\p1 a b c d e f g/\p2 a b c d e f g/\p3 a b c d e f g/\p4 a b c d e f g/\p5 a b c d e f g/\p6 a b c d e f g/\p7 a b c d e f g/\p8 a b c d e f g) (k:∀ a b c d e f g,p0 a b c d e f g->p1 a b c d e f g->p2 a b c d e f g->p3 a b c d e f g->p4 a b c d e f g->p5 a b c d e f g->p6 a b c d e f g->p7 a b c d e f g->p8 a b c d e f g->G):G:=by
 obtain ⟨a,b,c,d,e,f,g,h0,h1,h2,h3,h4,h5,h6,h7,h8⟩:=h
 exact k a b c d e f g h0 h1 h2 h3 h4 h5 h6 h7 h8
theorem zR.{u0,u1,u2,u3,u4,u5,u6,u7}{A:Sort u0}{B:Sort u1}{C:Sort u2}{D:Sort u3}{E:Sort u4}{F:Sort u5}{H:Sort u6}{I:Sort u7}{p0 p1 p2 p3 p4 p5 p6 p7 p8:A->B->C->D->E->F->H->I->Prop}(h:∃ a b c d e f g i,p0 a b c d e f g i/\p1 a b c d e f g i/\p2 a b c d e f g i/\p3 a b c d e f g i/\p4 a b c d e f g i/\p5 a b c d e f g i/\p6 a b c d e f g i/\p7 a b c d e f g i/\p8 a b c d e f g i) (k:∀ a b c d e f g i,p0 a b c d e f g i->p1 a b c d e f g i->p2 a b c d e f g i->p3 a b c d e f g i->p4 a b c d e f g i->p5 a b c d e f g i->p6 a b c d e f g i->p7 a b c d e f g i->p8 a b c d e f g i->G):G:=by
 obtain ⟨a,b,c,d,e,f,g,i,h0,h1,h2,h3,h4,h5,h6,h7,h8⟩:=h
 exact k a b c d e f g i h0 h1 h2 h3 h4 h5 h6 h7 h8
theorem zw.{u0,u1,u2,u3,u4,u5,u6,u7,u8,u9}{A:Sort u0}{B:Sort u1}{C:Sort u2}{D:Sort u3}{E:Sort u4}{F:Sort u5}{H:Sort u6}{I:Sort u7}{J:Sort u8}{K:Sort u9}{p0 p1 p2 p3 p4 p5 p6 p7 p8 p9 p10:A->B->C->D->E->F->H->I->J->K->Prop}(h:∃ a b c d e f g i j l,p0 a b c d e f g i j l/\p1 a b c d e f g i j l/\p2 a b c d e f g i j l/\p3 a b c d e f g i j l/\p4 a b c d e f g i j l/\p5 a b c d e f g i j l/\p6 a b c d e f g i j l/\p7 a b c d e f g i j l/\p8 a b c d e f g i j l/\p9 a b c d e f g i j l/\p10 a b c d e f g i j l) (k:∀ a b c d e f g i j l,p0 a b c d e f g i j l->p1 a b c d e f g i j l->p2 a b c d e f g i j l->p3 a b c d e f g i j l->p4 a b c d e f g i j l->p5 a b c d e f g i j l->p6 a b c d e f g i j l->p7 a b c d e f g i j l->p8 a b c d e f g i j l->p9 a b c d e f g i j l->p10 a b c d e f g i j l->G):G:=by
 obtain ⟨a,b,c,d,e,f,g,i,j,l,h0,h1,h2,h3,h4,h5,h6,h7,h8,h9,h10⟩:=h
 exact k a b c d e f g i j l h0 h1 h2 h3 h4 h5 h6 h7 h8 h9 h10
theorem gU.{u0,u1,u2,u3,u4,u5,u6,u7}{A:Sort u0}{B:Sort u1}{C:Sort u2}{D:Sort u3}{E:Sort u4}{F:Sort u5}{H:Sort u6}{I:Sort u7}{p0 p1 p2 p3 p4 p5 p6 p7 p8 p9 p10 p11 p12 p13:A->B->C->D->E->F->H->I->Prop}(h:∃ a b c d e f g i,p0 a b c d e f g i/\p1 a b c d e f g i/\p2 a b c d e f g i/\p3 a b c d e f g i/\p4 a b c d e f g i/\p5 a b c d e f g i/\p6 a b c d e f g i/\p7 a b c d e f g i/\p8 a b c d e f g i/\p9 a b c d e f g i/\p10 a b c d e f g i/\p11 a b c d e f g i/\p12 a b c d e f g i/\p13 a b c d e f g i) (k:∀ a b c d e f g i,p0 a b c d e f g i->p1 a b c d e f g i->p2 a b c d e f g i->p3 a b c d e f g i->p4 a b c d e f g i->p5 a b c d e f g i->p6 a b c d e f g i->p7 a b c d e f g i->p8 a b c d e f g i->p9 a b c d e f g i->p10 a b c d e f g i->p11 a b c d e f g i->p12 a b c d e f g i->p13 a b c d e f g i->G):G:=by
 obtain ⟨a,b,c,d,e,f,g,i,h0,h1,h2,h3,h4,h5,h6,h7,h8,h9,h10,h11,h12,h13⟩:=h
 exact k a b c d e f g i h0 h1 h2 h3 h4 h5 h6 h7 h8 h9 h10 h11 h12 h13
theorem AC.{u0,u1,u2,u3,u4,u5,u6,u7,u8}{A:Sort u0}{B:Sort u1}{C:Sort u2}{D:Sort u3}{E:Sort u4}{F:Sort u5}{H:Sort u6}{I:Sort u7}{J:Sort u8}{p0 p1 p2 p3 p4 p5 p6 p7 p8 p9 p10 p11 p12 p13:A->B->C->D->E->F->H->I->J->Prop}(h:∃ a b c d e f g i j,p0 a b c d e f g i j/\p1 a b c d e f g i j/\p2 a b c d e f g i j/\p3 a b c d e f g i j/\p4 a b c d e f g i j/\p5 a b c d e f g i j/\p6 a b c d e f g i j/\p7 a b c d e f g i j/\p8 a b c d e f g i j/\p9 a b c d e f g i j/\p10 a b c d e f g i j/\p11 a b c d e f g i j/\p12 a b c d e f g i j/\p13 a b c d e f g i j) (k:∀ a b c d e f g i j,p0 a b c d e f g i j->p1 a b c d e f g i j->p2 a b c d e f g i j->p3 a b c d e f g i j->p4 a b c d e f g i j->p5 a b c d e f g i j->p6 a b c d e f g i j->p7 a b c d e f g i j->p8 a b c d e f g i j->p9 a b c d e f g i j->p10 a b c d e f g i j->p11 a b c d e f g i j->p12 a b c d e f g i j->p13 a b c d e f g i j->G):G:=by
 obtain ⟨a,b,c,d,e,f,g,i,j,h0,h1,h2,h3,h4,h5,h6,h7,h8,h9,h10,h11,h12,h13⟩:=h
 exact k a b c d e f g i j h0 h1 h2 h3 h4 h5 h6 h7 h8 h9 h10 h11 h12 h13
theorem bA {a b:Bool}(h:(a&&b)=true):a=true/\b=true:=Bool.and_eq_true_iff.mp h
end
theorem aQ {α β:Type}{f:α->β}{l:List α}{b:β}{G:Prop}(h:b∈l.map f) (k:∀ a,a∈l->f a=b->G):G:=af (List.mem_map.mp h) k
theorem aZ {α β:Type}{o:Option α}{f:α->Option β}{b:β}{G:Prop}(h:o.bind f=some b) (k:∀ a,o=some a->f a=some b->G):G:=af (Option.bind_eq_some_iff.mp h) k
theorem be {α β:Type}{o:Option α}{f:α->β}{b:β}{G:Prop}(h:o.map f=some b) (k:∀ a,o=some a->f a=b->G):G:=af (Option.map_eq_some_iff.mp h) k
theorem bG {α:Type}{o:Option α}{G:Prop}(h:o.isSome=true) (k:∀ a,o=some a->G):G:=ai (Option.isSome_iff_exists.mp h) k
theorem wL {α:Type}{p:α->Bool}{l:List α}{a:α}{G:Prop}(h:a∈l.filter p) (k:a∈l->p a=true->G):G:=ae (List.mem_filter.mp h) k
theorem bX {a b:Bool}{G:Prop}(h:(a&&b)=true) (k:a=true->b=true->G):G:=ae (Bool.and_eq_true_iff.mp h) k
end Mine
namespace Mine
open PySem
inductive Mode where
 | sh | top | deep
 deriving DecidableEq
inductive V where
 | d (x:PyData)
 | dic0
 | dicI (ks:List Int)
 | dicT (ks:List (List Int))
 | rule (c:Int) (d:PyData) (n:Int)
 | err (c:String)
inductive Out (α:Type) where
 | ok (a:α)
 | exc (c:String)
 | bad
namespace Out
noncomputable def bind {α β:Type}:Out α->(α->Out β)->Out β
 | .ok a,f=>f a
 | .exc c,_=>.exc c
 | .bad,_=>.bad
@[simp] theorem ok_bind {α β:Type}(a:α) (f:α->Out β):(Out.ok a).bind f=f a:=rfl
@[simp] theorem exc_bind {α β:Type}(c:String) (f:α->Out β):(Out.exc c:Out α).bind f = .exc c:=rfl
@[simp] theorem Fw {α β:Type}(f:α->Out β):(Out.bad:Out α).bind f = .bad:=rfl
noncomputable def calm {α:Type}:Out α->Out α
 | .ok a=>.ok a
 | _=>.bad
@[simp] theorem calm_ok {α:Type}(a:α):(Out.ok a).calm = .ok a:=rfl
theorem _root_.Mine.nB {α:Type}{a:α}{G:Prop}(h:(Out.bad:Out α) = .ok a):G:=by cases h
theorem _root_.Mine.nE {α:Type}{a:α}{c:String}{G:Prop}(h:(Out.exc c:Out α) = .ok a):G:=by cases h
theorem _root_.Mine.nN {α:Type}{a:α}{G:Prop}(h:(none:Option α)=some a):G:=by cases h
theorem _root_.Mine.nM {α:Type}{a:α}{G:Prop}(h:some a=(none:Option α)):G:=by cases h
theorem _root_.Mine.nF {G:Prop}(h:false=true):G:=by cases h
theorem _root_.Mine.nT {G:Prop}(h:true=false):G:=by cases h
theorem yC {α β:Type}{o:Out α}{f:α->Out β}{b:β}(h:o.bind f = .ok b):∃ a,o = .ok a/\f a = .ok b:=by
 cases o with
 | ok a=>exact ⟨a,rfl,h⟩
 | exc c=>cases h
 | bad=>cases h
theorem bind_k {α β:Type}{o:Out α}{f:α->Out β}{b:β}{G:Prop}(h:o.bind f = .ok b) (k:∀ a,o = .ok a->f a = .ok b->G):G:=af (yC h) k
end Out
inductive BOp where
 | add | sub | mul | fdiv | mod | pow | xor
 deriving DecidableEq
inductive COp where
 | eq | ne | lt | gt | ge | isin | notin | isnot
 deriving DecidableEq
inductive B1 where
 | len | list | tuple | sorted | max
 deriving DecidableEq
inductive B2 where
mutual
inductive E where
 | name (x:String)
 | int (i:Int)
 | str (s:String)
 | bool (b:Bool)
 | none
 | bin (o:BOp) (a b:E)
 | neg (a:E)
 | not (a:E)
 | cmp (o:COp) (a b:E)
 | and (a b:E)
 | or (a b:E)
 | list (es:Es)
 | tup (es:Es)
 | edic
 | comp (elt:E) (x:String) (it:It)
 | compif (elt:E) (x:String) (it:It) (c:E)
 | sub (a i:E)
 | slo (a lo:E)
 | shi (a hi:E)
 | rev (a:E)
 | attr (a:E) (n:String)
 | bi1 (f:B1) (a:E)
 | isi (a:E) (t:String)
 | call (f:String) (es:Es)
 | isE (x t:String)
inductive Es where
 | nil
 | cons (e:E) (es:Es)
inductive It where
 | e (a:E)
 | r1 (n:E)
 | r2 (a b:E)
end
abbrev St:=String->Option (V×Mode)
abbrev Calls:=String->Option (List V->Out (V×Mode))
noncomputable def upd (σ:St) (x:String) (v:V×Mode):St:=fun y=>if y=x then some v else σ y
noncomputable def sx:PyData->Bool
 | .none | .bool _ | .int _ | .str _=>true
 | .list _ | .tuple _ | .dict _=>false
noncomputable def lD:V->Bool
 | .d x=>sx x
 | _=>false
noncomputable def mk (v:V):V×Mode:=(v,if lD v then .deep else .sh)
noncomputable def fresh (xs:List PyData):Mode:=if xs.all sx then .deep else .top
noncomputable def lim:Nat:=1000000
noncomputable def okc (d:PyData):Bool:=d.canLay0&&decide (d.depth≤64)
noncomputable def sI (i:Int):V×Mode:=(.d (.int i),.deep)
noncomputable def sB (b:Bool):V×Mode:=(.d (.bool b),.deep)
noncomputable def dN:PyData->Option Int
 | .int i=>some i
 | _=>none
noncomputable def aS:List PyData->Option (List Int)
 | []=>some []
 | .int i::r=>(aS r).map (i :: ·)
 | _::_=>none
noncomputable def dz:PyData->Option (List Int)
 | .tuple xs=>aS xs
 | _=>none
noncomputable def au {α β:Type}(o:Option α) (f:α->Out β):Out β:=match o with
 | some a=>f a
 | none=>.bad
theorem aT {α β:Type}{o:Option α}{f:α->Out β}{r:β}(h:au o f = .ok r):∃ a,o=some a/\f a = .ok r:=by
 cases o with
 | some a=>exact ⟨a,rfl,h⟩
 | none=>cases h
theorem aU {α β:Type}{o:Option α}{f:α->Out β}{r:β}{G:Prop}(h:au o f = .ok r) (k:∀ a,o=some a->f a = .ok r->G):G:=af (aT h) k
def NE {α:Type}(o:Out α):Prop:=∀ c,o≠.exc c
theorem NE.ok {α:Type}{a:α}:NE (Out.ok a):=fun uu h=>by cases h
theorem NE.bad {α:Type}:NE (Out.bad:Out α):=fun uu h=>by cases h
theorem NE.opt {α β:Type}{o:Option α}{f:α->Out β}(h:∀ a,NE (f a)):NE (au o f):=by
 cases o with
 | some a=>exact h a
 | none=>exact .bad
theorem NE.ite {α:Type}{c:Prop} [Decidable c] {a b:Out α}(ha:NE a) (hb:NE b):NE (if c then a else b):=by
 by_cases h:c
 ·rw [if_pos h]; exact ha
 ·rw [if_neg h]; exact hb
theorem NE.bind {α β:Type}{o:Out α}{f:α->Out β}(ho:NE o) (h:∀ a,NE (f a)):NE (o.bind f):=by
 cases o with
 | ok a=>exact h a
 | exc c=>exact absurd rfl (ho c)
 | bad=>exact .bad
noncomputable def asL:PyData->Option (List PyData)
 | .list xs=>some xs
 | _=>none
noncomputable def asD:V->Option PyData
 | .d x=>some x
 | _=>none
noncomputable def isN:PyData->Bool
 | .none=>true
 | _=>false
theorem cu {x:PyData}{i:Int}(h:dN x=some i):x = .int i:=by cases x<;>cases h; rfl
theorem bC {x:PyData}{i:List PyData}(h:asL x=some i):x = .list i:=by cases x<;>cases h; rfl
theorem bB {x:V}{i:PyData}(h:asD x=some i):x = .d i:=by cases x<;>cases h; rfl
theorem yQ {x:PyData}(h:isN x=true):x = .none:=by cases x<;>first | rfl | cases h
noncomputable def i2 {β:Type}(x y:PyData) (f:Int->Int->Out β):Out β:=au (dN x) fun a=>au (dN y) fun b=>f a b
theorem eJ {β:Type}{x y:PyData}{f:Int->Int->Out β}{r:β}(h:i2 x y f = .ok r):∃ a b,x = .int a/\y = .int b/\f a b = .ok r:=by
 refine aU h fun a h1 h=>?_
 refine aU h fun b h2 h=>?_
 exact ⟨a,b,cu h1,cu h2,h⟩
noncomputable def d2 {β:Type}(x y:V) (f:PyData->PyData->Out β):Out β:=au (asD x) fun a=>au (asD y) fun b=>f a b
theorem ij {β:Type}{x y:V}{f:PyData->PyData->Out β}{r:β}(h:d2 x y f = .ok r):∃ a b,x = .d a/\y = .d b/\f a b = .ok r:=by
 refine aU h fun a h1 h=>?_
 refine aU h fun b h2 h=>?_
 exact ⟨a,b,bB h1,bB h2,h⟩
noncomputable def pk (x y:PyData):Out (V×Mode):=match asL x with
 | some a=>au (asL y) fun b=>if a.length+b.length≤lim then .ok (.d (.list (a++b)),fresh (a++b)) else .bad
 | none=>i2 x y fun a b=>.ok (sI (a+b))
noncomputable def di (o:BOp) (x y:PyData):Out (V×Mode):=match o with
 | .add=>pk x y
 | .sub=>i2 x y fun a b=>.ok (sI (a-b))
 | .mul=>i2 x y fun a b=>if a.natAbs<2^63\/b.natAbs<2^63 then .ok (sI (a*b)) else .bad
 | .fdiv=>i2 x y fun a b=>if b=0\/1000000000≤b.natAbs then .bad else .ok (sI (a.fdiv b))
 | .mod=>i2 x y fun a b=>if b=0 then .bad else .ok (sI (a.fmod b))
 | .pow=>i2 x y fun a b=>if 0≤b/\b≤1000/\a.natAbs<2^63 then .ok (sI (a^b.toNat)) else .bad
 | .xor=>i2 x y fun a b=>.ok (sI (Builtin.bitXor a b))
theorem yL {o:BOp}{x y:PyData}:NE (di o x y):=by
 have h:∀ (f:Int->Int->Out (V×Mode)),(∀ a b,NE (f a b))->NE (i2 x y f):=fun f hf=>.opt fun a=>.opt fun b=>hf a b
 cases o with
 | add=>
  show NE (pk x y)
  unfold pk
  cases asL x with
  | some a=>exact .opt fun b=>.ite .ok .bad
  | none=>exact h _ fun uu uu=>.ok
 | sub=>exact h _ fun uu uu=>.ok
 | mul=>exact h _ fun uu uu=>.ite .ok .bad
 | fdiv=>exact h _ fun uu uu=>.ite .bad .ok
 | mod=>exact h _ fun uu uu=>.ite .bad .ok
 | pow=>exact h _ fun uu uu=>.ite .ok .bad
 | xor=>exact h _ fun uu uu=>.ok
noncomputable def inV (k:PyData) (c:V):Out Bool:=match c with
 | .d x=>au (asL x) fun xs=>if okc k&&okc (.list xs) then .ok (xs.any fun y=>PyData.eqv y k) else .bad
 | .dicI ks=>au (dN k) fun i=>.ok (decide (i∈ks))
 | .dicT ks=>au (dz k) fun i=>.ok (decide (i∈ks))
 | .dic0=>if (dN k).isSome||(dz k).isSome then .ok false else .bad
 | .rule _ _ _=>.bad
 | .err _=>.bad
theorem tQ {k:PyData}{c:V}:NE (inV k c):=by
 cases c with
 | d x=>exact .opt fun uu=>.ite .ok .bad
 | dicI ks=>exact .opt fun uu=>.ok
 | dicT ks=>exact .opt fun uu=>.ok
 | dic0=>exact .ite .ok .bad
 | rule _ _ _=>exact .bad
 | err _=>exact .bad
noncomputable def bY (o:COp) (x y:V):Out Bool:=match o with
 | .eq=>d2 x y fun a b=>if okc a&&okc b then .ok (PyData.eqv a b) else .bad
 | .ne=>d2 x y fun a b=>if okc a&&okc b then .ok (!PyData.eqv a b) else .bad
 | .lt=>d2 x y fun a b=>i2 a b fun a b=>.ok (decide (a<b))
 | .gt=>d2 x y fun a b=>i2 a b fun a b=>.ok (decide (b<a))
 | .ge=>d2 x y fun a b=>i2 a b fun a b=>.ok (decide (b≤a))
 | .isin=>au (asD x) fun k=>inV k y
 | .notin=>d2 x y fun k c=>(inV k (.d c)).bind fun b=>.ok (!b)
 | .isnot=>d2 x y fun a b=>if isN b then .ok (!isN a) else .bad
theorem zp {o:COp}{x y:V}:NE (bY o x y):=by
 have h:∀ (f:PyData->PyData->Out Bool),(∀ a b,NE (f a b))->NE (d2 x y f):=fun f hf=>.opt fun a=>.opt fun b=>hf a b
 cases o with
 | eq=>exact h _ fun uu uu=>.ite .ok .bad
 | ne=>exact h _ fun uu uu=>.ite .ok .bad
 | isin=>exact .opt fun uu=>tQ
 | notin=>exact h _ fun uu uu=>.bind tQ fun uu=>.ok
 | isnot=>exact h _ fun uu uu=>.ite .ok .bad
 | _=>exact h _ fun uu uu=>.opt fun uu=>.opt fun uu=>.ok
noncomputable def ba (i:Int) (n:Nat):Option Nat:=if 0≤i then (if i<n then some i.toNat else none) else (if -(n:Int)≤i then some (i+n).toNat else none)
noncomputable def asT:PyData->Option (List PyData)
 | .tuple xs=>some xs
 | _=>none
theorem gG {x:PyData}{i:List PyData}(h:asT x=some i):x = .tuple i:=by cases x<;>cases h; rfl
noncomputable def kq (x:PyData) (i:Int):Option PyData:=match asL x with
 | some xs=>(ba i xs.length).bind fun k=>xs[k]?
 | none=>match asT x with
  | some xs=>(ba i xs.length).bind fun k=>xs[k]?
  | none=>none
noncomputable def eV (x y:PyData):Out (V×Mode):=au (dN y) fun i=>au (kq x i) fun z=>.ok (mk (.d z))
theorem yA {x y:PyData}:NE (eV x y):=.opt fun uu=>.opt fun uu=>.ok
noncomputable def modP (y:PyData):List Int->PyData->Option PyData
 | [],d=>(asL d).bind fun xs=>if xs.length<lim then some (.list (xs++[y])) else none
 | k::p,d=>match asL d with
  | some xs=>(ba k xs.length).bind fun j=>(xs[j]?).bind fun e=>(modP y p e).map fun e'=>.list (xs.set j e')
  | none=>(asT d).bind fun xs=>(ba k xs.length).bind fun j=>(xs[j]?).bind fun e=>(modP y p e).map fun e'=>.tuple (xs.set j e')
noncomputable def fu:PyData->PyData->Out (V×Mode)
 | .list xs,.int i=>if 0≤i/\i<2^62 then .ok (.d (.list (xs.drop i.toNat)),fresh (xs.drop i.toNat)) else .bad
 | _,_=>.bad
noncomputable def fE:PyData->PyData->Out (V×Mode)
 | .list xs,.int i=>if 0≤i/\i<2^62 then .ok (.d (.list (xs.take i.toNat)),fresh (xs.take i.toNat)) else .bad
 | _,_=>.bad
noncomputable def wR:PyData->Out (V×Mode)
 | .list xs=>.ok (.d (.list xs.reverse),fresh xs.reverse)
 | _=>.bad
noncomputable def fF:List PyData->Option (List (List Int))
 | []=>some []
 | .list xs::r=>(aS xs).bind fun i=>(fF r).map (i :: ·)
 | _::_=>none
noncomputable def aa (xs:List Int):PyData:=.list (xs.map .int)
noncomputable def aM (xs:List Int):PyData:=.tuple (xs.map .int)
noncomputable def ag (t:List (List Int)):PyData:=.list (t.map aa)
noncomputable def ltL:List Int->List Int->Bool
 | [],[]=>false
 | [],_::_=>true
 | _::_,[]=>false
 | a::as,b::bs=>if a=b then ltL as bs else decide (a<b)
noncomputable def du:List PyData->Option (List (List Int))
 | []=>some []
 | x::r=>(dz x).bind fun k=>(du r).map (k :: ·)
noncomputable def az (ks:List (List Int)):List (List Int):=ks.mergeSort fun a b=>!ltL b a
noncomputable def dG (xs:List PyData):Out (V×Mode):=match du xs with
 | some ks=>.ok (.d (.list ((az ks).map aM)),fresh ((az ks).map aM))
 | none=>au (fF xs) fun ks=>.ok (.d (.list ((az ks).map aa)),fresh ((az ks).map aa))
theorem rt {xs:List PyData}:NE (dG xs):=by
 unfold dG
 cases du xs with
 | some ks=>exact .ok
 | none=>exact .opt fun uu=>.ok
noncomputable def dM (xs:List PyData):Out (V×Mode) :=
 if xs.length<64 then (match aS xs with
  | some ns=>.ok (.d (aa (ns.mergeSort (fun a b=>decide (a≤b)))),.deep)
  | none=>dG xs)
 else .bad
noncomputable def iY:List Int->Option Int
 | []=>none
 | x::xs=>some (xs.foldl (fun a b=>if a<b then b else a) x)
noncomputable def b1D (f:B1) (v:V):Out (V×Mode):=au (asD v) fun x=>match f with
 | .len=>(match asT x with
  | some xs=>.ok (sI xs.length)
  | none=>au (asL x) fun xs=>.ok (sI xs.length))
 | .list=>(match asT x with
  | some xs=>.ok (.d (.list xs),fresh xs)
  | none=>au (asL x) fun xs=>.ok (.d (.list xs),fresh xs))
 | .tuple=>au (asL x) fun xs=>.ok (.d (.tuple xs),if xs.all sx then .deep else .sh)
 | .sorted=>au (asL x) fun xs=>dM xs
 | .max=>au (asL x) fun xs=>au ((aS xs).bind iY) fun i=>.ok (sI i)
theorem AM {f:B1}{v:V}:NE (b1D f v):=.opt fun x=>by
 cases f with
 | len=>
  show NE (match asT x with | some xs=>Out.ok (sI xs.length) | none=>au (asL x) fun xs=>.ok (sI xs.length))
  cases asT x with
  | some xs=>exact .ok
  | none=>exact .opt fun uu=>.ok
 | list=>
  show NE (match asT x with | some xs=>Out.ok (V.d (.list xs),fresh xs) | none=>au (asL x) fun xs=>.ok (V.d (.list xs),fresh xs))
  cases asT x with
  | some xs=>exact .ok
  | none=>exact .opt fun uu=>.ok
 | tuple=>exact .opt fun uu=>.ok
 | sorted=>
  refine .opt fun xs=>.ite ?_ .bad
  cases aS xs with
  | some ns=>exact .ok
  | none=>exact rt
 | max=>exact .opt fun uu=>.opt fun uu=>.ok
noncomputable def rf:V->Option (List (List Int))
 | .dicT ks=>some ks
 | _=>none
theorem wV {v:V}{ks:List (List Int)}(h:rf v=some ks):v = .dicT ks:=by
 cases v<;>cases h
 rfl
noncomputable def nL (f:B1) (ks:List (List Int)):Out (V×Mode):=if f = .list/\ks.length≤lim then .ok (.d (.list (ks.map aM)),fresh (ks.map aM)) else .bad
noncomputable def b1V (f:B1) (v:V):Out (V×Mode):=match rf v with
 | some ks=>nL f ks
 | none=>b1D f v
theorem Ao {f:B1}{v:V}:NE (b1V f v):=by
 unfold b1V
 cases rf v with
 | some ks=>exact .ite .ok .bad
 | none=>exact AM
noncomputable def oL:PyData->Nat
 | .none=>0
 | .bool _=>1
 | .int _=>2
 | .str _=>3
 | .list _=>4
 | .tuple _=>5
 | .dict _=>6
noncomputable def lQ (t:String) (k:Nat):Option Bool :=
 if t = "int" then some (k==2||k==1) else if t = "bool" then some (k==1) else if t = "list" then some (k==4) else if t = "tuple" then some (k==5) else if t = "str" then some (k==3) else none
noncomputable def gn (v:V) (t:String):Out Bool:=au (asD v) fun x=>au (lQ t (oL x)) .ok
theorem pe {t:String}{k:Nat}{b:Bool}{G:Prop}(h:lQ t k=some b) (c1:t = "int" -> (k==2||k==1)=b->G) (c2:t = "bool" -> (k==1)=b->G) (c3:t = "list" -> (k==4)=b->G) (c4:t = "tuple" -> (k==5)=b->G) (c5:t = "str" -> (k==3)=b->G):G:=by
 unfold lQ at h
 by_cases q:t = "int"
 ·rw [if_pos q] at h; exact c1 q (Option.some.inj h)
 rw [if_neg q] at h
 by_cases q:t = "bool"
 ·rw [if_pos q] at h; exact c2 q (Option.some.inj h)
 rw [if_neg q] at h
 by_cases q:t = "list"
 ·rw [if_pos q] at h; exact c3 q (Option.some.inj h)
 rw [if_neg q] at h
 by_cases q:t = "tuple"
 ·rw [if_pos q] at h; exact c4 q (Option.some.inj h)
 rw [if_neg q] at h
 by_cases q:t = "str"
 ·rw [if_pos q] at h; exact c5 q (Option.some.inj h)
 rw [if_neg q] at h
 cases h
theorem vT {v:V}{t:String}{b:Bool}(h:gn v t = .ok b):∃ x,v = .d x/\lQ t (oL x)=some b:=by
 obtain ⟨x,h1,h⟩:=aT h
 obtain ⟨c,h2,h⟩:=aT h
 exact ⟨x,bB h1,by rw [h2,Out.ok.inj h]⟩
theorem yi {v:V}{t:String}:NE (gn v t):=.opt fun uu=>.opt fun uu=>.ok
noncomputable def aq:V->Out Bool
 | .d (.bool b)=>.ok b
 | _=>.bad
noncomputable def iN:V->Option (Int×PyData×Int)
 | .rule c d n=>some (c,d,n)
 | _=>none
theorem kE {x:V}{q:Int×PyData×Int}(h:iN x=some q):x = .rule q.1 q.2.1 q.2.2:=by cases x<;>cases h; rfl
noncomputable def jC:V->Option String
 | .err c=>some c
 | _=>none
theorem ub {x:V}{c:String}(h:jC x=some c):x = .err c:=by cases x<;>cases h; rfl
noncomputable def jm (x:V) (n:String):Out (V×Mode):=au (iN x) fun q=>if n = "count" then .ok (sI q.1) else if n = "full" then .ok (mk (.d q.2.1)) else if n = "size" then .ok (sI q.2.2) else .bad
theorem wB {x:V}{n:String}:NE (jm x n):=.opt fun uu=>.ite .ok (.ite .ok (.ite .ok .bad))
noncomputable def methNames:List String:=["together", "rank", "need_full", "outs", "exchanges"]
noncomputable def aw:List String:=["PickError", "NoChoice", "NoThing", "NoExchange", "NoWeights", "NoRule"]
noncomputable def pg (C:Calls) (c t:String):Out (V×Mode):=if t∈aw then au (C t) fun uu=>.ok (sB (decide (t=c\/t = "PickError"))) else if t = "ValueError" then .ok (sB true) else .bad
noncomputable def fieldNames:List String:=["count", "full", "size"]
noncomputable def c8 (a b:Int):List PyData:=(List.range (b-a).toNat).map fun (k:Nat)=>.int (a+k)
noncomputable def cj (a b:Int):Out (List PyData×Mode) :=
 if (b-a).toNat≤lim/\-(2^60)≤a/\a<2^60/\-(2^60)≤b/\b<2^60 then .ok (c8 a b,.deep) else .bad
noncomputable def bz (f:PyData->Out (Option (V×Mode))):List PyData->Out (List PyData×Bool)
 | []=>.ok ([],true)
 | x::xs=>(f x).bind fun r=>(bz f xs).bind fun q=>match r with
  | none=>.ok q
  | some (.d y,m)=>.ok (y::q.1,decide (m = .deep)&&q.2)
  | some _=>.bad
noncomputable def bN:List (V×Mode)->Option (List PyData)
 | []=>some []
 | (.d x,_)::r=>(bN r).map (x :: ·)
 | _::_=>none
noncomputable def allDeep (l:List (V×Mode)):Bool:=l.all fun p=>decide (p.2 = .deep)
noncomputable def hU:V->Option (List PyData)
 | .d (.list xs)=>some xs
 | _=>none
theorem iP {v:V}{xs:List PyData}(h:hU v=some xs):v = .d (.list xs):=by
 unfold hU at h
 split at h
 ·cases h; rfl
 ·cases h
noncomputable def itV (r:V×Mode):Out (List PyData×Mode):=match hU r.1 with
 | some xs=>.ok (xs,r.2)
 | none=>.bad
mutual
noncomputable def ev (C:Calls):E->St->Out (V×Mode)
 | .name x,σ=>match σ x with | some p=>.ok (mk p.1) | none=>.bad
 | .int i,_=>.ok (sI i)
 | .str s,_=>.ok (.d (.str (Str.ofString s)),.deep)
 | .bool b,_=>.ok (sB b)
 | .none,_=>.ok (.d .none,.deep)
 | .bin o a b,σ=>(ev C a σ).bind fun x=>(ev C b σ).bind fun y=>match x.1,y.1 with | .d x,.d y=>di o x y | _,_=>.bad
 | .neg a,σ=>(ev C a σ).bind fun x=>match x.1 with | .d (.int i)=>.ok (sI (-i)) | _=>.bad
 | .not a,σ=>(ev C a σ).bind fun x=>(aq x.1).bind fun b=>.ok (sB (!b))
 | .cmp o a b,σ=>(ev C a σ).bind fun x=>(ev C b σ).bind fun y=>(bY o x.1 y.1).bind fun b=>.ok (sB b)
 | .and a b,σ=>(ev C a σ).bind fun x=>(aq x.1).bind fun t=>if t then (ev C b σ).bind fun y=>(aq y.1).bind fun u=>.ok (sB u) else .ok (sB false)
 | .or a b,σ=>(ev C a σ).bind fun x=>(aq x.1).bind fun t=>if t then .ok (sB true) else (ev C b σ).bind fun y=>(aq y.1).bind fun u=>.ok (sB u)
 | .list es,σ=>(evs C es σ).bind fun l=>match bN l with
  | some xs=>.ok (.d (.list xs),if allDeep l then .deep else .top)
  | none=>.bad
 | .tup es,σ=>(evs C es σ).bind fun l=>match bN l with
  | some xs=>.ok (.d (.tuple xs),if allDeep l then .deep else .sh)
  | none=>.bad
 | .edic,_=>.ok (.dic0,.deep)
 | .comp elt x it,σ=>(bt C it σ).bind fun q=>(bz (fun y=>(ev C elt (upd σ x (mk (.d y)))).bind fun r=>.ok (some r)) q.1).calm.bind fun r=>.ok (.d (.list r.1),if r.2 then .deep else .top)
 | .compif elt x it c,σ=>(bt C it σ).bind fun q=>(bz (fun y=>(ev C c (upd σ x (mk (.d y)))).bind fun t=>(aq t.1).bind fun b=>if b then (ev C elt (upd σ x (mk (.d y)))).bind fun r=>.ok (some r) else .ok none) q.1).calm.bind fun r=>.ok (.d (.list r.1),if r.2 then .deep else .top)
 | .sub a i,σ=>(ev C a σ).bind fun x=>(ev C i σ).bind fun y=>match x.1,y.1 with | .d x,.d y=>eV x y | _,_=>.bad
 | .slo a i,σ=>(ev C a σ).bind fun x=>(ev C i σ).bind fun y=>match x.1,y.1 with | .d x,.d y=>fu x y | _,_=>.bad
 | .shi a i,σ=>(ev C a σ).bind fun x=>(ev C i σ).bind fun y=>match x.1,y.1 with | .d x,.d y=>fE x y | _,_=>.bad
 | .rev a,σ=>(ev C a σ).bind fun x=>match x.1 with | .d x=>wR x | _=>.bad
 | .attr a n,σ=>au (C "Rule") fun uu=>(ev C a σ).bind fun x=>jm x.1 n
 | .bi1 f a,σ=>(ev C a σ).bind fun x=>b1V f x.1
 | .isi a t,σ=>(ev C a σ).bind fun x=>(gn x.1 t).bind fun b=>.ok (sB b)
 | .call f es,σ=>match C f with
  | some g=>(evs C es σ).bind fun l=>g (l.map (·.1))
  | none=>.bad
 | .isE x t,σ=>au (σ x) fun p=>au (jC p.1) fun c=>pg C c t
noncomputable def evs (C:Calls):Es->St->Out (List (V×Mode))
 | .nil,_=>.ok []
 | .cons e es,σ=>(ev C e σ).bind fun x=>(evs C es σ).bind fun l=>.ok (x::l)
noncomputable def bt (C:Calls):It->St->Out (List PyData×Mode)
 | .e a,σ=>(ev C a σ).bind itV
 | .r1 n,σ=>(ev C n σ).bind fun x=>match x.1 with | .d (.int n)=>cj 0 n | _=>.bad
 | .r2 a b,σ=>(ev C a σ).bind fun x=>(ev C b σ).bind fun y=>match x.1,y.1 with | .d (.int a),.d (.int b)=>cj a b | _,_=>.bad
end
theorem c7 (C:Calls) (x:String) (σ:St):ev C (.name x) σ=(match σ x with | some p=>.ok (mk p.1) | none=>.bad):=rfl
theorem dH (C:Calls) (i:Int) (σ0:St):ev C (.int i) σ0=(.ok (sI i)):=rfl
theorem zL (C:Calls) (s:String) (σ0:St):ev C (.str s) σ0=(.ok (.d (.str (Str.ofString s)),.deep)):=rfl
theorem oM (C:Calls) (b:Bool) (σ0:St):ev C (.bool b) σ0=(.ok (sB b)):=rfl
theorem o0 (C:Calls) (σ0:St):ev C .none σ0=(.ok (.d .none,.deep)):=rfl
theorem lC (C:Calls) (o:BOp) (a:E) (b:E) (σ:St):ev C (.bin o a b) σ=((ev C a σ).bind fun x=>(ev C b σ).bind fun y=>match x.1,y.1 with | .d x,.d y=>di o x y | _,_=>.bad):=rfl
theorem lU (C:Calls) (a:E) (σ:St):ev C (.neg a) σ=((ev C a σ).bind fun x=>match x.1 with | .d (.int i)=>.ok (sI (-i)) | _=>.bad):=rfl
theorem gQ (C:Calls) (a:E) (σ:St):ev C (.not a) σ=((ev C a σ).bind fun x=>(aq x.1).bind fun b=>.ok (sB (!b))):=rfl
theorem jv (C:Calls) (o:COp) (a:E) (b:E) (σ:St):ev C (.cmp o a b) σ=((ev C a σ).bind fun x=>(ev C b σ).bind fun y=>(bY o x.1 y.1).bind fun b=>.ok (sB b)):=rfl
theorem gw (C:Calls) (a:E) (b:E) (σ:St):ev C (.and a b) σ=((ev C a σ).bind fun x=>(aq x.1).bind fun t=>if t then (ev C b σ).bind fun y=>(aq y.1).bind fun u=>.ok (sB u) else .ok (sB false)):=rfl
theorem iX (C:Calls) (a:E) (b:E) (σ:St):ev C (.or a b) σ=((ev C a σ).bind fun x=>(aq x.1).bind fun t=>if t then .ok (sB true) else (ev C b σ).bind fun y=>(aq y.1).bind fun u=>.ok (sB u)):=rfl
theorem bv (C:Calls) (es:Es) (σ:St):ev C (.list es) σ=((evs C es σ).bind fun l=>match bN l with
  | some xs=>.ok (.d (.list xs),if allDeep l then .deep else .top)
  | none=>.bad):=rfl
theorem jl (C:Calls) (es:Es) (σ:St):ev C (.tup es) σ=((evs C es σ).bind fun l=>match bN l with
  | some xs=>.ok (.d (.tuple xs),if allDeep l then .deep else .sh)
  | none=>.bad):=rfl
theorem ol (C:Calls) (σ0:St):ev C .edic σ0=(.ok (.dic0,.deep)):=rfl
theorem gZ (C:Calls) (elt:E) (x:String) (it:It) (σ:St):ev C (.comp elt x it) σ=((bt C it σ).bind fun q=>(bz (fun y=>(ev C elt (upd σ x (mk (.d y)))).bind fun r=>.ok (some r)) q.1).calm.bind fun r=>.ok (.d (.list r.1),if r.2 then .deep else .top)):=rfl
theorem e9 (C:Calls) (elt:E) (x:String) (it:It) (c:E) (σ:St):ev C (.compif elt x it c) σ=((bt C it σ).bind fun q=>(bz (fun y=>(ev C c (upd σ x (mk (.d y)))).bind fun t=>(aq t.1).bind fun b=>if b then (ev C elt (upd σ x (mk (.d y)))).bind fun r=>.ok (some r) else .ok none) q.1).calm.bind fun r=>.ok (.d (.list r.1),if r.2 then .deep else .top)):=rfl
theorem jB (C:Calls) (a:E) (i:E) (σ:St):ev C (.sub a i) σ=((ev C a σ).bind fun x=>(ev C i σ).bind fun y=>match x.1,y.1 with | .d x,.d y=>eV x y | _,_=>.bad):=rfl
theorem lI (C:Calls) (a:E) (i:E) (σ:St):ev C (.slo a i) σ=((ev C a σ).bind fun x=>(ev C i σ).bind fun y=>match x.1,y.1 with | .d x,.d y=>fu x y | _,_=>.bad):=rfl
theorem ly (C:Calls) (a:E) (i:E) (σ:St):ev C (.shi a i) σ=((ev C a σ).bind fun x=>(ev C i σ).bind fun y=>match x.1,y.1 with | .d x,.d y=>fE x y | _,_=>.bad):=rfl
theorem jq (C:Calls) (a:E) (σ:St):ev C (.rev a) σ=((ev C a σ).bind fun x=>match x.1 with | .d x=>wR x | _=>.bad):=rfl
theorem kj (C:Calls) (a:E) (n:String) (σ:St):ev C (.attr a n) σ=(au (C "Rule") fun uu=>(ev C a σ).bind fun x=>jm x.1 n):=rfl
theorem jo (C:Calls) (f:B1) (a:E) (σ:St):ev C (.bi1 f a) σ=((ev C a σ).bind fun x=>b1V f x.1):=rfl
theorem lK (C:Calls) (a:E) (t:String) (σ:St):ev C (.isi a t) σ=((ev C a σ).bind fun x=>(gn x.1 t).bind fun b=>.ok (sB b)):=rfl
theorem kC (C:Calls) (f:String) (es:Es) (σ:St):ev C (.call f es) σ=(match C f with
  | some g=>(evs C es σ).bind fun l=>g (l.map (·.1))
  | none=>.bad):=rfl
theorem jx (C:Calls) (x:String) (t:String) (σ:St):ev C (.isE x t) σ=(au (σ x) fun p=>au (jC p.1) fun c=>pg C c t):=rfl
theorem a8 (C:Calls) (σ0:St):evs C .nil σ0=(.ok []):=rfl
theorem aY (C:Calls) (e:E) (es:Es) (σ:St):evs C (.cons e es) σ=((ev C e σ).bind fun x=>(evs C es σ).bind fun l=>.ok (x::l)):=rfl
theorem gP (C:Calls) (a:E) (σ:St):bt C (.e a) σ=((ev C a σ).bind itV):=rfl
theorem fL (C:Calls) (n:E) (σ:St):bt C (.r1 n) σ=((ev C n σ).bind fun x=>match x.1 with | .d (.int n)=>cj 0 n | _=>.bad):=rfl
theorem fK (C:Calls) (a:E) (b:E) (σ:St):bt C (.r2 a b) σ=((ev C a σ).bind fun x=>(ev C b σ).bind fun y=>match x.1,y.1 with | .d (.int a),.d (.int b)=>cj a b | _,_=>.bad):=rfl
mutual
noncomputable def fv:E->List String
 | .name x=>[x]
 | .int _ | .str _ | .bool _ | .none | .edic=>[]
 | .bin _ a b | .cmp _ a b | .and a b | .or a b | .sub a b | .slo a b | .shi a b=>fv a++fv b
 | .neg a | .not a | .rev a | .attr a _ | .bi1 _ a | .isi a _=>fv a
 | .list es | .tup es | .call _ es=>fvs es
 | .comp elt _ it=>bx it++fv elt
 | .compif elt _ it c=>bx it++(fv c++fv elt)
 | .isE x _=>[x]
noncomputable def fvs:Es->List String
 | .nil=>[]
 | .cons e es=>fv e++fvs es
noncomputable def bx:It->List String
 | .e a=>fv a
 | .r1 n=>fv n
 | .r2 a b=>fv a++fv b
end
theorem dD (x:String):fv (.name x)=([x]):=rfl
theorem yD (z0:Int):fv (.int z0)=([]):=rfl
theorem GX (z0:String):fv (.str z0)=([]):=rfl
theorem FR (z0:Bool):fv (.bool z0)=([]):=rfl
theorem Gm:fv .none=([]):=rfl
theorem Fr:fv .edic=([]):=rfl
theorem zn (z0:BOp) (a:E) (b:E):fv (.bin z0 a b)=(fv a++fv b):=rfl
theorem yX (z0:COp) (a:E) (b:E):fv (.cmp z0 a b)=(fv a++fv b):=rfl
theorem yn (a:E) (b:E):fv (.and a b)=(fv a++fv b):=rfl
theorem Aw (a:E) (b:E):fv (.or a b)=(fv a++fv b):=rfl
theorem ql (a:E) (b:E):fv (.sub a b)=(fv a++fv b):=rfl
theorem y6 (a:E) (b:E):fv (.slo a b)=(fv a++fv b):=rfl
theorem zr (a:E) (b:E):fv (.shi a b)=(fv a++fv b):=rfl
theorem yB (a:E):fv (.neg a)=(fv a):=rfl
theorem yN (a:E):fv (.not a)=(fv a):=rfl
theorem zf (a:E):fv (.rev a)=(fv a):=rfl
theorem vd (a:E) (z1:String):fv (.attr a z1)=(fv a):=rfl
theorem lH (z0:B1) (a:E):fv (.bi1 z0 a)=(fv a):=rfl
theorem zo (a:E) (z1:String):fv (.isi a z1)=(fv a):=rfl
theorem uO (es:Es):fv (.list es)=(fvs es):=rfl
theorem yr (es:Es):fv (.tup es)=(fvs es):=rfl
theorem wp (z0:String) (es:Es):fv (.call z0 es)=(fvs es):=rfl
theorem kB (elt:E) (z1:String) (it:It):fv (.comp elt z1 it)=(bx it++fv elt):=rfl
theorem si (elt:E) (z1:String) (it:It) (c:E):fv (.compif elt z1 it c)=(bx it++(fv c++fv elt)):=rfl
theorem zi (x:String) (z1:String):fv (.isE x z1)=([x]):=rfl
theorem FT:fvs .nil=([]):=rfl
theorem tT (e:E) (es:Es):fvs (.cons e es)=(fv e++fvs es):=rfl
theorem fg (a:E):bx (.e a)=(fv a):=rfl
theorem wf (n:E):bx (.r1 n)=(fv n):=rfl
theorem wv (a:E) (b:E):bx (.r2 a b)=(fv a++fv b):=rfl
inductive H1 where
 | nam (x:String)
 | asg (x:String) (e:E)
 | ret (e:E)
noncomputable def oO:List H1->List String
 | []=>[]
 | .nam x::r=>x::oO r
 | .asg x _::r=>x::oO r
 | .ret _::_=>[]
noncomputable def rg:List (String×List H1)->List String
 | []=>[]
 | p::r=>oO p.2++rg r
mutual
inductive S where
 | assign (x:String) (e:E)
 | setitem (x:String) (k:E)
 | append (x:String) (e:E)
 | appendAt (x:String) (is:Es) (e:E)
 | appF (x:String) (is:Es) (e:E)
 | pop (x:String) (i:E)
 | expr (e:E)
 | ret (e:E)
 | retn (x:String)
 | ite (c:E) (a b:Ss)
 | for1 (x:String) (it:It) (b:Ss)
 | raise (c:String)
 | tryS (b:S) (hs:List (String×List H1))
 | bad
inductive Ss where
 | nil
 | cons (s:S) (r:Ss)
end
mutual
noncomputable def asg:S->List String
 | .assign x _ | .setitem x _ | .append x _ | .appendAt x _ _ | .appF x _ _ | .pop x _=>[x]
 | .expr _ | .ret _ | .retn _ | .raise _ | .bad=>[]
 | .ite _ a b=>g8 a++g8 b
 | .for1 x _ b=>x::g8 b
 | .tryS b hs=>asg b++rg hs
noncomputable def g8:Ss->List String
 | .nil=>[]
 | .cons s r=>asg s++g8 r
end
inductive Flw where
 | next
 | ret (v:V×Mode)
noncomputable def demote (σ:St) (ns:List String):St:=fun y=>if y∈ns then (σ y).map fun p=>mk p.1 else σ y
noncomputable def consume (σ:St) (ns:List String) (m:Mode):St:=if m = .deep then σ else demote σ ns
noncomputable def b8 (f:PyData->St->Out (St×Flw)):List PyData->St->Out (St×Flw)
 | [],σ=>.ok (σ,.next)
 | x::xs,σ=>(f x σ).bind fun r=>match r.2 with
  | .next=>b8 f xs r.1
  | .ret v=>.ok (r.1,.ret v)
noncomputable def rem (σ:St) (y:String):St:=fun z=>if z=y then none else σ z
noncomputable def il (σ:St) (x:String) (ns:List String) (mx:Mode) (xs:List PyData) (m:Mode):Out (St×Flw) :=
 if xs.length≤lim then
  if m = .deep then .ok (upd σ x (.d (.list xs),mx),.next)
  else if x∈ns then .bad else .ok (upd (demote σ ns) x (.d (.list xs),.top),.next)
 else .bad
noncomputable def fI (σ:St) (x:String):V->PyData->Out (St×Flw)
 | .dic0,k=>match dN k with
  | some i=>.ok (upd σ x (.dicI [i],.deep),.next)
  | none=>match dz k with
   | some t=>.ok (upd σ x (.dicT [t],.deep),.next)
   | none=>.bad
 | .dicI ks,k=>match dN k with
  | some i=>if ks.length≤lim then .ok (upd σ x (.dicI (if i∈ks then ks else ks++[i]),.deep),.next) else .bad
  | none=>.bad
 | .dicT ks,k=>match dz k with
  | some i=>if ks.length≤lim then .ok (upd σ x (.dicT (if i∈ks then ks else ks++[i]),.deep),.next) else .bad
  | none=>.bad
 | _,_=>.bad
noncomputable def evP (C:Calls) (d:PyData):Es->St->Out (List Int×PyData)
 | .nil,_=>.ok ([],d)
 | .cons i r,σ=>(evP C d r σ).bind fun p=>(ev C i σ).bind fun q=>au (asD q.1) fun k=>au (dN k) fun k=>au (kq p.2 k) fun e=>.ok (p.1++[k],e)
noncomputable def gz:E->Bool
 | .comp _ _ _ | .compif _ _ _ _=>true
 | _=>false
noncomputable def evA (C:Calls) (e:E) (σ:St):Out (V×Mode):=if gz e then (ev C e σ).calm else ev C e σ
theorem iQ {C:Calls}{e:E}{σ:St}{r:V×Mode}(h:ev C e σ = .ok r):evA C e σ = .ok r:=by
 unfold evA; rw [h]; split<;>rfl
theorem AZ {C:Calls}{e:E}{σ:St}{r:V×Mode}(h:evA C e σ = .ok r):ev C e σ = .ok r:=by
 unfold evA at h
 split at h
 ·cases q:ev C e σ with
  | ok a=>rw [q] at h; exact h
  | exc c=>rw [q] at h; cases h
  | bad=>rw [q] at h; cases h
 ·exact h
theorem qI {C:Calls}{e:E}{σ:St}{c:String}(h:evA C e σ = .exc c):ev C e σ = .exc c/\gz e=false:=by
 unfold evA at h
 split at h
 ·cases q:ev C e σ<;>rw [q] at h<;>cases h
 ·rename_i q
  exact ⟨h,by cases hc:gz e with | true=>exact absurd hc q | false=>rfl⟩
mutual
noncomputable def hOk:E->Bool
 | .name _ | .int _ | .bool _=>true
 | .bin _ a b | .cmp _ a b | .and a b | .or a b=>hOk a&&hOk b
 | .not a=>hOk a
 | .isE _ _=>true
 | .list es=>vF es
 | _=>false
noncomputable def vF:Es->Bool
 | .nil=>true
 | .cons e es=>hOk e&&vF es
end
noncomputable def iu (C:Calls):Calls:=fun f=>if f∈aw then C f else none
noncomputable def exH (C:Calls):List H1->St->Out (St×Flw)
 | [],σ=>.ok (σ,.next)
 | .nam _::_,_=>.bad
 | .asg x e::r,σ=>if hOk e then (ev (iu C) e σ).calm.bind fun q=>exH C r (upd (consume σ (fv e) q.2) x q) else .bad
 | .ret e::_,σ=>if hOk e then (ev (iu C) e σ).calm.bind fun q=>.ok (σ,.ret q) else .bad
noncomputable def oB:Flw->Bool
 | .next=>true
 | .ret q=>lD q.1
noncomputable def exN (C:Calls) (c:String):List H1->St->Out (St×Flw)
 | .nam x::r,σ=>(exH C r (upd σ x (.err c,.sh))).bind fun o=>if oB o.2 then .ok (rem o.1 x,o.2) else .bad
 | l,σ=>exH C l σ
noncomputable def fy (C:Calls) (c:String):List (String×List H1)->St->Out (St×Flw)
 | [],_=>.bad
 | p::r,σ=>au (C p.1) fun uu=>if p.1∈aw then (if p.1=c\/p.1 = "PickError" then exN C c p.2 σ else fy C c r σ) else .bad
noncomputable def j8:S->Bool
 | .expr _ | .assign _ _=>true
 | _=>false
noncomputable def orH (C:Calls) (b:S) (hs:List (String×List H1)) (σ:St):Out (St×Flw)->Out (St×Flw)
 | .ok r=>.ok r
 | .exc c=>if j8 b then fy C c hs σ else .bad
 | .bad=>.bad
mutual
noncomputable def ex (C:Calls):S->St->Out (St×Flw)
 | .assign x e,σ=>(evA C e σ).bind fun r=>.ok (upd (consume σ (fv e) r.2) x r,.next)
 | .setitem x k,σ=>(ev C k σ).calm.bind fun r=>match r.1,σ x with
  | .d k,some (v,.deep)=>fI σ x v k
  | _,_=>.bad
 | .append x e,σ=>(ev C e σ).calm.bind fun r=>match r.1,σ x with
  | .d y,some (v,mx)=>(match hU v with
   | some xs=>if mx = .sh then .bad else il σ x (fv e) mx (xs++[y]) r.2
   | none=>.bad)
  | _,_=>.bad
 | .appendAt x is e,σ=>match σ x with
  | some (v,.deep)=>au (asD v) fun d=>(evP C d is σ).calm.bind fun p=>(ev C e σ).calm.bind fun r=>au (asD r.1) fun y=>if sx y then au (modP y p.1 d) fun d'=>.ok (upd σ x (.d d',.deep),.next) else .bad
  | _=>.bad
 | .appF x is e,σ=>match σ x with
  | some (v,.deep)=>au (C "Rule") fun uu=>au (iN v) fun q=>(evP C q.2.1 is σ).calm.bind fun p=>(ev C e σ).calm.bind fun r=>au (asD r.1) fun y=>if sx y then au (modP y p.1 q.2.1) fun d'=>.ok (upd σ x (.rule q.1 d' q.2.2,.deep),.next) else .bad
  | _=>.bad
 | .pop x i,σ=>(ev C i σ).calm.bind fun q=>match q.1,σ x with
  | .d (.int i),some (v,mx)=>(match hU v with
   | some xs=>if mx = .sh\/i<0\/(xs.length:Int)≤i then .bad else .ok (upd σ x (.d (.list (xs.eraseIdx i.toNat)),.top),.next)
   | none=>.bad)
  | _,_=>.bad
 | .expr e,σ=>(ev C e σ).bind fun r=>.ok (consume σ (fv e) r.2,.next)
 | .retn x,σ=>match σ x with
  | some r=>.ok (σ,.ret r)
  | none=>.bad
 | .ret e,σ=>(ev C e σ).bind fun r=>.ok (σ,.ret r)
 | .ite c a b,σ=>(ev C c σ).bind fun r=>(aq r.1).bind fun t=>if t then exs C a σ else exs C b σ
 | .for1 x it b,σ=>(bt C it σ).bind fun q=>b8 (fun y σ=>exs C b (upd σ x (mk (.d y)))) q.1 (consume σ (bx it) q.2)
 | .raise c,_=>au (C c) fun uu=>if c∈aw then .exc c else .bad
 | .tryS b hs,σ=>orH C b hs σ (ex C b σ)
 | .bad,_=>.bad
noncomputable def exs (C:Calls):Ss->St->Out (St×Flw)
 | .nil,σ=>.ok (σ,.next)
 | .cons s r,σ=>(ex C s σ).bind fun q=>match q.2 with
  | .next=>exs C r q.1
  | .ret v=>.ok (q.1,.ret v)
end
theorem cf (C:Calls) (x:String) (e:E) (σ:St):ex C (.assign x e) σ=((evA C e σ).bind fun r=>.ok (upd (consume σ (fv e) r.2) x r,.next)):=rfl
theorem cN (C:Calls) (x:String) (k:E) (σ:St):ex C (.setitem x k) σ=((ev C k σ).calm.bind fun r=>match r.1,σ x with
  | .d k,some (v,.deep)=>fI σ x v k
  | _,_=>.bad):=rfl
theorem eZ (C:Calls) (x:String) (e:E) (σ:St):ex C (.append x e) σ=((ev C e σ).calm.bind fun r=>match r.1,σ x with
  | .d y,some (v,mx)=>(match hU v with
   | some xs=>if mx = .sh then .bad else il σ x (fv e) mx (xs++[y]) r.2
   | none=>.bad)
  | _,_=>.bad):=rfl
theorem dS (C:Calls) (x:String) (is:Es) (e:E) (σ:St):ex C (.appendAt x is e) σ=(match σ x with
  | some (v,.deep)=>au (asD v) fun d=>(evP C d is σ).calm.bind fun p=>(ev C e σ).calm.bind fun r=>au (asD r.1) fun y=>if sx y then au (modP y p.1 d) fun d'=>.ok (upd σ x (.d d',.deep),.next) else .bad
  | _=>.bad):=rfl
theorem gX (C:Calls) (x:String) (is:Es) (e:E) (σ:St):ex C (.appF x is e) σ=(match σ x with
  | some (v,.deep)=>au (C "Rule") fun uu=>au (iN v) fun q=>(evP C q.2.1 is σ).calm.bind fun p=>(ev C e σ).calm.bind fun r=>au (asD r.1) fun y=>if sx y then au (modP y p.1 q.2.1) fun d'=>.ok (upd σ x (.rule q.1 d' q.2.2,.deep),.next) else .bad
  | _=>.bad):=rfl
theorem lR (C:Calls) (x:String) (i:E) (σ:St):ex C (.pop x i) σ=((ev C i σ).calm.bind fun q=>match q.1,σ x with
  | .d (.int i),some (v,mx)=>(match hU v with
   | some xs=>if mx = .sh\/i<0\/(xs.length:Int)≤i then .bad else .ok (upd σ x (.d (.list (xs.eraseIdx i.toNat)),.top),.next)
   | none=>.bad)
  | _,_=>.bad):=rfl
theorem cr (C:Calls) (e:E) (σ:St):ex C (.expr e) σ=((ev C e σ).bind fun r=>.ok (consume σ (fv e) r.2,.next)):=rfl
theorem j6 (C:Calls) (x:String) (σ:St):ex C (.retn x) σ=(match σ x with
  | some r=>.ok (σ,.ret r)
  | none=>.bad):=rfl
theorem l5 (C:Calls) (e:E) (σ:St):ex C (.ret e) σ=((ev C e σ).bind fun r=>.ok (σ,.ret r)):=rfl
theorem gD (C:Calls) (c:E) (a:Ss) (b:Ss) (σ:St):ex C (.ite c a b) σ=((ev C c σ).bind fun r=>(aq r.1).bind fun t=>if t then exs C a σ else exs C b σ):=rfl
theorem ew (C:Calls) (x:String) (it:It) (b:Ss) (σ:St):ex C (.for1 x it b) σ=((bt C it σ).bind fun q=>b8 (fun y σ=>exs C b (upd σ x (mk (.d y)))) q.1 (consume σ (bx it) q.2)):=rfl
theorem eM (C:Calls) (c:String) (σ0:St):ex C (.raise c) σ0=(au (C c) fun uu=>if c∈aw then .exc c else .bad):=rfl
theorem dB (C:Calls) (b:S) (hs:List (String×List H1)) (σ:St):ex C (.tryS b hs) σ=(orH C b hs σ (ex C b σ)):=rfl
theorem yp (C:Calls) (σ0:St):ex C .bad σ0=(.bad):=rfl
theorem cW (C:Calls) (σ:St):exs C .nil σ=(.ok (σ,.next)):=rfl
theorem bQ (C:Calls) (s:S) (r:Ss) (σ:St):exs C (.cons s r) σ=((ex C s σ).bind fun q=>match q.2 with
  | .next=>exs C r q.1
  | .ret v=>.ok (q.1,.ret v)):=rfl
structure Fn where
 params:List String
 body:Ss
noncomputable def bJ:List String->List V->Option St
 | [],[]=>some fun uu=>none
 | p::ps,v::vs=>(bJ ps vs).map fun σ=>upd σ p (mk v)
 | _,_=>none
noncomputable def aH (C:Calls) (f:Fn) (vs:List V):Out (V×Mode):=match bJ f.params vs with
 | some σ=>(exs C f.body σ).bind fun r=>match r.2 with
  | .ret v=>.ok v
  | .next=>.ok (.d .none,.deep)
 | none=>.bad
noncomputable def aG (C:Calls):Calls:=fun f=>if f = "law" then none else C f
noncomputable def dX (σ:St):Out (V×Mode):=au (σ "count") fun p=>au (asD p.1) fun c=>au (dN c) fun c=>au (σ "full") fun q=>au (asD q.1) fun d=>au (asL d) fun xs=>au (xs[0]?) fun x=>au (asL x) fun ys=>
 if q.2 = .deep then .ok (.rule c (.list xs) ys.length,.deep) else .bad
noncomputable def bW (C:Calls) (f:Fn) (vs:List V):Out (V×Mode):=match bJ f.params vs with
 | some σ=>(exs C f.body σ).bind fun r=>match r.2 with
  | .next=>dX r.1
  | .ret _=>.bad
 | none=>.bad
noncomputable def dl (f:String) (C:Calls) (fn:Fn) (vs:List V):Out (V×Mode):=if f = "Rule" then bW (aG C) fn vs else if f∈methNames then aH (aG C) fn vs else aH C fn vs
noncomputable def mkC (L:List (String×Fn)):Nat->Calls
 | 0=>fun uu=>none
 | n+1=>fun f=>(L.lookup f).map fun fn vs=>dl f (mkC L n) fn vs
end Mine
namespace Mine
open PySem PyProof.Rows
mutual
inductive R (h:Heap):Value->PyData->List Addr->Prop
 | none:R h .none .none []
 | bool (b:Bool):R h (.bool b) (.bool b) []
 | int (i:Int) (t:Tok):R h (.int i t) (.int i) []
 | str (x:Str) (t:Tok):R h (.str x t) (.str x) []
 | list {a:Addr}{n:Nat}{xs:List PyData}{as:List Addr}{vs:List Value}:h.get? a=some ⟨.type "list", Option.none,.seq vs.toArray n,#[]⟩->RA h vs xs as->R h (.ref a) (.list xs) (a::as)
 | tuple {a:Addr}{n:Nat}{xs:List PyData}{as:List Addr}{vs:List Value}:h.get? a=some ⟨.type "tuple", Option.none,.seq vs.toArray n,#[]⟩->RA h vs xs as->R h (.ref a) (.tuple xs) as
inductive RA (h:Heap):List Value->List PyData->List Addr->Prop
 | nil:RA h [] [] []
 | cons {v:Value}{vs:List Value}{d:PyData}{ds:List PyData}{as bs:List Addr}:R h v d as->RA h vs ds bs->RA h (v::vs) (d::ds) (as++bs)
end
theorem R.ind {h:Heap}{M:Value->PyData->List Addr->Prop}{N:List Value->List PyData->List Addr->Prop}(h1:M .none .none []) (h2:∀ b,M (.bool b) (.bool b) []) (h3:∀ i t,M (.int i t) (.int i) []) (h4:∀ x t,M (.str x t) (.str x) [])
  (h5:∀ {a:Addr}{n:Nat}{xs:List PyData}{as:List Addr}{vs:List Value},h.get? a=some ⟨.type "list", Option.none,.seq vs.toArray n,#[]⟩->RA h vs xs as->N vs xs as->M (.ref a) (.list xs) (a::as))
  (h6:∀ {a:Addr}{n:Nat}{xs:List PyData}{as:List Addr}{vs:List Value},h.get? a=some ⟨.type "tuple", Option.none,.seq vs.toArray n,#[]⟩->RA h vs xs as->N vs xs as->M (.ref a) (.tuple xs) as)
  (h7:N [] [] []) (h8:∀ {v:Value}{vs:List Value}{d:PyData}{ds:List PyData}{as bs:List Addr},R h v d as->RA h vs ds bs->M v d as->N vs ds bs->N (v::vs) (d::ds) (as++bs)) :
  (∀ {v:Value}{d:PyData}{as:List Addr},R h v d as->M v d as)/\(∀ {vs:List Value}{ds:List PyData}{as:List Addr},RA h vs ds as->N vs ds as) :=
 ⟨fun r=>R.rec (motive_1:=fun v d as _=>M v d as) (motive_2:=fun vs ds as _=>N vs ds as) h1 h2 h3 h4 (fun e r i=>h5 e r i) (fun e r i=>h6 e r i) h7 (fun x r i j=>h8 x r i j) r,
  fun r=>RA.rec (motive_1:=fun v d as _=>M v d as) (motive_2:=fun vs ds as _=>N vs ds as) h1 h2 h3 h4 (fun e r i=>h5 e r i) (fun e r i=>h6 e r i) h7 (fun x r i j=>h8 x r i j) r⟩
theorem RA.ind {h:Heap}{N:List Value->List PyData->List Addr->Prop}(h7:N [] [] []) (h8:∀ {v:Value}{vs:List Value}{d:PyData}{ds:List PyData}{as bs:List Addr},R h v d as->RA h vs ds bs->N vs ds bs->N (v::vs) (d::ds) (as++bs))
  {vs:List Value}{ds:List PyData}{as:List Addr}(r:RA h vs ds as):N vs ds as :=
 (R.ind (M:=fun uu uu uu=>True) (N:=N) trivial (fun uu=>trivial) (fun uu uu=>trivial) (fun uu uu=>trivial) (fun uu uu uu=>trivial) (fun uu uu uu=>trivial) h7 fun x r _ j=>h8 x r j).2 r
noncomputable def Kps (h h':Heap) (as:List Addr):Prop:=∀ b o,(b∈as\/o.cls = .type "tuple")->(∃ vs n,o.data = .seq vs n)->h.get? b=some o->h'.get? b=some o
theorem R.onB {h h':Heap}:(∀ {v:Value}{d:PyData}{as:List Addr},R h v d as->Kps h h' as->R h' v d as)/\(∀ {vs:List Value}{ds:List PyData}{as:List Addr},RA h vs ds as->Kps h h' as->RA h' vs ds as) :=
 R.ind (M:=fun v d as=>Kps h h' as->R h' v d as) (N:=fun vs ds as=>Kps h h' as->RA h' vs ds as) (fun uu=>.none) (fun b _=>.bool b) (fun i t _=>.int i t) (fun x t _=>.str x t)
  (fun e _ ih k=>.list (k _ _ (.inl (.head _)) (bD _ _ rfl) e) (ih fun b o hb=>k b o (hb.imp (.tail _) id))) (fun e _ ih k=>.tuple (k _ _ (.inr rfl) (bD _ _ rfl) e) (ih k))
  (fun uu=>.nil) (fun uu uu i j k=>.cons (i fun b o hb=>k b o (hb.imp (List.mem_append_left _) id)) (j fun b o hb=>k b o (hb.imp (List.mem_append_right _) id)))
section
variable {h h':Heap}{v:Value}{d:PyData}{as:List Addr}{vs:List Value}{ds:List PyData}
theorem R.on2 (r:R h v d as) (k:∀ b o,(b∈as\/o.cls = .type "tuple")->(∃ vs n,o.data = .seq vs n)->h.get? b=some o->h'.get? b=some o):R h' v d as:=R.onB.1 r k
theorem RA.on2 (r:RA h vs ds as) (k:∀ b o,(b∈as\/o.cls = .type "tuple")->(∃ vs n,o.data = .seq vs n)->h.get? b=some o->h'.get? b=some o):RA h' vs ds as:=R.onB.2 r k
theorem R.on (r:R h v d as) (k:∀ b o,(b∈as\/o.cls = .type "tuple")->h.get? b=some o->h'.get? b=some o):R h' v d as:=r.on2 fun b o q _=>k b o q
theorem RA.on (r:RA h vs ds as) (k:∀ b o,(b∈as\/o.cls = .type "tuple")->h.get? b=some o->h'.get? b=some o):RA h' vs ds as:=r.on2 fun b o q _=>k b o q
end
noncomputable def Off (h:Heap) (as wr:List Addr):Prop:=∀ b∈wr,∀ o,h.get? b=some o->(∀ vs n,o.data≠.seq vs n)\/(o.cls≠.type "tuple" /\ b∉as)
theorem R.off {h h':Heap}{v:Value}{d:PyData}{as wr:List Addr}(r:R h v d as) (hw:Off h as wr) (kp:∀ b o,b∉wr->h.get? b=some o->h'.get? b=some o):R h' v d as :=
 r.on2 fun b o hb ⟨vs,n,e⟩ hg=>kp b o (fun hm=>(hw b hm o hg).elim (fun q=>q vs n e) fun q=>hb.elim q.2 q.1) hg
theorem RA.off {h h':Heap}{vs:List Value}{ds:List PyData}{as wr:List Addr}(r:RA h vs ds as) (hw:Off h as wr) (kp:∀ b o,b∉wr->h.get? b=some o->h'.get? b=some o):RA h' vs ds as :=
 r.on2 fun b o hb ⟨vs,n,e⟩ hg=>kp b o (fun hm=>(hw b hm o hg).elim (fun q=>q vs n e) fun q=>hb.elim q.2 q.1) hg
section
variable {h h':Heap}{v:Value}{d:PyData}{as:List Addr}{vs:List Value}{ds:List PyData}
theorem R.keep (r:R h v d as) (k:∀ b o,h.get? b=some o->h'.get? b=some o):R h' v d as:=r.on fun b o _=>k b o
theorem RA.keep (r:RA h vs ds as) (k:∀ b o,h.get? b=some o->h'.get? b=some o):RA h' vs ds as:=r.on fun b o _=>k b o
end
theorem R.readsB {h:Heap}:(∀ {v:Value}{d:PyData}{as:List Addr},R h v d as->Reads h v d as)/\(∀ {vs:List Value}{ds:List PyData}{as:List Addr},RA h vs ds as->ReadsAll h vs ds as) :=
 R.ind (M:=fun v d as=>Reads h v d as) (N:=fun vs ds as=>ReadsAll h vs ds as) .none (fun b=>.bool b) (fun i t=>.int i t) (fun x t=>.str x t) (fun e _ i=>.list e rfl rfl (by simpa using i)) (fun e _ i=>.tuple e rfl rfl (by simpa using i)) .nil (fun uu uu i j=>.cons i j)
theorem R.reads {h:Heap}{v:Value}{d:PyData}{as:List Addr}(r:R h v d as):Reads h v d as:=R.readsB.1 r
noncomputable def ny (h:Heap) (as:List Addr):Prop:=∀ a∈as,∃ vs n,h.get? a=some ⟨.type "list", Option.none,.seq vs n,#[]⟩
theorem R.thereB {h:Heap}:(∀ {v:Value}{d:PyData}{as:List Addr},R h v d as->ny h as)/\(∀ {vs:List Value}{ds:List PyData}{as:List Addr},RA h vs ds as->ny h as) :=
 R.ind (M:=fun uu uu as=>ny h as) (N:=fun uu uu as=>ny h as) (fun uu ha=>nomatch ha) (fun uu uu ha=>nomatch ha) (fun uu uu uu ha=>nomatch ha) (fun uu uu uu ha=>nomatch ha)
  (fun e _ i a ha=>(List.mem_cons.mp ha).elim (fun q=>q▸(bD _ _ e)) (i a)) (fun uu uu i=>i) (fun uu ha=>nomatch ha) (fun uu uu i j a ha=>(List.mem_append.mp ha).elim (i a) (j a))
theorem R.there {h:Heap}{v:Value}{d:PyData}{as:List Addr}(r:R h v d as):∀ a∈as,∃ vs n,h.get? a=some ⟨.type "list", Option.none,.seq vs n,#[]⟩:=R.thereB.1 r
theorem RA.there {h:Heap}{vs:List Value}{ds:List PyData}{as:List Addr}(r:RA h vs ds as):∀ a∈as,∃ vs n,h.get? a=some ⟨.type "list", Option.none,.seq vs n,#[]⟩:=R.thereB.2 r
theorem R.isInt {h:Heap}{v:Value}{i:Int}{as:List Addr}(r:R h v (.int i) as):∃ t,v = .int i t/\as=[]:=by
 cases r; exact (ah _ rfl rfl)
theorem R.isInt_k {h:Heap}{v:Value}{i:Int}{as:List Addr}{G:Prop}(r:R h v (.int i) as) (k:∀ t,v = .int i t->as=[]->G):G:=af (R.isInt r) k
theorem R.isBool {h:Heap}{v:Value}{b:Bool}{as:List Addr}(r:R h v (.bool b) as):v = .bool b/\as=[]:=by
 cases r; exact ⟨rfl,rfl⟩
theorem R.isNone {h:Heap}{v:Value}{as:List Addr}(r:R h v .none as):v = .none/\as=[]:=by
 cases r; exact ⟨rfl,rfl⟩
theorem R.sx_nil {h:Heap}{v:Value}{d:PyData}{as:List Addr}(r:R h v d as) (hs:sx d=true):as=[]:=by
 cases r<;>first | rfl | (simp [sx] at hs)
theorem RA.length {h:Heap}{vs:List Value}{ds:List PyData}{as:List Addr}(r:RA h vs ds as):vs.length=ds.length :=
 RA.ind (N:=fun vs ds _=>vs.length=ds.length) rfl (fun uu uu i=>congrArg (· + 1) i) r
theorem RA.append {h:Heap}{vs ws:List Value}{ds es:List PyData}{as bs:List Addr}(r:RA h vs ds as) (q:RA h ws es bs):RA h (vs++ws) (ds++es) (as++bs) :=
 RA.ind (N:=fun vs ds as=>RA h (vs++ws) (ds++es) (as++bs)) q (fun x _ i=>by rw [List.append_assoc]; exact .cons x i) r
theorem RA.sx_nil {h:Heap}{vs:List Value}{ds:List PyData}{as:List Addr}(r:RA h vs ds as):ds.all sx=true->as=[] :=
 RA.ind (N:=fun uu ds as=>ds.all sx=true->as=[]) (fun uu=>rfl) (fun x _ i hs=>by
  refine bX (show (sx _&&List.all _ sx)=true from hs) fun h1 h2=>?_
  rw [x.sx_nil h1,i h2]; rfl) r
theorem RA.get {h:Heap}{vs:List Value}{ds:List PyData}{as:List Addr}(r:RA h vs ds as):∀ {k:Nat}{d:PyData},ds[k]? = some d->∃ v bs,vs[k]? = some v/\R h v d bs/\∀ b∈bs,b∈as:=by
 have key:∀ (k:Nat) (d:PyData),ds[k]? = some d->∃ v bs,vs[k]? = some v/\R h v d bs/\∀ b∈bs,b∈as:=by
  refine RA.ind (N:=fun vs ds as=>∀ (k:Nat) (d:PyData),ds[k]? = some d->∃ v bs,vs[k]? = some v/\R h v d bs/\∀ b∈bs,b∈as) (fun k d hk=>by cases hk) (fun x _ i k d hk=>?_) r
  cases k with
  | zero=>(have oc:=Option.some.inj hk; clear hk; subst oc); exact (aO _ _ rfl x (fun b hb=>List.mem_append_left _ hb))
  | succ k=>
   refine aA (i k d hk) fun v bs h1 h2 h3=>?_
   exact (aO v bs h1 h2 (fun b hb=>List.mem_append_right _ (h3 b hb)))
 exact fun {k d}=>key k d
theorem RA.get' {h:Heap}{vs:List Value}{ds:List PyData}{as:List Addr}(r:RA h vs ds as) {k:Nat}{v:Value}(hk:vs[k]? = some v):∃ d bs,ds[k]? = some d/\R h v d bs/\∀ b∈bs,b∈as:=by
 have hl:k<ds.length:=by rw [← r.length]; exact (List.getElem?_eq_some_iff.mp hk).1
 refine aA (r.get (List.getElem?_eq_getElem hl)) fun v' bs h1 h2 h3=>?_
 rw [hk] at h1; (have oc:=Option.some.inj h1; clear h1; subst oc)
 exact (aO _ bs (List.getElem?_eq_getElem hl) h2 h3)
theorem RA.take {h:Heap}(n:Nat) {vs:List Value}{ds:List PyData}{as:List Addr}(r:RA h vs ds as):∃ bs,RA h (vs.take n) (ds.take n) bs/\(∀ b∈bs,b∈as):=by
 refine RA.ind (N:=fun vs ds as=>∀ n,∃ bs,RA h (vs.take n) (ds.take n) bs/\(∀ b∈bs,b∈as)) (fun n=>(ah ([]) (by rw [List.take_nil,List.take_nil]; exact .nil) (fun uu hb=>nomatch hb))) (fun x _ i n=>?_) r n
 cases n with
 | zero=>exact (ah ([]) .nil (fun uu hb=>nomatch hb))
 | succ n=>
  refine af (i n) fun bs q hs=>?_
  exact (ah _ (.cons x q) (fun b hb=>(List.mem_append.mp hb).elim (List.mem_append_left _) fun hb=>List.mem_append_right _ (hs b hb)))
theorem RA.drop {h:Heap}(n:Nat) {vs:List Value}{ds:List PyData}{as:List Addr}(r:RA h vs ds as):∃ bs,RA h (vs.drop n) (ds.drop n) bs/\(∀ b∈bs,b∈as):=by
 refine RA.ind (N:=fun vs ds as=>∀ n,∃ bs,RA h (vs.drop n) (ds.drop n) bs/\(∀ b∈bs,b∈as)) (fun n=>(ah ([]) (by rw [List.drop_nil,List.drop_nil]; exact .nil) (fun uu hb=>nomatch hb))) (fun x r i n=>?_) r n
 cases n with
 | zero=>exact (ah _ (.cons x r) (fun uu hb=>hb))
 | succ n=>
  refine af (i n) fun bs q hs=>?_
  exact (ah bs q (fun b hb=>List.mem_append_right _ (hs b hb)))
theorem RA.reverse {h:Heap}{vs:List Value}{ds:List PyData}{as:List Addr}(r:RA h vs ds as):∃ bs,RA h vs.reverse ds.reverse bs/\(∀ b∈bs,b∈as):=by
 refine RA.ind (N:=fun vs ds as=>∃ bs,RA h vs.reverse ds.reverse bs/\(∀ b∈bs,b∈as)) (ah ([]) .nil (fun uu hb=>nomatch hb)) (fun {v vs d ds as cs} x r i=>?_) r
 refine af (i) fun bs q hs=>?_
 try clear i
 refine (ah (bs++(as++[])) (by rw [List.reverse_cons,List.reverse_cons]; exact q.append (.cons x .nil)) (fun b hb=>?_))
 rcases List.mem_append.mp hb with hb | hb
 ·exact List.mem_append_right _ (hs b hb)
 ·exact List.mem_append_left _ (by rwa [List.append_nil] at hb)
theorem RA.ints {h:Heap}{vs:List Value}{ds:List PyData}{as:List Addr}{ns:List Int}(r:RA h vs ds as) (e:aS ds=some ns):IntsAre vs ns/\as=[]/\ds=ns.map .int:=by
 refine RA.ind (N:=fun vs ds as=>∀ ns,aS ds=some ns->IntsAre vs ns/\as=[]/\ds=ns.map .int) (fun ns e=>?_) (fun {v vs d ds as cs} x r i ns e=>?_) r ns e
 ·(have oc:=Option.some.inj e; clear e; subst oc); exact ⟨.nil,rfl,rfl⟩
 ·cases x with
  | int j t=>
   refine be (show (aS ds).map (j :: ·)=some ns from e) fun ms e1 G4=>?_
   (clear e; subst G4)
   refine aD (i ms e1) fun a G5 G6=>?_
   (clear i r; subst G5)
   subst G6
   exact ⟨.cons j t a,rfl,rfl⟩
  | _=>exact nN e
theorem RA.of_ints {h:Heap}{vs:List Value}{ns:List Int}(r:IntsAre vs ns):RA h vs (ns.map .int) []:=by
 induction r with
 | nil=>exact .nil
 | cons i t r ih=>exact .cons (as:=[]) (.int i t) ih
mutual
noncomputable def sz:PyData->Bool
 | .none | .bool _ | .int _=>true
 | .str x=>decide (x.length≤2^22)
 | .list xs | .tuple xs=>decide (xs.length≤2^22)&&szs xs
 | .dict _=>false
noncomputable def szs:List PyData->Bool
 | []=>true
 | x::xs=>sz x&&szs xs
end
theorem qA {xs:List PyData}:szs xs=true↔∀ x∈xs,sz x=true:=by
 induction xs with
 | nil=>simp [szs]
 | cons x xs ih=>simp [szs,ih]
theorem sz_list {xs:List PyData}:sz (.list xs)=true↔xs.length≤2^22/\∀ x∈xs,sz x=true:=by simp [sz,qA]
theorem sz_tuple {xs:List PyData}:sz (.tuple xs)=true↔xs.length≤2^22/\∀ x∈xs,sz x=true:=by simp [sz,qA]
theorem jZ (ns:List Int):∀ x∈ns.map PyData.int,sz x=true:=by
 intro x hx; obtain ⟨i,_,rfl⟩:=List.mem_map.mp hx; rfl
end Mine
namespace Mine
open PySem PyProof.Rows
noncomputable def varK (ns:List (Str×NameKind)) (x:String):Bool:=!(Str.ofString x==Str.ofString ".0")&&(match ns.lookup (Str.ofString x) with
 | some .local | some .cell | some .free=>true
 | _=>false)
noncomputable def cE (ns:List (Str×NameKind)) (x:String):Bool:=ns.lookup (Str.ofString x)==some .globalImplicit
noncomputable def aP (x:String):Bool:=!(Str.ofString x==("__debug__" : Str)) && !(Str.ofString x==("__classdict__" : Str))
noncomputable def bOp:BOp->Operator
 | .add=>.Add | .sub=>.Sub | .mul=>.Mult | .fdiv=>.FloorDiv | .mod=>.Mod | .pow=>.Pow | .xor=>.BitXor
noncomputable def cOp:COp->CmpOp
 | .eq=>.Eq | .ne=>.NotEq | .lt=>.Lt | .gt=>.Gt | .ge=>.GtE | .isin=>.In | .notin=>.NotIn | .isnot=>.IsNot
noncomputable def opB (o:BOp) (p:Operator):Bool:=decide (p=bOp o)
noncomputable def opC (o:COp) (p:CmpOp):Bool:=decide (p=cOp o)
noncomputable def b1n:B1->String
 | .len => "len" | .list => "list" | .tuple => "tuple" | .sorted => "sorted" | .max => "max"
noncomputable def eT (outer inner:List (Str×NameKind)):List (Str×NameKind) :=
 inner.map fun (n,k)=>if k == .free&&outer.lookup n==some .cell then (n,.cell) else (n,k)
noncomputable def gg (ns:List (Str×NameKind)) (sc:Scope) (x:String):Bool :=
 sc.kind == .function&&decide ((sc.names.map (·.1)).Nodup)&&(sc.names.lookup (Str.ofString x)==some .local||sc.names.lookup (Str.ofString x)==some .cell) &&
 sc.names.all fun p=>(p.2 == .local&&(p.1==Str.ofString x||p.1==Str.ofString ".0"))||p.2 == .globalImplicit||(p.2 == .cell&&p.1==Str.ofString x)||(p.2 == .free&&(ns.lookup p.1==some .cell||ns.lookup p.1==some .free))
noncomputable def am {α:Type}(o:Option α) (f:α->Bool):Bool:=match o with
 | some a=>f a
 | none=>false
theorem hJ {α:Type}{o:Option α}{f:α->Bool}(h:am o f=true):∃ a,o=some a/\f a=true:=by
 cases o with
 | none=>exact nF h
 | some a=>exact (ah a rfl h)
theorem aj {α:Type}{o:Option α}{f:α->Bool}{G:Prop}(h:am o f=true) (k:∀ a,o=some a->f a=true->G):G:=af (hJ h) k
structure Pt where
 tag:Nat:=0
 e1:Expr:=default
 e2:Expr:=default
 es:List Expr:=[]
 st:Str:=default
 co:Const:=default
 n:Nat:=0
 op:Operator:=default
 un:UnaryOp:=default
 bo:BoolOp:=default
 cs:List CmpOp:=[]
 ks:List (Option Expr):=[]
 gs:List Comprehension:=[]
 sc:Scope:=default
 o1:Option Expr:=none
 o2:Option Expr:=none
 o3:Option Expr:=none
 kw:List Keyword:=[]
 pos:Pos:=default
noncomputable def pt:Expr->Pt
 | .Name x0 x1=>{tag:=1,st:=x0,pos:=x1 }
 | .Constant x0 x1 x2=>{tag:=2,co:=x0,n:=x1,pos:=x2 }
 | .BinOp x0 x1 x2 x3=>{tag:=3,e1:=x0,op:=x1,e2:=x2,pos:=x3 }
 | .UnaryOp x0 x1 x2=>{tag:=4,un:=x0,e1:=x1,pos:=x2 }
 | .Compare x0 x1 x2 x3=>{tag:=5,e1:=x0,cs:=x1,es:=x2,pos:=x3 }
 | .BoolOp x0 x1 x2=>{tag:=6,bo:=x0,es:=x1,pos:=x2 }
 | .List x0 x1=>{tag:=7,es:=x0,pos:=x1 }
 | .Tuple x0 x1 x2=>{tag:=8,es:=x0,n:=x1,pos:=x2 }
 | .Dict x0 x1 x2=>{tag:=9,ks:=x0,es:=x1,pos:=x2 }
 | .ListComp x0 x1 x2 x3=>{tag:=10,e1:=x0,gs:=x1,sc:=x2,pos:=x3 }
 | .Subscript x0 x1 x2=>{tag:=11,e1:=x0,e2:=x1,pos:=x2 }
 | .Slice x0 x1 x2 x3=>{tag:=12,o1:=x0,o2:=x1,o3:=x2,pos:=x3 }
 | .Call x0 x1 x2 x3=>{tag:=13,e1:=x0,es:=x1,kw:=x2,pos:=x3 }
 | .Attribute x0 x1 x2=>{tag:=14,e1:=x0,st:=x1,pos:=x2 }
 | _=>{}
noncomputable def ptB (n:Nat) (p:Pt):Expr:=match n with
 | 1=>.Name p.st p.pos
 | 2=>.Constant p.co p.n p.pos
 | 3=>.BinOp p.e1 p.op p.e2 p.pos
 | 4=>.UnaryOp p.un p.e1 p.pos
 | 5=>.Compare p.e1 p.cs p.es p.pos
 | 6=>.BoolOp p.bo p.es p.pos
 | 7=>.List p.es p.pos
 | 8=>.Tuple p.es p.n p.pos
 | 9=>.Dict p.ks p.es p.pos
 | 10=>.ListComp p.e1 p.gs p.sc p.pos
 | 11=>.Subscript p.e1 p.e2 p.pos
 | 12=>.Slice p.o1 p.o2 p.o3 p.pos
 | 13=>.Call p.e1 p.es p.kw p.pos
 | 14=>.Attribute p.e1 p.st p.pos
 | _=>default
theorem yO (e:Expr):(pt e).tag=0\/ptB (pt e).tag (pt e)=e:=by cases e<;>first | exact .inr rfl | exact .inl rfl
theorem ce {e:Expr}{n:Nat}(hn:n≠0) (h:(pt e).tag=n):e=ptB n (pt e):=by
 rcases yO e with q | q
 ·exact absurd (h.symm.trans q) hn
 ·rw [h] at q; exact q.symm
noncomputable def ifN {α:Type}(m n:Nat) (a:α):Option α:=if m=n then some a else none
theorem yJ {α:Type}{m n:Nat}{a b:α}(h:ifN m n a=some b):m=n/\a=b:=by
 unfold ifN at h
 by_cases q:m=n
 ·rw [if_pos q] at h; exact ⟨q,Option.some.inj h⟩
 ·rw [if_neg q] at h; exact nN h
theorem bL {α:Type}{m n:Nat}{a b:α}{G:Prop}(h:ifN m n a=some b) (k:m=n->a=b->G):G:=ae (yJ h) k
noncomputable def bH (e:Expr):Option (Str×Pos):=ifN (pt e).tag 1 ((pt e).st,(pt e).pos)
noncomputable def eO (e:Expr):Option (Const×Nat×Pos):=ifN (pt e).tag 2 ((pt e).co,(pt e).n,(pt e).pos)
noncomputable def AV (e:Expr):Option (Expr×Operator×Expr×Pos):=ifN (pt e).tag 3 ((pt e).e1,(pt e).op,(pt e).e2,(pt e).pos)
noncomputable def dUn (e:Expr):Option (UnaryOp×Expr×Pos):=ifN (pt e).tag 4 ((pt e).un,(pt e).e1,(pt e).pos)
noncomputable def Ay (e:Expr):Option (Expr×List CmpOp×List Expr×Pos):=ifN (pt e).tag 5 ((pt e).e1,(pt e).cs,(pt e).es,(pt e).pos)
noncomputable def sf (e:Expr):Option (BoolOp×List Expr×Pos):=ifN (pt e).tag 6 ((pt e).bo,(pt e).es,(pt e).pos)
noncomputable def xK (e:Expr):Option (List Expr×Pos):=ifN (pt e).tag 7 ((pt e).es,(pt e).pos)
noncomputable def Ai (e:Expr):Option (List Expr×Nat×Pos):=ifN (pt e).tag 8 ((pt e).es,(pt e).n,(pt e).pos)
noncomputable def xq (e:Expr):Option (List (Option Expr)×List Expr×Pos):=ifN (pt e).tag 9 ((pt e).ks,(pt e).es,(pt e).pos)
noncomputable def dLC (e:Expr):Option (Expr×List Comprehension×Scope×Pos):=ifN (pt e).tag 10 ((pt e).e1,(pt e).gs,(pt e).sc,(pt e).pos)
noncomputable def iF (e:Expr):Option (Expr×Expr×Pos):=ifN (pt e).tag 11 ((pt e).e1,(pt e).e2,(pt e).pos)
noncomputable def tW (e:Expr):Option (Option Expr×Option Expr×Option Expr×Pos):=ifN (pt e).tag 12 ((pt e).o1,(pt e).o2,(pt e).o3,(pt e).pos)
noncomputable def lx (e:Expr):Option (Expr×List Expr×List Keyword×Pos):=ifN (pt e).tag 13 ((pt e).e1,(pt e).es,(pt e).kw,(pt e).pos)
noncomputable def lf (e:Expr):Option (Expr×Str×Pos):=ifN (pt e).tag 14 ((pt e).e1,(pt e).st,(pt e).pos)
noncomputable def wA:Const->Option Int
 | .int i=>some i
 | _=>none
noncomputable def wi:Const->Option Str
 | .str i=>some i
 | _=>none
noncomputable def r8:Const->Option Bool
 | .bool i=>some i
 | _=>none
noncomputable def xY:Const->Option Unit
 | .none=>some ()
 | _=>none
noncomputable def bO {α:Type}:List α->Option α
 | [x]=>some x
 | _=>none
noncomputable def sj {α:Type}:List α->Option (α×α)
 | [x,y]=>some (x,y)
 | _=>none
noncomputable def d6 {α:Type}:List α->Option Unit
 | []=>some ()
 | _=>none
noncomputable def fW {α:Type}:List α->Option (α×List α)
 | x::y=>some (x,y)
 | _=>none
section
variable {e:Expr}
theorem aX {q:Str×Pos}(h:bH e=some q):e = .Name q.1 q.2:=by
 refine bL h fun h1 G4=>?_
 (clear h; subst G4)
 exact ce (by decide) h1
theorem cI {q:Const×Nat×Pos}(h:eO e=some q):e = .Constant q.1 q.2.1 q.2.2:=by
 refine bL h fun h1 G5=>?_
 (clear h; subst G5)
 exact ce (by decide) h1
theorem vg {q:Expr×Operator×Expr×Pos}(h:AV e=some q):e = .BinOp q.1 q.2.1 q.2.2.1 q.2.2.2:=by
 refine bL h fun h1 G6=>?_
 (clear h; subst G6)
 exact ce (by decide) h1
theorem l4 {q:UnaryOp×Expr×Pos}(h:dUn e=some q):e = .UnaryOp q.1 q.2.1 q.2.2:=by
 refine bL h fun h1 G7=>?_
 (clear h; subst G7)
 exact ce (by decide) h1
theorem vC {q:Expr×List CmpOp×List Expr×Pos}(h:Ay e=some q):e = .Compare q.1 q.2.1 q.2.2.1 q.2.2.2:=by
 refine bL h fun h1 G8=>?_
 (clear h; subst G8)
 exact ce (by decide) h1
theorem mw {q:BoolOp×List Expr×Pos}(h:sf e=some q):e = .BoolOp q.1 q.2.1 q.2.2:=by
 refine bL h fun h1 G9=>?_
 (clear h; subst G9)
 exact ce (by decide) h1
theorem uE {q:List Expr×Pos}(h:xK e=some q):e = .List q.1 q.2:=by
 refine bL h fun h1 Ha=>?_
 (clear h; subst Ha)
 exact ce (by decide) h1
theorem vz {q:List Expr×Nat×Pos}(h:Ai e=some q):e = .Tuple q.1 q.2.1 q.2.2:=by
 refine bL h fun h1 Hc=>?_
 (clear h; subst Hc)
 exact ce (by decide) h1
theorem ug {q:List (Option Expr)×List Expr×Pos}(h:xq e=some q):e = .Dict q.1 q.2.1 q.2.2:=by
 refine bL h fun h1 Hd=>?_
 (clear h; subst Hd)
 exact ce (by decide) h1
theorem yG {q:Expr×List Comprehension×Scope×Pos}(h:dLC e=some q):e = .ListComp q.1 q.2.1 q.2.2.1 q.2.2.2:=by
 refine bL h fun h1 Hf=>?_
 (clear h; subst Hf)
 exact ce (by decide) h1
theorem cK {q:Expr×Expr×Pos}(h:iF e=some q):e = .Subscript q.1 q.2.1 q.2.2:=by
 refine bL h fun h1 Hk=>?_
 (clear h; subst Hk)
 exact ce (by decide) h1
theorem sa {q:Option Expr×Option Expr×Option Expr×Pos}(h:tW e=some q):e = .Slice q.1 q.2.1 q.2.2.1 q.2.2.2:=by
 refine bL h fun h1 Hi=>?_
 (clear h; subst Hi)
 exact ce (by decide) h1
theorem eP {q:Expr×List Expr×List Keyword×Pos}(h:lx e=some q):e = .Call q.1 q.2.1 q.2.2.1 q.2.2.2:=by
 refine bL h fun h1 Hs=>?_
 (clear h; subst Hs)
 exact ce (by decide) h1
theorem fR {q:Expr×Str×Pos}(h:lf e=some q):e = .Attribute q.1 q.2.1 q.2.2:=by
 refine bL h fun h1 Ht=>?_
 (clear h; subst Ht)
 exact ce (by decide) h1
theorem ov {c:Const}{q:Int}(h:wA c=some q):c = .int q:=by cases c<;>cases h; rfl
theorem pw {c:Const}{q:Str}(h:wi c=some q):c = .str q:=by cases c<;>cases h; rfl
theorem mq {c:Const}{q:Bool}(h:r8 c=some q):c = .bool q:=by cases c<;>cases h; rfl
theorem uw {c:Const}{q:Unit}(h:xY c=some q):c = .none:=by cases c<;>cases h; rfl
variable {α:Type}{l:List α}
theorem cq {q:Unit}(h:d6 l=some q):l=[]:=by
 cases l with
 | nil=>rfl
 | cons=>exact nN h
theorem cF {q:α×List α}(h:fW l=some q):l=q.1::q.2:=by
 cases l with
 | nil=>exact nN h
 | cons=>(have oc:=Option.some.inj h; clear h; subst oc); rfl
theorem a9 {q:α}(h:bO l=some q):l=[q]:=by
 cases l with
 | nil=>exact nN h
 | cons x l=>
  cases l with
  | nil=>(have oc:=Option.some.inj h; clear h; subst oc); rfl
  | cons=>exact nN h
theorem nR {q:α×α}(h:sj l=some q):l=[q.1,q.2]:=by
 cases l with
 | nil=>exact nN h
 | cons x l=>
  cases l with
  | nil=>exact nN h
  | cons y l=>
   cases l with
   | nil=>(have oc:=Option.some.inj h; clear h; subst oc); rfl
   | cons=>exact nN h
end
noncomputable def dFn (e:Expr):Option (Str×Pos×List Expr×Pos):=(lx e).bind fun q=>(d6 q.2.2.1).bind fun uu=>(bH q.1).map fun n=>(n.1,n.2,q.2.1,q.2.2.2)
theorem gS {e:Expr}{q:Str×Pos×List Expr×Pos}(h:dFn e=some q):e = .Call (.Name q.1 q.2.1) q.2.2.1 [] q.2.2.2:=by
 refine aZ h fun c h1 h=>?_
 refine aZ h fun u h2 h=>?_
 refine be h fun n h3 h=>?_
 subst h
 rw [eP h1,cq h2,aX h3]
noncomputable def rW (e:Expr):Option (Expr×Str×Pos×Expr×List Expr×Scope×Pos):=(dLC e).bind fun q=>(bO q.2.1).bind fun g=>(bH g.target).bind fun n=>if g.is_async=0 then some (q.1,n.1,n.2,g.iter,g.ifs,q.2.2.1,q.2.2.2) else none
theorem mY {e:Expr}{q:Expr×Str×Pos×Expr×List Expr×Scope×Pos}(h:rW e=some q):e = .ListComp q.1 [⟨.Name q.2.1 q.2.2.1,q.2.2.2.1,q.2.2.2.2.1,0⟩] q.2.2.2.2.2.1 q.2.2.2.2.2.2:=by
 refine aZ h fun c h1 h=>?_
 refine aZ h fun Hu h2 h=>?_
 obtain ⟨gt,gi,gf,ga⟩:=Hu
 refine aZ h fun n h3 h=>?_
 dsimp only at h h3
 split at h
 ·rename_i h4
  (have oc:=Option.some.inj h; clear h; subst oc)
  rw [yG h1,a9 h2,aX h3,h4]
 ·exact nN h
noncomputable def dSl (e:Expr):Option (Expr×Option Expr×Option Expr×Option Expr×Pos×Pos):=(iF e).bind fun q=>(tW q.2.1).map fun s=>(q.1,s.1,s.2.1,s.2.2.1,s.2.2.2,q.2.2)
theorem lF {e:Expr}{q:Expr×Option Expr×Option Expr×Option Expr×Pos×Pos}(h:dSl e=some q):e = .Subscript q.1 (.Slice q.2.1 q.2.2.1 q.2.2.2.1 q.2.2.2.2.1) q.2.2.2.2.2:=by
 refine aZ h fun c h1 h=>?_
 refine be h fun n h3 h=>?_
 subst h
 rw [cK h1,sa h3]
noncomputable def Fi (ns:List (Str×NameKind)) (x:String) (ex:Expr):Bool:=am (bH ex) fun q=>q.1==Str.ofString x&&varK ns x&&aP x
noncomputable def qW:E->Bool
 | .name _=>true
 | .call _ _=>true
 | _=>false
mutual
noncomputable def okE (ns:List (Str×NameKind)):E->Expr->Bool
 | .name x,ex=>am (bH ex) fun q=>q.1==Str.ofString x&&varK ns x&&aP x
 | .int i,ex=>am (eO ex) fun q=>am (wA q.1) fun j=>i==j
 | .str s,ex=>am (eO ex) fun q=>am (wi q.1) fun t=>Str.ofString s==t&&decide (t.length≤2^22)
 | .bool b,ex=>am (eO ex) fun q=>am (r8 q.1) fun c=>b==c
 | .none,ex=>am (eO ex) fun q=>(xY q.1).isSome
 | .bin o a b,ex=>am (AV ex) fun q=>opB o q.2.1&&okE ns a q.1&&okE ns b q.2.2.1
 | .neg a,ex=>am (dUn ex) fun q=>decide (q.1 = .USub)&&okE ns a q.2.1
 | .not a,ex=>am (dUn ex) fun q=>decide (q.1 = .Not)&&okE ns a q.2.1
 | .cmp o a b,ex=>am (Ay ex) fun q=>am (bO q.2.1) fun op=>am (bO q.2.2.1) fun r=>opC o op&&okE ns a q.1&&okE ns b r
 | .and a b,ex=>am (sf ex) fun q=>decide (q.1 = .And)&&am (fW q.2.1) fun v=>okE ns a v.1&&(match bO v.2 with | some u=>okE ns b u | none=>okA ns b v.2)
 | .or a b,ex=>am (sf ex) fun q=>decide (q.1 = .Or)&&am (fW q.2.1) fun v=>okE ns a v.1&&(match bO v.2 with | some u=>okE ns b u | none=>okO ns b v.2)
 | .list es,ex=>am (xK ex) fun q=>decide (q.1.length<1000)&&dU ns es q.1
 | .tup es,ex=>am (Ai ex) fun q=>decide (q.1.length<1000)&&dU ns es q.1
 | .edic,ex=>am (xq ex) fun q=>(d6 q.1).isSome&&(d6 q.2.1).isSome
 | .comp elt x it,ex=>am (rW ex) fun q=>am (d6 q.2.2.2.2.1) fun uu=>q.2.1==Str.ofString x&&gg ns q.2.2.2.2.2.1 x&&gj ns it q.2.2.2.1&&okE (eT ns q.2.2.2.2.2.1.names) elt q.1
 | .compif elt x it c,ex=>am (rW ex) fun q=>am (bO q.2.2.2.2.1) fun f=>q.2.1==Str.ofString x&&gg ns q.2.2.2.2.2.1 x&&gj ns it q.2.2.2.1&&okE (eT ns q.2.2.2.2.2.1.names) c f&&okE (eT ns q.2.2.2.2.2.1.names) elt q.1
 | .sub a i,ex=>am (iF ex) fun q=>okE ns a q.1&&okE ns i q.2.1
 | .slo a i,ex=>am (dSl ex) fun q=>am q.2.1 fun l=>q.2.2.1.isNone&&q.2.2.2.1.isNone&&(okE ns a q.1&&okE ns i l)
 | .shi a i,ex=>am (dSl ex) fun q=>am q.2.2.1 fun l=>q.2.1.isNone&&q.2.2.2.1.isNone&&(okE ns a q.1&&okE ns i l)
 | .rev a,ex=>am (dSl ex) fun q=>am q.2.2.2.1 fun l=>q.2.1.isNone&&q.2.2.1.isNone&&(am (dUn l) fun u=>decide (u.1 = .USub)&&am (eO u.2.1) fun c=>am (wA c.1) fun i=>i==1&&okE ns a q.1)
 | .attr a n,ex=>am (lf ex) fun q=>q.2.1==Str.ofString n&&decide (n∈fieldNames)&&qW a&&okE ns a q.1
 | .bi1 f a,ex=>am (dFn ex) fun q=>am (bO q.2.2.1) fun x=>q.1==Str.ofString (b1n f)&&cE ns (b1n f)&&okE ns a x
 | .isi a t,ex=>am (dFn ex) fun q=>am (sj q.2.2.1) fun x=>am (bH x.2) fun c=>q.1==Str.ofString "isinstance" && cE ns "isinstance" && okE ns a x.1&&c.1==Str.ofString t&&cE ns t&&aP t
 | .isE x t,ex=>am (dFn ex) fun q=>am (sj q.2.2.1) fun y=>am (bH y.2) fun c=>q.1==Str.ofString "isinstance" && cE ns "isinstance" && Fi ns x y.1&&c.1==Str.ofString t&&cE ns t&&aP t
 | .call f es,ex=>am (dFn ex) fun q=>q.1==Str.ofString f&&cE ns f&&aP f && !decide (f∈methNames) && !decide (f∈aw) && !q.2.2.1.isEmpty&&decide (q.2.2.1.length<20)&&dU ns es q.2.2.1
termination_by structural e=>e
noncomputable def okA (ns:List (Str×NameKind)):E->List Expr->Bool
 | .and a b,ex=>am (fW ex) fun v=>okE ns a v.1&&(match bO v.2 with | some u=>okE ns b u | none=>okA ns b v.2)
 | _,_=>false
termination_by structural e=>e
noncomputable def okO (ns:List (Str×NameKind)):E->List Expr->Bool
 | .or a b,ex=>am (fW ex) fun v=>okE ns a v.1&&(match bO v.2 with | some u=>okE ns b u | none=>okO ns b v.2)
 | _,_=>false
termination_by structural e=>e
noncomputable def dU (ns:List (Str×NameKind)):Es->List Expr->Bool
 | .nil,ex=>(d6 ex).isSome
 | .cons e es,ex=>am (fW ex) fun q=>okE ns e q.1&&dU ns es q.2
termination_by structural e=>e
noncomputable def gj (ns:List (Str×NameKind)):It->Expr->Bool
 | .e a,x=>okE ns a x
 | .r1 n,ex=>am (dFn ex) fun q=>am (bO q.2.2.1) fun x=>q.1==Str.ofString "range" && cE ns "range" && okE ns n x
 | .r2 a b,ex=>am (dFn ex) fun q=>am (sj q.2.2.1) fun x=>q.1==Str.ofString "range" && cE ns "range" && okE ns a x.1&&okE ns b x.2
termination_by structural e=>e
end
section
variable {ns:List (Str×NameKind)}{ex:Expr}{a b c:E}
theorem tK {x:String}(h:okE ns (.name x) ex=true):(∃ id p,ex = .Name id p/\(id==Str.ofString x&&varK ns x&&aP x)=true)\/False:=by
 refine aj h fun q e h=>?_
 exact .inl (aB q.1 q.2 (aX e) h)
theorem DP {i:Int}(h:okE ns (.int i) ex=true):(∃ j k p,ex = .Constant (.int j) k p/\(i==j)=true)\/False:=by
 refine aj h fun q e h=>?_
 refine aj h fun j e' h=>?_
 exact .inl (b0 j q.2.1 q.2.2 (by rw [cI e,ov e']) h)
theorem BY {s:String}(h:okE ns (.str s) ex=true):(∃ t k p,ex = .Constant (.str t) k p/\(Str.ofString s==t&&decide (t.length≤2^22))=true)\/False:=by
 refine aj h fun q e h=>?_
 refine aj h fun j e' h=>?_
 exact .inl (b0 j q.2.1 q.2.2 (by rw [cI e,pw e']) h)
theorem AX {s:Bool}(h:okE ns (.bool s) ex=true):(∃ t k p,ex = .Constant (.bool t) k p/\(s==t)=true)\/False:=by
 refine aj h fun q e h=>?_
 refine aj h fun j e' h=>?_
 exact .inl (b0 j q.2.1 q.2.2 (by rw [cI e,mq e']) h)
theorem Au (h:okE ns .none ex=true):(∃ k p,ex = .Constant .none k p/\True)\/False:=by
 refine aj h fun q e h=>?_
 refine bG h fun j e'=>?_
 exact .inl (aB q.2.1 q.2.2 (by rw [cI e,uw e']) trivial)
theorem Bz {o:BOp}(h:okE ns (.bin o a b) ex=true):(∃ l op r p,ex = .BinOp l op r p/\(opB o op&&okE ns a l&&okE ns b r)=true)\/False:=by
 refine aj h fun q e h=>?_
 exact .inl (dY _ _ _ _ (vg e) h)
theorem xh (h:okE ns (.neg a) ex=true):(∃ x p,ex = .UnaryOp .USub x p/\okE ns a x=true)\/False:=by
 refine aj h fun q e h=>?_
 refine bX h fun h1 h2=>?_
 exact .inl (aB _ _ (by rw [l4 e,of_decide_eq_true h1]) h2)
theorem By (h:okE ns (.not a) ex=true):(∃ x p,ex = .UnaryOp .Not x p/\okE ns a x=true)\/False:=by
 refine aj h fun q e h=>?_
 refine bX h fun h1 h2=>?_
 exact .inl (aB _ _ (by rw [l4 e,of_decide_eq_true h1]) h2)
theorem BH {o:COp}(h:okE ns (.cmp o a b) ex=true):(∃ l op r p,ex = .Compare l [op] [r] p/\(opC o op&&okE ns a l&&okE ns b r)=true)\/False:=by
 refine aj h fun q e h=>?_
 refine aj h fun op e1 h=>?_
 refine aj h fun r e2 h=>?_
 exact .inl (dY _ op r _ (by rw [vC e,a9 e1,a9 e2]) h)
noncomputable def okA' (ns:List (Str×NameKind)) (b:E) (vs:List Expr):Bool:=match bO vs with | some u=>okE ns b u | none=>okA ns b vs
noncomputable def okO' (ns:List (Str×NameKind)) (b:E) (vs:List Expr):Bool:=match bO vs with | some u=>okE ns b u | none=>okO ns b vs
theorem Ef (h:okE ns (.and a b) ex=true):(∃ v vs p,ex = .BoolOp .And (v::vs) p/\(okE ns a v&&okA' ns b vs)=true)\/False:=by
 refine aj h fun q e h=>?_
 refine bX h fun h1 h2=>?_
 refine aj h2 fun v e1 h=>?_
 exact .inl (b0 _ _ _ (by rw [mw e,of_decide_eq_true h1,cF e1]) h)
theorem F0 (h:okE ns (.or a b) ex=true):(∃ v vs p,ex = .BoolOp .Or (v::vs) p/\(okE ns a v&&okO' ns b vs)=true)\/False:=by
 refine aj h fun q e h=>?_
 refine bX h fun h1 h2=>?_
 refine aj h2 fun v e1 h=>?_
 exact .inl (b0 _ _ _ (by rw [mw e,of_decide_eq_true h1,cF e1]) h)
theorem i_A {xs:List Expr}(h:okA ns (.and a b) xs=true):(∃ v vs,xs=v::vs/\(okE ns a v&&okA' ns b vs)=true)\/False:=by
 refine aj h fun q e h=>?_
 exact .inl (aB _ _ (cF e) h)
theorem i_O {xs:List Expr}(h:okO ns (.or a b) xs=true):(∃ v vs,xs=v::vs/\(okE ns a v&&okO' ns b vs)=true)\/False:=by
 refine aj h fun q e h=>?_
 exact .inl (aB _ _ (cF e) h)
theorem Aj {es:Es}(h:okE ns (.list es) ex=true):(∃ xs p,ex = .List xs p/\(decide (xs.length<1000)&&dU ns es xs)=true)\/False:=by
 refine aj h fun q e h=>?_
 exact .inl (aB _ _ (uE e) h)
theorem CY {es:Es}(h:okE ns (.tup es) ex=true):(∃ xs k p,ex = .Tuple xs k p/\(decide (xs.length<1000)&&dU ns es xs)=true)\/False:=by
 refine aj h fun q e h=>?_
 exact .inl (b0 _ _ _ (vz e) h)
theorem AJ (h:okE ns .edic ex=true):(∃ p,ex = .Dict [] [] p/\True)\/False:=by
 refine aj h fun q e h=>?_
 refine bX h fun h1 h2=>?_
 refine bG h1 fun uu e1=>?_
 refine bG h2 fun uu e2=>?_
 exact .inl (ah _ (by rw [ug e,cq e1,cq e2]) trivial)
theorem s8 {x:String}{it:It}(h:okE ns (.comp a x it) ex=true):(∃ e t pt i sc p,ex = .ListComp e [⟨.Name t pt,i,[],0⟩] sc p/\(t==Str.ofString x&&gg ns sc x&&gj ns it i&&okE (eT ns sc.names) a e)=true)\/False:=by
 refine aj h fun q e h=>?_
 refine aj h fun uu e1 h=>?_
 exact .inl (xN _ _ _ _ _ _ (by rw [mY e,cq e1]) h)
theorem om {x:String}{it:It}(h:okE ns (.compif a x it c) ex=true):(∃ e t pt i f sc p,ex = .ListComp e [⟨.Name t pt,i,[f],0⟩] sc p/\(t==Str.ofString x&&gg ns sc x&&gj ns it i&&okE (eT ns sc.names) c f&&okE (eT ns sc.names) a e)=true)\/False:=by
 refine aj h fun q e h=>?_
 refine aj h fun uu e1 h=>?_
 exact .inl (jG _ _ _ _ _ _ _ (by rw [mY e,a9 e1]) h)
theorem DR (h:okE ns (.sub a b) ex=true):(∃ v s p,ex = .Subscript v s p/\(okE ns a v&&okE ns b s)=true)\/False:=by
 refine aj h fun q e h=>?_
 exact .inl (b0 _ _ _ (cK e) h)
theorem dg {α:Type}{o:Option α}(h:o.isNone=true):o=none:=by cases o with | none=>rfl | some=>exact nF h
theorem BE (h:okE ns (.slo a b) ex=true):(∃ v l p pos,ex = .Subscript v (.Slice (some l) none none p) pos/\(okE ns a v&&okE ns b l)=true)\/False:=by
 refine aj h fun q e h=>?_
 refine aj h fun l e1 h=>?_
 refine bX h fun h1 h2=>?_
 refine bX h1 fun h3 h4=>?_
 exact .inl (dY _ l _ _ (by rw [lF e,e1,dg h3,dg h4]) h2)
theorem Ej (h:okE ns (.shi a b) ex=true):(∃ v l p pos,ex = .Subscript v (.Slice none (some l) none p) pos/\(okE ns a v&&okE ns b l)=true)\/False:=by
 refine aj h fun q e h=>?_
 refine aj h fun l e1 h=>?_
 refine bX h fun h1 h2=>?_
 refine bX h1 fun h3 h4=>?_
 exact .inl (dY _ l _ _ (by rw [lF e,e1,dg h3,dg h4]) h2)
theorem CX (h:okE ns (.rev a) ex=true):(∃ v i n1 p1 p2 p pos,ex = .Subscript v (.Slice none none (some (.UnaryOp .USub (.Constant (.int i) n1 p1) p2)) p) pos/\(i==1&&okE ns a v)=true)\/False:=by
 refine aj h fun q e h=>?_
 refine aj h fun l e1 h=>?_
 refine bX h fun h1 h2=>?_
 refine bX h1 fun h3 h4=>?_
 refine aj h2 fun u e2 h=>?_
 refine bX h fun h5 h6=>?_
 refine aj h6 fun c e3 h=>?_
 refine aj h fun i e4 h=>?_
 exact .inl (jG _ i _ _ _ _ _ (by rw [lF e,e1,dg h3,dg h4,l4 e2,of_decide_eq_true h5,cI e3,ov e4]) h)
theorem xQ {f:B1}(h:okE ns (.bi1 f a) ex=true):(∃ id p x pos,ex = .Call (.Name id p) [x] [] pos/\(id==Str.ofString (b1n f)&&cE ns (b1n f)&&okE ns a x)=true)\/False:=by
 refine aj h fun q e h=>?_
 refine aj h fun x e1 h=>?_
 exact .inl (dY _ _ x _ (by rw [gS e,a9 e1]) h)
theorem xR {t:String}(h:okE ns (.isi a t) ex=true):(∃ id p x c pc pos,ex = .Call (.Name id p) [x,.Name c pc] [] pos/\(id==Str.ofString "isinstance" && cE ns "isinstance" && okE ns a x&&c==Str.ofString t&&cE ns t&&aP t)=true)\/False:=by
 refine aj h fun q e h=>?_
 refine aj h fun x e1 h=>?_
 refine aj h fun c e2 h=>?_
 exact .inl (xN _ _ x.1 c.1 c.2 _ (by rw [gS e,nR e1,aX e2]) h)
theorem BD {x t:String}(h:okE ns (.isE x t) ex=true):okE ns (.isi (.name x) t) ex=true:=h
theorem uG {f:String}{es:Es}(h:okE ns (.call f es) ex=true):(∃ id p xs pos,ex = .Call (.Name id p) xs [] pos/\(id==Str.ofString f&&cE ns f&&aP f && !decide (f∈methNames) && !decide (f∈aw) && !xs.isEmpty&&decide (xs.length<20)&&dU ns es xs)=true)\/False:=by
 refine aj h fun q e h=>?_
 exact .inl (dY _ _ _ _ (gS e) h)
theorem A0 {n:String}(h:okE ns (.attr a n) ex=true):(∃ v p,ex = .Attribute v (Str.ofString n) p/\n∈fieldNames/\qW a=true/\okE ns a v=true)\/False:=by
 refine aj h fun q e h=>?_
 simp only [Bool.and_eq_true,beq_iff_eq,decide_eq_true_eq] at h
 exact .inl (bl q.1 q.2.2 (by rw [fR e,h.1.1.1]) h.1.1.2 h.1.2 h.2)
theorem rK {xs:List Expr}(h:dU ns .nil xs=true):(xs=[]/\True)\/False:=by
 refine bG (show (d6 xs).isSome=true from h) fun uu e=>?_
 exact .inl ⟨cq e,trivial⟩
theorem pq {es:Es}{xs:List Expr}(h:dU ns (.cons a es) xs=true):(∃ x ys,xs=x::ys/\(okE ns a x&&dU ns es ys)=true)\/False:=by
 refine aj h fun q e h=>?_
 exact .inl (aB _ _ (cF e) h)
theorem Gb (h:gj ns (.r1 a) ex=true):(∃ id p x pos,ex = .Call (.Name id p) [x] [] pos/\(id==Str.ofString "range" && cE ns "range" && okE ns a x)=true)\/False:=by
 refine aj h fun q e h=>?_
 refine aj h fun x e1 h=>?_
 exact .inl (dY _ _ x _ (by rw [gS e,a9 e1]) h)
theorem Fp (h:gj ns (.r2 a b) ex=true):(∃ id p x y pos,ex = .Call (.Name id p) [x,y] [] pos/\(id==Str.ofString "range" && cE ns "range" && okE ns a x&&okE ns b y)=true)\/False:=by
 refine aj h fun q e h=>?_
 refine aj h fun x e1 h=>?_
 exact .inl (rP _ _ x.1 x.2 _ (by rw [gS e,nR e1]) h)
end
end Mine
namespace Mine
open PySem PyProof.Rows
noncomputable def bnames:List String:=["len", "list", "tuple", "sorted", "max", "min", "sum", "range", "isinstance", "int", "bool", "str", "ValueError"]
noncomputable def qn:List Str:=["__getattribute__", "__getattr__", "__class__"]
noncomputable def bmV:List Value:=[.type "ValueError", .type "Exception", .type "BaseException", .type "object"]
noncomputable def bj (ns:List (Str×NameKind)) (x:String):Bool:=varK ns x&&aP x&&(ns.lookup (Str.ofString x)==some .local||ns.lookup (Str.ofString x)==some .cell)
structure Ps where
 tag:Nat:=0
 e1:Expr:=default
 e2:Expr:=default
 es:List Expr:=[]
 o1:Option Expr:=none
 o2:Option Expr:=none
 s1:List Stmt:=[]
 s2:List Stmt:=[]
 s3:List Stmt:=[]
 hs:List ExceptHandler:=[]
 pos:Pos:=default
noncomputable def ps:Stmt->Ps
 | .Assign x0 x1 x2=>{tag:=1,es:=x0,e1:=x1,pos:=x2 }
 | .Expr x0 x1=>{tag:=2,e1:=x0,pos:=x1 }
 | .Return x0 x1=>{tag:=3,o1:=x0,pos:=x1 }
 | .If x0 x1 x2 x3=>{tag:=4,e1:=x0,s1:=x1,s2:=x2,pos:=x3 }
 | .For x0 x1 x2 x3 x4=>{tag:=5,e1:=x0,e2:=x1,s1:=x2,s2:=x3,pos:=x4 }
 | .While x0 x1 x2 x3=>{tag:=6,e1:=x0,s1:=x1,s2:=x2,pos:=x3 }
 | .Raise x0 x1 x2=>{tag:=7,o1:=x0,o2:=x1,pos:=x2 }
 | .Try x0 x1 x2 x3 x4=>{tag:=8,s1:=x0,hs:=x1,s2:=x2,s3:=x3,pos:=x4 }
 | _=>{}
noncomputable def psB (n:Nat) (p:Ps):Stmt:=match n with
 | 1=>.Assign p.es p.e1 p.pos
 | 2=>.Expr p.e1 p.pos
 | 3=>.Return p.o1 p.pos
 | 4=>.If p.e1 p.s1 p.s2 p.pos
 | 5=>.For p.e1 p.e2 p.s1 p.s2 p.pos
 | 6=>.While p.e1 p.s1 p.s2 p.pos
 | 7=>.Raise p.o1 p.o2 p.pos
 | 8=>.Try p.s1 p.hs p.s2 p.s3 p.pos
 | _=>default
theorem yM (e:Stmt):(ps e).tag=0\/psB (ps e).tag (ps e)=e:=by cases e<;>first | exact .inr rfl | exact .inl rfl
theorem fw {e:Stmt}{n:Nat}(hn:n≠0) (h:(ps e).tag=n):e=psB n (ps e):=by
 rcases yM e with q | q
 ·exact absurd (h.symm.trans q) hn
 ·rw [h] at q; exact q.symm
noncomputable def gV {α:Type}:List α->Option (α×List α)
 | []=>none
 | a::l=>some (a,l)
theorem dI {α:Type}{l:List α}{q:α×List α}(h:gV l=some q):l=q.1::q.2:=by
 cases l with
 | nil=>exact nN h
 | cons a l=>exact Option.some.inj h▸rfl
noncomputable def wt (s:Stmt):Option Expr:=if (ps s).tag=7/\(ps s).o2.isNone=true then (ps s).o1 else none
theorem vM {s:Stmt}{e:Expr}(h:wt s=some e):∃ p,s = .Raise (some e) none p:=by
 unfold wt at h
 by_cases c:(ps s).tag=7/\(ps s).o2.isNone=true
 ·rw [if_pos c] at h
  refine ⟨(ps s).pos,(fw (by decide) c.1).trans ?_⟩
  show Stmt.Raise _ _ _=_
  rw [h,Option.isNone_iff_eq_none.mp c.2]
 ·rw [if_neg c] at h; exact nN h
noncomputable def vy (s:Stmt):Option (Stmt×ExceptHandler×List ExceptHandler):=if (ps s).tag=8/\(ps s).s2.isEmpty=true/\(ps s).s3.isEmpty=true then (gV (ps s).s1).bind fun b=>if b.2.isEmpty=true then (gV (ps s).hs).map fun q=>(b.1,q.1,q.2) else none else none
theorem vm {s:Stmt}{q:Stmt×ExceptHandler×List ExceptHandler}(h:vy s=some q):∃ p,s = .Try [q.1] (q.2.1::q.2.2) [] [] p:=by
 unfold vy at h
 by_cases c:(ps s).tag=8/\(ps s).s2.isEmpty=true/\(ps s).s3.isEmpty=true
 ·rw [if_pos c] at h
  obtain ⟨b,hb,h⟩:=Option.bind_eq_some_iff.mp h
  by_cases d:b.2.isEmpty=true
  ·rw [if_pos d] at h
   obtain ⟨r,hr,e⟩:=Option.map_eq_some_iff.mp h
   refine ⟨(ps s).pos,(fw (by decide) c.1).trans ?_⟩
   show Stmt.Try _ _ _ _ _=_
   rw [dI hb,dI hr,List.isEmpty_iff.mp d,List.isEmpty_iff.mp c.2.1,List.isEmpty_iff.mp c.2.2,← e]
  ·rw [if_neg d] at h; exact nN h
 ·rw [if_neg c] at h; exact nN h
noncomputable def dH0:ExceptHandler->Option Expr×Option Str×List Stmt×Pos
 | .ExceptHandler a b c p=>(a,b,c,p)
noncomputable def zS (s:ExceptHandler):Option (Expr×Stmt×List Stmt×Option Str):=(dH0 s).1.bind fun t=>(gV (dH0 s).2.2.1).map fun q=>(t,q.1,q.2,(dH0 s).2.1)
theorem v5 {s:ExceptHandler}{q:Expr×Stmt×List Stmt×Option Str}(h:zS s=some q):∃ p,s = .ExceptHandler (some q.1) q.2.2.2 (q.2.1::q.2.2.1) p:=by
 refine aZ h fun t ht h=>?_
 refine be h fun r hr e=>?_
 have back:s = .ExceptHandler (dH0 s).1 (dH0 s).2.1 (dH0 s).2.2.1 (dH0 s).2.2.2:=by cases s; rfl
 exact ⟨(dH0 s).2.2.2,back.trans (by rw [ht,dI hr,← e])⟩
noncomputable def oQ (s:Stmt):Option (List Expr×Expr×Pos):=ifN (ps s).tag 1 ((ps s).es,(ps s).e1,(ps s).pos)
noncomputable def wb (s:Stmt):Option (Expr×Pos):=ifN (ps s).tag 2 ((ps s).e1,(ps s).pos)
noncomputable def rS (s:Stmt):Option (Option Expr×Pos):=ifN (ps s).tag 3 ((ps s).o1,(ps s).pos)
noncomputable def sIf (s:Stmt):Option (Expr×List Stmt×List Stmt×Pos):=ifN (ps s).tag 4 ((ps s).e1,(ps s).s1,(ps s).s2,(ps s).pos)
noncomputable def AB (s:Stmt):Option (Expr×Expr×List Stmt×List Stmt×Pos):=ifN (ps s).tag 5 ((ps s).e1,(ps s).e2,(ps s).s1,(ps s).s2,(ps s).pos)
theorem ki {s:Stmt}{q:List Expr×Expr×Pos}(h:oQ s=some q):s = .Assign q.1 q.2.1 q.2.2:=by
 refine bL h fun h1 G4=>?_
 (clear h; subst G4)
 exact fw (by decide) h1
theorem nU {s:Stmt}{q:Expr×Pos}(h:wb s=some q):s = .Expr q.1 q.2:=by
 refine bL h fun h1 G5=>?_
 (clear h; subst G5)
 exact fw (by decide) h1
theorem oJ {s:Stmt}{q:Option Expr×Pos}(h:rS s=some q):s = .Return q.1 q.2:=by
 refine bL h fun h1 G6=>?_
 (clear h; subst G6)
 exact fw (by decide) h1
theorem yj {s:Stmt}{q:Expr×List Stmt×List Stmt×Pos}(h:sIf s=some q):s = .If q.1 q.2.1 q.2.2.1 q.2.2.2:=by
 refine bL h fun h1 G7=>?_
 (clear h; subst G7)
 exact fw (by decide) h1
theorem uW {s:Stmt}{q:Expr×Expr×List Stmt×List Stmt×Pos}(h:AB s=some q):s = .For q.1 q.2.1 q.2.2.1 q.2.2.2.1 q.2.2.2.2:=by
 refine bL h fun h1 G8=>?_
 (clear h; subst G8)
 exact fw (by decide) h1
noncomputable def nO (s:Stmt):Option (Expr×Str×Pos×List Expr×Pos×Pos):=(wb s).bind fun q=>(lx q.1).bind fun c=>(d6 c.2.2.1).bind fun uu=>(lf c.1).map fun a=>(a.1,a.2.1,a.2.2,c.2.1,c.2.2.2,q.2)
theorem ic {s:Stmt}{q:Expr×Str×Pos×List Expr×Pos×Pos}(h:nO s=some q):s = .Expr (.Call (.Attribute q.1 q.2.1 q.2.2.1) q.2.2.2.1 [] q.2.2.2.2.1) q.2.2.2.2.2:=by
 refine aZ h fun c h1 h=>?_
 refine aZ h fun u h2 h=>?_
 refine aZ h fun uu h3 h=>?_
 refine be h fun n h4 h=>?_
 subst h
 rw [nU h1,eP h2,cq h3,fR h4]
noncomputable def okP (ns:List (Str×NameKind)) (x:String):Es->Expr->Bool
 | .nil,ex=>am (bH ex) fun n=>n.1==Str.ofString x&&bj ns x
 | .cons i r,ex=>am (iF ex) fun q=>okP ns x r q.1&&okE ns i q.2.1
noncomputable def lg (ns:List (Str×NameKind)) (x:String) (ex:Expr):Bool:=am (lf ex) fun q=>am (bH q.1) fun n=>q.2.1==Str.ofString "full" && (n.1==Str.ofString x&&bj ns x)
noncomputable def sb (ns:List (Str×NameKind)) (x:String):Es->Expr->Bool
 | .nil,ex=>lg ns x ex
 | .cons i r,ex=>am (iF ex) fun q=>sb ns x r q.1&&okE ns i q.2.1
theorem rZ {ns:List (Str×NameKind)}{x:String}{ex:Expr}(h:lg ns x ex=true):∃ p pa,ex = .Attribute (.Name (Str.ofString x) p) (Str.ofString "full") pa/\bj ns x=true:=by
 refine aj h fun q e1 h=>?_
 refine aj h fun n e2 h=>?_
 simp only [Bool.and_eq_true,beq_iff_eq] at h
 exact ⟨n.2,q.2.2,by rw [fR e1,aX e2,h.1,h.2.1],h.2.2⟩
noncomputable def Ge (ns:List (Str×NameKind)):H1->Stmt->Bool
 | .asg x e,st=>am (oQ st) fun q=>am (bO q.1) fun t=>am (bH t) fun n=>n.1==Str.ofString x&&bj ns x&&okE ns e q.2.1
 | .ret e,st=>am (rS st) fun q=>am q.1 fun v=>okE ns e v
 | .nam _,_=>false
noncomputable def iA (ns:List (Str×NameKind)):List H1->List Stmt->Bool
 | [],st=>(d6 st).isSome
 | s::r,st=>am (fW st) fun q=>Ge ns s q.1&&iA ns r q.2
noncomputable def AS (ns:List (Str×NameKind)):List H1->Option Str->List Stmt->Bool
 | .nam x::b,some y,st=>y==Str.ofString x&&(bj ns x&&ns.lookup (Str.ofString x)==some .local)&&iA ns b st
 | b,none,st=>iA ns b st
 | _,_,_=>false
noncomputable def FJ (ns:List (Str×NameKind)) (p:String×List H1) (h:ExceptHandler):Bool:=am (zS h) fun q=>am (bH q.1) fun n=>n.1==Str.ofString p.1&&cE ns p.1&&aP p.1&&AS ns p.2 q.2.2.2 (q.2.1::q.2.2.1)
noncomputable def rG (ns:List (Str×NameKind)):List (String×List H1)->List ExceptHandler->Bool
 | [],[]=>true
 | p::r,h::hs=>FJ ns p h&&rG ns r hs
 | _,_=>false
mutual
noncomputable def okS (ns:List (Str×NameKind)):S->Stmt->Bool
 | .assign x e,st=>am (oQ st) fun q=>am (bO q.1) fun t=>am (bH t) fun n=>n.1==Str.ofString x&&bj ns x&&okE ns e q.2.1
 | .setitem x e,st=>am (oQ st) fun q=>am (bO q.1) fun t=>am (iF t) fun u=>am (bH u.1) fun n=>am (eO q.2.1) fun c=>am (r8 c.1) fun b=>b&&(n.1==Str.ofString x&&bj ns x&&okE ns e u.2.1)
 | .append x e,st=>am (nO st) fun q=>am (bH q.1) fun n=>am (bO q.2.2.2.1) fun v=>q.2.1==Str.ofString "append" && (q.2.2.1.endLine==q.2.2.2.2.1.line)&&n.1==Str.ofString x&&bj ns x&&okE ns e v
 | .appendAt x is e,st=>am (nO st) fun q=>am (iF q.1) fun uu=>am (bO q.2.2.2.1) fun v=>q.2.1==Str.ofString "append" && (q.2.2.1.endLine==q.2.2.2.2.1.line)&&okP ns x is q.1&&okE ns e v
 | .appF x is e,st=>am (nO st) fun q=>am (iF q.1) fun uu=>am (bO q.2.2.2.1) fun v=>q.2.1==Str.ofString "append" && (q.2.2.1.endLine==q.2.2.2.2.1.line)&&sb ns x is q.1&&okE ns e v
 | .pop x i,st=>am (nO st) fun q=>am (bH q.1) fun n=>am (bO q.2.2.2.1) fun v=>q.2.1==Str.ofString "pop" && (q.2.2.1.endLine==q.2.2.2.2.1.line)&&n.1==Str.ofString x&&bj ns x&&okE ns i v
 | .expr e,st=>am (wb st) fun q=>(lx q.1).isSome&&okE ns e q.1
 | .ret e,st=>am (rS st) fun q=>am q.1 fun v=>okE ns e v
 | .retn x,st=>am (rS st) fun q=>am q.1 fun v=>am (bH v) fun n=>n.1==Str.ofString x&&bj ns x
 | .ite c a b,st=>am (sIf st) fun q=>okE ns c q.1&&cO ns a q.2.1&&cO ns b q.2.2.1
 | .for1 x it b,st=>am (AB st) fun q=>am (d6 q.2.2.2.1) fun uu=>am (bH q.1) fun n=>n.1==Str.ofString x&&bj ns x&&gj ns it q.2.1&&cO ns b q.2.2.1
 | .raise c,st=>am (wt st) fun q=>am (lx q) fun a=>am (d6 a.2.2.1) fun uu=>am (bH a.1) fun n=>am (bO a.2.1) fun m=>am (eO m) fun k=>am (wi k.1) fun t=>n.1==Str.ofString c&&cE ns c&&aP c&&decide (t.length≤1000)
 | .tryS b hs,st=>am (vy st) fun q=>okS ns b q.1&&rG ns hs (q.2.1::q.2.2)
 | .bad,_=>false
termination_by structural s=>s
noncomputable def cO (ns:List (Str×NameKind)):Ss->List Stmt->Bool
 | .nil,st=>(d6 st).isSome
 | .cons s r,st=>am (fW st) fun q=>okS ns s q.1&&cO ns r q.2
termination_by structural s=>s
end
section
variable {ns:List (Str×NameKind)}{st:Stmt}{x:String}{e i c:E}{a b:Ss}
theorem jc (h:okS ns (.assign x e) st=true):(∃ t pt v p,st = .Assign [.Name t pt] v p/\(t==Str.ofString x&&bj ns x&&okE ns e v)=true)\/False:=by
 refine aj h fun q e1 h=>?_
 refine aj h fun t e2 h=>?_
 refine aj h fun n e3 h=>?_
 exact .inl (dY _ _ _ _ (by rw [ki e1,a9 e2,aX e3]) h)
theorem se (h:okS ns (.setitem x e) st=true):(∃ t pt i p1 k p2 p,st = .Assign [.Subscript (.Name t pt) i p1] (.Constant (.bool true) k p2) p/\(t==Str.ofString x&&bj ns x&&okE ns e i)=true)\/False:=by
 refine aj h fun q e1 h=>?_
 refine aj h fun t e2 h=>?_
 refine aj h fun u e3 h=>?_
 refine aj h fun n e4 h=>?_
 refine aj h fun c e5 h=>?_
 refine aj h fun b e6 h=>?_
 refine bX h fun Ha h=>?_
 subst Ha
 exact .inl (jG _ _ _ _ _ _ _ (by rw [ki e1,a9 e2,cK e3,aX e4,cI e5,mq e6]) h)
theorem tB (h:okS ns (.append x e) st=true):(∃ t pt m ap v pos sp,st = .Expr (.Call (.Attribute (.Name t pt) m ap) [v] [] pos) sp/\(m==Str.ofString "append" && (ap.endLine==pos.line)&&t==Str.ofString x&&bj ns x&&okE ns e v)=true)\/False:=by
 refine aj h fun q e1 h=>?_
 refine aj h fun n e2 h=>?_
 refine aj h fun v e3 h=>?_
 exact .inl (jG _ _ _ _ v _ _ (by rw [ic e1,aX e2,a9 e3]) h)
theorem qd {is:Es}(h:okS ns (.appendAt x is e) st=true):(∃ y i p m ap v pos sp,st = .Expr (.Call (.Attribute (.Subscript y i p) m ap) [v] [] pos) sp/\(m==Str.ofString "append" && (ap.endLine==pos.line)&&okP ns x is (.Subscript y i p)&&okE ns e v)=true)\/False:=by
 refine aj h fun q e1 h=>?_
 refine aj h fun n e2 h=>?_
 refine aj h fun v e3 h=>?_
 rw [cK e2] at h
 exact .inl (ua _ _ _ _ _ v _ _ (by rw [ic e1,cK e2,a9 e3]) h)
theorem yS {is:Es}(h:okS ns (.appF x is e) st=true):(∃ y i p m ap v pos sp,st = .Expr (.Call (.Attribute (.Subscript y i p) m ap) [v] [] pos) sp/\(m==Str.ofString "append" && (ap.endLine==pos.line)&&sb ns x is (.Subscript y i p)&&okE ns e v)=true)\/False:=by
 refine aj h fun q e1 h=>?_
 refine aj h fun n e2 h=>?_
 refine aj h fun v e3 h=>?_
 rw [cK e2] at h
 exact .inl (ua _ _ _ _ _ v _ _ (by rw [ic e1,cK e2,a9 e3]) h)
theorem A3 (h:okS ns (.pop x e) st=true):(∃ t pt m ap v pos sp,st = .Expr (.Call (.Attribute (.Name t pt) m ap) [v] [] pos) sp/\(m==Str.ofString "pop" && (ap.endLine==pos.line)&&t==Str.ofString x&&bj ns x&&okE ns e v)=true)\/False:=by
 refine aj h fun q e1 h=>?_
 refine aj h fun n e2 h=>?_
 refine aj h fun v e3 h=>?_
 exact .inl (jG _ _ _ _ v _ _ (by rw [ic e1,aX e2,a9 e3]) h)
theorem lA (h:okS ns (.expr e) st=true):(∃ f xs ks p sp,st = .Expr (.Call f xs ks p) sp/\okE ns e (.Call f xs ks p)=true)\/False:=by
 refine aj h fun q e1 h=>?_
 refine bX h fun h1 h2=>?_
 refine bG h1 fun c e2=>?_
 rw [eP e2] at h2
 exact .inl (rP _ _ _ _ _ (by rw [nU e1,eP e2]) h2)
theorem nZ (h:okS ns (.ret e) st=true):(∃ v p,st = .Return (some v) p/\okE ns e v=true)\/False:=by
 refine aj h fun q e1 h=>?_
 refine aj h fun v e2 h=>?_
 exact .inl (aB v _ (by rw [oJ e1,e2]) h)
theorem yt (h:okS ns (.retn x) st=true):(∃ t pt p,st = .Return (some (.Name t pt)) p/\(t==Str.ofString x&&bj ns x)=true)\/False:=by
 refine aj h fun q e1 h=>?_
 refine aj h fun v e2 h=>?_
 refine aj h fun n e3 h=>?_
 exact .inl (b0 _ _ _ (by rw [oJ e1,e2,aX e3]) h)
theorem sE (h:okS ns (.ite c a b) st=true):(∃ t u v p,st = .If t u v p/\(okE ns c t&&cO ns a u&&cO ns b v)=true)\/False:=by
 refine aj h fun q e1 h=>?_
 exact .inl (dY _ _ _ _ (yj e1) h)
theorem qq {it:It}(h:okS ns (.for1 x it b) st=true):(∃ t pt i u p,st = .For (.Name t pt) i u [] p/\(t==Str.ofString x&&bj ns x&&gj ns it i&&cO ns b u)=true)\/False:=by
 refine aj h fun q e1 h=>?_
 refine aj h fun uu e2 h=>?_
 refine aj h fun n e3 h=>?_
 exact .inl (rP _ _ _ _ _ (by rw [uW e1,cq e2,aX e3]) h)
theorem vS {c:String}(h:okS ns (.raise c) st=true):(∃ n p t k p2 cp pos,st = .Raise (some (.Call (.Name n p) [.Constant (.str t) k p2] [] cp)) none pos/\(n==Str.ofString c&&cE ns c&&aP c&&decide (t.length≤1000))=true)\/False:=by
 refine aj h fun q e1 h=>?_
 refine aj h fun a e2 h=>?_
 refine aj h fun uu e3 h=>?_
 refine aj h fun n e4 h=>?_
 refine aj h fun m e5 h=>?_
 refine aj h fun k e6 h=>?_
 refine aj h fun t e7 h=>?_
 refine ai (vM e1) fun p e0=>?_
 exact .inl (jG n.1 n.2 t k.2.1 k.2.2 a.2.2.2 p (by rw [e0,eP e2,cq e3,aX e4,a9 e5,cI e6,pw e7]) h)
theorem AW {b:S}{hs:List (String×List H1)}(h:okS ns (.tryS b hs) st=true):∃ t d ds p,st = .Try [t] (d::ds) [] [] p/\okS ns b t=true/\rG ns hs (d::ds)=true:=by
 refine aj h fun q e1 h=>?_
 refine ai (vm e1) fun p e=>?_
 have h':=Bool.and_eq_true_iff.mp h
 exact (dY _ _ _ p e h')
theorem AY {l:List Stmt}(h:cO ns .nil l=true):(l=[]/\True)\/False:=by
 refine bG (show (d6 l).isSome=true from h) fun uu e=>?_
 exact .inl ⟨cq e,trivial⟩
theorem qE {s:S}{l:List Stmt}(h:cO ns (.cons s a) l=true):(∃ t u,l=t::u/\(okS ns s t&&cO ns a u)=true)\/False:=by
 refine aj h fun q e1 h=>?_
 exact .inl (aB _ _ (cF e1) h)
end
structure FnT where
 params:List String
 body:List Stmt
 scope:Scope
 lam:Bool
noncomputable def okF (ft:FnT) (f:Fn):Bool:=decide (ft.params=f.params)&&f.params.all (bj ft.scope.names)&&decide f.params.Nodup&&cO ft.scope.names f.body ft.body&&ft.scope.names.all fun p=>p.2 != .free
noncomputable def el (ns:List (Str×NameKind)) (n:String) (e:E) (st:Stmt):Bool:=am (oQ st) fun q=>am (bO q.1) fun t=>am (lf t) fun u=>am (bH u.1) fun m=>m.1==Str.ofString "self" && u.2.1==Str.ofString n&&okE ns e q.2.1
theorem jY {ns:List (Str×NameKind)}{n:String}{e:E}{st:Stmt}(h:el ns n e st=true):∃ p1 p2 v p,st = .Assign [.Attribute (.Name (Str.ofString "self") p1) (Str.ofString n) p2] v p/\okE ns e v=true:=by
 refine aj h fun q e1 h=>?_
 refine aj h fun t e2 h=>?_
 refine aj h fun u e3 h=>?_
 refine aj h fun m e4 h=>?_
 simp only [Bool.and_eq_true,beq_iff_eq] at h
 refine (dY m.2 u.2.2 q.2.1 q.2.2 ?_ h.2)
 rw [ki e1,a9 e2,fR e3,aX e4,h.1.1,h.1.2]
noncomputable def eg:E:=.bi1 .len (.sub (.name "full") (.int 0))
noncomputable def ok3 (ns:List (Str×NameKind)) (l:List Stmt):Bool:=am (gV l) fun p=>am (gV p.2) fun q=>am (gV q.2) fun r=>r.2.isEmpty&&(el ns "count" (.name "count") p.1&&(el ns "full" (.name "full") q.1&&el ns "size" eg r.1))
theorem ym {ns:List (Str×NameKind)}{l:List Stmt}(h:ok3 ns l=true):∃ a b c,l=[a,b,c]/\el ns "count" (.name "count") a=true/\el ns "full" (.name "full") b=true/\el ns "size" eg c=true:=by
 obtain ⟨p,h1,h⟩:=hJ h
 obtain ⟨q,h2,h⟩:=hJ h
 obtain ⟨r,h3,h⟩:=hJ h
 have e:=bA h
 have e2:=bA e.2
 have e3:=bA e2.2
 refine (fc p.1 q.1 r.1 ?_ e2.1 e3.1 e3.2)
 rw [dI h1,dI h2,dI h3,List.isEmpty_iff.mp e.1]
noncomputable def okI (ft:FnT) (f:Fn):Bool:=decide (ft.params = "self" :: f.params)&&ft.params.all (bj ft.scope.names)&&decide ft.params.Nodup&&cO ft.scope.names f.body (ft.body.take (ft.body.length-3))&&ok3 ft.scope.names (ft.body.drop (ft.body.length-3))&&decide ("self" ∉ g8 f.body)&&(ft.scope.names.all fun p=>p.2 != .free) && !ft.lam
structure Soft where
 tab:Addr->Prop
 old:Addr->Prop
 rule:Addr
 exc:String->Addr
 excN:List String
structure Gl where
 prog:Program
 w:World
 SF:Soft
end Mine
namespace Mine
open PySem PyProof.Rows
noncomputable def kA (h:Heap) (c:String):Addr:=match h.clsAt mainGlobals (Str.ofString c) with
 | some x=>x.1
 | none=>0
noncomputable def Al (h:Heap) (c:String):Option (List Value):=(h.clsAt mainGlobals (Str.ofString c)).map fun x=>x.2.2.mro
noncomputable def Bf (h:Heap) (c:String):List Value:=if c = "PickError" then bmV else .ref (kA h "PickError")::bmV
noncomputable def Ft (h:Heap) (c:String):Bool:=am (h.clsAt mainGlobals (Str.ofString c)) fun x=>h.isNs x.2.2.ns&&qn.all fun n=>(h.nsMap x.2.2.ns n).isNone
noncomputable def o9 (cs:List String) (h:Heap):Bool:=h.isNs mainGlobals&&(cs.all fun c=>Al h c==some (.ref (kA h c)::Bf h c)&&Ft h c)&&(cs.all fun c=>cs.all fun c'=>kA h c != kA h c'||c==c') &&
 match h.clsAt mainGlobals "Rule" with
 | some x=>h.isNs x.2.2.ns&&fieldNames.all fun n=>(h.nsMap x.2.2.ns (Str.ofString n)).isNone
 | none=>false
noncomputable def fZ (cs:List String) (h:Heap):Prop:=∃ mg,h.Ns mainGlobals mg/\∃ ad:String->Addr,(∀ c∈cs,∃ o cd,mg (Str.ofString c)=some (.ref (ad c))/\h.get? (ad c)=some o/\o.data = .cls cd/\cd.mro = .ref (ad c)::(if c = "PickError" then bmV else .ref (ad "PickError")::bmV)/\∃ mN,h.Ns cd.ns mN/\∀ n∈qn,mN n=none) /\
 (∀ c∈cs,∀ c'∈cs,ad c=ad c'->c=c')/\∃ C o cd mN,mg "Rule" = some (.ref C)/\h.get? C=some o/\o.data = .cls cd/\h.Ns cd.ns mN/\∀ n∈fieldNames,mN (Str.ofString n)=none
set_option tactic.hygienic true in
theorem yU {cs:List String}{h:Heap}(e:o9 cs h=true):fZ cs h:=by
 unfold o9 at e
 simp only [Bool.and_eq_true,List.all_eq_true] at e
 refine ae (e) fun G4 h4=>?_
 try clear e
 refine ae (G4) fun G5 h3=>?_
 try clear G4
 refine ae (G5) fun h1 h2=>?_
 try clear G5
 refine ⟨h.nsMap mainGlobals,.of_isNs h1,kA h,fun c hc=>?_,fun c hc c' hc' q=>?_,?_⟩
 ·have:=beq_iff_eq.mp (h2 c hc).1
  refine aj (h2 c hc).2 fun y hy hq=>?_
  simp only [Bool.and_eq_true,List.all_eq_true,Option.isNone_iff_eq_none] at hq
  unfold Al at this
  refine be this fun x hx hm=>?_
  obtain ⟨C,o,cd⟩:=x
  refine aD (Heap.clsAt_spec hx) fun e1 e2 e3=>?_
  have ea:kA h c=C:=by unfold kA; rw [hx]
  rw [ea] at hm ⊢
  rw [hx] at hy; (have oc:=Option.some.inj hy; clear hy; subst oc)
  exact ⟨o,cd,e1,e2,e3,hm,_,.of_isNs hq.1,hq.2⟩
 ·have:=h3 c hc c' hc'
  simp only [Bool.or_eq_true,bne_iff_ne,beq_iff_eq] at this
  exact this.resolve_left fun n=>n q
 ·split at h4
  ·rename_i x hx
   obtain ⟨C,o,cd⟩:=x
   refine aD (Heap.clsAt_spec hx) fun e1 e2 e3=>?_
   simp only [Bool.and_eq_true,List.all_eq_true,Option.isNone_iff_eq_none] at h4
   exact ⟨C,o,cd,_,e1,e2,e3,.of_isNs h4.1,h4.2⟩
  ·exact nF h4
noncomputable def Gx (cs:List String):PySem.W.Hook:=⟨Bool,fun s=>o9 cs s.heap,fun uu=>true,fun uu h=>fZ cs h,fun uu uu e=>yU e,fun uu h h' x k=>af (x) fun mg g1 y=>ao (y) fun ad a1 a2 z=>EO (z) fun C o cd mN b1 b2 b3 b4 b5=>⟨mg,g1.keeps k,ad,fun c hc=>a7 (a1 c hc) fun o cd c1 c2 c3 c4=>⟨o,cd,c1,k _ _ c2,c3,c4.1,af c4.2 fun mN n1 n2=>⟨mN,n1.keeps k,n2⟩⟩,a2,C,o,cd,mN,b1,k _ _ b2,b3,b4.keeps k,b5⟩⟩
noncomputable def fq (a:Arguments) (ps:List String):Bool:=a.posonlyargs.isEmpty&&(a.args.map (·.arg)==ps.map Str.ofString)&&a.vararg.isNone&&a.kwonlyargs.isEmpty&&a.kwarg.isNone
noncomputable def fz (sc:Scope):Bool:=!sc.isCoroutine && !sc.isGenerator&&sc.kind == .function
noncomputable def fk (p:Program) (loose:List Str):Option ClsRec:=(plainsOf p loose).find? fun c=>c.name==Str.ofString "Rule"
noncomputable def dK (p:Program) (loose:List Str) (m:String):Option MethRec:=(fk p loose).bind fun c=>c.meths.find? fun r=>r.name==Str.ofString m
noncomputable def gy (p:Program) (loose:List Str) (f:String) (fn:Fn):Bool :=
 if f∈aw then specOf p (Str.ofString f)==some ("ValueError.__new__", bmV)
 else if f = "Rule" then am (dK p loose "__init__") fun r=>okI ⟨"self" :: fn.params,r.body,r.scope,false⟩ fn&&fq r.params ("self" :: fn.params)&&fz r.scope
 else if f∈methNames then am (dK p loose f) fun r=>okF ⟨fn.params,r.body,r.scope,false⟩ fn&&fq r.params fn.params&&fz r.scope
 else am ((recsOf p).find? fun d=>d.name==Str.ofString f) fun d=>okF ⟨fn.params,d.body,d.scope,true⟩ fn&&fq d.params fn.params&&fz d.scope
noncomputable def kW (p:Program) (loose:List Str) (L:List (String×Fn)):Bool:=L.all fun q=>gy p loose q.1 q.2
noncomputable def bq (L:List (String×Fn)):List String:=(L.map (·.1)).filter fun f=>decide (f∈aw)
noncomputable def uS (p:Program) (loose:List Str):Bool:=bnames.all fun x=>!startupNames.contains (Str.ofString x) && !loose.contains (Str.ofString x) && !((recsOf p).map (·.name)).contains (Str.ofString x) && !((litsOf p).map (·.1)).contains (Str.ofString x) && !((clssOf p loose).map (·.name)).contains (Str.ofString x)
noncomputable def fG (v:Option Value):Option Addr:=match v with
 | some (.ref a)=>some a
 | _=>none
noncomputable def pM (mg:Str->Option Value) (L:List (String×Fn)) (h:Heap):Soft:=⟨fun P=>∃ c,h.TableAt c P #[],fun b=>∃ o,h.get? b=some o,(fG (mg "Rule")).getD 0,fun c=>(fG (mg (Str.ofString c))).getD 0,bq L⟩
noncomputable def pO (g:Gl):Prop:=∀ {p:Program}{loose:List Str}{mean:ExcName->Option Value}{mg mb:Str->Option Value}{L:List (String×Fn)}{s:Shared}{fn:Fn}{fa a:Addr}{n:Nat}{ns:List Int}{vs:List Value}{m:Mode}{Q:Value->Shared->Prop}{Er:Value->Shared->Prop},g.SF=pM mg L s.heap ->
  Top p loose mean mg mb s.heap->TopE p loose mg s.heap->fZ (bq L) s.heap->kW p loose L=true->uS p loose=true->(fk p loose).isSome=true->(L.lookup "Rule").isSome=true->(bq L=[] \/ "PickError" ∈ bq L) ->
  L.lookup "law" = some fn->mg (Str.ofString "law")=some (.ref fa)->n≤50->aH (mkC L n) fn [.d (aa ns)] = .ok (.d (.bool true),m)->s.heap.get? a=some {cls:=.type "list", data:=.seq vs.toArray }->IntsAre vs ns->ns.length≤2^22 ->
  (∀ h' tk,OldK s.heap h'->Q (.bool true) {s with heap:=h',toks:=tk })->wpAny (model g.prog g.w) callerA (call (.ref fa) [.ref a]) Q Er s
end Mine
namespace Mine
open PySem PyProof.Rows
noncomputable def gl0:Gl:=⟨default,⟨fun _ _=>0,{strHash:=fun _=>0,shareClass:=fun _=>0,mergeTok:=id,idOf:=fun _=>0,idOfShared:=fun _ _=>0,followText:=fun _=>false,idOfImm:=fun _=>0 }⟩,⟨fun _=>True,fun _=>True,0,fun _=>0,[]⟩⟩
noncomputable def gl:Gl:=@Classical.epsilon Gl ⟨gl0⟩ fun g=>¬ pO g
theorem zT (h:pO gl) (g:Gl):pO g:=by
 apply Classical.byContradiction
 intro n
 exact @Classical.epsilon_spec Gl (fun g=>¬ pO g) ⟨g,n⟩ h
noncomputable def prog:Program:=gl.prog
noncomputable def w:World:=gl.w
noncomputable def SF:Soft:=gl.SF
end Mine
namespace Mine
open PySem PyProof.Rows
noncomputable def Room (hb:Bool) (k:Nat) (A:Around):Prop:=(hb=false->A.handled=none)/\A.depth+2*k+(if hb then 1 else 4)<recursionLimit/\A.units+100*k+(if hb then 200 else 300)<cLine
noncomputable def tabO (ps:Array Value):Obj:={cls:=.none,data:=.fields ps }
noncomputable def CodesG (h:Heap) (ps:Array Value):Prop:=TriplesOk ps.toList/\∀ pos cv,codeAmong pos ps.toList=some cv->∃ c o vs q t,cv = .ref c/\h.get? c=some o/\o.cls = .type "code" /\ o.data = .fields vs/\vs[1]? = some (.str q t)
noncomputable def Stay (o:Obj):Prop:=(o.cls = .type "code" /\ ∃ fs,o.data = .fields fs)\/(o.cls = .type "tuple" /\ ∃ vs n,o.data = .seq vs n)
section
inductive Like (h h':Heap) (b:Addr) (o o':Obj):Prop
 | same:o' = o->Like h h' b o o'
 | tab (ps more:Array Value):SF.tab b->o=tabO ps->o' = tabO (ps++more)->(CodesG h ps->CodesG h' (ps++more))->Like h h' b o o'
 | frame (es:Array DictEntry) (ep:Nat):¬ SF.old b->o.cls = .type "frame" -> o.data = .dict es ep->o'.cls=o.cls->o'.data=o.data->o'.dict=o.dict->Like h h' b o o'
noncomputable def KG (G:Addr->Prop) (h h':Heap):Prop:=∀ b o,G b\/Stay o->h.get? b=some o->∃ o',h'.get? b=some o'/\Like h h' b o o'
noncomputable def hardB (o:Obj):Bool:=match o.cls with | .none=>false | .type n=>n != "frame" | _=>true
theorem Like.hard {h h':Heap}{b:Addr}{o o':Obj}(l:Like h h' b o o') (hh:hardB o=true):o' = o:=by
 cases l with
 | same e=>exact e
 | tab ps more _ e _ _=>subst e; exact nF hh
 | frame _ _ _ e _ _ _ _=>unfold hardB at hh; rw [e] at hh; simp at hh
theorem Like.exact {h h':Heap}{b:Addr}{o o':Obj}(l:Like h h' b o o') (h1:∀ fs,o.data≠.fields fs) (h2:∀ es ep,o.data≠.dict es ep):o' = o:=by
 cases l with
 | same e=>exact e
 | tab ps more _ e _ _=>(clear h2; subst e); exact absurd rfl (h1 ps)
 | frame es ep _ _ e _ _ _=>exact absurd e (h2 es ep)
theorem Like.cls {h h':Heap}{b:Addr}{o o':Obj}(l:Like h h' b o o'):o'.cls=o.cls:=by
 cases l with
 | same e=>rw [e]
 | tab ps more _ e e' _=>rw [e,e']; rfl
 | frame _ _ _ _ _ e _ _=>exact e
theorem Like.data {h h':Heap}{b:Addr}{o o':Obj}(l:Like h h' b o o') (hn:∀ fs,o.data≠.fields fs):o'.data=o.data:=by
 cases l with
 | same e=>rw [e]
 | tab ps more _ e e' _=>exact absurd (by rw [e]; rfl) (hn ps)
 | frame _ _ _ _ _ _ e _=>exact e
theorem Stay.hard {o:Obj}(x:Stay o):hardB o=true:=by
 unfold hardB
 rcases x with x | x
 ·rw [x.1]; decide
 ·rw [x.1]; decide
section
variable {G G':Addr->Prop}{h h' h'':Heap}
theorem KG.of (k:∀ b o,G b\/Stay o->h.get? b=some o->h'.get? b=some o):KG G h h':=fun b o hb e=>(ah o (k b o hb e) (.same rfl))
theorem KG.refl:KG G h h:=.of fun uu uu uu e=>e
theorem KG.hard (k:KG G h h') {b:Addr}{o:Obj}(hb:G b\/Stay o) (e:h.get? b=some o) (hh:hardB o=true):h'.get? b=some o:=by
 refine af (k b o hb e) fun o' e' l=>?_
 rw [e',l.hard hh]
theorem KG.stay (k:KG G h h') {b:Addr}{o:Obj}(e:h.get? b=some o) (x:Stay o):h'.get? b=some o:=k.hard (.inr x) e x.hard
theorem KG.codes (k:KG G h h') {ps:Array Value}(x:CodesG h ps):CodesG h' ps :=
 ⟨x.1,fun pos cv hc=>rN (x.2 pos cv hc) fun c o vs q t a1 a2 a3 a4=>(rp c o vs q t a1 (k.stay a2 (.inl (aE a3 (bI _ a4.1)))) a3 a4)⟩
theorem KG.trans (a:KG G h h') (b:KG G h' h''):KG G h h'':=fun c o hc e=>by
 refine af (a c o hc e) fun o' e' l=>?_
 have hc':G c\/Stay o':=hc.imp id fun x=>by rw [l.hard x.hard]; exact x
 refine af (b c o' hc' e') fun o'' e'' l'=>?_
 refine (ah o'' e'' ?_)
 cases l with
 | same e1=>
  (clear e hc; subst e1)
  cases l' with
  | same e2=>exact .same e2
  | tab ps more t1 t2 t3 t4=>exact .tab ps more t1 t2 t3 fun x=>t4 (a.codes x)
  | frame es ep f1 f2 f3 f4 f5 f6=>exact .frame es ep f1 f2 f3 f4 f5 f6
 | tab ps more t1 t2 t3 t4=>
  (clear e hc; subst t2 t3)
  cases l' with
  | same e2=>exact .tab ps more t1 rfl e2 fun x=>b.codes (t4 x)
  | tab ps' more' u1 u2 u3 u4=>
   have:ps' = ps++more:=by injection u2 with _ _ u; injection u with u; exact u.symm
   (clear u2; subst this)
   exact .tab ps (more++more') t1 rfl (by rw [u3,Array.append_assoc]) fun x=>by rw [← Array.append_assoc]; exact u4 (t4 x)
  | frame _ _ _ f2 _ _ _ _=>cases f2
 | frame es ep f1 f2 f0 f3 f4 f5=>
  cases l' with
  | same e2=>(clear e' hc'; subst e2); exact .frame es ep f1 f2 f0 f3 f4 f5
  | tab ps' more' u1 u2 u3 u4=>rw [f2,u2] at f3; cases f3
  | frame _ _ g1 g2 g0 g3 g4 g5=>exact .frame es ep f1 f2 f0 (g3.trans f3) (g4.trans f4) (g5.trans f5)
theorem KG.mono (k:KG G h h') (hg:∀ b,G' b->G b):KG G' h h':=fun b o hb e=>k b o (hb.imp (hg b) id) e
end
theorem Stay.not_data {o:Obj}(h1:∀ fs,o.data≠.fields fs) (h2:∀ vs n,o.data≠.seq vs n):¬ Stay o:=fun x=>x.elim (fun x=>let ⟨_,fs,e⟩:=x; h1 fs e) fun x=>let ⟨_,vs,n,e⟩:=x; h2 vs n e
theorem Stay.not_list {vs:Array Value}{n:Nat}{d:Option Addr}{x:Array (Option Value)}:¬ Stay ⟨.type "list", d,.seq vs n,x⟩:=fun x=>x.elim (fun x=>by simp at x) fun x=>by simp at x
theorem Stay.not_dict {o:Obj}{es:Array DictEntry}{ep:Nat}(h:o.data = .dict es ep):¬ Stay o:=Stay.not_data (fun uu q=>by rw [h] at q; cases q) fun uu uu q=>by rw [h] at q; cases q
theorem Stay.not_cls {o:Obj}(h1:o.cls≠.type "code") (h2:o.cls≠.type "tuple"):¬ Stay o:=fun x=>x.elim (fun x=>h1 x.1) fun x=>h2 x.1
theorem KG.ofW {wr:List Addr}{h h':Heap}(k:∀ b o,b∉wr->h.get? b=some o->h'.get? b=some o) (n:∀ b∈wr,∀ o,h.get? b=some o->¬ Stay o):KG (fun b=>b∉wr) h h' :=
 .of fun b o hb e=>k b o (fun hm=>hb.elim (fun x=>x hm) (n b hm o e)) e
theorem KG.same {G:Addr->Prop}{h h':Heap}{a:Addr}(hs:Heap.SameBut a h h') (hz:¬ G a) (hn:∀ o,h.get? a=some o->¬ Stay o):KG G h h' :=
 .of fun b o hb e=>hs.extBut b o (fun q=>by (clear hs; subst q); exact hb.elim hz (hn o e)) e
noncomputable abbrev K (h h':Heap):Prop:=KG (fun uu=>True) h h'
section
variable {h h':Heap}
theorem K.of (k:∀ b o,h.get? b=some o->h'.get? b=some o):K h h':=KG.of fun b o _ e=>k b o e
theorem K.get (k:K h h') {b:Addr}{o:Obj}(e:h.get? b=some o) (hh:hardB o=true):h'.get? b=some o:=KG.hard k (.inl trivial) e hh
theorem K.step {h'':Heap}{G:Addr->Prop}(a:K h h') (b:KG G h' h'') (hg:∀ b o,h.get? b=some o->G b):K h h'':=fun c o _ e=>
 (KG.trans (KG.mono (G':=fun b=>∃ o,h.get? b=some o) a fun uu uu=>trivial) (KG.mono b fun b ⟨o,e⟩=>hg b o e)) c o (.inl ⟨o,e⟩) e
theorem K.same {h'':Heap}{a:Addr}(k:K h h') (hs:Heap.SameBut a h' h'') (ha:h.get? a=none) (hn:∀ o,h'.get? a=some o->¬ Stay o):K h h'' :=
 K.step k (G:=fun b=>b≠a) (KG.same hs (fun q=>q rfl) hn) fun b o e q=>by rw [q,ha] at e; exact nN e
theorem K.there (k:K h h') {b:Addr}{o:Obj}(e:h.get? b=some o):∃ o',h'.get? b=some o':=af (k b o (.inl trivial) e) fun o' e' uu=>⟨o',e'⟩
theorem KG.dataG {G:Addr->Prop}(k:KG G h h') {b:Addr}{o:Obj}(g:G b\/Stay o) (e:h.get? b=some o) (hn:∀ fs,o.data≠.fields fs):∃ o',h'.get? b=some o'/\o'.data=o.data/\o'.cls=o.cls :=
 af (k b o g e) fun o' e' l=>(aC o' e' (l.data hn) l.cls)
theorem K.data (k:K h h') {b:Addr}{o:Obj}(e:h.get? b=some o) (hn:∀ fs,o.data≠.fields fs):∃ o',h'.get? b=some o'/\o'.data=o.data/\o'.cls=o.cls:=KG.dataG k (.inl trivial) e hn
theorem K.exact (k:K h h') {b:Addr}{o:Obj}(e:h.get? b=some o) (h1:∀ fs,o.data≠.fields fs) (h2:∀ es ep,o.data≠.dict es ep):h'.get? b=some o :=
 af (k b o (.inl trivial) e) fun o' e' l=>(l.exact h1 h2)▸e'
theorem BJ {G:Addr->Prop}{a:Addr}{m:Str->Option Value}(k:KG G h h') (g:G a) (x:h.Ns a m):h'.Ns a m:=by
 refine aI (x) fun o es ep e hd r=>?_
 try clear x
 obtain ⟨o',e',hd',_⟩:=k.dataG (.inl g) e fun fs q=>by rw [hd] at q; cases q
 exact (cy o' es ep e' (hd'.trans hd) r)
theorem eS {a:Addr}{m:Str->Option Value}(x:h.Ns a m) (k:K h h'):h'.Ns a m:=BJ k trivial x
theorem y2 {G:Addr->Prop}{c:Addr}{v:Option Value}(k:KG G h h') (g:G c) (x:h.IsCell c v):h'.IsCell c v:=by
 refine af (x) fun o e hd=>?_
 try clear x
 obtain ⟨o',e',hd',_⟩:=k.dataG (.inl g) e fun fs q=>by rw [hd] at q; cases q
 exact (ah o' e' (hd'.trans hd))
theorem iS {c:Addr}{v:Option Value}(x:h.IsCell c v) (k:K h h'):h'.IsCell c v:=y2 k trivial x
theorem qp (x:h.NoLimit) (k:K h h'):h'.NoLimit:=af (x) fun mc a b=>(ah mc (eS a k) b)
theorem ya {G:Addr->Prop}(k:KG G h h'):(∀ {v:Value}{d:PyData}{as:List Addr},R h v d as->(∀ a∈as,G a)->R h' v d as)/\(∀ {vs:List Value}{ds:List PyData}{as:List Addr},RA h vs ds as->(∀ a∈as,G a)->RA h' vs ds as) :=
 R.ind (M:=fun v d as=>(∀ a∈as,G a)->R h' v d as) (N:=fun vs ds as=>(∀ a∈as,G a)->RA h' vs ds as) (fun uu=>.none) (fun b _=>.bool b) (fun i t _=>.int i t) (fun x t _=>.str x t)
  (fun e _ ih g=>.list (k.hard (.inl (g _ (.head _))) e rfl) (ih fun b hb=>g b (.tail _ hb))) (fun e _ ih g=>.tuple (k.stay e (.inr (aE rfl (bD _ _ rfl)))) (ih g))
  (fun uu=>.nil) (fun uu uu i j g=>.cons (i fun b hb=>g b (List.mem_append_left _ hb)) (j fun b hb=>g b (List.mem_append_right _ hb)))
theorem R.onG {G:Addr->Prop}{v:Value}{d:PyData}{as:List Addr}(r:R h v d as) (k:KG G h h') (g:∀ a∈as,G a):R h' v d as:=(ya k).1 r g
theorem RA.onG {G:Addr->Prop}{vs:List Value}{ds:List PyData}{as:List Addr}(r:RA h vs ds as) (k:KG G h h') (g:∀ a∈as,G a):RA h' vs ds as:=(ya k).2 r g
theorem R.k {v:Value}{d:PyData}{as:List Addr}(r:R h v d as) (k:K h h'):R h' v d as:=r.onG k fun uu uu=>trivial
theorem RA.k {vs:List Value}{ds:List PyData}{as:List Addr}(r:RA h vs ds as) (k:K h h'):RA h' vs ds as:=r.onG k fun uu uu=>trivial
noncomputable def CodeOk (h:Heap) (cd:Value) (q:Str):Prop:=∃ c P ps,cd = .ref c/\h.CodeRec cd q/\h.IsCode c P ps/\h.TableAt c P ps/\CodesG h ps/\SF.tab P
theorem CodeOk.k {cd:Value}{q:Str}(x:CodeOk h cd q) (k:K h h'):CodeOk h' cd q:=by
 refine cQ (x) fun c P ps G4 G5 G6 G7 G sP=>?_
 try clear x
 subst G4
 refine fU (G5) fun c' o' vs' t' e0 e1 e2 e3=>?_
 try clear G5
 refine zw (G6) fun o vs file tf flags tg inF text tt op i1 i2 i3 i4 i5 i6 i7 i8 i9 i10 i11=>?_
 try clear G6
 refine ae (G7) fun G8 t5=>?_
 try clear G7
 refine a7 (G8) fun oc vc t1 t2 t3 t4=>?_
 try clear G8
 cases e0
 rw [i1] at e1 t1
 rw [← Option.some.inj e1] at e2
 rw [← Option.some.inj t1] at t2 t3
 have kc:h'.get? c=some o:=k.stay i1 (.inl (aE t2 (bI _ t3)))
 refine af (k P _ (.inl trivial) t5) fun o' e' l=>?_
 have fin:∃ qs,h'.get? P=some {cls:=.none,data:=.fields qs }/\CodesG h' qs:=by
  cases l with
  | same e=>subst e; exact (ah ps e' (KG.codes k G))
  | tab ps' more u1 u2 u3 u4=>
   have:ps' = ps:=by injection u2 with _ _ u; injection u with u; exact u.symm
   (clear i10 i9 t5 u2; subst this)
   exact (ah _ (by rw [e',u3]; rfl) (u4 G))
  | frame _ _ _ f _ _ _ _=>cases f
 refine af (fin) fun qs eq Gq=>?_
 try clear fin
 exact (eX c P qs rfl (g9 c o vs' t' rfl kc e2 e3) ⟨o,vs,file,tf,flags,tg,inF,text,tt,_,kc,i2,i3,i4,i5,i6,i7,eq,rfl,Gq.1,i11⟩ ⟨(bl o vc kc t2 t3 t4),eq⟩ Gq sP)
end
end
noncomputable def bval (x:String):Value:=if x∈["list", "tuple", "range", "int", "bool", "str", "ValueError"] then .type x else .builtin x
structure Fns where
 fn:String->Option (Addr×FnT)
 mth:String->Option (Addr×FnT)
 init:Option (Addr×FnT)
 lam:Bool
 hand:Bool
noncomputable def adr (fns:Fns) (f:String):Option Addr:=if f = "Rule" then fns.init.map fun uu=>SF.rule else if f∈methNames then (fns.mth f).map (·.1) else (fns.fn f).map (·.1)
theorem sG {fns:Fns}{f:String}(h1:f ≠ "Rule") (h2:f∉methNames):adr fns f=(fns.fn f).map (·.1):=by unfold adr; rw [if_neg h1,if_neg h2]
theorem yK {fns:Fns}{f:String}(h1:f ≠ "Rule") (h2:f∈methNames):adr fns f=(fns.mth f).map (·.1):=by unfold adr; rw [if_neg h1,if_pos h2]
noncomputable def FnAt (h:Heap) (ft:FnT) (a:Addr):Prop:=∃ o fd,h.get? a=some o/\o.data = .func fd/\fd.body = .stmts ft.body/\fd.scope=ft.scope/\fd.globals=mainGlobals/\fd.closure=[]/\fd.builtins=builtinsNs/\h.CodeRec fd.code fd.qualname/\(ft.lam=true->CodeOk h fd.code fd.qualname) /\
 (∀ vals,vals.length=ft.params.length->bindArgs fd ⟨vals,[]⟩=pure ((ft.params.map Str.ofString).zip vals))/\fd.scope.isCoroutine=false/\fd.scope.isGenerator=false/\fd.scope.kind = .function
theorem sS {h h':Heap}{cd:Value}{q:Str}(x:h.CodeRec cd q) (k:K h h'):h'.CodeRec cd q:=by
 refine fU (x) fun c o vs t G9 e hd hv=>?_
 try clear x
 subst G9
 refine af (k c o (.inl trivial) e) fun o' e' l=>?_
 cases l with
 | same q=>(clear e; subst q); exact (g9 c _ vs t rfl e' hd hv)
 | tab ps more _ q1 q2 _=>
  (clear e; subst q1 q2)
  obtain rfl:=Data.fields.inj (show Data.fields ps=Data.fields vs from hd)
  exact (g9 c _ (ps++more) t rfl e' rfl (by rw [Array.getElem?_append_left (Array.getElem?_eq_some_iff.mp hv).1]; exact hv))
 | frame es ep _ _ q _ _ _=>rw [hd] at q; cases q
theorem FnAt.k {h h':Heap}{ft:FnT}{a:Addr}(x:FnAt h ft a) (k:K h h'):FnAt h' ft a:=by
 refine Ac (x) fun o fd h1 h2 h3 h4 h5 h6 h7 h8 h9 h10=>?_
 try clear x
 obtain ⟨o',e',hd,_⟩:=K.data k h1 fun fs q=>by rw [h2] at q; cases q
 exact (AO o' fd e' (hd.trans h2) h3 h4 h5 h6 h7 (sS h8 k) (fun q=>(h9 q).k k) h10)
theorem qH {h h':Heap}{C N:Addr}{mN:Str->Option Value}(x:ClsAt h C N mN) (k:K h h'):ClsAt h' C N mN:=by
 obtain ⟨Ha,hn⟩:=x
 refine eB (Ha) fun nm q bs sn sub col dd k0 k1 k2 k3 k5 e=>?_
 try clear Ha
 exact ⟨⟨nm,q,bs,sn,sub,col,dd,k0,k1,k2,k3,k5,K.get k e rfl⟩,eS hn k⟩
noncomputable def RuleAt (fns:Fns) (h:Heap):Prop:=∃ N mN,ClsAt h SF.rule N mN/\(∀ n∈["__setattr__", "__getattribute__", "__getattr__", "count", "full", "size"],mN (Str.ofString n)=none) /\
 (∃ p o,fns.init=some p/\mN "__init__" = some (.ref p.1)/\FnAt h p.2 p.1/\h.get? p.1=some o/\o.cls = .type "function") /\
 ∀ m p,fns.mth m=some p->∃ o,mN (Str.ofString m)=some (.ref p.1)/\FnAt h p.2 p.1/\h.get? p.1=some o/\o.cls = .type "function"
theorem qx {h h':Heap}{a:Addr}{o:Obj}(k:K h h') (e:h.get? a=some o) (c:o.cls = .type "function"):∃ o',h'.get? a=some o'/\o'.cls = .type "function" :=
 af (k a o (.inl trivial) e) fun o' e' l=>(ah o' e' (l.cls.trans c))
theorem RuleAt.k {fns:Fns}{h h':Heap}(x:RuleAt fns h) (k:K h h'):RuleAt fns h':=by
 refine a7 (x) fun N mN h1 h2 Hc h4=>?_
 try clear x
 refine f8 (Hc) fun p o i1 i2 i3 i4 i5=>?_
 try clear Hc
 refine af (qx k i4 i5) fun o' e' c'=>?_
 refine (bl N mN (qH h1 k) h2 (dT p o' i1 i2 (i3.k k) e' c') (fun m p hp=>?_))
 refine cw (h4 m p hp) fun o j1 j2 j3 j4=>?_
 refine af (qx k j3 j4) fun o' e' c'=>?_
 exact (br o' j1 (j2.k k) e' c')
noncomputable def cD (c:String):List Value:=if c = "PickError" then bmV else .ref (SF.exc "PickError")::bmV
theorem uJ {h h':Heap}{bm tl:List Value}(T:OwnTail h bm tl) (k:K h h'):OwnTail h' bm tl:=by
 induction T with
 | base=>exact .base
 | own hA hN hq _ ih=>exact .own (K.exact k hA (fun uu q=>by cases q) fun uu uu q=>by cases q) (eS hN k) hq ih
noncomputable def QtAt (h:Heap) (c:String):Prop:=∃ o cd mN,h.get? (SF.exc c)=some o/\o.data = .cls cd/\h.Ns cd.ns mN/\∀ n∈qn,mN n=none
noncomputable def ExcAt (h:Heap) (c:String):Prop:=∃ N nm q bs hdct sn sub ab col dd k0 k1 k2 k3 k5 mN,h.get? (SF.exc c)=some (excClassObj nm q (SF.exc c) N bs (cD c) hdct sn sub ab col dd k0 k1 k2 k3 k5 "ValueError.__new__")/\h.Ns N mN/\mN "__init__" = none/\OwnTail h bmV (cD c)/\QtAt h c/\QtAt h "PickError"
theorem QtAt.k {h h':Heap}{c:String}(x:QtAt h c) (k:K h h'):QtAt h' c:=by
 obtain ⟨o,cd,mN,h1,h2,h3,h4⟩:=x
 exact ⟨o,cd,mN,K.exact k h1 (fun uu q=>by rw [h2] at q; cases q) (fun uu uu q=>by rw [h2] at q; cases q),h2,eS h3 k,h4⟩
theorem ExcAt.k {h h':Heap}{c:String}(x:ExcAt h c) (k:K h h'):ExcAt h' c:=by
 obtain ⟨N,nm,q,bs,hdct,sn,sub,ab,col,dd,k0,k1,k2,k3,k5,mN,h1,h2,h3,h4⟩:=x
 exact ⟨N,nm,q,bs,hdct,sn,sub,ab,col,dd,k0,k1,k2,k3,k5,mN,K.exact k h1 (fun uu q=>by cases q) (fun uu uu q=>by cases q),eS h2 k,h3,uJ h4.1 k,h4.2.1.k k,h4.2.2.k k⟩
structure GE (fns:Fns) (h:Heap):Prop where
 glob:∃ mg,h.Ns mainGlobals mg/\(∀ f a,f∉methNames->adr fns f=some a->mg (Str.ofString f)=some (.ref a))/\∀ x∈bnames,mg (Str.ofString x)=none
 funs:∀ f p,fns.fn f=some p->FnAt h p.2 p.1
 cls:(∃ f p,fns.mth f=some p)\/fns.init.isSome=true->RuleAt fns h
 blt:∃ mb,h.Ns builtinsNs mb/\∀ x∈bnames,mb (Str.ofString x)=some (bval x)
 nolim:h.NoLimit
 old:∀ b,SF.old b->∃ o,h.get? b=some o
 exc:∃ mg,h.Ns mainGlobals mg/\(∀ c∈SF.excN,mg (Str.ofString c)=some (.ref (SF.exc c))/\ExcAt h c)/\∀ c∈SF.excN,∀ c' ∈ "PickError" :: SF.excN,SF.exc c=SF.exc c'->c=c'
 bm:∃ mg bm ob,h.Ns mainGlobals mg/\mg "__builtins__" = some (.ref bm)/\bm≠builtinsNs/\h.get? bm=some ob/\ob.cls = .type "module" /\ ob.dict=some builtinsNs/\ob.data = .plain
theorem GE.k {fns:Fns}{h h':Heap}(G:GE fns h) (k:K h h'):GE fns h' where
 glob:=af (G.glob) fun mg a b=>(ah mg (eS a k) b)
 funs:=fun f p e=>(G.funs f p e).k k
 cls:=fun e=>(G.cls e).k k
 blt:=af (G.blt) fun mb a b=>(ah mb (eS a k) b)
 nolim:=qp G.nolim k
 old:=fun b hb=>ai (G.old b hb) fun uu e=>K.there k e
 exc:=ao (G.exc) fun mg a b c=>(aC mg (eS a k) (fun c hc=>⟨(b c hc).1,(b c hc).2.k k⟩) c)
 bm:=z3 (G.bm) fun mg bm ob a b c d e f g=>(lq mg bm ob (eS a k) b c (K.get k d (by unfold hardB; rw [e]; decide)) e f g)
theorem GE.flag {fns:Fns}{h:Heap}(G:GE fns h) (a b:Bool):GE {fns with lam:=a,hand:=b } h:=⟨G.glob,G.funs,G.cls,G.blt,G.nolim,G.old,G.exc,G.bm⟩
noncomputable def FrOk (h:Heap) (l:List Env):Prop:=∀ env∈l,env.scope.kind = .function/\∃ L o es ep,env.frame=some L/\¬ SF.old L/\h.get? L=some o/\o.cls = .type "frame" /\ o.data = .dict es ep
theorem FrOk.k {h h':Heap}{l:List Env}(x:FrOk h l) (k:K h h'):FrOk h' l:=fun env he=>by
 obtain ⟨h0,L,o,es,ep,h1,h2,h3,h4,h5⟩:=x env he
 refine af (k L o (.inl trivial) h3) fun o' e' l=>?_
 exact (aE h0 (jH L o' es ep h1 h2 e' (l.cls.trans h4) ((l.data fun fs q=>by rw [h5] at q; cases q).trans h5)))
section
noncomputable def RV (h:Heap) (v:Value):V->List Addr->Prop
 | .d x,as=>R h v x as/\sz x=true
 | .dic0,as=>∃ a,v = .ref a/\as=[a]/\(a==sysModules)=false/\h.DictOf (intKind prog w) a []/\h.DictOfH (tupleKind (intKind prog w)) a []
 | .dicI ks,as=>∃ a,v = .ref a/\as=[a]/\(a==sysModules)=false/\h.DictOf (intKind prog w) a (ks.map fun k=>(k,.bool true))
 | .dicT ks,as=>∃ a xs,v = .ref a/\as=[a]/\(a==sysModules)=false/\h.DictOfH (tupleKind (intKind prog w)) a xs/\xs.map (·.1)=ks/\(∀ k∈ks,k.length≤2^22)/\∀ x∈xs,R h (.ref x.2.1) (aM x.1) []
 | .rule c d n,as=>∃ x D o vf bs t u mA,v = .ref x/\as=x::D::bs/\h.get? x=some o/\o.cls = .ref SF.rule/\(∀ c,o.data≠.cls c)/\o.dict=some D/\D≠x/\h.Ns1 D mA/\mA "count" = some (.int c t)/\mA "full" = some vf/\mA "size" = some (.int n u)/\(∀ m∈methNames,mA (Str.ofString m)=none)/\R h vf d bs/\sz d=true
 | .err c,as=>∃ x o,v = .ref x/\as=[x]/\h.get? x=some o/\o.cls = .ref (SF.exc c)/\c∈SF.excN
inductive RVs (h:Heap):List V->List Value->List Addr->Prop
 | nil:RVs h [] [] []
 | cons {x:V}{xs:List V}{v:Value}{vs:List Value}{as bs:List Addr}:RV h v x as->RVs h xs vs bs->RVs h (x::xs) (v::vs) (as++bs)
end
inductive VarIs (h:Heap) (env:Env) (x:Str) (v:Value):Prop
 | loc (m:Str->Option Value):env.kindOf x=some .local->h.Ns env.locals m->m x=some v->VarIs h env x v
 | cell (c:Addr):env.kindOf x=some .cell\/env.kindOf x=some .free->env.cells.lookup x=some c->h.IsCell c (some v)->VarIs h env x v
structure EnvOk (env:Env):Prop where
 kind:env.scope.kind = .function
 glob:env.globals=mainGlobals
 blt:env.builtins=builtinsNs
 cells:∀ n,env.kindOf n=some .cell\/env.kindOf n=some .free->∃ c,env.cells.lookup n=some c
section
theorem Gh {h h':Heap}{G:Addr->Prop}{a:Addr}{ks:List Int}(x:IsTupleKey (intKind prog w) h ks a) (k:KG G h h'):IsTupleKey (intKind prog w) h' ks a :=
 aI (x) fun o it n a1 a2 a3=>(cy o it n (k.stay a1 (.inr (aE a2 (bD _ _ a3.1)))) a2 a3)
theorem gK {o:Obj}(x:o.ExactDict):hardB o=true:=by unfold hardB; rw [x.1]; decide
theorem nX {h h':Heap}{G:Addr->Prop}{a:Addr}{kvs:List (Int×Value)}(x:h.DictOf (intKind prog w) a kvs) (k:KG G h h') (g:G a):h'.DictOf (intKind prog w) a kvs :=
 bn (x) fun o es ep a1 r=>(b0 o es ep (k.hard (.inl g) a1 (gK r.1)) r)
theorem mV {h h':Heap}{G:Addr->Prop}{a:Addr}{xs:List (List Int×Addr×Value)}(x:h.DictOfH (tupleKind (intKind prog w)) a xs) (k:KG G h h') (g:G a):h'.DictOfH (tupleKind (intKind prog w)) a xs :=
 cQ (x) fun o es ep a1 a2 a3 a4 a5 a6=>(eX o es ep (k.hard (.inl g) a1 (gK a2)) a2 a3 a4 (fun y hy=>Gh (a5 y hy) k) a6)
theorem RV.onG {h h':Heap}{G:Addr->Prop}{v:Value}{x:V}{as:List Addr}(r:RV h v x as) (k:KG G h h') (g:∀ a∈as,G a):RV h' v x as:=by
 cases x with
 | d x=>exact ⟨r.1.onG k g,r.2⟩
 | dic0=>obtain ⟨a,h1,rfl,h3,h4,h5⟩:=r; exact (iq a h1 rfl h3 (nX h4 k (g a (.head _))) (mV h5 k (g a (.head _))))
 | dicI ks=>obtain ⟨a,h1,rfl,h3,h4⟩:=r; exact (br a h1 rfl h3 (nX h4 k (g a (.head _))))
 | dicT ks=>obtain ⟨a,xs,h1,rfl,h3,h4,h5,h6,h7⟩:=r; exact (fS a xs h1 rfl h3 (mV h4 k (g a (.head _))) h5 h6 (fun x hx=>(h7 x hx).onG k fun uu h=>nomatch h))
 | rule c d n=>
  refine gU (r) fun x D o vf bs t u mA h1 Hd h3 h4 h5 h6 h7 Hf h9 h10 h11 h12 h13 h14=>?_
  try clear r
  subst Hd
  refine bn (Hf) fun oD es ep e hd=>?_
  try clear Hf
  obtain ⟨oD',eD,q,_⟩:=k.dataG (.inl (g D (.tail _ (.head _)))) e fun fs q=>by rw [hd.1] at q; cases q
  exact (gL x D o vf bs t u mA h1 rfl (k.hard (.inl (g x (.head _))) h3 (by unfold hardB; rw [h4])) h4 h5 h6 h7 (cy oD' es ep eD (q.trans hd.1) hd.2) h9 h10 h11 h12 (h13.onG k fun a ha=>g a (.tail _ (.tail _ ha))) h14)
 | err c=>obtain ⟨x,o,h1,rfl,h3,h4,h5⟩:=r; exact (dT x o h1 rfl (k.hard (.inl (g x (.head _))) h3 (by unfold hardB; rw [h4])) h4 h5)
theorem RV.k {h h':Heap}{v:Value}{x:V}{as:List Addr}(r:RV h v x as) (k:K h h'):RV h' v x as:=r.onG k fun uu uu=>trivial
theorem VarIs.k {h h':Heap}{env:Env}{x:Str}{v:Value}(r:VarIs h env x v) (k:K h h'):VarIs h' env x v:=by
 cases r with
 | loc m a b c=>exact .loc m a (eS b k) c
 | cell c a b d=>exact .cell c a b (iS d k)
theorem RV.keep {h h':Heap}{v:Value}{x:V}{as:List Addr}(r:RV h v x as) (k:∀ b o,h.get? b=some o->h'.get? b=some o):RV h' v x as:=r.k (.of k)
noncomputable def Kp (s s':Shared):Prop:=∃ h' tk,s' = {s with heap:=h',toks:=tk }/\K s.heap h'
theorem Kp.refl (s:Shared):Kp s s:=(aB s.heap s.toks rfl KG.refl)
theorem Kp.trans {s s₁ s₂:Shared}(a:Kp s s₁) (b:Kp s₁ s₂):Kp s s₂:=by
 refine av (a) fun h t Hk k=>?_
 try clear a
 subst Hk
 refine av (b) fun h' t' Hi k'=>?_
 try clear b
 subst Hi
 exact (aB h' t' rfl (KG.trans k k'))
theorem Kp.k {s s₁:Shared}(a:Kp s s₁):K s.heap s₁.heap:=by
 obtain ⟨h,t,rfl,k⟩:=a; exact k
theorem Kp.of {s:Shared}{h':Heap}{tk:Nat}(k:∀ b o,s.heap.get? b=some o->h'.get? b=some o):Kp s {s with heap:=h',toks:=tk }:=(aB h' tk rfl (.of k))
theorem Kp.toks (s:Shared) (t:Nat):Kp s {s with toks:=t }:=.of (s:=s) fun uu uu e=>e
theorem Kp.push (s:Shared) (o:Obj) (t:Nat):Kp s {s with heap:=s.heap.push o,toks:=t }:=.of fun uu uu e=>Heap.get?_push_of_some _ e
theorem Kp.none {s s₁:Shared}(a:Kp s s₁) {b:Addr}(e:s₁.heap.get? b=none):s.heap.get? b=none:=by
 cases q:s.heap.get? b with
 | none=>rfl
 | some o=>obtain ⟨o',e'⟩:=a.k.there q; rw [e'] at e; exact nM e
structure Cx (fns:Fns) (k:Nat) (A:Around) (P:Addr->Prop) (h:Heap) (env:Env) (σ:St):Prop where
 room:Room fns.hand k A
 eok:EnvOk env
 ge:GE fns h
 code:fns.lam=true->∃ q,CodeOk h env.code q
 frm:fns.hand=false->∃ l,A.frames=some l/\FrOk h l
 vars:∀ x p,σ x=some p->varK env.scope.names x=true->∃ v as,VarIs h env (Str.ofString x) v/\RV h v p.1 as/\∀ a∈as,P a
inductive EP (P:Addr->Prop) (s:Shared) (r:V×Mode) (v:Value) (s':Shared):Prop
 | mk (kp:Kp s s') (as:List Addr) (rv:RV s'.heap v r.1 as) (own:∀ a∈as,P a\/s.heap.get? a=none) (top:r.2 = .top->∃ a bs,as=a::bs/\s.heap.get? a=none/\a∉bs) (deep:r.2 = .deep->(∀ a∈as,s.heap.get? a=none)/\as.Nodup):EP P s r v s'
inductive EPs (P:Addr->Prop) (s:Shared) (l:List (V×Mode)) (vs:List Value) (s':Shared):Prop
 | mk (kp:Kp s s') (as:List Addr) (rv:RVs s'.heap (l.map (·.1)) vs as) (own:∀ a∈as,P a\/s.heap.get? a=none) (deep:allDeep l=true->(∀ a∈as,s.heap.get? a=none)/\as.Nodup):EPs P s l vs s'
theorem EP.keeps {P:Addr->Prop}{s s':Shared}{r:V×Mode}{v:Value}(e:EP P s r v s'):Kp s s':=by cases e; assumption
theorem EPs.keeps {P:Addr->Prop}{s s':Shared}{l:List (V×Mode)}{vs:List Value}(e:EPs P s l vs s'):Kp s s':=by cases e; assumption
theorem Cx.k {fns:Fns}{k:Nat}{A:Around}{P:Addr->Prop}{h h':Heap}{env:Env}{σ:St}(X:Cx fns k A P h env σ) (kp:K h h'):Cx fns k A P h' env σ where
 room:=X.room
 eok:=X.eok
 ge:=X.ge.k kp
 code:=fun hk=>ai (X.code hk) fun q c=>⟨q,c.k kp⟩
 frm:=fun q=>af (X.frm q) fun l a b=>(ah l a (b.k kp))
 vars:=fun x p hp hv=>aA (X.vars x p hp hv) fun v as a b c=>(aO v as (a.k kp) (b.k kp) c)
theorem EP.scalar {P:Addr->Prop}{s s':Shared}{x:PyData}{v:Value}{m:Mode}(k:Kp s s') (r:R s'.heap v x []) (z:sz x=true) (hm:m≠.top):EP P s (.d x,m) v s' :=
 ⟨k,[],⟨r,z⟩,fun uu h=>(nomatch h),fun h=>absurd h hm,fun uu=>⟨fun uu h=>(nomatch h),.nil⟩⟩
theorem EP.int {P:Addr->Prop}{s s':Shared}{i:Int}{t:Tok}(k:Kp s s'):EP P s (sI i) (.int i t) s':=.scalar k (.int i t) rfl (by simp)
theorem EP.bool {P:Addr->Prop}{s s':Shared}{b:Bool}(k:Kp s s'):EP P s (sB b) (.bool b) s':=.scalar k (.bool b) rfl (by simp)
theorem EP.after {P:Addr->Prop}{s s₁ s':Shared}{r:V×Mode}{v:Value}(k:Kp s s₁) (e:EP P s₁ r v s'):EP P s r v s':=by
 obtain ⟨k',as,a,b,c,d⟩:=e
 exact ⟨k.trans k',as,a,fun x hx=>(b x hx).imp id k.none,fun hm=>aA (c hm) fun a bs h1 h2 h3=>(aO a bs h1 (k.none h2) h3),fun hm=>⟨fun x hx=>k.none ((d hm).1 x hx),(d hm).2⟩⟩
end
end Mine
set_option maxRecDepth 100000
namespace Mine
open PySem PyProof.Rows
section
variable {prog:Program}{w:World}{A:Around}{E:Value->Shared->Prop}{h:Heap}{g:Array GenState}{d:Drawn}{t:Nat}{os:OsState}{a:Addr}{o:Obj}
 {nm q:Str}{C N:Addr}{bs bm:List Value}{hdct:Bool}{sn:List Str}{sub:List Value}{ab:Bool}{col:Option Bool}{dd:Option Addr}{k0 k1 k2 k3 k5:Option Value}{newId:String}
noncomputable def Quiet (h:Heap) (C:Addr):Prop:=∀ ⦃M:Model⦄ ⦃A:Around⦄ ⦃E:Value->Shared->Prop⦄ ⦃g:Array GenState⦄ ⦃d:Drawn⦄ ⦃t:Nat⦄ ⦃os:OsState⦄ ⦃n:Str⦄ ⦃y:Option Value⦄ ⦃Q:Option Value->Shared->Prop⦄,n∈qn->typeLookup (.type "ValueError") n=pure y->Q y ⟨h,g,d,t,os⟩->wpAny M A (typeLookup (.ref C) n) Q E ⟨h,g,d,t,os⟩
theorem Quiet.lk {M:Model}(hL:Quiet h C) {n:Str}{y:Option Value}{Q:Option Value->Shared->Prop}(hn:n∈qn) (hy:typeLookup (.type "ValueError") n=pure y) (hq:Q y ⟨h,g,d,t,os⟩):wpAny M A (typeLookup (.ref C) n) Q E ⟨h,g,d,t,os⟩:=hL hn hy hq
theorem pK:typeLookup (.type "ValueError") "__class__" = pure (some (.builtin "object.__class__")):=by rw [typeLookup_type,builtinLookup_eq_fast]; kernel_rfl
theorem m8 {R:Result->Shared->Prop}(hC:h.get? C=some (excClassObj nm q C N bs bm hdct sn sub ab col dd k0 k1 k2 k3 k5 newId)) (hO:(Value.ref C::bm).contains (.type "object")=true)
  (hx:h.get? a=some o) (hc:o.cls = .ref C) (hq:R (.ok (.ret (.ref C))) ⟨h,g,d,t,os⟩) :
  codeAny (model prog w) A (.call (.builtin "getset_descriptor.__get__") ⟨[.builtin "object.__class__", .ref a,.ref C],[]⟩) R ⟨h,g,d,t,os⟩:=by
 have hT5:(⟨h,g,d,t,os⟩:Shared).TypeIs (.builtin "object.__class__") "getset_descriptor" := F.typeOf_object_class
 have hcB:(Value.ref C::bm).contains (.type (".".intercalate ("object.__class__".cutAt '.').dropLast))=true:=by rw [F.owner_object_class]; exact hO
 refine codeAny_call_builtin F.slot_gs_get.plain F.entry_gs_get (F.slot_gs_get.check _ _ _ _ _ _ _ _ hT5 (F.args_gs_get _ _ _) ?_)
 repeat (any_goals (first | assumption | (with_reducible refine wpAny_loadPart_at hx ?_; rw [hc]) | (with_reducible refine wpAny_isSubtype_exc hC ?_; rw [hcB]) | wp_step))
 refine ⟨Code.quiet_builtin _ (by decide +kernel),codeAny_builtin F.entry_object_class ?_⟩
 repeat (any_goals (first | assumption | (with_reducible refine wpAny_loadPart_at hx ?_; rw [hc]) | wp_step))
theorem kQ {tk:Tok}{Q:Fin->Shared->Prop}(hC:h.get? C=some (excClassObj nm q C N bs bm hdct sn sub ab col dd k0 k1 k2 k3 k5 newId)) (hO:(Value.ref C::bm).contains (.type "object")=true) (hL:Quiet h C)
  (hx:h.get? a=some o) (hc:o.cls = .ref C) (hq:Q (.done (.ret (.ref C))) ⟨h,g,d,t,os⟩) :
  wpAny (model prog w) A (Builtin.«object.__getattribute__» ⟨[.ref a,.str "__class__" tk],[]⟩) Q E ⟨h,g,d,t,os⟩:=by
 have hT5:(⟨h,g,d,t,os⟩:Shared).TypeIs (.builtin "object.__class__") "getset_descriptor" := F.typeOf_object_class
 have f5:=F.typeOf_object_class
 have f6:=F.slot_gs_get.lookup
 have f7:=F.slot_gs_set.lookup
 have hmA:("__class__" : Str)∈qn:=.tail _ (.tail _ (.head _))
 repeat (any_goals (first | assumption | (with_reducible refine wpAny_loadPart_at hx ?_; rw [hc]) | with_reducible refine Quiet.lk hL hmA pK ?_ | wp_step))
 refine m8 hC hO hx hc ?_
 repeat (any_goals (first | assumption | wp_step))
theorem pH {M:Model}{nameV:Value}{Q:Unit->Shared->Prop}(hC:h.get? C=some (excClassObj nm q C N bs bm hdct sn sub ab col dd k0 k1 k2 k3 k5 newId)) (hcB:(Value.ref C::bm).contains (.type "BaseException")=true)
  (hx:h.get? a=some o) (hc:o.cls = .ref C) (hq:Q () ⟨h,g,d,t,os⟩):wpAny M A (checkBuiltinCall "BaseException.__getattribute__" ⟨[.ref a,nameV],[]⟩) Q E ⟨h,g,d,t,os⟩:=by
 have hk:builtinKind "BaseException.__getattribute__" = some .slot:=by decide +kernel
 have hsplit:splitId "BaseException.__getattribute__" = some ("BaseException", "__getattribute__"):=by decide +kernel
 have ha:=F.args_bexc_ga (.ref a) nameV
 simp only [checkBuiltinCall,hk,hsplit]
 refine wpAny_bind ?_
 ·unfold isInstance
  repeat (first | (with_reducible refine wpAny_loadPart_at hx ?_; rw [hc]) | (with_reducible refine wpAny_isSubtype_exc hC ?_; rw [hcB]) | wp_step)
  exact hq
theorem pP {tk:Tok}{Q:Value->Shared->Prop}(hC:h.get? C=some (excClassObj nm q C N bs bm hdct sn sub ab col dd k0 k1 k2 k3 k5 newId)) (hO:(Value.ref C::bm).contains (.type "object")=true) (hcB:(Value.ref C::bm).contains (.type "BaseException")=true) (hL:Quiet h C)
  (hx:h.get? a=some o) (hc:o.cls = .ref C) (hq:Q (.ref C) ⟨h,g,d,t,os⟩):wpAny (model prog w) A (getAttrBy (.ref a) (.str "__class__" tk) false) Q E ⟨h,g,d,t,os⟩:=by
 have FB:=F.attrBase_ValueError
 have f3:=FB.ga.bind (.ref a)
 have hx2:(Value.builtin "BaseException.__getattribute__" == Value.builtin "object.__getattribute__")=false:=by decide +kernel
 have hx1:(onTheHeap (Value.ref C)&&Value.builtin "BaseException.__getattribute__" == Value.builtin "object.__getattribute__")=false:=by rw [hx2]; rfl
 have hm1:("__getattribute__" : Str)∈qn:=.head _
 have hm2:("__getattr__" : Str)∈qn:=.tail _ (.head _)
 repeat (any_goals (first | assumption | (with_reducible refine wpAny_loadPart_at hx ?_; rw [hc]) | with_reducible refine Quiet.lk hL hm1 FB.ga.lookup ?_ | with_reducible refine Quiet.lk hL hm2 FB.noGetattr ?_ | wp_step))
 refine codeAny_call_builtin FB.ga.plain F.entry_bexc_ga (pH hC hcB hx hc (kQ hC hO hL hx hc ?_))
 repeat (any_goals (first | assumption | wp_step))
theorem lT {Q:Option Value->Shared->Prop}(hC:h.get? C=some (excClassObj nm q C N bs bm hdct sn sub ab col dd k0 k1 k2 k3 k5 newId)) (hO:(Value.ref C::bm).contains (.type "object")=true) (hcB:(Value.ref C::bm).contains (.type "BaseException")=true) (hL:Quiet h C)
  (hx:h.get? a=some o) (hc:o.cls = .ref C) (hq:Q (some (.ref C)) ⟨h,g,d,t+1,os⟩):wpAny (model prog w) A (getAttr? (.ref a) "__class__") Q E ⟨h,g,d,t,os⟩:=by
 unfold getAttr? getAttrBy?
 repeat (any_goals (first | assumption | with_reducible apply pP hC hO hcB hL hx hc | wp_step))
theorem lB {D:Addr}{N':Addr}{nm' q':Str}{bs' bm':List Value}{hdct':Bool}{sn':List Str}{sub':List Value}{ab':Bool}{col':Option Bool}{dd':Option Addr}{j0 j1 j2 j3 j5:Option Value}{newId':String}{dep:Int}{tk:Tok}{Q:Fin->Shared->Prop}
  (hC:h.get? C=some (excClassObj nm q C N bs bm hdct sn sub ab col dd k0 k1 k2 k3 k5 newId)) (hO:(Value.ref C::bm).contains (.type "object")=true) (hcB:(Value.ref C::bm).contains (.type "BaseException")=true) (hL:Quiet h C)
  (hD:h.get? D=some (excClassObj nm' q' D N' bs' bm' hdct' sn' sub' ab' col' dd' j0 j1 j2 j3 j5 newId')) (hx:h.get? a=some o) (hc:o.cls = .ref C) (hq:∀ t',Q (.done (.ret (.bool ((Value.ref C::bm).contains (.ref D))))) ⟨h,g,d,t',os⟩) :
  wpAny (model prog w) A (Builtin.«isinstance.nested» ⟨[.ref a,.ref D,.int dep tk],[]⟩) Q E ⟨h,g,d,t,os⟩:=by
 have hqt:=hq t
 have hqs:=hq (t+1)
 by_cases he:C=D
 ·subst he
  rw [show (Value.ref C::bm).contains (.ref C)=true by simp] at hqt
  repeat (any_goals (first | assumption | (with_reducible refine wpAny_loadPart_at hx ?_; rw [hc]) | wp_step))
 ·have he':(Value.ref C==Value.ref D)=false:=by simpa using he
  cases hb:(Value.ref C::bm).contains (.ref D) with
  | true=>
   rw [hb] at hqt
   repeat (any_goals (first | assumption | (with_reducible refine wpAny_loadPart_at hx ?_; rw [hc]) | with_reducible refine wpAny_loadPart_at hD ?_ | (with_reducible refine wpAny_isSubtype_exc hC ?_; rw [hb]) | wp_step))
  | false=>
   rw [hb] at hqs
   repeat (any_goals (first | assumption | (with_reducible refine wpAny_loadPart_at hx ?_; rw [hc]) | with_reducible refine wpAny_loadPart_at hD ?_ | with_reducible refine wpAny_loadPart_at hC ?_ | (with_reducible refine wpAny_isSubtype_exc hC ?_; rw [hb]) | with_reducible apply lT hC hO hcB hL hx hc | wp_step))
theorem y3 {D:Addr}{N':Addr}{nm' q':Str}{bs' bm':List Value}{hdct':Bool}{sn':List Str}{sub':List Value}{ab':Bool}{col':Option Bool}{dd':Option Addr}{j0 j1 j2 j3 j5:Option Value}{newId':String}{Q:Value->Shared->Prop}
  (hC:h.get? C=some (excClassObj nm q C N bs bm hdct sn sub ab col dd k0 k1 k2 k3 k5 newId)) (hO:(Value.ref C::bm).contains (.type "object")=true) (hcB:(Value.ref C::bm).contains (.type "BaseException")=true) (hL:Quiet h C)
  (hD:h.get? D=some (excClassObj nm' q' D N' bs' bm' hdct' sn' sub' ab' col' dd' j0 j1 j2 j3 j5 newId')) (hx:h.get? a=some o) (hc:o.cls = .ref C) (hq:∀ t',Q (.bool ((Value.ref C::bm).contains (.ref D))) ⟨h,g,d,t',os⟩) :
  wpAny (model prog w) A (call (.builtin "isinstance") [.ref a,.ref D]) Q E ⟨h,g,d,t,os⟩:=by
 refine call_isinstance (S:=fun A R s=>s.heap=h/\∀ t',R (.ok (.ret (.bool ((Value.ref C::bm).contains (.ref D))))) {s with toks:=t' }) (fun prog w A R s hs=>?_) ⟨rfl,hq⟩
 obtain ⟨h',g,d,t,os⟩:=s
 obtain ⟨e,hR⟩:=hs
 cases e
 exact isinstance_outer (lB hC hO hcB hL hD hx hc hR) (by intro e; cases e)
theorem lJ {dep:Int}{tk:Tok}{Q:Fin->Shared->Prop}
  (hC:h.get? C=some (excClassObj nm q C N bs bm hdct sn sub ab col dd k0 k1 k2 k3 k5 newId)) (hV:(Value.ref C::bm).contains (.type "ValueError")=true) (hx:h.get? a=some o) (hc:o.cls = .ref C) (hq:Q (.done (.ret (.bool true))) ⟨h,g,d,t,os⟩) :
  wpAny (model prog w) A (Builtin.«isinstance.nested» ⟨[.ref a,.type "ValueError", .int dep tk],[]⟩) Q E ⟨h,g,d,t,os⟩:=by
 have he:(Value.ref C==Value.type "ValueError")=false:=by rfl
 have hty:typeOf (.type "ValueError")=pure (.type "type"):=by kernel_rfl
 repeat (any_goals (first | assumption | (with_reducible refine wpAny_loadPart_at hx ?_; rw [hc]) | (with_reducible refine wpAny_isSubtype_exc hC ?_; rw [hV]) | wp_step))
theorem yI {Q:Value->Shared->Prop}
  (hC:h.get? C=some (excClassObj nm q C N bs bm hdct sn sub ab col dd k0 k1 k2 k3 k5 newId)) (hV:(Value.ref C::bm).contains (.type "ValueError")=true) (hx:h.get? a=some o) (hc:o.cls = .ref C) (hq:Q (.bool true) ⟨h,g,d,t,os⟩) :
  wpAny (model prog w) A (call (.builtin "isinstance") [.ref a,.type "ValueError"]) Q E ⟨h,g,d,t,os⟩:=by
 refine call_isinstance (S:=fun A R s=>s.heap=h/\R (.ok (.ret (.bool true))) s) (fun prog w A R s hs=>?_) ⟨rfl,hq⟩
 obtain ⟨h',g,d,t,os⟩:=s
 obtain ⟨e,hR⟩:=hs
 cases e
 exact isinstance_outer (lJ hC hV hx hc hR) (by intro e; cases e)
theorem qo:mroOf (.type "ValueError")=pure bmV:=F.attrBase_ValueError.mro
theorem ud {mN:Str->Option Value}(hC:h.get? C=some (excClassObj nm q C N bs bmV hdct sn sub ab col dd k0 k1 k2 k3 k5 newId)) (hN:h.Ns N mN) (hm:∀ n∈qn,mN n=none):Quiet h C:=by
 intro M A E g d t os n y Q hn hB hq
 have hrest:lookupAlong bmV n=pure y:=by rw [typeLookup_eq,qo] at hB; exact hB
 rw [typeLookup_eq]
 refine wpAny_bind (wpAny_mroOf_exc hC ?_)
 rw [lookupAlong_cons]
 refine wpAny_bind (wpAny_classOwn_exc hC hN ?_)
 rw [hm n hn]
 rw [hrest]
 exact wpAny_pure hq
theorem tD {mN:Str->Option Value}{D:Addr}{c0:Value}{dd':Option Addr}{cd:ClassData}{sl:Array (Option Value)}{mD:Str->Option Value}(hC:h.get? C=some (excClassObj nm q C N bs (.ref D::bmV) hdct sn sub ab col dd k0 k1 k2 k3 k5 newId)) (hN:h.Ns N mN) (hm:∀ n∈qn,mN n=none)
  (hD:h.get? D=some {cls:=c0,dict:=dd',data:=.cls cd,slots:=sl }) (hDN:h.Ns cd.ns mD) (hmD:∀ n∈qn,mD n=none):Quiet h C:=by
 intro M A E g d t os n y Q hn hB hq
 have hrest:lookupAlong bmV n=pure y:=by rw [typeLookup_eq,qo] at hB; exact hB
 rw [typeLookup_eq]
 refine wpAny_bind (wpAny_mroOf_exc hC ?_)
 rw [lookupAlong_cons]
 refine wpAny_bind (wpAny_classOwn_exc hC hN ?_)
 rw [hm n hn]
 show wpAny M A (lookupAlong (.ref D::bmV) n) Q E _
 rw [lookupAlong_cons]
 refine wpAny_bind (wpAny_classOwn_cls hD hDN ?_)
 rw [hmD n hn]
 show wpAny M A (lookupAlong bmV n) Q E _
 rw [hrest]
 exact wpAny_pure hq
end
end Mine
namespace Mine
open PySem PyProof.Rows
section
variable (fns:Fns) (k:Nat) (C:Calls) (XP:String->Shared->Value->Shared->Prop)
noncomputable def SimE (e:E):Prop:=∀ {ex:Expr}{A:Around}{env:Env}{σ:St}{P:Addr->Prop}{s:Shared}{Q:Value->Shared->Prop}{Er:Value->Shared->Prop},
 okE env.scope.names e ex=true->Cx fns k A P s.heap env σ->ev C e σ≠.bad ->
 (∀ r,ev C e σ = .ok r->∀ v s',EP P s r v s'->Q v s')->(∀ c,ev C e σ = .exc c->∀ x s',XP c s x s'->Er x s') ->
 wpAny (model prog w) A (eval ex env) Q Er s
noncomputable def SimT (e:E):Prop:=∀ {ex:Expr}{A:Around}{env:Env}{σ:St}{P:Addr->Prop}{s:Shared}{Q:Bool->Shared->Prop}{Er:Value->Shared->Prop},
 okE env.scope.names e ex=true->Cx fns k A P s.heap env σ->((ev C e σ).bind fun r=>aq r.1)≠.bad ->
 (∀ b,((ev C e σ).bind fun r=>aq r.1) = .ok b->∀ s',Kp s s'->Q b s')->(∀ c,ev C e σ = .exc c->∀ x s',XP c s x s'->Er x s') ->
 wpAny (model prog w) A (isTrue ex env (eval ex env)) Q Er s
end
theorem bf {α β:Type}{o:Out α}{f:α->Out β}(h:o.bind f≠.bad):o≠.bad/\∀ a,o = .ok a->f a≠.bad:=by
 cases o with
 | ok a=>exact ⟨fun e=>(by cases e),fun uu e=>by (have oc:=Out.ok.inj e; clear e; subst oc); exact h⟩
 | exc c=>exact ⟨fun e=>(by cases e),fun uu e=>by cases e⟩
 | bad=>exact absurd rfl h
theorem aR {α β:Type}{o:Out α}{f:α->Out β}{G:Prop}(h:o.bind f≠.bad) (k:o≠.bad->(∀ a,o = .ok a->f a≠.bad)->G):G:=ae (bf h) k
theorem n8 {α β:Type}{o:Out α}{f:α->Out β}{b:β}(h:o.calm.bind f = .ok b):∃ a,o = .ok a/\f a = .ok b:=by
 cases o with
 | ok a=>exact (ah a rfl h)
 | exc c=>exact nB h
 | bad=>exact nB h
theorem fJ {α β:Type}{o:Out α}{f:α->Out β}{b:β}{G:Prop}(h:o.calm.bind f = .ok b) (k:∀ a,o = .ok a->f a = .ok b->G):G:=af (n8 h) k
theorem bF {α β:Type}{o:Out α}{f:α->Out β}{c:String}(h:o.bind f = .exc c):o = .exc c\/∃ a,o = .ok a/\f a = .exc c:=by
 cases o with
 | ok a=>exact .inr (ah a rfl h)
 | exc c=>cases h; exact .inl rfl
 | bad=>cases h
section
variable {fns:Fns}{k:Nat}{C:Calls}{XP:String->Shared->Value->Shared->Prop}
theorem GL (hXP:∀ c s s₁ x s',Kp s s₁->XP c s₁ x s'->XP c s x s') {a b:E}(Sa:SimE fns k C XP a) (Sb:SimE fns k C XP b)
  {ea eb:Expr}{A:Around}{env:Env}{σ:St}{P:Addr->Prop}{s:Shared}{G:Value->Value->Shared->Prop}{Er:Value->Shared->Prop}
  (oa:okE env.scope.names a ea=true) (ob:okE env.scope.names b eb=true) (X:Cx fns k A P s.heap env σ)
  (na:ev C a σ≠.bad) (nb:∀ x,ev C a σ = .ok x->ev C b σ≠.bad)
  (hE:∀ c,(ev C a σ = .exc c\/∃ x,ev C a σ = .ok x/\ev C b σ = .exc c)->∀ x s',XP c s x s'->Er x s')
  (hG:∀ x y,ev C a σ = .ok x->ev C b σ = .ok y->∀ va vb s₁ s₂,EP P s x va s₁->EP P s₁ y vb s₂->G va vb s₂) :
  wpAny (model prog w) A (eval ea env) (fun va s₁=>wpAny (model prog w) A (eval eb env) (fun vb s₂=>G va vb s₂) Er s₁) Er s :=
 Sa oa X na (fun x hx va s₁ Ea=>Sb ob (X.k Ea.keeps.k) (nb x hx) (fun y hy vb s₂ Eb=>hG x y hx hy va vb s₁ s₂ Ea Eb)
  fun c hc z s' hz=>hE c (.inr (ah x hx hc)) z s' (hXP c s s₁ z s' Ea.keeps hz)) fun c hc=>hE c (.inl hc)
theorem oV {env:Env}{x:String}(h:varK env.scope.names x=true):env.kindOf (Str.ofString x)=some .local\/env.kindOf (Str.ofString x)=some .cell\/env.kindOf (Str.ofString x)=some .free:=by
 unfold varK at h
 unfold Env.kindOf
 replace h:=(Bool.and_eq_true_iff.mp h).2
 split at h<;>first | (rename_i e; exact .inl e) | (rename_i e; exact .inr (.inl e)) | (rename_i e; exact .inr (.inr e)) | exact nF h
theorem cL {A:Around}{env:Env}{x:String}{pos:Pos}{v:Value}{s:Shared}{Q:Value->Shared->Prop}{Er:Value->Shared->Prop}(hk:env.scope.kind = .function) (hd:aP x=true)
  (hv:VarIs s.heap env (Str.ofString x) v) (h:Q v s):wpAny (model prog w) A (eval (.Name (Str.ofString x) pos) env) Q Er s:=by
 unfold aP at hd
 simp only [Bool.and_eq_true,Bool.not_eq_true'] at hd
 cases hv with
 | loc m a b c=>exact wpAny_Name (wpAny_loadName_local hk a b c h) hd.1
 | cell c a b d=>
  rcases a with a | a
  ·exact wpAny_Name (wpAny_loadName_cell hk a b d h) hd.1
  ·exact wpAny_Name (wpAny_loadName_free hk a b d h hd.2) hd.1
theorem ro {P:Addr->Prop}{s:Shared}{v:Value}{x:V}{as:List Addr}(r:RV s.heap v x as) (h:∀ a∈as,P a):EP P s (mk x) v s:=by
 refine ⟨.refl s,as,r,fun a ha=>.inl (h a ha),fun hm=>?_,fun hm=>?_⟩
 ·unfold mk at hm; dsimp only at hm; split at hm<;>cases hm
 ·cases x with
  | d x=>
   unfold mk at hm; dsimp only at hm
   split at hm
   ·rename_i hs
    have:as=[]:=r.1.sx_nil hs
    (clear h r; subst this)
    exact ⟨fun uu h=>(nomatch h),.nil⟩
   ·cases hm
  | _=>simp [mk,lD] at hm
theorem ku {ns:List (Str×NameKind)}{x:String}{ex:Expr}(h:okE ns (.name x) ex=true):∃ p,ex = .Name (Str.ofString x) p/\varK ns x=true/\aP x=true:=by
 replace h:=tK h
 revert h; refine fun Hg=>Or.elim Hg (fun Hb=>?_) (fun h=>?_)
 ·clear Hg
  refine av (Hb) fun HH HV Ik h=>?_
  clear Hb
  subst Ik
  simp only [Bool.and_eq_true,beq_iff_eq] at h
  refine ae (h) fun G4 h3=>?_
  try clear h
  refine ae (G4) fun G5 h2=>?_
  try clear G4
  subst G5
  exact (aC _ rfl h2 h3)
 ·cases h
theorem ig (x:String):SimE fns k C XP (.name x):=by
 intro ex A env σ P s Q Er ok X nb hQ hE
 refine ao (ku ok) fun p G6 hv hd=>?_
 (clear ok; subst G6)
 cases hσ:σ x with
 | none=>exact absurd (by simp [c7,hσ]) nb
 | some q=>
  refine aA (X.vars x q hσ hv) fun v as h1 h2 h3=>?_
  exact cL X.eok.kind hd h1 (hQ (mk q.1) (by simp [c7,hσ]) v s (ro h2 h3))
theorem lZ (i:Int):SimE fns k C XP (.int i):=by
 intro ex A env σ P s Q Er ok X nb hQ hE
 replace ok:=DP ok
 revert ok; refine fun Hh=>Or.elim Hh (fun He=>?_) (fun ok=>?_)
 ·clear Hh
  refine bn (He) fun H7 Iw H9 Iy ok=>?_
  clear He
  subst Iy
  simp only [beq_iff_eq] at ok
  subst ok
  exact wpAny_Constant_int (hQ (sI i) rfl _ _ (.int (.toks s _)))
 ·cases ok
theorem y5 (x:String):SimE fns k C XP (.str x):=by
 intro ex A env σ P s Q Er ok X nb hQ hE
 replace ok:=BY ok
 revert ok; refine fun Hm=>Or.elim Hm (fun Hl=>?_) (fun ok=>?_)
 ·clear Hm
  refine bn (Hl) fun Is Ia Id H0 ok=>?_
  clear Hl
  subst H0
  simp only [Bool.and_eq_true,beq_iff_eq,decide_eq_true_eq] at ok
  refine ae (ok) fun G7 hx=>?_
  try clear ok
  subst G7
  exact wpAny_Constant_str (hQ (.d (.str (Str.ofString x)),.deep) rfl _ _ (.scalar (.toks s _) (.str _ _) (by simpa [sz] using hx) (by simp)))
 ·cases ok
theorem ot (b:Bool):SimE fns k C XP (.bool b):=by
 intro ex A env σ P s Q Er ok X nb hQ hE
 replace ok:=AX ok
 revert ok; refine fun Hn=>Or.elim Hn (fun Hj=>?_) (fun ok=>?_)
 ·clear Hn
  refine bn (Hj) fun IP IT IX IU ok=>?_
  clear Hj
  subst IU
  simp only [beq_iff_eq] at ok
  subst ok
  exact wpAny_Constant_bool (hQ (sB b) rfl _ _ (.bool (.refl s)))
 ·cases ok
theorem vQ:SimE fns k C XP .none:=by
 intro ex A env σ P s Q Er ok X nb hQ hE
 replace ok:=Au ok
 revert ok; refine fun Hp=>Or.elim Hp (fun Ho=>?_) (fun ok=>?_)
 ·clear Hp
  refine av (Ho) fun JL Jk JV ok=>?_
  clear Ho
  subst JV
  exact wpAny_Constant_none (hQ (.d .none,.deep) rfl _ _ (.scalar (.refl s) .none rfl (by simp)))
 ·cases ok
theorem bi (h:Heap):h.get? h.objs.size=none:=Heap.get?_none_of_le (Nat.le_refl _)
theorem ei {h:Heap}{a:Addr}{o:Obj}(e:h.get? a=some o):a≠h.objs.size:=Nat.ne_of_lt (Heap.lt_size e)
theorem EP.newList {P:Addr->Prop}{s:Shared}{xs:List PyData}{vs:List Value}{as:List Addr}{t:Nat}(r:RA s.heap vs xs as) (hl:xs.length≤2^22) (hz:∀ x∈xs,sz x=true) (ha:∀ a∈as,P a) :
  EP P s (.d (.list xs),fresh xs) (.ref s.heap.objs.size) {s with heap:=s.heap.push {cls:=.type "list", data:=.seq vs.toArray },toks:=t }:=by
 refine ⟨.push s _ _,s.heap.objs.size::as,⟨.list (Heap.get?_push_size _ rfl) (r.keep fun uu uu e=>Heap.get?_push_of_some _ e),sz_list.mpr ⟨hl,hz⟩⟩,?_,?_,?_⟩
 ·intro a h
  rcases List.mem_cons.mp h with rfl | h
  ·exact .inr (bi _)
  ·exact .inl (ha a h)
 ·intro _
  exact (aO _ _ rfl (bi _) (fun h=>bg (r.there _ h) fun uu uu e=>ei e rfl))
 ·intro hm
  have hall:xs.all sx=true:=by
   unfold fresh at hm; dsimp only at hm; split at hm
   ·assumption
   ·cases hm
  rw [r.sx_nil hall]
  refine ⟨fun a h=>?_,by simp⟩
  rcases List.mem_cons.mp h with rfl | h
  ·exact bi _
  ·cases h
section
variable {va vb:Value}{as bs:List Addr}{A:Around}{P:Addr->Prop}{s:Shared}{Q:Value->Shared->Prop}{Er:Value->Shared->Prop}
theorem wy {xs ys:List PyData}(ra:R s.heap va (.list xs) as) (za:sz (.list xs)=true) (rb:R s.heap vb (.list ys) bs) (zb:sz (.list ys)=true) (ha:∀ a∈as,P a) (hb:∀ a∈bs,P a) (hl:xs.length+ys.length≤lim)
  (hQ:∀ v s',EP P s (.d (.list (xs++ys)),fresh (xs++ys)) v s'->Q v s'):wpAny (model prog w) A (binaryOp .Add va vb) Q Er s:=by
 cases ra with
 | list ea ra=>
 cases rb with
 | list eb rb=>
 unfold lim at hl
 rw [sz_list] at za zb
 have e1:=ra.length
 have e2:=rb.length
 refine PySem.P.add_list ea eb ?_ ?_
 ·have:=EP.newList (P:=P) (t:=s.toks) (ra.append rb) (by rw [List.length_append]; exact CB hl) (fun z hz=>(List.mem_append.mp hz).elim (za.2 z) (zb.2 z)) fun a h=>(List.mem_append.mp h).elim (fun h=>ha a (.tail _ h)) fun h=>hb a (.tail _ h)
  exact hQ _ _ (by simpa using this)
 ·rw [List.size_toArray,List.size_toArray,e1,e2]
  unfold sizeLine; exact DB hl
theorem zE {a b:Int}{t u:Tok}(h:a.natAbs<2^63\/b.natAbs<2^63) (hQ:∀ v s',EP P s (sI (a*b)) v s'->Q v s'):wpAny (model prog w) A (binaryOp .Mult (.int a t) (.int b u)) Q Er s:=by
 refine mul_int (hQ _ _ (.int (.toks s _))) ?_
 rcases h with hl | hl
 ·exact IntMulOk.of_left (intBits_le_64 (by exact na1 (by assumption)) (by exact na2 (by assumption)))
 ·exact IntMulOk.of_right (intBits_le_64 (by exact na1 (by assumption)) (by exact na2 (by assumption)))
theorem vn {a b:Int}{t u:Tok}(h:¬ (b=0\/1000000000≤b.natAbs)) (hQ:∀ v s',EP P s (sI (a.fdiv b)) v s'->Q v s'):wpAny (model prog w) A (binaryOp .FloorDiv (.int a t) (.int b u)) Q Er s :=
 floordiv_int (fun e=>h (.inl e)) (hQ _ _ (.int (.toks s _))) (.inl (PyProof.noPylong_small (by exact BN h)))
theorem zI {a b:Int}{t u:Tok}(h:0≤b/\b≤1000/\a.natAbs<2^63) (hQ:∀ v s',EP P s (sI (a^b.toNat)) v s'->Q v s'):wpAny (model prog w) A (binaryOp .Pow (.int a t) (.int b u)) Q Er s :=
 pow_int_small h.1 (by exact B7 h) (by exact CG h) (hQ _ _ (.int (.toks s _)))
theorem wj {o:BOp}{op:Operator}{x y:PyData}{r:V×Mode}
  (ho:opB o op=true) (he:di o x y = .ok r) (ra:R s.heap va x as) (za:sz x=true) (rb:R s.heap vb y bs) (zb:sz y=true) (ha:∀ a∈as,P a) (hb:∀ a∈bs,P a)
  (hQ:∀ v s',EP P s r v s'->Q v s'):wpAny (model prog w) A (binaryOp op va vb) Q Er s:=by
 cases of_decide_eq_true ho
 cases o with
 | add=>
  replace he:pk x y = .ok r:=he
  unfold pk at he
  cases hx:asL x with
  | some xs=>
   rw [hx] at he
   replace he:=aT he
   revert he; intro Ja
   refine af (Ja) fun ys hy he=>?_
   try clear Ja
   cases bC hx
   cases bC hy
   clear hx hy
   split at he<;>cases he
   exact wy ra za rb zb ha hb (by assumption) hQ
  | none=>
   rw [hx] at he
   replace he:=eJ he
   revert he; intro HS
   refine aA (HS) fun a b G8 G9 he=>?_
   try clear HS
   (clear hx za; subst G8)
   (clear zb; subst G9)
   (have oc:=Out.ok.inj he; clear he; subst oc); obtain ⟨_,rfl,rfl⟩:=ra.isInt; obtain ⟨_,rfl,rfl⟩:=rb.isInt
   exact add_int (hQ _ _ (.int (.toks s _)))
 | sub=>
  replace he:=eJ he
  revert he; intro Hy
  refine aA (Hy) fun a b Ha Hc he=>?_
  try clear Hy
  (clear za; subst Ha)
  (clear zb; subst Hc)
  (have oc:=Out.ok.inj he; clear he; subst oc); obtain ⟨_,rfl,rfl⟩:=ra.isInt; obtain ⟨_,rfl,rfl⟩:=rb.isInt
  exact sub_int (hQ _ _ (.int (.toks s _)))
 | mul=>
  replace he:=eJ he
  revert he; intro II
  refine aA (II) fun a b Hd Hf he=>?_
  try clear II
  (clear za; subst Hd)
  (clear zb; subst Hf)
  split at he<;>cases he
  obtain ⟨_,rfl,rfl⟩:=ra.isInt; obtain ⟨_,rfl,rfl⟩:=rb.isInt
  exact zE (by assumption) hQ
 | fdiv=>
  replace he:=eJ he
  revert he; intro HM
  refine aA (HM) fun a b Hk Hi he=>?_
  try clear HM
  (clear za; subst Hk)
  (clear zb; subst Hi)
  split at he<;>cases he
  obtain ⟨_,rfl,rfl⟩:=ra.isInt; obtain ⟨_,rfl,rfl⟩:=rb.isInt
  exact vn (by assumption) hQ
 | mod=>
  replace he:=eJ he
  revert he; intro IF
  refine aA (IF) fun a b Hs Ht he=>?_
  try clear IF
  (clear za; subst Hs)
  (clear zb; subst Ht)
  split at he<;>cases he
  obtain ⟨_,rfl,rfl⟩:=ra.isInt; obtain ⟨_,rfl,rfl⟩:=rb.isInt
  exact mod_int' (by assumption) (hQ _ _ (.int (.toks s _)))
 | pow=>
  replace he:=eJ he
  revert he; intro HN
  refine aA (HN) fun a b Hu Hz he=>?_
  try clear HN
  (clear za; subst Hu)
  (clear zb; subst Hz)
  split at he<;>cases he
  obtain ⟨_,rfl,rfl⟩:=ra.isInt; obtain ⟨_,rfl,rfl⟩:=rb.isInt
  exact zI (by assumption) hQ
 | xor=>
  replace he:=eJ he
  revert he; intro Ix
  refine aA (Ix) fun a b Hx HC he=>?_
  try clear Ix
  (clear za; subst Hx)
  (clear zb; subst HC)
  (have oc:=Out.ok.inj he; clear he; subst oc); obtain ⟨_,rfl,rfl⟩:=ra.isInt; obtain ⟨_,rfl,rfl⟩:=rb.isInt
  exact xor_int (hQ _ _ (.int (.toks s _)))
end
end
end Mine
namespace Mine
open PySem PyProof.Rows
section
variable {fns:Fns}{k:Nat}{C:Calls}{XP:String->Shared->Value->Shared->Prop}
variable {va vb:Value}{as bs:List Addr}{A:Around}{P:Addr->Prop}{s:Shared}{Q:Value->Shared->Prop}{Er:Value->Shared->Prop}
theorem Room.units {hb:Bool}{k:Nat}{A:Around}(h:Room hb k A):A.units+200<cLine:=by
 revert h; intro IE
 refine aD (IE) fun uu uu h=>?_
 try clear IE
 cases hb with
 | true=>rw [if_pos rfl] at h; exact Cw h
 | false=>rw [if_neg (by decide)] at h; exact Cq h
theorem Room.at {hb:Bool}{k:Nat}{A:Around}(h:Room hb k A) (hf:hb=false):A.depth+2*k+4<recursionLimit/\A.units+100*k+300<cLine:=by
 subst hf; exact h.2
theorem jF {d:PyData}:okc d=true↔d.canLay0=true/\d.depth≤64:=by simp [okc]
theorem nk {vs:List Value}{ns:List Int}(h:IntsAre vs ns):ItemsAre (intKind prog w) ns vs:=by
 induction h with
 | nil=>exact .nil
 | cons n t _ ih=>exact .cons (intKind_is prog w n t) ih
theorem eH {h:Heap}{v:Value}{x:PyData}{as:List Addr}{ks:List Int}(r:R h v x as) (e:dz x=some ks):∃ a,v = .ref a/\IsTupleKey (intKind prog w) h ks a:=by
 cases r with
 | tuple ea ra=>
  refine aD (ra.ints e) fun hi _ _=>?_
  exact (ah _ rfl (fc _ _ _ ea rfl rfl (by simpa using nk hi)))
 | _=>exact nN e
theorem qP {h:Heap}{v:Value}{x:PyData}{as:List Addr}{ks:List Int}(r:R h v x as) (e:dz x=some ks):R h v (aM ks) []:=by
 cases r with
 | tuple ea ra=>
  refine aD (ra.ints e) fun uu G4 G5=>?_
  subst G4
  (clear e; subst G5)
  exact .tuple ea ra
 | _=>exact nN e
theorem jg {K:Type} [DecidableEq K] (xs:List (K×Addr×Value)) (k:K):(atKey xs k).isSome=decide (k∈xs.map (·.1)):=by
 unfold atKey
 rw [Option.isSome_map]
 induction xs with
 | nil=>rfl
 | cons x xs ih=>
  by_cases hk:x.1=k
  ·simp [hk]
  ·rw [List.find?_cons,show decide (x.1=k)=false from decide_eq_false hk]
   dsimp only
   rw [ih,List.map_cons]
   simp [List.mem_cons,Ne.symm hk]
theorem l9 (ks:List Int) (k:Int):(valueAt (ks.map fun k=>(k,Value.bool true)) k).isSome=decide (k∈ks):=by
 unfold valueAt
 rw [Option.isSome_map]
 induction ks with
 | nil=>rfl
 | cons x xs ih=>
  by_cases hk:x=k
  ·simp [hk]
  ·rw [List.map_cons,List.find?_cons]
   simp only [hk,decide_false,List.mem_cons,Ne.symm hk,false_or]
   exact ih
theorem yx {x:PyData}{c:V}{b:Bool}(hu:A.units+200<cLine) (he:inV x c = .ok b) (ra:R s.heap va x as) (rb:RV s.heap vb c bs)
  (hQ:∀ s',Kp s s'->Q (.bool b) s'):wpAny (model prog w) A (compareOp .In va vb) Q Er s:=by
 cases c with
 | d y=>
  replace he:=aT he
  revert he; intro IS
  refine af (IS) fun xs hy he=>?_
  try clear IS
  cases bC hy
  split at he<;>cases he
  rename_i h1
  simp only [Bool.and_eq_true,jF] at h1
  refine aD (h1) fun G6 b1 b2=>?_
  try clear h1
  refine ae (G6) fun a1 a2=>?_
  try clear G6
  simp only [PyData.canLay0,PyData.depth] at b1 b2
  exact SeqAt.in_list_reads rb.1.reads ra.reads b1 a1 (by have:=Nat.min_le_left (PyData.depthAll ‹_›) x.depth; exact xF hu b2) (hQ s (.refl s))
 | dicI ks=>
  replace he:=aT he
  revert he; intro HS
  refine af (HS) fun i hi he=>?_
  try clear HS
  (have oc:=Out.ok.inj he; clear he; subst oc)
  refine cw (rb) fun a G7 _ lo hd=>?_
  try clear rb
  subst G7
  cases cu hi
  refine ra.isInt_k fun uu G8 G9=>?_
  (clear ra; subst G8)
  subst G9
  refine wpAny_in_of (intKind_is prog w _ _) lo hd.mapOf ?_
  rw [l9]
  exact hQ _ (.toks s _)
 | dicT ks=>
  replace he:=aT he
  revert he; intro HM
  refine af (HM) fun i hi he=>?_
  try clear HM
  (have oc:=Out.ok.inj he; clear he; subst oc)
  refine nu (rb) fun a xs Ha _ lo hd Hc _=>?_
  try clear rb
  subst Ha
  subst Hc
  refine af (eH ra hi) fun a' Hd hk=>?_
  (clear ra; subst Hd)
  refine wpAny_in_heap (tupleKind_room_in1 (by exact yg hu)) hk lo hd ?_
  rw [jg]
  exact Eq.mp (congrArg (fun b=>Q (.bool b) _) (decide_eq_decide.mpr Iff.rfl)) (hQ _ (.toks s _))
 | dic0=>
  replace he:(if (dN x).isSome||(dz x).isSome then Out.ok false else .bad) = .ok b:=he
  split at he<;>cases he
  rename_i h1
  refine jr (rb) fun a Hf _ lo hd hd'=>?_
  try clear rb
  subst Hf
  cases h2:dN x with
  | some i=>
   cases cu h2
   refine ra.isInt_k fun uu Hk Hi=>?_
   (clear ra; subst Hk)
   subst Hi
   exact wpAny_in_of (intKind_is prog w _ _) lo hd.mapOf (hQ _ (.toks s _))
  | none=>
   rw [h2] at h1
   refine bG (by simpa using h1) fun i hi=>?_
   refine af (eH ra hi) fun a' Hs hk=>?_
   (clear ra; subst Hs)
   exact wpAny_in_heap (tupleKind_room_in1 (by exact yg hu)) hk lo hd' (hQ _ (.toks s _))
 | rule _ _ _=>exact nB he
 | err _=>exact nB he
theorem ou {o:COp}{op:CmpOp}{x y:V}{b:Bool}(hu:A.units+200<cLine) (ho:opC o op=true) (he:bY o x y = .ok b) (ra:RV s.heap va x as) (rb:RV s.heap vb y bs)
  (hQ:∀ s',Kp s s'->Q (.bool b) s'):wpAny (model prog w) A (compareOp op va vb) Q Er s:=by
 cases of_decide_eq_true ho
 cases o with
 | eq=>
  replace he:=ij he
  revert he; intro HQ
  refine aA (HQ) fun x y Ht Hu he=>?_
  try clear HQ
  subst Ht
  subst Hu
  split at he<;>cases he
  rename_i h1
  simp only [Bool.and_eq_true,jF] at h1
  refine aD (h1) fun Hz b1 b2=>?_
  try clear h1
  refine ae (Hz) fun a1 a2=>?_
  try clear Hz
  exact SeqAt.compareEq_reads ra.1.reads rb.1.reads a1 b1 (by have:=Nat.min_le_left x.depth y.depth; exact xw hu a2) (hQ s (.refl s))
 | ne=>
  replace he:=ij he
  revert he; intro Jd
  refine aA (Jd) fun x y Hx HC he=>?_
  try clear Jd
  subst Hx
  subst HC
  split at he<;>cases he
  rename_i h1
  simp only [Bool.and_eq_true,jF] at h1
  refine aD (h1) fun HB b1 b2=>?_
  try clear h1
  refine ae (HB) fun a1 a2=>?_
  try clear HB
  exact SeqAt.compareNe_reads ra.1.reads rb.1.reads a1 b1 (by have:=Nat.min_le_left x.depth y.depth; exact xw hu a2) (hQ s (.refl s))
 | lt=>
  replace he:=ij he
  revert he; intro Jg
  refine aA (Jg) fun x y HL HK he=>?_
  try clear Jg
  subst HL
  subst HK
  replace he:=eJ he
  revert he; intro Ib
  refine aA (Ib) fun i j H8 H6 he=>?_
  try clear Ib
  subst H8
  subst H6
  (have oc:=Out.ok.inj he; clear he; subst oc); obtain ⟨_,rfl,rfl⟩:=ra.1.isInt; obtain ⟨_,rfl,rfl⟩:=rb.1.isInt
  exact lt_int (hQ s (.refl s))
 | gt=>
  replace he:=ij he
  revert he; intro IM
  refine aA (IM) fun x y HZ Iq he=>?_
  try clear IM
  subst HZ
  subst Iq
  replace he:=eJ he
  revert he; intro JJ
  refine aA (JJ) fun i j HO HT he=>?_
  try clear JJ
  subst HO
  subst HT
  (have oc:=Out.ok.inj he; clear he; subst oc); obtain ⟨_,rfl,rfl⟩:=ra.1.isInt; obtain ⟨_,rfl,rfl⟩:=rb.1.isInt
  exact gt_int (hQ s (.refl s))
 | ge=>
  replace he:=ij he
  revert he; intro IG
  refine aA (IG) fun x y HA HI he=>?_
  try clear IG
  subst HA
  subst HI
  replace he:=eJ he
  revert he; intro IN
  refine aA (IN) fun i j HJ HG he=>?_
  try clear IN
  subst HJ
  subst HG
  (have oc:=Out.ok.inj he; clear he; subst oc); obtain ⟨_,rfl,rfl⟩:=ra.1.isInt; obtain ⟨_,rfl,rfl⟩:=rb.1.isInt
  exact ge_int (hQ s (.refl s))
 | isin=>
  replace he:=aT he
  revert he; intro Jr
  refine af (Jr) fun x hx he=>?_
  try clear Jr
  cases bB hx
  exact yx hu he ra.1 rb hQ
 | notin=>
  replace he:=ij he
  revert he; intro Jc
  refine aA (Jc) fun kx y HR Iv he=>?_
  try clear Jc
  subst HR
  subst Iv
  refine Out.bind_k he fun b' h1 h2=>?_
  (have oc:=Out.ok.inj h2; clear h2; (clear he; subst oc))
  replace h1:=aT h1
  revert h1; intro Jm
  refine af (Jm) fun xs hy h1=>?_
  try clear Jm
  cases bC hy
  split at h1<;>cases h1
  rename_i h1
  simp only [Bool.and_eq_true,jF] at h1
  refine aD (h1) fun Ic b1 b2=>?_
  try clear h1
  refine ae (Ic) fun a1 a2=>?_
  try clear Ic
  simp only [PyData.canLay0,PyData.depth] at b1 b2
  exact SeqAt.notIn_list_reads rb.1.reads ra.1.reads b1 a1 (by have:=Nat.min_le_left (PyData.depthAll xs) kx.depth; exact xF hu b2) (hQ s (.refl s))
 | isnot=>
  replace he:=ij he
  revert he; intro Jf
  refine aA (Jf) fun x y IV I7 he=>?_
  try clear Jf
  subst IV
  subst I7
  split at he<;>cases he
  cases yQ (by assumption)
  obtain ⟨ra,_⟩:=ra; obtain ⟨rfl,rfl⟩:=rb.1.isNone
  refine isNot_none ?_
  cases ra<;>exact hQ s (.refl s)
end
end Mine
namespace Mine
open PySem PyProof.Rows
section
variable {fns:Fns}{k:Nat}{C:Calls}{XP:String->Shared->Value->Shared->Prop}
theorem EP.shift {P:Addr->Prop}{s s₂ s₃:Shared}{r:V×Mode}{v:Value}(kp:Kp s s₂) (e:EP (fun a=>P a\/s.heap.get? a=none) s₂ r v s₃):EP P s r v s₃:=by
 obtain ⟨k',as,a,b,c,d⟩:=e
 refine ⟨kp.trans k',as,a,fun x hx=>?_,fun hm=>aA (c hm) fun a bs h1 h2 h3=>(aO a bs h1 (kp.none h2) h3),fun hm=>⟨fun x hx=>kp.none ((d hm).1 x hx),(d hm).2⟩⟩
 rcases b x hx with h | h
 ·exact h
 ·exact .inr (kp.none h)
theorem jD (hXP:∀ c s s₁ x s',Kp s s₁->XP c s₁ x s'->XP c s x s') {a b:E}(Sa:SimE fns k C XP a) (Sb:SimE fns k C XP b)
  {ea eb:Expr}{A:Around}{env:Env}{σ:St}{P:Addr->Prop}{s:Shared}{Er:Value->Shared->Prop}{G:Value->Value->Shared->Prop}{f:V->V->Out (V×Mode)}
  (oa:okE env.scope.names a ea=true) (ob:okE env.scope.names b eb=true) (X:Cx fns k A P s.heap env σ)
  (nb:((ev C a σ).bind fun x=>(ev C b σ).bind fun y=>f x.1 y.1)≠.bad)
  (hE:∀ c,((ev C a σ).bind fun x=>(ev C b σ).bind fun y=>f x.1 y.1) = .exc c->∀ x s',XP c s x s'->Er x s') (hf:∀ x y c,f x y≠.exc c)
  (hG:∀ x y r,((ev C a σ).bind fun x=>(ev C b σ).bind fun y=>f x.1 y.1) = .ok r->f x y = .ok r->∀ va vb s₂ as bs,Kp s s₂->RV s₂.heap va x as->RV s₂.heap vb y bs ->
   (∀ a∈as,P a\/s.heap.get? a=none)->(∀ a∈bs,P a\/s.heap.get? a=none)->G va vb s₂) :
  wpAny (model prog w) A (eval ea env) (fun va s₁=>wpAny (model prog w) A (eval eb env) (fun vb s₂=>G va vb s₂) Er s₁) Er s:=by
 refine aR nb fun n1 n2=>?_
 refine GL hXP Sa Sb oa ob X n1 (fun x hx=>(bf (n2 x hx)).1) (fun c hc=>hE c ?_) fun x y hx hy va vb s₁ s₂ Ea Eb=>?_
 ·rcases hc with hc | ⟨x,hx,hc⟩
  ·rw [hc]; rfl
  ·rw [hx,Out.ok_bind,hc]; rfl
 ·have h1:=(bf (n2 x hx)).2 y hy
  cases hr:f x.1 y.1 with
  | bad=>exact absurd hr h1
  | exc c=>exact absurd hr (hf _ _ _)
  | ok r=>
   obtain ⟨ka,as,ra,ha,_⟩:=Ea
   obtain ⟨kb,bs,rb,hb,_⟩:=Eb
   exact hG x.1 y.1 r (by rw [hx,Out.ok_bind,hy,Out.ok_bind]; exact hr) hr va vb s₂ as bs (ka.trans kb) (ra.k kb.k) rb ha fun z hz=>(hb z hz).imp id ka.none
theorem wY {o:BOp}{x y:PyData}{c:String}:di o x y≠.exc c:=yL c
theorem oP {o:COp}{x y:V}{c:String}:bY o x y≠.exc c:=zp c
theorem yk {ns:List (Str×NameKind)}{o:BOp}{a b:E}{ex:Expr}(h:okE ns (.bin o a b) ex=true):∃ l op r p,ex = .BinOp l op r p/\opB o op=true/\okE ns a l=true/\okE ns b r=true:=by
 replace h:=Bz h
 revert h; refine fun Hg=>Or.elim Hg (fun Hb=>?_) (fun h=>?_)
 ·clear Hg
  refine cb (Hb) fun HH HV Il H7 HU h=>?_
  clear Hb
  subst HU
  simp only [Bool.and_eq_true] at h
  exact (g9 _ _ _ _ rfl h.1.1 h.1.2 h.2)
 ·cases h
theorem qi (hXP:∀ c s s₁ x s',Kp s s₁->XP c s₁ x s'->XP c s x s') {o:BOp}{a b:E}(Sa:SimE fns k C XP a) (Sb:SimE fns k C XP b):SimE fns k C XP (.bin o a b):=by
 intro ex A env σ P s Q Er ok X nb hQ hE
 refine fU (yk ok) fun l op r p G4 ho oa ob=>?_
 (clear ok; subst G4)
 simp only [lC] at nb hQ hE
 refine wpAny_BinOp (jD hXP Sa Sb (f:=fun x y=>match x,y with | .d x,.d y=>di o x y | _,_=>.bad) oa ob X nb hE (fun x y c=>?_) fun x y r hr hf va vb s₂ as bs kp ra rb ha hb=>?_)
 ·split
  ·exact wY
  ·simp
 ·split at hf
  ·exact wj ho hf ra.1 ra.2 rb.1 rb.2 ha hb fun v s' e=>hQ r hr v s' (.shift kp e)
  ·exact nB hf
theorem qF {ns:List (Str×NameKind)}{o:COp}{a b:E}{ex:Expr}(h:okE ns (.cmp o a b) ex=true):∃ l op r p,ex = .Compare l [op] [r] p/\opC o op=true/\okE ns a l=true/\okE ns b r=true:=by
 replace h:=BH h
 revert h; refine fun Hh=>Or.elim Hh (fun He=>?_) (fun h=>?_)
 ·clear Hh
  refine cb (He) fun H9 Im Is Ia I8 h=>?_
  clear He
  subst I8
  simp only [Bool.and_eq_true] at h
  exact (g9 _ _ _ _ rfl h.1.1 h.1.2 h.2)
 ·cases h
theorem y4 {ns:List (Str×NameKind)}{e:E}{es:List Expr}{n:Nat}{p:Pos}:okE ns e (.Set es n p)=false:=by cases e<;>rfl
theorem nW {ns:List (Str×NameKind)}{e:E}{op:CmpOp}{x:Expr}(h:okE ns e x=true):behindInMarks op x=false:=by
 cases x<;>first | rfl | (rw [y4] at h; cases h)
theorem qu (hXP:∀ c s s₁ x s',Kp s s₁->XP c s₁ x s'->XP c s x s') {o:COp}{a b:E}(Sa:SimE fns k C XP a) (Sb:SimE fns k C XP b):SimE fns k C XP (.cmp o a b):=by
 intro ex A env σ P s Q Er ok X nb hQ hE
 refine fU (qF ok) fun l op r p G5 ho oa ob=>?_
 (clear ok; subst G5)
 simp only [jv] at nb hQ hE
 refine wpAny_Compare1 (jD hXP Sa Sb (f:=fun x y=>(bY o x y).bind fun b=>.ok (sB b)) oa ob X nb hE (fun x y c h=>?_) fun x y r hr hf va vb s₂ as bs kp ra rb ha hb=>?_) (nW ob)
 ·rcases bF h with h | ⟨_,_,h⟩
  ·exact oP h
  ·cases h
 ·refine Out.bind_k hf fun t h1 h2=>?_
  (have oc:=Out.ok.inj h2; clear h2; (clear hf; subst oc))
  exact ou X.room.units ho h1 ra rb fun s' e=>hQ _ hr _ s' (.bool (kp.trans e))
theorem o6 (hXP:∀ c s s₁ x s',Kp s s₁->XP c s₁ x s'->XP c s x s') {o:COp}{a b:E}(Sa:SimE fns k C XP a) (Sb:SimE fns k C XP b):SimT fns k C XP (.cmp o a b):=by
 intro ex A env σ P s Q Er ok X nb hQ hE
 refine fU (qF ok) fun l op r p G6 ho oa ob=>?_
 (clear ok; subst G6)
 have nb':=(bf nb).1
 have hQ':∀ r,ev C (.cmp o a b) σ = .ok r->∀ b,aq r.1 = .ok b->∀ s',Kp s s'->Q b s':=fun r hr t ht=>hQ t (by rw [hr]; exact ht)
 simp only [jv] at nb' hQ' hE
 refine wpAny_isTrue_Compare1 (jD hXP Sa Sb (f:=fun x y=>(bY o x y).bind fun b=>.ok (sB b)) oa ob X nb' hE (fun x y c h=>?_) fun x y r hr hf va vb s₂ as bs kp ra rb ha hb=>?_) (nW ob)
 ·rcases bF h with h | ⟨_,_,h⟩
  ·exact oP h
  ·cases h
 ·refine Out.bind_k hf fun t h1 h2=>?_
  (have oc:=Out.ok.inj h2; clear h2; (clear hf; subst oc))
  exact ou X.room.units ho h1 ra rb fun s' e=>wpAny_truthy_bool (hQ' _ hr _ rfl s' (kp.trans e))
theorem zl {a:E}(Sa:SimE fns k C XP a):SimE fns k C XP (.neg a):=by
 intro ex A env σ P s Q Er ok X nb hQ hE
 replace ok:=xh ok
 revert ok; refine fun Hm=>Or.elim Hm (fun Hl=>?_) (fun ok=>?_)
 ·clear Hm
  refine av (Hl) fun IJ IP IK ok=>?_
  clear Hl
  subst IK
  simp only [lU] at nb hQ hE
  refine aR nb fun n1 n2=>?_
  refine wpAny_UnaryOp (Sa ok X n1 (fun x hx va s₁ Ea=>?_) fun c hc=>hE c (by rw [hc]; rfl))
  have n3:=n2 x hx
  obtain ⟨ka,as,ra,_⟩:=Ea
  obtain ⟨x,m⟩:=x
  dsimp only at n3 ra
  split at n3
  ·refine ra.1.isInt_k fun uu G7 G8=>?_
   (clear ra; subst G7)
   subst G8
   exact neg_int (hQ _ (by rw [hx]; rfl) _ _ (.int (ka.trans (.toks s₁ _))))
  ·exact absurd rfl n3
 ·cases ok
theorem rU {e:E}(S:SimE fns k C XP e) (hp:∀ ns ex env (t:Sem Value),okE ns e ex=true->isTrue ex env t=(do let v ← t; standAt ex.pos; holding [v] (truthy v))):SimT fns k C XP e:=by
 intro ex A env σ P s Q Er ok X nb hQ hE
 refine wpAny_isTrue_value (S ok X (bf nb).1 (fun r hr v s' E=>?_) hE) (hp _ _ _ _ ok)
 have n2:=(bf nb).2 r hr
 obtain ⟨x,m⟩:=r
 dsimp only at n2
 unfold aq at n2
 split at n2
 ·obtain ⟨ke,as,G9,_⟩:=E
  refine ae (G9) fun re _=>?_
  try clear G9
  refine ae (re.isBool) fun Ha Hc=>?_
  (clear re; subst Ha)
  subst Hc
  exact wpAny_truthy_bool (hQ _ (by rw [hr]; rfl) _ ke)
 ·exact absurd rfl n2
theorem qv {ns:List (Str×NameKind)}{a:E}{ex:Expr}(h:okE ns (.not a) ex=true):∃ x p,ex = .UnaryOp .Not x p/\okE ns a x=true:=by
 replace h:=By h
 revert h; refine fun Hn=>Or.elim Hn (fun Hj=>?_) (fun h=>?_)
 ·clear Hn
  refine av (Hj) fun IX IZ Iu h=>?_
  clear Hj
  subst Iu
  exact (aB _ _ rfl h)
 ·cases h
theorem qJ {a:E}(Sa:SimE fns k C XP a):SimE fns k C XP (.not a):=by
 intro ex A env σ P s Q Er ok X nb hQ hE
 refine av (qv ok) fun x p Hd oa=>?_
 (clear ok; subst Hd)
 simp only [gQ] at nb hQ hE
 refine aR nb fun n1 n2=>?_
 refine wpAny_UnaryOp (Sa oa X n1 (fun x hx va s₁ Ea=>?_) fun c hc=>hE c (by rw [hc]; rfl))
 have n3:=(bf (n2 x hx)).1
 obtain ⟨ka,as,ra,_⟩:=Ea
 obtain ⟨x,m⟩:=x
 dsimp only at n3 ra
 unfold aq at n3
 split at n3
 ·refine ae (ra.1.isBool) fun Hf Hk=>?_
  (clear ra; subst Hf)
  subst Hk
  exact not_value (wpAny_truthy_bool (hQ _ (by rw [hx]; rfl) _ _ (.bool ka)))
 ·exact absurd rfl n3
theorem pB {a:E}(Sa:SimT fns k C XP a):SimT fns k C XP (.not a):=by
 intro ex A env σ P s Q Er ok X nb hQ hE
 refine av (qv ok) fun x p Hi oa=>?_
 (clear ok; subst Hi)
 have e:((ev C (.not a) σ).bind fun r=>aq r.1)=((ev C a σ).bind fun r=>aq r.1).bind fun b=>.ok (!b):=by
  simp only [gQ]
  cases ev C a σ with
  | ok r=>simp only [Out.ok_bind]; cases aq r.1<;>rfl
  | exc c=>rfl
  | bad=>rfl
 rw [e] at nb hQ
 refine wpAny_isTrue_Not (Sa oa X (bf nb).1 (fun b hb s' kp=>hQ (!b) (by rw [hb]; rfl) s' kp) fun c hc=>hE c (by simp only [gQ]; rw [hc]; rfl))
end
end Mine
namespace Mine
open PySem PyProof.Rows
section
variable (fns:Fns) (k:Nat) (C:Calls) (XP:String->Shared->Value->Shared->Prop)
noncomputable def SimA (e:E):Prop:=∀ {vs:List Expr}{pos:Pos}{A:Around}{env:Env}{σ:St}{P:Addr->Prop}{s:Shared}{Q:Value->Shared->Prop}{Er:Value->Shared->Prop},
 okA' env.scope.names e vs=true->Cx fns k A P s.heap env σ->((ev C e σ).bind fun r=>aq r.1)≠.bad ->
 (∀ b,((ev C e σ).bind fun r=>aq r.1) = .ok b->∀ s',Kp s s'->Q (.bool b) s')->(∀ c,ev C e σ = .exc c->∀ x s',XP c s x s'->Er x s') ->
 wpAny (model prog w) A (boolOp pos .And (evalEach vs env)) Q Er s
noncomputable def SimTA (e:E):Prop:=∀ {vs:List Expr}{A:Around}{env:Env}{σ:St}{P:Addr->Prop}{s:Shared}{Q:Bool->Shared->Prop}{Er:Value->Shared->Prop},
 okA' env.scope.names e vs=true->Cx fns k A P s.heap env σ->((ev C e σ).bind fun r=>aq r.1)≠.bad ->
 (∀ b,((ev C e σ).bind fun r=>aq r.1) = .ok b->∀ s',Kp s s'->Q b s')->(∀ c,ev C e σ = .exc c->∀ x s',XP c s x s'->Er x s') ->
 wpAny (model prog w) A (allTrue .And vs env) Q Er s
noncomputable def SimO (e:E):Prop:=∀ {vs:List Expr}{pos:Pos}{A:Around}{env:Env}{σ:St}{P:Addr->Prop}{s:Shared}{Q:Value->Shared->Prop}{Er:Value->Shared->Prop},
 okO' env.scope.names e vs=true->Cx fns k A P s.heap env σ->((ev C e σ).bind fun r=>aq r.1)≠.bad ->
 (∀ b,((ev C e σ).bind fun r=>aq r.1) = .ok b->∀ s',Kp s s'->Q (.bool b) s')->(∀ c,ev C e σ = .exc c->∀ x s',XP c s x s'->Er x s') ->
 wpAny (model prog w) A (boolOp pos .Or (evalEach vs env)) Q Er s
noncomputable def SimTO (e:E):Prop:=∀ {vs:List Expr}{A:Around}{env:Env}{σ:St}{P:Addr->Prop}{s:Shared}{Q:Bool->Shared->Prop}{Er:Value->Shared->Prop},
 okO' env.scope.names e vs=true->Cx fns k A P s.heap env σ->((ev C e σ).bind fun r=>aq r.1)≠.bad ->
 (∀ b,((ev C e σ).bind fun r=>aq r.1) = .ok b->∀ s',Kp s s'->Q b s')->(∀ c,ev C e σ = .exc c->∀ x s',XP c s x s'->Er x s') ->
 wpAny (model prog w) A (allTrue .Or vs env) Q Er s
end
section
variable {fns:Fns}{k:Nat}{C:Calls}{XP:String->Shared->Value->Shared->Prop}
theorem wc {P:Addr->Prop}{s s':Shared}{r:V×Mode}{v:Value}{t:Bool}(E:EP P s r v s') (h:aq r.1 = .ok t):v = .bool t/\Kp s s':=by
 obtain ⟨x,m⟩:=r
 dsimp only at h
 unfold aq at h
 split at h
 ·(have oc:=Out.ok.inj h; clear h; subst oc)
  obtain ⟨ke,as,G4,_⟩:=E
  refine ae (G4) fun re _=>?_
  try clear G4
  cases re
  exact ⟨rfl,ke⟩
 ·exact nB h
theorem ma {v:V}{c:String}:aq v≠.exc c:=by unfold aq; split<;>simp
theorem qQ {e:E}(S:SimE fns k C XP e) {ex:Expr}{A:Around}{env:Env}{σ:St}{P:Addr->Prop}{s:Shared}{Q:Value->Shared->Prop}{Er:Value->Shared->Prop}
  (ok:okE env.scope.names e ex=true) (X:Cx fns k A P s.heap env σ) (nb:((ev C e σ).bind fun r=>aq r.1)≠.bad)
  (hQ:∀ b,((ev C e σ).bind fun r=>aq r.1) = .ok b->∀ s',Kp s s'->Q (.bool b) s') (hE:∀ c,ev C e σ = .exc c->∀ x s',XP c s x s'->Er x s'):wpAny (model prog w) A (eval ex env) Q Er s:=by
 refine aR nb fun n1 n2=>?_
 refine S ok X n1 (fun r hr v s' E=>?_) hE
 cases ht:aq r.1 with
 | bad=>exact absurd ht (n2 r hr)
 | exc c=>exact absurd ht ma
 | ok t=>
  refine ae (wc E ht) fun G5 kp=>?_
  (clear E; subst G5)
  exact hQ t (by rw [hr]; exact ht) s' kp
theorem lu {M:Model}{A:Around}{pos:Pos}{op:BoolOp}{x:Sem Value}{Q:Value->Shared->Prop}{E:Value->Shared->Prop}{s:Shared}(h:wpAny M A x Q E s):wpAny M A (boolOp pos op [x]) Q E s:=h
theorem rE {M:Model}{A:Around}{pos:Pos}{x y:Sem Value}{r:List (Sem Value)}{Q:Value->Shared->Prop}{E:Value->Shared->Prop}{s:Shared}
  (h:wpAny M A x (fun v s₁=>wpAny M A (truthy v) (fun t s₂=>if t then wpAny M A (boolOp pos .And (y::r)) Q E s₂ else Q v s₂) E s₁) E s):wpAny M A (boolOp pos .And (x::y::r)) Q E s:=by
 rw [boolOp]
 ·refine wpAny_bind (wpAny_mono h (fun v s₁ h₁=>wpAny_bind (wpAny_standAt (wpAny_bind (wpAny_holding (wpAny_mono h₁ (fun t s₂ h₂=>?_) fun uu uu e=>e))))) fun uu uu e=>e)
  cases t with
  | false=>exact wpAny_pure h₂
  | true=>exact h₂
 ·simp
theorem ui {M:Model}{A:Around}{pos:Pos}{x y:Sem Value}{r:List (Sem Value)}{Q:Value->Shared->Prop}{E:Value->Shared->Prop}{s:Shared}
  (h:wpAny M A x (fun v s₁=>wpAny M A (truthy v) (fun t s₂=>if t then Q v s₂ else wpAny M A (boolOp pos .Or (y::r)) Q E s₂) E s₁) E s):wpAny M A (boolOp pos .Or (x::y::r)) Q E s:=by
 rw [boolOp]
 ·refine wpAny_bind (wpAny_mono h (fun v s₁ h₁=>wpAny_bind (wpAny_standAt (wpAny_bind (wpAny_holding (wpAny_mono h₁ (fun t s₂ h₂=>?_) fun uu uu e=>e))))) fun uu uu e=>e)
  cases t with
  | false=>exact h₂
  | true=>exact wpAny_pure h₂
 ·simp
theorem okA'_inv {ns:List (Str×NameKind)}{b:E}{vs:List Expr}(h:okA' ns b vs=true):(∃ u,vs=[u]/\okE ns b u=true)\/okA ns b vs=true:=by
 unfold okA' at h
 cases e:bO vs with
 | some u=>rw [e] at h; exact .inl (ah u (a9 e) h)
 | none=>rw [e] at h; exact .inr h
theorem okA'_ne {ns:List (Str×NameKind)}{b:E}{vs:List Expr}(h:okA' ns b vs=true):∃ y r,vs=y::r:=by
 cases vs with
 | nil=>cases b<;>exact Bool.noConfusion (show false=true from h)
 | cons y r=>exact (bD y r rfl)
theorem okO'_inv {ns:List (Str×NameKind)}{b:E}{vs:List Expr}(h:okO' ns b vs=true):(∃ u,vs=[u]/\okE ns b u=true)\/okO ns b vs=true:=by
 unfold okO' at h
 cases e:bO vs with
 | some u=>rw [e] at h; exact .inl (ah u (a9 e) h)
 | none=>rw [e] at h; exact .inr h
theorem okO'_ne {ns:List (Str×NameKind)}{b:E}{vs:List Expr}(h:okO' ns b vs=true):∃ y r,vs=y::r:=by
 cases vs with
 | nil=>cases b<;>exact Bool.noConfusion (show false=true from h)
 | cons y r=>exact (bD y r rfl)
theorem mZ (a b:E) (σ:St):((ev C (.and a b) σ).bind fun r=>aq r.1)=((ev C a σ).bind fun r=>aq r.1).bind fun t=>if t then (ev C b σ).bind fun r=>aq r.1 else .ok false:=by
 simp only [gw]
 cases ev C a σ with
 | ok r=>
  simp only [Out.ok_bind]
  cases aq r.1 with
  | ok t=>
   cases t with
   | false=>rfl
   | true=>
    simp only [Out.ok_bind,if_true]
    cases ev C b σ with
    | ok q=>simp only [Out.ok_bind]; cases aq q.1<;>rfl
    | exc c=>rfl
    | bad=>rfl
  | exc c=>rfl
  | bad=>rfl
 | exc c=>rfl
 | bad=>rfl
theorem oK (a b:E) (σ:St):((ev C (.or a b) σ).bind fun r=>aq r.1)=((ev C a σ).bind fun r=>aq r.1).bind fun t=>if t then .ok true else (ev C b σ).bind fun r=>aq r.1:=by
 simp only [iX]
 cases ev C a σ with
 | ok r=>
  simp only [Out.ok_bind]
  cases aq r.1 with
  | ok t=>
   cases t with
   | true=>rfl
   | false=>
    simp only [Out.ok_bind,Bool.false_eq_true,if_false]
    cases ev C b σ with
    | ok q=>simp only [Out.ok_bind]; cases aq q.1<;>rfl
    | exc c=>rfl
    | bad=>rfl
  | exc c=>rfl
  | bad=>rfl
 | exc c=>rfl
 | bad=>rfl
theorem qD {a b:E}{σ:St}{r:V×Mode}(h:ev C (.and a b) σ = .ok r):∃ t,r=sB t:=by
 simp only [gw] at h
 refine Out.bind_k h fun x _ h=>?_
 refine Out.bind_k h fun t _ h=>?_
 cases t with
 | false=>exact ⟨false,by simpa using h.symm⟩
 | true=>
  simp only [if_true] at h
  refine Out.bind_k h fun y _ h=>?_
  refine Out.bind_k h fun u _ h=>?_
  (have oc:=Out.ok.inj h; clear h; subst oc); exact ⟨u,rfl⟩
theorem sN {a b:E}{σ:St}{r:V×Mode}(h:ev C (.or a b) σ = .ok r):∃ t,r=sB t:=by
 simp only [iX] at h
 refine Out.bind_k h fun x _ h=>?_
 refine Out.bind_k h fun t _ h=>?_
 cases t with
 | true=>exact ⟨true,by simpa using h.symm⟩
 | false=>
  simp only [Bool.false_eq_true,if_false] at h
  refine Out.bind_k h fun y _ h=>?_
  refine Out.bind_k h fun u _ h=>?_
  (have oc:=Out.ok.inj h; clear h; subst oc); exact ⟨u,rfl⟩
theorem da {o:Out (V×Mode)}{c:String}(h:(o.bind fun r=>aq r.1) = .exc c):o = .exc c:=by
 rcases bF h with h | ⟨_,_,h⟩
 ·exact h
 ·exact absurd h ma
section
variable (hXP:∀ c s s₁ x s',Kp s s₁->XP c s₁ x s'->XP c s x s')
include hXP
theorem Af {a b:E}(Sa:SimE fns k C XP a) (Ab:SimA fns k C XP b) {v:Expr}{vs:List Expr}{pos:Pos}{A:Around}{env:Env}{σ:St}{P:Addr->Prop}{s:Shared}{Q:Value->Shared->Prop}{Er:Value->Shared->Prop}
  (oa:okE env.scope.names a v=true) (ob:okA' env.scope.names b vs=true) (X:Cx fns k A P s.heap env σ) (nb:((ev C (.and a b) σ).bind fun r=>aq r.1)≠.bad)
  (hQ:∀ t,((ev C (.and a b) σ).bind fun r=>aq r.1) = .ok t->∀ s',Kp s s'->Q (.bool t) s') (hE:∀ c,ev C (.and a b) σ = .exc c->∀ x s',XP c s x s'->Er x s') :
  wpAny (model prog w) A (boolOp pos .And (evalEach (v::vs) env)) Q Er s:=by
 refine bg (okA'_ne ob) fun y r G6=>?_
 subst G6
 have hE':∀ c,((ev C (.and a b) σ).bind fun r=>aq r.1) = .exc c->∀ x s',XP c s x s'->Er x s':=fun c h=>hE c (da h)
 rw [mZ] at nb hQ hE'
 refine aR nb fun n1 n2=>?_
 refine rE (qQ Sa oa X n1 (fun t ht s₁ k₁=>wpAny_truthy_bool ?_) fun c hc=>hE' c (by rw [hc]; rfl))
 cases t with
 | false=>exact hQ false (by rw [ht]; rfl) s₁ k₁
 | true=>
  have n3:=n2 true ht
  simp only [if_true] at n3 ⊢
  refine Ab ob (X.k k₁.k) n3 (fun t ht' s₂ k₂=>hQ t (by rw [ht]; simpa using ht') s₂ (k₁.trans k₂)) fun c hc x s' hx=>hE' c (by rw [ht]; simp [hc]) x s' (hXP c s s₁ x s' k₁ hx)
theorem orL {a b:E}(Sa:SimE fns k C XP a) (Ab:SimO fns k C XP b) {v:Expr}{vs:List Expr}{pos:Pos}{A:Around}{env:Env}{σ:St}{P:Addr->Prop}{s:Shared}{Q:Value->Shared->Prop}{Er:Value->Shared->Prop}
  (oa:okE env.scope.names a v=true) (ob:okO' env.scope.names b vs=true) (X:Cx fns k A P s.heap env σ) (nb:((ev C (.or a b) σ).bind fun r=>aq r.1)≠.bad)
  (hQ:∀ t,((ev C (.or a b) σ).bind fun r=>aq r.1) = .ok t->∀ s',Kp s s'->Q (.bool t) s') (hE:∀ c,ev C (.or a b) σ = .exc c->∀ x s',XP c s x s'->Er x s') :
  wpAny (model prog w) A (boolOp pos .Or (evalEach (v::vs) env)) Q Er s:=by
 refine bg (okO'_ne ob) fun y r G7=>?_
 subst G7
 have hE':∀ c,((ev C (.or a b) σ).bind fun r=>aq r.1) = .exc c->∀ x s',XP c s x s'->Er x s':=fun c h=>hE c (da h)
 rw [oK] at nb hQ hE'
 refine aR nb fun n1 n2=>?_
 refine ui (qQ Sa oa X n1 (fun t ht s₁ k₁=>wpAny_truthy_bool ?_) fun c hc=>hE' c (by rw [hc]; rfl))
 cases t with
 | true=>exact hQ true (by rw [ht]; rfl) s₁ k₁
 | false=>
  have n3:=n2 false ht
  simp only [Bool.false_eq_true,if_false] at n3 ⊢
  refine Ab ob (X.k k₁.k) n3 (fun t ht' s₂ k₂=>hQ t (by rw [ht]; simpa using ht') s₂ (k₁.trans k₂)) fun c hc x s' hx=>hE' c (by rw [ht]; simp [hc]) x s' (hXP c s s₁ x s' k₁ hx)
theorem ye {a b:E}(Sa:SimT fns k C XP a) (Ab:SimTA fns k C XP b) {v:Expr}{vs:List Expr}{A:Around}{env:Env}{σ:St}{P:Addr->Prop}{s:Shared}{Q:Bool->Shared->Prop}{Er:Value->Shared->Prop}
  (oa:okE env.scope.names a v=true) (ob:okA' env.scope.names b vs=true) (X:Cx fns k A P s.heap env σ) (nb:((ev C (.and a b) σ).bind fun r=>aq r.1)≠.bad)
  (hQ:∀ t,((ev C (.and a b) σ).bind fun r=>aq r.1) = .ok t->∀ s',Kp s s'->Q t s') (hE:∀ c,ev C (.and a b) σ = .exc c->∀ x s',XP c s x s'->Er x s') :
  wpAny (model prog w) A (allTrue .And (v::vs) env) Q Er s:=by
 have hE':∀ c,((ev C (.and a b) σ).bind fun r=>aq r.1) = .exc c->∀ x s',XP c s x s'->Er x s':=fun c h=>hE c (da h)
 rw [mZ] at nb hQ hE'
 refine aR nb fun n1 n2=>?_
 refine wpAny_allTrue_And_cons (Sa oa X n1 (fun t ht s₁ k₁=>?_) fun c hc=>hE' c (by rw [hc]; rfl))
 cases t with
 | false=>exact hQ false (by rw [ht]; rfl) s₁ k₁
 | true=>
  have n3:=n2 true ht
  simp only [if_true] at n3 ⊢
  refine Ab ob (X.k k₁.k) n3 (fun t ht' s₂ k₂=>hQ t (by rw [ht]; simpa using ht') s₂ (k₁.trans k₂)) fun c hc x s' hx=>hE' c (by rw [ht]; simp [hc]) x s' (hXP c s s₁ x s' k₁ hx)
theorem AL {a b:E}(Sa:SimT fns k C XP a) (Ab:SimTO fns k C XP b) {v:Expr}{vs:List Expr}{A:Around}{env:Env}{σ:St}{P:Addr->Prop}{s:Shared}{Q:Bool->Shared->Prop}{Er:Value->Shared->Prop}
  (oa:okE env.scope.names a v=true) (ob:okO' env.scope.names b vs=true) (X:Cx fns k A P s.heap env σ) (nb:((ev C (.or a b) σ).bind fun r=>aq r.1)≠.bad)
  (hQ:∀ t,((ev C (.or a b) σ).bind fun r=>aq r.1) = .ok t->∀ s',Kp s s'->Q t s') (hE:∀ c,ev C (.or a b) σ = .exc c->∀ x s',XP c s x s'->Er x s') :
  wpAny (model prog w) A (allTrue .Or (v::vs) env) Q Er s:=by
 have hE':∀ c,((ev C (.or a b) σ).bind fun r=>aq r.1) = .exc c->∀ x s',XP c s x s'->Er x s':=fun c h=>hE c (da h)
 rw [oK] at nb hQ hE'
 refine aR nb fun n1 n2=>?_
 refine wpAny_allTrue_Or_cons (Sa oa X n1 (fun t ht s₁ k₁=>?_) fun c hc=>hE' c (by rw [hc]; rfl))
 cases t with
 | true=>exact hQ true (by rw [ht]; rfl) s₁ k₁
 | false=>
  have n3:=n2 false ht
  simp only [Bool.false_eq_true,if_false] at n3 ⊢
  refine Ab ob (X.k k₁.k) n3 (fun t ht' s₂ k₂=>hQ t (by rw [ht]; simpa using ht') s₂ (k₁.trans k₂)) fun c hc x s' hx=>hE' c (by rw [ht]; simp [hc]) x s' (hXP c s s₁ x s' k₁ hx)
theorem qK {ns:List (Str×NameKind)}{a b:E}{ex:Expr}(h:okE ns (.and a b) ex=true):∃ v vs p,ex = .BoolOp .And (v::vs) p/\okE ns a v=true/\okA' ns b vs=true:=by
 replace h:=Ef h
 revert h; refine fun Hg=>Or.elim Hg (fun Hb=>?_) (fun h=>?_)
 ·clear Hg
  refine bn (Hb) fun HH HV Il ID h=>?_
  clear Hb
  subst ID
  simp only [Bool.and_eq_true] at h
  exact (cy _ _ _ rfl h.1 h.2)
 ·cases h
theorem uo {ns:List (Str×NameKind)}{a b:E}{ex:Expr}(h:okE ns (.or a b) ex=true):∃ v vs p,ex = .BoolOp .Or (v::vs) p/\okE ns a v=true/\okO' ns b vs=true:=by
 replace h:=F0 h
 revert h; refine fun Hh=>Or.elim Hh (fun He=>?_) (fun h=>?_)
 ·clear Hh
  refine bn (He) fun Iw H9 Im Ip h=>?_
  clear He
  subst Ip
  simp only [Bool.and_eq_true] at h
  exact (cy _ _ _ rfl h.1 h.2)
 ·cases h
theorem zK {a b:E}(Sa:SimE fns k C XP a) (Ab:SimA fns k C XP b):SimE fns k C XP (.and a b):=by
 intro ex A env σ P s Q Er ok X nb hQ hE
 refine aI (qK hXP ok) fun v vs p G8 oa ob=>?_
 (clear ok; subst G8)
 rw [arm_eval_BoolOp]
 refine Af hXP Sa Ab oa ob X (fun h=>?_) (fun t ht s' kp=>?_) hE
 ·cases e:ev C (.and a b) σ with
  | ok r=>rw [e] at h; obtain ⟨t,rfl⟩:=qD e; cases h
  | exc c=>rw [e] at h; cases h
  | bad=>exact nb e
 ·refine Out.bind_k ht fun r hr ht=>?_
  refine ai (qD hr) fun u G9=>?_
  subst G9
  (have oc:=Out.ok.inj ht; clear ht; subst oc)
  exact hQ _ hr _ s' (.bool kp)
theorem z6 {a b:E}(Sa:SimE fns k C XP a) (Ab:SimO fns k C XP b):SimE fns k C XP (.or a b):=by
 intro ex A env σ P s Q Er ok X nb hQ hE
 refine aI (uo hXP ok) fun v vs p Ha oa ob=>?_
 (clear ok; subst Ha)
 rw [arm_eval_BoolOp]
 refine orL hXP Sa Ab oa ob X (fun h=>?_) (fun t ht s' kp=>?_) hE
 ·cases e:ev C (.or a b) σ with
  | ok r=>rw [e] at h; obtain ⟨t,rfl⟩:=sN e; cases h
  | exc c=>rw [e] at h; cases h
  | bad=>exact nb e
 ·refine Out.bind_k ht fun r hr ht=>?_
  refine ai (sN hr) fun u Hc=>?_
  subst Hc
  (have oc:=Out.ok.inj ht; clear ht; subst oc)
  exact hQ _ hr _ s' (.bool kp)
theorem vI {a b:E}(Sa:SimT fns k C XP a) (Ab:SimTA fns k C XP b):SimT fns k C XP (.and a b):=by
 intro ex A env σ P s Q Er ok X nb hQ hE
 refine aI (qK hXP ok) fun v vs p Hd oa ob=>?_
 (clear ok; subst Hd)
 exact wpAny_isTrue_BoolOp (ye hXP Sa Ab oa ob X nb hQ hE)
theorem yw {a b:E}(Sa:SimT fns k C XP a) (Ab:SimTO fns k C XP b):SimT fns k C XP (.or a b):=by
 intro ex A env σ P s Q Er ok X nb hQ hE
 refine aI (uo hXP ok) fun v vs p Hf oa ob=>?_
 (clear ok; subst Hf)
 exact wpAny_isTrue_BoolOp (AL hXP Sa Ab oa ob X nb hQ hE)
end
theorem j7 {e:E}(S:SimE fns k C XP e) (h:∀ {vs:List Expr}{pos:Pos}{A:Around}{env:Env}{σ:St}{P:Addr->Prop}{s:Shared}{Q:Value->Shared->Prop}{Er:Value->Shared->Prop},
  okA env.scope.names e vs=true->Cx fns k A P s.heap env σ->((ev C e σ).bind fun r=>aq r.1)≠.bad ->
  (∀ b,((ev C e σ).bind fun r=>aq r.1) = .ok b->∀ s',Kp s s'->Q (.bool b) s')->(∀ c,ev C e σ = .exc c->∀ x s',XP c s x s'->Er x s')->wpAny (model prog w) A (boolOp pos .And (evalEach vs env)) Q Er s):SimA fns k C XP e:=by
 intro vs pos A env σ P s Q Er ok X nb hQ hE
 replace ok:=okA'_inv ok
 revert ok; refine fun Hm=>Or.elim Hm (fun Hl=>?_) (fun ok=>?_)
 ·clear Hm
  refine af (Hl) fun Ia I8 ok=>?_
  clear Hl
  subst I8
  exact lu (qQ S ok X nb hQ hE)
 ·exact h ok X nb hQ hE
theorem jX {e:E}(S:SimE fns k C XP e) (h:∀ {vs:List Expr}{pos:Pos}{A:Around}{env:Env}{σ:St}{P:Addr->Prop}{s:Shared}{Q:Value->Shared->Prop}{Er:Value->Shared->Prop},
  okO env.scope.names e vs=true->Cx fns k A P s.heap env σ->((ev C e σ).bind fun r=>aq r.1)≠.bad ->
  (∀ b,((ev C e σ).bind fun r=>aq r.1) = .ok b->∀ s',Kp s s'->Q (.bool b) s')->(∀ c,ev C e σ = .exc c->∀ x s',XP c s x s'->Er x s')->wpAny (model prog w) A (boolOp pos .Or (evalEach vs env)) Q Er s):SimO fns k C XP e:=by
 intro vs pos A env σ P s Q Er ok X nb hQ hE
 replace ok:=okO'_inv ok
 revert ok; refine fun Hn=>Or.elim Hn (fun Hj=>?_) (fun ok=>?_)
 ·clear Hn
  refine af (Hj) fun IJ Io ok=>?_
  clear Hj
  subst Io
  exact lu (qQ S ok X nb hQ hE)
 ·exact h ok X nb hQ hE
theorem ja {e:E}(S:SimT fns k C XP e) (h:∀ {vs:List Expr}{A:Around}{env:Env}{σ:St}{P:Addr->Prop}{s:Shared}{Q:Bool->Shared->Prop}{Er:Value->Shared->Prop},
  okA env.scope.names e vs=true->Cx fns k A P s.heap env σ->((ev C e σ).bind fun r=>aq r.1)≠.bad ->
  (∀ b,((ev C e σ).bind fun r=>aq r.1) = .ok b->∀ s',Kp s s'->Q b s')->(∀ c,ev C e σ = .exc c->∀ x s',XP c s x s'->Er x s')->wpAny (model prog w) A (allTrue .And vs env) Q Er s):SimTA fns k C XP e:=by
 intro vs A env σ P s Q Er ok X nb hQ hE
 replace ok:=okA'_inv ok
 revert ok; refine fun Hp=>Or.elim Hp (fun Ho=>?_) (fun ok=>?_)
 ·clear Hp
  refine af (Ho) fun IT Ir ok=>?_
  clear Ho
  subst Ir
  refine wpAny_allTrue_And_cons (S ok X nb (fun t ht s' kp=>?_) hE)
  cases t with
  | false=>exact hQ _ ht s' kp
  | true=>exact wpAny_allTrue_And_nil (hQ _ ht s' kp)
 ·exact h ok X nb hQ hE
theorem jh {e:E}(S:SimT fns k C XP e) (h:∀ {vs:List Expr}{A:Around}{env:Env}{σ:St}{P:Addr->Prop}{s:Shared}{Q:Bool->Shared->Prop}{Er:Value->Shared->Prop},
  okO env.scope.names e vs=true->Cx fns k A P s.heap env σ->((ev C e σ).bind fun r=>aq r.1)≠.bad ->
  (∀ b,((ev C e σ).bind fun r=>aq r.1) = .ok b->∀ s',Kp s s'->Q b s')->(∀ c,ev C e σ = .exc c->∀ x s',XP c s x s'->Er x s')->wpAny (model prog w) A (allTrue .Or vs env) Q Er s):SimTO fns k C XP e:=by
 intro vs A env σ P s Q Er ok X nb hQ hE
 replace ok:=okO'_inv ok
 revert ok; refine fun HP=>Or.elim HP (fun HE=>?_) (fun ok=>?_)
 ·clear HP
  refine af (HE) fun IZ Iu ok=>?_
  clear HE
  subst Iu
  refine wpAny_allTrue_Or_cons (S ok X nb (fun t ht s' kp=>?_) hE)
  cases t with
  | false=>exact wpAny_allTrue_Or_nil (hQ _ ht s' kp)
  | true=>exact hQ _ ht s' kp
 ·exact h ok X nb hQ hE
end
end Mine
namespace Mine
open PySem PyProof.Rows
section
variable {fns:Fns}{k:Nat}{C:Calls}{XP:String->Shared->Value->Shared->Prop}
theorem EP.aList {P:Addr->Prop}{s s':Shared}{a:Addr}{n:Nat}{xs:List PyData}{vs:List Value}{as:List Addr}(kp:Kp s s') (hn:s.heap.get? a=none)
  (ha:s'.heap.get? a=some ⟨.type "list", none,.seq vs.toArray n,#[]⟩) (r:RA s'.heap vs xs as) (hl:xs.length≤2^22) (hz:∀ x∈xs,sz x=true) (hP:∀ b∈as,P b/\b≠a) :
  EP P s (.d (.list xs),fresh xs) (.ref a) s':=by
 refine ⟨kp,a::as,⟨.list ha r,sz_list.mpr ⟨hl,hz⟩⟩,?_,?_,?_⟩
 ·intro b h
  rcases List.mem_cons.mp h with rfl | h
  ·exact .inr hn
  ·exact .inl (hP b h).1
 ·intro _
  exact (aO _ _ rfl hn (fun h=>(hP a h).2 rfl))
 ·intro hm
  have hall:xs.all sx=true:=by
   unfold fresh at hm; dsimp only at hm; split at hm
   ·assumption
   ·cases hm
  rw [r.sx_nil hall]
  refine ⟨fun b h=>?_,by simp⟩
  rcases List.mem_cons.mp h with rfl | h
  ·exact hn
  ·cases h
theorem R.isList {h:Heap}{v:Value}{xs:List PyData}{as:List Addr}(r:R h v (.list xs) as):∃ a vs n bs,v = .ref a/\h.get? a=some ⟨.type "list", Option.none,.seq vs.toArray n,#[]⟩/\RA h vs xs bs/\as=a::bs:=by
 cases r with
 | list e r=>exact (g9 _ _ _ _ rfl e r rfl)
theorem R.isList_k {h:Heap}{v:Value}{xs:List PyData}{as:List Addr}{G:Prop}(r:R h v (.list xs) as) (k:∀ a vs n bs,v = .ref a->h.get? a=some ⟨.type "list", Option.none,.seq vs.toArray n,#[]⟩->RA h vs xs bs->as=a::bs->G):G:=fU (R.isList r) k
theorem R.isTup {h:Heap}{v:Value}{xs:List PyData}{as:List Addr}(r:R h v (.tuple xs) as):∃ a vs n,v = .ref a/\h.get? a=some ⟨.type "tuple", Option.none,.seq vs.toArray n,#[]⟩/\RA h vs xs as:=by
 cases r with
 | tuple e r=>exact (cy _ _ _ rfl e r)
theorem isL {h:Heap}{a:Addr}{vs:List Value}{n:Nat}(e:h.get? a=some ⟨.type "list", none,.seq vs.toArray n,#[]⟩):h.IsList a vs.toArray:=(aC _ e rfl (bI n rfl))
theorem sD {ns:List (Str×NameKind)}{e:E}{a b c:Option Expr}{p:Pos}:okE ns e (.Slice a b c p)=false:=by cases e<;>rfl
theorem pS {ns:List (Str×NameKind)}{e:E}{a:Expr}{p:Pos}:okE ns e (.Starred a p)=false:=by cases e<;>rfl
theorem dm {ns:List (Str×NameKind)}{e:E}{x:Expr}(h:okE ns e x=true) (o i:Value):subscripted x false o i=operate [o,i] (getItem o i):=by
 cases x<;>first | rfl | (rw [sD] at h; cases h)
theorem aJ {ns:List (Str×NameKind)}{e:E}{x:Expr}(h:okE ns e x=true) (rest:List Expr) (env:Env):starEach (x::rest) env=(false,eval x env)::starEach rest env:=by
 cases x<;>first | rfl | (rw [pS] at h; cases h)
section
variable {va vb:Value}{as bs:List Addr}{A:Around}{P:Addr->Prop}{s:Shared}{Q:Value->Shared->Prop}{Er:Value->Shared->Prop}
theorem Et {y:PyData}{v:Value}(r:R s.heap v y bs) (z:sz y=true) (h:∀ b∈bs,P b):EP P s (mk (.d y)) v s:=ro (x:=.d y) ⟨r,z⟩ h
def ItemV (h:Heap) (v:Value) (i:Int) (u:Value):Prop:=∃ (a:Addr) (T:String) (vs:List Value) (n k:Nat),v = .ref a/\h.get? a=some ⟨.type T,none,.seq vs.toArray n,#[]⟩/\ba i vs.length=some k/\vs[k]? = some u
theorem fm {i:Int}{n k:Nat}(h:ba i n=some k):(0≤i/\i<n/\k=i.toNat)\/(i<0/\-(n:Int)≤i/\k=(i+n).toNat):=by
 unfold ba at h
 by_cases h0:0≤i
 ·rw [if_pos h0] at h
  by_cases h1:i<n
  ·rw [if_pos h1] at h; exact .inl ⟨h0,h1,(Option.some.inj h).symm⟩
  ·rw [if_neg h1] at h; exact nN h
 ·rw [if_neg h0] at h
  by_cases h1:-(n:Int)≤i
  ·rw [if_pos h1] at h; exact .inr ⟨by exact DZ h0,h1,(Option.some.inj h).symm⟩
  ·rw [if_neg h1] at h; exact nN h
theorem wH {value slice:Expr}{a:Addr}{vs:List Value}{n k:Nat}{i:Int}{t:Tok}{v:Value}(hs:∀ o i,subscripted slice false o i=operate [o,i] (getItem o i)) (ea:s.heap.get? a=some ⟨.type "list", none,.seq vs.toArray n,#[]⟩) (hl:vs.length≤2^22)
  (hk:ba i vs.length=some k) (hv:vs[k]? = some v) (hQ:Q v s):wpAny (model prog w) A (subscriptTail value slice (.ref a) (.int i t)) Q Er s:=by
 rcases fm hk with ⟨h0,h1,rfl⟩ | ⟨h0,h1,rfl⟩
 ·exact tail_any (isL ea).typeIs slot_list_getitem.lookup (wpAny_getItem_list (isL ea) h0 (by exact Bu hl h1) (by simpa using hv) hQ) (hs _ _)
 ·refine tail_any (isL ea).typeIs slot_list_getitem.lookup (wpAny_getItem_list_neg (isL ea) h0 (by rw [List.size_toArray]; exact h1) (by exact DM hl h1) ?_ hQ) (hs _ _)
  rw [List.size_toArray]
  simpa using hv
theorem zh {value slice:Expr}{a:Addr}{vs:List Value}{n k:Nat}{i:Int}{t:Tok}{v:Value}(hs:∀ o i,subscripted slice false o i=operate [o,i] (getItem o i)) (ea:s.heap.get? a=some ⟨.type "tuple", none,.seq vs.toArray n,#[]⟩) (hl:vs.length≤2^22)
  (hk:ba i vs.length=some k) (hv:vs[k]? = some v) (hQ:Q v s):wpAny (model prog w) A (subscriptTail value slice (.ref a) (.int i t)) Q Er s:=by
 have hj:seqIndex? i (vs.toArray).size=some k:=by
  rw [List.size_toArray]
  rcases fm hk with ⟨h0,h1,rfl⟩ | ⟨h0,h1,rfl⟩
  ·have h3:¬ i<0:=by exact BT h0
   simp [seqIndex?,h3,h0,h1]
  ·exact seqIndex_neg h0 h1
 have hb:-(2^22)≤i/\i<2^22:=by rcases fm hk with ⟨h0,h1,_⟩ | ⟨h0,h1,_⟩<;>lia
 exact tail_any (ah _ ea rfl) slot_tuple_getitem.lookup (PySem.P.getItem_tuple ea (by exact Dz hb) (by exact Bd hb) hj (by simpa using hv) hQ) (hs _ _)
theorem jU {value slice:Expr}{x y:PyData}{i:Int}{t:Tok}(hs:∀ o i,subscripted slice false o i=operate [o,i] (getItem o i)) (he:kq x i=some y) (ra:R s.heap va x as) (za:sz x=true)
  (hQ:∀ v ds,ItemV s.heap va i v->R s.heap v y ds->sz y=true->(∀ b∈ds,b∈as)->Q v s):wpAny (model prog w) A (subscriptTail value slice va (.int i t)) Q Er s:=by
 unfold kq at he
 cases hx:asL x with
 | some xs=>
  rw [hx] at he
  cases bC hx
  refine aZ he fun k hk hy=>?_
  refine ra.isList_k fun a vs n cs G4 ea ra' G5=>?_
  (clear ra; subst G4)
  subst G5
  refine aA (ra'.get hy) fun v ds hv rv hd=>?_
  have hz:=sz_list.mp za
  have hl:=ra'.length
  rw [← hl] at hk hz
  exact wH hs ea hz.1 hk hv (hQ v ds (rp a _ vs n k rfl ea hk hv) rv (hz.2 y (List.mem_of_getElem? hy)) fun b hb=>.tail _ (hd b hb))
 | none=>
  rw [hx] at he
  cases ht:asT x with
  | none=>rw [ht] at he; exact nN he
  | some xs=>
   rw [ht] at he
   cases gG ht
   refine aZ he fun k hk hy=>?_
   refine aI (ra.isTup) fun a vs n G6 ea ra'=>?_
   (clear ra; subst G6)
   refine aA (ra'.get hy) fun v ds hv rv hd=>?_
   have hz:=sz_tuple.mp za
   have hl:=ra'.length
   rw [← hl] at hk hz
   exact zh hs ea hz.1 hk hv (hQ v ds (rp a _ vs n k rfl ea hk hv) rv (hz.2 y (List.mem_of_getElem? hy)) hd)
theorem wg {value slice:Expr}{x i:PyData}{r:V×Mode}(hs:∀ o i,subscripted slice false o i=operate [o,i] (getItem o i)) (he:eV x i = .ok r) (ra:R s.heap va x as) (za:sz x=true) (rb:R s.heap vb i bs) (ha:∀ a∈as,P a)
  (hQ:∀ v s',EP P s r v s'->Q v s'):wpAny (model prog w) A (subscriptTail value slice va vb) Q Er s:=by
 refine aU he fun k hk he=>?_
 refine aU he fun y hy he=>?_
 (have oc:=Out.ok.inj he; clear he; subst oc)
 cases cu hk
 refine rb.isInt_k fun uu G7 G8=>?_
 (clear rb; subst G7)
 subst G8
 exact jU hs hy ra za fun v ds _ rv z hd=>hQ v s (Et rv z fun b hb=>ha b (hd b hb))
end
theorem uQ {x y:PyData}{c:String}:eV x y≠.exc c:=yA c
theorem qg (hXP:∀ c s s₁ x s',Kp s s₁->XP c s₁ x s'->XP c s x s') {a b:E}(Sa:SimE fns k C XP a) (Sb:SimE fns k C XP b):SimE fns k C XP (.sub a b):=by
 intro ex A env σ P s Q Er ok X nb hQ hE
 replace ok:=DR ok
 revert ok; refine fun Hg=>Or.elim Hg (fun Hb=>?_) (fun ok=>?_)
 ·clear Hg
  refine bn (Hb) fun HH HV Il ID ok=>?_
  clear Hb
  subst ID
  simp only [Bool.and_eq_true] at ok
  simp only [jB] at nb hQ hE
  refine Subscript_ (jD hXP Sa Sb (f:=fun x y=>match x,y with | .d x,.d y=>eV x y | _,_=>.bad) ok.1 ok.2 X nb hE (fun x y c=>?_) fun x y r hr hf va vb s₂ as bs kp ra rb ha hb=>?_)
  ·split
   ·exact uQ
   ·simp
  ·split at hf
   ·exact wg (dm ok.2) hf ra.1 ra.2 rb.1 ha fun v s' e=>hQ r hr v s' (.shift kp e)
   ·exact nB hf
 ·cases ok
theorem d9 {M:Model}{A:Around}{env:Env}{e:Expr}{Q:Value->Shared->Prop}{E:Value->Shared->Prop}{s:Shared}(h:wpAny M A (eval e env) Q E s):wpAny M A (evalPart (some e) env) Q E s:=by rw [evalPart_some]; exact h
theorem bT {M:Model}{A:Around}{env:Env}{Q:Value->Shared->Prop}{E:Value->Shared->Prop}{s:Shared}(h:Q .none s):wpAny M A (evalPart none env) Q E s:=by rw [evalPart_none]; exact wpAny_pure h
section
variable {va vl vu vt:Value}{as bs:List Addr}{A:Around}{P:Addr->Prop}{s:Shared}{Q:Value->Shared->Prop}{Er:Value->Shared->Prop}
theorem im {value slice:Expr}{xs ys:List PyData}{lo hi st:Option Int}(hs:∃ ops:Value->Value->List Value,∀ o i,subscripted slice false o i=operate (ops o i) (getItem o i)) (ra:R s.heap va (.list xs) as) (za:sz (.list xs)=true) (ha:∀ a∈as,P a)
  (pl:IsPart vl lo) (pu:IsPart vu hi) (pt:IsPart vt st) (h0:st≠some 0) (hy:∀ vs cs,RA s.heap vs xs cs->∃ ws ds,slicePick vs.toArray lo hi st=ws.toArray/\RA s.heap ws ys ds/\∀ b∈ds,b∈cs) (hz:∀ y∈ys,sz y=true) (hl:ys.length≤2^22)
  (hQ:∀ v s',EP P s (.d (.list ys),fresh ys) v s'->Q v s') :
  wpAny (model prog w) A (subscriptTail value slice va (.ref s.heap.objs.size)) Q Er {s with heap:=s.heap.push {cls:=.type "slice", data:=.fields #[vl,vu,vt] } }:=by
 refine ra.isList_k fun a vs n cs G9 ea ra' Ha=>?_
 (clear ra; subst G9)
 subst Ha
 refine aA (hy vs cs ra') fun ws ds e1 rw' hd=>?_
 revert hs; intro HN
 refine ai (HN) fun ops hs=>?_
 try clear HN
 have hlen:=(sz_list.mp za).1
 have e2:=ra'.length
 refine tail_any ((isL ea).push _).typeIs slot_list_getitem.lookup (wpAny_getItem_list_slice ((isL ea).push _) (Heap.IsSliceOf.new ..) pl pu pt h0 ?_ (by rw [List.size_toArray]; unfold sizeLine; exact xm hlen e2)) (hs _ _)
 rw [e1]
 refine hQ _ _ (EP.aList (n:=0) (as:=ds) ((Kp.push s _ s.toks).trans (Kp.push _ _ s.toks)) ?_ (Heap.get?_push_size _ rfl) ((rw'.keep fun uu uu e=>Heap.get?_push_of_some _ e).keep fun uu uu e=>Heap.get?_push_of_some _ e) hl hz fun b hb=>⟨ha b (.tail _ (hd b hb)),?_⟩)
 ·exact Heap.get?_none_of_le (by simp)
 ·refine bg (rw'.there b hb) fun uu uu e=>?_
  have h1:=Heap.lt_size e
  intro q
  have h2:b=s.heap.objs.size+1:=q.trans (Heap.size_push ..)
  rw [h2] at h1
  exact Nat.not_lt.mpr (Nat.le_succ _) h1
end
theorem wM {x y:PyData}{c:String}:fu x y≠.exc c:=by unfold fu; split<;>(try split)<;>simp
theorem vr {x y:PyData}{c:String}:fE x y≠.exc c:=by unfold fE; split<;>(try split)<;>simp
set_option tactic.hygienic true in
theorem y9 (hXP:∀ c s s₁ x s',Kp s s₁->XP c s₁ x s'->XP c s x s') {a b:E}(Sa:SimE fns k C XP a) (Sb:SimE fns k C XP b):SimE fns k C XP (.slo a b):=by
 intro ex A env σ P s Q Er ok X nb hQ hE
 replace ok:=BE ok
 revert ok; refine fun Hh=>Or.elim Hh (fun He=>?_) (fun ok=>?_)
 ·clear Hh
  refine cb (He) fun v l p pos IA ok=>?_
  clear He
  subst IA
  simp only [Bool.and_eq_true] at ok
  simp only [lI] at nb hQ hE
  have main:=jD hXP Sa Sb (f:=fun x y=>match x,y with | .d x,.d y=>fu x y | _,_=>.bad) (G:=fun va vb s₂=>wpAny (model prog w) A (subscriptTail v (.Slice (some l) none none p) va (.ref s₂.heap.objs.size)) Q Er
    {s₂ with heap:=s₂.heap.push {cls:=.type "slice", data:=.fields #[vb,.none,.none] } }) ok.1 ok.2 X nb hE (fun x y c=>by split; exact wM; simp) fun x y r hr hf va vb s₂ as bs kp ra rb ha hb=>by
   split at hf
   ·unfold fu at hf
    split at hf
    ·split at hf<;>cases hf
     rename_i xs i hi
     revert rb; intro Jl
     refine ae (Jl) fun rb _=>?_
     try clear Jl
     refine rb.isInt_k fun uu Hc Hd=>?_
     (clear rb; subst Hc)
     subst Hd
     refine im (lo:=some i) (hi:=none) (st:=none) ⟨fun o i=>[i,o],fun uu uu=>rfl⟩ ra.1 ra.2 ha (.int _ _) .none .none (by simp) (fun vs cs r=>?_) (fun y hy=>(sz_list.mp ra.2).2 y (List.mem_of_mem_drop hy)) (by have:=(sz_list.mp ra.2).1; rw [List.length_drop]; exact BI this) fun v s' e=>hQ _ hr v s' (.shift kp e)
     refine af (r.drop i.toNat) fun ds rd hd=>?_
     refine (aO _ ds ?_ rd hd)
     have:=slicePick_from' vs.toArray i.toNat
     rw [Int.toNat_of_nonneg hi.1] at this
     exact this
    ·exact nB hf
   ·exact nB hf
  exact Subscript_ (wpAny_mono main (fun o s₁ h₁=>wpAny_Slice (d9 (wpAny_mono h₁ (fun vb s₂ h₂=>bT (bT h₂)) fun uu uu e=>e))) fun uu uu e=>e)
 ·cases ok
set_option tactic.hygienic true in
theorem zc (hXP:∀ c s s₁ x s',Kp s s₁->XP c s₁ x s'->XP c s x s') {a b:E}(Sa:SimE fns k C XP a) (Sb:SimE fns k C XP b):SimE fns k C XP (.shi a b):=by
 intro ex A env σ P s Q Er ok X nb hQ hE
 replace ok:=Ej ok
 revert ok; refine fun Hm=>Or.elim Hm (fun Hl=>?_) (fun ok=>?_)
 ·clear Hm
  refine cb (Hl) fun v l p pos Ir ok=>?_
  clear Hl
  subst Ir
  simp only [Bool.and_eq_true] at ok
  simp only [ly] at nb hQ hE
  have main:=jD hXP Sa Sb (f:=fun x y=>match x,y with | .d x,.d y=>fE x y | _,_=>.bad) (G:=fun va vb s₂=>wpAny (model prog w) A (subscriptTail v (.Slice none (some l) none p) va (.ref s₂.heap.objs.size)) Q Er
    {s₂ with heap:=s₂.heap.push {cls:=.type "slice", data:=.fields #[.none,vb,.none] } }) ok.1 ok.2 X nb hE (fun x y c=>by split; exact vr; simp) fun x y r hr hf va vb s₂ as bs kp ra rb ha hb=>by
   split at hf
   ·unfold fE at hf
    split at hf
    ·split at hf<;>cases hf
     rename_i xs i hi
     revert rb; intro HQ
     refine ae (HQ) fun rb _=>?_
     try clear HQ
     refine rb.isInt_k fun uu Hf Hk=>?_
     (clear rb; subst Hf)
     subst Hk
     refine im (lo:=none) (hi:=some i) (st:=none) ⟨fun o i=>[i,o],fun uu uu=>rfl⟩ ra.1 ra.2 ha .none (.int _ _) .none (by simp) (fun vs cs r=>?_) (fun y hy=>(sz_list.mp ra.2).2 y (List.mem_of_mem_take hy)) (by have:=(sz_list.mp ra.2).1; rw [List.length_take]; exact Ba this) fun v s' e=>hQ _ hr v s' (.shift kp e)
     refine af (r.take i.toNat) fun ds rd hd=>?_
     refine (aO _ ds ?_ rd hd)
     have:=slicePick_upto' vs.toArray i.toNat
     rw [Int.toNat_of_nonneg hi.1] at this
     exact this
    ·exact nB hf
   ·exact nB hf
  exact Subscript_ (wpAny_mono main (fun o s₁ h₁=>wpAny_Slice (bT (d9 (wpAny_mono h₁ (fun vb s₂ h₂=>bT h₂) fun uu uu e=>e)))) fun uu uu e=>e)
 ·cases ok
theorem oF:∀ l:List Value,(List.range l.length).filterMap (l[·]?)=l
 | []=>rfl
 | x::l=>by
  rw [List.length_cons,List.range_succ_eq_map,List.filterMap_cons,List.filterMap_map]
  exact congrArg (x :: ·) (oF l)
theorem oR {α β:Type}{f g:α->Option β}:∀ {l:List α},(∀ x∈l,f x=g x)->l.filterMap f=l.filterMap g
 | [],_=>rfl
 | x::l,h=>by rw [List.filterMap_cons,List.filterMap_cons,h x (.head _),oR fun y hy=>h y (.tail _ hy)]
theorem vE (l:List Value):slicePick l.toArray none none (some (-1))=l.reverse.toArray:=by
 have e1:sliceRange ((l.length:Int)-1) (-1) (-1)=(List.range l.length).map fun (k:Nat)=>((l.length:Int)-1 + -1*(k:Int)).toNat:=by
  unfold sliceRange
  dsimp only
  congr 2
  rw [if_neg (by decide)]
  by_cases h:(l.length:Int)-1 > -1
  ·rw [if_pos h,show (- -1:Int)=1 by decide,Int.ediv_one]; exact EI
  ·rw [if_neg h]; exact Fa h
 have e2:slicePick l.toArray none none (some (-1))=((sliceRange ((l.length:Int)-1) (-1) (-1)).filterMap (l.toArray[·]?)).toArray:=rfl
 rw [e2,e1,List.filterMap_map]
 congr 1
 have e3:=oF l.reverse
 rw [List.length_reverse] at e3
 rw [← e3]
 refine oR fun k hk=>?_
 have hk:=List.mem_range.mp hk
 show l.toArray[((l.length:Int)-1 + -1*(k:Int)).toNat]? = _
 rw [List.getElem?_toArray,List.getElem?_reverse hk]
 congr 1
 exact B5
theorem yZ {a:E}(Sa:SimE fns k C XP a):SimE fns k C XP (.rev a):=by
 intro ex A env σ P s Q Er ok X nb hQ hE
 replace ok:=CX ok
 revert ok; refine fun Hn=>Or.elim Hn (fun Hj=>?_) (fun ok=>?_)
 ·clear Hn
  refine g7 (Hj) fun v i n1 p1 p2 p pos IL ok=>?_
  clear Hj
  subst IL
  simp only [Bool.and_eq_true,beq_iff_eq] at ok
  refine ae (ok) fun Hi oa=>?_
  try clear ok
  subst Hi
  simp only [jq] at nb hQ hE
  refine aR nb fun n1 n2=>?_
  refine Subscript_ (Sa oa X n1 (fun x hx va s₁ Ea=>?_) fun c hc=>hE c (by rw [hc]; rfl))
  have n3:=n2 x hx
  obtain ⟨ka,as,ra,ha,ht,hdx⟩:=Ea
  clear ht hdx
  obtain ⟨x,m⟩:=x
  dsimp only at n3 ra
  split at n3
  ·unfold wR at n3
   split at n3
   ·rename_i xs
    refine wpAny_Slice (bT (bT (d9 (wpAny_UnaryOp (wpAny_Constant_int (neg_int ?_))))))
    refine im (s:={s₁ with toks:=s₁.toks+1+1 }) (P:=fun a=>P a\/s.heap.get? a=none) (ys:=xs.reverse) (lo:=none) (hi:=none) (st:=some (-1)) ⟨fun o i=>[o,i],fun uu uu=>rfl⟩ ra.1 ra.2 ha .none .none (.int _ _) (by simp) (fun vs cs r=>?_) (fun y hy=>(sz_list.mp ra.2).2 y (by simpa using hy)) (by simpa using (sz_list.mp ra.2).1) fun v s' e=>hQ _ (by rw [hx]; rfl) v s' (.shift (ka.trans (.toks s₁ _)) e)
    refine af (r.reverse) fun ds rd hd=>?_
    exact (aO _ ds (vE vs) rd hd)
   ·exact absurd rfl n3
  ·exact absurd rfl n3
 ·cases ok
end
end Mine
namespace Mine
open PySem PyProof.Rows
section
variable (fns:Fns) (k:Nat) (C:Calls) (XP:String->Shared->Value->Shared->Prop)
noncomputable def fO (es:Es):Prop:=∀ {xs:List Expr}{pos:Pos}{A:Around}{env:Env}{σ:St}{P:Addr->Prop}{s:Shared}{Q:List Value->Shared->Prop}{Er:Value->Shared->Prop},
 dU env.scope.names es xs=true->Cx fns k A P s.heap env σ->evs C es σ≠.bad ->
 (∀ l,evs C es σ = .ok l->∀ vs s',EPs P s l vs s'->Q vs s')->(∀ c,evs C es σ = .exc c->∀ x s',XP c s x s'->Er x s') ->
 wpAny (model prog w) A (spliced (backTo pos (starEach xs env))) Q Er s
end
section
variable {fns:Fns}{k:Nat}{C:Calls}{XP:String->Shared->Value->Shared->Prop}
theorem ml:fO fns k C XP .nil:=by
 intro xs pos A env σ P s Q Er ok X nb hQ hE
 replace ok:=rK ok
 revert ok; refine fun Hg=>Or.elim Hg (fun Hb=>?_) (fun ok=>?_)
 ·clear Hg
  refine ae (Hb) fun JS ok=>?_
  clear Hb
  subst JS
  exact wpAny_items_nil (hQ [] rfl [] s ⟨.refl s,[],.nil,fun uu h=>(nomatch h),fun uu=>⟨fun uu h=>(nomatch h),.nil⟩⟩)
 ·cases ok
theorem RV.there {h:Heap}{v:Value}{x:V}{as:List Addr}(r:RV h v x as):∀ a∈as,∃ o,h.get? a=some o:=by
 intro a ha
 cases x with
 | d x=>obtain ⟨_,_,e⟩:=r.1.there a ha; exact ⟨_,e⟩
 | dic0=>obtain ⟨b,_,rfl,_,⟨o,_,_,e,_⟩,_⟩:=r; rw [List.mem_singleton.mp ha]; exact ⟨o,e⟩
 | dicI ks=>obtain ⟨b,_,rfl,_,⟨o,_,_,e,_⟩⟩:=r; rw [List.mem_singleton.mp ha]; exact ⟨o,e⟩
 | dicT ks=>obtain ⟨b,_,_,rfl,_,⟨o,_,_,e,_⟩,_⟩:=r; rw [List.mem_singleton.mp ha]; exact ⟨o,e⟩
 | rule c d n=>
  refine zR (r) fun x D o vf bs t u mA h1 G4 h3 h4 h5 h6 h7 G5 h9=>?_
  try clear r
  subst G4
  refine bn (G5) fun oD es ep e hd=>?_
  try clear G5
  rcases List.mem_cons.mp ha with rfl | ha
  ·exact ⟨o,h3⟩
  ·rcases List.mem_cons.mp ha with rfl | ha
   ·exact ⟨oD,e⟩
   ·obtain ⟨_,_,e⟩:=h9.2.2.2.2.1.there a ha; exact ⟨_,e⟩
 | err c=>obtain ⟨b,o,_,rfl,e,_⟩:=r; rw [List.mem_singleton.mp ha]; exact ⟨o,e⟩
theorem RVs.length {h:Heap}{xs:List V}{vs:List Value}{as:List Addr}(r:RVs h xs vs as):vs.length=xs.length:=by
 induction r with
 | nil=>rfl
 | cons a q ih=>exact congrArg (· + 1) ih
theorem kR (hXP:∀ c s s₁ x s',Kp s s₁->XP c s₁ x s'->XP c s x s') {e:E}{es:Es}(S:SimE fns k C XP e) (Ss:fO fns k C XP es):fO fns k C XP (.cons e es):=by
 intro xs pos A env σ P s Q Er ok X nb hQ hE
 replace ok:=pq ok
 revert ok; refine fun Hh=>Or.elim Hh (fun He=>?_) (fun ok=>?_)
 ·clear Hh
  refine av (He) fun x xs ID ok=>?_
  clear He
  subst ID
  simp only [Bool.and_eq_true] at ok
  simp only [aY] at nb hQ hE
  refine aR nb fun n1 n2=>?_
  refine wpAny_items_cons (S ok.1 X n1 (fun r hr v s₁ Ea=>?_) fun c hc=>hE c (by rw [hc]; rfl)) (aJ ok.1 xs env)
  refine aR (n2 r hr) fun n3 _=>?_
  refine Ss ok.2 (X.k Ea.keeps.k) n3 (fun l hl vs s₂ Eb=>?_) fun c hc z s' hz=>hE c (by rw [hr,Out.ok_bind,hc]; rfl) z s' (hXP c s s₁ z s' Ea.keeps hz)
  obtain ⟨ka,as,ra,ha,_,hd⟩:=Ea
  obtain ⟨kb,bs,rb,hb,hd'⟩:=Eb
  refine hQ (r::l) (by rw [hr,Out.ok_bind,hl]; rfl) (v::vs) s₂ ⟨ka.trans kb,as++bs,.cons (ra.k kb.k) rb,fun a h=>(List.mem_append.mp h).elim (ha a) fun h=>(hb a h).imp id ka.none,fun hm=>?_⟩
  simp only [allDeep,List.all_cons,Bool.and_eq_true,decide_eq_true_eq] at hm
  have d1:=hd hm.1
  have d2:=hd' hm.2
  refine ⟨fun a h=>(List.mem_append.mp h).elim (d1.1 a) fun h=>ka.none (d2.1 a h),List.nodup_append.mpr ⟨d1.2,d2.2,fun a h1 b h2 e=>?_⟩⟩
  subst e
  refine ai (ra.there a h1) fun o ho=>?_
  rw [d2.1 a h2] at ho; exact nN ho
 ·cases ok
theorem o8 {h:Heap}:∀ {l:List (V×Mode)}{ds:List PyData}{vs:List Value}{as:List Addr},bN l=some ds->RVs h (l.map (·.1)) vs as->RA h vs ds as/\∀ x∈ds,sz x=true
 | [],ds,_,_,e,r=>by
  cases r; simp [bN] at e; subst e
  exact ⟨.nil,fun uu h=>nomatch h⟩
 | (.d x,m)::l,ds,_,_,e,r=>by
  simp only [bN,Option.map_eq_some_iff] at e
  revert e; intro Hy
  refine af (Hy) fun es e G6=>?_
  try clear Hy
  subst G6
  cases r with
  | cons r q=>
   refine ae (o8 e q) fun a b=>?_
   exact ⟨.cons r.1 a,fun y hy=>(List.mem_cons.mp hy).elim (fun q=>q▸r.2) (b y)⟩
 | (.dic0,m)::l,ds,_,_,e,r=>by simp [bN] at e
 | (.dicI _,m)::l,ds,_,_,e,r=>by simp [bN] at e
 | (.dicT _,m)::l,ds,_,_,e,r=>by simp [bN] at e
 | (.rule _ _ _,m)::l,ds,_,_,e,r=>by simp [bN] at e
theorem gq:∀ {l:List (V×Mode)}{ds:List PyData},bN l=some ds->ds.length=l.length
 | [],ds,e=>by simp [bN] at e; subst e; rfl
 | (.d x,m)::l,ds,e=>by
  simp only [bN,Option.map_eq_some_iff] at e
  revert e; intro HM
  refine af (HM) fun es e G7=>?_
  try clear HM
  subst G7
  rw [List.length_cons,List.length_cons,gq e]
 | (.dic0,m)::l,ds,e=>by simp [bN] at e
 | (.dicI _,m)::l,ds,e=>by simp [bN] at e
 | (.dicT _,m)::l,ds,e=>by simp [bN] at e
 | (.rule _ _ _,m)::l,ds,e=>by simp [bN] at e
theorem hW:∀ {es:Es}{ns:List (Str×NameKind)}{xs:List Expr}{σ:St}{l:List (V×Mode)},dU ns es xs=true->evs C es σ = .ok l->l.length=xs.length
 | .nil,ns,xs,σ,l,ok,e=>by
  replace ok:=rK ok
  revert ok; refine fun Hm=>Or.elim Hm (fun Hl=>?_) (fun ok=>?_)
  ·clear Hm
   refine ae (Hl) fun HU ok=>?_
   clear Hl
   subst HU
   simp only [a8] at e; (have oc:=Out.ok.inj e; clear e; subst oc); rfl
  ·cases ok
 | .cons a es,ns,xs,σ,l,ok,e=>by
  replace ok:=pq ok
  revert ok; refine fun Hn=>Or.elim Hn (fun Hj=>?_) (fun ok=>?_)
  ·clear Hn
   refine av (Hj) fun H9 Im Ip ok=>?_
   clear Hj
   subst Ip
   simp only [Bool.and_eq_true] at ok
   simp only [aY] at e
   refine Out.bind_k e fun x _ e=>?_
   refine Out.bind_k e fun l' e' e=>?_
   (have oc:=Out.ok.inj e; clear e; subst oc)
   rw [List.length_cons,List.length_cons,hW ok.2 e']
  ·cases ok
set_option tactic.hygienic true in
theorem oj {es:Es}(Ss:fO fns k C XP es):SimE fns k C XP (.list es):=by
 intro ex A env σ P s Q Er ok X nb hQ hE
 replace ok:=Aj ok
 revert ok; refine fun Hp=>Or.elim Hp (fun Ho=>?_) (fun ok=>?_)
 ·clear Hp
  refine av (Ho) fun Ia Id H0 ok=>?_
  clear Ho
  subst H0
  simp only [Bool.and_eq_true,decide_eq_true_eq] at ok
  simp only [bv] at nb hQ hE
  refine aR nb fun n1 n2=>?_
  refine wpAny_List (Ss ok.2 X n1 (fun l hl vs s₁ Ea=>?_) fun c hc=>hE c (by rw [hc]; rfl))
  have n3:=n2 l hl
  split at n3
  ·rename_i ds hds
   obtain ⟨ka,as,ra,ha,hd⟩:=Ea
   refine ae (o8 hds ra) fun r z=>?_
   have e1:=ra.length
   rw [List.length_map] at e1
   have e2:=hW ok.2 hl
   have e3:=gq hds
   refine ⟨by unfold sizeLine; exact xz ok e1 e2,hQ (.d (.list ds),if allDeep l then .deep else .top) (by rw [hl,Out.ok_bind,hds]) _ _ ⟨ka.trans (.push s₁ _ _),s₁.heap.objs.size::as,⟨.list (Heap.get?_push_size _ rfl) (r.keep fun uu uu e=>Heap.get?_push_of_some _ e),sz_list.mpr ⟨by exact xy ok e2 e3,z⟩⟩,?_,?_,?_⟩⟩
   ·intro a h
    rcases List.mem_cons.mp h with rfl | h
    ·exact .inr (ka.none (bi _))
    ·exact ha a h
   ·intro _
    exact (aO _ _ rfl (ka.none (bi _)) (fun h=>bg (r.there _ h) fun uu uu e=>ei e rfl))
   ·intro hm
    have hall:allDeep l=true:=by
     dsimp only at hm
     split at hm
     ·assumption
     ·cases hm
    refine ⟨fun a h=>?_,List.nodup_cons.mpr ⟨fun h=>bg (r.there _ h) fun uu uu e=>ei e rfl,(hd hall).2⟩⟩
    rcases List.mem_cons.mp h with rfl | h
    ·exact ka.none (bi _)
    ·exact (hd hall).1 a h
  ·exact absurd rfl n3
 ·cases ok
set_option tactic.hygienic true in
theorem y7 {es:Es}(Ss:fO fns k C XP es):SimE fns k C XP (.tup es):=by
 intro ex A env σ P s Q Er ok X nb hQ hE
 replace ok:=CY ok
 revert ok; refine fun HP=>Or.elim HP (fun HE=>?_) (fun ok=>?_)
 ·clear HP
  refine bn (HE) fun IP IT IX IU ok=>?_
  clear HE
  subst IU
  simp only [Bool.and_eq_true,decide_eq_true_eq] at ok
  simp only [jl] at nb hQ hE
  refine aR nb fun n1 n2=>?_
  refine wpAny_Tuple (Ss ok.2 X n1 (fun l hl vs s₁ Ea=>?_) fun c hc=>hE c (by rw [hc]; rfl))
  have n3:=n2 l hl
  split at n3
  ·rename_i ds hds
   obtain ⟨ka,as,ra,ha,hd⟩:=Ea
   refine ae (o8 hds ra) fun r z=>?_
   have e1:=ra.length
   rw [List.length_map] at e1
   have e2:=hW ok.2 hl
   have e3:=gq hds
   refine ⟨by unfold sizeLine; exact xz ok e1 e2,hQ (.d (.tuple ds),if allDeep l then .deep else .sh) (by rw [hl,Out.ok_bind,hds]) _ _ ⟨ka.trans (.push s₁ _ _),as,⟨.tuple (Heap.get?_push_size _ rfl) (r.keep fun uu uu e=>Heap.get?_push_of_some _ e),sz_tuple.mpr ⟨by exact xy ok e2 e3,z⟩⟩,ha,?_,?_⟩⟩
   ·intro hm
    dsimp only at hm
    split at hm<;>cases hm
   ·intro hm
    have hall:allDeep l=true:=by
     dsimp only at hm
     split at hm
     ·assumption
     ·cases hm
    exact hd hall
  ·exact absurd rfl n3
 ·cases ok
theorem vP:SimE fns k C XP .edic:=by
 intro ex A env σ P s Q Er ok X nb hQ hE
 replace ok:=AJ ok
 revert ok; refine fun IB=>Or.elim IB (fun Iz=>?_) (fun ok=>?_)
 ·clear IB
  refine af (Iz) fun JL J3 ok=>?_
  clear Iz
  subst J3
  have hlo:=modules_low X.ge.nolim
  refine wpAny_Dict_empty (hQ (.dic0,.deep) rfl _ _ ⟨.push s _ _,[s.heap.objs.size],(iq _ rfl rfl (beq_eq_false_iff_ne.mpr (Nat.ne_of_gt hlo)) (Heap.DictOf.new _) ?_),fun a h=>.inr ?_,fun h=>(by cases h),fun uu=>⟨fun a h=>?_,by simp⟩⟩)
  ·exact (eX _ (#[]) 0 (Heap.get?_push_size _ rfl) ⟨rfl,rfl,rfl⟩ rfl rfl (fun uu h=>(nomatch h)) .nil)
  ·rw [List.mem_singleton.mp h]; exact bi _
  ·rw [List.mem_singleton.mp h]; exact bi _
 ·cases ok
end
end Mine
namespace Mine
open PySem PyProof.Rows
theorem fA {α:Type}{r:α->α->Prop}(anti:∀ a b,r a b->r b a->a=b):∀ {l l':List α},l.Perm l'->l.Pairwise r->l'.Pairwise r->l=l'
 | [],l',p,_,_=>by rw [p.nil_eq]
 | a::l,[],p,_,_=>by cases p.eq_nil
 | a::l,b::l',p,h,h'=>by
  refine ae (List.pairwise_cons.mp h) fun h1 h2=>?_
  refine ae (List.pairwise_cons.mp h') fun h3 h4=>?_
  have e:a=b:=by
   rcases List.mem_cons.mp (p.mem_iff.mp (List.mem_cons_self (a:=a) (l:=l))) with e | e
   ·exact e
   ·rcases List.mem_cons.mp (p.mem_iff.mpr (List.mem_cons_self (a:=b) (l:=l'))) with e' | e'
    ·exact e'.symm
    ·exact anti a b (h1 b e') (h3 a e)
  (clear h' h3; subst e)
  rw [fA anti ((List.perm_cons a).mp p) h2 h4]
theorem lW (ns:List Int):(ns.mergeSort (fun a b=>decide (a≤b))).Pairwise (·≤·):=by
 have:=List.pairwise_mergeSort (le:=fun a b:Int=>decide (a≤b)) (fun a b c h1 h2=>by simp at *; exact x8 h1 h2) (fun a b=>by simp; exact xW) ns
 exact this.imp (by intro a b h; simpa using h)
theorem mG:∀ {xs:List Int}{m:Int},iY xs=some m->m∈xs/\∀ x∈xs,x≤m
 | [],_,h=>by simp [iY] at h
 | x::xs,m,h=>by
  simp only [iY,Option.some.injEq] at h
  have key:∀ (l:List Int) (a:Int),(l.foldl (fun a b=>if a<b then b else a) a=a\/l.foldl (fun a b=>if a<b then b else a) a∈l)/\a≤l.foldl (fun a b=>if a<b then b else a) a/\∀ y∈l,y≤l.foldl (fun a b=>if a<b then b else a) a:=by
   intro l
   induction l with
   | nil=>intro a; simp
   | cons b l ih=>
    intro a
    rw [List.foldl_cons]
    refine aD (ih (if a<b then b else a)) fun h1 h2 h3=>?_
    refine ⟨?_,?_,fun y hy=>?_⟩
    ·rcases h1 with h1 | h1
     ·rw [h1]; split<;>simp
     ·exact .inr (.tail _ h1)
    ·split at h2<;>rename_i hc<;>simp only [hc,if_true,if_false]<;>lia
    ·rcases List.mem_cons.mp hy with rfl | hy
     ·split at h2<;>rename_i hc<;>simp only [hc,if_true,if_false]<;>lia
     ·exact h3 y hy
  refine aD (key xs x) fun h1 h2 h3=>?_
  rw [h] at h1 h2 h3
  exact ⟨h1.elim (fun e=>e▸.head _) (.tail _),fun y hy=>(List.mem_cons.mp hy).elim (fun e=>e▸h2) (h3 y)⟩
section
variable {fns:Fns}{k:Nat}{C:Calls}{XP:String->Shared->Value->Shared->Prop}
theorem dA {env:Env}{x:String}(h:cE env.scope.names x=true):env.kindOf (Str.ofString x)=some .globalImplicit:=by
 unfold cE at h
 exact beq_iff_eq.mp h
theorem nd {x:String}(h:aP x=true):(Str.ofString x==("__debug__" : Str))=false:=by
 unfold aP at h
 simp only [Bool.and_eq_true,Bool.not_eq_true'] at h
 exact h.1
section
variable {A:Around}{env:Env}{s:Shared}{Q:Value->Shared->Prop}{Er:Value->Shared->Prop}{p pos:Pos}
theorem fx {id:String}{args:List Expr}(eok:EnvOk env) (ge:GE fns s.heap) (hm:id∈bnames) (hg:cE env.scope.names id=true) (hd:(Str.ofString id==("__debug__" : Str))=false)
  (h:wpAny (model prog w) A (callWith pos (bval id) [] (backTo pos (starEach args env)) []) Q Er s):wpAny (model prog w) A (eval (.Call (.Name (Str.ofString id) p) args [] pos) env) Q Er s:=by
 refine ao (ge.glob) fun mg g1 _ g3=>?_
 refine af (ge.blt) fun mb b1 b2=>?_
 exact wpAny_Call_NameR (Calls.Name_function_global eok.kind (dA hg) (Calls.loadGlobal_builtin (eok.glob▸g1) (g3 id hm) (eok.blt▸b1) (b2 id hm) h) hd)
theorem jT {id:String}{x:Expr}{xs:List Expr}{e:E}(ns:List (Str×NameKind)) (hx:okE ns e x=true) (ha:(backTo pos (starEach xs env)).any (·.1)=false)
  (h:wpAny (model prog w) A (spliced (backTo pos (starEach (x::xs) env))) (fun vs s₁=>wpAny (model prog w) A (call (.builtin id) vs) Q Er s₁) Er s):wpAny (model prog w) A (callWith pos (.builtin id) [] (backTo pos (starEach (x::xs) env)) []) Q Er s:=by
 rw [aJ hx] at h ⊢
 exact Calls.callWith_builtin ha (Calls.evalArgs_plain (wpAny_mono h (fun vs s₁ h₁=>h₁) fun uu uu e=>e))
theorem iw {T:String}{x:Expr}{xs:List Expr}{e:E}(ns:List (Str×NameKind)) (hx:okE ns e x=true) (ha:(backTo pos (starEach xs env)).any (·.1)=false)
  (h:wpAny (model prog w) A (spliced (backTo pos (starEach (x::xs) env))) (fun vs s₁=>wpAny (model prog w) A (call (.type T) vs) Q Er s₁) Er s):wpAny (model prog w) A (callWith pos (.type T) [] (backTo pos (starEach (x::xs) env)) []) Q Er s:=by
 rw [aJ hx] at h ⊢
 exact PySem.callWith_type ha (Calls.evalArgs_plain (wpAny_mono h (fun vs s₁ h₁=>h₁) fun uu uu e=>e))
theorem ll {x:Expr}{e:E}(ns:List (Str×NameKind)) (hx:okE ns e x=true) {G:List Value->Shared->Prop}(h:wpAny (model prog w) A (eval x env) (fun v s₁=>G [v] s₁) Er s):wpAny (model prog w) A (spliced (backTo pos (starEach [x] env))) G Er s :=
 wpAny_items_cons (wpAny_mono h (fun uu uu h₁=>wpAny_items_nil h₁) fun uu uu e=>e) (aJ hx [] env)
end
section
variable {va:Value}{as:List Addr}{A:Around}{P:Addr->Prop}{s:Shared}{Q:Value->Shared->Prop}{Er:Value->Shared->Prop}
theorem wO {x:V}{r:V×Mode}(he:b1D .len x = .ok r) (ra:RV s.heap va x as) (hQ:∀ v s',EP P s r v s'->Q v s'):wpAny (model prog w) A (call (.builtin "len") [va]) Q Er s:=by
 replace he:=aT he
 revert he; intro HS
 refine af (HS) fun y hy he=>?_
 try clear HS
 cases bB hy
 cases ht:asT y with
 | none=>
  simp only [ht] at he
  replace he:=aT he
  revert he; intro Hy
  refine af (Hy) fun xs hx he=>?_
  try clear Hy
  cases bC hx
  (have oc:=Out.ok.inj he; clear he; subst oc)
  refine ra.1.isList_k fun a vs n cs G4 ea ra' G5=>?_
  subst G4
  subst G5
  have hl:=ra'.length
  have hz:=(sz_list.mp ra.2).1
  refine Calls.call_len_list (isL ea) (by rw [List.size_toArray]; exact Dv hl hz) (hQ _ _ ?_)
  rw [List.size_toArray,hl]
  exact .int (.toks s _)
 | some xs=>
  simp only [ht] at he
  (have oc:=Out.ok.inj he; clear he; subst oc)
  cases gG ht
  refine aI (ra.1.isTup) fun a vs n G6 ea ra'=>?_
  subst G6
  have hl:=ra'.length
  have hz:=(sz_tuple.mp ra.2).1
  refine PySem.P.len_tuple ea (by rw [List.size_toArray]; exact D6 hl hz) (hQ _ _ ?_)
  rw [List.size_toArray,hl]
  exact .int (.toks s _)
theorem mC {xs:List PyData}{T:String}{a:Addr}{vs:List Value}{n:Nat}{cs:List Addr}(hT:T = "list" \/ T = "tuple") (ea:s.heap.get? a=some ⟨.type T,none,.seq vs.toArray n,#[]⟩) (ra:RA s.heap vs xs cs) (hl:xs.length≤2^22)
  (hz:∀ x∈xs,sz x=true) (ha:∀ b∈cs,P b) (hQ:∀ v s',EP P s (.d (.list xs),fresh xs) v s'->Q v s'):wpAny (model prog w) A (call (.type "list") [.ref a]) Q Er s:=by
 have e:=ra.length
 refine call_list_seq a hT ea rfl rfl (fun h' c' kp hn=>hQ _ _ ?_) (by rw [List.size_toArray]; unfold sizeLine; exact xm hl e)
 have kp':Kp s {s with heap:=h' }:=(aB h' s.toks rfl (.of kp))
 refine EP.aList kp' (bi _) hn (ra.keep kp) hl hz fun b hb=>⟨ha b hb,?_⟩
 refine bg (ra.there b hb) fun uu uu e=>?_
 exact ei e
theorem uM {xs:List PyData}(ra:R s.heap va (.list xs) as) (za:sz (.list xs)=true) (ha:∀ b∈as,P b) (hQ:∀ v s',EP P s (.d (.tuple xs),if xs.all sx then .deep else .sh) v s'->Q v s'):wpAny (model prog w) A (call (.type "tuple") [va]) Q Er s:=by
 refine ra.isList_k fun a vs n cs G7 ea ra' G8=>?_
 (clear ra; subst G7)
 subst G8
 have e:=ra'.length
 have hz:=sz_list.mp za
 refine call_tuple_list (isL ea) (fun h' kp=>hQ _ _ ?_) (by rw [List.size_toArray]; unfold sizeLine; exact CO e hz)
 have kp':Kp s {s with heap:=h'.push {cls:=.type "tuple", data:=.seq vs.toArray } }:=(aB _ s.toks rfl (.of fun b o q=>Heap.get?_push_of_some _ (kp b o q)))
 refine ⟨kp',cs,⟨.tuple (Heap.get?_push_size _ rfl) ((ra'.keep kp).keep fun uu uu e=>Heap.get?_push_of_some _ e),sz_tuple.mpr hz⟩,fun b hb=>.inl (ha b (.tail _ hb)),fun hm=>?_,fun hm=>?_⟩
 ·dsimp only at hm; split at hm<;>cases hm
 ·have hall:xs.all sx=true:=by
   dsimp only at hm
   split at hm
   ·assumption
   ·cases hm
  rw [ra'.sx_nil hall]
  exact ⟨fun uu h=>(nomatch h),.nil⟩
theorem qR {xs:List PyData}{ns:List Int}(ra:R s.heap va (.list xs) as) (hi:aS xs=some ns) (h64:xs.length<64) (hQ:∀ v s',EP P s (.d (aa (ns.mergeSort (fun a b=>decide (a≤b)))),.deep) v s'->Q v s') :
  wpAny (model prog w) A (call (.builtin "sorted") [va]) Q Er s:=by
 refine ra.isList_k fun a vs n cs G9 ea ra' Ha=>?_
 (clear ra; subst G9)
 subst Ha
 have e:=ra'.length
 refine aD (ra'.ints hi) fun hI Hc Hd=>?_
 subst Hc
 subst Hd
 rw [List.length_map] at e h64
 refine sorted_ints (isL ea) hI (by exact xH h64 e) fun out ns' h1 h2 h3=>hQ _ _ ?_
 have e':ns' = ns.mergeSort (fun a b=>decide (a≤b)):=fA (fun a b h h'=>Int.le_antisymm h h') (h2.trans (List.mergeSort_perm ns _).symm) h3 (lW ns)
 (clear h2 h3; subst e')
 refine ai (sortedAll_at s.heap vs out) fun e he=>?_
 have hl:=List.length_mergeSort (le:=fun a b:Int=>decide (a≤b)) ns
 have ep:EP P s (.d (.list ((ns.mergeSort (fun a b=>decide (a≤b))).map .int)),fresh ((ns.mergeSort (fun a b=>decide (a≤b))).map .int)) (.ref (s.heap.objs.size+1)) {s with heap:=sortedAll s.heap vs out } :=
  EP.aList (vs:=out.toList) (n:=e) (as:=[]) (aB _ s.toks rfl (.of fun uu uu q=>sortedAll_old q)) (Heap.get?_none_of_le (Nat.le_succ _)) (by simpa [seqObj] using he) (RA.of_ints h1) (by rw [List.length_map,hl]; exact xo h64) (jZ _) fun uu h=>(nomatch h)
 have ef:fresh ((ns.mergeSort (fun a b=>decide (a≤b))).map .int) = .deep:=by
  unfold fresh
  rw [if_pos]
  rw [List.all_map,List.all_eq_true]
  intro _ _; rfl
 rw [ef] at ep
 exact ep
end
end
end Mine
namespace Mine
open PySem PyProof.Rows
section
structure ItP (A:Around) (P:Addr->Prop) (s:Shared) (ds:List PyData) (m:Mode) (it:Value) (s':Shared):Prop where
 keeps:Kp s s'
 walk:∃ (I:Addr) (fp wr:List Addr) (Pw:Nat->Value->Prop) (St:Nat->Heap->Prop) (F:List Addr),it = .ref I/\Walks prog w A I fp wr ds.length Pw St/\St 0 s'.heap /\
  (∀ b∈wr,s.heap.get? b=none/\b∉F/\∀ i h,St i h->∃ o,h.get? b=some o/\(hardB o=true/\o.cls≠.type "code" /\ ∀ C,o.cls≠.ref C)/\∃ fs,o.data = .fields fs)/\(∀ b∈fp,b∈wr\/b∈F)/\(∀ i v,Pw i v->∀ d,ds[i]? = some d->∃ bs,R s'.heap v d bs/\∀ b∈bs,b∈F) /\
  (∀ b∈F,∃ vs n,s'.heap.get? b=some ⟨.type "list", none,.seq vs n,#[]⟩)/\(∀ a∈F,P a\/s.heap.get? a=none)/\(m = .deep->∀ a∈F,s.heap.get? a=none)
 small:ds.length≤2^22/\∀ d∈ds,sz d=true
variable (fns:Fns) (k:Nat) (C:Calls) (XP:String->Shared->Value->Shared->Prop)
noncomputable def dP (it:It):Prop:=∀ {ex:Expr}{A:Around}{env:Env}{σ:St}{P:Addr->Prop}{s:Shared}{Q:Value->Shared->Prop}{Er:Value->Shared->Prop},
 gj env.scope.names it ex=true->Cx fns k A P s.heap env σ->bt C it σ≠.bad ->
 (∀ q,bt C it σ = .ok q->∀ i s',ItP A P s q.1 q.2 i s'->Q i s')->(∀ c,bt C it σ = .exc c->∀ x s',XP c s x s'->Er x s') ->
 wpAny (model prog w) A (eval ex env) (fun x s₁=>wpAny (model prog w) A (pyIter x) Q Er s₁) Er s
end
section
variable {fns:Fns}{k:Nat}{C:Calls}{XP:String->Shared->Value->Shared->Prop}
theorem ux {A:Around}{P:Addr->Prop}{s₀ s:Shared}{Q:Value->Shared->Prop}{Er:Value->Shared->Prop}{va:Value}{as:List Addr}{xs:List PyData}{m:Mode}(k₀:Kp s₀ s) (hh:A.handled=none) (ra:R s.heap va (.list xs) as) (za:sz (.list xs)=true)
  (ha:∀ a∈as,P a\/s₀.heap.get? a=none) (hm:m = .deep->∀ a∈as,s₀.heap.get? a=none) (hQ:∀ it s',ItP A P s₀ xs m it s'->Q it s'):wpAny (model prog w) A (pyIter va) Q Er s:=by
 refine ra.isList_k fun a vs n cs G4 ea ra' G5=>?_
 subst G4
 subst G5
 refine wpAny_pyIter_list (isL ea) (hQ _ _ ⟨k₀.trans (.push s _ _),⟨s.heap.objs.size,[s.heap.objs.size,a],[s.heap.objs.size],(fun i v=>vs.toArray[i]? = some v),(fun i h=>h.IsListIter s.heap.objs.size a i/\h.IsList a vs.toArray),a::cs,rfl,?_,⟨(aC _ (Heap.get?_push_size _ rfl) rfl rfl),(isL ea).push _⟩,?_,?_,?_,?_,ha,hm⟩,sz_list.mp za⟩)
 ·have:=Walks.list (prog:=prog) (w:=w) (A:=A) hh s.heap.objs.size a (ei ea) vs.toArray
  have e:vs.toArray.size=xs.length:=by rw [List.size_toArray,ra'.length]
  rw [e] at this
  exact this
 ·intro b hb
  rw [List.mem_singleton.mp hb]
  refine ⟨k₀.none (bi _),fun h=>?_,fun i h hst=>?_⟩
  ·refine bg (ra.there _ h) fun uu uu e=>?_
   exact ei e rfl
  ·refine ao (hst.1) fun o e1 ec e2=>?_
   exact (aC o e1 ⟨by unfold hardB; rw [ec]; decide,by rw [ec]; decide,fun uu q=>by rw [ec] at q; cases q⟩ (bI _ e2))
 ·intro b hb
  rcases List.mem_cons.mp hb with rfl | hb
  ·exact .inl (.head _)
  ·rw [List.mem_singleton.mp hb]; exact .inr (.head _)
 ·intro i v hv d hd
  refine aA (ra'.get' (by simpa using hv)) fun d' bs h1 h2 h3=>?_
  rw [hd] at h1; (have oc:=Option.some.inj h1; clear h1; subst oc)
  exact (ah bs (h2.keep fun uu uu e=>Heap.get?_push_of_some _ e) (fun b hb=>.tail _ (h3 b hb)))
 ·intro b hb
  refine bg (ra.there b hb) fun vs' n' e=>?_
  exact (bD vs' n' (Heap.get?_push_of_some _ e))
theorem rO {a b:Int}{i:Nat}{d:PyData}(h:(c8 a b)[i]? = some d):d = .int (a+i):=by
 unfold c8 at h
 rw [List.getElem?_map] at h
 refine be h fun j hj G6=>?_
 subst G6
 have:j=i:=by
  have h1:=(List.getElem?_eq_some_iff.mp hj)
  refine ai (h1) fun h2 h3=>?_
  try clear h1
  rw [List.getElem_range] at h3
  exact h3.symm
 rw [this]
theorem iC (a b:Int):(c8 a b).length=(b-a).toNat:=by simp [c8]
theorem sY (a b:Int):∀ d∈c8 a b,sz d=true:=by
 intro d hd
 unfold c8 at hd
 refine aQ hd fun j _ G7=>?_
 (clear hd; subst G7)
 rfl
theorem kN {A:Around}{P:Addr->Prop}{s₀ s:Shared}{Q:Value->Shared->Prop}{Er:Value->Shared->Prop}{r:Addr}{a b:Int}{t u v:Tok}(k₀:Kp s₀ s) (hh:A.handled=none) (hr:IsRange s.heap r a b 1 t u v)
  (hn:(b-a).toNat≤lim) (ha:-(2^60)≤a/\a<2^60/\-(2^60)≤b/\b<2^60) (hQ:∀ it s',ItP A P s₀ (c8 a b) .deep it s'->Q it s'):wpAny (model prog w) A (pyIter (.ref r)) Q Er s:=by
 have hsz:Builtin.Range.rangeSize a b 1=((b-a).toNat:Int):=by rw [rangeSize_one]; split<;>lia
 refine wpAny_pyIter_range hr (small_one (by exact C4 ha) (by exact Co ha) (by exact Dt ha) (by exact Ct ha)) (hQ _ _ ⟨k₀.trans (.push s _ _),⟨s.heap.objs.size,[s.heap.objs.size],[s.heap.objs.size],(fun i v=>∃ t,v = .int (a+i*1) t),(fun i h=>IsRangeIter h s.heap.objs.size (a+(i:Nat)*1) (((b-a).toNat:Int)-(i:Nat)) 1),[],rfl,?_,?_,?_,fun b hb=>.inl hb,?_,fun uu h=>(nomatch h),fun uu h=>(nomatch h),fun uu uu h=>(nomatch h)⟩,⟨by rw [iC]; unfold lim at hn; exact Dw hn,sY a b⟩⟩)
 ·have:=Walks.range (prog:=prog) (w:=w) (A:=A) hh s.heap.objs.size a 1 (b-a).toNat
  rw [iC]
  exact this
 ·have e1:(a+((0:Nat):Int)*1)=a:=by simp
  have e2:(((b-a).toNat:Int)-((0:Nat):Int))=Builtin.Range.rangeSize a b 1:=by rw [hsz]; simp
  show IsRangeIter _ _ (a+((0:Nat):Int)*1) (((b-a).toNat:Int)-((0:Nat):Int)) 1
  rw [e1,e2]
  exact Heap.get?_push_size _ rfl
 ·intro b hb
  rw [List.mem_singleton.mp hb]
  exact ⟨k₀.none (bi _),fun h=>(nomatch h),fun i h hst=>(aC _ hst ⟨rfl,by simp⟩ (bI _ rfl))⟩
 ·rintro i v ⟨t,rfl⟩ d hd
  rw [rO hd]
  exact (ah ([]) (by simpa using R.int (a+i) t) (fun uu h=>(nomatch h)))
set_option tactic.hygienic true in
theorem zz (hf:fns.hand=false) {a:E}(Sa:SimE fns k C XP a):dP fns k C XP (.e a):=by
 intro ex A env σ P s Q Er ok X nb hQ hE
 replace ok:okE env.scope.names a ex=true:=ok
 simp only [gP,fL,fK] at nb hQ hE
 refine aR nb fun n1 n2=>?_
 refine Sa ok X n1 (fun r hr v s₁ Ea=>?_) fun c hc=>hE c (by rw [hc]; rfl)
 have n3:=n2 r hr
 obtain ⟨x,m⟩:=r
 obtain ⟨ka,as,ra,ha,ht,hd⟩:=Ea
 unfold itV at n3
 dsimp only at n3 ra hd
 split at n3
 ·rename_i xs hx
  cases iP hx
  exact ux (m:=m) ka (X.room.1 hf) ra.1 ra.2 ha (fun hm=>(hd hm).1) fun it s' I=>hQ (xs,m) (by rw [hr]; rfl) it s' I
 ·exact absurd rfl n3
theorem mE {a b:Int}{q:List PyData×Mode}(h:cj a b = .ok q):q=(c8 a b,.deep)/\(b-a).toNat≤lim/\-(2^60)≤a/\a<2^60/\-(2^60)≤b/\b<2^60:=by
 unfold cj at h
 split at h
 ·rename_i hc; (have oc:=Out.ok.inj h; clear h; subst oc); exact ⟨rfl,hc⟩
 ·exact nB h
theorem kY {a b:Int}{c:String}:cj a b≠.exc c:=by unfold cj; split<;>simp
set_option tactic.hygienic true in
theorem vA (hf:fns.hand=false) {n:E}(Sn:SimE fns k C XP n):dP fns k C XP (.r1 n):=by
 intro ex A env σ P s Q Er ok X nb hQ hE
 replace ok:=Gb ok
 revert ok; refine fun Hg=>Or.elim Hg (fun Hb=>?_) (fun ok=>?_)
 ·clear Hg
  refine cb (Hb) fun HH HV Il H7 HU ok=>?_
  clear Hb
  subst HU
  simp only [Bool.and_eq_true,beq_iff_eq] at ok
  refine ae (ok) fun G8 on=>?_
  try clear ok
  refine ae (G8) fun G9 hg=>?_
  try clear G8
  subst G9
  simp only [gP,fL,fK] at nb hQ hE
  refine aR nb fun n1 n2=>?_
  refine fx X.eok X.ge (by decide) hg (by decide) (iw (T := "range") _ on rfl (ll _ on (Sn on X n1 (fun r hr v s₁ Ea=>?_) fun c hc=>hE c (by rw [hc]; rfl))))
  have n3:=n2 r hr
  obtain ⟨x,m⟩:=r
  obtain ⟨ka,as,ra,hx1,hx2,hx3⟩:=Ea
  clear hx1 hx2 hx3
  dsimp only at n3 ra
  split at n3
  ·rename_i i
   cases hq:cj 0 i with
   | bad=>exact absurd hq n3
   | exc c=>exact absurd hq kY
   | ok q=>
    refine aD (mE hq) fun Ha h1 h2=>?_
    subst Ha
    refine ra.1.isInt_k fun uu Hc Hd=>?_
    (clear ra; subst Hc)
    subst Hd
    exact call_range_1 (kN (ka.trans (.push s₁ _ _)) (X.room.1 hf) (IsRange.new ..) h1 h2 fun it s' I=>hQ _ (by rw [hr]; exact hq) it s' I)
  ·exact absurd rfl n3
 ·cases ok
set_option tactic.hygienic true in
theorem wU (hf:fns.hand=false) (hXP:∀ c s s₁ x s',Kp s s₁->XP c s₁ x s'->XP c s x s') {a b:E}(Sa:SimE fns k C XP a) (Sb:SimE fns k C XP b):dP fns k C XP (.r2 a b):=by
 intro ex A env σ P s Q Er ok X nb hQ hE
 replace ok:=Fp ok
 revert ok; refine fun Hh=>Or.elim Hh (fun He=>?_) (fun ok=>?_)
 ·clear Hh
  refine jE (He) fun H9 Im Is Ia Id H0 ok=>?_
  clear He
  subst H0
  simp only [Bool.and_eq_true,beq_iff_eq] at ok
  refine ae (ok) fun Hf ob=>?_
  try clear ok
  refine ae (Hf) fun Hk oa=>?_
  try clear Hf
  refine ae (Hk) fun Hi hg=>?_
  try clear Hk
  subst Hi
  simp only [gP,fL,fK] at nb hQ hE
  refine aR nb fun n1 n2=>?_
  refine fx X.eok X.ge (by decide) hg (by decide) (iw (T := "range") _ oa (by rw [aJ ob]; rfl) (wpAny_items_cons ?_ (aJ oa _ env)))
  refine Sa oa X n1 (fun x hx va s₁ Ea=>?_) fun c hc=>hE c (by rw [hc]; rfl)
  refine aR (n2 x hx) fun n3 n4=>?_
  refine ll _ ob (Sb ob (X.k Ea.keeps.k) n3 (fun y hy vb s₂ Eb=>?_) fun c hc z s' hz=>hE c (by rw [hx,Out.ok_bind,hc]; rfl) z s' (hXP c s s₁ z s' Ea.keeps hz))
  have n5:=n4 y hy
  obtain ⟨x,mx⟩:=x
  obtain ⟨y,my⟩:=y
  obtain ⟨ka,as,ra,hx1,hx2,hx3⟩:=Ea
  obtain ⟨kb,bs,rb,hx4,hx5,hx6⟩:=Eb
  clear hx1 hx2 hx3 hx4 hx5 hx6
  dsimp only at n5 ra rb
  split at n5
  ·rename_i i j
   cases hq:cj i j with
   | bad=>exact absurd hq n5
   | exc c=>exact absurd hq kY
   | ok q=>
    refine aD (mE hq) fun Hs h1 h2=>?_
    subst Hs
    revert ra; intro IG
    refine ae (IG) fun ra _=>?_
    try clear IG
    revert rb; intro IN
    refine ae (IN) fun rb _=>?_
    try clear IN
    cases ra; cases rb
    exact call_range_2 (kN ((ka.trans kb).trans (.push s₂ _ _)) (X.room.1 hf) (IsRange.new ..) h1 h2 fun it s' I=>hQ _ (by rw [hx,Out.ok_bind,hy]; exact hq) it s' I)
  ·exact absurd rfl n5
 ·cases ok
end
end Mine
namespace Mine
open PySem PyProof.Rows
theorem cC {x y:String}(h:Str.ofString x=Str.ofString y):x=y:=by
 rw [Str.ofString_eq_toList,Str.ofString_eq_toList] at h
 have h1:(x.toList.map Char.toNat).toArray=(y.toList.map Char.toNat).toArray:=by injection h
 have h2:x.toList.map Char.toNat=y.toList.map Char.toNat:=by simpa using h1
 have h3:x.toList=y.toList:=by
  have inj:∀ a b:Char,a.toNat=b.toNat->a=b:=fun a b e=>Char.ext (UInt32.toNat_inj.mp e)
  generalize x.toList=l at h2
  generalize y.toList=m at h2
  induction l generalizing m with
  | nil=>cases m with
   | nil=>rfl
   | cons b m=>simp at h2
  | cons a l ih=>cases m with
   | nil=>simp at h2
   | cons b m=>
    simp only [List.map_cons,List.cons.injEq] at h2
    rw [inj a b h2.1,ih m h2.2]
 exact String.toList_inj.mp h3
section
variable {fns:Fns}{k:Nat}{C:Calls}{XP:String->Shared->Value->Shared->Prop}
theorem kZ {scope:Scope}{env:Env}(hf:∀ p∈scope.names,p.2 = .free->∃ c,env.cells.lookup p.1=some c) :
  ∃ cl,closureFor scope env=pure cl/\∀ n,(n,NameKind.free)∈scope.names->cl.lookup n=env.cells.lookup n:=by
 suffices H:∀ (names:List (Str×NameKind)) (acc:List (Str×Addr)),(∀ p∈names,p.2 = .free->∃ c,env.cells.lookup p.1=some c)->(∀ n c,acc.lookup n=some c->env.cells.lookup n=some c) ->
   ∃ cl,(forIn names acc (fun (x:Str×NameKind) (cs:List (Str×Addr))=>(if (x.2==NameKind.free)=true then (do let c ← cellOf env x.1; pure (ForInStep.yield ((x.1,c)::cs))) else pure (ForInStep.yield cs):Sem (ForInStep (List (Str×Addr))))))=pure cl /\
    (∀ n c,cl.lookup n=some c->env.cells.lookup n=some c)/\(∀ n,(n,NameKind.free)∈names\/(acc.lookup n).isSome->(cl.lookup n).isSome) by
  refine ao (H scope.names [] hf (fun n c h=>by simp at h)) fun cl h1 h2 h3=>?_
  refine (ah cl ?_ (fun n hn=>?_))
  ·unfold closureFor
   have e:(forIn scope.names ([]:List (Str×Addr)) fun (x:Str×NameKind) (r:List (Str×Addr))=>match x with
     | (name,kind)=>if (kind==NameKind.free)=true then (do let c ← cellOf env name; pure (ForInStep.yield ((name,c)::r))) else (pure (ForInStep.yield r):Sem (ForInStep (List (Str×Addr)))))=pure cl:=h1
   exact congrArg (fun t:Sem (List (Str×Addr))=>t>>=fun q=>pure q) e
  ·refine bG (h3 n (.inl hn)) fun c hc=>?_
   rw [hc,h2 n c hc]
 intro names
 induction names with
 | nil=>intro acc _ ha; exact (aC acc rfl ha (fun n hn=>hn.elim (fun h=>nomatch h) id))
 | cons p r ih=>
  intro acc hf ha
  obtain ⟨n,kd⟩:=p
  by_cases hk:kd = .free
  ·subst hk
   refine ai (hf (n,.free) (.head _) rfl) fun c hc=>?_
   obtain ⟨cl,h1,h2,h3⟩:=ih ((n,c)::acc) (fun p hp=>hf p (.tail _ hp)) (fun m d h=>by
    rw [List.lookup_cons] at h
    split at h
    ·rename_i e; (have oc:=Option.some.inj h; clear h; subst oc); rw [beq_iff_eq.mp e]; exact hc
    ·exact ha m d h)
   refine (aC cl ?_ h2 (fun m hm=>h3 m ?_))
   ·rw [List.forIn_cons,← h1]
    simp only [beq_self_eq_true,if_true,cellOf,hc]
    rfl
   ·rcases hm with hm | hm
    ·rcases List.mem_cons.mp hm with e | hm
     ·cases e; right; simp
     ·exact .inl hm
    ·right
     rw [List.lookup_cons]
     split
     ·rfl
     ·exact hm
  ·refine ao (ih acc (fun p hp=>hf p (.tail _ hp)) ha) fun cl h1 h2 h3=>?_
   refine (aC cl ?_ h2 (fun m hm=>h3 m (hm.imp (fun hm=>?_) id)))
   ·rw [List.forIn_cons,← h1]
    have:(kd==NameKind.free)=false:=by simpa using hk
    simp only [this,Bool.false_eq_true,if_false]
    rfl
   ·rcases List.mem_cons.mp hm with e | hm
    ·cases e; exact absurd rfl hk
    ·exact hm
theorem iJ {X:Str}:∀ (names:List (Str×NameKind)) (h:Heap) (acc:List (Str×Addr)),(∀ p∈names,p.2 = .cell->p.1=X)->(names.map (·.1)).Nodup ->
  (∀ m,m≠X->(cellsFrom h.objs.size names acc).lookup m=acc.lookup m) /\
  (names.lookup X=some .cell->∃ c,(cellsFrom h.objs.size names acc).lookup X=some c/\(pushCells h names).IsCell c none/\h.objs.size≤c)/\(names.lookup X≠some .cell->cellsFrom h.objs.size names acc=acc)
 | [],h,acc,_,_=>⟨fun uu uu=>rfl,fun e=>(by cases e),fun uu=>rfl⟩
 | (n,kd)::r,h,acc,hc,hn=>by
  rw [List.map_cons,List.nodup_cons] at hn
  unfold cellsFrom pushCells
  by_cases hk:kd = .cell
  ·subst hk
   have e:n=X:=hc (n,.cell) (.head _) rfl
   subst e
   have hr:∀ p∈r,p.2≠.cell:=fun p hp e=>hn.1 (List.mem_map.mpr (ah p hp (hc p (.tail _ hp) e)))
   have hl:r.lookup n≠some .cell:=fun e=>hr _ (mem_of_lookup e) rfl
   simp only [beq_self_eq_true,if_true]
   have ih:=iJ (X:=n) r (h.push {cls:=.type "cell", data:=.cell none }) ((n,h.objs.size)::acc) (fun p hp e=>absurd e (hr p hp)) hn.2
   rw [Heap.size_push] at ih
   rw [ih.2.2 hl]
   refine ⟨fun m hm=>?_,fun uu=>(aC h.objs.size (by simp) (ah _ (pushCells_keeps r _ _ _ (Heap.get?_push_size _ rfl)) rfl) (Nat.le_refl _)),fun hh=>?_⟩
   ·rw [List.lookup_cons]
    have:(m==n)=false:=by simpa using hm
    rw [this]
   ·exact absurd (by simp) hh
  ·have hb:(kd==NameKind.cell)=false:=by simpa using hk
   simp only [hb,Bool.false_eq_true,if_false]
   refine aD (iJ r h acc (fun p hp=>hc p (.tail _ hp)) hn.2) fun h1 h2 h3=>?_
   have e:((n,kd)::r).lookup X=some .cell↔r.lookup X=some .cell:=by
    rw [List.lookup_cons]
    by_cases hx:X=n
    ·(clear hc; subst hx)
     simp only [beq_self_eq_true]
     constructor
     ·intro e; (have oc:=Option.some.inj e; clear e; subst oc); exact absurd rfl hk
     ·intro e; exact absurd (List.mem_map.mpr (ah _ (mem_of_lookup e) rfl)) hn.1
    ·have:(X==n)=false:=by simpa using hx
     rw [this]
   exact ⟨h1,fun q=>h2 (e.mp q),fun q=>h3 fun z=>q (e.mpr z)⟩
theorem zH {A:Around}{env:Env}{scope:Scope}{cl:List (Str×Addr)}{s:Shared}{Q:Env->Shared->Prop}{Er:Value->Shared->Prop}
  (h:∀ h',h' = pushCells (s.heap.push {cls:=.type "dict", data:=.dict #[] }) scope.names->Q {scope,locals:=s.heap.objs.size,globals:=env.globals,cells:=cellsFrom (s.heap.objs.size+1) scope.names cl,qual:=env.qual,func:=none,code:=env.code,frame:=env.frame,builtins:=env.builtins } {s with heap:=h' }) :
  wpAny (model prog w) A (newFunctionEnv scope env.globals cl [] env.qual none .none (some env)) Q Er s:=by
 simp only [newFunctionEnv,Option.isSome_some,if_true]
 refine wpAny_bind (wpAny_alloc ?_)
 refine wpAny_bind (wpAny_layCells _ (fun name kind cells=>by cases hkc:kind==NameKind.cell<;>simp) _ _ _ _ ?_)
 rw [show ({s with heap:=s.heap.push {cls:=.type "dict", data:=.dict #[] } }:Shared).heap.objs.size=s.heap.objs.size+1 from Heap.size_push ..]
 exact wpAny_bind (wpAny_pure (wpAny_pure (h _ rfl)))
end
end Mine
namespace Mine
open PySem PyProof.Rows
section
variable {fns:Fns}{k:Nat}{C:Calls}{XP:String->Shared->Value->Shared->Prop}
theorem gW {ns:List (Str×NameKind)}{sc:Scope}{x:String}(h:gg ns sc x=true):sc.kind = .function/\(sc.names.map (·.1)).Nodup/\(sc.names.lookup (Str.ofString x)=some .local\/sc.names.lookup (Str.ofString x)=some .cell) /\
  ∀ p∈sc.names,(p.2 = .local/\(p.1=Str.ofString x\/p.1=Str.ofString ".0"))\/p.2 = .globalImplicit\/(p.2 = .cell/\p.1=Str.ofString x)\/(p.2 = .free/\(ns.lookup p.1=some .cell\/ns.lookup p.1=some .free)):=by
 unfold gg at h
 simp only [Bool.and_eq_true,beq_iff_eq,decide_eq_true_eq,Bool.or_eq_true,List.all_eq_true] at h
 refine ae (h) fun G4 h4=>?_
 try clear h
 refine ae (G4) fun G5 h3=>?_
 try clear G4
 refine ae (G5) fun h1 h2=>?_
 try clear G5
 refine (cS h1 h2 h3 (fun p hp=>?_))
 rcases h4 p hp with ((h | h) | h) | h
 ·exact .inl h
 ·exact .inr (.inl h)
 ·exact .inr (.inr (.inl h))
 ·exact .inr (.inr (.inr h))
theorem gY {α:Type}{l:List (Str×α)}{n:Str}{c:α}(hn:(l.map (·.1)).Nodup) (h:(n,c)∈l):l.lookup n=some c:=by
 induction l with
 | nil=>cases h
 | cons p r ih=>
  rw [List.map_cons,List.nodup_cons] at hn
  rw [List.lookup_cons]
  rcases List.mem_cons.mp h with e | h
  ·(clear h; subst e); simp
  ·have:(n==p.1)=false:=beq_eq_false_iff_ne.mpr fun e=>hn.1 (e▸List.mem_map.mpr (ah _ h rfl))
   rw [this]
   exact ih hn.2 h
theorem gh {outer:List (Str×NameKind)}:∀ {inner:List (Str×NameKind)}{n:Str},(eT outer inner).lookup n=(inner.lookup n).map fun kd=>if kd == .free&&outer.lookup n==some .cell then .cell else kd
 | [],n=>rfl
 | (m,kd)::r,n=>by
  have ih:=@gh outer r n
  unfold eT at ih ⊢
  rw [List.map_cons,List.lookup_cons,List.lookup_cons]
  by_cases e:n=m
  ·subst e
   by_cases hc:(kd==NameKind.free&&outer.lookup n==some .cell)=true
   ·rw [if_pos hc]; simp only [beq_self_eq_true,Option.map_some]; rw [if_pos hc]
   ·rw [if_neg hc]; simp only [beq_self_eq_true,Option.map_some]; rw [if_neg hc]
  ·have e':(n==m)=false:=by simpa using e
   have e'':(n==(if (kd==NameKind.free&&outer.lookup m==some .cell)=true then (m,NameKind.cell) else (m,kd)).1)=false:=by split<;>exact e'
   simp only [e',e'']
   exact ih
theorem eU {scope:Scope}{env:Env}(hk:env.scope.kind = .function):(relabel scope env).names=eT env.scope.names scope.names:=by
 unfold relabel eT Env.kindOf
 simp [hk]
theorem sk {f:PyData->Out (Option (V×Mode))}{d:PyData}{ds:List PyData}{q:List PyData×Bool}(h:bz f (d::ds) = .ok q) :
  ∃ r q',f d = .ok r/\bz f ds = .ok q'/\((r=none/\q=q')\/∃ y m,r=some (.d y,m)/\q=(y::q'.1,decide (m = .deep)&&q'.2)):=by
 simp only [bz] at h
 refine Out.bind_k h fun r h1 h=>?_
 refine Out.bind_k h fun q' h2 h=>?_
 refine (aO r q' h1 h2 ?_)
 split at h
 ·(have oc:=Out.ok.inj h; clear h; subst oc); exact .inl ⟨rfl,rfl⟩
 ·(have oc:=Out.ok.inj h; clear h; subst oc); exact .inr (aB _ _ rfl rfl)
 ·exact nB h
theorem zq {x:String}{sc:Scope}{A:Around}{env cenv:Env}{σ:St}{P P':Addr->Prop}{h h':Heap}{d:PyData}{v:Value}{as:List Addr}
  (hsc:gg env.scope.names sc x=true) (hN:cenv.scope.names=eT env.scope.names sc.names) (hk:cenv.scope.kind = .function) (hg:cenv.globals=env.globals) (hb:cenv.builtins=env.builtins)
  (hc:∀ n,(n,NameKind.free)∈sc.names->cenv.cells.lookup n=env.cells.lookup n) (hx:sc.names.lookup (Str.ofString x)=some .cell->∃ c,cenv.cells.lookup (Str.ofString x)=some c)
  (hcd:cenv.code=env.code) (X:Cx fns k A P h env σ) (kp:K h h') (hv:VarIs h' cenv (Str.ofString x) v) (hr:R h' v d as) (hz:sz d=true) (has:∀ a∈as,P' a) (hP:∀ a,P a->(∃ o,h.get? a=some o)->P' a) :
  Cx fns k A P' h' cenv (upd σ x (mk (.d d))):=by
 refine cJ (gW hsc) fun uu hnd htg hnames=>?_
 have hkd:∀ n,cenv.kindOf n=(sc.names.lookup n).map fun kd=>if kd == .free&&env.scope.names.lookup n==some .cell then .cell else kd:=fun n=>by
  show cenv.scope.names.lookup n=_
  rw [hN]; exact gh
 refine ⟨X.room,⟨hk,hg.trans X.eok.glob,hb.trans X.eok.blt,fun n hn=>?_⟩,X.ge.k kp,(fun h1=>ai (X.code h1) fun q c=>⟨q,hcd▸c.k kp⟩),(fun q=>af (X.frm q) fun l a b=>(ah l a (b.k kp))),fun y p hp hvk=>?_⟩
 ·rw [hkd] at hn
  cases e:sc.names.lookup n with
  | none=>rw [e] at hn; simp at hn
  | some kd=>
   have hm:=mem_of_lookup e
   rcases hnames _ hm with h1 | h1 | h1 | h1
   ·rw [e,show kd=_ from h1.1] at hn; simp at hn
   ·dsimp only at h1; rw [e,h1] at hn; simp at hn
   ·revert h1; intro HS
    refine ae (HS) fun h1 h2=>?_
    try clear HS
    dsimp only at h1 h2
    (clear hm; subst h2)
    exact hx (by rw [e,h1])
   ·revert h1; intro Hy
    refine ae (Hy) fun h1 h2=>?_
    try clear Hy
    dsimp only at h1 h2
    (clear e; subst h1)
    refine ai (X.eok.cells n h2) fun c hcc=>?_
    exact ⟨c,by rw [hc n hm,hcc]⟩
 ·unfold upd at hp
  by_cases hy:y=x
  ·(clear hnames hsc htg hx; subst hy)
   rw [if_pos rfl] at hp
   (have oc:=Option.some.inj hp; clear hp; subst oc)
   exact (aO v as hv ⟨hr,hz⟩ has)
  ·rw [if_neg hy] at hp
   have hk':=oV hvk
   rw [hkd] at hk'
   have hdot:Str.ofString y≠Str.ofString ".0" := by
    unfold varK at hvk
    intro e
    rw [e] at hvk
    simp at hvk
   cases e:sc.names.lookup (Str.ofString y) with
   | none=>rw [e] at hk'; simp at hk'
   | some kd=>
    have hm:=mem_of_lookup e
    rcases hnames _ hm with h1 | h1 | h1 | h1
    ·exact absurd h1.2 (by
      rintro (h2 | h2)
      ·exact hy (cC h2)
      ·exact hdot h2)
    ·dsimp only at h1; rw [e,h1] at hk'; simp at hk'
    ·exact absurd (cC h1.2) hy
    ·revert h1; intro HM
     refine ae (HM) fun h1 h2=>?_
     try clear HM
     dsimp only at h1 h2
     subst h1
     have hvo:varK env.scope.names y=true:=by
      unfold varK
      rw [Bool.and_eq_true]
      refine ⟨by simpa using hdot,?_⟩
      rcases h2 with h2 | h2<;>rw [h2]
     refine aA (X.vars y p hp hvo) fun v' as' a1 a2 a3=>?_
     refine (aO v' as' ?_ (a2.k kp) (fun a ha=>hP a (a3 a ha) (a2.there a ha)))
     cases a1 with
     | loc m b1 b2 b3=>exact absurd b1 (by unfold Env.kindOf; rcases h2 with h2 | h2<;>rw [h2]<;>simp)
     | cell c b1 b2 b3=>
      refine .cell c ?_ (by rw [hc _ hm,b2]) (iS b3 kp)
      rw [hkd,e]
      rcases h2 with h2 | h2<;>rw [h2]<;>simp
noncomputable def Tgt (cenv:Env) (X:Str) (T:Addr) (h:Heap):Prop :=
 (∃ m,h.Ns cenv.locals m)/\((cenv.kindOf X=some .local/\T=cenv.locals)\/(cenv.kindOf X=some .cell/\cenv.cells.lookup X=some T/\T≠cenv.locals/\∃ v₀,h.IsCell T v₀))
theorem Tgt.at {cenv:Env}{X:Str}{T:Addr}{h h':Heap}(t:Tgt cenv X T h) (k1:∀ o,h.get? T=some o->h'.get? T=some o) (k2:∀ o,h.get? cenv.locals=some o->h'.get? cenv.locals=some o):Tgt cenv X T h':=by
 revert t; intro HN
 refine ae (HN) fun G6 t=>?_
 try clear HN
 refine ai (G6) fun m hm=>?_
 try clear G6
 refine ⟨⟨m,hm.at' k2⟩,t.imp id fun t=>?_⟩
 refine cJ (t) fun a b c Hq=>?_
 try clear t
 refine av (Hq) fun v₀ o e d=>?_
 try clear Hq
 exact (cS a b c (aB v₀ o (k1 _ e) d))
theorem Tgt.onK {cenv:Env}{X:Str}{T:Addr}{h h':Heap}(t:Tgt cenv X T h) (k:K h h'):Tgt cenv X T h':=by
 revert t; intro Jb
 refine ae (Jb) fun G7 t=>?_
 try clear Jb
 refine ai (G7) fun m hm=>?_
 try clear G7
 refine ⟨⟨m,eS hm k⟩,t.imp id fun t=>?_⟩
 refine cJ (t) fun a b c Hv=>?_
 try clear t
 refine ai (Hv) fun v₀ d=>?_
 try clear Hv
 exact (cS a b c (bI v₀ (iS d k)))
theorem Tgt.nostay {cenv:Env}{X:Str}{T:Addr}{h:Heap}(t:Tgt cenv X T h) (o:Obj) (e:h.get? T=some o):¬ Stay o:=by
 revert t; intro JB
 refine ae (JB) fun G8 t=>?_
 try clear JB
 refine jz (G8) fun m o' es ep e' hd _=>?_
 try clear G8
 rcases t with t | t
 ·rw [t.2,e'] at e; (have oc:=Option.some.inj e; clear e; subst oc); exact Stay.not_data (fun uu q=>by rw [hd] at q; cases q) fun uu uu q=>by rw [hd] at q; cases q
 ·refine cJ (t) fun uu uu uu Hr=>?_
  try clear t
  refine av (Hr) fun v₀ o'' e'' hd'=>?_
  try clear Hr
  rw [e''] at e; (have oc:=Option.some.inj e; clear e; subst oc); exact Stay.not_data (fun uu q=>by rw [hd'] at q; cases q) fun uu uu q=>by rw [hd'] at q; cases q
theorem Tgt.noseq {cenv:Env}{X:Str}{T:Addr}{h:Heap}(t:Tgt cenv X T h) (o:Obj) (e:h.get? T=some o) (vs:Array Value) (n:Nat):o.data≠.seq vs n:=by
 revert t; intro Jp
 refine ae (Jp) fun G9 t=>?_
 try clear Jp
 refine jz (G9) fun m o' es ep e' hd _=>?_
 try clear G9
 intro q
 rcases t with t | t
 ·rw [t.2,e'] at e; (have oc:=Option.some.inj e; clear e; subst oc); rw [hd] at q; cases q
 ·refine cJ (t) fun uu uu uu Hw=>?_
  try clear t
  refine av (Hw) fun v₀ o'' e'' hd'=>?_
  try clear Hw
  rw [e''] at e; (have oc:=Option.some.inj e; clear e; subst oc); rw [hd'] at q; cases q
theorem tH {A:Around}{cenv:Env}{X:Str}{px:Pos}{T:Addr}{v:Value}{s:Shared}{Q:Unit->Shared->Prop}{Er:Value->Shared->Prop}(hk:cenv.scope.kind = .function) (t:Tgt cenv X T s.heap)
  (h:∀ h' tk,Heap.SameBut T s.heap h'->Tgt cenv X T h'->VarIs h' cenv X v->Q () {s with heap:=h',toks:=tk }):wpAny (model prog w) A (assign (.Name X px) cenv v) Q Er s:=by
 revert t; intro Ib
 refine ae (Ib) fun Ha t=>?_
 try clear Ib
 refine ai (Ha) fun m hm=>?_
 try clear Ha
 rcases t with ⟨t1,rfl⟩ | ⟨t1,t2,t3,v₀,t4⟩
 ·exact wpAny_assign_Name (wpAny_storeName_local t1 hm (fun h' hn hs=>h h' _ hs ⟨⟨_,hn⟩,.inl ⟨t1,rfl⟩⟩ (.loc _ t1 hn (by simp))) (by rw [hk]; rfl))
 ·exact wpAny_assign_Name (wpAny_storeName_cell hk t1 t2 t4 fun h' hn hs=>h h' s.toks hs ⟨⟨m,hm.sameBut hs (Ne.symm t3)⟩,.inr (cS t1 t2 t3 (bI _ hn))⟩ (.cell T (.inl t1) t2 hn))
noncomputable def CI (f:PyData->Out (Option (V×Mode))) (x:String) (cenv:Env) (P:Addr->Prop) (s s₃:Shared) (ds:List PyData) (res:List PyData×Bool) (D T:Addr) (wr:List Addr) (St:Nat->Heap->Prop) (n:Nat) (s':Shared):Prop :=
 ∃ (h:Heap) (tk:Nat) (j:Nat) (vs:List Value) (ys:List PyData) (as:List Addr) (zs:List PyData) (dp b':Bool),s' = {s₃ with heap:=h,toks:=tk }/\St j h/\j≤ds.length/\n=ds.length+1-j/\h.PlainList D vs.toArray/\RA h vs ys as/\(∀ y∈ys,sz y=true)/\ys.length≤j /\
   (∀ a∈as,a≠D/\(P a\/s.heap.get? a=none))/\(dp=true->(∀ a∈as,s.heap.get? a=none)/\as.Nodup)/\Tgt cenv (Str.ofString x) T h/\KG (fun b=>b∉D::T::wr) s₃.heap h /\
   bz f (ds.drop j) = .ok (zs,b')/\res=(ys++zs,dp&&b')
set_option maxHeartbeats 2000000 in
theorem sK {f:PyData->Out (Option (V×Mode))}{x:String}{px:Pos}{elt iter:Expr}{ifs:List Expr}{sc:Scope}{pos:Pos}{A:Around}{cenv:Env}{P:Addr->Prop}{s s₃:Shared}{Rr:Result->Shared->Prop}
  {ds:List PyData}{res:List PyData×Bool}{I D T:Addr}{fp wr F:List Addr}{Pw:Nat->Value->Prop}{St:Nat->Heap->Prop}
  (W:Walks prog w A I fp wr ds.length Pw St) (hst:St 0 s₃.heap) (hk:cenv.scope.kind = .function) (ks:K s.heap s₃.heap)
  (hwr:∀ b∈wr,s.heap.get? b=none/\b∉F/\∀ i h,St i h->∃ o,h.get? b=some o/\(hardB o=true/\o.cls≠.type "code" /\ ∀ C,o.cls≠.ref C)/\∃ fs,o.data = .fields fs) (hFl:∀ b∈F,∃ vs n,s₃.heap.get? b=some ⟨.type "list", none,.seq vs n,#[]⟩) (hfp:∀ b∈fp,b∈wr\/b∈F)
  (hPw:∀ i v,Pw i v->∀ d,ds[i]? = some d->∃ bs,R s₃.heap v d bs/\∀ b∈bs,b∈F) (hFP:∀ a∈F,P a\/s.heap.get? a=none)
  (hFo:∀ b∈F,b≠D/\b≠T/\b≠cenv.locals) (hwo:∀ b∈wr,b≠D/\b≠T/\b≠cenv.locals) (hDT:D≠T) (hDL:D≠cenv.locals) (fD:s.heap.get? D=none) (fT:s.heap.get? T=none)
  (hsm:ds.length≤2^22/\∀ d∈ds,sz d=true) (hres:bz f ds = .ok res) (hD:s₃.heap.PlainList D #[]) (hT:Tgt cenv (Str.ofString x) T s₃.heap)
  (step:∀ d r,f d = .ok r->sz d=true->∀ {s₄:Shared}{Q₁:Shared->Prop}{Q₂:Value->Shared->Prop}{Er':Value->Shared->Prop}(v:Value) (bs:List Addr),VarIs s₄.heap cenv (Str.ofString x) v->R s₄.heap v d bs->(∀ b∈bs,(P b\/s.heap.get? b=none)/\b≠D)->K s.heap s₄.heap ->
   (r=none->∀ s₅,Kp s₄ s₅->Q₁ s₅)->(∀ y,r=some y->∀ u s₅,EP (fun b=>(P b\/s.heap.get? b=none)/\b≠D) s₄ y u s₅->Q₂ u s₅) ->
   wpAny (model prog w) A (forIn ifs true fun c r=>if r=true then do let ok ← isTrue c cenv (eval c cenv); pure (ForInStep.yield ok) else pure (ForInStep.yield r)) (fun ok s₅=>if ok=true then wpAny (model prog w) A (eval elt cenv) Q₂ Er' s₅ else Q₁ s₅) Er' s₄)
  (hR:∀ h tk vs as,h.PlainList D vs.toArray->RA h vs res.1 as->(∀ y∈res.1,sz y=true)->res.1.length≤2^22->(∀ a∈as,a≠D/\(P a\/s.heap.get? a=none))->(res.2=true->(∀ a∈as,s.heap.get? a=none)/\as.Nodup)->(∃ m,h.Ns cenv.locals m) ->
   K s.heap h->Rr (.ok .next) {s₃ with heap:=h,toks:=tk }) :
  codeAny (model prog w) A (.compLoop (.ListComp elt [⟨.Name (Str.ofString x) px,iter,ifs,0⟩] sc pos) 0 (.ref I) (.ref D) cenv) Rr s₃:=by
 have offw:∀ i h as,St i h->Off h as wr:=fun i h as hs b hb o e=>by
  refine ao ((hwr b hb).2.2 i h hs) fun o' e' _ HD=>?_
  refine ai (HD) fun fs q=>?_
  try clear HD
  rw [e] at e'; (have oc:=Option.some.inj e'; clear e'; subst oc); exact .inl fun vs n q'=>by rw [q] at q'; cases q'
 have offT:∀ h as,Tgt cenv (Str.ofString x) T h->Off h as [T]:=fun h as t b hb o e=>by
  rw [List.mem_singleton.mp hb] at e
  exact .inl (t.noseq o e)
 have offD:∀ h as vs,Heap.PlainList h D vs->(∀ a∈as,a≠D)->Off h as [D]:=fun h as vs t hn b hb o e=>by
  rw [List.mem_singleton.mp hb] at e ⊢
  revert t; intro IM
  refine ai (IM) fun n t=>?_
  try clear IM
  rw [t] at e; (have oc:=Option.some.inj e; clear e; subst oc)
  exact .inr ⟨by simp,fun hm=>hn D hm rfl⟩
 have notw:∀ i h,St i h->∀ b∈wr,∀ o,h.get? b=some o->¬ Stay o:=fun i h hs b hb o e=>by
  refine ao ((hwr b hb).2.2 i h hs) fun o' e' Hc HF=>?_
  refine ai (HF) fun fs q=>?_
  try clear HF
  refine ae (Hc) fun uu hc=>?_
  try clear Hc
  rw [e] at e'; (have oc:=Option.some.inj e'; clear e'; (clear uu; subst oc))
  exact fun x=>x.elim (fun x=>hc.1 x.1) fun x=>let ⟨_,vs,n,e⟩:=x; by rw [q] at e; cases e
 have outs:∀ b o,s.heap.get? b=some o->b∉D::T::wr:=fun b o e hb=>by
  rcases List.mem_cons.mp hb with rfl | hb
  ·rw [fD] at e; exact nN e
  rcases List.mem_cons.mp hb with rfl | hb
  ·rw [fT] at e; exact nN e
  ·rw [(hwr b hb).1] at e; exact nN e
 have outF:∀ b∈F,b∉D::T::wr:=fun b hF hb=>by
  rcases List.mem_cons.mp hb with rfl | hb
  ·exact (hFo _ hF).1 rfl
  rcases List.mem_cons.mp hb with rfl | hb
  ·exact (hFo _ hF).2.1 rfl
  ·exact (hwr b hb).2.1 hF
 refine codeAny_compLoop_tests
  (CI f x cenv P s s₃ ds res D T wr St) ?_ (ds.length+1)
  (pF s₃.heap s₃.toks 0 ([]) ([]) ([]) res.1 true res.2 rfl hst (Nat.zero_le _) rfl hD .nil (fun uu h=>(nomatch h)) (Nat.le_refl _) (fun uu h=>(nomatch h)) (fun uu=>⟨fun uu h=>(nomatch h),.nil⟩) hT KG.refl (by simpa using hres) (by simp))
 intro n s' Hd
 refine AC (Hd) fun h tk j vs ys as zs dp b' Hf hst' hj Hk hD' hra hys hyl has hdp hT' hkp hcl hrs=>?_
 try clear Hd
 subst Hf
 subst Hk
 have hDw:D∉wr:=fun h=>(hwo D h).1 rfl
 have hTw:T∉wr:=fun h=>(hwo T h).2.1 rfl
 have hLw:cenv.locals∉wr:=fun h=>(hwo _ h).2.2 rfl
 have kps:K s.heap h:=ks.step hkp outs
 by_cases hlt:j<ds.length
 ·obtain ⟨d,hd⟩:∃ d,ds[j]? = some d:=⟨_,List.getElem?_eq_getElem hlt⟩
  have hdd:ds.drop j=d::ds.drop (j+1):=by
   rw [List.drop_eq_getElem_cons hlt]
   rw [List.getElem?_eq_getElem hlt] at hd
   (have oc:=Option.some.inj hd; clear hd; subst oc); rfl
  rw [hdd] at hcl
  refine aA (sk hcl) fun r q' hf hq hcase=>?_
  refine W.item j _ _ _ hlt hst' fun v h₁ tk₁ hPv hst₁ hk₁=>?_
  have hk₁':∀ b o,b∉wr->h.get? b=some o->h₁.get? b=some o:=hk₁
  refine tH hk (hT'.at (fun o e=>hk₁' _ o hTw e) fun o e=>hk₁' _ o hLw e) fun h₂ tk₂ hs₂ hT₂ hv₂=>?_
  have hs₂':∀ b o,b∉[T]->h₁.get? b=some o->h₂.get? b=some o:=fun b o hb e=>hs₂.extBut b o (fun q=>hb (by simp [q])) e
  have hst₂:St (j+1) h₂:=W.frame _ _ _ hst₁ fun b hb o e=>hs₂' b o (fun q=>by
   rw [List.mem_singleton.mp q] at hb
   rcases hfp _ hb with hb | hb
   ·exact hTw hb
   ·exact (hFo _ hb).2.1 rfl) e
  have hra₂:RA h₂ vs ys as:=(hra.off (offw j h as hst') hk₁').off (offT h₁ as (hT'.at (fun o e=>hk₁' _ o hTw e) fun o e=>hk₁' _ o hLw e)) hs₂'
  have kT:KG (fun b=>b∉[T]) h₁ h₂:=.ofW hs₂' fun b hb o e=>by
   rw [List.mem_singleton.mp hb] at e
   exact (hT'.at (fun o e=>hk₁' _ o hTw e) fun o e=>hk₁' _ o hLw e).nostay o e
  have hkp₂:KG (fun b=>b∉D::T::wr) s₃.heap h₂:=(hkp.trans ((KG.ofW hk₁' (notw j h hst')).mono fun b hb q=>hb (by simp [q]))).trans (kT.mono fun b hb q=>hb (by rw [List.mem_singleton.mp q]; simp))
  refine af (hPw j v hPv d hd) fun bs hrv hbs=>?_
  have hrv₂:R h₂ v d bs:=hrv.onG hkp₂ fun b hb=>outF b (hbs b hb)
  have kps₂:K s.heap h₂:=ks.step hkp₂ outs
  have hfpH:∀ b∈fp,∀ o,h₂.get? b=some o->hardB o=true:=fun b hb o e=>by
   rcases hfp b hb with hb | hb
   ·refine ao ((hwr b hb).2.2 _ _ hst₂) fun o' e' Hi _=>?_
    refine ae (Hi) fun hh _=>?_
    try clear Hi
    rw [e] at e'; (have oc:=Option.some.inj e'; clear e'; subst oc); exact hh
   ·refine bg (hFl b hb) fun vs' n' e'=>?_
    rw [hkp₂.hard (.inl (outF b hb)) e' rfl] at e
    (have oc:=Option.some.inj e; clear e; subst oc); rfl
  have hD₂:h₂.PlainList D vs.toArray:=(hD'.at fun o e=>hk₁' _ o hDw e).at fun o e=>hs₂' _ o (by simpa using hDT) e
  have hzd:sz d=true:=hsm.2 d (List.mem_of_getElem? hd)
  refine step d r hf hzd (s₄:={s₃ with heap:=h₂,toks:=tk₂ }) v bs hv₂ hrv₂ (fun b hb=>⟨hFP b (hbs b hb),(hFo b (hbs b hb)).1⟩) kps₂ (fun hr s₅ k₅=>?_) fun y hy u s₅ E₅=>?_
  ·(clear hf; subst hr)
   refine av (k₅) fun h₅ tk₅ Hs hk₅=>?_
   try clear k₅
   subst Hs
   rcases hcase with ⟨_,hcase⟩ | ⟨_,_,hcase,_⟩
   ·subst hcase
    refine (ah (ds.length+1-(j+1)) (by exact qX hlt) (pF h₅ tk₅ (j+1) vs ys as zs dp b' rfl (W.frame _ _ _ hst₂ fun b hb o e=>hk₅.get e (hfpH b hb o e)) hlt rfl (ai (hD₂) fun n e=>⟨n,hk₅.get e rfl⟩) (hra₂.k hk₅) hys (by exact Nat.le_succ_of_le (by assumption)) has hdp (hT₂.onK hk₅) (hkp₂.trans (hk₅.mono fun uu uu=>trivial)) hq hrs))
   ·exact nN hcase
  ·obtain ⟨Ht,bs',hrv₅,hb1,hb2,hb3⟩:=E₅
   refine av (Ht) fun h₅ tk₅ Hu hk₅=>?_
   try clear Ht
   subst Hu
   dsimp only at hk₅ hrv₅ hb1 hb2 hb3
   rcases hcase with ⟨hcase,_⟩ | ⟨z,m,hcase,hq2⟩
   ·rw [hy] at hcase; exact nM hcase
   ·rw [hy] at hcase; (have oc:=Option.some.inj hcase; clear hcase; (clear hb2 hy; subst oc))
    revert hrv₅; intro Jn
    refine ae (Jn) fun hrv₅ hz₅=>?_
    try clear Jn
    have hD₅:h₅.PlainList D vs.toArray:=ai (hD₂) fun n e=>⟨n,hk₅.get e rfl⟩
    have hbD:∀ a∈bs',a≠D:=fun a ha q=>by
     rcases hb1 a ha with h | h
     ·exact h.2 q
     ·refine ai (hD₂) fun n e=>?_
      try clear hD₂
      rw [q,e] at h; exact nM h
    have hra₅:=(hra₂.k hk₅).append (.cons hrv₅ .nil)
    have hl:vs.length=ys.length:=hra.length
    refine wpAny_list_append_plain (hsz:=by rw [List.size_toArray,hl]; unfold sizeLine; exact DF hsm hyl hlt) hD₅ fun h₆ hl₆ hs₆=>?_
    have hs₆':∀ b o,b∉[D]->h₅.get? b=some o->h₆.get? b=some o:=fun b o hb e=>hs₆.extBut b o (fun q=>hb (by simp [q])) e
    have hne:∀ a∈as++(bs'++[]),a≠D:=fun a ha=>by
     rcases List.mem_append.mp ha with ha | ha
     ·exact (has a ha).1
     ·exact hbD a (by simpa using ha)
    cases hq2
    refine (ah (ds.length+1-(j+1)) (by exact qX hlt) (pF h₆ tk₅ (j+1) (vs++[u]) (ys++[z]) (as++(bs'++[])) q'.1 (dp&&decide (m = .deep)) q'.2 rfl ?_ hlt rfl ?_ (hra₅.off (offD h₅ _ _ hD₅ hne) hs₆') ?_ ?_ ?_ ?_ ?_ ?_ ?_ ?_))
    ·refine W.frame _ _ _ hst₂ fun b hb o e=>hs₆' b o (fun q=>?_) (hk₅.get e (hfpH b hb o e))
     rw [List.mem_singleton.mp q] at hb
     rcases hfp _ hb with hb | hb
     ·exact hDw hb
     ·exact (hFo _ hb).1 rfl
    ·simpa using hl₆
    ·intro y hy'
     rcases List.mem_append.mp hy' with h | h
     ·exact hys y h
     ·rw [List.mem_singleton.mp h]; exact hz₅
    ·rw [List.length_append,List.length_singleton]; exact nJ hyl
    ·intro a ha
     refine ⟨hne a ha,?_⟩
     rcases List.mem_append.mp ha with ha | ha
     ·exact (has a ha).2
     ·rcases hb1 a (by simpa using ha) with h | h
      ·exact h.1
      ·right
       cases e:s.heap.get? a with
       | none=>rfl
       | some o=>obtain ⟨_,e'⟩:=kps₂.there e; rw [e'] at h; exact nM h
    ·intro hdm
     simp only [Bool.and_eq_true,decide_eq_true_eq] at hdm
     refine ae (hdm) fun hd1 hd2=>?_
     try clear hdm
     refine ae (hdp hd1) fun g1 g2=>?_
     refine ae (hb3 hd2) fun g3 g4=>?_
     refine ⟨fun a ha=>?_,?_⟩
     ·rcases List.mem_append.mp ha with ha | ha
      ·exact g1 a ha
      ·have h:=g3 a (by simpa using ha)
       cases e:s.heap.get? a with
       | none=>rfl
       | some o=>obtain ⟨_,e'⟩:=kps₂.there e; rw [e'] at h; exact nM h
     ·rw [List.append_nil,List.nodup_append]
      refine ⟨g2,g4,fun a ha b hb q=>?_⟩
      subst q
      refine bg (hra₂.there a ha) fun uu uu e=>?_
      rw [g3 a hb] at e; exact nN e
    ·exact (hT₂.onK hk₅).at (fun o e=>hs₆' _ o (by simpa using Ne.symm hDT) e) fun o e=>hs₆' _ o (by simpa using Ne.symm hDL) e
    ·refine (hkp₂.trans (hk₅.mono fun uu uu=>trivial)).trans ((KG.ofW hs₆' fun b hb o e=>?_).mono fun b hb q=>hb (by rw [List.mem_singleton.mp q]; simp))
     refine ai (hD₅) fun n e₅=>?_
     try clear hD₅
     rw [List.mem_singleton.mp hb,e₅] at e
     (have oc:=Option.some.inj e; clear e; subst oc)
     exact Stay.not_cls (by simp) (by simp)
    ·exact hq
    ·rw [hrs]; simp [Bool.and_assoc]
 ·have hjl:j=ds.length:=by exact xu hj hlt
  (clear hj hlt; subst hjl)
  rw [List.drop_length] at hcl
  cases hcl
  refine W.done _ _ _ hst' fun h₁ tk₁ hk₁=>?_
  have hk₁':∀ b o,b∉wr->h.get? b=some o->h₁.get? b=some o:=hk₁
  have e1:res=(ys,dp):=by rw [hrs]; simp
  (clear hres hrs; subst e1)
  refine hR h₁ tk₁ vs as (hD'.at fun o e=>hk₁' _ o hDw e) (hra.off (offw _ h as hst') hk₁') hys (Nat.le_trans hyl hsm.1) has hdp ((hT'.at (fun o e=>hk₁' _ o hTw e) fun o e=>hk₁' _ o hLw e).1) (kps.step (KG.ofW hk₁' (notw _ h hst')) fun b o e q=>by rw [(hwr b q).1] at e; cases e)
end
end Mine
namespace Mine
open PySem PyProof.Rows
section
variable {fns:Fns}{k:Nat}{C:Calls}{XP:String->Shared->Value->Shared->Prop}
theorem l8 {ns:List (Str×NameKind)}{it:It}{ex:Expr}(ok:gj ns it ex=true) (env:Env) (v:Value):foldedSetIterable ex env v=pure v:=by
 cases ex with
 | Set es p=>
  cases it with
  | e a=>exfalso; cases a<;>exact Bool.noConfusion (show false=true from ok)
  | r1 n=>exact Bool.noConfusion (show false=true from ok)
  | r2 a b=>exact Bool.noConfusion (show false=true from ok)
 | _=>rfl
set_option maxHeartbeats 1000000 in
theorem eY {RR:Value->Addr->Result->Shared->Prop}{f:PyData->Out (Option (V×Mode))}{x:String}{px:Pos}{elt iter:Expr}{ifs:List Expr}{sc:Scope}{pos:Pos}{A:Around}{env:Env}{σ:St}{P:Addr->Prop}{s:Shared}{Er:Value->Shared->Prop}
  {ds:List PyData}{res:List PyData×Bool}(hsc:gg env.scope.names sc x=true) (X:Cx fns k A P s.heap env σ) (hres:bz f ds = .ok res)
  (step:∀ d r,f d = .ok r->∀ {cenv:Env}{s₃:Shared}{P':Addr->Prop}{Q₁:Shared->Prop}{Q₂:Value->Shared->Prop}{Er':Value->Shared->Prop},cenv.scope.names=eT env.scope.names sc.names->Cx fns k A P' s₃.heap cenv (upd σ x (mk (.d d))) ->
   (r=none->∀ s₄,Kp s₃ s₄->Q₁ s₄)->(∀ y,r=some y->∀ v s₄,EP P' s₃ y v s₄->Q₂ v s₄) ->
   wpAny (model prog w) A (forIn ifs true fun c r=>if r=true then do let ok ← isTrue c cenv (eval c cenv); pure (ForInStep.yield ok) else pure (ForInStep.yield r)) (fun ok s₄=>if ok=true then wpAny (model prog w) A (eval elt cenv) Q₂ Er' s₄ else Q₁ s₄) Er' s₃)
  {m:Mode}{i:Value}{s₂:Shared}(I:ItP A P s ds m i s₂)
  (hR:∀ D C h tk m,EP P s (.d (.list res.1),if res.2 then .deep else .top) (.ref D) {s₂ with heap:=h,toks:=tk }->h.Ns C m->s.heap.get? C=none->RR (.ref D) C (.ok .next) {s₂ with heap:=h,toks:=tk }) {cl:List (Str×Addr)}(hcl:∀ n,(n,NameKind.free)∈sc.names->cl.lookup n=env.cells.lookup n) :
  wpAny (model prog w) A (newObj (.type "list") (.seq #[]) none) (fun acc s₃=>
   wpAny (model prog w) A (newFunctionEnv sc env.globals cl [] env.qual none .none (some env)) (fun cenv s₄=>
    codeAny (model prog w) A (.compStart (.ListComp elt [⟨.Name (Str.ofString x) px,iter,ifs,0⟩] sc pos) 0 i acc {cenv with scope:=relabel sc env }) (RR acc cenv.locals) s₄) Er s₃) Er s₂:=by
 refine cJ (gW hsc) fun hk hnd htg hnames=>?_
 obtain ⟨kp₂,G4,hsm⟩:=I
 refine uC (G4) fun I fp wr Pw St F G5 W hst hwr hfp hPw hF hFP _=>?_
 try clear G4
 subst G5
 refine wpAny_newObj_type (zH fun h₃ eh₃=>?_)
 have hsz:(s₂.heap.push {cls:=.type "list", data:=.seq #[] }).objs.size=s₂.heap.objs.size+1:=Heap.size_push ..
 dsimp only at eh₃ ⊢
 rw [hsz]
 generalize hD:s₂.heap.objs.size=D at *
 obtain ⟨c1,c2,c3⟩:=iJ (X:=Str.ofString x) sc.names ((s₂.heap.push {cls:=.type "list", data:=.seq #[] }).push {cls:=.type "dict", data:=.dict #[] }) cl (fun p hp e=>by
  rcases hnames p hp with h | h | h | h
  ·rw [h.1] at e; cases e
  ·rw [h] at e; cases e
  ·exact h.2
  ·rw [h.1] at e; cases e) hnd
 rw [Heap.size_push,hsz] at c1 c2 c3
 rw [← eh₃] at c2
 have hn₂:∀ b o,s₂.heap.get? b=some o->h₃.get? b=some o:=fun b o e=>by
  rw [eh₃]; exact pushCells_keeps _ _ _ _ (Heap.get?_push_of_some _ (Heap.get?_push_of_some _ e))
 have hD₃:h₃.PlainList D #[]:=⟨0,by rw [eh₃]; exact pushCells_keeps _ _ _ _ (Heap.get?_push_of_some _ (hD▸Heap.get?_push_size _ rfl))⟩
 have hL₃:h₃.Ns (D+1) (fun uu=>none):=by
  have:=Heap.Ns.new (s₂.heap.push {cls:=.type "list", data:=.seq #[] }) (.type "dict")
  rw [hsz] at this
  rw [eh₃]
  exact this.keeps (pushCells_keeps _ _)
 have old:∀ b,(∃ o,s₂.heap.get? b=some o)->b<D:=fun b ⟨o,e⟩=>hD▸Heap.lt_size e
 have fresh':∀ b,D≤b->s.heap.get? b=none:=fun b hb=>by
  cases e:s.heap.get? b with
  | none=>rfl
  | some o=>exact absurd (old b (kp₂.k.there e)) (Nat.not_lt.mpr hb)
 obtain ⟨T,hT,hTD,hkc⟩:∃ T,Tgt {scope:=relabel sc env,locals:=D+1,globals:=env.globals,cells:=cellsFrom (D+1+1) sc.names cl,qual:=env.qual,func:=none,code:=env.code,frame:=env.frame,builtins:=env.builtins } (Str.ofString x) T h₃/\D+1≤T /\
   (sc.names.lookup (Str.ofString x)=some .cell->(cellsFrom (D+1+1) sc.names cl).lookup (Str.ofString x)=some T):=by
  have hkd:(relabel sc env).names.lookup (Str.ofString x)=(sc.names.lookup (Str.ofString x)).map fun kd=>if kd == .free&&env.scope.names.lookup (Str.ofString x)==some .cell then .cell else kd:=by
   rw [eU X.eok.kind]; exact gh
  rcases htg with ht | ht
  ·refine (aC (D+1) ⟨⟨_,hL₃⟩,.inl ⟨?_,rfl⟩⟩ (Nat.le_refl _) (fun q=>?_))
   ·show (relabel sc env).names.lookup _=_
    rw [hkd,ht]; rfl
   ·rw [ht] at q; cases q
  ·refine ao (c2 ht) fun c g1 g2 g3=>?_
   refine (aC c ⟨⟨_,hL₃⟩,.inr (cS ?_ g1 ?_ (bI _ g2))⟩ (Nat.le_of_succ_le g3) (fun uu=>g1))
   ·show (relabel sc env).names.lookup _=_
    rw [hkd,ht]; rfl
   ·exact Nat.ne_of_gt g3
 have hst₃:St 0 h₃:=W.frame _ _ _ hst fun b _ o e=>hn₂ b o e
 refine codeAny_compStart_list ?_ ?_
 all_goals
  first
  | (refine W.self 0 _ _ _ hst₃ ?_)
  | skip
 all_goals
  refine sK (s:=s) (P:=P) (T:=T) W hst₃ hk (KG.trans kp₂.k (K.of hn₂)) hwr (fun b hb=>bg (hF b hb) fun vs n e=>(bD vs n (hn₂ _ _ e))) hfp (fun i v hv d hd=>af (hPw i v hv d hd) fun bs h1 h2=>(ah bs (h1.keep hn₂) h2)) hFP (fun b hb=>?_) (fun b hb=>?_) (Nat.ne_of_lt hTD) (Nat.ne_of_lt (Nat.lt_succ_self D)) (fresh' D (Nat.le_refl _)) (fresh' T (Nat.le_of_succ_le hTD)) hsm hres hD₃ hT ?_ ?_
  ·refine bg (hF b hb) fun uu uu e=>?_
   have:=old b ⟨_,e⟩
   exact ⟨Nat.ne_of_lt this,Nat.ne_of_lt (Nat.lt_of_lt_of_le this (Nat.le_of_succ_le hTD)),Nat.ne_of_lt (Nat.lt_succ_of_lt this)⟩
  ·refine af ((hwr b hb).2.2 0 _ hst) fun o e _=>?_
   have:=old b ⟨_,e⟩
   exact ⟨Nat.ne_of_lt this,Nat.ne_of_lt (Nat.lt_of_lt_of_le this (Nat.le_of_succ_le hTD)),Nat.ne_of_lt (Nat.lt_succ_of_lt this)⟩
  ·intro d r hf hz s₄ Q₁ Q₂ Er' v bs hv hr hbs kps h1 h2
   refine step d r hf (eU X.eok.kind) (zq hsc (eU X.eok.kind) hk rfl rfl (fun n hn=>?_) (fun q=>⟨T,hkc q⟩) rfl X kps hv hr hz hbs fun a ha hex=>⟨.inl ha,fun q=>?_⟩) h1 h2
   ·show (cellsFrom (D+1+1) sc.names cl).lookup n=_
    rw [c1 n fun q=>?_,hcl n hn]
    subst q
    have:=gY hnd hn
    rw [this] at htg
    rcases htg with q | q<;>cases q
   ·(clear h2 hD₃ hL₃ hT hTD hbs hkc hsz hv old; subst q)
    refine ai (hex) fun o e=>?_
    try clear hex
    rw [fresh' _ (Nat.le_refl _)] at e; exact nN e
  ·intro h tk vs as hp hra hys hyl has hdp hm hkp
   revert hm; intro Hy
   refine ai (Hy) fun m' hm=>?_
   try clear Hy
   refine ai (hp) fun n hpl=>?_
   try clear hp
   refine hR D (D+1) h tk m' ?_ hm (fresh' _ (Nat.le_succ D))
   refine av (kp₂) fun hh₂ tk₂ G6 hkk₂=>?_
   try clear kp₂
   (clear eh₃ hF hPw hR hn₂ hst hsz old; subst G6)
   refine ⟨(aB h tk rfl hkp),D::as,⟨.list hpl hra,sz_list.mpr ⟨hyl,hys⟩⟩,?_,?_,?_⟩
   ·intro a ha
    rcases List.mem_cons.mp ha with rfl | ha
    ·exact .inr (fresh' _ (Nat.le_refl _))
    ·exact (has a ha).2
   ·exact fun uu=>(aO D as rfl (fresh' _ (Nat.le_refl _)) (fun q=>(has D q).1 rfl))
   ·intro hm'
    dsimp only at hm'
    have hb:res.2=true:=by
     cases e:res.2 with
     | true=>rfl
     | false=>rw [e] at hm'; cases hm'
    refine ⟨fun a ha=>?_,List.nodup_cons.mpr ⟨fun q=>(has D q).1 rfl,(hdp hb).2⟩⟩
    rcases List.mem_cons.mp ha with rfl | ha
    ·exact fresh' _ (Nat.le_refl _)
    ·exact (hdp hb).1 a ha
theorem R.sameBut {h h':Heap}{C:Addr}{m:Str->Option Value}{v:Value}{d:PyData}{as:List Addr}(r:R h v d as) (hm:h.Ns C m) (hs:Heap.SameBut C h h'):R h' v d as:=by
 refine r.off (wr:=[C]) (fun b hb o e=>?_) fun b o hb e=>hs.extBut b o (fun q=>hb (by simp [q])) e
 rw [List.mem_singleton.mp hb] at e
 refine aI (hm) fun o' es ep e' hd _=>?_
 try clear hm
 rw [e'] at e; (have oc:=Option.some.inj e; clear e; subst oc)
 exact .inl fun vs n q=>by rw [hd] at q; cases q
theorem EP.sameBut {P:Addr->Prop}{s s₂:Shared}{h h':Heap}{tk:Nat}{C:Addr}{m:Str->Option Value}{d:PyData}{md:Mode}{v:Value}(E:EP P s (.d d,md) v {s₂ with heap:=h,toks:=tk }) (hm:h.Ns C m) (hC:s.heap.get? C=none) (hs:Heap.SameBut C h h') :
  EP P s (.d d,md) v {s₂ with heap:=h',toks:=tk }:=by
 obtain ⟨G7,as,G8,r1,r2,r3⟩:=E
 refine av (G7) fun hh tk' e kp=>?_
 try clear G7
 refine ae (G8) fun r z=>?_
 try clear G8
 cases s₂; cases s; cases e
 refine aI (id hm) fun o' es ep e' hd _=>?_
 refine ⟨(aB h' tk rfl (K.step kp (KG.ofW (wr:=[C]) (fun b o hb e=>hs.extBut b o (fun q=>hb (by simp [q])) e) fun b hb o e=>?_) fun b o e q=>?_)),as,⟨R.sameBut r hm hs,z⟩,r1,r2,r3⟩
 ·rw [List.mem_singleton.mp hb,e'] at e; (have oc:=Option.some.inj e; clear e; subst oc)
  exact Stay.not_data (fun uu q=>by rw [hd] at q; cases q) fun uu uu q=>by rw [hd] at q; cases q
 ·rw [List.mem_singleton.mp q,hC] at e; exact nN e
theorem mR {x:String}{px:Pos}{elt iter:Expr}{ifs:List Expr}{sc:Scope}{pos:Pos}{A:Around}{env:Env}{σ:St}{P:Addr->Prop}{s:Shared}{Q:Value->Shared->Prop}{Er:Value->Shared->Prop}{h:Heap}
  (hsc:gg env.scope.names sc x=true) (X:Cx fns k A P h env σ) (hset:∀ v,foldedSetIterable iter env v=pure v)
  (h:∀ cl:List (Str×Addr),(∀ n,(n,NameKind.free)∈sc.names->cl.lookup n=env.cells.lookup n)->wpAny (model prog w) A (eval iter env) (fun v s₁=>wpAny (model prog w) A (pyIter v) (fun i s₂=>wpAny (model prog w) A (newObj (.type "list") (.seq #[]) none) (fun acc s₃=>
   wpAny (model prog w) A (newFunctionEnv sc env.globals cl [] env.qual none .none (some env)) (fun cenv s₄=>
    codeAny (model prog w) A (.compStart (.ListComp elt [⟨.Name (Str.ofString x) px,iter,ifs,0⟩] sc pos) 0 i acc {cenv with scope:=relabel sc env }) (compPost (model prog w) A Er none Q acc cenv.locals) s₄) Er s₃) Er s₂) Er s₁) Er s) :
  wpAny (model prog w) A (eval (.ListComp elt [⟨.Name (Str.ofString x) px,iter,ifs,0⟩] sc pos) env) Q Er s:=by
 refine cJ (gW hsc) fun hk hnd htg hnames=>?_
 obtain ⟨cl,hcl,hclk⟩:=kZ (scope:=sc) (env:=env) (fun p hp e=>by
  rcases hnames p hp with h | h | h | h
  ·rw [h.1] at e; cases e
  ·rw [h] at e; cases e
  ·rw [h.1] at e; cases e
  ·exact X.eok.cells p.1 h.2)
 rw [eval_ListComp]
 exact wpAny_comprehension_free (use:=none) rfl hset hcl hk (fun y hy e=>by rw [← e]; exact gY hnd hy) (h cl hclk)
theorem eF {α:Type}{o:Out α}(h:o.calm≠.bad):∃ a,o = .ok a:=by
 cases o with
 | ok a=>exact ⟨a,rfl⟩
 | exc c=>exact absurd rfl h
 | bad=>exact absurd rfl h
theorem uV {elt:E}{x:String}{it:It}(Si:dP fns k C XP it) (Se:SimE fns k C XP elt):SimE fns k C XP (.comp elt x it):=by
 intro ex A env σ P s Q Er ok X nb hQ hE
 replace ok:=s8 ok
 revert ok; refine fun Hg=>Or.elim Hg (fun Hb=>?_) (fun ok=>?_)
 ·clear Hg
  refine nw (Hb) fun HH HV Il H7 Iw H9 Iy ok=>?_
  clear Hb
  subst Iy
  simp only [Bool.and_eq_true,beq_iff_eq] at ok
  refine ae (ok) fun G9 oe=>?_
  try clear ok
  refine ae (G9) fun Ha oi=>?_
  try clear G9
  refine ae (Ha) fun Hc hsc=>?_
  try clear Ha
  subst Hc
  simp only [gZ] at nb hQ hE
  refine aR nb fun n1 n2=>?_
  refine mR hsc X (l8 oi env) fun cl hcl=>Si oi X n1 (fun q hq i s₂ I=>?_) fun c hc=>hE c (by rw [hc]; rfl)
  refine ai (eF (bf (n2 q hq)).1) fun res hres=>?_
  refine eY (RR:=fun acc C=>compPost (model prog w) A Er none Q acc C) (ds:=q.1) hsc X hres (fun d r hf cenv s₃ P' Q₁ Q₂ Er' hN X' h1 h2=>wpAny_tests_nil ?_) I (fun D C h tk m E hm hC=>(ah m hm (fun h' hs=>hQ _ (by rw [hq,Out.ok_bind,hres]; rfl) _ _ (E.sameBut hm hC hs)))) hcl
  rw [if_pos rfl]
  refine Out.bind_k hf fun y hy e=>?_
  (have oc:=Out.ok.inj e; clear e; (clear h1 hf; subst oc))
  refine Se (hN▸oe) X' (by rw [hy]; simp) (fun r hr v s' E=>h2 r (by rw [hy] at hr; (have oc:=Out.ok.inj hr; clear hr; (clear E; subst oc)); rfl) v s' E) fun c hc=>by rw [hy] at hc; cases hc
 ·cases ok
theorem su {elt c:E}{x:String}{it:It}(Si:dP fns k C XP it) (Se:SimE fns k C XP elt) (Sc:SimT fns k C XP c):SimE fns k C XP (.compif elt x it c):=by
 intro ex A env σ P s Q Er ok X nb hQ hE
 replace ok:=om ok
 revert ok; refine fun Hh=>Or.elim Hh (fun He=>?_) (fun ok=>?_)
 ·clear Hh
  refine g7 (He) fun Is Ia Id IJ IP IT IX IU ok=>?_
  clear He
  subst IU
  simp only [Bool.and_eq_true,beq_iff_eq] at ok
  refine ae (ok) fun Hd oe=>?_
  try clear ok
  refine ae (Hd) fun Hf oc=>?_
  try clear Hd
  refine ae (Hf) fun Hk oi=>?_
  try clear Hf
  refine ae (Hk) fun Hi hsc=>?_
  try clear Hk
  subst Hi
  simp only [e9] at nb hQ hE
  refine aR nb fun n1 n2=>?_
  refine mR hsc X (l8 oi env) fun cl hcl=>Si oi X n1 (fun q hq i s₂ I=>?_) fun c hc=>hE c (by rw [hc]; rfl)
  refine ai (eF (bf (n2 q hq)).1) fun res hres=>?_
  refine eY (RR:=fun acc C=>compPost (model prog w) A Er none Q acc C) (ds:=q.1) hsc X hres (fun d r hf cenv s₃ P' Q₁ Q₂ Er' hN X' h1 h2=>wpAny_tests_one ?_) I (fun D C h tk m E hm hC=>(ah m hm (fun h' hs=>hQ _ (by rw [hq,Out.ok_bind,hres]; rfl) _ _ (E.sameBut hm hC hs)))) hcl
  refine Out.bind_k hf fun t ht hf=>?_
  refine Out.bind_k hf fun b hb hf=>?_
  refine Sc (hN▸oc) X' (by rw [ht,Out.ok_bind,hb]; simp) (fun b' hb' s₄ k₄=>?_) fun c hc=>by rw [ht] at hc; cases hc
  rw [ht,Out.ok_bind,hb] at hb'
  (have oc:=Out.ok.inj hb'; clear hb'; subst oc)
  cases b with
  | false=>(have oc:=Out.ok.inj hf; clear hf; (clear h2; subst oc)); simpa using h1 rfl s₄ k₄
  | true=>
   rw [if_pos rfl] at hf ⊢
   refine Out.bind_k hf fun y hy e=>?_
   (have oc:=Out.ok.inj e; clear e; (clear h1; subst oc))
   exact Se (hN▸oe) (X'.k k₄.k) (by rw [hy]; simp) (fun r hr v s' E=>h2 r (by rw [hy] at hr; (have oc:=Out.ok.inj hr; clear hr; (clear E; subst oc)); rfl) v s' (E.after k₄)) fun c hc=>by rw [hy] at hc; cases hc
 ·cases ok
end
end Mine
namespace Mine
open PySem PyProof.Rows
theorem i0 (val:Nat->Int):∀ k,argBest (fun i j=>decide (val i>val j)) k≤k/\∀ j,j≤k->val j≤val (argBest (fun i j=>decide (val i>val j)) k)
 | 0=>⟨Nat.le_refl _,fun j hj=>by
  have:j=0:=by exact Eh hj
  (clear hj; subst this)
  exact Int.le_refl _⟩
 | k+1=>by
  refine ae (i0 val k) fun h1 h2=>?_
  unfold argBest
  by_cases hc:val (k+1)>val (argBest (fun i j=>decide (val i>val j)) k)
  ·rw [if_pos (by simpa using hc)]
   refine ⟨Nat.le_refl _,fun j hj=>?_⟩
   by_cases e:j=k+1
   ·(clear hj; subst e); exact Int.le_refl _
   ·have:=h2 j (by exact xZ hj e); exact E6 hc this
  ·rw [if_neg (by simpa using hc)]
   refine ⟨by exact Nat.le_succ_of_le (by assumption),fun j hj=>?_⟩
   by_cases e:j=k+1
   ·(clear hj; subst e); exact Dy hc
   ·exact h2 j (by exact xZ hj e)
theorem nY {ns:List Int}{m:Int}(h:iY ns=some m):ns[argBest (fun i j=>decide (ns[i]?.getD 0>ns[j]?.getD 0)) (ns.length-1)]?.getD 0=m:=by
 refine ae (i0 (fun i=>ns[i]?.getD 0) (ns.length-1)) fun h1 h2=>?_
 refine ae (mG h) fun hm1 hm2=>?_
 have hn:0<ns.length:=List.length_pos_of_mem hm1
 generalize argBest (fun i j=>decide (ns[i]?.getD 0>ns[j]?.getD 0)) (ns.length-1)=b at *
 have hb:ns[b]? = some ns[b]:=List.getElem?_eq_getElem (by exact DN hn h1)
 rw [hb]
 dsimp only [Option.getD_some]
 have le1:=hm2 ns[b] (List.getElem_mem _)
 refine ai (List.getElem_of_mem hm1) fun j Hq=>?_
 refine ai (Hq) fun hj e=>?_
 try clear Hq
 have le2:=h2 j (by exact Dj hj)
 rw [hb,List.getElem?_eq_getElem hj,e] at le2
 simp only [Option.getD_some] at le2
 exact xM le1 le2
section
variable {fns:Fns}{k:Nat}{C:Calls}{XP:String->Shared->Value->Shared->Prop}
variable {va:Value}{as:List Addr}{A:Around}{P:Addr->Prop}{s:Shared}{Q:Value->Shared->Prop}{Er:Value->Shared->Prop}
theorem y8 {vs:List Value}{ns:List Int}(h:IntsAre vs ns):∀ {i:Nat}{v:Value},vs[i]? = some v->∃ t,v = .int (ns[i]?.getD 0) t:=by
 induction h with
 | nil=>intro i v h; simp at h
 | cons n t _ ih=>
  intro i v h
  cases i with
  | zero=>simp at h; exact ⟨t,by simp [← h]⟩
  | succ i=>simpa using ih (by simpa using h)
theorem tJ {xs:List PyData}{ns:List Int}{G:Value->Shared->Prop}(hh:A.handled=none) (ra:R s.heap va (.list xs) as) (hi:aS xs=some ns)
  (hG:∀ I fp wr Pw St s₂,Walks prog w A I fp wr ns.length Pw St->St 0 s₂.heap->(∀ b∈fp,b<s₂.heap.objs.size)->(∀ i v,Pw i v->∃ t,v = .int (ns[i]?.getD 0) t)->(∀ b∈wr,s.heap.get? b=none/\∀ o,s₂.heap.get? b=some o->¬ Stay o)->Kp s s₂->G (.ref I) s₂) :
  wpAny (model prog w) A (pyIter va) G Er s:=by
 refine ra.isList_k fun a vs n cs G4 ea ra' G5=>?_
 (clear ra; subst G4)
 subst G5
 refine aD (ra'.ints hi) fun hI G6 G7=>?_
 subst G6
 subst G7
 have e:vs.toArray.size=ns.length:=by rw [List.size_toArray,ra'.length,List.length_map]
 have W:=Walks.list (prog:=prog) (w:=w) (A:=A) hh s.heap.objs.size a (ei ea) vs.toArray
 rw [e] at W
 refine wpAny_pyIter_list (isL ea) (hG _ _ _ _ _ _ W ⟨(aC _ (Heap.get?_push_size _ rfl) rfl rfl),(isL ea).push _⟩ ?_ ?_ ?_ (.push s _ _))
 ·intro b hb
  rw [show _=s.heap.objs.size+1 from Heap.size_push ..]
  rcases List.mem_cons.mp hb with rfl | hb
  ·exact Nat.lt_succ_self _
  ·rw [List.mem_singleton.mp hb]; exact Nat.lt_succ_of_lt (Heap.lt_size ea)
 ·intro i v hv
  exact y8 hI (by simpa using hv)
 ·intro b hb
  rw [List.mem_singleton.mp hb]
  refine ⟨bi _,fun o e=>?_⟩
  rw [show _=some _ from Heap.get?_push_size _ rfl] at e
  (have oc:=Option.some.inj e; clear e; subst oc)
  exact Stay.not_cls (by simp) (by simp)
theorem Kp.after {s s₂:Shared}{h':Heap}{tk:Nat}{wr:List Addr}(kp:Kp s s₂) (hwr:∀ b∈wr,s.heap.get? b=Option.none/\∀ o,s₂.heap.get? b=some o->¬ Stay o) (hk:∀ b o,b∉wr->s₂.heap.get? b=some o->h'.get? b=some o):Kp s {s₂ with heap:=h',toks:=tk }:=by
 refine av (kp) fun h t G8 k=>?_
 try clear kp
 subst G8
 exact (aB h' tk rfl (K.step k (KG.ofW hk fun b hb=>(hwr b hb).2) fun b o e hb=>by rw [(hwr b hb).1] at e; cases e))
theorem wQ {xs:List PyData}{ns:List Int}{m:Int}(hh:A.handled=none) (ra:R s.heap va (.list xs) as) (hi:aS xs=some ns) (hm:iY ns=some m) (hQ:∀ v s',EP P s (sI m) v s'->Q v s'):wpAny (model prog w) A (call (.builtin "max") [va]) Q Er s:=by
 refine call_max_walk (tJ (A:=A.in1) hh ra hi fun I fp wr Pw St s₂ W hst hfp hval hwr kp=>(AE I fp wr _ Pw St _ rfl W hst hfp (List.length_pos_of_mem (mG hm).1) (CmpOf.ints_gt _ hval) (fun v h' tk hv hk=>?_)))
 refine ai (hval _ _ hv) fun t G9=>?_
 (clear hv; subst G9)
 rw [nY hm]
 exact hQ _ _ (.int (kp.after hwr hk))
noncomputable def Isi (s:Shared) (t:String) (v:Value) (b:Bool):Prop:=∀ (A:Around) (Q:Value->Shared->Prop) (Er:Value->Shared->Prop),(∀ s',Kp s s'->Q (.bool b) s')->wpAny (model prog w) A (call (.builtin "isinstance") [v,.type t]) Q Er s
theorem iO {t:String}{f:Nat->Bool}(h0:Isi s t .none (f 0)) (h1:∀ b,Isi s t (.bool b) (f 1)) (h2:∀ i u,Isi s t (.int i u) (f 2)) (h3:∀ x u,Isi s t (.str x u) (f 3))
  (h4:∀ {a:Addr}{n:Nat}{vs:List Value},s.heap.get? a=some ⟨.type "list", none,.seq vs.toArray n,#[]⟩->Isi s t (.ref a) (f 4)) (h5:∀ {a:Addr}{n:Nat}{vs:List Value},s.heap.get? a=some ⟨.type "tuple", none,.seq vs.toArray n,#[]⟩->Isi s t (.ref a) (f 5))
  {x:PyData}(ra:R s.heap va x as):Isi s t va (f (oL x)) :=
 (R.ind (M:=fun v d _=>Isi s t v (f (oL d))) (N:=fun uu uu uu=>True) h0 h1 h2 h3 (fun e _ _=>h4 e) (fun e _ _=>h5 e) trivial fun uu uu uu uu=>trivial).1 ra
theorem wl {x:PyData}{t:String}{b:Bool}(he:lQ t (oL x)=some b) (ra:R s.heap va x as) (hQ:∀ s',Kp s s'->Q (.bool b) s'):wpAny (model prog w) A (call (.builtin "isinstance") [va,.type t]) Q Er s :=
 have k0:=Kp.refl s
 have k1:=Kp.toks s (s.toks+1)
 pe he (fun q eb=>q▸(iO (t := "int") (f:=fun k=>(k==2||k==1)) (fun A Q Er h=>IsiPair.NoneType_int (h _ k1)) (fun uu A Q Er h=>IsiPair.bool_int (h _ k0)) (fun uu vv A Q Er h=>IsiPair.int_int (h _ k0)) (fun uu vv A Q Er h=>IsiPair.str_int (h _ k1)) (fun e A Q Er h=>IsiPair.list_int e rfl (h _ k1)) (fun e A Q Er h=>IsiPair.tuple_int e rfl (h _ k1)) ra) _ _ _ (eb▸hQ))
  (fun q eb=>q▸(iO (t := "bool") (f:=fun k=>(k==1)) (fun A Q Er h=>IsiPair.NoneType_bool (h _ k1)) (fun uu A Q Er h=>IsiPair.bool_bool (h _ k0)) (fun uu vv A Q Er h=>IsiPair.int_bool (h _ k1)) (fun uu vv A Q Er h=>IsiPair.str_bool (h _ k1)) (fun e A Q Er h=>IsiPair.list_bool e rfl (h _ k1)) (fun e A Q Er h=>IsiPair.tuple_bool e rfl (h _ k1)) ra) _ _ _ (eb▸hQ))
  (fun q eb=>q▸(iO (t := "list") (f:=fun k=>(k==4)) (fun A Q Er h=>IsiPair.NoneType_list (h _ k1)) (fun uu A Q Er h=>IsiPair.bool_list (h _ k1)) (fun uu vv A Q Er h=>IsiPair.int_list (h _ k1)) (fun uu vv A Q Er h=>IsiPair.str_list (h _ k1)) (fun e A Q Er h=>IsiPair.list_list e rfl (h _ k0)) (fun e A Q Er h=>IsiPair.tuple_list e rfl (h _ k1)) ra) _ _ _ (eb▸hQ))
  (fun q eb=>q▸(iO (t := "tuple") (f:=fun k=>(k==5)) (fun A Q Er h=>IsiPair.NoneType_tuple (h _ k1)) (fun uu A Q Er h=>IsiPair.bool_tuple (h _ k1)) (fun uu vv A Q Er h=>IsiPair.int_tuple (h _ k1)) (fun uu vv A Q Er h=>IsiPair.str_tuple (h _ k1)) (fun e A Q Er h=>IsiPair.list_tuple e rfl (h _ k1)) (fun e A Q Er h=>IsiPair.tuple_tuple e rfl (h _ k0)) ra) _ _ _ (eb▸hQ))
  (fun q eb=>q▸(iO (t := "str") (f:=fun k=>(k==3)) (fun A Q Er h=>IsiPair.NoneType_str (h _ k1)) (fun uu A Q Er h=>IsiPair.bool_str (h _ k1)) (fun uu vv A Q Er h=>IsiPair.int_str (h _ k1)) (fun uu vv A Q Er h=>IsiPair.str_str (h _ k0)) (fun e A Q Er h=>IsiPair.list_str e rfl (h _ k1)) (fun e A Q Er h=>IsiPair.tuple_str e rfl (h _ k1)) ra) _ _ _ (eb▸hQ))
end
end Mine
namespace Mine
open PySem PyProof.Rows
section
variable {fns:Fns}{k:Nat}{C:Calls}{XP:String->Shared->Value->Shared->Prop}
theorem pI {c d:String}(inj:∀ c∈SF.excN,∀ c' ∈ "PickError" :: SF.excN,SF.exc c=SF.exc c'->c=c') (hc:c∈SF.excN) (hd:d∈SF.excN):(Value.ref (SF.exc c)::cD c).contains (.ref (SF.exc d))=decide (d=c\/d = "PickError"):=by
 have hb:bmV.contains (.ref (SF.exc d))=false:=by unfold bmV; simp
 by_cases h1:d=c
 ·(clear hc; subst h1); simp
 ·have n1:SF.exc d≠SF.exc c:=fun q=>h1 (inj d hd c (.tail _ hc) q)
  rw [List.contains_cons]
  have e1:(Value.ref (SF.exc d)==Value.ref (SF.exc c))=false:=by simpa using n1
  rw [e1,Bool.false_or]
  unfold cD
  by_cases h2:d = "PickError"
  ·(clear e1 hb hd n1; subst h2)
   have:c ≠ "PickError" := fun q=>h1 q.symm
   rw [if_neg this]
   simp
  ·have n2:SF.exc d≠SF.exc "PickError" := fun q=>h2 (inj d hd _ (.head _) q)
   have:decide (d=c\/d = "PickError")=false:=by simp [h1,h2]
   rw [this]
   split
   ·exact hb
   ·rw [List.contains_cons,hb,Bool.or_false]
    simpa using n2
theorem l7 {c:String}{v:Value}(h:bmV.contains v=true):(Value.ref (SF.exc c)::cD c).contains v=true:=by
 rw [List.contains_cons]
 have:(cD c).contains v=true:=by
  unfold cD
  split
  ·exact h
  ·rw [List.contains_cons,h,Bool.or_true]
 rw [this,Bool.or_true]
theorem vq {h:Heap}{c:String}(X:ExcAt h c):Quiet h (SF.exc c):=by
 obtain ⟨N,nm,q,bs,hdct,sn,sub,ab,col,dd,k0,k1,k2,k3,k5,mN,h1,h2,h3,h4,G4,G5⟩:=X
 refine dh (G4) fun o cd mN' q1 q2 q3 q4=>?_
 try clear G4
 refine dh (G5) fun o' cd' mN2 r1 r2 r3 r4=>?_
 try clear G5
 have hm:∀ n∈qn,mN n=none:=by
  rw [h1] at q1; (have oc:=Option.some.inj q1; clear q1; subst oc)
  cases q2
  have hN:mN' = mN:=q3.eq_nsMap.trans h2.eq_nsMap.symm
  rw [← hN]; exact q4
 unfold cD at h1
 by_cases hc:c = "PickError"
 ·rw [if_pos hc] at h1
  exact ud h1 h2 hm
 ·rw [if_neg hc] at h1
  obtain ⟨oc,od,odat,os⟩:=o'
  dsimp only at r2
  subst r2
  exact tD h1 h2 hm r1 r3 r4
theorem uR {s:Shared}{A:Around}{c t:String}{va:Value}{as:List Addr}{Q:Value->Shared->Prop}{Er:Value->Shared->Prop}(inj:∀ c∈SF.excN,∀ c' ∈ "PickError" :: SF.excN,SF.exc c=SF.exc c'->c=c') (X:∀ c∈SF.excN,ExcAt s.heap c) (ht:t∈SF.excN) (ra:RV s.heap va (.err c) as)
  (hQ:∀ s',Kp s s'->Q (.bool (decide (t=c\/t = "PickError"))) s'):wpAny (model prog w) A (call (.builtin "isinstance") [va,.ref (SF.exc t)]) Q Er s:=by
 refine f8 (ra) fun a o e1 _ e3 e4 e5=>?_
 try clear ra
 subst e1
 have Qc:=vq (X c e5)
 obtain ⟨N,nm,q,bs,hdct,sn,sub,ab,col,dd,k0,k1,k2,k3,k5,mN,h1,h2,_⟩:=X c e5
 obtain ⟨N',nm',q',bs',hdct',sn',sub',ab',col',dd',j0,j1,j2,j3,j5,mN',d1,_⟩:=X t ht
 refine y3 h1 (l7 (by unfold bmV; simp)) (l7 (by unfold bmV; simp)) Qc d1 e3 e4 fun t'=>?_
 rw [pI inj e5 ht]
 exact hQ _ (.toks s _)
theorem wP {s:Shared}{A:Around}{c:String}{va:Value}{as:List Addr}{Q:Value->Shared->Prop}{Er:Value->Shared->Prop}(X:∀ c∈SF.excN,ExcAt s.heap c) (ra:RV s.heap va (.err c) as)
  (hQ:Q (.bool true) s):wpAny (model prog w) A (call (.builtin "isinstance") [va,.type "ValueError"]) Q Er s:=by
 refine f8 (ra) fun a o e1 _ e3 e4 e5=>?_
 try clear ra
 subst e1
 obtain ⟨N,nm,q,bs,hdct,sn,sub,ab,col,dd,k0,k1,k2,k3,k5,mN,h1,h2,_⟩:=X c e5
 exact yI h1 (l7 (by unfold bmV; simp)) e3 e4 hQ
end
end Mine
namespace Mine
open PySem PyProof.Rows
noncomputable def rkA (rk:Keyed->Nat) (arr:Array Keyed) (i:Nat):Nat:=match arr[i]? with
 | some p=>rk p
 | none=>0
noncomputable def io (M:Model) (A:Around) (E:Value->Shared->Prop) (s:Shared) (rk:Keyed->Nat) (ok:Keyed->Prop) (κ:SortKind):Prop :=
 ∀ {x y:Keyed}{st:SortSt}{Q:Option Bool->SortSt->Prop},ok x->ok y->kindOf st=κ->Q (some (decide (rk x<rk y))) st->wpS M A E s (lt' x y) Q st
noncomputable def Up (rk:Keyed->Nat) (l:List Keyed):Prop:=l.Pairwise fun x y=>rk x≤rk y
structure Gd (rk:Keyed->Nat) (ok:Keyed->Prop) (κ:SortKind) (st:SortSt):Prop where
 ok:∀ p∈arrOf st,ok p
 kind:kindOf st=κ
noncomputable def SegUp (rk:Keyed->Nat) (arr:Array Keyed) (lo n:Nat):Prop:=∀ i j,lo≤i->i≤j->j<lo+n->rkA rk arr i≤rkA rk arr j
structure SG where
 A:Around
 E:Value->Shared->Prop
 s:Shared
 rk:Keyed->Nat
 ok:Keyed->Prop
 κ:SortKind
noncomputable def gM:Model:=model prog w
noncomputable def SP1 (x:SG):Prop:=io gM x.A x.E x.s x.rk x.ok x.κ->∀ {st:SortSt}{Q:Unit->SortSt->Prop},Gd x.rk x.ok x.κ st->2≤(arrOf st).size->(arrOf st).size<64->pendingOf st = #[]->failedOf st=none->(∀ st',(arrOf st').Perm (arrOf st)->Up x.rk (arrOf st').toList->failedOf st' = none->Q () st')->wpS gM x.A x.E x.s sortRuns' Q st
noncomputable def kH (x:SG):Prop:=SP1 x
noncomputable def sg:SG:=@Classical.epsilon SG ⟨⟨{},fun _ _=>True,{},fun _=>0,fun _=>True,oneType'⟩⟩ fun x=>¬ kH x
theorem z8 (h:kH sg):∀ x,kH x:=fun x=>Classical.byContradiction fun n=>@Classical.epsilon_spec SG (fun x=>¬ kH x) ⟨x,n⟩ h
noncomputable def gA:Around:=sg.A
noncomputable def gE:Value->Shared->Prop:=sg.E
noncomputable def gs:Shared:=sg.s
noncomputable def gr:Keyed->Nat:=sg.rk
noncomputable def go:Keyed->Prop:=sg.ok
noncomputable def gk:SortKind:=sg.κ
end Mine
namespace Mine
open PySem PyProof.Rows
section
theorem pd {arr:Array Keyed}{i:Nat}{st:SortSt}{Q:Keyed->SortSt->Prop}(hi:i<arr.size) (h:Q arr[i] st):wpS gM gA gE gs (elem' arr i) Q st:=by
 rw [elem'_eq,Array.getElem?_eq_getElem hi]
 exact wpS_pure h
theorem lG {arr:Array Keyed}{i:Nat}(hi:i<arr.size):rkA gr arr i=gr arr[i]:=by unfold rkA; rw [Array.getElem?_eq_getElem hi]
end
end Mine
namespace Mine
open PySem PyProof.Rows
structure MI (gr:Keyed->Nat) (a b o:List Keyed) (i j:Nat):Prop where
section
variable {a b o:List Keyed}{i j:Nat}
end
section
theorem oN {x:String}{st:SortSt}{Q:Unit->SortSt->Prop}(h:Q () st):wpS gM gA gE gs (liftM (rule x):StateT SortSt Sem Unit) Q st:=wpS_pure (M:=gM) (E:=gE) h
theorem ls {arr:Array Keyed}{i:Nat}(hi:i<arr.toList.length):rkA gr arr i=gr arr.toList[i]:=by rw [Array.length_toList] at hi; rw [lG hi]; rfl
end
end Mine
namespace Mine
open PySem PyProof.Rows
section
structure Two (gr:Keyed->Nat) (go:Keyed->Prop) (a b:Array Keyed):Prop where
structure LoS (gr:Keyed->Nat) (a b:Array Keyed) (st:SortSt) (n:Nat) (out:Array Keyed) (ia ib:Nat) (st':SortSt):Prop where
section
variable {a b:Array Keyed}{st st':SortSt}{out:Array Keyed}{ia ib n m x mg k l ac bc:Nat}
end
end
end Mine
namespace Mine
open PySem PyProof.Rows
structure MH (gr:Keyed->Nat) (a b o:List Keyed) (i j:Nat):Prop where
section
variable {a b o:List Keyed}{i j:Nat}
end
section
structure HiS (gr:Keyed->Nat) (a b:Array Keyed) (st:SortSt) (n na nb:Nat) (out:Array Keyed) (st':SortSt):Prop where
section
variable {a b:Array Keyed}{st st':SortSt}{out:Array Keyed}{na nb n m x mg k l ac bc:Nat}
end
end
end Mine
namespace Mine
open PySem PyProof.Rows
section
structure Wn (lo hi:Nat) (st st':SortSt):Prop where
 kind:kindOf st' = kindOf st
 pend:pendingOf st' = pendingOf st
 fail:failedOf st' = failedOf st
 perm:(arrOf st').Perm (arrOf st)
 out:∀ k,(k<lo\/hi≤k)->(arrOf st')[k]? = (arrOf st)[k]?
theorem Wn.refl (lo hi:Nat) (st:SortSt):Wn lo hi st st:=⟨rfl,rfl,rfl,.refl _,fun uu uu=>rfl⟩
theorem Wn.trans {lo hi:Nat}{x y z:SortSt}(h:Wn lo hi x y) (g:Wn lo hi y z):Wn lo hi x z:=⟨g.kind.trans h.kind,g.pend.trans h.pend,g.fail.trans h.fail,g.perm.trans h.perm,fun k hk=>(g.out k hk).trans (h.out k hk)⟩
theorem Gd.of {lo hi:Nat}{st st':SortSt}(g:Gd gr go gk st) (h:Wn lo hi st st'):Gd gr go gk st':=⟨fun p hp=>g.ok p (h.perm.mem_iff.mp hp),h.kind.trans g.kind⟩
theorem Wn.size {lo hi:Nat}{st st':SortSt}(h:Wn lo hi st st'):(arrOf st').size=(arrOf st).size:=h.perm.size_eq
theorem cY {xs ys:Array Keyed}{i j:Nat}(h:xs[i]? = ys[j]?):rkA gr xs i=rkA gr ys j:=by unfold rkA; rw [h]
theorem gO (hlt:io gM gA gE gs gr go gk) {st:SortSt}{i j:Nat}{Q:Option Bool->SortSt->Prop}(g:Gd gr go gk st) (hi:i<(arrOf st).size) (hj:j<(arrOf st).size) (h:Q (some (decide (rkA gr (arrOf st) i<rkA gr (arrOf st) j))) st):wpS gM gA gE gs (ltAt' i j) Q st:=by
 rw [ltAt'_eq]
 refine wpS_bind (wpS_get (wpS_bind (pd hi (wpS_bind (pd hj (hlt (g.ok _ (Array.getElem_mem _)) (g.ok _ (Array.getElem_mem _)) g.kind ?_))))))
 rw [lG hi,lG hj] at h
 exact h
def SegDn (gr:Keyed->Nat) (arr:Array Keyed) (lo n:Nat):Prop:=∀ i j,lo≤i->i≤j->j<lo+n->rkA gr arr j≤rkA gr arr i
theorem SegUp.succ {arr:Array Keyed}{lo n:Nat}(h:SegUp gr arr lo n) (h1:1≤n) (hn:rkA gr arr (lo+n-1)≤rkA gr arr (lo+n)):SegUp gr arr lo (n+1):=by
 intro i j hi hij hj
 by_cases e:j=lo+n
 ·(clear hj; subst e)
  by_cases e':i=lo+n
  ·(clear hi hij; subst e'); exact Nat.le_refl _
  ·exact Nat.le_trans (h i (lo+n-1) hi (by exact yf hij e') (by exact rJ h1)) hn
 ·exact h i j hi hij (by exact xX hj e)
theorem SegDn.succ {arr:Array Keyed}{lo n:Nat}(h:SegDn gr arr lo n) (h1:1≤n) (hn:rkA gr arr (lo+n)≤rkA gr arr (lo+n-1)):SegDn gr arr lo (n+1):=by
 intro i j hi hij hj
 by_cases e:j=lo+n
 ·(clear hj; subst e)
  by_cases e':i=lo+n
  ·(clear hi hij; subst e'); exact Nat.le_refl _
  ·exact Nat.le_trans hn (h i (lo+n-1) hi (by exact yf hij e') (by exact rJ h1))
 ·exact h i j hi hij (by exact xX hj e)
theorem jt {i j:Nat}{st:SortSt}{Q:Unit->SortSt->Prop}(h:Q () (setArr st (mirror (arrOf st) i j ((j-i)/2)))):wpS gM gA gE gs (reverseSlice' i j) Q st:=by
 rw [reverseSlice'_eq]; exact wpS_modify h
noncomputable def sH (lo nrem n:Nat):StateT SortSt Sem (Option Nat):=do
 let mut n:=n
 reverseSlice' lo (lo+n)
 for _ in [n:nrem] do
  let some smaller ← ltAt' (lo+n) (lo+n-1) | return none
  if smaller then break
  n:=n+1
 return some n
noncomputable def tn (lo nrem n:Nat):StateT SortSt Sem (Option Nat):=do
 let mut n:=n
 rule "list.sort.descending-run"
 n:=n+1
 let mut neq:=0
 for _ in [n:nrem] do
  let some smaller ← ltAt' (lo+n) (lo+n-1) | return none
  if smaller then
   if neq>0 then reverseSlice' (lo+n-(neq+1)) (lo+n)
   neq:=0
  else
   let some larger ← ltAt' (lo+n-1) (lo+n) | return none
   if larger then break
   neq:=neq+1
  n:=n+1
 if neq>0 then reverseSlice' (lo+n-(neq+1)) (lo+n)
 reverseSlice' lo (lo+n)
 for _ in [n:nrem] do
  let some smaller ← ltAt' (lo+n) (lo+n-1) | return none
  if smaller then break
  n:=n+1
 return some n
theorem iy {xs:Array Keyed}{i j:Nat}(hj:j≤xs.size) (he:∀ k,i≤k->k<j->rkA gr xs k=rkA gr xs (j-1)) (k:Nat):rkA gr (mirror xs i j ((j-i)/2)) k=rkA gr xs k:=by
 by_cases c:i≤k/\k<j
 ·rw [cY (j:=i+j-1-k) (ys:=xs) (by rw [getElem?_mirror_all hj,if_pos c]),he (i+j-1-k) (by exact BG c) (by exact EA c),he k c.1 c.2]
 ·exact cY (by rw [getElem?_mirror_all hj,if_neg c])
theorem f9 {lo hi i j:Nat}{st:SortSt}(hj:j≤(arrOf st).size) (h1:lo≤i) (h2:j≤hi):Wn lo hi st (setArr st (mirror (arrOf st) i j ((j-i)/2))):=⟨rfl,rfl,rfl,mirror_perm _ _ _ _,fun k hk=>by
 show (mirror _ _ _ _)[k]? = _
 rw [getElem?_mirror_all hj,if_neg (by exact DK h1 h2 hk)]⟩
theorem lw (hlt:io gM gA gE gs gr go gk) {lo nrem n:Nat}{st:SortSt}{Q:Option Nat->SortSt->Prop}(g:Gd gr go gk st) (hn:lo+nrem≤(arrOf st).size) (h1:1≤n) (h2:n≤nrem) (dn:SegDn gr (arrOf st) lo n)
  (h:∀ n st',1≤n->n≤nrem->Wn lo (lo+nrem) st st'->SegUp gr (arrOf st') lo n->Q (some n) st'):wpS gM gA gE gs (sH lo nrem n) Q st:=by
 unfold sH
 refine wpS_bind (jt ?_)
 have hsz:lo+n≤(arrOf st).size:=by exact C6 hn h2
 have w2:Wn lo (lo+nrem) st (setArr st (mirror (arrOf st) lo (lo+n) ((lo+n-lo)/2))):=f9 hsz (Nat.le_refl _) (by exact Nat.add_le_add_left (by assumption) _)
 have up2:SegUp gr (mirror (arrOf st) lo (lo+n) ((lo+n-lo)/2)) lo n:=by
  intro i j hi hij hj
  rw [cY (j:=lo+(lo+n)-1-i) (ys:=arrOf st) (by rw [getElem?_mirror_all hsz,if_pos ⟨hi,by exact Nat.lt_of_le_of_lt (by assumption) (by assumption)⟩]),cY (i:=j) (j:=lo+(lo+n)-1-j) (ys:=arrOf st) (by rw [getElem?_mirror_all hsz,if_pos ⟨by exact Nat.le_trans (by assumption) (by assumption),hj⟩])]
  exact dn _ _ (by exact BV hj) (by exact EG hij) (by exact EW h1 hi)
 generalize hst:setArr st (mirror (arrOf st) lo (lo+n) ((lo+n-lo)/2))=st2 at w2 ⊢
 have up2:SegUp gr (arrOf st2) lo n:=by rw [← hst]; exact up2
 have g2:=g.of w2
 have hs2:=w2.size
 refine wpS_bind (wpS_mono (wpS_forRange (I:=fun x c st'=>st' = st2/\c=(none,x)/\x≤nrem/\SegUp gr (arrOf st2) lo x)
  (Q:=fun c st'=>st' = st2/\∃ n,c=(none,n)/\1≤n/\n≤nrem/\SegUp gr (arrOf st2) lo n) ?_ ?_ (cS rfl rfl h2 up2)) ?_)
 ·intro x c st' hx1 hx2 G4
  refine cJ (G4) fun G5 G6 gx up=>?_
  try clear G4
  (clear up2 w2; subst G5)
  subst G6
  refine wpS_bind (gO hlt g2 (by exact adl hx2 (Nat.le_trans hn (Nat.le_of_eq hs2.symm))) (by exact w5 (adl hx2 (Nat.le_trans hn (Nat.le_of_eq hs2.symm)))) ?_)
  dsimp only
  by_cases w:rkA gr (arrOf st') (lo+x)<rkA gr (arrOf st') (lo+x-1)
  ·rw [decide_eq_true w,if_pos rfl]
   exact wpS_pure (aE rfl (br x rfl (by exact Nat.lt_of_lt_of_le (by assumption) (by assumption)) gx up))
  ·rw [decide_eq_false w,if_neg (by decide)]
   exact wpS_pure (cS rfl rfl (by assumption) (up.succ (by exact Nat.lt_of_lt_of_le (by assumption) (by assumption)) (Nat.le_of_not_lt w)))
 ·intro c st' G7
  refine cJ (G7) fun G8 G9 gx up=>?_
  try clear G7
  (clear g2 hs2 up2 w2; subst G8)
  subst G9
  rw [show max n nrem=nrem by exact Em gx] at *
  exact (aE rfl (br nrem rfl (by exact Nat.lt_of_lt_of_le (by assumption) (by assumption)) (Nat.le_refl _) up))
 ·intro c st' Ha
  obtain ⟨Hc,n',Hd,p1,p2,up'⟩:=Ha
  (clear g2 hs2 up2; subst Hc)
  subst Hd
  exact wpS_pure (h n' st' p1 p2 w2 up')
theorem SegDn.congr {xs ys:Array Keyed}{lo n:Nat}(h:SegDn gr xs lo n) (e:∀ k,rkA gr ys k=rkA gr xs k):SegDn gr ys lo n:=fun i j a b c=>by rw [e,e]; exact h i j a b c
theorem kL (hlt:io gM gA gE gs gr go gk) {lo nrem n:Nat}{st:SortSt}{Q:Option Nat->SortSt->Prop}(g:Gd gr go gk st) (hn:lo+nrem≤(arrOf st).size) (h1:1≤n) (h2:n<nrem) (dn:SegDn gr (arrOf st) lo (n+1))
  (h:∀ n st',1≤n->n≤nrem->Wn lo (lo+nrem) st st'->SegUp gr (arrOf st') lo n->Q (some n) st'):wpS gM gA gE gs (tn lo nrem n) Q st:=by
 unfold tn
 refine wpS_bind (oN ?_)
 refine wpS_bind (wpS_mono (wpS_forRange (I:=fun x c st''=>∃ neq,c=(none,x,neq)/\Wn lo (lo+nrem) st st''/\(∀ k,rkA gr (arrOf st'') k=rkA gr (arrOf st) k)/\x≤nrem/\neq+1≤x/\SegDn gr (arrOf st) lo x/\∀ k,x-(neq+1)≤k->k<x->rkA gr (arrOf st) (lo+k)=rkA gr (arrOf st) (lo+x-1))
  (Q:=fun c st''=>∃ x neq,c=(none,x,neq)/\Wn lo (lo+nrem) st st''/\(∀ k,rkA gr (arrOf st'') k=rkA gr (arrOf st) k)/\x≤nrem/\neq+1≤x/\SegDn gr (arrOf st) lo x/\∀ k,x-(neq+1)≤k->k<x->rkA gr (arrOf st) (lo+k)=rkA gr (arrOf st) (lo+x-1)) ?_ ?_ (rR 0 rfl (.refl ..) (fun uu=>rfl) (by assumption) (by exact Nat.succ_pos _) dn (fun k k1 k2=>by rw [show lo+k=lo+(n+1)-1 by exact x7 k1 k2]))) ?_)
 ·intro x c st'' hx1 hx2 Hf
  refine xt (Hf) fun neq Hk wn e gx nx dn eq=>?_
  try clear Hf
  subst Hk
  have g':=g.of wn
  have hsz:=wn.size
  dsimp only
  refine wpS_bind (gO hlt g' (by exact nG hn hx2 hsz) (by exact xn hn hx2 hsz) ?_)
  dsimp only
  rw [e,e]
  by_cases w:rkA gr (arrOf st) (lo+x)<rkA gr (arrOf st) (lo+x-1)
  ·rw [decide_eq_true w,if_pos rfl]
   have fin:∀ st3,Wn lo (lo+nrem) st st3->(∀ k,rkA gr (arrOf st3) k=rkA gr (arrOf st) k)->∃ neq',((none:Option (Option Nat)),x+1,0)=(none,x+1,neq')/\Wn lo (lo+nrem) st st3/\(∀ k,rkA gr (arrOf st3) k=rkA gr (arrOf st) k)/\x+1≤nrem/\neq'+1≤x+1/\SegDn gr (arrOf st) lo (x+1)/\∀ k,x+1-(neq'+1)≤k->k<x+1->rkA gr (arrOf st) (lo+k)=rkA gr (arrOf st) (lo+(x+1)-1) :=
    fun st3 w3 e3=>(rR 0 rfl w3 e3 (by assumption) (by exact Nat.succ_pos _) (dn.succ (by exact Nat.lt_trans (by assumption) (by assumption)) (Nat.le_of_lt w)) (fun k k1 k2=>by rw [show lo+k=lo+(x+1)-1 by exact x7 k1 k2]))
   by_cases c1:neq>0
   ·rw [if_pos c1]
    refine wpS_bind (jt (wpS_pure (fin _ (wn.trans (f9 (by exact x5 hn hx2 hsz) (by exact xT nx) (by exact Nat.add_le_add_left (by assumption) _))) fun k=>?_)))
    show rkA gr (mirror _ _ _ _) k=_
    rw [iy (by exact x5 hn hx2 hsz) fun k k1 k2=>by rw [e,e]; have:=eq (k-lo) (by exact xr k1) (by exact xv hx1 k2); rwa [show lo+(k-lo)=k by exact xL nx k1] at this]
    exact e k
   ·rw [if_neg c1]
    exact wpS_pure (fin _ wn e)
  ·rw [decide_eq_false w,if_neg (by decide)]
   refine wpS_bind (gO hlt g' (by exact xn hn hx2 hsz) (by exact nG hn hx2 hsz) ?_)
   dsimp only
   rw [e,e]
   by_cases w':rkA gr (arrOf st) (lo+x-1)<rkA gr (arrOf st) (lo+x)
   ·rw [decide_eq_true w',if_pos rfl]
    exact wpS_pure (fS x neq rfl wn e gx nx dn eq)
   ·rw [decide_eq_false w',if_neg (by decide)]
    refine wpS_pure (rR (neq+1) rfl wn e (by assumption) (by exact Nat.lt_succ_of_le (by assumption)) (dn.succ (by exact Nat.lt_trans (by assumption) (by assumption)) (Nat.le_of_not_lt w')) (fun k k1 k2=>?_))
    have q:rkA gr (arrOf st) (lo+x-1)=rkA gr (arrOf st) (lo+x):=by exact A8 w w'
    rw [show lo+(x+1)-1=lo+x by exact E5]
    by_cases e':k=x
    ·rw [e']
    ·rw [← q]; exact eq k (by exact Dm k1) (by exact Dh k2 e')
 ·intro c st'' Hi
  refine xt (Hi) fun neq Hs wn e gx nx dn eq=>?_
  try clear Hi
  subst Hs
  rw [show max (n+1) nrem=nrem by exact Cr gx] at *
  exact (fS nrem neq rfl wn e gx nx dn eq)
 ·intro c st'' Ht
  refine k9 (Ht) fun x neq Hu wn e gx nx dn eq=>?_
  try clear Ht
  subst Hu
  have g':=g.of wn
  have hsz:=wn.size
  dsimp only
  by_cases c1:neq>0
  ·rw [if_pos c1]
   have w3:=wn.trans (f9 (lo:=lo) (hi:=lo+nrem) (i:=lo+x-(neq+1)) (j:=lo+x) (st:=st'') (by exact xU hn gx hsz) (by exact xT nx) (by exact Nat.add_le_add_left (by assumption) _))
   refine wpS_bind (jt ?_)
   refine lw hlt (g.of w3) (by have:=w3.size; exact rh hn this) (by exact Nat.lt_trans (by assumption) (by assumption)) gx (dn.congr fun k=>?_) fun n st' a b w4 u=>h n st' a b (w3.trans w4) u
   show rkA gr (mirror _ _ _ _) k=_
   rw [iy (by exact xU hn gx hsz) fun k k1 k2=>by rw [e,e]; have:=eq (k-lo) (by exact xr k1) (by exact xv nx k2); rwa [show lo+(k-lo)=k by exact xL nx k1] at this]
   exact e k
  ·rw [if_neg c1]
   exact lw hlt g' (by exact rh hn hsz) (by exact DD nx) gx (dn.congr e) fun n st' a b w4 u=>h n st' a b (wn.trans w4) u
theorem pX (hlt:io gM gA gE gs gr go gk) {lo nrem:Nat}{st:SortSt}{Q:Option Nat->SortSt->Prop}(g:Gd gr go gk st) (hn:lo+nrem≤(arrOf st).size) (h1:1≤nrem)
  (h:∀ n st',1≤n->n≤nrem->Wn lo (lo+nrem) st st'->SegUp gr (arrOf st') lo n->Q (some n) st'):wpS gM gA gE gs (countRun' lo nrem) Q st:=by
 rw [countRun'_eq]
 refine wpS_bind (wpS_mono (wpS_forRange (I:=fun x c st'=>st' = st/\c=(none,x)/\x≤nrem/\SegUp gr (arrOf st) lo x)
  (Q:=fun c st'=>st' = st/\∃ n,c=(none,n)/\1≤n/\n≤nrem/\SegUp gr (arrOf st) lo n/\(n=nrem\/rkA gr (arrOf st) (lo+n)<rkA gr (arrOf st) (lo+n-1))) ?_ ?_ (cS rfl rfl h1 (fun i j _ _ _=>by rw [show i=j by exact xG (by assumption) (by assumption) (by assumption)]; exact Nat.le_refl _))) ?_)
 ·intro x c st' hx1 hx2 Hz
  refine cJ (Hz) fun Hx HC gx up=>?_
  try clear Hz
  (clear h; subst Hx)
  subst HC
  refine wpS_bind (gO hlt g (by exact adl hx2 (by assumption)) (by exact w5 (adl hx2 (by assumption))) ?_)
  dsimp only
  by_cases w:rkA gr (arrOf st') (lo+x)<rkA gr (arrOf st') (lo+x-1)
  ·rw [decide_eq_true w,if_pos rfl]
   exact wpS_pure (aE rfl (iq x rfl hx1 gx up (.inr w)))
  ·rw [decide_eq_false w,if_neg (by decide)]
   exact wpS_pure (cS rfl rfl (by assumption) (up.succ hx1 (Nat.le_of_not_lt w)))
 ·intro c st' HB
  refine cJ (HB) fun HL HK gx up=>?_
  try clear HB
  (clear g h hn; subst HL)
  subst HK
  rw [show max 1 nrem=nrem by exact Dl gx] at *
  exact (aE rfl (iq nrem rfl h1 (Nat.le_refl _) up (.inl rfl)))
 ·intro c st' H8
  obtain ⟨H6,n,Ie,n1,n2,up,hend⟩:=H8
  subst H6
  subst Ie
  dsimp only
  by_cases c1:(n==nrem)=true
  ·rw [if_pos c1]
   exact wpS_pure (h n st' n1 n2 (.refl ..) up)
  rw [if_neg c1]
  have hn3:n<nrem:=by have:n≠nrem:=fun e=>c1 (beq_iff_eq.mpr e); exact DE n2 this
  have hdn:=hend.resolve_left (by exact Nat.ne_of_lt (by assumption))
  by_cases c2:n>1
  ·rw [if_pos c2]
   refine wpS_bind (gO hlt g (by exact DW h1 hn) (by exact DH n1 n2 hn) ?_)
   dsimp only
   by_cases w:rkA gr (arrOf st') lo<rkA gr (arrOf st') (lo+n-1)
   ·rw [decide_eq_true w,if_pos rfl]
    exact wpS_pure (h n st' n1 n2 (.refl ..) up)
   rw [decide_eq_false w,if_neg (by decide)]
   have eq:∀ k,lo≤k->k<lo+n->rkA gr (arrOf st') k=rkA gr (arrOf st') (lo+n-1):=fun k k1 k2=>by
    have a:=up lo k (Nat.le_refl _) k1 k2
    have b:=up k (lo+n-1) k1 (by exact Du k2) (by exact rJ n1)
    exact EF w a b
   have w3:Wn lo (lo+nrem) st' (setArr st' (mirror (arrOf st') lo (lo+n) ((lo+n-lo)/2))):=f9 (by exact xk n2 hn) (Nat.le_refl _) (by exact Nat.add_le_add_left (by assumption) _)
   have e3:∀ k,rkA gr (mirror (arrOf st') lo (lo+n) ((lo+n-lo)/2)) k=rkA gr (arrOf st') k:=iy (by exact xk n2 hn) eq
   refine wpS_bind (jt ?_)
   refine kL hlt (g.of w3) (by have:=w3.size; exact rh hn this) n1 hn3 ?_ fun n st' a b w4 u=>h n st' a b (w3.trans w4) u
   have d1:SegDn gr (arrOf st') lo n:=fun i j a b c=>by rw [eq i a (by exact Nat.lt_of_le_of_lt (by assumption) (by assumption)),eq j (by exact Nat.le_trans (by assumption) (by assumption)) c]; exact Nat.le_refl _
   exact (d1.succ n1 (Nat.le_of_lt hdn)).congr e3
  rw [if_neg c2]
  have e1:n=1:=by exact C5 n1 c2
  (clear c1 c2 hend n2 up; subst e1)
  refine kL hlt g hn n1 hn3 ?_ h
  have d1:SegDn gr (arrOf st') lo 1:=fun i j _ _ _=>by rw [show i=j by exact xG (by assumption) (by assumption) (by assumption)]; exact Nat.le_refl _
  exact d1.succ (Nat.le_refl _) (Nat.le_of_lt hdn)
theorem vL {src dst:Nat}{st:SortSt}{Q:Unit->SortSt->Prop}(h:Q () (setArr st (bubble (arrOf st) src (src-dst)))):wpS gM gA gE gs (moveDown' src dst) Q st:=by
 rw [moveDown'_eq]; exact wpS_modify h
theorem AK {l r:Nat}(h:l<r):l≤(l+r)/2/\(l+r)/2<r:=by exact DV h
theorem sX (hlt:io gM gA gE gs gr go gk) {lo n oo:Nat}{st:SortSt}{Q:Bool->SortSt->Prop}(g:Gd gr go gk st) (hn:lo+n≤(arrOf st).size) (hok:oo≤n) (hs:SegUp gr (arrOf st) lo oo)
  (h:∀ st',Wn lo (lo+n) st st'->SegUp gr (arrOf st') lo n->Q true st'):wpS gM gA gE gs (binarySort' lo n oo) Q st:=by
 rw [binarySort'_eq]
 refine wpS_bind (wpS_mono (wpS_forRange (I:=fun k c st'=>c=(none,())/\Wn lo (lo+n) st st'/\SegUp gr (arrOf st') lo (min k n))
  (Q:=fun c st'=>c=(none,())/\Wn lo (lo+n) st st'/\SegUp gr (arrOf st') lo n) ?_ ?_ ⟨rfl,.refl ..,?_⟩) ?_)
 ·intro k c st' hk1 hk2 HY
  refine aD (HY) fun Ig wn up=>?_
  try clear HY
  subst Ig
  have g':=g.of wn
  have hsz:=wn.size
  rw [show min k n=k by exact DT hk2] at up
  refine wpS_bind (wpS_mono (wpS_forRange (I:=fun x c st''=>st'' = st'/\∃ l r,c=(none,l,r)/\l≤r/\r≤k/\r-l≤k-x/\(∀ i,i<l->rkA gr (arrOf st') (lo+i)≤rkA gr (arrOf st') (lo+k))/\(∀ i,r≤i->i<k->rkA gr (arrOf st') (lo+k)<rkA gr (arrOf st') (lo+i)))
   (Q:=fun c st''=>st'' = st'/\∃ l r,c=(none,l,r)/\l≤k/\(∀ i,i<l->rkA gr (arrOf st') (lo+i)≤rkA gr (arrOf st') (lo+k))/\(∀ i,l≤i->i<k->rkA gr (arrOf st') (lo+k)<rkA gr (arrOf st') (lo+i))) ?_ ?_ (aE rfl (r6 0 k rfl (by exact Nat.zero_le _) (by exact Nat.le_refl _) (by exact Nat.le_refl _) (fun i hi=>by exact E7 hi) (fun i h1 h2=>by exact BW h1 h2)))) ?_)
  ·intro x c st'' _ hx Ii
   obtain ⟨HZ,l,r,Iq,lr,rk',pr,lo',hi'⟩:=Ii
   (clear wn; subst HZ)
   subst Iq
   dsimp only
   by_cases c1:l≥r
   ·rw [if_pos c1]
    exact wpS_pure (aE rfl (bl l r rfl (by exact Nat.le_trans (by assumption) (by assumption)) lo' (fun i h1 h2=>hi' i (by exact Nat.le_trans (by assumption) (by assumption)) h2)))
   rw [if_neg c1]
   refine ae (AK (Nat.lt_of_not_le c1)) fun m1 m2=>?_
   generalize (l+r)/2=m at m1 m2 ⊢
   refine wpS_bind (gO hlt g' (by exact nG hn hk2 hsz) (by exact EU hn hk2 rk' hsz m2) ?_)
   dsimp only
   by_cases w:rkA gr (arrOf st'') (lo+k)<rkA gr (arrOf st'') (lo+m)
   ·rw [decide_eq_true w,if_pos rfl]
    exact wpS_pure (aE rfl (r6 _ _ rfl (by assumption) (by exact D0 rk' m2) (by exact Cj pr m2) lo' (fun i h1 h2=>Nat.lt_of_lt_of_le w (up _ _ (by exact Nat.le_add_right _ _) (by exact Nat.add_le_add_left (by assumption) _) (by exact Nat.add_le_add_left (by assumption) _)))))
   ·rw [decide_eq_false w,if_neg (by decide)]
    exact wpS_pure (aE rfl (r6 _ _ rfl (by assumption) (by assumption) (by exact Bc pr m1) (fun i h1=>Nat.le_trans (up _ (lo+m) (by exact Nat.le_add_right _ _) (by exact Bt h1) (by exact DG rk' m2)) (Nat.le_of_not_lt w)) hi'))
  ·intro c st'' HO
   obtain ⟨HT,l,r,HA,lr,rk',pr,lo',hi'⟩:=HO
   (clear g' hsz wn; subst HT)
   subst HA
   exact (aE rfl (bl l r rfl (by exact Nat.le_trans (by assumption) (by assumption)) lo' (fun i h1 h2=>hi' i (by exact Dq pr h1) h2)))
  ·intro c st'' HI
   obtain ⟨HJ,l,r,HG,lk,lo',hi'⟩:=HI
   (clear g'; subst HJ)
   subst HG
   dsimp only
   have hsrc:lo+k<(arrOf st'').size:=by exact nG hn hk2 hsz
   refine wpS_bind (vL (wpS_pure ⟨rfl,wn.trans ⟨rfl,rfl,rfl,bubble_perm _ _ _,fun j hj=>?_⟩,?_⟩))
   ·show (bubble _ _ _)[j]? = _
    rw [getElem?_bubble hsrc _ (by exact Nat.sub_le _ _),if_neg (by exact DC hk2 hj),if_neg (by exact CQ hk2 hj)]
   ·rw [show min (k+1) n=k+1 by exact CH hk2]
    show SegUp gr (bubble (arrOf st'') (lo+k) (lo+k-(lo+l))) lo (k+1)
    have at':∀ j,rkA gr (bubble (arrOf st'') (lo+k) (lo+k-(lo+l))) j=if j=lo+l then rkA gr (arrOf st'') (lo+k) else if lo+l<j/\j≤lo+k then rkA gr (arrOf st'') (j-1) else rkA gr (arrOf st'') j:=fun j=>by
     have:=getElem?_bubble hsrc (lo+k-(lo+l)) (by exact Nat.sub_le _ _) j
     rw [show lo+k-(lo+k-(lo+l))=lo+l by exact Ci lk] at this
     by_cases e1:j=lo+l
     ·rw [if_pos e1] at this ⊢; exact cY this
     ·rw [if_neg e1] at this ⊢
      by_cases e2:lo+l<j/\j≤lo+k
      ·rw [if_pos e2] at this ⊢; exact cY this
      ·rw [if_neg e2] at this ⊢; exact cY this
    intro i j hi hij hj
    rw [at',at']
    by_cases e1:i=lo+l
    ·rw [if_pos e1]
     by_cases e2:j=lo+l
     ·rw [if_pos e2]; exact Nat.le_refl _
     ·rw [if_neg e2,if_pos (by exact Ds hij hj e1 e2)]
      have:=hi' (j-1-lo) (by exact C8 hij e1 e2) (by exact Ed hij hj e1 e2)
      rw [show lo+(j-1-lo)=j-1 by exact Cg hij e1 e2] at this
      exact Nat.le_of_lt this
    ·rw [if_neg e1]
     by_cases e2:j=lo+l
     ·rw [if_pos e2,if_neg (by exact EK hij e2)]
      have:=lo' (i-lo) (by exact De hi hij e1 e2)
      rwa [show lo+(i-lo)=i by exact DI hi] at this
     ·rw [if_neg e2]
      by_cases e3:lo+l<i
      ·rw [if_pos (by exact Cs hij hj e3),if_pos (by exact CR hij hj e3)]
       exact up _ _ (by exact EL e3) (by exact DO hij) (by exact CT hij hj e3)
      ·rw [if_neg (by exact w9 e3)]
       by_cases e4:lo+l<j
       ·rw [if_pos (by exact CS hj e4)]
        exact up _ _ (by assumption) (by exact Cn e3 e4) (by exact Db hj e4)
       ·rw [if_neg (by exact w9 e4)]
        exact up _ _ (by assumption) (by assumption) (by exact Ee lk e2 e4)
 ·intro c st' HR
  refine aD (HR) fun Iv wn up=>?_
  try clear HR
  subst Iv
  rw [show min (max (max oo 1) n) n=n by exact B4] at up
  exact ⟨rfl,wn,up⟩
 ·intro i j hi hij hj
  by_cases e:oo=0
  ·rw [show i=j by exact CJ hi hij hj e]; exact Nat.le_refl _
  ·exact hs i j hi hij (by exact Bn hj e)
 ·intro c st' Ic
  refine aD (Ic) fun IW wn up=>?_
  try clear Ic
  subst IW
  exact wpS_pure (h st' wn up)
end
end Mine
namespace Mine
open PySem PyProof.Rows
section
theorem zQ {arr:Array Keyed}{lo n:Nat}(h:SegUp gr arr lo n) (hn:lo+n≤arr.size):Up gr ((arr.toList.drop lo).take n):=by
 unfold Up
 rw [List.pairwise_iff_getElem]
 intro i j hi hj hij
 rw [List.length_take,List.length_drop,Array.length_toList] at hi hj
 rw [List.getElem_take,List.getElem_take,List.getElem_drop,List.getElem_drop]
 have:=h (lo+i) (lo+j) (by exact Nat.le_add_right _ _) (by exact Nat.add_le_add_left (Nat.le_of_lt hij) lo) (by exact Nat.add_lt_add_left (Nat.lt_of_lt_of_le hj (Nat.min_le_left _ _)) lo)
 rwa [ls (by rw [Array.length_toList]; exact Nat.lt_of_lt_of_le (Nat.add_lt_add_left (Nat.lt_of_lt_of_le hi (Nat.min_le_left _ _)) lo) hn),ls (by rw [Array.length_toList]; exact Nat.lt_of_lt_of_le (Nat.add_lt_add_left (Nat.lt_of_lt_of_le hj (Nat.min_le_left _ _)) lo) hn)] at this
end
end Mine
namespace Mine
open PySem PyProof.Rows
section
structure Ph1 (gr:Keyed->Nat) (st st':SortSt) (n1:Nat):Prop where
 perm:(arrOf st').Perm (arrOf st)
 kind:kindOf st' = kindOf st
 fail:failedOf st' = none
 pend:pendingOf st' = #[(0,n1,0)]
 up:SegUp gr (arrOf st') 0 n1
structure Ph2 (gr:Keyed->Nat) (st st':SortSt):Prop where
structure Dn (gr:Keyed->Nat) (st st':SortSt):Prop where
end
end Mine
namespace Mine
open PySem
theorem lY:∀ a:List Int,ltL a a=false
 | []=>rfl
 | a::as=>by simp [ltL,lY as]
theorem gd:∀ {a b c:List Int},ltL a b=true->ltL b c=true->ltL a c=true
 | [],[],_,h,_=>by simp [ltL] at h
 | [],_::_,[],_,h=>by simp [ltL] at h
 | [],_::_,_::_,_,_=>rfl
 | _::_,[],_,h,_=>by simp [ltL] at h
 | _::_,_::_,[],_,h=>by simp [ltL] at h
 | a::as,b::bs,c::cs,h1,h2=>by
  unfold ltL at h1 h2 ⊢
  by_cases e1:a=b
  ·subst e1
   rw [if_pos rfl] at h1
   by_cases e2:a=c
   ·rw [if_pos e2] at h2 ⊢; exact gd h1 h2
   ·rw [if_neg e2] at h2 ⊢; exact h2
  ·rw [if_neg e1] at h1
   by_cases e2:b=c
   ·subst e2; rw [if_neg e1]; exact h1
   ·rw [if_neg e2] at h2
    simp only [decide_eq_true_eq] at h1 h2
    rw [if_neg (by exact D9 h1 h2)]
    simp only [decide_eq_true_eq]; exact Dc h1 h2
theorem gB:∀ {a b:List Int},ltL a b=false->ltL b a=false->a=b
 | [],[],_,_=>rfl
 | [],_::_,h,_=>by simp [ltL] at h
 | _::_,[],_,h=>by simp [ltL] at h
 | a::as,b::bs,h1,h2=>by
  unfold ltL at h1 h2
  by_cases e:a=b
  ·subst e
   rw [if_pos rfl] at h1 h2
   rw [gB h1 h2]
  ·rw [if_neg e] at h1
   rw [if_neg (Ne.symm e)] at h2
   simp only [decide_eq_false_iff_not] at h1 h2
   exact B3 e h1 h2
noncomputable def rkL (ks:List (List Int)) (k:List Int):Nat:=ks.countP fun x=>ltL x k
theorem mH {α:Type}{p q:α->Bool}:∀ {l:List α},(∀ x∈l,p x=true->q x=true)->l.countP p≤l.countP q
 | [],_=>Nat.le_refl _
 | x::l,h=>by
  have ih:=mH fun y hy=>h y (.tail _ hy)
  rw [List.countP_cons,List.countP_cons]
  cases hp:p x with
  | true=>rw [h x (.head _) hp]; simp; exact ih
  | false=>simp; exact Ek ih
theorem mS {α:Type}{p q:α->Bool}:∀ {l:List α}{y:α},(∀ x∈l,p x=true->q x=true)->y∈l->p y=false->q y=true->l.countP p<l.countP q
 | x::l,y,h,hy,h1,h2=>by
  rw [List.countP_cons,List.countP_cons]
  rcases List.mem_cons.mp hy with rfl | hy
  ·rw [h1,h2]
   have:=mH fun z hz=>h z (.tail _ hz)
   simp; exact BX this
  ·have ih:=mS (fun z hz=>h z (.tail _ hz)) hy h1 h2
   cases hp:p x with
   | true=>rw [h x (.head _) hp]; simp; exact ih
   | false=>simp; exact Bo ih
theorem tY {ks:List (List Int)}{a b:List Int}(ha:a∈ks) (hb:b∈ks):ltL a b=decide (rkL ks a<rkL ks b):=by
 have up:∀ {a b:List Int},a∈ks->ltL a b=true->rkL ks a<rkL ks b:=fun {a b} ha h=>mS (fun x _ hx=>gd hx h) ha (lY a) h
 cases h:ltL a b with
 | true=>rw [decide_eq_true (up ha h)]
 | false=>
  refine (decide_eq_false fun q=>?_).symm
  cases h':ltL b a with
  | true=>have:=up hb h'; exact BQ q this
  | false=>rw [gB h h'] at q; exact Nat.lt_irrefl _ q
theorem jW (ks:List (List Int)):(az ks).Pairwise fun a b=>ltL b a=false:=by
 have:=List.pairwise_mergeSort (le:=fun a b:List Int=>!ltL b a) (fun a b c h1 h2=>by
  simp only [Bool.not_eq_true'] at h1 h2 ⊢
  cases q:ltL c a with
  | false=>rfl
  | true=>
   cases q2:ltL b c with
   | true=>rw [gd q2 q] at h1; exact nT h1
   | false=>rw [gB h2 q2,h1] at q; cases q) (fun a b=>by
  cases q:ltL b a with
  | false=>rfl
  | true=>
   cases q2:ltL a b with
   | false=>rfl
   | true=>have:=gd q q2; rw [lY] at this; cases this) ks
 exact this.imp fun h=>by simpa using h
theorem jf:∀ {l l':List (List Int)},l.Perm l'->(l.Pairwise fun a b=>ltL b a=false)->(l'.Pairwise fun a b=>ltL b a=false)->l=l'
 | [],l',p,_,_=>by rw [p.nil_eq]
 | a::l,[],p,_,_=>by cases p.eq_nil
 | a::l,b::l',p,h,h'=>by
  obtain ⟨h1,h2⟩:=List.pairwise_cons.mp h
  obtain ⟨h3,h4⟩:=List.pairwise_cons.mp h'
  have e:a=b:=by
   rcases List.mem_cons.mp (p.mem_iff.mp (List.mem_cons_self (a:=a) (l:=l))) with e | e
   ·exact e
   ·rcases List.mem_cons.mp (p.mem_iff.mpr (List.mem_cons_self (a:=b) (l:=l'))) with e' | e'
    ·exact e'.symm
    ·exact gB (h3 a e) (h1 b e')
  subst e
  rw [jf ((List.perm_cons a).mp p) h2 h4]
end Mine
namespace Mine
open PySem PyProof.Rows
noncomputable def eh:List Int->List Int->Option Bool
 | a::as,b::bs=>if a=b then eh as bs else some (decide (a<b))
 | _,_=>none
theorem j9:∀ a b:List Int,ltL a b=(eh a b).getD (decide (a.length<b.length))
 | [],[]=>rfl
 | [],_::_=>by simp [ltL,eh]
 | _::_,[]=>by simp [ltL,eh]
 | a::as,b::bs=>by
  unfold ltL eh
  by_cases e:a=b
  ·rw [if_pos e,if_pos e,j9 as bs]; simp
  ·rw [if_neg e,if_neg e]; rfl
noncomputable def KeyOf (h:Heap) (v:Value) (k:List Int):Prop:=∃ a vs n,v = .ref a/\h.get? a=some ⟨.type "tuple", none,.seq vs.toArray n,#[]⟩/\IntsAre vs k
noncomputable def GO (v:Value):Int:=match v with
 | .int i _=>i
 | _=>0
theorem IntsAre.read {vs:List Value}{k:List Int}(h:IntsAre vs k):k=vs.map GO:=by
 induction h with
 | nil=>rfl
 | cons n t r ih=>exact congrArg (n :: ·) ih
theorem IntsAre.fn {vs:List Value}{k k':List Int}(a:IntsAre vs k) (b:IntsAre vs k'):k=k':=(IntsAre.read a).trans (IntsAre.read b).symm
theorem KeyOf.fn {h:Heap}{v:Value}{k k':List Int}(a:KeyOf h v k) (b:KeyOf h v k'):k=k':=by
 refine aI (a) fun x vs n G4 e i=>?_
 try clear a
 subst G4
 refine aI (b) fun uu vs' n' q e' i'=>?_
 try clear b
 cases q
 rw [e] at e'
 have:vs=vs':=by cases e'; rfl
 subst this
 exact IntsAre.fn i i'
theorem KeyOf.ofR {h:Heap}{v:Value}{k:List Int}{as:List Addr}(r:R h v (.tuple (k.map .int)) as):KeyOf h v k:=by
 cases r with
 | @tuple a n xs as vs e ra=>
  have hi:aS (k.map PyData.int)=some k:=by
   clear ra e
   induction k with
   | nil=>rfl
   | cons x k ih=>show (aS (k.map PyData.int)).map (x :: ·)=_; rw [ih]; rfl
  exact (cy a vs n rfl e ((ra.ints hi).1))
section
variable {A:Around}{E:Value->Shared->Prop}{s:Shared}
theorem rA (c:Bool) {a b:Int}{t u:Tok}{Q:Bool->Shared->Prop}(h:Q (decide (a<b)) s):wpAny (model prog w) A (oneLt' c (.int a t) (.int b u)) Q E s:=by
 cases c with
 | true=>exact oneLt_int h
 | false=>
  rw [oneLt'_eq]
  simp only [Bool.false_eq_true,if_false]
  exact wpAny_bind (wpAny_lt_int (wpAny_truthy_bool h))
theorem oS (c:Bool) (x y:Value):keyLt' (tuples' c) x y=(do
  let xs ← Builtin.List.listItems x; let ys ← Builtin.List.listItems y
  for ((p,q),i) in (xs.toList.zip ys.toList).zipIdx do
   if !(← eqBool p q) then return ← oneLt' (c&&i==0) p q
  return xs.size<ys.size):=rfl
theorem wx {body:(Value×Value)×Nat->Option Bool×Unit->Sem (ForInStep (Option Bool×Unit))}{R:Option Bool×Unit->Shared->Prop}
  (hb:∀ (a b:Int) (t u:Tok) (i:Nat) (R':ForInStep (Option Bool×Unit)->Shared->Prop),R' (if a=b then .yield (none,()) else .done (some (decide (a<b)),())) s->wpAny (model prog w) A (body ((.int a t,.int b u),i) (none,())) R' E s)
  {vs:List Value}{k:List Int}(ia:IntsAre vs k):∀ {us:List Value}{k':List Int}(i:Nat),IntsAre us k'->R (eh k k',()) s->wpAny (model prog w) A (forIn ((vs.zip us).zipIdx i) (none,()) body) R E s:=by
 induction ia with
 | nil=>
  intro us k' i ib h
  rw [List.zip_nil_left,List.zipIdx_nil,List.forIn_nil]
  exact wpAny_pure h
 | cons a t r ih=>
  intro us k' i ib h
  induction ib with
  | nil=>
   rw [List.zip_nil_right,List.zipIdx_nil,List.forIn_nil]
   exact wpAny_pure h
  | cons b u q ih'=>
   rw [List.zip_cons_cons,List.zipIdx_cons,List.forIn_cons]
   refine wpAny_bind (hb a b t u i _ ?_)
   by_cases e:a=b
   ·rw [if_pos e]
    exact ih (i+1) q (by rw [eh,if_pos e] at h; exact h)
   ·rw [if_neg e]
    exact wpAny_pure (by rw [eh,if_neg e] at h; exact h)
theorem th (c:Bool) {x y:Value}{k k':List Int}{Q:Bool->Shared->Prop}(hx:KeyOf s.heap x k) (hy:KeyOf s.heap y k') (h:Q (ltL k k') s):wpAny (model prog w) A (keyLt' (tuples' c) x y) Q E s:=by
 refine aI (hx) fun a vs n G5 ea ia=>?_
 try clear hx
 subst G5
 refine aI (hy) fun b us m G6 eb ib=>?_
 try clear hy
 subst G6
 rw [oS]
 refine wpAny_bind (listItems_at ea rfl (wpAny_bind (listItems_at eb rfl ?_)))
 simp only [List.toList_toArray]
 refine wpAny_bind (wx (fun p q t u i R' hR=>?_) ia 0 ib ?_)
 ·dsimp only
  refine wpAny_bind (wpAny_eqBool_int ?_)
  by_cases e:p=q
  ·subst e
   rw [if_pos rfl] at hR
   rw [if_neg (by simp)]
   exact wpAny_pure hR
  ·rw [if_neg e] at hR
   rw [if_pos (by simpa using e)]
   exact wpAny_bind (rA _ (wpAny_pure hR))
 ·rw [j9] at h
  have l1:=ia.length
  have l2:=ib.length
  cases e:eh k k' with
  | none=>
   rw [e] at h
   refine wpAny_pure ?_
   simp only [List.size_toArray]
   rw [← l1,← l2] at h
   exact h
  | some r=>rw [e] at h; exact wpAny_pure h
theorem jV (v:Value):firstOfTuple' v=(do
  if (← typeOf v) != .type "tuple" then return none
  return (← Builtin.List.listItems v)[0]?):=rfl
theorem jJ {Q:List (Option Value)->Shared->Prop}:∀ {ks:List (List Int)}{vs:List Value},vs.length=ks.length->(∀ (i:Nat) (v:Value) (k:List Int),vs[i]? = some v->ks[i]? = some k->KeyOf s.heap v k/\k≠[])->(∀ fs:List Value,fs.length=vs.length->(∀ f∈fs,∃ a t,f = .int a t)->Q (fs.map some) s)->wpAny (model prog w) A (vs.mapM firstOfTuple') Q E s
 | [],[],_,_,h=>by rw [List.mapM_nil]; exact wpAny_pure (h [] rfl fun uu q=>nomatch q)
 | [],_::_,hl,_,_=>by simp at hl
 | _::_,[],hl,_,_=>by simp at hl
 | k::ks,v::vs,hl,hk,h=>by
  refine ae (hk 0 v k rfl rfl) fun G7 hne=>?_
  refine aI (G7) fun a us n G8 ea ia=>?_
  try clear G7
  subst G8
  rw [List.mapM_cons]
  refine wpAny_bind ?_
  rw [jV]
  refine wpAny_bind (wpAny_typeOf (T := "tuple") (ah _ ea rfl) ?_)
  rw [if_neg (by decide)]
  refine wpAny_bind (listItems_at ea rfl (wpAny_pure ?_))
  cases ia with
  | nil=>exact absurd rfl hne
  | cons x t r=>
   refine wpAny_bind (jJ (ks:=ks) (vs:=vs) (by simpa using hl) (fun i v k h1 h2=>hk (i+1) v k (by simpa using h1) (by simpa using h2)) fun fs hfl hfs=>wpAny_pure ?_)
   have:=h (.int x t::fs) (by simp [hfl]) (fun f hf=>(List.mem_cons.mp hf).elim (fun e=>(bD x t e)) (hfs f))
   simpa using this
theorem mI {Q:List Value->Shared->Prop}:∀ {fs:List Value},(∀ f∈fs,∃ a t,f = .int a t)->Q (fs.map fun uu=>.type "int") s->wpAny (model prog w) A (fs.mapM typeOf) Q E s
 | [],_,h=>by rw [List.mapM_nil]; exact wpAny_pure h
 | f::fs,hf,h=>by
  refine bg (hf f (.head _)) fun a t G9=>?_
  subst G9
  rw [List.mapM_cons]
  refine wpAny_bind (wpAny_pure (wpAny_bind (mI (fs:=fs) (fun f h=>hf f (.tail _ h)) (wpAny_pure h))))
theorem uh {ks:List (List Int)}{vs:List Value}{Q:SortKind->Shared->Prop}(hl:vs.length=ks.length) (h1:1≤vs.length) (hk:∀ (i:Nat) (v:Value) (k:List Int),vs[i]? = some v->ks[i]? = some k->KeyOf s.heap v k/\k≠[]) (h:Q (tuples' true) s):wpAny (model prog w) A (keyKind' vs.toArray) Q E s:=by
 rw [keyKind'_eq,List.mapM_toArray,map_eq_pure_bind]
 refine wpAny_bind (wpAny_bind (jJ hl hk fun fs hfl hfs=>wpAny_pure ?_))
 have hall:((fs.map some).toArray.all fun x=>x.isSome)=true:=by simp
 rw [if_pos hall]
 refine wpAny_bind (wpAny_rule ?_)
 have hfm:((fs.map some).toArray.filterMap id)=fs.toArray:=by simp
 rw [hfm,oneTypeOnly'_eq,List.mapM_toArray,map_eq_pure_bind]
 refine wpAny_bind (wpAny_bind (wpAny_bind (mI hfs (wpAny_pure ?_))))
 obtain ⟨f₁,fr,rfl⟩:∃ f₁ fr,fs=f₁::fr:=by
  cases fs with
  | nil=>simp at hfl; exact CU h1 hfl
  | cons f₁ fr=>exact (bD f₁ fr rfl)
 have hall2:((List.map (fun uu=>Value.type "int") (f₁::fr)).toArray.all fun x=>x==Value.type "int")=true:=by
  simp only [List.all_toArray,List.all_map,List.all_eq_true]
  intro _ _
  rfl
 have h0:(List.map (fun uu=>Value.type "int") (f₁::fr)).toArray[0]? = some (Value.type "int"):=by simp
 rw [h0]
 simp only [hall2,if_true]
 exact wpAny_pure (wpAny_pure h)
end
end Mine
namespace Mine
open PySem PyProof.Rows
section
theorem vW (hlt:io gM gA gE gs gr go gk) {st:SortSt}{Q:Unit->SortSt->Prop}(g:Gd gr go gk st) (h2:2≤(arrOf st).size) (h64:(arrOf st).size<64) (hp:pendingOf st = #[]) (hf:failedOf st=none)
  (h:∀ st',(arrOf st').Perm (arrOf st)->Up gr (arrOf st').toList->failedOf st' = none->Q () st'):wpS gM gA gE gs sortRuns' Q st:=by
 rw [sortRuns'_eq]
 refine wpS_bind (wpS_get ?_)
 dsimp only
 generalize hN:(arrOf st).size=N at *
 have hm:minRun' N N 0=N:=by
  obtain ⟨f,rfl⟩:∃ f,N=f+1:=⟨N-1,by exact Bw h2⟩
  rw [minRun'_succ,if_pos h64]
 rw [hm]
 refine wpS_bind (wpS_mono (wpS_forRange (I:=fun x c st'=>(x=0/\c=(none,0)/\st' = st)\/(c=(none,N)/\Ph1 gr st st' N)) (Q:=fun c st'=>c=(none,N)/\Ph1 gr st st' N) ?_ ?_ (.inl ⟨rfl,rfl,rfl⟩)) ?_)
 ·rintro x c st' _ hx (⟨rfl,rfl,rfl⟩ | ⟨rfl,p1⟩)
  ·dsimp only
   rw [if_neg (by exact Nat.not_le_of_lt (by assumption))]
   refine wpS_bind (pX hlt g (by exact Ck hN) (by assumption) fun n st1 n1 n2 wn up=>?_)
   dsimp only
   by_cases c:n<N
   ·rw [if_pos c]
    refine wpS_bind (oN (wpS_bind (sX hlt (g.of wn) (by rw [wn.size]; exact Eu hN) (by exact DA c) up fun st2 wn2 up2=>?_)))
    rw [if_neg (by decide)]
    refine wpS_bind (wpS_get ?_)
    have ep:pendingOf st2 = #[]:=by rw [wn2.pend,wn.pend,hp]
    have em:min (N-0) N=N:=by exact Ev
    rw [em] at up2 ⊢
    rw [show (pendingOf st2).back? = none by rw [ep]; rfl]
    refine wpS_bind (wpS_modify (wpS_pure (.inr ⟨by rw [Nat.zero_add],⟨wn2.perm.trans wn.perm,wn2.kind.trans wn.kind,wn2.fail.trans (wn.fail.trans hf),?_,up2⟩⟩)))
    show (pendingOf st2).push (0,N,0)=_
    rw [ep]; rfl
   ·rw [if_neg c]
    obtain rfl:n=N:=by exact DJ n2 c
    refine wpS_bind (wpS_get ?_)
    have ep:pendingOf st1 = #[]:=by rw [wn.pend,hp]
    rw [show (pendingOf st1).back? = none by rw [ep]; rfl]
    refine wpS_bind (wpS_modify (wpS_pure (.inr ⟨by rw [Nat.zero_add],⟨wn.perm,wn.kind,wn.fail.trans hf,?_,up⟩⟩)))
    show (pendingOf st1).push (0,n,0)=_
    rw [ep]; rfl
  ·dsimp only
   rw [if_pos (Nat.le_refl _)]
   exact wpS_pure ⟨rfl,p1⟩
 ·rintro c st' (⟨e,_⟩ | q)
  ·exact BP h2 e
  ·exact q
 ·intro c st' G4
  refine ae (G4) fun G5 p1=>?_
  try clear G4
  subst G5
  dsimp only
  have hs1:(arrOf st').size=N:=by rw [p1.perm.size_eq,hN]
  have up1:Up gr (arrOf st').toList:=by
   have:=zQ p1.up (by exact El hs1)
   rwa [List.drop_zero,List.take_of_length_le (by rw [Array.length_toList]; exact DS hs1)] at this
  refine wpS_bind (wpS_mono (wpS_forRange (I:=fun x c st''=>c=(none,())/\st'' = st') (Q:=fun c st''=>c=(none,())/\st'' = st') ?_ ?_ ⟨rfl,rfl⟩) ?_)
  ·intro x c st1 _ hx G6
   refine ae (G6) fun G7 G8=>?_
   try clear G6
   subst G7
   (clear hs1 up1; subst G8)
   refine wpS_bind (wpS_get ?_)
   rw [if_pos (by rw [p1.pend]; exact Nat.le_refl _)]
   exact wpS_pure ⟨rfl,rfl⟩
  ·rintro c st1 q; exact q
  ·intro c st1 G9
   refine ae (G9) fun Ha Hc=>?_
   try clear G9
   subst Ha
   (clear hs1; subst Hc)
   exact wpS_pure (h _ p1.perm up1 p1.fail)
end
theorem zg:kH sg:=fun hlt _ _ g h2 h64 hp hf h=>vW hlt g h2 h64 hp hf h
section
variable {A:Around}{E:Value->Shared->Prop}{s:Shared}{rk:Keyed->Nat}{ok:Keyed->Prop}{κ:SortKind}
theorem rB (hlt:io (model prog w) A E s rk ok κ) {st:SortSt}{Q:Unit->SortSt->Prop}(g:Gd rk ok κ st) (h2:2≤(arrOf st).size) (h64:(arrOf st).size<64) (hp:pendingOf st = #[]) (hf:failedOf st=none)
  (h:∀ st',(arrOf st').Perm (arrOf st)->Up rk (arrOf st').toList->failedOf st' = none->Q () st'):wpS (model prog w) A E s sortRuns' Q st:=z8 zg ⟨A,E,s,rk,ok,κ⟩ hlt g h2 h64 hp hf h
end
section
variable {A:Around}{E:Value->Shared->Prop}{s:Shared}
end
end Mine
namespace Mine
open PySem PyProof.Rows
section
variable {A:Around}{E:Value->Shared->Prop}
theorem Kp.wr {s0 s:Shared}{a:Addr}{xs:Array Value}{n:Nat}{h':Heap}(k:Kp s0 s) (e:s.heap.get? a=some (seqObj "list" xs n)) (h0:s0.heap.get? a=Option.none) (hs:Heap.SameBut a s.heap h'):Kp s0 {s with heap:=h' }:=by
 revert k; intro Ij
 refine av (Ij) fun h tk G5 k=>?_
 try clear Ij
 subst G5
 refine ⟨h',tk,rfl,K.same k hs h0 fun o q=>?_⟩
 rw [e] at q; (have oc:=Option.some.inj q; clear q; subst oc); exact Stay.not_list
theorem uY {α:Type}{R:α->α->Prop}{l:List α}(h:l.length≤1):l.Pairwise R:=by
 rcases l with _ | ⟨x,_ | ⟨y,l⟩⟩
 ·exact .nil
 ·exact List.pairwise_singleton ..
 ·cases h with
  | step h=>cases h
theorem iB {α β:Type}(a:Array α) (b:List β):(a.zip b.toArray).toList=a.toList.zip b:=by
 first
  | simp
  | (cases a; simp)
theorem qC {α β:Type}{a:List α}{b:List β}{i:Nat}{x:α}{y:β}(h1:a[i]? = some x) (h2:b[i]? = some y):(a.zip b)[i]? = some (x,y):=List.getElem?_zip_eq_some.mpr ⟨h1,h2⟩
end
end Mine
namespace Mine
open PySem PyProof.Rows
section
variable {A:Around}{E:Value->Shared->Prop}{s:Shared}
end
end Mine
namespace Mine
open PySem PyProof.Rows
theorem fM {α:Type}:∀ {ns:List Str}{vs:List α}{n:Str},vs.length=ns.length->n∈ns->((ns.zip vs).lookup n).isNone=false
 | [],_,_,_,h=>nomatch h
 | m::ns,[],_,h,_=>by simp at h
 | m::ns,v::vs,n,hl,h=>by
  rw [List.zip_cons_cons,List.lookup_cons]
  by_cases e:n=m
  ·(clear h hl; subst e); simp
  ·have e':(n==m)=false:=by simpa using e
   rw [e']
   exact fM (by simpa using hl) ((List.mem_cons.mp h).resolve_left e)
theorem iD:∀ {ns:List Str}{vs:List Value},ns.Nodup->vs.length=ns.length->(ns.filterMap fun n=>((ns.zip vs).lookup n).map (n,·))=ns.zip vs
 | [],_,_,_=>rfl
 | m::ns,[],_,h=>by simp at h
 | m::ns,v::vs,hn,hl=>by
  rw [List.nodup_cons] at hn
  rw [List.filterMap_cons]
  simp only [List.zip_cons_cons,List.lookup_cons,beq_self_eq_true,Option.map_some]
  congr 1
  have ih:=iD hn.2 (vs:=vs) (by simpa using hl)
  have key:∀ (l:List Str),(∀ n∈l,n≠m)->(l.filterMap fun n=>(match n==m with | true=>some v | false=>(ns.zip vs).lookup n).map (n,·))=l.filterMap fun n=>((ns.zip vs).lookup n).map (n,·):=by
   intro l hl'
   induction l with
   | nil=>rfl
   | cons n l ihl=>
    have e':(n==m)=false:=beq_eq_false_iff_ne.mpr (hl' n (.head _))
    rw [List.filterMap_cons,List.filterMap_cons,ihl fun x hx=>hl' x (.tail _ hx)]
    simp only [e']
  exact (key ns fun n hn' e=>hn.1 (e▸hn')).trans ih
theorem pb {α β:Type}(a:α) (f:α->Sem β):((pure a:Sem α)>>=f)=f a:=rfl
theorem As {α β γ:Type}{l:List α}{i:β}{f:α->β->Sem (ForInStep β)}{k:β->Sem γ}{z:Sem γ}(h:l=[]) (e:k i=z):(forIn l i f>>=k)=z:=by subst h; exact e
theorem tX {α:Type}{c:Prop} [Decidable c] {x y z:α}(h:¬ c) (e:y=z):(if c then x else y)=z:=(if_neg h).trans e
theorem rV {fd:FuncData}{ps:List Str}{vals:List Value}(h1:fd.params.posonlyargs=[]) (h2:fd.params.args.map (·.arg)=ps) (h3:fd.params.vararg=none) (h4:fd.params.kwonlyargs=[]) (h5:fd.params.kwarg=none) (h6:fd.defaults = .none)
  (hn:ps.Nodup) (hl:vals.length=ps.length):bindArgs fd ⟨vals,[]⟩=pure (ps.zip vals):=by
 obtain ⟨nm,qn,⟨po,ar,va,ko,kd,kw,df⟩,bd,sc,gl,cl,de,kwd,doc,pm,an,cd,ct,bu⟩:=fd
 dsimp only at h1 h2 h3 h4 h5 h6
 subst h1 h3 h4 h5 h6
 have e2:(ps.take ps.length).filter (fun n=>((ps.zip vals).lookup n).isNone)=[]:=by
  rw [List.take_length,List.filter_eq_nil_iff]
  intro n hn'
  rw [fM hl hn']
  simp
 have e3:(ps++[]).filterMap (fun n=>((ps.zip vals).lookup n).map fun x=>(n,x))=ps.zip vals:=by rw [List.append_nil]; exact iD hn hl
 subst h2
 refine tX (c:=(decide (vals.length>(ar.map (·.arg)).length)&&true)=true) (by rw [hl]; simp) ?_
 have e0:List.drop (0-(ar.map (·.arg)).length) ([]:List Value)=[]:=List.drop_nil
 refine tX (c:=(!(((ar.map (·.arg)).take ((ar.map (·.arg)).length-(List.drop (0-(ar.map (·.arg)).length) ([]:List Value)).length)).filter fun n=>(((ar.map (·.arg)).zip vals).lookup n).isNone).isEmpty)=true) (by rw [e0]; show ¬ (!(((ar.map (·.arg)).take (ar.map (·.arg)).length).filter fun n=>(((ar.map (·.arg)).zip vals).lookup n).isNone).isEmpty)=true; rw [e2]; simp) ?_
 refine As (l:=((ar.map (·.arg)).drop ((ar.map (·.arg)).length-(List.drop (0-(ar.map (·.arg)).length) ([]:List Value)).length)).zip (List.drop (0-(ar.map (·.arg)).length) ([]:List Value))) (by rw [e0]; exact List.zip_nil_right) ?_
 exact congrArg (fun x=>(pure x:Sem _)) e3
section
variable {M:Model}{A:Around}{E:Value->Shared->Prop}{s:Shared}
end
section
variable {A:Around}{s:Shared}
end
end Mine
namespace Mine
open PySem PyProof.Rows
section
variable {fns:Fns}{k:Nat}{C:Calls}{XP:String->Shared->Value->Shared->Prop}
end
end Mine
namespace Mine
open PySem PyProof.Rows
def RawD (h:Heap) (d:Addr) (es:Array DictEntry) (ep:Nat):Prop:=∃ o,h.get? d=some o/\o.cls = .type "dict" /\ o.data = .dict es ep
theorem RawD.typ {s:Shared}{d:Addr}{es:Array DictEntry}{ep:Nat}(x:RawD s.heap d es ep):s.TypeIs (.ref d) "dict" := ao (x) fun o h1 h2 uu=>(ah o h1 h2)
theorem RawD.at {h h':Heap}{d:Addr}{es:Array DictEntry}{ep:Nat}(x:RawD h d es ep) (k:∀ o,h.get? d=some o->h'.get? d=some o):RawD h' d es ep:=af (x) fun o h1 r=>(ah o (k o h1) r)
section
variable {A:Around}{E:Value->Shared->Prop}{s:Shared}{d it:Addr}{es:Array DictEntry}{ep i:Nat}
theorem vD {Q:Value->Shared->Prop}(hd:(d==sysModules)=false) (hm:RawD s.heap d es ep)
  (hQ:Q (.ref s.heap.objs.size) {s with heap:=s.heap.push {cls:=.type "dict_keyiterator", data:=.fields #[.ref d,.int 0 0,.int es.size 0,.int ep 0] } }) :
  wpAny (model prog w) A (pyIter (.ref d)) Q E s:=by
 have hT:=hm.typ
 refine ao (hm) fun o ho hc hdat=>?_
 try clear hm
 refine wpAny_pyIter_slot hT F.slot_dict_iter (wpAny_call_entry F.slot_dict_iter hT F.entry_dict_iter ?_ (F.args_dict_iter_1 _))
 unfold Builtin.«dict.__iter__»
 refine wpAny_bind ?_
 unfold Builtin.Dict.dictSlotNone
 refine wpAny_bind (wpAny_notOrdered_dict hT (wpAny_pure ?_))
 show wpAny _ _ (Builtin.Dict.showsAll d>>=_) _ _ s
 unfold Builtin.Dict.showsAll
 rw [if_neg (by rw [hd]; exact Bool.false_ne_true)]
 refine wpAny_bind (wpAny_pure (wpAny_bind (wpAny_dictEntries ho hdat (wpAny_bind (wpAny_dictEpoch ho hdat ?_)))))
 refine wpAny_bind (wpAny_newObj_type (wpAny_pure (ah _ rfl (aO ("dict_keyiterator") _ (ah _ (Heap.get?_push_size _ rfl) rfl) F.slot_dict_keyiterator_next.lookup ?_))))
 simpa [rawInt] using hQ
theorem pi {Q:Option Value->Shared->Prop}(hh:A.handled=none) (hit:s.heap.IsKeyIter it d i es.size ep) (hm:RawD s.heap d es ep)
  (hQ:∀ (hi:i<es.size) h',h'.IsKeyIter it d (i+1) es.size ep->Heap.SameBut it s.heap h'->Q (some es[i].key) {s with heap:=h' })
  (hE:es.size≤i->∀ h',Heap.ExtBut it s.heap h'->Q none {s with heap:=h' }):wpAny (model prog w) A (pyNext (.ref it)) Q E s:=by
 refine ao (id hit) fun o ho hc hd=>?_
 refine ao (hm) fun od hod hcd hdd=>?_
 try clear hm
 unfold pyNext
 refine wpAny_bind (wpAny_attempt (wpAny_callSpecial?_slot (name:=Str.ofString "__next__") hit.typeIs F.slot_dict_keyiterator_next
  (wpAny_call_entry F.slot_dict_keyiterator_next hit.typeIs F.entry_dict_keyiterator_next ?_ (F.args_dict_keyiterator_next_1 _))))
 refine wpAny_bind (wpAny_pure (wpAny_bind (wpAny_bind ?_)))
 first | refine wpAny_bind (wpAny_typeNameOfWhole_keyiter hit.typeIs (wpAny_pure ?_)) | refine wpAny_bind (wpAny_typeNameOf_keyiter hit.typeIs (wpAny_pure ?_))
 refine wpAny_bind (wpAny_fieldsOf ho hd ?_)
 have hown:Builtin.Dict_items.ownsTuple "dict_keyiterator" = false:=by decide
 rw [hown,if_neg Bool.false_ne_true]
 show wpAny _ _ (if (Value.ref d==Value.none)=true then _ else _) _ _ s
 rw [if_neg (show ¬ ((Value.ref d==Value.none)=true) from Bool.false_ne_true)]
 refine wpAny_bind (wpAny_pure (wpAny_bind (wpAny_dictEntries hod hdd ?_)))
 rw [if_neg (by simp)]
 refine wpAny_bind (wpAny_pure (wpAny_bind (wpAny_dictEpoch hod hdd ?_)))
 rw [if_neg (by simp)]
 refine wpAny_pure ?_
 by_cases hi:i<es.size
 ·dsimp only
  rw [if_neg (show ¬ ((i:Int)<0) from by exact x6),Int.toNat_natCast,Array.getElem?_eq_getElem hi]
  dsimp only
  refine wpAny_bind ?_
  first | refine wpAny_bind (wpAny_typeNameOfWhole_keyiter hit.typeIs (wpAny_pure ?_)) | refine wpAny_bind (wpAny_typeNameOf_keyiter hit.typeIs (wpAny_pure ?_))
  refine wpAny_bind (wpAny_isOneOf_keyiter hit.typeIs ?_)
  show wpAny _ _ (setField (.ref it) 1 (rawInt ((i:Int)+1))>>=_) _ _ s
  refine wpAny_bind (wpAny_setField ho hd (by simp) ?_)
  have hit':(s.heap.update it (Obj.mapFields (·.setIfInBounds 1 (rawInt ((i:Int)+1))))).IsKeyIter it d (i+1) es.size ep :=
   (aC _ (Heap.get?_update_self _ ho (Obj.isFreed_of_fields (Obj.data_mapFields hd _))) ((Obj.cls_mapFields ..).trans hc) (by rw [Obj.data_mapFields hd]; simp [rawInt]))
  refine wpAny_bind (wpAny_holding (wpAny_bind (wpAny_isOneOf_keyiter (s:={s with heap:=s.heap.update it (Obj.mapFields (·.setIfInBounds 1 (rawInt ((i:Int)+1)))) }) hit'.typeIs ?_)))
  show wpAny _ _ (pure es[i].key) _ _ _
  exact wpAny_pure (wpAny_pure (ah _ rfl (wpAny_pure (hQ hi _ hit' (Heap.SameBut.update ..)))))
 ·have hge:es.size≤i:=by exact Bm hi
  dsimp only
  rw [if_neg (show ¬ ((i:Int)<0) from by exact x6),Int.toNat_natCast,Array.getElem?_eq_none hge]
  dsimp only
  refine wpAny_bind ?_
  first | refine wpAny_bind (wpAny_typeNameOfWhole_keyiter hit.typeIs (wpAny_pure ?_)) | refine wpAny_bind (wpAny_typeNameOf_keyiter hit.typeIs (wpAny_pure ?_))
  show wpAny _ _ (setField (.ref it) 0 .none>>=_) _ _ s
  refine wpAny_bind (wpAny_setField ho hd (by simp) ?_)
  show wpAny _ _ (newExc (.type "StopIteration") []>>=_) _ _ _
  refine wpAny_bind ?_
  simp only [newExc,newTuple]
  refine wpAny_bind (wpAny_newObj_type ?_ (by size_fits))
  refine wpAny_bind (m:=firstArgMember _ _) (wpAny_of_eq (a:=Value.none) (by first | rfl | (simp only [firstArgMember]; rfl)) ?_)
  refine wpAny_newObj_type ?_ (by size_fits)
  simp only [raiseNew]
  refine wpAny_bind (wpAny_handled ?_)
  rw [show A.in1.handled=none from hh]
  refine wpAny_bind (wpAny_pure (wpAny_throw ?_))
  refine wpAny_bind (wpAny_isInstance (T := "StopIteration") (b:=true) (ah _ (Heap.get?_push_size _ rfl) rfl) isSubtype_stop ?_)
  exact wpAny_pure (hE hge _ (((Heap.SameBut.update ..).extBut.push _).push _))
end
theorem sT {A:Around}(hh:A.handled=none) (I d:Addr) (hne:d≠I) (es:Array DictEntry) (ep:Nat) :
  Walks prog w A I [I,d] [I] es.size (fun i v=>∃ hi:i<es.size,v=es[i].key) (fun i h=>h.IsKeyIter I d i es.size ep/\RawD h d es ep) where
 sub:=fun b hb=>by simp at hb; simp [hb]
 frame:=fun uu uu uu st hk=>⟨st.1.at fun o e=>hk I (by simp) o e,st.2.at fun o e=>hk d (by simp) o e⟩
 item:=fun i s Q E hi st hQ=>pi hh st.1 st.2 (fun hi' h' hit' hs'=>hQ _ h' s.toks ⟨hi',rfl⟩ ⟨hit',st.2.at fun o e=>hs'.extBut d o hne e⟩ fun b o hb e=>hs'.extBut b o (fun h=>hb (by simp [h])) e) fun hge=>absurd hi (Nat.not_lt.mpr hge)
 done:=fun s Q E st hQ=>pi hh st.1 st.2 (fun hi=>absurd hi (Nat.lt_irrefl _)) fun uu h' he'=>hQ h' s.toks fun b o hb e=>he' b o (fun h=>hb (by simp [h])) e
 self:=fun uu uu uu uu st hQ=>wpAny_pyIter_keyiter st.1 hQ
section
variable {A:Around}{E:Value->Shared->Prop}{s:Shared}{d S:Addr}{es:Array DictEntry}{ep:Nat}
theorem tZ {Q:Bool->Shared->Prop}(hT:s.TypeIs (.ref d) "dict") (h:Q false s):wpAny (model prog w) A (Builtin.List.listLengthHint (.ref d)) Q E s:=by
 unfold Builtin.List.listLengthHint
 refine wpAny_bind (wpAny_specialOf hT PySem.F.slot_dict_len.lookup ?_)
 generalize hid:("dict.__len__" : String)=id0
 wp_delta
 rw [show splitId id0=some ("dict", "__len__") from by subst hid; decide +kernel]
 subst hid
 refine wpAny_bind (wpAny_isInstance (T := "dict") (b:=true) hT (by rw [isSubtype_type]; kernel_rfl) ?_)
 refine wpAny_ite_split (fun q=>absurd q (by decide)) fun uu=>wpAny_ite_split (fun uu=>wpAny_bind (wpAny_typeOf hT (wpAny_pure h))) fun q=>absurd (by decide +kernel) q
theorem rX {R:Result->Shared->Prop}(lo:(d==sysModules)=false) (hh:A.handled=none) (hm:RawD s.heap d es ep) (hn:es.size≤sizeLine) (hSd:S≠d) {c₀:Nat}(hS:s.heap.get? S=some {cls:=.type "list", data:=.seq #[] c₀ })
  (hR:∀ h' tk acc' c',(∀ b o,b≠S->s.heap.get? b=some o->h'.get? b=some o)->h'.get? S=some {cls:=.type "list", dict:=none,data:=.seq acc' c',slots:=#[] }->ItemsOf (fun i v=>∃ hi:i<es.size,v=es[i].key) acc' es.size->R (.ok (.ret .none)) {s with heap:=h',toks:=tk }) :
  wpAny (model prog w) A.in1 (Builtin.List.listExtendWith (.ref S) (.ref d) .none)
   (fun fin s'=>match fin with | .done f=>R (.ok f) s' | .again c'=>c'.quiet=true/\codeAny (model prog w) A c' R s') (fun e s'=>R (.error e) s') s:=by
 have hSI:S≠s.heap.objs.size:=Nat.ne_of_lt (Heap.lt_size hS)
 have hdI:d≠s.heap.objs.size:=af (hm) fun uu e uu=>Nat.ne_of_lt (Heap.lt_size e)
 have hSf:S∉[s.heap.objs.size,d]:=by simp only [List.mem_cons,List.not_mem_nil,or_false,not_or]; exact ⟨hSI,hSd⟩
 have W:=sT (A:=A.in1) hh s.heap.objs.size d hdI es ep
 have loop:∀ (h:Heap) (c₁ tk:Nat),(h.IsKeyIter s.heap.objs.size d 0 es.size ep/\RawD h d es ep)->(∀ b o,b≠S->s.heap.get? b=some o->h.get? b=some o) ->
   h.get? S=some {cls:=.type "list", data:=.seq #[] c₁ }->codeAny (model prog w) A (.builtin "list.extend.loop" ⟨[.ref S,.ref s.heap.objs.size,.none],[]⟩) R {s with heap:=h,toks:=tk }:=fun h c₁ tk hst hk hS₁=>by
  refine codeAny_extend_loopS W.toS hn S hSf .none es.size 0 _ #[] c₁ rfl (Nat.zero_le _) hst hS₁ (ItemsOf.nil _) fun s' acc' c' hmv hS' hacc=>?_
  rw [Moved.eq_with hmv]
  refine hR s'.heap s'.toks acc' c' (fun b o hb e=>hmv.heap b o (fun hmem=>?_) (hk b o hb e)) hS' hacc
  rcases List.mem_cons.mp hmem with e' | hmem
  ·exact hb e'
  ·exact absurd (Heap.lt_size e) (by rw [List.mem_singleton.mp hmem]; exact Nat.lt_irrefl _)
 unfold Builtin.List.listExtendWith
 refine wpAny_bind (wpAny_typeOf (T := "dict") hm.typ ?_)
 have h1:Builtin.List.listSameRef (.ref S) (.ref d)=false:=by simp [Builtin.List.listSameRef,hSd]
 simp only [h1,show (Value.type "dict" == Value.type "list")=false by decide,show (Value.type "dict" == Value.type "tuple")=false by decide,Bool.or_false,Bool.false_eq_true,if_false]
 refine wpAny_bind (vD lo hm ?_)
 have hS₁:=Heap.get?_push_of_some {cls:=.type "dict_keyiterator", data:=.fields #[.ref d,.int 0 0,.int es.size 0,.int ep 0] } hS
 have st:(s.heap.push {cls:=.type "dict_keyiterator", data:=.fields #[.ref d,.int 0 0,.int es.size 0,.int ep 0] }).IsKeyIter s.heap.objs.size d 0 es.size ep/\RawD (s.heap.push {cls:=.type "dict_keyiterator", data:=.fields #[.ref d,.int 0 0,.int es.size 0,.int ep 0] }) d es ep:=⟨(aC _ (Heap.get?_push_size _ rfl) rfl rfl),hm.at fun o e=>Heap.get?_push_of_some _ e⟩
 refine wpAny_bind (wpAny_holding (tZ st.2.typ ?_))
 refine wpAny_ite_split (fun uu=>?_) (fun uu=>wpAny_pure ⟨plainId_quiet PySem.F.plain_extend_loop _,loop _ c₀ _ st (fun b o _ e=>Heap.get?_push_of_some _ e) hS₁⟩)
 refine wpAny_bind (wpAny_rule (wpAny_bind ?_))
 show wpAny _ _ (updateSeq S (·.push .none)>>=fun uu=>updateSeq S (·.pop)) _ _ _
 refine wpAny_bind (wpAny_updateSeq hS₁ rfl ?_)
 have hS₂:=Heap.get?_update_self (Obj.mapSeq (·.push Value.none)) hS₁ rfl
 refine wpAny_updateSeq (hz:=by seq_fits) hS₂ rfl ?_
 have hS₃:=Heap.get?_update_self (Obj.mapSeq (·.pop)) hS₂ rfl
 refine wpAny_pure ⟨plainId_quiet PySem.F.plain_extend_loop _,loop _ _ _ ?_ (fun b o hb e=>?_) hS₃⟩
 ·refine W.frame 0 _ _ st fun b hb o e=>?_
  have hbS:b≠S:=fun h=>hSf (h▸hb)
  exact (Heap.get?_update_other _ _ (Ne.symm hbS)).trans ((Heap.get?_update_other _ _ (Ne.symm hbS)).trans e)
 ·exact (Heap.get?_update_other _ _ (Ne.symm hb)).trans ((Heap.get?_update_other _ _ (Ne.symm hb)).trans (Heap.get?_push_of_some _ e))
theorem wW {Q:Value->Shared->Prop}(lo:(d==sysModules)=false) (hh:A.handled=none) (hm:RawD s.heap d es ep) (hn:es.size≤sizeLine)
  (hQ:∀ h' tk acc' c',(∀ b o,s.heap.get? b=some o->h'.get? b=some o)->h'.get? s.heap.objs.size=some {cls:=.type "list", dict:=none,data:=.seq acc' c',slots:=#[] }->ItemsOf (fun i v=>∃ hi:i<es.size,v=es[i].key) acc' es.size->Q (.ref s.heap.objs.size) {s with heap:=h',toks:=tk }) :
  wpAny (model prog w) A (call (.type "list") [.ref d]) Q E s:=by
 refine callType_codes (Q₁:=fun obj s₁=>obj = .ref s.heap.objs.size/\s₁ = {s with heap:=s.heap.push {cls:=.type "list", data:=.seq #[] } }) PySem.F.called_list (PySem.F.typeCall_list_1 _) PySem.F.entry_list_init
  (code_list_new _ ⟨rfl,rfl⟩) fun obj s₁ h₁=>?_
 refine ae (h₁) fun G4 G5=>?_
 try clear h₁
 subst G4
 subst G5
 have hS:(s.heap.push {cls:=.type "list", data:=.seq #[] }).get? s.heap.objs.size=some {cls:=.type "list", data:=.seq #[] }:=Heap.get?_push_size _ rfl
 have hdS:s.heap.objs.size≠d:=af (hm) fun uu e uu=>Nat.ne_of_gt (Heap.lt_size e)
 refine ⟨(ah _ hS rfl),PySem.F.args_list_init_2 _ _,?_⟩
 show wpAny _ _ (do let old ← Builtin.List.listItems (.ref s.heap.objs.size); Builtin.List.listUpdate (.ref s.heap.objs.size) (fun uu=>#[]); letGo old.toList.reverse; Builtin.List.listExtendWith (.ref s.heap.objs.size) (.ref d) .none) _ _ _
 refine wpAny_bind ?_
 unfold Builtin.List.listItems
 refine wpAny_bind (wpAny_seqItems hS rfl (wpAny_pure ?_))
 show wpAny _ _ (updateSeq s.heap.objs.size (fun uu=>#[])>>=fun uu=>letGo (#[]:Array Value).toList.reverse>>=fun uu=>Builtin.List.listExtendWith (.ref s.heap.objs.size) (.ref d) .none) _ _ _
 refine wpAny_bind (wpAny_updateSeq hS rfl ?_)
 have hS₂:=Heap.get?_update_self (Obj.mapSeq (fun uu=>(#[]:Array Value))) hS rfl
 have oth:∀ b o,b≠s.heap.objs.size->s.heap.get? b=some o->((s.heap.push {cls:=.type "list", data:=.seq #[] }).update s.heap.objs.size (Obj.mapSeq (fun uu=>(#[]:Array Value)))).get? b=some o :=
  fun b o hb e=>(Heap.get?_update_other _ _ (Ne.symm hb)).trans (Heap.get?_push_of_some _ e)
 refine wpAny_bind (wpAny_letGo ?_)
 refine rX (A:=A.in1) (S:=s.heap.objs.size) (s:={s with heap:=(s.heap.push {cls:=.type "list", data:=.seq #[] }).update s.heap.objs.size (Obj.mapSeq (fun uu=>(#[]:Array Value))) }) lo hh (hm.at fun o e=>oth d o hdS.symm e) hn hdS hS₂ fun h' tk acc' c' hk hS' hacc=>?_
 exact ⟨rfl,hQ h' tk acc' c' (fun b o e=>hk b o (Nat.ne_of_lt (Heap.lt_size e)) (oth b o (Nat.ne_of_lt (Heap.lt_size e)) e)) hS' hacc⟩
end
end Mine
namespace Mine
open PySem PyProof.Rows
section
variable {A:Around}{E:Value->Shared->Prop}
theorem wD {rd:Value->List Int}{vs:List Value}{ks:List (List Int)}(hl:vs.length=ks.length) (hkey:∀ (i:Nat) (v:Value) (k:List Int),vs[i]? = some v->ks[i]? = some k->rd v=k):(vs.zip vs).map (fun p=>(rd p.1,p.2))=ks.zip vs:=by
 apply List.ext_getElem?
 intro i
 rw [List.getElem?_map]
 by_cases hi:i<ks.length
 ·have q2:ks[i]? = some ks[i]:=List.getElem?_eq_getElem hi
  have q3:vs[i]? = some vs[i]:=List.getElem?_eq_getElem (by exact CN hl hi)
  rw [qC q3 q3,qC q2 q3]
  simp only [Option.map_some]
  rw [hkey i _ _ q3 q2]
 ·rw [List.getElem?_eq_none (by rw [List.length_zip]; exact DX hl hi),List.getElem?_eq_none (by rw [List.length_zip]; exact Dd hi)]
  rfl
theorem oE {s0 s:Shared}{D:Addr}{vs:List Value}{ks:List (List Int)}{e1:Nat}{st:SortSt}{rd:Value->List Int}{P:PySem.Fin->Shared->Prop}(k0:Kp s0 s) (hD:s.heap.get? D=some (seqObj "list" #[] e1)) (f2:s0.heap.get? D=none)
  (hl:vs.length=ks.length) (h64:vs.length<64) (hkey:∀ (i:Nat) (v:Value) (k:List Int),vs[i]? = some v->ks[i]? = some k->rd v=k)
  (hp:(arrOf st).Perm (vs.toArray.zip vs.toArray)) (hu:(arrOf st).toList.Pairwise fun x y=>ltL (rd y.1) (rd x.1)=false) (hf:failedOf st=none)
  (h:∀ s' out c,Kp s0 s'->s'.heap.get? D=some (seqObj "list" out c)->(∃ ps:List (List Int×Value),ps.Perm (ks.zip vs)/\out.toList=ps.map (·.2)/\ps.Pairwise fun x y=>ltL y.1 x.1=false)->P (.done (.ret .none)) s') :
  wpAny (model prog w) A (do
   let sorted:=(arrOf st).map (·.2)
   let touched:=(← seqEpoch D) != e1
   Builtin.List.listUpdate (.ref D) fun uu=>sorted
   if let some e:=failedOf st then rule "list.sort.comparison-raised"; throw e
   if touched then rule "list.sort.modified"; raiseError "ValueError" "list modified during sort"
   ret .none) P E s:=by
 have s2:=Heap.SameBut.update s.heap D (Obj.mapSeq fun uu=>(arrOf st).map (·.2))
 obtain ⟨c2,hc2⟩:∃ c2,(s.heap.update D (Obj.mapSeq fun uu=>(arrOf st).map (·.2))).get? D=some (seqObj "list" ((arrOf st).map (·.2)) c2):=⟨_,get?_update_seq hD fun uu=>(arrOf st).map (·.2)⟩
 have hsz:(arrOf st).size=vs.length:=by rw [hp.size_eq,Array.size_zip]; simp
 have k2:=Kp.wr k0 hD f2 s2
 dsimp only
 refine wpAny_bind (seqEpoch_at hD rfl ?_)
 refine wpAny_bind (listUpdate_at hD rfl ?_ (Nat.zero_le _) (by rw [Array.size_map,hsz,sizeLine_eq]; exact Bj h64))
 rw [hf]
 simp only [bne_self_eq_false,Bool.false_eq_true,if_false]
 refine wpAny_pure (h _ _ c2 k2 hc2 (aC ((arrOf st).toList.map fun p=>(rd p.1,p.2)) ?_ ?_ ?_))
 ·have hl2:(arrOf st).toList.Perm (vs.zip vs):=by
   have:=Array.perm_iff_toList_perm.mp hp
   rwa [iB] at this
  exact (hl2.map _).trans (List.Perm.of_eq (wD hl hkey))
 ·rw [Array.toList_map,List.map_map]; rfl
 ·rw [List.pairwise_map]; exact hu
structure Keys (κ:SortKind) (Kd:Heap->Value->List Int->Prop) (ne:List (List Int)->Prop):Prop where
 fn:∀ {h:Heap}{v:Value}{k k':List Int},Kd h v k->Kd h v k'->k=k'
 kind:∀ {A:Around}{E:Value->Shared->Prop}{s:Shared}{ks:List (List Int)}{vs:List Value}{Q:SortKind->Shared->Prop},vs.length=ks.length->1≤vs.length->ne ks->(∀ (i:Nat) (v:Value) (k:List Int),vs[i]? = some v->ks[i]? = some k->Kd s.heap v k)->Q κ s->wpAny (model prog w) A (keyKind' vs.toArray) Q E s
 lt:∀ {A:Around}{E:Value->Shared->Prop}{s:Shared}{x y:Value}{k k':List Int}{Q:Bool->Shared->Prop},A.units<cLine->Kd s.heap x k->Kd s.heap y k'->Q (ltL k k') s->wpAny (model prog w) A (keyLt' κ x y) Q E s
section
variable {κ:SortKind}{Kd:Heap->Value->List Int->Prop}{ne:List (List Int)->Prop}
open Classical in
noncomputable def dQ (Kd:Heap->Value->List Int->Prop) (h:Heap) (v:Value):List Int:=if q:∃ k,Kd h v k then q.choose else []
theorem Keys.read (K:Keys κ Kd ne) {h:Heap}{v:Value}{k:List Int}(x:Kd h v k):dQ Kd h v=k:=by
 unfold dQ
 have q:∃ k,Kd h v k:=⟨k,x⟩
 rw [dif_pos q]
 exact K.fn q.choose_spec x
theorem Keys.ltOk (K:Keys κ Kd ne) {s:Shared}(hu:A.units<cLine) (ks:List (List Int)):io (model prog w) A E s (fun p=>rkL ks (dQ Kd s.heap p.1)) (fun p=>∃ k∈ks,Kd s.heap p.1 k) κ:=by
 intro x y st Q hx hy hk h
 revert hx; intro IE
 refine af (IE) fun k hm hx=>?_
 try clear IE
 revert hy; intro Ij
 refine af (Ij) fun k' hm' hy=>?_
 try clear Ij
 have e:(some (decide ((fun p:Keyed=>rkL ks (dQ Kd s.heap p.1)) x<(fun p:Keyed=>rkL ks (dQ Kd s.heap p.1)) y)))=some (ltL k k'):=by
  rw [tY hm hm',← K.read hx,← K.read hy]
 rw [e] at h
 rw [lt'_eq]
 refine wpS_bind (wpS_get ?_)
 rw [hk]
 refine wpS_bind (wpS_lift (wpAny_attempt (K.lt hu hx hy ⟨rfl,?_⟩)))
 exact wpS_pure h
set_option maxHeartbeats 4000000 in
theorem lN (K:Keys κ Kd ne) {s0 s:Shared}{D:Addr}{vs:List Value}{ks:List (List Int)}{n:Nat}{P:PySem.Fin->Shared->Prop}(hun:A.units<cLine) (ho:s.heap.get? D=some (seqObj "list" vs.toArray n)) (f2:s0.heap.get? D=none) (k0:Kp s0 s)
  (hl:vs.length=ks.length) (h64:vs.length<64) (hne:ks.length<2\/ne ks) (hkey:∀ H,KG (fun b=>b≠D) s.heap H->∀ (i:Nat) (v:Value) (k:List Int),vs[i]? = some v->ks[i]? = some k->Kd H v k)
  (h:∀ s' out c,Kp s0 s'->s'.heap.get? D=some (seqObj "list" out c)->(∃ ps:List (List Int×Value),ps.Perm (ks.zip vs)/\out.toList=ps.map (·.2)/\ps.Pairwise fun x y=>ltL y.1 x.1=false)->P (.done (.ret .none)) s') :
  wpAny (model prog w) A (Builtin.«list.sort» ⟨[.ref D],[]⟩) P E s:=by
 rw [list_sort_plain]
 have s1:=Heap.SameBut.update s.heap D (Obj.mapSeq fun uu=>(#[]:Array Value))
 obtain ⟨e1,ho1⟩:∃ e1,(s.heap.update D (Obj.mapSeq fun uu=>(#[]:Array Value))).get? D=some (seqObj "list" #[] e1):=⟨_,get?_update_seq ho fun uu=>#[]⟩
 have k1:=Kp.wr k0 ho f2 s1
 refine wpAny_bind (listItems_at ho rfl ?_)
 refine wpAny_bind (listUpdate_at ho rfl ?_ (by rw [List.size_toArray,sizeLine_eq]; exact yh h64) (Nat.zero_le _))
 refine wpAny_bind (seqEpoch_at ho1 rfl ?_)
 refine wpAny_bind (wpAny_newTuple ?_ (by show vs.length≤_; rw [sizeLine_eq]; exact yh h64))
 refine wpAny_bind (wpAny_newList ?_ (Nat.zero_le _))
 refine wpAny_holding ?_
 have k3:Kp s0 {s with heap:=((s.heap.update D (Obj.mapSeq fun uu=>(#[]:Array Value))).push (seqObj "tuple" vs.toArray 0)).push (seqObj "list" #[] 0) }:=(k1.trans (.push _ _ s.toks)).trans (.push _ _ s.toks)
 have hD3:(((s.heap.update D (Obj.mapSeq fun uu=>(#[]:Array Value))).push (seqObj "tuple" vs.toArray 0)).push (seqObj "list" #[] 0)).get? D=some (seqObj "list" #[] e1):=Heap.get?_push_of_some _ (Heap.get?_push_of_some _ ho1)
 have kg:KG (fun b=>b≠D) s.heap (((s.heap.update D (Obj.mapSeq fun uu=>(#[]:Array Value))).push (seqObj "tuple" vs.toArray 0)).push (seqObj "list" #[] 0)) :=
  (KG.same s1 (fun q=>q rfl) fun o q=>by rw [ho] at q; (have oc:=Option.some.inj q; clear q; subst oc); exact Stay.not_list).trans (.of fun b o _ e=>Heap.get?_push_of_some _ (Heap.get?_push_of_some _ e))
 generalize ((s.heap.update D (Obj.mapSeq fun uu=>(#[]:Array Value))).push (seqObj "tuple" vs.toArray 0)).push (seqObj "list" #[] 0)=H at k3 hD3 kg
 have hkey3:=hkey H kg
 have hrd:∀ (i:Nat) (v:Value) (k:List Int),vs[i]? = some v->ks[i]? = some k->dQ Kd H v=k:=fun i v k a b=>K.read (hkey3 i v k a b)
 show wpAny (model prog w) A _ P E {s with heap:=H }
 by_cases h2:vs.toArray.size<2
 ·rw [if_pos h2,if_pos h2]
  refine wpAny_bind (wpAny_pure ?_)
  dsimp only
  rw [StateT.run_pure]
  refine wpAny_bind (wpAny_pure ?_)
  dsimp only
  refine oE (s:={s with heap:=H }) (st:=SortSt.mk' general' (vs.toArray.zip vs.toArray) #[] 7 none) k3 hD3 f2 hl h64 hrd (Array.Perm.refl _) ?_ rfl h
  have hz:(vs.toArray.zip vs.toArray).toList.length≤1:=by
   rw [iB,List.length_zip]; rw [List.size_toArray] at h2; simp; exact Dp h2
  show ((vs.toArray.zip vs.toArray).toList).Pairwise _
  exact uY hz
 ·rw [if_neg h2,if_neg h2]
  rw [List.size_toArray] at h2
  refine wpAny_bind (K.kind (s:={s with heap:=H }) (ks:=ks) hl (by exact BC h2) (hne.resolve_left (by exact Cd hl h2)) hkey3 ?_)
  have hzs:(vs.toArray.zip vs.toArray).size=vs.length:=by rw [Array.size_zip]; simp
  have mem:∀ p∈vs.zip vs,∃ k∈ks,Kd H p.1 k:=fun p hp=>by
   refine ai (List.getElem?_of_mem hp) fun i hi=>?_
   refine ae (List.getElem?_zip_eq_some.mp hi) fun q1 q2=>?_
   have hil:i<ks.length:=by rw [← hl]; exact (List.getElem?_eq_some_iff.mp q1).1
   exact (ah (ks[i]) (List.getElem_mem hil) (hkey3 i _ _ q1 (List.getElem?_eq_getElem hil)))
  refine wpAny_bind (wpAny_mono (rB (K.ltOk (E:=E) (s:={s with heap:=H }) hun ks) (st:=SortSt.mk' κ (vs.toArray.zip vs.toArray) #[] 7 none)
   (Q:=fun uu st'=>(arrOf st').Perm (vs.toArray.zip vs.toArray)/\failedOf st' = none/\Up (fun p=>rkL ks (dQ Kd H p.1)) (arrOf st').toList) ⟨fun p hp=>?_,rfl⟩ (by show 2≤(vs.toArray.zip vs.toArray).size; rw [hzs]; exact EE h2) (by show (vs.toArray.zip vs.toArray).size<64; rw [hzs]; exact h64) rfl rfl fun st' a1 a2 a3=>⟨a1,a3,a2⟩) ?_ fun uu uu e=>e)
  ·have hp':p∈(vs.toArray.zip vs.toArray).toList:=Array.mem_def.mp hp
   rw [iB] at hp'
   exact mem p hp'
  ·rintro ⟨⟨⟩,st'⟩ s'' ⟨rfl,hp,hf,hu⟩
   dsimp only
   refine oE (s:={s with heap:=H }) k3 hD3 f2 hl h64 hrd hp ?_ hf h
   have hm:∀ p∈(arrOf st').toList,∃ k∈ks,Kd H p.1 k:=fun p hp'=>by
    have:=(Array.perm_iff_toList_perm.mp hp).mem_iff.mp hp'
    rw [iB] at this
    exact mem p this
   refine List.Pairwise.imp_of_mem (fun {a b} ha hb hab=>?_) hu
   refine af (hm a ha) fun k hk x=>?_
   refine af (hm b hb) fun k' hk' y=>?_
   have hab':rkL ks (dQ Kd H a.1)≤rkL ks (dQ Kd H b.1):=hab
   rw [K.read x,K.read y] at hab' ⊢
   rw [tY hk' hk]
   exact decide_eq_false (by exact Ex hab')
end
theorem ve:Keys (tuples' true) KeyOf ([]∉·) where
 fn:=KeyOf.fn
 kind hl h1 hne hk h:=uh hl h1 (fun i v k a b=>⟨hk i v k a b,fun q=>hne (q▸List.mem_of_getElem? b)⟩) h
 lt _ hx hy h:=th true hx hy h
theorem RA.ofSub {h:Heap}{G:Addr->Prop}:∀ {vs:List Value}{ds:List PyData},vs.length=ds.length->(∀ (i:Nat) (v:Value) (d:PyData),vs[i]? = some v->ds[i]? = some d->∃ bs,R h v d bs/\∀ b∈bs,G b)->∃ cs,RA h vs ds cs/\∀ b∈cs,G b
 | [],[],_,_=>(ah ([]) .nil (fun uu q=>nomatch q))
 | v::vs,d::ds,hl,hr=>by
  refine af (hr 0 v d rfl rfl) fun bs r hb=>?_
  refine af (RA.ofSub (vs:=vs) (ds:=ds) (by simpa using hl) fun i u e h1 h2=>hr (i+1) u e h1 h2) fun cs rs hc=>?_
  exact (ah _ (.cons r rs) (fun b q=>(List.mem_append.mp q).elim (hb b) (hc b)))
 | [],_::_,hl,_=>by cases hl
 | _::_,[],hl,_=>by cases hl
theorem RA.eachSub {h:Heap}{vs:List Value}{ds:List PyData}{as:List Addr}(r:RA h vs ds as):∀ (i:Nat) (v:Value) (d:PyData),vs[i]? = some v->ds[i]? = some d->∃ bs,R h v d bs/\∀ b∈bs,b∈as :=
 RA.ind (N:=fun vs ds as=>∀ (i:Nat) (v:Value) (d:PyData),vs[i]? = some v->ds[i]? = some d->∃ bs,R h v d bs/\∀ b∈bs,b∈as) (fun i v d h1 uu=>by simp at h1) (fun {v vs d ds as bs} r rs ih i u e h1 h2=>by
  cases i with
  | zero=>exact (ah as (Option.some.inj h1▸Option.some.inj h2▸r) (fun b q=>List.mem_append_left _ q))
  | succ i=>
   refine af (ih i u e h1 h2) fun cs r' hb=>?_
   exact (ah cs r' (fun b q=>List.mem_append_right _ (hb b q)))) r
theorem RA.ofEach {h:Heap}:∀ {vs:List Value}{ds:List PyData},vs.length=ds.length->(∀ (i:Nat) (v:Value) (d:PyData),vs[i]? = some v->ds[i]? = some d->R h v d [])->RA h vs ds []
 | [],[],_,_=>.nil
 | v::vs,d::ds,hl,hr=>RA.cons (as:=[]) (bs:=[]) (hr 0 v d rfl rfl) (RA.ofEach (by simpa using hl) fun i u e h1 h2=>hr (i+1) u e h1 h2)
 | [],_::_,hl,_=>by cases hl
 | _::_,[],hl,_=>by cases hl
theorem yH (k:List Int):dz (aM k)=some k:=by
 show aS (k.map PyData.int)=some k
 induction k with
 | nil=>rfl
 | cons a k ih=>simp only [List.map_cons,aS,ih,Option.map_some]
theorem oU {x:PyData}{k:List Int}(h:dz x=some k):x=aM k:=by
 cases x with
 | tuple xs=>
  have key:∀ {xs:List PyData}{k:List Int},aS xs=some k->xs=k.map .int:=fun {xs}=>by
   induction xs with
   | nil=>intro k h; (have oc:=Option.some.inj h; clear h; subst oc); rfl
   | cons y xs ih=>
    intro k h
    cases y with
    | int i=>
     simp only [aS,Option.map_eq_some_iff] at h
     refine af (h) fun k' h' G4=>?_
     try clear h
     subst G4
     rw [ih h']; rfl
    | _=>exact nN h
  show PyData.tuple xs = .tuple (k.map .int)
  rw [key h]
 | _=>exact nN h
theorem k7:∀ {xs:List PyData}{ks:List (List Int)},du xs=some ks->xs=ks.map aM
 | [],ks,h=>by (have oc:=Option.some.inj h; clear h; subst oc); rfl
 | x::xs,ks,h=>by
  simp only [du] at h
  refine aZ h fun k hk h=>?_
  refine be h fun ks' h' G5=>?_
  (clear h; subst G5)
  rw [List.map_cons,← k7 h',oU hk]
theorem Am {k:List Int}(h:k.length≤2^22):sz (aM k)=true:=sz_tuple.mpr ⟨by rw [List.length_map]; exact h,jZ k⟩
variable {P:Addr->Prop}{s:Shared}{Q:Value->Shared->Prop}{Er:Value->Shared->Prop}{va:Value}{as:List Addr}
theorem tG {ks:List (List Int)}(hh:A.handled=none) (ra:RV s.heap va (.dicT ks) as) (hk:ks.length≤lim) (hQ:∀ v s',EP P s (.d (.list (ks.map aM)),fresh (ks.map aM)) v s'->Q v s'):wpAny (model prog w) A (call (bval (b1n .list)) [va]) Q Er s:=by
 refine k9 (ra) fun a xs G6 _ lo G7 G8 hks htu=>?_
 try clear ra
 subst G6
 refine cQ (G7) fun o es ep e hx hd he _ _=>?_
 try clear G7
 subst G8
 have raw:RawD s.heap a es ep:=(aC o e hx.1 hd)
 have hsz:es.size=xs.length:=size_of_entries he
 rw [List.length_map] at hk
 unfold lim at hk
 refine wW lo hh raw (by rw [hsz,sizeLine_eq]; exact Da hk) fun h' tk acc' c' hkp hS hacc=>hQ _ _ ?_
 refine EP.aList (vs:=acc'.toList) (n:=c') (as:=[]) (aB h' tk rfl (.of hkp)) (Heap.get?_none_of_le (Nat.le_refl _)) (by simpa using hS) (RA.ofEach ?_ fun i v d hi hd'=>?_) (by rw [List.length_map,List.length_map]; exact xC hk) (fun x hx=>?_) fun uu h=>nomatch h
 ·rw [Array.length_toList,List.length_map,List.length_map,hacc.1,hsz]
 ·obtain ⟨hi',rfl⟩:=hacc.2 i v (by rw [← Array.getElem?_toList]; exact hi)
  have ee:=entry_at he i
  rw [Array.getElem?_eq_getElem hi'] at ee
  refine be ee.symm fun x hxi hxe=>?_
  have ek:es[i].key = .ref x.2.1:=by rw [← hxe]; rfl
  rw [List.getElem?_map,List.getElem?_map,hxi] at hd'
  (have oc:=Option.some.inj hd'; clear hd'; subst oc)
  rw [ek]
  exact (htu x (List.mem_of_getElem? hxi)).keep hkp
 ·refine aQ hx fun k hk' G9=>?_
  (clear hx; subst G9)
  exact Am (hks k hk')
theorem e8 {κ:SortKind}{Kd:Heap->Value->List Int->Prop}{ne:List (List Int)->Prop}(K:Keys κ Kd ne) {g:List Int->PyData}{ks:List (List Int)}(hkd:∀ {h:Heap}{v:Value}{k:List Int}{bs:List Addr},R h v (g k) bs->Kd h v k) (hu:A.units+200<cLine) (ra:R s.heap va (.list (ks.map g)) as) (ha:∀ b∈as,P b) (hz:sz (.list (ks.map g))=true) (h64:ks.length<64) (hne:ks.length<2\/ne ks) (hQ:∀ v s',EP P s (.d (.list ((az ks).map g)),fresh ((az ks).map g)) v s'->Q v s') :
  wpAny (model prog w) A (call (.builtin "sorted") [va]) Q Er s:=by
 refine ra.isList_k fun a vs n cs Ha ea ra' Hc=>?_
 (clear ra; subst Ha)
 subst Hc
 have hl:vs.length=ks.length:=by have:=ra'.length; rw [List.length_map] at this; exact BO this
 have each:∀ (i:Nat) (v:Value) (k:List Int),vs[i]? = some v->ks[i]? = some k->∃ bs,R s.heap v (g k) bs/\∀ b∈bs,b∈cs:=fun i v k h1 h2=>ra'.eachSub i v (g k) h1 (by rw [List.getElem?_map,h2]; rfl)
 have old:∀ b∈cs,∃ o,s.heap.get? b=some o:=fun b hb=>bg (ra'.there b hb) fun uu uu e=>⟨_,e⟩
 refine Calls.call_function_entry kind_sorted plain_sorted entry_sorted (args_sorted1 _) ?_
 unfold Builtin.«sorted»
 refine wpAny_bind (m:=checkCount "sorted" 1 1 _) (wpAny_pure ?_)
 refine wpAny_bind (collect_list (isL ea) ?_ (by rw [sizeLine_eq]; exact xJ h64 hl))
 refine wpAny_bind (wpAny_newList ?_ (by rw [sizeLine_eq]; exact xJ h64 hl))
 have hsz:((s.heap.push (seqObj "list" #[] 0)).update s.heap.objs.size (Obj.mapSeq (· ++ vs.toArray))).objs.size=s.heap.objs.size+1:=by
  rw [Heap.size_update,size_push']
 have hoL:(((s.heap.push (seqObj "list" #[] 0)).update s.heap.objs.size (Obj.mapSeq (· ++ vs.toArray))).push (seqObj "list" vs.toArray 0)).get? (s.heap.objs.size+1)=some (seqObj "list" vs.toArray 0):=by
  rw [← hsz]; exact Heap.get?_push_size _ rfl
 have keep:∀ b o,s.heap.get? b=some o->(((s.heap.push (seqObj "list" #[] 0)).update s.heap.objs.size (Obj.mapSeq (· ++ vs.toArray))).push (seqObj "list" vs.toArray 0)).get? b=some o:=fun b o q=>by
  have hlt:b<s.heap.objs.size:=Heap.lt_size q
  rw [Heap.get?_push_ne _ _ _ (by rw [hsz]; exact Nat.ne_of_lt (Nat.lt_succ_of_lt hlt)),Heap.get?_update_ne _ _ _ _ (Nat.ne_of_lt hlt),Heap.get?_push_ne _ _ _ (Nat.ne_of_lt hlt)]
  exact q
 have fnew:s.heap.get? (s.heap.objs.size+1)=none:=Heap.get?_none_of_le (Nat.le_succ _)
 show wpAny _ _ _ _ _ {s with heap:=((s.heap.push (seqObj "list" #[] 0)).update s.heap.objs.size (Obj.mapSeq (· ++ vs.toArray))).push (seqObj "list" vs.toArray 0) }
 rw [hsz]
 refine wpAny_bind (wpAny_holding (wpAny_call_entry slot_list_sort (ah _ hoL rfl) entry_list_sort ?body (args_list_sort _)))
 case body=>
  refine lN K (s0:=s) (s:={s with heap:=((s.heap.push (seqObj "list" #[] 0)).update s.heap.objs.size (Obj.mapSeq (· ++ vs.toArray))).push (seqObj "list" vs.toArray 0) }) (by show A.units+1+1<cLine; exact Ez hu) hoL fnew (.of keep) hl (by exact xH h64 hl) hne (fun H kg i v k h1 h2=>?_) fun s' out c kp hD hps=>(ah _ rfl (wpAny_pure (ah _ rfl ?_)))
  ·refine af (each i v k h1 h2) fun bs r hb=>?_
   refine hkd ((r.keep keep).onG kg fun b q e=>?_)
   refine ai (old b (hb b q)) fun o eo=>?_
   rw [e,fnew] at eo; exact nN eo
  refine ao (hps) fun ps p1 p2 p3=>?_
  try clear hps
  have q1:(ps.map (·.1)).Perm ks:=by
   have:=p1.map (·.1)
   rwa [List.map_fst_zip (by exact Df hl)] at this
  have q2:ps.map (·.1)=az ks:=fA (r:=fun a b=>ltL b a=false) (fun a b h1 h2=>gB h2 h1) (q1.trans (List.mergeSort_perm ks _).symm) (List.pairwise_map.mpr p3) (jW ks)
  have hlen:ps.length=ks.length:=by rw [← q1.length_eq,List.length_map]
  obtain ⟨cs',rs,hcs⟩:=RA.ofSub (h:=s'.heap) (G:=fun b=>b∈cs) (vs:=out.toList) (ds:=(az ks).map g) (by rw [p2,List.length_map,List.length_map,← q2,List.length_map]) fun i v d h1 h2=>by
   rw [← q2,List.map_map,List.getElem?_map] at h2
   rw [p2,List.getElem?_map] at h1
   cases hp:ps[i]? with
   | none=>rw [hp] at h1; exact nN h1
   | some q=>
    rw [hp] at h1 h2
    (have oc:=Option.some.inj h1; clear h1; subst oc); (have oc:=Option.some.inj h2; clear h2; subst oc)
    refine ai (List.getElem?_of_mem (p1.mem_iff.mp (List.mem_of_getElem? hp))) fun j hj=>?_
    refine ae (List.getElem?_zip_eq_some.mp hj) fun j1 j2=>?_
    refine af (each j _ _ j2 j1) fun bs r hb=>?_
    exact (ah bs (r.k kp.k) hb)
  refine hQ _ _ (EP.aList (vs:=out.toList) (n:=c) (as:=cs') kp fnew (by simpa [seqObj] using hD) rs ?_ (fun x hx=>?_) fun b hb=>⟨ha b (.tail _ (hcs b hb)),fun e=>?_⟩)
  ·rw [List.length_map,← q2,List.length_map,hlen]; exact xo h64
  ·refine aQ hx fun k hk' Hd=>?_
   (clear hx; subst Hd)
   refine (sz_list.mp hz).2 _ (List.mem_map.mpr (ah k ?_ rfl))
   exact (List.mergeSort_perm ks _).mem_iff.mp hk'
  ·refine ai (old b (hcs b hb)) fun o eo=>?_
   rw [e,fnew] at eo; exact nN eo
end
end Mine
namespace Mine
open PySem PyProof.Rows
section
variable {A:Around}{E:Value->Shared->Prop}
variable {P:Addr->Prop}{s:Shared}{Q:Value->Shared->Prop}{Er:Value->Shared->Prop}{va:Value}{as:List Addr}
end
end Mine
namespace Mine
open PySem PyProof.Rows
section
open AutoSeq1 (wpAny_loadPart')
open MeetsSeq MeetsSeq2 MeetsSeq3
theorem uk {vs:List Value}{ns:List Int}(h:IntsAre vs ns):∀ {i:Nat}{v:Value},vs[i]? = some v->∃ x t,v = .int x t/\ns[i]? = some x:=by
 induction h with
 | nil=>intro i v q; simp at q
 | cons x t _ ih=>
  intro i v q
  cases i with
  | zero=>simp only [List.getElem?_cons_zero,Option.some.injEq] at q; exact ⟨x,t,q.symm,rfl⟩
  | succ i=>exact ih (by simpa using q)
theorem um (l b:Addr) (vs us:List Value) (n m:Nat) (ks js:List Int) (ia:IntsAre vs ks) (ib:IntsAre us js) (k:Nat) :
  ∀ i:Nat,vs.length-i=k->i≤vs.length->i≤us.length->Meets (Builtin.«list.__eq__.loop» ⟨[.ref l,.ref b,rawInt i,rawInt 0],[]⟩)
   (fun A R s=>s.heap.get? l=some ⟨.type "list", none,.seq vs.toArray n,#[]⟩/\s.heap.get? b=some ⟨.type "list", none,.seq us.toArray m,#[]⟩/\R (.ok (.ret (.bool (ltL (ks.drop i) (js.drop i))))) s):=by
 have l1:=ia.length
 have l2:=ib.length
 induction k with
 | zero=>
  intro i hk h1 h2 prog w A R s h
  obtain ⟨hp,g,d,tk,os⟩:=s; obtain ⟨hl,hb,h⟩:=h
  wp_walk using wpAny_loadPart' hl,wpAny_loadPart' hb
  have hi1:vs.toArray[((i:Nat):Int).toNat]? = none:=by simp; omega
  rw [hi1]
  wp_walk using wpAny_loadPart' hl,wpAny_loadPart' hb
  show R (.ok (.ret (.bool (decide (vs.toArray.size<us.toArray.size))))) _
  have e:ltL (ks.drop i) (js.drop i)=decide (vs.toArray.size<us.toArray.size):=by
   rw [List.size_toArray,List.size_toArray,List.drop_eq_nil_of_le (as:=ks) (by lia)]
   cases q:js.drop i with
   | nil=>
    have:=congrArg List.length q
    rw [List.length_drop,List.length_nil] at this
    exact (decide_eq_false (by lia)).symm
   | cons y r=>
    have:=congrArg List.length q
    rw [List.length_drop,List.length_cons] at this
    exact (decide_eq_true (by lia)).symm
  rwa [e] at h
 | succ k ih=>
  intro i hk h1 h2 prog w A R s h
  obtain ⟨hp,g,d,tk,os⟩:=s; obtain ⟨hl,hb,h⟩:=h
  wp_walk using wpAny_loadPart' hl,wpAny_loadPart' hb
  have hlt:i<vs.length:=by omega
  have hi1:vs.toArray[((i:Nat):Int).toNat]? = some vs[i]:=by simp [hlt]
  refine av (uk ia (List.getElem?_eq_getElem hlt)) fun x t ex kx=>?_
  have dk:ks.drop i=x::ks.drop (i+1):=by
   refine ai (List.getElem?_eq_some_iff.mp kx) fun hi e=>?_
   rw [List.drop_eq_getElem_cons hi,e]
  rw [hi1]
  by_cases hlt2:i<us.length
  ·have hi2:us.toArray[((i:Nat):Int).toNat]? = some us[i]:=by simp [hlt2]
   refine av (uk ib (List.getElem?_eq_getElem hlt2)) fun y u ey jy=>?_
   have dj:js.drop i=y::js.drop (i+1):=by
    refine ai (List.getElem?_eq_some_iff.mp jy) fun hi e=>?_
    rw [List.drop_eq_getElem_cons hi,e]
   have hc:((i:Int)+1)=((i+1:Nat):Int):=by push_cast; rfl
   rw [hi2,ex,ey]
   rw [dk,dj] at h
   refine wpAny_bind (wpAny_eqBool_int ?_)
   by_cases e:x=y
   ·subst e
    rw [show (x==x)=true from beq_self_eq_true x]
    wp_walk
    rw [hc]
    exact ⟨plainId_quiet plain_eq_loop _,codeAny_builtin entry_eq_loop (by
     rw [Around.under_plainId plain_eq_loop _]
     exact ih (i+1) (by omega) (by omega) (by omega) prog w A R _ ⟨hl,hb,by simpa [ltL] using h⟩)⟩
   ·rw [show (x==y)=false from beq_eq_false_iff_ne.mpr e]
    wp_walk using wpAny_loadPart' hl,wpAny_loadPart' hb
    rw [hi1,hi2,ex,ey]
    have e2:ltL (x::ks.drop (i+1)) (y::js.drop (i+1))=decide (x<y):=by unfold ltL; rw [if_neg e]
    rw [e2] at h
    exact wpAny_bind (wpAny_lt_int (wpAny_pure h))
  ·have hi2:us.toArray[((i:Nat):Int).toNat]? = none:=by simp; omega
   rw [hi2]
   wp_walk using wpAny_loadPart' hl,wpAny_loadPart' hb
   show R (.ok (.ret (.bool (decide (vs.toArray.size<us.toArray.size))))) _
   have e:ltL (ks.drop i) (js.drop i)=decide (vs.toArray.size<us.toArray.size):=by
    rw [List.size_toArray,List.size_toArray,dk,List.drop_eq_nil_of_le (as:=js) (by lia)]
    exact (decide_eq_false (by lia)).symm
   rwa [e] at h
theorem tr (l b:Addr) (vs us:List Value) (n m:Nat) (ks js:List Int) (ia:IntsAre vs ks) (ib:IntsAre us js) :
  Meets (Builtin.«list.__lt__» ⟨[.ref l,.ref b],[]⟩)
   (fun A R s=>s.heap.get? l=some ⟨.type "list", none,.seq vs.toArray n,#[]⟩/\s.heap.get? b=some ⟨.type "list", none,.seq us.toArray m,#[]⟩/\R (.ok (.ret (.bool (ltL ks js)))) s):=by
 intro prog w A R s h
 obtain ⟨hp,g,d,tk,os⟩:=s; obtain ⟨hl,hb,h⟩:=h
 have f3:=AutoSeq1.sub_list_list
 wp_walk using wpAny_loadPart' hl,wpAny_loadPart' hb
 exact ⟨plainId_quiet plain_eq_loop _,codeAny_builtin entry_eq_loop (by
  rw [Around.under_plainId plain_eq_loop _]
  exact um l b vs us n m ks js ia ib _ 0 rfl (Nat.zero_le _) (Nat.zero_le _) prog w A R _ ⟨hl,hb,by simpa using h⟩)⟩
end
noncomputable def RowOf (h:Heap) (v:Value) (k:List Int):Prop:=∃ a vs n,v = .ref a/\h.get? a=some ⟨.type "list", none,.seq vs.toArray n,#[]⟩/\IntsAre vs k
theorem RowOf.fn {h:Heap}{v:Value}{k k':List Int}(a:RowOf h v k) (b:RowOf h v k'):k=k':=by
 refine aI (a) fun x vs n G4 e i=>?_
 try clear a
 subst G4
 refine aI (b) fun uu vs' n' q e' i'=>?_
 try clear b
 cases q
 rw [e] at e'
 have:vs=vs':=by cases e'; rfl
 subst this
 exact IntsAre.fn i i'
section
variable {A:Around}{E:Value->Shared->Prop}{s:Shared}
theorem uI {x y:Value}{k k':List Int}{Q:Bool->Shared->Prop}(hu:A.units<cLine) (hx:RowOf s.heap x k) (hy:RowOf s.heap y k') (h:Q (ltL k k') s):wpAny (model prog w) A (oneLt' true x y) Q E s:=by
 refine aI (hx) fun a vs n G5 ea ia=>?_
 try clear hx
 subst G5
 refine aI (hy) fun b us m G6 eb ib=>?_
 try clear hy
 subst G6
 rw [oneLt'_eq]
 simp only [if_true]
 refine wpAny_bind (wpAny_cRoomFor hu ?_)
 refine wpAny_bind (wpAny_callSpecialIfBound?_slot ⟨_,ea,rfl⟩ F.slot_list_lt (call_meets F.slot_list_lt ⟨_,ea,rfl⟩ F.entry_list_lt (F.args_list_lt_2 _ _) (tr a b vs us n m k k' ia ib) ⟨ea,eb,?_⟩))
 exact wpAny_truthy_bool h
theorem jP {Q:List (Option Value)->Shared->Prop}:∀ {vs:List Value},(∀ v∈vs,∃ k,RowOf s.heap v k)->Q (vs.map fun uu=>none) s->wpAny (model prog w) A (vs.mapM firstOfTuple') Q E s
 | [],_,h=>by rw [List.mapM_nil]; exact wpAny_pure h
 | v::vs,hk,h=>by
  refine jz (hk v (.head _)) fun k a us n G7 ea ia=>?_
  subst G7
  rw [List.mapM_cons]
  refine wpAny_bind ?_
  rw [jV]
  refine wpAny_bind (wpAny_typeOf (T := "list") ⟨_,ea,rfl⟩ ?_)
  rw [if_pos (by decide)]
  exact wpAny_pure (wpAny_bind (jP (vs:=vs) (fun v hv=>hk v (.tail _ hv)) (wpAny_pure h)))
theorem kJ {Q:List Value->Shared->Prop}:∀ {vs:List Value},(∀ v∈vs,∃ k,RowOf s.heap v k)->Q (vs.map fun uu=>.type "list") s->wpAny (model prog w) A (vs.mapM typeOf) Q E s
 | [],_,h=>by rw [List.mapM_nil]; exact wpAny_pure h
 | v::vs,hk,h=>by
  refine jz (hk v (.head _)) fun k a us n G8 ea ia=>?_
  subst G8
  rw [List.mapM_cons]
  exact wpAny_bind (wpAny_typeOf (T := "list") ⟨_,ea,rfl⟩ (wpAny_bind (kJ (vs:=vs) (fun f h=>hk f (.tail _ h)) (wpAny_pure h))))
theorem tN {vs:List Value}{Q:SortKind->Shared->Prop}(h1:1≤vs.length) (hk:∀ v∈vs,∃ k,RowOf s.heap v k) (h:Q oneType' s):wpAny (model prog w) A (keyKind' vs.toArray) Q E s:=by
 rw [keyKind'_eq,List.mapM_toArray,map_eq_pure_bind]
 refine wpAny_bind (wpAny_bind (jP hk (wpAny_pure ?_)))
 obtain ⟨f₁,fr,rfl⟩:∃ f₁ fr,vs=f₁::fr:=by
  cases vs with
  | nil=>simp at h1
  | cons f₁ fr=>exact ⟨f₁,fr,rfl⟩
 rw [if_neg (by simp),if_neg (by simp)]
 rw [oneTypeOnly'_eq,List.mapM_toArray,map_eq_pure_bind]
 refine wpAny_bind (wpAny_bind (wpAny_bind (kJ hk (wpAny_pure ?_))))
 have hall2:((List.map (fun uu=>Value.type "list") (f₁::fr)).toArray.all fun x=>x==Value.type "list")=true:=by
  simp only [List.all_toArray,List.all_map,List.all_eq_true]
  intro _ _
  rfl
 have h0:(List.map (fun uu=>Value.type "list") (f₁::fr)).toArray[0]? = some (Value.type "list"):=by simp
 rw [h0]
 simp only [hall2,if_true]
 exact wpAny_pure (wpAny_pure h)
theorem w7:Keys oneType' RowOf (fun _=>True) where
 fn:=RowOf.fn
 kind hl h1 _ hk h:=tN h1 (fun v hv=>by
  refine ai (List.getElem?_of_mem hv) fun i hi=>?_
  have hil:=(List.getElem?_eq_some_iff.mp hi).1
  rw [hl] at hil
  exact ⟨_,hk i v _ hi (List.getElem?_eq_getElem hil)⟩) h
 lt hu hx hy h:=uI hu hx hy h
end
section
variable {A:Around}{P:Addr->Prop}{s:Shared}{Q:Value->Shared->Prop}{Er:Value->Shared->Prop}{va:Value}{as:List Addr}
theorem kF:∀ {xs:List PyData}{ks:List (List Int)},fF xs=some ks->xs=ks.map aa
 | [],ks,h=>by (have oc:=Option.some.inj h; clear h; subst oc); rfl
 | x::xs,ks,h=>by
  cases x with
  | list ys=>
   simp only [fF] at h
   refine aZ h fun k hk h=>?_
   refine be h fun ks' h' G9=>?_
   subst G9
   rw [List.map_cons,← kF h']
   have:=oU (x:=.tuple ys) (k:=k) hk
   unfold aM at this
   injection this with e
   rw [e]; rfl
  | _=>exact nN h
theorem RowOf.ofR {h:Heap}{v:Value}{k:List Int}{bs:List Addr}(r:R h v (aa k) bs):RowOf h v k:=by
 refine R.isList_k r fun a vs n cs Ha ea ra _=>?_
 subst Ha
 exact ⟨a,vs,n,rfl,ea,(ra.ints (yH k)).1⟩
theorem qU {xs:List PyData}{ks:List (List Int)}(hu:A.units+200<cLine) (ra:R s.heap va (.list xs) as) (ha:∀ b∈as,P b) (hz:sz (.list xs)=true) (hk:fF xs=some ks) (h64:xs.length<64) (hQ:∀ v s',EP P s (.d (.list ((az ks).map aa)),fresh ((az ks).map aa)) v s'->Q v s') :
  wpAny (model prog w) A (call (.builtin "sorted") [va]) Q Er s:=by
 cases kF hk
 rw [List.length_map] at h64
 exact e8 w7 (fun r=>RowOf.ofR r) hu ra ha hz h64 (.inr trivial) hQ
end
end Mine
namespace Mine
open PySem PyProof.Rows
section
variable {A:Around}{E:Value->Shared->Prop}{s:Shared}
theorem yW {β:Type}{g:Bool->β}{prog:Program}{w:World}{body:Value×Value->Option β×Unit->Sem (ForInStep (Option β×Unit))}{R:Option β×Unit->Shared->Prop}
  (hb:∀ (a b:Int) (t u:Tok) (R':ForInStep (Option β×Unit)->Shared->Prop),R' (if a=b then .yield (none,()) else .done (some (g (decide (a<b))),())) s->wpAny (model prog w) A (body (.int a t,.int b u) (none,())) R' E s)
  {vs:List Value}{k:List Int}(ia:IntsAre vs k):∀ {us:List Value}{k':List Int},IntsAre us k'->R ((eh k k').map g,()) s->wpAny (model prog w) A (forIn (vs.zip us) (none,()) body) R E s:=by
 induction ia with
 | nil=>
  intro us k' ib h
  rw [List.zip_nil_left,List.forIn_nil]
  exact wpAny_pure h
 | cons a t r ih=>
  intro us k' ib h
  induction ib with
  | nil=>
   rw [List.zip_nil_right,List.forIn_nil]
   exact wpAny_pure h
  | cons b u q ih'=>
   rw [List.zip_cons_cons,List.forIn_cons]
   refine wpAny_bind (hb a b t u _ ?_)
   by_cases e:a=b
   ·rw [if_pos e]
    exact ih q (by rw [eh,if_pos e] at h; exact h)
   ·rw [if_neg e]
    exact wpAny_pure (by rw [eh,if_neg e] at h; exact h)
end
section
open AutoSeq1 (wpAny_loadPart')
open MeetsSeq MeetsSeq2 MeetsSeq3
theorem v6 (l b:Addr) (vs us:List Value) (n m:Nat) (ks js:List Int) (ia:IntsAre vs ks) (ib:IntsAre us js) :
  Meets (Builtin.«tuple.__lt__» ⟨[.ref l,.ref b],[]⟩)
   (fun A R s=>s.heap.get? l=some ⟨.type "tuple", none,.seq vs.toArray n,#[]⟩/\s.heap.get? b=some ⟨.type "tuple", none,.seq us.toArray m,#[]⟩/\R (.ok (.ret (.bool (ltL ks js)))) s) :=
 .of_wp fun prog w A R s h=>by
  obtain ⟨hp,g,d,tk,os⟩:=s; obtain ⟨hl,hb,h⟩:=h
  have f2:=AutoSeq1.sub_tuple_tuple
  wp_walk using wpAny_loadPart' hl,wpAny_loadPart' hb
  refine yW (vs:=vs) (us:=us) (g:=fun b=>PySem.Fin.done (.ret (.bool b))) (fun p q t u R' hR=>?_) ia ib ?_
  ·dsimp only
   refine wpAny_bind (wpAny_eqBool_int ?_)
   by_cases e:p=q
   ·subst e
    rw [if_pos rfl] at hR
    rw [if_neg (by simp)]
    exact wpAny_pure hR
   ·rw [if_neg e] at hR
    rw [if_pos (by simpa using e)]
    exact wpAny_bind (wpAny_rule (wpAny_bind (wpAny_lt_int (wpAny_bind (wpAny_pure (wpAny_pure hR))))))
  ·rw [j9] at h
   have l1:=ia.length
   have l2:=ib.length
   cases e:eh ks js with
   | none=>
    rw [e] at h
    refine wpAny_pure ⟨_,rfl,?_⟩
    rw [← l1,← l2] at h
    exact h
   | some r=>rw [e] at h; exact wpAny_pure ⟨_,rfl,h⟩
end
section
variable {A:Around}{E:Value->Shared->Prop}{s:Shared}
theorem lm {x y:Value}{k k':List Int}{Q:Value->Shared->Prop}(hx:KeyOf s.heap x k) (hy:KeyOf s.heap y k') (h:Q (.bool (ltL k k')) s):wpAny (model prog w) A (call (.builtin "tuple.__lt__") [x,y]) Q E s:=by
 refine aI (hx) fun a vs n G5 ea ia=>?_
 subst G5
 refine aI (hy) fun b us m G6 eb ib=>?_
 subst G6
 exact call_meets F.slot_tuple_lt ⟨_,ea,rfl⟩ F.entry_tuple_lt (F.args_tuple_lt_2 _ _) (v6 a b vs us n m k k' ia ib) ⟨ea,eb,h⟩
theorem me (c:Bool) {x y:Value}{k k':List Int}{Q:Bool->Shared->Prop}(hu:A.units<cLine) (hx:KeyOf s.heap x k) (hy:KeyOf s.heap y k') (h:Q (ltL k k') s):wpAny (model prog w) A (oneLt' c x y) Q E s:=by
 have tx:s.TypeIs x "tuple" := aI (hx) fun a vs n e ea ia=>e▸⟨_,ea,rfl⟩
 have ty:s.TypeIs y "tuple" := aI (hy) fun a vs n e ea ia=>e▸⟨_,ea,rfl⟩
 rw [oneLt'_eq]
 cases c with
 | true=>
  simp only [if_true]
  refine wpAny_bind (wpAny_cRoomFor hu ?_)
  exact wpAny_bind (wpAny_callSpecialIfBound?_slot tx F.slot_tuple_lt (lm hx hy (wpAny_truthy_bool h)))
 | false=>
  simp only [Bool.false_eq_true,if_false]
  exact wpAny_bind (wpAny_richCompare_same_room (op:=.Lt) tx ty F.slot_tuple_lt (lm hx hy ⟨by simp,wpAny_truthy_bool h⟩) hu)
theorem jI {Q:List (Option Value)->Shared->Prop}:∀ {ks:List (List Int)}{vs:List Value},vs.length=ks.length->(∀ (i:Nat) (v:Value) (k:List Int),vs[i]? = some v->ks[i]? = some k->KeyOf s.heap v k)->(∀ fs:List (Option Value),fs.map (·.isSome)=ks.map (fun k=>!k.isEmpty)->Q fs s)->wpAny (model prog w) A (vs.mapM firstOfTuple') Q E s
 | [],[],_,_,h=>by rw [List.mapM_nil]; exact wpAny_pure (h [] rfl)
 | [],_::_,hl,_,_=>by simp at hl
 | _::_,[],hl,_,_=>by simp at hl
 | k::ks,v::vs,hl,hk,h=>by
  refine aI (hk 0 v k rfl rfl) fun a us n G8 ea ia=>?_
  subst G8
  rw [List.mapM_cons]
  refine wpAny_bind ?_
  rw [jV]
  refine wpAny_bind (wpAny_typeOf (T := "tuple") (ah _ ea rfl) ?_)
  rw [if_neg (by decide)]
  refine wpAny_bind (listItems_at ea rfl (wpAny_pure ?_))
  refine wpAny_bind (jI (ks:=ks) (vs:=vs) (by simpa using hl) (fun i v k h1 h2=>hk (i+1) v k (by simpa using h1) (by simpa using h2)) fun fs hfs=>wpAny_pure (h _ ?_))
  rw [List.map_cons,List.map_cons,hfs]
  congr 1
  cases ia<;>rfl
theorem lc {ks:List (List Int)}{Q:List Value->Shared->Prop}:∀ {vs:List Value},(∀ v∈vs,∃ k,KeyOf s.heap v k)->Q (vs.map fun uu=>.type "tuple") s->wpAny (model prog w) A (vs.mapM typeOf) Q E s
 | [],_,h=>by rw [List.mapM_nil]; exact wpAny_pure h
 | v::vs,hk,h=>by
  refine jz (hk v (.head _)) fun k a us n G8 ea ia=>?_
  subst G8
  rw [List.mapM_cons]
  exact wpAny_bind (wpAny_typeOf (T := "tuple") ⟨_,ea,rfl⟩ (wpAny_bind (lc (ks:=ks) (vs:=vs) (fun f h=>hk f (.tail _ h)) (wpAny_pure h))))
theorem mJ {ks:List (List Int)}{vs:List Value}{Q:SortKind->Shared->Prop}(hl:vs.length=ks.length) (hk:∀ (i:Nat) (v:Value) (k:List Int),vs[i]? = some v->ks[i]? = some k->KeyOf s.heap v k) (he:[]∈ks) (h:Q (if ks[0]? = some [] then oneType' else general') s):wpAny (model prog w) A (keyKind' vs.toArray) Q E s:=by
 rw [keyKind'_eq,List.mapM_toArray,map_eq_pure_bind]
 refine wpAny_bind (wpAny_bind (jI hl hk fun fs hfs=>wpAny_pure ?_))
 have hall:(fs.toArray.all fun x=>x.isSome)=false:=by
  rw [List.all_toArray,← Bool.not_eq_true,List.all_eq_true]
  intro q
  refine ai (List.getElem?_of_mem he) fun i hi=>?_
  have:(fs.map (·.isSome))[i]? = some false:=by rw [hfs,List.getElem?_map,hi]; rfl
  rw [List.getElem?_map] at this
  refine be this fun x hx e=>?_
  rw [q x (List.mem_of_getElem? hx)] at e
  exact nT e
 rw [if_neg (by rw [hall]; decide)]
 cases ks with
 | nil=>cases he
 | cons k ks=>
  cases vs with
  | nil=>simp at hl
  | cons v vs=>
   cases fs with
   | nil=>simp at hfs
   | cons f fs=>
    simp only [List.map_cons,List.cons.injEq] at hfs
    cases k with
    | cons a k=>
     have e0:((f::fs).toArray[0]?.bind id).isSome=true:=by simpa using hfs.1
     rw [if_pos e0]
     rw [if_neg (by simp)] at h
     exact wpAny_pure h
    | nil=>
     have e0:((f::fs).toArray[0]?.bind id).isSome=false:=by simpa using hfs.1
     rw [if_neg (by rw [e0]; decide)]
     rw [if_pos (by simp)] at h
     rw [oneTypeOnly'_eq,List.mapM_toArray,map_eq_pure_bind]
     refine wpAny_bind (wpAny_bind (wpAny_bind (lc (ks:=ks) (fun u hu=>?_) (wpAny_pure ?_))))
     ·refine ai (List.getElem?_of_mem hu) fun i hi=>?_
      have hil:=(List.getElem?_eq_some_iff.mp hi).1
      rw [hl] at hil
      exact ⟨_,hk i u _ hi (List.getElem?_eq_getElem hil)⟩
     ·have hall2:((List.map (fun uu=>Value.type "tuple") (v::vs)).toArray.all fun x=>x==Value.type "tuple")=true:=by
       simp only [List.all_toArray,List.all_map,List.all_eq_true]
       intro _ _
       rfl
      have h0:(List.map (fun uu=>Value.type "tuple") (v::vs)).toArray[0]? = some (Value.type "tuple"):=by simp
      rw [h0]
      simp only [hall2,if_true]
      exact wpAny_pure (wpAny_pure h)
theorem te:Keys oneType' KeyOf (fun ks=>[]∈ks/\ks[0]? = some []) where
 fn:=KeyOf.fn
 kind hl _ hne hk h:=mJ hl hk hne.1 (by rw [if_pos hne.2]; exact h)
 lt hu hx hy h:=me true hu hx hy h
theorem sR:Keys general' KeyOf (fun ks=>[]∈ks/\ks[0]?≠some []) where
 fn:=KeyOf.fn
 kind hl _ hne hk h:=mJ hl hk hne.1 (by rw [if_neg hne.2]; exact h)
 lt hu hx hy h:=me false hu hx hy h
end
section
variable {A:Around}{P:Addr->Prop}{s:Shared}{Q:Value->Shared->Prop}{Er:Value->Shared->Prop}{va:Value}{as:List Addr}
theorem rL {xs:List PyData}{ks:List (List Int)}(hu:A.units+200<cLine) (ra:R s.heap va (.list xs) as) (ha:∀ b∈as,P b) (hz:sz (.list xs)=true) (hk:du xs=some ks) (h64:xs.length<64) (hQ:∀ v s',EP P s (.d (.list ((az ks).map aM)),fresh ((az ks).map aM)) v s'->Q v s') :
  wpAny (model prog w) A (call (.builtin "sorted") [va]) Q Er s:=by
 cases k7 hk
 rw [List.length_map] at h64
 by_cases h1:[]∈ks
 ·by_cases h2:ks[0]? = some []
  ·exact e8 te (fun r=>KeyOf.ofR r) hu ra ha hz h64 (.inr ⟨h1,h2⟩) hQ
  ·exact e8 sR (fun r=>KeyOf.ofR r) hu ra ha hz h64 (.inr ⟨h1,h2⟩) hQ
 ·exact e8 ve (fun r=>KeyOf.ofR r) hu ra ha hz h64 (.inr h1) hQ
end
end Mine
namespace Mine
open PySem PyProof.Rows
section
variable (fns:Fns) (k:Nat) (C:Calls) (XP:String->Shared->Value->Shared->Prop)
noncomputable def b9:Prop:=∀ f g,C f=some g->1≤k/\(f = "law" -> fns.lam=true)/\(f∈aw->f∈SF.excN)/\(f∉aw->∃ a,adr fns f=some a/\∀ {A:Around}{P:Addr->Prop}{s:Shared}{Q:Value->Shared->Prop}{Er:Value->Shared->Prop}{xs:List V}{vals:List Value}{as:List Addr},
 Room fns.hand k A->(∃ l,A.frames=some l/\FrOk s.heap l)->GE fns s.heap->RVs s.heap xs vals as->(∀ a∈as,P a)->g xs≠.bad->(∀ r,g xs = .ok r->∀ v s',EP P s r v s'->Q v s')->(∀ c,g xs = .exc c->∀ x s',XP c s x s'->Er x s') ->
 wpAny (model prog w) A (call (.ref a) vals []) Q Er s)
end
section
variable {fns:Fns}{k:Nat}{C:Calls}{XP:String->Shared->Value->Shared->Prop}
theorem ut {ns:List (Str×NameKind)}{a:E}{v:Expr}{n:Str}{env:Env}(hs:qW a=true) (ok:okE ns a v=true):attributeBase v n env (eval v env)=eval v env:=by
 cases a with
 | name x=>
  refine Or.elim (tK ok) (fun Hb=>?_) (fun q=>?_)
  ·refine av (Hb) fun HH HV Ik H7=>?_
   clear Hb
   (clear ok; subst Ik)
   rfl
  ·cases q
 | call f es=>
  refine Or.elim (uG ok) (fun He=>?_) (fun q=>?_)
  ·refine cb (He) fun Iw H9 xs Im Ip h=>?_
   clear He
   (clear ok; subst Ip)
   simp only [Bool.and_eq_true,Bool.not_eq_true'] at h
   cases xs with
   | nil=>have:=h.1.1.2; exact nT this
   | cons x xs=>rfl
  ·cases q
 | _=>exact nF hs
theorem uF {h:Heap}{v:Value}{c n:Int}{d:PyData}{as:List Addr}(r:RV h v (.rule c d n) as):∃ x D vf bs t u mA,v = .ref x/\as=x::D::bs/\h.Inst x SF.rule mA/\mA "count" = some (.int c t)/\mA "full" = some vf/\mA "size" = some (.int n u)/\(∀ m∈methNames,mA (Str.ofString m)=none)/\R h vf d bs/\sz d=true:=by
 refine gU (r) fun x D o vf bs t u mA h1 h2 h3 h4 h5 h6 h7 h8 h9 h10 h11 h12 h13 h14=>?_
 try clear r
 exact ⟨x,D,vf,bs,t,u,mA,h1,h2,(br o h3 h4 h5 (.inr (aC D h6 h7 h8))),h9,h10,h11,h12,h13,h14⟩
theorem kG:typeLookup (.type "object") "count" = pure none:=by rw [typeLookup_type,builtinLookup_eq_fast]; kernel_rfl
theorem jb:typeLookup (.type "object") "full" = pure none:=by rw [typeLookup_type,builtinLookup_eq_fast]; kernel_rfl
theorem mK:typeLookup (.type "object") "size" = pure none:=by rw [typeLookup_type,builtinLookup_eq_fast]; kernel_rfl
theorem uA {x:V}{n:String}{r:V×Mode}{va:Value}{as:List Addr}{A:Around}{P:Addr->Prop}{s:Shared}{Q:Value->Shared->Prop}{Er:Value->Shared->Prop}{expr:Bool}(ge:GE fns s.heap) (hi:fns.init.isSome=true) (he:jm x n = .ok r) (ra:RV s.heap va x as) (ha:∀ a∈as,P a)
  (hQ:∀ v s',EP P s r v s'->Q v s'):wpAny (model prog w) A (getAttr va (Str.ofString n) expr) Q Er s:=by
 replace he:=aT he
 revert he; intro Ij
 refine af (Ij) fun G4 hq he=>?_
 try clear Ij
 obtain ⟨c,d,sz'⟩:=G4
 cases kE hq
 dsimp only at he ra
 refine AU (uF ra) fun y D vf bs t u mA G5 G6 I f1 f2 f3 f4 rd zd=>?_
 subst G5
 subst G6
 refine aA (ge.cls (.inr hi)) fun N mN G7 quiet _=>?_
 obtain ⟨G8,hn⟩:=G7
 refine eB (G8) fun nm q bs' sn sub col dd k0 k1 k2 k3 k5 hC=>?_
 try clear G8
 obtain ⟨hh,g,dr,tk,os⟩:=s
 have ga:=quiet "__getattribute__" (by simp)
 by_cases e1:n = "count"
 ·subst e1
  rw [if_pos rfl] at he; (have oc:=Out.ok.inj he; clear he; subst oc)
  exact load_attr hC hn ga (quiet "count" (by simp)) kG I f1 rfl (hQ _ _ (.int (.toks _ _)))
 rw [if_neg e1] at he
 by_cases e2:n = "full"
 ·(clear e1; subst e2)
  rw [if_pos rfl] at he; (have oc:=Out.ok.inj he; clear he; subst oc)
  have hf:handedOut vf=pure vf:=by cases rd<;>rfl
  refine load_attr hC hn ga (quiet "full" (by simp)) jb I f2 hf (hQ _ _ ?_)
  exact .after (.toks ⟨hh,g,dr,tk,os⟩ _) (ro (s:=⟨hh,g,dr,tk+1,os⟩) (x:=.d d) ⟨rd,zd⟩ fun a h=>ha a (.tail _ (.tail _ h)))
 rw [if_neg e2] at he
 by_cases e3:n = "size"
 ·(clear e1 e2; subst e3)
  rw [if_pos rfl] at he; (have oc:=Out.ok.inj he; clear he; subst oc)
  exact load_attr hC hn ga (quiet "size" (by simp)) mK I f3 rfl (hQ _ _ (.int (.toks _ _)))
 rw [if_neg e3] at he
 exact nB he
theorem wJ (hC:b9 fns k C XP) {a:E}{n:String}(Sa:SimE fns k C XP a):SimE fns k C XP (.attr a n):=by
 intro ex A env σ P s Q Er ok X nb hQ hE
 replace ok:=A0 ok
 revert ok; refine fun Hm=>Or.elim Hm (fun Hl=>?_) (fun ok=>?_)
 ·clear Hm
  refine a7 (Hl) fun Ia Id H0 hn hs oa=>?_
  clear Hl
  subst H0
  simp only [kj] at nb hQ hE
  cases hR:C "Rule" with
  | none=>rw [hR] at nb; exact absurd rfl nb
  | some g=>
  have hi:fns.init.isSome=true:=by
   refine af ((hC "Rule" g hR).2.2.2 (by decide)) fun fa hfa _=>?_
   unfold adr at hfa
   rw [if_pos rfl] at hfa
   refine be hfa fun uu q _=>?_
   rw [q]; rfl
  rw [hR] at nb hQ hE
  simp only [au] at nb hQ hE
  refine aR nb fun n1 n2=>?_
  rw [arm_eval_Attribute,ut hs oa]
  refine wpAny_bind (Sa oa X n1 (fun x hx va s₁ Ea=>?_) fun c hc=>hE c (by rw [hc]; rfl))
  obtain ⟨ka,as,ra,ha,_⟩:=Ea
  have:∃ r,jm x.1 n = .ok r:=by
   cases h:jm x.1 n with
   | ok r=>exact ⟨r,rfl⟩
   | exc c=>exact absurd h (wB c)
   | bad=>exact absurd h (n2 x hx)
  refine ai (this) fun r hr=>?_
  try clear this
  refine wpAny_bind (wpAny_standAt (wpAny_bind (wpAny_holding (uA (P:=fun a=>P a\/s.heap.get? a=none) (X.ge.k ka.k) hi hr ra ha fun v s' E=>?_))))
  exact wpAny_bind (wpAny_letTemporaryGo (wpAny_pure (hQ r (by rw [hx]; exact hr) v s' (E.shift ka))))
 ·cases ok
theorem oW {ns:List (Str×NameKind)}{env:Env}:∀ {es:Es}{xs:List Expr},dU ns es xs=true->∀ pos:Pos,(backTo pos (starEach xs env)).any (·.1)=false/\(backTo pos (starEach xs env)).all (fun x=>!x.1)=true
 | .nil,xs,h,pos=>by
  refine Or.elim (rK h) (fun Hj=>?_) (fun q=>?_)
  ·refine ae (Hj) fun Io IT=>?_
   clear Hj
   (clear h; subst Io)
   exact ⟨rfl,rfl⟩
  ·cases q
 | .cons e es,xs,h,pos=>by
  refine Or.elim (pq h) (fun Ho=>?_) (fun q=>?_)
  ·refine av (Ho) fun x ys Ir h=>?_
   clear Ho
   subst Ir
   refine bX h fun h1 h2=>?_
   refine ae (oW (env:=env) h2 pos) fun a b=>?_
   rw [aJ h1]
   constructor
   ·show (false||(backTo pos (starEach ys env)).any (·.1))=false
    rw [a]; rfl
   ·show (!false&&(backTo pos (starEach ys env)).all (fun x=>!x.1))=true
    rw [b]; rfl
  ·cases q
theorem m7 {A:Around}{env:Env}{pos:Pos}{e:Expr}{rest:List Expr}{Q:Value->Shared->Prop}{E:Value->Shared->Prop}{s:Shared}{Cl N:Addr}{mN:Str->Option Value}(he:starEach (e::rest) env=(false,eval e env)::starEach rest env) (hp:(backTo pos (starEach rest env)).any (·.1)=false)
  (h:wpAny (model prog w) A (spliced (backTo pos (starEach (e::rest) env))) (fun vs s₁=>ClsAt s₁.heap Cl N mN/\wpAny (model prog w) A (call (.ref Cl) vs) Q E s₁) E s) :
  wpAny (model prog w) A (callWith pos (.ref Cl) [] (backTo pos (starEach (e::rest) env)) []) Q E s:=by
 rw [he] at h ⊢
 have hst:((backTo pos ((false,eval e env)::starEach rest env)).any (fun x=>x.fst)||([]:List (Option Str×Sem Value)).any fun x=>x.fst.isNone)=false:=by
  show ((false||(backTo pos (starEach rest env)).any (·.1))||false)=false
  rw [hp]; rfl
 unfold callWith
 refine wpAny_bind (wpAny_holding (Calls.evalArgs_plain (wpAny_mono h (fun vs s₁ h₁=>?_) fun uu uu x=>x)))
 obtain ⟨hh,g,d,t,os⟩:=s₁
 revert h₁; intro HQ
 refine ae (HQ) fun G9 h₁=>?_
 try clear HQ
 obtain ⟨Ha,_⟩:=G9
 refine eB (Ha) fun nm q bs sn sub col dd k0 k1 k2 k3 k5 hC=>?_
 try clear Ha
 have f1:=tc_lookup
 have hT:(⟨hh,g,d,t,os⟩:Shared).TypeIs (.ref Cl) "type" := (ah _ hC rfl)
 refine wpAny_bind (wpAny_standAt ?_)
 show wpAny _ _ (keeperOf (.ref Cl)>>=_) _ _ _
 unfold keeperOf specialOf
 repeat (any_goals (first | assumption | with_reducible refine wpAny_loadPart_at hC ?_ | with_reducible refine wpAny_load' hC ?_ | wp_step))
 rw [if_pos (by rfl),hst]
 show wpAny _ _ (call (.ref Cl) vs []>>=fun r=>do holding [r] point; pure r) _ _ _
 exact wpAny_bind (wpAny_mono h₁ (fun r s' hr=>wpAny_bind (wpAny_holding (wpAny_point (wpAny_pure hr)))) fun uu uu x=>x)
end
end Mine
namespace Mine
open PySem PyProof.Rows
section
variable {fns:Fns}{k:Nat}{C:Calls}{XP:String->Shared->Value->Shared->Prop}
theorem yl {f:B1}{x:V}{c:String}:b1V f x≠.exc c:=Ao c
theorem b1_list' {β:Type}{v:V}{f:List PyData->Out β}{r:β}(h:(au (asD v) fun x=>au (asL x) f) = .ok r):∃ xs,v = .d (.list xs)/\f xs = .ok r:=by
 refine aU h fun x h1 h=>?_
 refine aU h fun xs h2 h=>?_
 exact (ah xs (by rw [bB h1,bC h2]) h)
set_option tactic.hygienic true in
theorem zA {f:B1}{x:V}{r:V×Mode}{va:Value}{as:List Addr}{A:Around}{P:Addr->Prop}{s:Shared}{Q:Value->Shared->Prop}{Er:Value->Shared->Prop}(hh:A.handled=none) (hu:A.units+200<cLine) (he:b1V f x = .ok r) (ra:RV s.heap va x as) (ha:∀ a∈as,P a)
  (hQ:∀ v s',EP P s r v s'->Q v s'):wpAny (model prog w) A (call (bval (b1n f)) [va]) Q Er s:=by
 unfold b1V at he
 cases hd:rf x with
 | some ks=>
  rw [hd] at he
  cases wV hd
  simp only [nL] at he
  split at he
  ·rename_i hk
   revert hk; intro JN
   refine ae (JN) fun G4 hk=>?_
   try clear JN
   subst G4
   (have oc:=Out.ok.inj he; clear he; subst oc)
   exact tG hh ra hk hQ
  ·exact nB he
 | none=>
 rw [hd] at he
 dsimp only at he
 cases f with
 | len=>exact wO he ra hQ
 | list=>
  replace he:=aT he
  revert he; intro IS
  refine af (IS) fun y hy he=>?_
  try clear IS
  cases bB hy
  cases ht:asT y with
  | none=>
   simp only [ht] at he
   replace he:=aT he
   revert he; intro JF
   refine af (JF) fun xs hx he=>?_
   try clear JF
   cases bC hx
   (have oc:=Out.ok.inj he; clear he; subst oc)
   refine ra.1.isList_k fun a vs n cs G5 ea ra' G6=>?_
   subst G5
   subst G6
   have hz:=sz_list.mp ra.2
   exact mC (.inl rfl) ea ra' hz.1 hz.2 (fun b hb=>ha b (.tail _ hb)) hQ
  | some xs=>
   simp only [ht] at he
   (have oc:=Out.ok.inj he; clear he; subst oc)
   cases gG ht
   refine aI (ra.1.isTup) fun a vs n G7 ea ra'=>?_
   subst G7
   have hz:=sz_tuple.mp ra.2
   exact mC (.inr rfl) ea ra' hz.1 hz.2 ha hQ
 | tuple=>
  replace he:=b1_list' he
  revert he; intro Hy
  refine af (Hy) fun xs G8 he=>?_
  try clear Hy
  (clear hd; subst G8)
  (have oc:=Out.ok.inj he; clear he; subst oc)
  exact uM ra.1 ra.2 ha hQ
 | sorted=>
  replace he:=b1_list' he
  revert he; intro II
  refine af (II) fun xs G9 he=>?_
  try clear II
  (clear hd; subst G9)
  unfold dM at he
  split at he
  ·rename_i h64
   split at he
   ·rename_i ns hn
    (have oc:=Out.ok.inj he; clear he; subst oc)
    exact qR ra.1 hn h64 hQ
   ·unfold dG at he
    cases ht:du xs with
    | some ks=>
     rw [ht] at he
     dsimp only at he
     (have oc:=Out.ok.inj he; clear he; subst oc)
     exact rL hu ra.1 ha ra.2 ht h64 hQ
    | none=>
     rw [ht] at he
     dsimp only at he
     refine aU he fun ks hk he=>?_
     (have oc:=Out.ok.inj he; clear he; subst oc)
     exact qU hu ra.1 ha ra.2 hk h64 hQ
  ·exact nB he
 | max=>
  replace he:=b1_list' he
  revert he; intro HN
  refine af (HN) fun xs Ha he=>?_
  try clear HN
  (clear hd; subst Ha)
  replace he:=aT he
  revert he; intro Ix
  refine af (Ix) fun i hi he=>?_
  try clear Ix
  refine aZ hi fun ns hi1 hi2=>?_
  (have oc:=Out.ok.inj he; clear he; subst oc)
  exact wQ hh ra.1 hi1 hi2 hQ
theorem zY (f:B1):b1n f∈bnames:=by cases f<;>decide
theorem BK (f:B1):(Str.ofString (b1n f)==("__debug__" : Str))=false:=by cases f<;>decide
theorem qB (hf:fns.hand=false) {f:B1}{a:E}(Sa:SimE fns k C XP a):SimE fns k C XP (.bi1 f a):=by
 intro ex A env σ P s Q Er ok X nb hQ hE
 replace ok:=xQ ok
 revert ok; refine fun Hg=>Or.elim Hg (fun Hb=>?_) (fun ok=>?_)
 ·clear Hg
  refine cb (Hb) fun HH HV Il H7 HU ok=>?_
  clear Hb
  subst HU
  simp only [Bool.and_eq_true,beq_iff_eq] at ok
  refine ae (ok) fun Hd oa=>?_
  try clear ok
  refine ae (Hd) fun Hf hg=>?_
  try clear Hd
  subst Hf
  simp only [jo] at nb hQ hE
  refine aR nb fun n1 n2=>?_
  have fin:∀ {B:Value},B=bval (b1n f)->∀ {pos:Pos},wpAny (model prog w) A (spliced (backTo pos (starEach [_] env))) (fun vs s₁=>wpAny (model prog w) A (call B vs) Q Er s₁) Er s:=fun {B} hB {pos}=>by
   subst hB
   refine ll _ oa (Sa oa X n1 (fun r hr v s₁ Ea=>?_) fun c hc=>hE c (by rw [hc]; rfl))
   have n3:=n2 r hr
   cases h:b1V f r.1 with
   | bad=>exact absurd h n3
   | exc c=>exact absurd h yl
   | ok q=>
    obtain ⟨ka,as,ra,ha,_⟩:=Ea
    exact zA (P:=fun a=>P a\/s.heap.get? a=none) (X.room.1 hf) X.room.units h ra ha fun v s' E=>hQ q (by rw [hr]; exact h) v s' (E.shift ka)
  refine fx X.eok X.ge (zY f) hg (BK f) ?_
  cases f with
  | list=>exact iw (T := "list") _ oa rfl (fin rfl)
  | tuple=>exact iw (T := "tuple") _ oa rfl (fin rfl)
  | _=>exact jT _ oa rfl (fin rfl)
 ·cases ok
theorem uU {x:V}{t c:String}:gn x t≠.exc c:=yi c
theorem v8 {t:String}{k:Nat}{b:Bool}(h:lQ t k=some b):t∈bnames/\bval t = .type t :=
 pe h (fun e uu=>e▸⟨by decide,rfl⟩) (fun e uu=>e▸⟨by decide,rfl⟩) (fun e uu=>e▸⟨by decide,rfl⟩) (fun e uu=>e▸⟨by decide,rfl⟩) fun e uu=>e▸⟨by decide,rfl⟩
theorem mn {id:Str}{p:Pos}(xs:List Expr) (env:Env):starEach (.Name id p::xs) env=(false,eval (.Name id p) env)::starEach xs env:=rfl
theorem yP {a:E}{t:String}(Sa:SimE fns k C XP a):SimE fns k C XP (.isi a t):=by
 intro ex A env σ P s Q Er ok X nb hQ hE
 replace ok:=xR ok
 revert ok; refine fun Hn=>Or.elim Hn (fun Hj=>?_) (fun ok=>?_)
 ·clear Hn
  refine nw (Hj) fun I9 I0 JU JH J2 JT IY ok=>?_
  clear Hj
  subst IY
  simp only [Bool.and_eq_true,beq_iff_eq] at ok
  refine ae (ok) fun HO hdt=>?_
  try clear ok
  refine ae (HO) fun HT hgt=>?_
  try clear HO
  refine ae (HT) fun HA HI=>?_
  try clear HT
  refine ae (HA) fun HJ oa=>?_
  try clear HA
  refine ae (HJ) fun HG hg=>?_
  try clear HJ
  subst HG
  subst HI
  simp only [lK] at nb hQ hE
  refine aR nb fun n1 n2=>?_
  refine fx X.eok X.ge (id := "isinstance") (by decide) hg (by decide) (jT (id := "isinstance") _ oa rfl (wpAny_items_cons ?_ (aJ oa _ env)))
  refine Sa oa X n1 (fun x hx va s₁ Ea=>?_) fun c hc=>hE c (by rw [hc]; rfl)
  cases h:gn x.1 t with
  | bad=>exact absurd h (bf (n2 x hx)).1
  | exc c=>exact absurd h uU
  | ok b=>
   refine af (vT h) fun xd hxd hi=>?_
   refine ae (v8 hi) fun hm hb=>?_
   have ge:=X.ge.k Ea.keeps.k
   refine ao (ge.glob) fun mg g1 _ g3=>?_
   refine af (ge.blt) fun mb b1 b2=>?_
   refine wpAny_items_cons ?_ (mn [] env)
   refine Calls.Name_function_global X.eok.kind (dA hgt) (Calls.loadGlobal_builtin (X.eok.glob▸g1) (g3 t hm) (X.eok.blt▸b1) (b2 t hm) ?_) (nd hdt)
   refine wpAny_items_nil ?_
   obtain ⟨ka,as,ra,ha,_⟩:=Ea
   rw [hxd] at ra
   rw [hb]
   exact wl hi ra.1 fun s' kp=>hQ (sB b) (by rw [hx,Out.ok_bind,h]; rfl) _ _ (.bool (ka.trans kp))
 ·cases ok
theorem qm {x t:String}(hX:∀ t g,C t=some g->t∈aw->t∈SF.excN):SimE fns k C XP (.isE x t):=by
 intro ex A env σ P s Q Er ok X nb hQ hE
 replace ok:=xR (BD ok)
 revert ok; refine fun Hn=>Or.elim Hn (fun Hj=>?_) (fun ok=>?_)
 ·clear Hn
  refine nw (Hj) fun I9 I0 JU JH J2 JT IY ok=>?_
  clear Hj
  subst IY
  simp only [Bool.and_eq_true,beq_iff_eq] at ok
  refine ae (ok) fun HO hdt=>?_
  try clear ok
  refine ae (HO) fun HT hgt=>?_
  try clear HO
  refine ae (HT) fun HA HI=>?_
  try clear HT
  refine ae (HA) fun HJ oa=>?_
  try clear HA
  refine ae (HJ) fun HG hg=>?_
  try clear HJ
  subst HG
  subst HI
  simp only [jx] at nb hQ hE
  cases hp:σ x with
  | none=>rw [hp] at nb; exact absurd rfl nb
  | some p=>
  cases hc:jC p.1 with
  | none=>rw [hp] at nb; simp only [au,hc] at nb; exact absurd rfl nb
  | some c=>
  rw [hp] at nb hQ hE
  simp only [au,hc] at nb hQ hE
  have en:ev C (.name x) σ = .ok (mk p.1):=by rw [c7,hp]
  refine fx X.eok X.ge (id := "isinstance") (by decide) hg (by decide) (jT (id := "isinstance") _ oa rfl (wpAny_items_cons ?_ (aJ oa _ env)))
  refine ig x (C:=C) (fns:=fns) (k:=k) (XP:=XP) oa X (by rw [en]; exact fun q=>nomatch q) (fun y hy va s₁ Ea=>?_) fun c hc=>(by rw [en] at hc; exact nomatch hc)
  rw [en] at hy; (have oc:=Out.ok.inj hy; clear hy; subst oc)
  have ge:=X.ge.k Ea.keeps.k
  obtain ⟨ka,as,ra,ha,_⟩:=Ea
  have era:(mk p.1).1 = .err c:=ub hc
  rw [era] at ra
  refine ao (ge.exc) fun mg g1 g2 g3=>?_
  refine wpAny_items_cons ?_ (mn [] env)
  unfold pg at nb hQ
  by_cases ht:t∈aw
  ·rw [if_pos ht] at nb hQ
   cases hg':C t with
   | none=>rw [hg'] at nb; exact absurd rfl nb
   | some g=>
   rw [hg'] at hQ
   have hdN:=hX t g hg' ht
   refine Calls.Name_function_global X.eok.kind (dA hgt) (Calls.loadGlobal_global (X.eok.glob▸g1) (g2 t hdN).1 ?_) (nd hdt)
   refine wpAny_items_nil ?_
   exact uR g3 (fun c hc=>(g2 c hc).2) hdN ra fun s' kp=>hQ _ rfl _ _ (.bool (ka.trans kp))
  ·rw [if_neg ht] at nb hQ
   by_cases hv:t = "ValueError"
   ·rw [if_pos hv] at hQ
    subst hv
    refine ao (ge.glob) fun mg g1 _ g3'=>?_
    refine af (ge.blt) fun mb b1 b2=>?_
    refine Calls.Name_function_global X.eok.kind (dA hgt) (Calls.loadGlobal_builtin (X.eok.glob▸g1) (g3' "ValueError" (by decide)) (X.eok.blt▸b1) (b2 "ValueError" (by decide)) ?_) (nd hdt)
    refine wpAny_items_nil ?_
    exact wP (fun c hc=>(g2 c hc).2) ra (hQ _ rfl _ _ (.bool ka))
   ·rw [if_neg hv] at nb; exact absurd rfl nb
 ·cases ok
set_option tactic.hygienic true in
theorem vo (hf:fns.hand=false) (hC:b9 fns k C XP) (hXP:∀ c s s₁ x s',Kp s s₁->XP c s₁ x s'->XP c s x s') {f:String}{es:Es}(Ss:fO fns k C XP es):SimE fns k C XP (.call f es):=by
 intro ex A env σ P s Q Er ok X nb hQ hE
 replace ok:=uG ok
 revert ok; refine fun Hp=>Or.elim Hp (fun Ho=>?_) (fun ok=>?_)
 ·clear Hp
  refine cb (Ho) fun Kl p xs pos J0 ok=>?_
  clear Ho
  subst J0
  simp only [Bool.and_eq_true,beq_iff_eq,Bool.not_eq_true',decide_eq_false_iff_not] at ok
  refine ae (ok) fun HR oes=>?_
  try clear ok
  refine ae (HR) fun Iv hl=>?_
  try clear HR
  refine ae (Iv) fun Ic hne=>?_
  try clear Iv
  refine ae (Ic) fun IW hx=>?_
  try clear Ic
  refine ae (IW) fun Jw hm=>?_
  try clear IW
  refine ae (Jw) fun IV hd=>?_
  try clear Jw
  refine ae (IV) fun I7 hg=>?_
  try clear IV
  subst I7
  simp only [kC] at nb hQ hE
  split at nb
  ·rename_i g hCf
   rw [hCf] at hQ hE
   dsimp only at hQ hE
   refine aR nb fun n1 n2=>?_
   refine af ((hC f g hCf).2.2.2 hx) fun fa hfa hcall=>?_
   refine ao (X.ge.glob) fun mg g1 g2 _=>?_
   refine wpAny_Call_NameR (Calls.Name_function_global X.eok.kind (dA hg) (Calls.loadGlobal_global (X.eok.glob▸g1) (g2 f fa hm hfa) ?_) (nd hd))
   cases xs with
   | nil=>simp at hne
   | cons y ys=>
    cases es with
    | nil=>exact Bool.noConfusion (show false=true from oes)
    | cons e es=>
     refine bX (show (okE env.scope.names e y&&dU env.scope.names es ys)=true from oes) fun oy oys=>?_
     have fin:∀ l,evs C (.cons e es) σ = .ok l->∀ vs s₁,EPs P s l vs s₁->wpAny (model prog w) A (call (.ref fa) vs []) Q Er s₁:=fun l hl vs s₁ Es=>by
      obtain ⟨ks,as,rs,ha,_⟩:=Es
      exact hcall (P:=fun a=>P a\/s.heap.get? a=none) X.room (af (X.frm hf) fun l' a' b'=>(ah l' a' (b'.k ks.k))) (X.ge.k ks.k) rs ha (n2 l hl) (fun r hr v s' E=>hQ r (by rw [hl]; exact hr) v s' (E.shift ks)) fun c hc z s' hz=>hE c (by rw [hl]; exact hc) z s' (hXP c s s₁ z s' ks hz)
     by_cases hR:f = "Rule"
     ·have hi:fns.init.isSome=true:=by
       unfold adr at hfa
       rw [if_pos hR] at hfa
       refine be hfa fun uu q _=>?_
       rw [q]; rfl
      have hfr:fa=SF.rule:=by
       unfold adr at hfa
       rw [if_pos hR] at hfa
       refine be hfa fun uu uu q=>?_
       exact q.symm
      refine av (X.ge.cls (.inr hi)) fun N mN hcl _=>?_
      rw [← hfr] at hcl
      exact m7 (aJ oy _ env) (oW oys pos).1 (Ss (pos:=pos) oes X n1 (fun l hl vs s₁ Es=>⟨qH hcl Es.keeps.k,fin l hl vs s₁ Es⟩) fun c hc=>hE c (by rw [hc]; rfl))
     ·rw [sG hR hm] at hfa
      refine be hfa fun q hq J7=>?_
      (clear hcall; subst J7)
      refine aA (X.ge.funs f q hq) fun o fd ho hfd _=>?_
      refine Calls.callWith_function (o:=o) (fd:=fd) ?_
      have hS:=Ss (pos:=pos) (A:=A) (P:=P) (s:=s) (Er:=Er) (Q:=fun vs s₁=>(s₁.heap.get? q.1=some o/\o.data = .func fd)/\wpAny (model prog w) A (call (.ref q.1) ([]++vs) []) Q Er s₁) oes X n1 (fun l hl vs s₁ Es=>?_) fun c hc=>hE c (by rw [hc]; rfl)
      ·rw [aJ oy] at hS ⊢
       exact Calls.evalArgs_plain hS
      ·refine ⟨⟨Es.keeps.k.exact ho (fun uu q=>by rw [hfd] at q; cases q) fun uu uu q=>(by rw [hfd] at q; cases q),hfd⟩,?_⟩
       rw [List.nil_append]
       exact fin l hl vs s₁ Es
  ·exact absurd rfl nb
 ·cases ok
noncomputable def t8:Expr->Bool
 | .UnaryOp .Not _ _=>false
 | .BoolOp _ _ _=>false
 | .IfExp _ _ _ _=>false
 | .Compare _ _ _ _=>false
 | _=>true
theorem pz {ex:Expr}(h:t8 ex=true) (env:Env) (t:Sem Value):isTrue ex env t=(do let v ← t; standAt ex.pos; holding [v] (truthy v)):=by
 cases ex with
 | UnaryOp op x p=>cases op<;>first | rfl | exact nF h
 | _=>first | rfl | exact nF h
noncomputable def sM:E->Bool
 | .not _ | .cmp _ _ _ | .and _ _ | .or _ _=>false
 | _=>true
theorem vH {ns:List (Str×NameKind)}{e:E}{ex:Expr}(hp:sM e=true) (h:okE ns e ex=true):t8 ex=true:=by
 cases ex with
 | UnaryOp op x p=>
  cases e with
  | not _=>exact nF hp
  | neg a=>
   refine Or.elim (xh h) (fun HE=>?_) (fun q=>?_)
   ·refine av (HE) fun Kc Kf q Kh=>?_
    clear HE
    cases q; rfl
   ·cases q
  | _=>exact Bool.noConfusion (show false=true from h)
 | BoolOp _ _ _=>
  cases e with
  | and _ _=>exact nF hp
  | or _ _=>exact nF hp
  | _=>exact Bool.noConfusion (show false=true from h)
 | Compare _ _ _ _=>
  cases e with
  | cmp _ _ _=>exact nF hp
  | _=>exact Bool.noConfusion (show false=true from h)
 | IfExp _ _ _ _=>cases e<;>exact Bool.noConfusion (show false=true from h)
 | _=>rfl
variable (fns k C XP)
structure SimAll (ee:E):Prop where
 e:SimE fns k C XP ee
 t:SimT fns k C XP ee
 a:SimA fns k C XP ee
 o:SimO fns k C XP ee
 ta:SimTA fns k C XP ee
 to:SimTO fns k C XP ee
variable {fns k C XP}
noncomputable def pL:E->Bool
 | .and _ _=>false
 | _=>true
noncomputable def qV:E->Bool
 | .or _ _=>false
 | _=>true
theorem fN {ns:List (Str×NameKind)}{e:E}{vs:List Expr}(h:pL e=true):okA ns e vs=false:=by cases e<;>first | rfl | exact nF h
theorem gb {ns:List (Str×NameKind)}{e:E}{vs:List Expr}(h:qV e=true):okO ns e vs=false:=by cases e<;>first | rfl | exact nF h
theorem SimAll.ofET {e:E}(S:SimE fns k C XP e) (T:SimT fns k C XP e) (ha:pL e=true) (ho:qV e=true):SimAll fns k C XP e where
 e:=S
 t:=T
 a:=j7 S fun ok=>by rw [fN ha] at ok; exact nF ok
 o:=jX S fun ok=>by rw [gb ho] at ok; exact nF ok
 ta:=ja T fun ok=>by rw [fN ha] at ok; exact nF ok
 to:=jh T fun ok=>by rw [gb ho] at ok; exact nF ok
theorem SimAll.ofE {e:E}(S:SimE fns k C XP e) (hp:sM e=true) (ha:pL e=true) (ho:qV e=true):SimAll fns k C XP e :=
 .ofET S (rU S fun uu uu env t ok=>pz (vH hp ok) env t) ha ho
section
variable (hf:fns.hand=false) (hC:b9 fns k C XP) (hXP:∀ c s s₁ x s',Kp s s₁->XP c s₁ x s'->XP c s x s')
include hXP
theorem la {a b:E}(Sa:SimAll fns k C XP a) (Sb:SimAll fns k C XP b):SimAll fns k C XP (.and a b) :=
  have S:SimE fns k C XP (.and a b):=zK hXP Sa.e Sb.a
  have T:SimT fns k C XP (.and a b):=vI hXP Sa.t Sb.ta
  {e:=S,t:=T,o:=jX S fun ok=>(by rw [gb rfl] at ok; cases ok),to:=jh T fun ok=>(by rw [gb rfl] at ok; cases ok),
   a:=j7 S fun {vs} _ _ _ _ _ _ _ _ ok X nb hQ hE=>(by
    replace ok:=i_A ok
    revert ok; refine fun IB=>Or.elim IB (fun Iz=>?_) (fun ok=>?_)
    ·clear IB
     refine av (Iz) fun Kj J8 JR ok=>?_
     clear Iz
     subst JR
     simp only [Bool.and_eq_true] at ok
     exact Af hXP Sa.e Sb.a ok.1 ok.2 X nb hQ hE
    ·cases ok),
   ta:=ja T fun {vs} _ _ _ _ _ _ _ ok X nb hQ hE=>(by
    replace ok:=i_A ok
    revert ok; refine fun JP=>Or.elim JP (fun JA=>?_) (fun ok=>?_)
    ·clear JP
     refine av (JA) fun Ki Ke J6 ok=>?_
     clear JA
     subst J6
     simp only [Bool.and_eq_true] at ok
     exact ye hXP Sa.t Sb.ta ok.1 ok.2 X nb hQ hE
    ·cases ok) }
theorem mP {a b:E}(Sa:SimAll fns k C XP a) (Sb:SimAll fns k C XP b):SimAll fns k C XP (.or a b) :=
  have S:SimE fns k C XP (.or a b):=z6 hXP Sa.e Sb.o
  have T:SimT fns k C XP (.or a b):=yw hXP Sa.t Sb.to
  {e:=S,t:=T,a:=j7 S fun ok=>(by rw [fN rfl] at ok; cases ok),ta:=ja T fun ok=>(by rw [fN rfl] at ok; cases ok),
   o:=jX S fun {vs} _ _ _ _ _ _ _ _ ok X nb hQ hE=>(by
    replace ok:=i_O ok
    revert ok; refine fun Je=>Or.elim Je (fun Jy=>?_) (fun ok=>?_)
    ·clear Je
     refine av (Jy) fun Kk Km JZ ok=>?_
     clear Jy
     subst JZ
     simp only [Bool.and_eq_true] at ok
     exact orL hXP Sa.e Sb.o ok.1 ok.2 X nb hQ hE
    ·cases ok),
   to:=jh T fun {vs} _ _ _ _ _ _ _ ok X nb hQ hE=>(by
    replace ok:=i_O ok
    revert ok; refine fun JD=>Or.elim JD (fun JI=>?_) (fun ok=>?_)
    ·clear JD
     refine av (JI) fun Ka Ko JX ok=>?_
     clear JI
     subst JX
     simp only [Bool.and_eq_true] at ok
     exact AL hXP Sa.t Sb.to ok.1 ok.2 X nb hQ hE
    ·cases ok) }
mutual
theorem dE (hX:∀ t g,C t=some g->t∈aw->t∈SF.excN):∀ e:E,hOk e=true->SimAll fns k C XP e
 | .name x,_=>.ofE (ig x) rfl rfl rfl
 | .int i,_=>.ofE (lZ i) rfl rfl rfl
 | .bool b,_=>.ofE (ot b) rfl rfl rfl
 | .bin o a b,h=>.ofE (qi hXP (dE hX a (Bool.and_eq_true_iff.mp h).1).e (dE hX b (Bool.and_eq_true_iff.mp h).2).e) rfl rfl rfl
 | .not a,h=>.ofET (qJ (dE hX a h).e) (pB (dE hX a h).t) rfl rfl
 | .cmp o a b,h=>.ofET (qu hXP (dE hX a (Bool.and_eq_true_iff.mp h).1).e (dE hX b (Bool.and_eq_true_iff.mp h).2).e) (o6 hXP (dE hX a (Bool.and_eq_true_iff.mp h).1).e (dE hX b (Bool.and_eq_true_iff.mp h).2).e) rfl rfl
 | .and a b,h=>la hXP (dE hX a (Bool.and_eq_true_iff.mp h).1) (dE hX b (Bool.and_eq_true_iff.mp h).2)
 | .or a b,h=>mP hXP (dE hX a (Bool.and_eq_true_iff.mp h).1) (dE hX b (Bool.and_eq_true_iff.mp h).2)
 | .isE x t,h=>.ofE (qm hX) rfl rfl rfl
 | .list es,h=>.ofE (oj (xb hX es h)) rfl rfl rfl
 | .str _,h | .none,h | .neg _,h | .tup _,h | .edic,h | .comp _ _ _,h | .compif _ _ _ _,h | .sub _ _,h | .slo _ _,h | .shi _ _,h | .rev _,h | .attr _ _,h | .bi1 _ _,h | .isi _ _,h | .call _ _,h=>Bool.noConfusion h
termination_by structural e=>e
theorem xb (hX:∀ t g,C t=some g->t∈aw->t∈SF.excN):∀ es:Es,vF es=true->fO fns k C XP es
 | .nil,_=>ml
 | .cons e es,h=>kR hXP (dE hX e (Bool.and_eq_true_iff.mp h).1).e (xb hX es (Bool.and_eq_true_iff.mp h).2)
termination_by structural es=>es
end
include hf hC
mutual
theorem ax:∀ e:E,SimAll fns k C XP e
 | .name x=>.ofE (ig x) rfl rfl rfl
 | .int i=>.ofE (lZ i) rfl rfl rfl
 | .str s=>.ofE (y5 s) rfl rfl rfl
 | .bool b=>.ofE (ot b) rfl rfl rfl
 | .none=>.ofE vQ rfl rfl rfl
 | .bin o a b=>.ofE (qi hXP (ax a).e (ax b).e) rfl rfl rfl
 | .neg a=>.ofE (zl (ax a).e) rfl rfl rfl
 | .not a=>.ofET (qJ (ax a).e) (pB (ax a).t) rfl rfl
 | .cmp o a b=>.ofET (qu hXP (ax a).e (ax b).e) (o6 hXP (ax a).e (ax b).e) rfl rfl
 | .and a b=>la hXP (ax a) (ax b)
 | .or a b=>mP hXP (ax a) (ax b)
 | .list es=>.ofE (oj (jA es)) rfl rfl rfl
 | .tup es=>.ofE (y7 (jA es)) rfl rfl rfl
 | .edic=>.ofE vP rfl rfl rfl
 | .comp elt x it=>.ofE (uV (ej it) (ax elt).e) rfl rfl rfl
 | .compif elt x it c=>.ofE (su (ej it) (ax elt).e (ax c).t) rfl rfl rfl
 | .sub a i=>.ofE (qg hXP (ax a).e (ax i).e) rfl rfl rfl
 | .slo a i=>.ofE (y9 hXP (ax a).e (ax i).e) rfl rfl rfl
 | .shi a i=>.ofE (zc hXP (ax a).e (ax i).e) rfl rfl rfl
 | .rev a=>.ofE (yZ (ax a).e) rfl rfl rfl
 | .attr a n=>.ofE (wJ hC (ax a).e) rfl rfl rfl
 | .bi1 f a=>.ofE (qB hf (ax a).e) rfl rfl rfl
 | .isi a t=>.ofE (yP (ax a).e) rfl rfl rfl
 | .isE x t=>.ofE (qm fun t g h1 h2=>(hC t g h1).2.2.1 h2) rfl rfl rfl
 | .call f es=>.ofE (vo hf hC hXP (jA es)) rfl rfl rfl
termination_by structural e=>e
theorem jA:∀ es:Es,fO fns k C XP es
 | .nil=>ml
 | .cons e es=>kR hXP (ax e).e (jA es)
termination_by structural es=>es
theorem ej:∀ it:It,dP fns k C XP it
 | .e a=>zz hf (ax a).e
 | .r1 n=>vA hf (ax n).e
 | .r2 a b=>wU hf hXP (ax a).e (ax b).e
termination_by structural it=>it
end
end
end
end Mine
namespace Mine
open PySem PyProof.Rows
theorem iR {σ τ:St}{x:String}{v:V×Mode}{ns:List String}(h:∀ y∈ns,σ y=τ y):∀ y∈ns,upd σ x v y=upd τ x v y:=by
 intro y hy
 unfold upd
 split
 ·rfl
 ·exact h y hy
mutual
theorem ay (C:Calls):∀ (e:E) (σ τ:St),(∀ y∈fv e,σ y=τ y)->ev C e σ=ev C e τ
 | .name x,σ,τ,h=>by simp only [c7]; rw [h x (by simp [dD])]
 | .int _,_,_,_=>by simp only [dH]
 | .str _,_,_,_=>by simp only [zL]
 | .bool _,_,_,_=>by simp only [oM]
 | .none,_,_,_=>by simp only [o0]
 | .bin o a b,σ,τ,h=>by
  simp only [zn,List.mem_append] at h
  simp only [lC]; rw [ay C a σ τ fun y hy=>h y (.inl hy),ay C b σ τ fun y hy=>h y (.inr hy)]
 | .neg a,σ,τ,h=>by simp only [yB] at h; simp only [lU]; rw [ay C a σ τ h]
 | .not a,σ,τ,h=>by simp only [yN] at h; simp only [gQ]; rw [ay C a σ τ h]
 | .cmp o a b,σ,τ,h=>by
  simp only [yX,List.mem_append] at h
  simp only [jv]; rw [ay C a σ τ fun y hy=>h y (.inl hy),ay C b σ τ fun y hy=>h y (.inr hy)]
 | .and a b,σ,τ,h=>by
  simp only [yn,List.mem_append] at h
  simp only [gw]; rw [ay C a σ τ fun y hy=>h y (.inl hy),ay C b σ τ fun y hy=>h y (.inr hy)]
 | .or a b,σ,τ,h=>by
  simp only [Aw,List.mem_append] at h
  simp only [iX]; rw [ay C a σ τ fun y hy=>h y (.inl hy),ay C b σ τ fun y hy=>h y (.inr hy)]
 | .list es,σ,τ,h=>by simp only [uO] at h; simp only [bv]; rw [fV C es σ τ h]
 | .tup es,σ,τ,h=>by simp only [yr] at h; simp only [jl]; rw [fV C es σ τ h]
 | .edic,_,_,_=>by simp only [ol]
 | .comp elt x it,σ,τ,h=>by
  simp only [kB,List.mem_append] at h
  simp only [gZ]
  rw [dO C it σ τ fun y hy=>h y (.inl hy)]
  have e:∀ d,(ev C elt (upd σ x (mk (.d d))))=ev C elt (upd τ x (mk (.d d))):=fun d=>ay C elt _ _ (iR fun y hy=>h y (.inr hy))
  simp only [e]
 | .compif elt x it c,σ,τ,h=>by
  simp only [si,List.mem_append] at h
  simp only [e9]
  rw [dO C it σ τ fun y hy=>h y (.inl hy)]
  have e:∀ d,(ev C elt (upd σ x (mk (.d d))))=ev C elt (upd τ x (mk (.d d))):=fun d=>ay C elt _ _ (iR fun y hy=>h y (.inr (.inr hy)))
  have e':∀ d,(ev C c (upd σ x (mk (.d d))))=ev C c (upd τ x (mk (.d d))):=fun d=>ay C c _ _ (iR fun y hy=>h y (.inr (.inl hy)))
  simp only [e,e']
 | .sub a b,σ,τ,h=>by
  simp only [ql,List.mem_append] at h
  simp only [jB]; rw [ay C a σ τ fun y hy=>h y (.inl hy),ay C b σ τ fun y hy=>h y (.inr hy)]
 | .slo a b,σ,τ,h=>by
  simp only [y6,List.mem_append] at h
  simp only [lI]; rw [ay C a σ τ fun y hy=>h y (.inl hy),ay C b σ τ fun y hy=>h y (.inr hy)]
 | .shi a b,σ,τ,h=>by
  simp only [zr,List.mem_append] at h
  simp only [ly]; rw [ay C a σ τ fun y hy=>h y (.inl hy),ay C b σ τ fun y hy=>h y (.inr hy)]
 | .rev a,σ,τ,h=>by simp only [zf] at h; simp only [jq]; rw [ay C a σ τ h]
 | .attr a n,σ,τ,h=>by simp only [vd] at h; simp only [kj]; rw [ay C a σ τ h]
 | .bi1 f a,σ,τ,h=>by simp only [lH] at h; simp only [jo]; rw [ay C a σ τ h]
 | .isE x t,σ,τ,h=>by simp only [zi] at h; simp only [jx]; rw [h x (.head _)]
 | .isi a t,σ,τ,h=>by simp only [zo] at h; simp only [lK]; rw [ay C a σ τ h]
 | .call f es,σ,τ,h=>by simp only [wp] at h; simp only [kC]; rw [fV C es σ τ h]
termination_by structural e=>e
theorem fV (C:Calls):∀ (es:Es) (σ τ:St),(∀ y∈fvs es,σ y=τ y)->evs C es σ=evs C es τ
 | .nil,_,_,_=>by simp only [a8]
 | .cons e es,σ,τ,h=>by
  simp only [tT,List.mem_append] at h
  simp only [aY]; rw [ay C e σ τ fun y hy=>h y (.inl hy),fV C es σ τ fun y hy=>h y (.inr hy)]
termination_by structural es=>es
theorem dO (C:Calls):∀ (it:It) (σ τ:St),(∀ y∈bx it,σ y=τ y)->bt C it σ=bt C it τ
 | .e a,σ,τ,h=>by simp only [fg] at h; simp only [gP]; rw [ay C a σ τ h]
 | .r1 a,σ,τ,h=>by simp only [wf] at h; simp only [fL]; rw [ay C a σ τ h]
 | .r2 a b,σ,τ,h=>by
  simp only [wv,List.mem_append] at h
  simp only [fK]; rw [ay C a σ τ fun y hy=>h y (.inl hy),ay C b σ τ fun y hy=>h y (.inr hy)]
termination_by structural it=>it
end
noncomputable def ck (σ:St) (ns:List String):St:=fun x=>if x∈ns then σ x else none
theorem bS (σ:St) (ns:List String):∀ y∈ns,ck σ ns y=σ y:=fun y hy=>by unfold ck; rw [if_pos hy]
theorem iG {M:Model}{A:Around}{E:Value->Shared->Prop}{s:Shared}{a:Addr}{m:Str->Option Value}{name:Str}{v:Value}{T:Value}{Q:Unit->Shared->Prop}(hn:s.heap.Ns a m) (hc:∃ o,s.heap.get? a=some o/\o.cls=T)
  (h:∀ h',h'.Ns a (fun x=>if x=name then some v else m x)->Heap.SameBut a s.heap h'->(∃ o,h'.get? a=some o/\o.cls=T)->Q () {s with heap:=h',toks:=s.toks+1 }):wpAny M A (nsSet a name v) Q E s:=by
 refine dh (hn) fun o es ep ho hd hk hm=>?_
 try clear hn
 refine af (hc) fun o' ho' hT=>?_
 try clear hc
 rw [ho] at ho'
 obtain rfl:=Option.some.inj ho'
 have hany:es.any (·.refKey)=false:=by
  rw [Array.any_eq_false']; intro e he; obtain ⟨n,t,h⟩:=hk e he; simp [DictEntry.refKey,h]
 intro Γ p _
 simp only [nsSet,strHash,Sem.wp_bind',Sem.wp_cmd_ask,Sem.wp_pure',Sem.wp_cmd_mkText]
 rw [Sem.wp_loadPart_of M Γ _ p {s with toks:=s.toks+1 } (o:=o) _ ho]
 simp only [hd,aRefKeyMayBeTheName_eq,aRefKeyMayBeTheNameByArray,hany,Bool.and_false,Bool.false_eq_true,if_false,Sem.wp_cmd_updatePart]
 refine ⟨by rw [ho]; rfl,h _ ?_ (Heap.SameBut.update ..) ?_⟩
 ·obtain ⟨c,d,dt,sl⟩:=o
  (clear hT ho'; subst hd)
  cases hi:es.findIdx? (·.key.isStr name) with
  | some i=>
   refine (fc _ _ ep (Heap.get?_update_self _ ho (by simp only [Obj.putName_eq,Obj.putNameByArray,hi]; rfl)) (by simp only [Obj.putName_eq,Obj.putNameByArray,hi]; rfl) (hk.modify _ _) (fun x=>?_))
   show _=if x=name then some v else m x
   rw [← hm]; exact findBy_modify (fun n v=>v.isStr n) Value.isStr_inj es name x v i hi
  | none=>
   refine (fc _ _ (ep+1) (Heap.get?_update_self _ ho (by simp only [Obj.putName_eq,Obj.putNameByArray,hi]; rfl)) (by simp only [Obj.putName_eq,Obj.putNameByArray,hi]; rfl) (hk.push _ _ _ _) (fun x=>?_))
   show _=if x=name then some v else m x
   rw [← hm]
   exact findBy_push (fun n v=>v.isStr n) es name x _ _ v (fun y=>by
    show (name==y)=decide (y=name)
    by_cases h:y=name
    ·(clear hi; subst h); simp
    ·have:¬ name=y:=fun e=>h e.symm
     simp [h,this]) hi
 ·obtain ⟨c,d,dt,sl⟩:=o
  (clear ho'; subst hd)
  cases hi:es.findIdx? (·.key.isStr name) with
  | some i=>exact (ah _ (Heap.get?_update_self _ ho (by simp only [Obj.putName_eq,Obj.putNameByArray,hi]; rfl)) (by simp only [Obj.putName_eq,Obj.putNameByArray,hi]; exact hT))
  | none=>exact (ah _ (Heap.get?_update_self _ ho (by simp only [Obj.putName_eq,Obj.putNameByArray,hi]; rfl)) (by simp only [Obj.putName_eq,Obj.putNameByArray,hi]; exact hT))
structure Loc (env:Env) (Z:Addr->Prop) (h:Heap) (vals:String->Option Value):Prop where
 cls:∃ o,h.get? env.locals=some o/\o.cls = .type "frame"
 ns:∃ m,h.Ns env.locals m/\∀ x v,vals x=some v->env.kindOf (Str.ofString x)=some .local->m (Str.ofString x)=some v
 nz:¬ Z env.locals
 cell:∀ n c,env.kindOf n=some .cell->env.cells.lookup n=some c->c≠env.locals/\¬ Z c/\∃ v,h.IsCell c v
 cval:∀ x v c,vals x=some v->env.kindOf (Str.ofString x)=some .cell->env.cells.lookup (Str.ofString x)=some c->h.IsCell c (some v)
 apart:∀ n n' c,env.cells.lookup n=some c->env.cells.lookup n' = some c->n=n'
 kinds:∀ x v,vals x=some v->env.kindOf (Str.ofString x)=some .local\/env.kindOf (Str.ofString x)=some .cell
noncomputable def d7 (vals:String->Option Value) (x:String) (v:Value):String->Option Value:=fun y=>if y=x then some v else vals y
noncomputable def so (T:Addr) (h h':Heap):Prop:=(∃ v,h.IsCell T v)->∀ o,h.get? T=some o->∃ o',h'.get? T=some o'/\o'.cls=o.cls/\o'.dict=o.dict/\∀ c,o'.data≠.cls c
theorem wF {M:Model}{A:Around}{E:Value->Shared->Prop}{s:Shared}{env:Env}{name:Str}{c:Addr}{v₀:Option Value}{v:Value}{Q:Unit->Shared->Prop}(hk:env.scope.kind = .function) (hl:env.kindOf name=some .cell) (hc:env.cells.lookup name=some c) (hv:s.heap.IsCell c v₀)
  (h:∀ h',h'.IsCell c (some v)->Heap.SameBut c s.heap h'->so c s.heap h'->Q () {s with heap:=h' }):wpAny M A (storeName env name v) Q E s:=by
 unfold storeName
 simp only [hl,hk]
 refine wpAny_bind (wpAny_cellOf hc ?_)
 refine af (hv) fun o ho hd=>?_
 try clear hv
 unfold cellSet
 refine wpAny_bind (wpAny_load ho ?_)
 rw [hd]
 refine wpAny_update ho (h _ (ah ({o with data:=.cell (some v) }) (Heap.get?_update_self _ ho rfl) rfl) (.update ..) fun uu o' e=>?_)
 rw [ho] at e; (have oc:=Option.some.inj e; clear e; subst oc)
 exact (br ({o with data:=.cell (some v) }) (Heap.get?_update_self _ ho rfl) rfl rfl (fun uu q=>by cases q))
noncomputable def Spot (env:Env) (h:Heap) (T:Addr):Prop:=(T=env.locals/\∃ m,h.Ns T m)\/∃ v,h.IsCell T v
theorem Spot.noseq {env:Env}{h:Heap}{T:Addr}(t:Spot env h T) (o:Obj) (e:h.get? T=some o) (vs:Array Value) (n:Nat):o.data≠.seq vs n:=by
 intro q
 rcases t with ⟨_,m,o',es,ep,e',hd,_⟩ | ⟨v,o',e',hd⟩
 ·rw [e'] at e; (have oc:=Option.some.inj e; clear e; subst oc); rw [hd] at q; cases q
 ·rw [e'] at e; (have oc:=Option.some.inj e; clear e; subst oc); rw [hd] at q; cases q
theorem Spot.nostay {env:Env}{h:Heap}{T:Addr}(t:Spot env h T) (o:Obj) (e:h.get? T=some o):¬ Stay o:=by
 rcases t with ⟨_,m,o',es,ep,e',hd,_⟩ | ⟨v,o',e',hd⟩
 ·rw [e'] at e; (have oc:=Option.some.inj e; clear e; subst oc); exact Stay.not_dict hd
 ·rw [e'] at e; (have oc:=Option.some.inj e; clear e; subst oc); exact Stay.not_data (fun uu q=>by rw [hd] at q; cases q) fun uu uu q=>by rw [hd] at q; cases q
section
variable {fns:Fns}{k:Nat}{C:Calls}{XP:String->Shared->Value->Shared->Prop}
theorem Loc.onK {env:Env}{Z:Addr->Prop}{h h':Heap}{vals:String->Option Value}(L:Loc env Z h vals) (kp:K h h'):Loc env Z h' vals where
 cls:=af (L.cls) fun o e c=>af (kp _ o (.inl trivial) e) fun o' e' l=>(ah o' e' (l.cls.trans c))
 ns:=af (L.ns) fun m a b=>(ah m (eS a kp) b)
 nz:=L.nz
 cell:=fun n c a b=>let ⟨h1,h2,v,h3⟩:=L.cell n c a b; (bM h1 h2 (bI v (iS h3 kp)))
 cval:=fun x v c a b d=>iS (L.cval x v c a b d) kp
 apart:=L.apart
 kinds:=L.kinds
theorem Loc.var {env:Env}{Z:Addr->Prop}{h:Heap}{vals:String->Option Value}(L:Loc env Z h vals) (eok:EnvOk env) {x:String}{v:Value}(hv:vals x=some v):VarIs h env (Str.ofString x) v:=by
 rcases L.kinds x v hv with hk | hk
 ·refine af (L.ns) fun m a b=>?_
  exact .loc m hk a (b x v hv hk)
 ·refine ai (eok.cells _ (.inl hk)) fun c hc=>?_
  exact .cell c (.inl hk) hc (L.cval x v c hv hk hc)
theorem Loc.store {A:Around}{env:Env}{Z:Addr->Prop}{vals:String->Option Value}{s:Shared}{x:String}{v:Value}{Q:Unit->Shared->Prop}{Er:Value->Shared->Prop}(L:Loc env Z s.heap vals) (eok:EnvOk env)
  (hx:env.kindOf (Str.ofString x)=some .local\/env.kindOf (Str.ofString x)=some .cell)
  (hQ:∀ T h' tk,Heap.SameBut T s.heap h'->Spot env s.heap T->so T s.heap h'->¬ Z T->Loc env Z h' (d7 vals x v)->Q () {s with heap:=h',toks:=tk }):wpAny (model prog w) A (storeName env (Str.ofString x) v) Q Er s:=by
 have inj:∀ y,Str.ofString y=Str.ofString x->y=x:=fun y e=>cC e
 have kinds':∀ y u,d7 vals x v y=some u->env.kindOf (Str.ofString y)=some .local\/env.kindOf (Str.ofString y)=some .cell:=fun y u hu=>by
  unfold d7 at hu
  split at hu
  ·rename_i e; (clear hQ inj; subst e); exact hx
  ·exact L.kinds y u hu
 refine af (L.ns) fun m hm hmv=>?_
 rcases hx with hk | hk
 ·rw [storeName_local hk (by rw [eok.kind]; rfl)]
  refine iG hm L.cls (fun h' hn hs hcl=>hQ env.locals h' _ hs (.inl (aE rfl (bI m hm))) (fun ⟨u,o,e,q⟩=>by obtain ⟨o',es,ep,e',q',_⟩:=hm; rw [e] at e'; (have oc:=Option.some.inj e'; clear e'; subst oc); rw [q] at q'; cases q') L.nz ?_)
  refine ⟨hcl,(ah _ hn (fun y u hu hky=>?_)),L.nz,fun n c hkn hc=>?_,fun y u c hu hky hc=>?_,L.apart,kinds'⟩
  ·unfold d7 at hu
   split at hu
   ·rename_i e; (clear hQ hk hn inj kinds'; subst e); (have oc:=Option.some.inj hu; clear hu; subst oc); simp
   ·rename_i e
    rw [if_neg fun q=>e (inj y q)]
    exact hmv y u hu hky
  ·refine aD (L.cell n c hkn hc) fun h1 h2 Hr=>?_
   refine av (Hr) fun u o h3 h4=>?_
   try clear Hr
   exact (bM h1 h2 (aB u o (hs.extBut c o h1 h3) h4))
  ·unfold d7 at hu
   split at hu
   ·rename_i e; (clear hQ hn inj kinds'; subst e); rw [hk] at hky; cases hky
   ·refine ae (L.cell _ c hky hc) fun h1 _=>?_
    refine af (L.cval y u c hu hky hc) fun o h3 h4=>?_
    exact (ah o (hs.extBut c o h1 h3) h4)
 ·refine ai (eok.cells _ (.inl hk)) fun c₀ hc₀=>?_
  refine aD (L.cell _ c₀ hk hc₀) fun h1 h2 Hw=>?_
  refine ai (Hw) fun v₀ h3=>?_
  try clear Hw
  refine wF eok.kind hk hc₀ h3 fun h' hn hs hkp=>hQ c₀ h' s.toks hs (.inr ⟨v₀,h3⟩) hkp h2 ?_
  refine ⟨(af (L.cls) fun o e c=>(ah o (hs.extBut _ o (Ne.symm h1) e) c)),(ah m (hm.sameBut hs (Ne.symm h1)) (fun y u hu hky=>?_)),L.nz,fun n c hkn hc=>?_,fun y u c hu hky hc=>?_,L.apart,kinds'⟩
  ·unfold d7 at hu
   split at hu
   ·rename_i e; (clear hQ hc₀ inj kinds'; subst e); rw [hk] at hky; cases hky
   ·exact hmv y u hu hky
  ·refine aD (L.cell n c hkn hc) fun g1 g2 HD=>?_
   refine av (HD) fun u o g3 g4=>?_
   try clear HD
   by_cases e:c=c₀
   ·(clear h1 h2 h3 hc₀ hkp hs; subst e); exact (bM g1 g2 (bI _ hn))
   ·exact (bM g1 g2 (aB u o (hs.extBut c o e g3) g4))
  ·unfold d7 at hu
   split at hu
   ·rename_i e; (clear hQ hk inj kinds'; subst e); (have oc:=Option.some.inj hu; clear hu; subst oc)
    rw [hc₀] at hc; (have oc:=Option.some.inj hc; clear hc; subst oc)
    exact hn
   ·rename_i e
    refine af (L.cval y u c hu hky hc) fun o g3 g4=>?_
    refine (ah o (hs.extBut c o (fun q=>?_) g3) g4)
    (clear h1 h2 h3 hkp hn hs; subst q)
    exact e (inj y (L.apart _ _ c hc hc₀))
theorem RV.spot {env:Env}{h h':Heap}{T:Addr}{v:Value}{x:V}{as:List Addr}(r:RV h v x as) (tt:Spot env h T) (hkp:so T h h') (hL:∀ a∈as,a≠env.locals) (hs:Heap.SameBut T h h'):RV h' v x as:=by
 have kp:∀ b o,b≠T->h.get? b=some o->h'.get? b=some o:=fun b o hb e=>hs.extBut b o hb e
 have dne:∀ a∈as,∀ o es ep,h.get? a=some o->o.data = .dict es ep->a≠T:=fun a ha o es ep e hd q=>by
  (clear hkp hs kp; subst q)
  rcases tt with ⟨t,_⟩ | ⟨v,o',e',hd'⟩
  ·exact hL a ha t
  ·rw [e'] at e; (have oc:=Option.some.inj e; clear e; subst oc); rw [hd'] at hd; cases hd
 have key:∀ ks a,IsTupleKey (intKind prog w) h ks a->IsTupleKey (intKind prog w) h' ks a:=fun ks a hk=>by
  refine aI (hk) fun o it n a1 a2 a3=>?_
  try clear hk
  refine (cy o it n (kp a o (fun q=>?_) a1) a2 a3)
  (clear dne hkp hs kp; subst q)
  exact tt.noseq o a1 _ _ a3.1
 cases x with
 | d x=>exact ⟨r.1.off (wr:=[T]) (fun b hb o e=>.inl (by rw [List.mem_singleton.mp hb] at e; exact tt.noseq o e)) fun b o hb e=>kp b o (fun q=>hb (by simp [q])) e,r.2⟩
 | dic0=>
  refine jr (r) fun a h1 h2 h3 G4 G5=>?_
  try clear r
  refine dh (G4) fun o es ep e hx hd hr=>?_
  try clear G4
  refine cQ (G5) fun o' es' ep' e' h4 h5 h6 h7 h8=>?_
  try clear G5
  (clear hL; subst h2)
  have hne:=dne a (.head _) o es ep e hd
  exact (iq a h1 rfl h3 (fc o es ep (kp a o hne e) hx hd hr) (eX o' es' ep' (kp a o' hne e') h4 h5 h6 (fun y hy=>key _ _ (h7 y hy)) h8))
 | dicI ks=>
  refine cw (r) fun a h1 h2 h3 G6=>?_
  try clear r
  refine dh (G6) fun o es ep e hx hd hr=>?_
  try clear G6
  (clear hL; subst h2)
  have hne:=dne a (.head _) o es ep e hd
  exact (br a h1 rfl h3 (fc o es ep (kp a o hne e) hx hd hr))
 | dicT ks=>
  refine f8 (r) fun a xs h1 h2 h3 G7 h9=>?_
  try clear r
  refine cQ (G7) fun o' es' ep' e' h4 h5 h6 h7 h8=>?_
  try clear G7
  (clear hL; subst h2)
  have hne:=dne a (.head _) o' es' ep' e' h5
  exact (fS a xs h1 rfl h3 (eX o' es' ep' (kp a o' hne e') h4 h5 h6 (fun y hy=>key _ _ (h7 y hy)) h8) h9.1 h9.2.1 (fun x hx=>(h9.2.2 x hx).off (wr:=[T]) (fun b hb o e=>.inl (by rw [List.mem_singleton.mp hb] at e; exact tt.noseq o e)) fun b o hb e=>kp b o (fun q=>hb (by simp [q])) e))
 | rule c d n=>
  refine gU (r) fun x D o vf bs t u mA h1 h2 h3 h4 h5 h6 h7 G8 h9 h10 h11 h12 h13 h14=>?_
  try clear r
  refine bn (G8) fun oD es ep e hd=>?_
  try clear G8
  subst h2
  have hneD:D≠T:=dne D (.tail _ (.head _)) oD es ep e hd.1
  have hx:∃ o',h'.get? x=some o'/\o'.cls = .ref SF.rule/\o'.dict=some D/\∀ c,o'.data≠.cls c:=by
   by_cases q:x=T
   ·(clear dne hneD hs kp; subst q)
    revert tt; refine fun Hg=>Or.elim Hg (fun Hb=>?_) (fun tt=>?_)
    ·clear Hg
     refine ae (Hb) fun tt HH=>?_
     clear Hb
     exact absurd tt (hL x (.head _))
    ·refine cw (hkp tt o h3) fun o' k1 k2 k3 k4=>?_
     exact (br o' k1 (k2.trans h4) (k3.trans h6) k4)
   ·exact (br o (kp x o q h3) h4 h6 h5)
  refine cw (hx) fun o' x1 x2 x3 x4=>?_
  try clear hx
  exact (gL x D o' vf bs t u mA h1 rfl x1 x2 x4 x3 h7 (b0 oD es ep (kp D oD hneD e) hd) h9 h10 h11 h12 (h13.off (wr:=[T]) (fun b hb o e=>.inl (by rw [List.mem_singleton.mp hb] at e; exact tt.noseq o e)) fun b o hb e=>kp b o (fun q=>hb (by simp [q])) e) h14)
 | err c=>
  obtain ⟨x,o,h1,h2,h3,h4,h5⟩:=r
  subst h2
  have hx:∃ o',h'.get? x=some o'/\o'.cls = .ref (SF.exc c):=by
   by_cases q:x=T
   ·(clear dne hs kp; subst q)
    rcases tt with ⟨tt,_⟩ | tt
    ·exact absurd tt (hL x (.head _))
    ·obtain ⟨o',k1,k2,_⟩:=hkp tt o h3; exact ⟨o',k1,k2.trans h4⟩
   ·exact ⟨o,kp x o q h3,h4⟩
  obtain ⟨o',x1,x2⟩:=hx
  exact ⟨x,o',h1,rfl,x1,x2,h5⟩
end
end Mine
namespace Mine
open PySem PyProof.Rows
section
variable (fns:Fns) (k:Nat)
structure SOK (h0:Heap) (P Z:Addr->Prop) (A:Around) (env:Env) (h:Heap) (σ:St) (vals:String->Option Value) (fp:String->List Addr):Prop where
 room:Room fns.hand k A
 eok:EnvOk env
 ge:GE fns h0
 z0:∀ b o,h0.get? b=some o->Z b
 kp0:K h0 h
 code:fns.lam=true->∃ q,CodeOk h0 env.code q
 out:fns.hand=false->∃ l,A.frames=some (env::l)/\FrOk h0 l/\env.frame=some env.locals/\¬ SF.old env.locals
 zdom:∀ b,Z b->∃ o,h.get? b=some o
 loc:Loc env Z h vals
 val:∀ x p,σ x=some p->varK env.scope.names x=true/\∃ v,vals x=some v/\RV h v p.1 (fp x)/\∀ a∈fp x,a≠env.locals/\(P a\/h0.get? a=none)
 top:∀ x p,σ x=some p->p.2 = .top->∃ a bs,fp x=a::bs/\¬ Z a/\a∉bs/\∀ y q,y≠x->σ y=some q->a∉fp y
 deep:∀ x p,σ x=some p->p.2 = .deep->(∀ a∈fp x,¬ Z a/\∀ y q,y≠x->σ y=some q->a∉fp y)/\(fp x).Nodup
noncomputable def Stp (Z:Addr->Prop) (s s':Shared):Prop:=∃ h' tk,s' = {s with heap:=h',toks:=tk }/\KG Z s.heap h'
noncomputable def kn (h0:Heap) (P:Addr->Prop) (r:V×Mode) (v:Value) (s':Shared):Prop :=
 ∃ as,RV s'.heap v r.1 as/\(∀ a∈as,P a\/h0.get? a=none)/\(r.2 = .top->∃ a bs,as=a::bs/\h0.get? a=none/\a∉bs)/\(r.2 = .deep->(∀ a∈as,h0.get? a=none)/\as.Nodup)
end
theorem Stp.refl (Z:Addr->Prop) (s:Shared):Stp Z s s:=(aB s.heap s.toks rfl KG.refl)
theorem Stp.trans {Z:Addr->Prop}{s s₁ s₂:Shared}(a:Stp Z s s₁) (b:Stp Z s₁ s₂):Stp Z s s₂:=by
 refine av (a) fun h t G4 k=>?_
 try clear a
 subst G4
 refine av (b) fun h' t' G5 k'=>?_
 try clear b
 subst G5
 exact (aB h' t' rfl (k.trans k'))
theorem Kp.stp {Z:Addr->Prop}{s s₁:Shared}(a:Kp s s₁):Stp Z s s₁:=by
 refine av (a) fun h t G6 k=>?_
 try clear a
 subst G6
 exact (aB h t rfl (k.mono fun uu uu=>trivial))
theorem Stp.mono {Z Z':Addr->Prop}{s s₁:Shared}(a:Stp Z' s s₁) (h:∀ b,Z b->Z' b):Stp Z s s₁:=by
 refine av (a) fun h' t G7 k=>?_
 try clear a
 subst G7
 exact (aB h' t rfl (k.mono h))
theorem Stp.same {Z:Addr->Prop}{s s₁:Shared}{h':Heap}{tk:Nat}{a:Addr}(st:Stp Z s s₁) (hs:Heap.SameBut a s₁.heap h') (hz:¬ Z a) (hn:∀ o,s₁.heap.get? a=some o->¬ Stay o):Stp Z s {s₁ with heap:=h',toks:=tk }:=by
 refine av (st) fun h t G9 k=>?_
 try clear st
 subst G9
 exact (aB h' tk rfl (k.trans (KG.same hs hz hn)))
section
variable {fns:Fns}{k:Nat}{C:Calls}{XP:String->Shared->Value->Shared->Prop}
variable {h0:Heap}{P Z:Addr->Prop}{A:Around}{env:Env}{h h':Heap}{σ:St}{vals:String->Option Value}{fp:String->List Addr}
theorem SOK.onK (K:SOK fns k h0 P Z A env h σ vals fp) (kp:KG (fun uu=>True) h h'):SOK fns k h0 P Z A env h' σ vals fp where
 room:=K.room
 eok:=K.eok
 ge:=K.ge
 z0:=K.z0
 kp0:=KG.trans K.kp0 kp
 code:=K.code
 out:=K.out
 zdom:=fun b hb=>ai (K.zdom b hb) fun uu e=>Mine.K.there kp e
 loc:=K.loc.onK kp
 val:=fun x p hp=>let ⟨a,v,b,c,d⟩:=K.val x p hp; (aE a (aC v b (c.k kp) d))
 top:=K.top
 deep:=K.deep
theorem SOK.h0n (K:SOK fns k h0 P Z A env h σ vals fp) {a:Addr}(ha:¬ Z a):h0.get? a=none:=by
 cases q:h0.get? a with
 | none=>rfl
 | some o=>exact absurd (K.z0 a o q) ha
theorem fj {v:V}(h:(mk v).2 = .deep):lD v=true:=by
 unfold mk at h; dsimp only at h
 split at h
 ·assumption
 ·cases h
theorem gH {v:V}:(mk v).2≠.top:=by
 unfold mk; dsimp only; split<;>simp
theorem RV.scal_nil {v:Value}{x:V}{as:List Addr}(r:RV h v x as) (hs:lD x=true):as=[]:=by
 cases x with
 | d x=>exact r.1.sx_nil hs
 | _=>exact nF hs
theorem bP {σ:St}{ns:List String}{x:String}{p:V×Mode}(h:demote σ ns x=some p):∃ q,σ x=some q/\p.1=q.1/\((x∈ns/\p=mk q.1)\/(x∉ns/\p=q)):=by
 unfold demote at h
 split at h
 ·refine be h fun q hq Ha=>?_
  subst Ha
  exact (aC q hq rfl (.inl ⟨by assumption,rfl⟩))
 ·exact (aC p h rfl (.inr ⟨by assumption,rfl⟩))
theorem eA {σ:St}{ns:List String}{x:String}{p:V×Mode}{G:Prop}(h:demote σ ns x=some p) (k:∀ q,σ x=some q->p.1=q.1->((x∈ns/\p=mk q.1)\/(x∉ns/\p=q))->G):G:=ao (bP h) k
theorem SOK.demote (K:SOK fns k h0 P Z A env h σ vals fp) (ns:List String):SOK fns k h0 P Z A env h (demote σ ns) vals fp where
 room:=K.room
 eok:=K.eok
 ge:=K.ge
 z0:=K.z0
 kp0:=K.kp0
 code:=K.code
 out:=K.out
 zdom:=K.zdom
 loc:=K.loc
 val:=fun x p hp=>by
  refine eA hp fun q hq e _=>?_
  rw [e]
  exact K.val x q hq
 top:=fun x p hp ht=>by
  refine eA hp fun q hq e hc=>?_
  rcases hc with ⟨_,rfl⟩ | ⟨_,rfl⟩
  ·exact absurd ht gH
  ·refine a7 (K.top x p hq ht) fun a bs h1 h2 h3 h4=>?_
   refine (bl a bs h1 h2 h3 (fun y r hy hr=>?_))
   refine af (bP hr) fun r' hr' _=>?_
   exact h4 y r' hy hr'
 deep:=fun x p hp hd=>by
  refine eA hp fun q hq e hc=>?_
  rcases hc with ⟨_,rfl⟩ | ⟨_,rfl⟩
  ·refine ae (K.val x q hq) fun uu Hq=>?_
   refine ao (Hq) fun v _ hr _=>?_
   try clear Hq
   rw [hr.scal_nil (fj hd)]
   exact ⟨fun uu h=>(nomatch h),.nil⟩
  ·refine ae (K.deep x p hq hd) fun h1 h2=>?_
   refine ⟨fun a ha=>⟨(h1 a ha).1,fun y r hy hr=>?_⟩,h2⟩
   refine af (bP hr) fun r' hr' _=>?_
   exact (h1 a ha).2 y r' hy hr'
theorem SOK.consume (K:SOK fns k h0 P Z A env h σ vals fp) (ns:List String) (m:Mode):SOK fns k h0 P Z A env h (consume σ ns m) vals fp:=by
 unfold Mine.consume
 split
 ·exact K
 ·exact K.demote ns
noncomputable def Own (σ:St) (fp:String->List Addr) (ns:List String) (a:Addr):Prop:=∃ y q,y∈ns/\σ y=some q/\a∈fp y
theorem SOK.cx {s:Shared}(K:SOK fns k h0 P Z A env s.heap σ vals fp) (ns:List String):Cx fns k A (Own σ fp ns) s.heap env (ck σ ns) where
 room:=K.room
 eok:=K.eok
 ge:=K.ge.k K.kp0
 code:=fun e=>ai (K.code e) fun q c=>⟨q,c.k K.kp0⟩
 frm:=fun e=>by
  refine cw (K.out e) fun l h1 h2 h3 h4=>?_
  refine (ah _ h1 (fun env' he=>?_))
  rcases List.mem_cons.mp he with rfl | he
  ·refine af (K.loc.ns) fun m Hc _=>?_
   refine aI (Hc) fun o es ep e1 e2 _=>?_
   try clear Hc
   refine af (K.loc.cls) fun o' e3 e4=>?_
   rw [e1] at e3; (have oc:=Option.some.inj e3; clear e3; subst oc)
   exact (aE K.eok.kind (jH _ _ es ep h3 h4 e1 e4 e2))
  ·exact (h2.k K.kp0) env' he
 vars:=fun x p hp _=>by
  unfold ck at hp
  split at hp
  ·refine ae (K.val x p hp) fun uu Hv=>?_
   refine ao (Hv) fun v hv hr _=>?_
   try clear Hv
   exact (aO v (fp x) (K.loc.var K.eok hv) hr (fun a ha=>(aO x p (by assumption) hp ha)))
  ·exact nN hp
theorem SOK.eval {s:Shared}{e:E}{exx:Expr}{r:V×Mode}{Q:Value->Shared->Prop}{Er:Value->Shared->Prop}(K:SOK fns k h0 P Z A env s.heap σ vals fp) (S:SimE fns k C XP e) (ok:okE env.scope.names e exx=true) (he:ev C e σ = .ok r)
  (hQ:∀ v s',EP (Own σ fp (fv e)) s r v s'->Q v s'):wpAny (model prog w) A (eval exx env) Q Er s:=by
 have e1:ev C e (ck σ (fv e)) = .ok r:=by rw [ay C e _ σ (bS σ (fv e))]; exact he
 exact S ok (K.cx (fv e)) (by rw [e1]; simp) (fun r' hr v s' E=>by rw [e1] at hr; (have oc:=Out.ok.inj hr; clear hr; subst oc); exact hQ v s' E) fun c hc=>by rw [e1] at hc; cases hc
theorem SOK.evalT {s:Shared}{e:E}{exx:Expr}{b:Bool}{Q:Bool->Shared->Prop}{Er:Value->Shared->Prop}(K:SOK fns k h0 P Z A env s.heap σ vals fp) (S:SimT fns k C XP e) (ok:okE env.scope.names e exx=true) (he:((ev C e σ).bind fun r=>aq r.1) = .ok b)
  (hQ:∀ s',Kp s s'->Q b s'):wpAny (model prog w) A (isTrue exx env (PySem.eval exx env)) Q Er s:=by
 have e1:ev C e (ck σ (fv e))=ev C e σ:=ay C e _ σ (bS σ (fv e))
 refine S ok (K.cx (fv e)) (by rw [e1,he]; simp) (fun r' hr s' kp=>by rw [e1,he] at hr; (have oc:=Out.ok.inj hr; clear hr; subst oc); exact hQ s' kp) fun c hc=>?_
 rw [e1] at hc; rw [hc] at he; exact nE he
theorem SOK.own (K:SOK fns k h0 P Z A env h σ vals fp) {ns:List String}{a:Addr}(ha:Own σ fp ns a):(∃ o,h.get? a=some o)/\a≠env.locals/\(P a\/h0.get? a=none):=by
 refine aA (ha) fun y q _ hq hy=>?_
 try clear ha
 refine ae (K.val y q hq) fun uu Hr=>?_
 refine ao (Hr) fun v _ hr hd=>?_
 try clear Hr
 exact ⟨hr.there a hy,hd a hy⟩
noncomputable def Frm (Z:Addr->Prop) (xs:List String) (σ:St) (vals:String->Option Value) (fp:String->List Addr) (σ':St) (vals':String->Option Value) (fp':String->List Addr):Prop :=
 (∀ y,y∉xs->vals' y=vals y/\fp' y=fp y)/\∀ b,Z b->(∀ z q,σ z=some q->b∉fp z)->∀ z q,σ' z=some q->b∉fp' z
section
variable {xs ys:List String}{σ₁ σ₂:St}{vals₁ vals₂:String->Option Value}{fp₁ fp₂:String->List Addr}{Z':Addr->Prop}
theorem Frm.id (h:∀ z q,σ₁ z=some q->∃ q',σ z=some q'):Frm Z xs σ vals fp σ₁ vals fp :=
 ⟨fun uu uu=>⟨rfl,rfl⟩,fun b _ hb z q hq=>ai (h z q hq) fun q' hq'=>hb z q' hq'⟩
theorem Frm.more (f:Frm Z xs σ vals fp σ₁ vals₁ fp₁) (h:∀ y∈xs,y∈ys):Frm Z ys σ vals fp σ₁ vals₁ fp₁:=⟨fun y hy=>f.1 y fun q=>hy (h y q),f.2⟩
theorem Frm.trans (f:Frm Z xs σ vals fp σ₁ vals₁ fp₁) (g:Frm Z ys σ₁ vals₁ fp₁ σ₂ vals₂ fp₂):Frm Z (xs++ys) σ vals fp σ₂ vals₂ fp₂ :=
 ⟨fun y hy=>let a:=f.1 y fun q=>hy (List.mem_append_left _ q); let b:=g.1 y fun q=>hy (List.mem_append_right _ q); ⟨b.1.trans a.1,b.2.trans a.2⟩,fun b hz hb=>g.2 b hz (f.2 b hz hb)⟩
theorem Frm.less (f:Frm Z' xs σ vals fp σ₁ vals₁ fp₁) (h:∀ b,Z b->Z' b):Frm Z xs σ vals fp σ₁ vals₁ fp₁:=⟨f.1,fun b hz=>f.2 b (h b hz)⟩
theorem Frm.one {x:String}{r:V×Mode}{as:List Addr}{σ₁:St}{vals₁:String->Option Value}(hv:∀ y,y≠x->vals₁ y=vals y) (h:∀ z q,σ₁ z=some q->∃ q',σ z=some q') (ha:∀ b∈as,Z b->∃ z q,σ z=some q/\b∈fp z) :
  Frm Z [x] σ vals fp (upd σ₁ x r) vals₁ (fun y=>if y=x then as else fp y):=by
 refine ⟨fun y hy=>⟨hv y fun q=>hy (by simp [q]),if_neg fun q=>hy (by simp [q])⟩,fun b hz hb z q hq hm=>?_⟩
 unfold upd at hq
 dsimp only at hm
 by_cases e:z=x
 ·have hm':b∈as:=by rwa [if_pos e] at hm
  refine av (ha b hm' hz) fun z' q' h1 h2=>?_
  exact hb z' q' h1 h2
 ·rw [if_neg e] at hq hm
  refine ai (h z q hq) fun q' hq'=>?_
  exact hb z q' hq' hm
end
theorem cZ {σ:St}{ns:List String}{m:Mode}{y:String}{q:V×Mode}(hq:Mine.consume σ ns m y=some q):∃ q',σ y=some q':=by
 unfold Mine.consume at hq
 split at hq
 ·exact ⟨q,hq⟩
 ·obtain ⟨q',hq',_⟩:=bP hq; exact ⟨q',hq'⟩
theorem SOK.put {s:Shared}{x:String}{v:Value}{r:V×Mode}{as:List Addr}{Q:Unit->Shared->Prop}{Er:Value->Shared->Prop}(K:SOK fns k h0 P Z A env s.heap σ vals fp)
  (hvk:varK env.scope.names x=true) (hk:env.kindOf (Str.ofString x)=some .local\/env.kindOf (Str.ofString x)=some .cell)
  (rv:RV s.heap v r.1 as) (ha:∀ a∈as,a≠env.locals/\(P a\/h0.get? a=none))
  (ht:r.2 = .top->∃ a bs,as=a::bs/\¬ Z a/\a∉bs/\∀ y q,y≠x->σ y=some q->a∉fp y) (hd:r.2 = .deep->(∀ a∈as,¬ Z a/\∀ y q,y≠x->σ y=some q->a∉fp y)/\as.Nodup)
  (hdis:∀ y q,y≠x->σ y=some q->(q.2 = .top->∀ a bs,fp y=a::bs->a∉as)/\(q.2 = .deep->∀ a∈fp y,a∉as))
  (hQ:∀ s',Stp Z s s'->(∀ b o,b≠env.locals->(∀ u,o.data≠.cell u)->s.heap.get? b=some o->s'.heap.get? b=some o)->SOK fns k h0 P Z A env s'.heap (upd σ x r) (d7 vals x v) (fun y=>if y=x then as else fp y)->Q () s'):wpAny (model prog w) A (storeName env (Str.ofString x) v) Q Er s:=by
 refine K.loc.store K.eok hk fun T h' tk hs hT hKp hZ L=>hQ _ ((Stp.refl Z s).same hs hZ hT.nostay) (fun b o hb hc e=>hs.extBut b o (fun q=>?_) e) ?_
 ·rcases hT with ⟨hT,_⟩ | ⟨u,o',e',hd'⟩
  ·exact hb (q.trans hT)
  ·(clear hKp hZ hs; subst q)
   rw [e'] at e; (have oc:=Option.some.inj e; clear e; subst oc)
   exact hc u hd'
 have h0n:∀ a,¬ Z a->h0.get? a=none:=fun a ha=>by
  cases q:h0.get? a with
  | none=>rfl
  | some o=>exact absurd (K.z0 a o q) ha
 have kz:∀ b o,Z b->s.heap.get? b=some o->h'.get? b=some o:=fun b o hb e=>hs.extBut b o (fun q=>hZ (q▸hb)) e
 refine ⟨K.room,K.eok,K.ge,K.z0,Mine.K.same K.kp0 hs (h0n _ hZ) hT.nostay,K.code,K.out,fun b hb=>ai (K.zdom b hb) fun o e=>⟨o,kz b o hb e⟩,L,fun y p hp=>?_,fun y p hp htp=>?_,fun y p hp hdp=>?_⟩
 ·unfold upd at hp
  by_cases hy:y=x
  ·(clear L hQ hd hdis hk ht; subst hy)
   rw [if_pos rfl] at hp; (have oc:=Option.some.inj hp; clear hp; subst oc)
   refine (aE hvk (aC v (by simp [d7]) ?_ ?_))
   ·rw [if_pos rfl]; exact rv.spot hT hKp (fun a h=>(ha a h).1) hs
   ·rw [if_pos rfl]; exact ha
  ·rw [if_neg hy] at hp
   refine ae (K.val y p hp) fun h1 Hw=>?_
   refine ao (Hw) fun u h2 h3 h4=>?_
   try clear Hw
   refine (aE h1 (aC u (by simpa [d7,hy] using h2) ?_ ?_))
   ·rw [if_neg hy]; exact h3.spot hT hKp (fun a h=>(h4 a h).1) hs
   ·rw [if_neg hy]; exact h4
 ·unfold upd at hp
  by_cases hy:y=x
  ·(clear L hQ hd hdis hk hvk; subst hy)
   rw [if_pos rfl] at hp; (have oc:=Option.some.inj hp; clear hp; subst oc)
   refine a7 (ht htp) fun a bs h1 h2 h3 h4=>?_
   refine (bl a bs (by rw [if_pos rfl]; exact h1) h2 h3 (fun z q hz hq=>?_))
   unfold upd at hq
   rw [if_neg hz] at hq ⊢
   exact h4 z q hz hq
  ·rw [if_neg hy] at hp
   refine a7 (K.top y p hp htp) fun a bs h1 h2 h3 h4=>?_
   refine (bl a bs (by rw [if_neg hy]; exact h1) h2 h3 (fun z q hz hq=>?_))
   unfold upd at hq
   by_cases hzx:z=x
   ·rw [if_pos hzx]
    exact (hdis y p hy hp).1 htp a bs h1
   ·rw [if_neg hzx] at hq ⊢
    exact h4 z q hz hq
 ·unfold upd at hp
  by_cases hy:y=x
  ·(clear L hQ hdis hk ht hvk; subst hy)
   rw [if_pos rfl] at hp; (have oc:=Option.some.inj hp; clear hp; subst oc)
   refine ae (hd hdp) fun h1 h2=>?_
   rw [if_pos rfl]
   refine ⟨fun a h=>⟨(h1 a h).1,fun z q hz hq=>?_⟩,h2⟩
   unfold upd at hq
   rw [if_neg hz] at hq ⊢
   exact (h1 a h).2 z q hz hq
  ·rw [if_neg hy] at hp ⊢
   refine ae (K.deep y p hp hdp) fun h1 h2=>?_
   refine ⟨fun a h=>⟨(h1 a h).1,fun z q hz hq=>?_⟩,h2⟩
   unfold upd at hq
   by_cases hzx:z=x
   ·rw [if_pos hzx]
    exact (hdis y p hy hp).2 hdp a h
   ·rw [if_neg hzx] at hq ⊢
    exact (h1 a h).2 z q hz hq
theorem SOK.put_ep {s s₁:Shared}{x:String}{v:Value}{r:V×Mode}{ns:List String}{Q:Unit->Shared->Prop}{Er:Value->Shared->Prop}(K:SOK fns k h0 P Z A env s.heap σ vals fp)
  (hvk:varK env.scope.names x=true) (hk:env.kindOf (Str.ofString x)=some .local\/env.kindOf (Str.ofString x)=some .cell) (E:EP (Own σ fp ns) s r v s₁)
  (hQ:∀ s' as,RV s₁.heap v r.1 as->Stp Z s₁ s'->(∀ b o,b≠env.locals->(∀ u,o.data≠.cell u)->s₁.heap.get? b=some o->s'.heap.get? b=some o)->SOK fns k h0 P Z A env s'.heap (upd (Mine.consume σ ns r.2) x r) (d7 vals x v) (fun y=>if y=x then as else fp y)->Frm Z [x] σ vals fp (upd (Mine.consume σ ns r.2) x r) (d7 vals x v) (fun y=>if y=x then as else fp y)->Q () s'):wpAny (model prog w) A (storeName env (Str.ofString x) v) Q Er s₁:=by
 obtain ⟨kp,as,rv,ha,ht,hd⟩:=E
 have K₁:=(K.onK kp.k).consume ns r.2
 have nz:∀ a,s.heap.get? a=none->¬ Z a:=fun a e hz=>by
  refine ai (K.zdom a hz) fun o e'=>?_
  rw [e] at e'; exact nN e'
 have nf:∀ a,s.heap.get? a=none->∀ y q,σ y=some q->a∉fp y:=fun a e y q hq hm=>by
  refine ae (K.val y q hq) fun uu HF=>?_
  refine ao (HF) fun u _ hr _=>?_
  try clear HF
  refine ai (hr.there a hm) fun o e'=>?_
  rw [e] at e'; exact nN e'
 have cs:∀ y q,Mine.consume σ ns r.2 y=some q->∃ q',σ y=some q':=fun y q hq=>by
  unfold Mine.consume at hq
  split at hq
  ·exact ⟨q,hq⟩
  ·obtain ⟨q',hq',_⟩:=bP hq; exact ⟨q',hq'⟩
 refine af (K.loc.ns) fun mL hmL _=>?_
 refine K₁.put hvk hk rv (fun a h=>?_) (fun htop=>?_) (fun hdeep=>?_) (fun y q hy hq=>?_) (fun s' st kk K'=>hQ s' as rv st kk K' (.one (fun y hy=>if_neg hy) (fun z q hq=>cZ hq) fun b hb hz=>(ha b hb).elim (fun ⟨y,q,_,h1,h2⟩=>(aB y q h1 h2)) fun e=>absurd hz (nz b e)))
 ·rcases ha a h with h1 | h1
  ·exact (K.own h1).2
  ·refine ⟨fun q=>?_,.inr ?_⟩
   ·refine bn (hmL) fun o _ _ e _=>?_
    try clear hmL
    rw [← q] at e
    rw [h1] at e; exact nN e
   ·cases e:h0.get? a with
    | none=>rfl
    | some o=>obtain ⟨_,e'⟩:=Mine.K.there K.kp0 e; rw [e'] at h1; exact nM h1
 ·refine aA (ht htop) fun a bs h1 h2 h3=>?_
  exact (bl a bs h1 (nz a h2) h3 (fun y q _ hq=>ai (cs y q hq) fun q' hq'=>nf a h2 y q' hq'))
 ·refine ae (hd hdeep) fun h1 h2=>?_
  exact ⟨fun a h=>⟨nz a (h1 a h),fun y q _ hq=>ai (cs y q hq) fun q' hq'=>nf a (h1 a h) y q' hq'⟩,h2⟩
 ·have main:∀ a,(a∈as)->(∀ y' q',σ y' = some q'->a∈fp y'->y'≠y\/(y'∈ns/\r.2≠.deep))\/True:=fun uu uu=>.inr trivial
  clear main
  by_cases hdp:r.2 = .deep
  ·have h1:=(hd hdp).1
   refine ai (cs y q hq) fun q' hq'=>?_
   exact ⟨fun uu a bs e hm=>nf a (h1 a hm) y q' hq' (by rw [e]; exact .head _),fun uu a ha' hm=>nf a (h1 a hm) y q' hq' ha'⟩
  ·have hq2:Mine.demote σ ns y=some q:=by unfold Mine.consume at hq; rwa [if_neg hdp] at hq
   refine eA hq2 fun q' hq' e1 hc=>?_
   rcases hc with ⟨_,rfl⟩ | ⟨hn,rfl⟩
   ·refine ⟨fun h=>absurd h gH,fun h a ha'=>?_⟩
    refine ae (K.val y q' hq') fun uu IR=>?_
    refine ao (IR) fun u _ hr _=>?_
    try clear IR
    rw [hr.scal_nil (fj h)] at ha'
    cases ha'
   ·refine ⟨fun h a bs e hm=>?_,fun h a ha' hm=>?_⟩
    ·refine Or.elim (ha a hm) (fun Hb=>?_) (fun h1=>?_)
     ·refine aA (Hb) fun z p hz hp hf=>?_
      clear Hb
      refine a7 (K.top y q hq' h) fun a' bs' e' _ _ h4=>?_
      rw [e] at e'; cases e'
      exact h4 z p (fun q=>hn (q▸hz)) hp hf
     ·exact nf a h1 y q hq' (by rw [e]; exact .head _)
    ·refine Or.elim (ha a hm) (fun He=>?_) (fun h1=>?_)
     ·refine aA (He) fun z p hz hp hf=>?_
      clear He
      exact ((K.deep y q hq' h).1 a ha').2 z p (fun q=>hn (q▸hz)) hp hf
     ·exact nf a h1 y q hq' ha'
theorem SOK.freeze (K:SOK fns k h0 P Z A env h σ vals fp) {G:Addr->Prop}(hdom:∀ b,G b->∃ o,h.get? b=some o) (hL:¬ G env.locals) (hc:∀ n c,env.kindOf n=some .cell->env.cells.lookup n=some c->¬ G c)
  (ht:∀ x p,σ x=some p->p.2 = .top->∀ a bs,fp x=a::bs->¬ G a) (hd:∀ x p,σ x=some p->p.2 = .deep->∀ a∈fp x,¬ G a):SOK fns k h0 P (fun b=>Z b\/G b) A env h σ vals fp where
 room:=K.room
 eok:=K.eok
 ge:=K.ge
 z0:=fun b o e=>.inl (K.z0 b o e)
 kp0:=K.kp0
 code:=K.code
 out:=K.out
 zdom:=fun b hb=>hb.elim (K.zdom b) (hdom b)
 loc:={K.loc with
  nz:=fun q=>q.elim K.loc.nz hL
  cell:=fun n c a b=>by
   refine aD (K.loc.cell n c a b) fun h1 h2 HW=>?_
   refine av (HW) fun v o h3 h4=>?_
   try clear HW
   exact (bM h1 (fun q=>q.elim h2 (hc n c a b)) (aB v o h3 h4)) }
 val:=K.val
 top:=fun x p hp hq=>by
  refine a7 (K.top x p hp hq) fun a bs h1 h2 h3 h4=>?_
  exact (bl a bs h1 (fun q=>q.elim h2 (ht x p hp hq a bs h1)) h3 h4)
 deep:=fun x p hp hq=>by
  refine ae (K.deep x p hp hq) fun h1 h2=>?_
  exact ⟨fun a ha=>⟨fun q=>q.elim (h1 a ha).1 (hd x p hp hq a ha),(h1 a ha).2⟩,h2⟩
theorem SOK.thaw {Z':Addr->Prop}(K:SOK fns k h0 P Z' A env h σ vals fp) (hz:∀ b,Z b->Z' b) (h0z:∀ b o,h0.get? b=some o->Z b):SOK fns k h0 P Z A env h σ vals fp where
 room:=K.room
 eok:=K.eok
 ge:=K.ge
 z0:=h0z
 kp0:=K.kp0
 code:=K.code
 out:=K.out
 zdom:=fun b hb=>K.zdom b (hz b hb)
 loc:={K.loc with
  nz:=fun q=>K.loc.nz (hz _ q)
  cell:=fun n c a b=>by
   refine aD (K.loc.cell n c a b) fun h1 h2 h3=>?_
   exact ⟨h1,fun q=>h2 (hz _ q),h3⟩ }
 val:=K.val
 top:=fun x p hp hq=>by
  refine a7 (K.top x p hp hq) fun a bs h1 h2 h3 h4=>?_
  exact (bl a bs h1 (fun q=>h2 (hz _ q)) h3 h4)
 deep:=fun x p hp hq=>by
  refine ae (K.deep x p hp hq) fun h1 h2=>?_
  exact ⟨fun a ha=>⟨fun q=>(h1 a ha).1 (hz _ q),(h1 a ha).2⟩,h2⟩
end
end Mine
namespace Mine
open PySem PyProof.Rows
section
variable {fns:Fns}{k:Nat}{C:Calls}{XP:String->Shared->Value->Shared->Prop}
variable {h0:Heap}{P Z:Addr->Prop}{A:Around}{env:Env}{h h':Heap}{σ:St}{vals:String->Option Value}{fp:String->List Addr}
theorem RV.offA {a:Addr}{o:Obj}{v:Value}{x:V}{as:List Addr}(r:RV h v x as) (ho:h.get? a=some o) (hc:o.cls≠.type "tuple") (hn:a∉as) (hs:Heap.SameBut a h h'):RV h' v x as:=by
 have kp:∀ b o,b≠a->h.get? b=some o->h'.get? b=some o:=fun b o hb e=>hs.extBut b o hb e
 have key:∀ ks b,IsTupleKey (intKind prog w) h ks b->IsTupleKey (intKind prog w) h' ks b:=fun ks b hk=>by
  refine aI (hk) fun o' it n a1 a2 a3=>?_
  try clear hk
  refine (cy o' it n (kp b o' (fun q=>?_) a1) a2 a3)
  (clear hn hs kp; subst q)
  rw [ho] at a1; (have oc:=Option.some.inj a1; clear a1; (clear a3; subst oc))
  exact hc a2
 cases x with
 | d x=>exact ⟨r.1.off (wr:=[a]) (fun b hb o' e=>.inr (by
   rw [List.mem_singleton.mp hb] at e ⊢
   rw [ho] at e; (have oc:=Option.some.inj e; clear e; subst oc)
   exact ⟨hc,hn⟩)) fun b o hb e=>kp b o (fun q=>hb (by simp [q])) e,r.2⟩
 | dic0=>
  refine jr (r) fun b h1 h2 h3 G4 G5=>?_
  try clear r
  refine bn (G4) fun o es ep e hr=>?_
  try clear G4
  refine cQ (G5) fun o' es' ep' e' h4 h5 h6 h7 h8=>?_
  try clear G5
  subst h2
  have hne:b≠a:=fun q=>hn (by simp [q])
  exact (iq b h1 rfl h3 (b0 o es ep (kp b o hne e) hr) (eX o' es' ep' (kp b o' hne e') h4 h5 h6 (fun y hy=>key _ _ (h7 y hy)) h8))
 | dicI ks=>
  refine cw (r) fun b h1 h2 h3 G6=>?_
  try clear r
  refine bn (G6) fun o es ep e hr=>?_
  try clear G6
  subst h2
  have hne:b≠a:=fun q=>hn (by simp [q])
  exact (br b h1 rfl h3 (b0 o es ep (kp b o hne e) hr))
 | dicT ks=>
  refine f8 (r) fun b xs h1 h2 h3 G7 h9=>?_
  try clear r
  refine cQ (G7) fun o' es' ep' e' h4 h5 h6 h7 h8=>?_
  try clear G7
  subst h2
  have hne:b≠a:=fun q=>hn (by simp [q])
  exact (fS b xs h1 rfl h3 (eX o' es' ep' (kp b o' hne e') h4 h5 h6 (fun y hy=>key _ _ (h7 y hy)) h8) h9.1 h9.2.1 (fun x hx=>(h9.2.2 x hx).off (wr:=[a]) (fun b hb o' e=>.inr (by
   rw [List.mem_singleton.mp hb] at e ⊢
   rw [ho] at e; (have oc:=Option.some.inj e; clear e; subst oc)
   exact ⟨hc,fun q=>nomatch q⟩)) fun b o hb e=>kp b o (fun q=>hb (by simp [q])) e))
 | rule c d n=>
  refine gU (r) fun y D oy vf bs t u mA h1 h2 h3 h4 h5 h6 h7 G8 h9 h10 h11 h12 h13 h14=>?_
  try clear r
  refine bn (G8) fun oD es ep e hd=>?_
  try clear G8
  subst h2
  have n1:y≠a:=fun q=>hn (by simp [q])
  have n2:D≠a:=fun q=>hn (by simp [q])
  exact (gL y D oy vf bs t u mA h1 rfl (kp y oy n1 h3) h4 h5 h6 h7 (b0 oD es ep (kp D oD n2 e) hd) h9 h10 h11 h12 (h13.off (wr:=[a]) (fun b hb o' e=>.inr (by
   rw [List.mem_singleton.mp hb] at e ⊢
   rw [ho] at e; (have oc:=Option.some.inj e; clear e; subst oc)
   exact ⟨hc,fun q=>hn (.tail _ (.tail _ q))⟩)) fun b o hb e=>kp b o (fun q=>hb (by simp [q])) e) h14)
 | err c=>obtain ⟨y,oy,h1,h2,h3,h4,h5⟩:=r; subst h2; exact ⟨y,oy,h1,rfl,kp y oy (fun q=>hn (by simp [q])) h3,h4,h5⟩
theorem Loc.offA {a:Addr}{o:Obj}(L:Loc env Z h vals) (ho:h.get? a=some o) (hc:∀ v,o.data≠.cell v) (hL:a≠env.locals) (hs:Heap.SameBut a h h'):Loc env Z h' vals where
 cls:=af (L.cls) fun o e c=>(ah o (hs.extBut _ o (Ne.symm hL) e) c)
 ns:=af (L.ns) fun m x y=>(ah m (x.sameBut hs (Ne.symm hL)) y)
 nz:=L.nz
 cell:=fun n c x y=>by
  refine aD (L.cell n c x y) fun h1 h2 Hq=>?_
  refine av (Hq) fun v o' h3 h4=>?_
  try clear Hq
  refine (bM h1 h2 (aB v o' (hs.extBut c o' (fun q=>?_) h3) h4))
  (clear hL hs; subst q)
  rw [ho] at h3; (have oc:=Option.some.inj h3; clear h3; subst oc)
  exact hc v h4
 cval:=fun x v c p q r=>by
  refine af (L.cval x v c p q r) fun o' h3 h4=>?_
  refine (ah o' (hs.extBut c o' (fun q=>?_) h3) h4)
  (clear hL hs; subst q)
  rw [ho] at h3; (have oc:=Option.some.inj h3; clear h3; subst oc)
  exact hc _ h4
 apart:=L.apart
 kinds:=L.kinds
theorem SOK.write {x:String}{p:V×Mode}{a:Addr}{o:Obj}{v':V}{m':Mode}{bs':List Addr}(K:SOK fns k h0 P Z A env h σ vals fp) (hp:σ x=some p) (hval:vals x=some (.ref a)) (ho:h.get? a=some o) (hoc:o.cls≠.type "tuple") (hst:¬ Stay o) (hod:∀ v,o.data≠.cell v)
  (hnz:¬ Z a) (hne:∀ y q,y≠x->σ y=some q->a∉fp y) (haL:a≠env.locals/\(P a\/h0.get? a=none)) (hs:Heap.SameBut a h h') (rv:RV h' (.ref a) v' (a::bs')) (hb:∀ b∈bs',b≠env.locals/\(P b\/h0.get? b=none))
  (ht:m' = .top->a∉bs') (hd:m' = .deep->(∀ b∈bs',¬ Z b/\∀ y q,y≠x->σ y=some q->b∉fp y)/\(a::bs').Nodup)
  (hdis:∀ y q,y≠x->σ y=some q->(q.2 = .top->∀ b cs,fp y=b::cs->b∉bs')/\(q.2 = .deep->∀ b∈fp y,b∉bs')) :
  SOK fns k h0 P Z A env h' (upd σ x (v',m')) vals (fun y=>if y=x then a::bs' else fp y):=by
 have h0n:h0.get? a=none:=by
  cases q:h0.get? a with
  | none=>rfl
  | some o=>exact absurd (K.z0 a o q) hnz
 have kz:∀ b o,Z b->h.get? b=some o->h'.get? b=some o:=fun b o hb e=>hs.extBut b o (fun q=>hnz (q▸hb)) e
 refine ⟨K.room,K.eok,K.ge,K.z0,Mine.K.same K.kp0 hs h0n (fun o' e=>by rw [ho] at e; (have oc:=Option.some.inj e; clear e; subst oc); exact hst),K.code,K.out,fun b hb=>ai (K.zdom b hb) fun o e=>⟨o,kz b o hb e⟩,K.loc.offA ho hod haL.1 hs,fun y q hq=>?_,fun y q hq htp=>?_,fun y q hq hdp=>?_⟩
 ·unfold upd at hq
  by_cases hy:y=x
  ·(clear hd hdis hne; subst hy)
   rw [if_pos rfl] at hq; (have oc:=Option.some.inj hq; clear hq; subst oc)
   rw [if_pos rfl]
   refine (aE ((K.val y p hp).1) (aC (.ref a) hval rv (fun b hb'=>?_)))
   rcases List.mem_cons.mp hb' with rfl | hb'
   ·exact haL
   ·exact hb b hb'
  ·rw [if_neg hy] at hq ⊢
   refine ae (K.val y q hq) fun h1 Hv=>?_
   refine ao (Hv) fun u h2 h3 h4=>?_
   try clear Hv
   exact (aE h1 (aC u h2 (h3.offA ho hoc (hne y q hy hq) hs) h4))
 ·unfold upd at hq
  by_cases hy:y=x
  ·(clear hd hdis hp hval; subst hy)
   rw [if_pos rfl] at hq; (have oc:=Option.some.inj hq; clear hq; subst oc)
   rw [if_pos rfl]
   refine (bl a bs' rfl hnz (ht htp) (fun z r hz hr=>?_))
   unfold upd at hr
   rw [if_neg hz] at hr ⊢
   exact hne z r hz hr
  ·rw [if_neg hy] at hq ⊢
   refine a7 (K.top y q hq htp) fun b cs h1 h2 h3 h4=>?_
   refine (bl b cs h1 h2 h3 (fun z r hz hr=>?_))
   unfold upd at hr
   by_cases hzx:z=x
   ·rw [if_pos hzx]
    intro hm
    rcases List.mem_cons.mp hm with e | hm
    ·exact hne y q hy hq (by rw [h1,e]; exact .head _)
    ·exact (hdis y q hy hq).1 htp b cs h1 hm
   ·rw [if_neg hzx] at hr ⊢
    exact h4 z r hz hr
 ·unfold upd at hq
  by_cases hy:y=x
  ·(clear hdis hp hval; subst hy)
   rw [if_pos rfl] at hq; (have oc:=Option.some.inj hq; clear hq; subst oc)
   rw [if_pos rfl]
   refine ae (hd hdp) fun h1 h2=>?_
   refine ⟨fun b hb'=>?_,h2⟩
   rcases List.mem_cons.mp hb' with rfl | hb'
   ·refine ⟨hnz,fun z r hz hr=>?_⟩
    unfold upd at hr
    rw [if_neg hz] at hr ⊢
    exact hne z r hz hr
   ·refine ⟨(h1 b hb').1,fun z r hz hr=>?_⟩
    unfold upd at hr
    rw [if_neg hz] at hr ⊢
    exact (h1 b hb').2 z r hz hr
  ·rw [if_neg hy] at hq ⊢
   refine ae (K.deep y q hq hdp) fun h1 h2=>?_
   refine ⟨fun b hb'=>⟨(h1 b hb').1,fun z r hz hr=>?_⟩,h2⟩
   unfold upd at hr
   by_cases hzx:z=x
   ·rw [if_pos hzx]
    intro hm
    rcases List.mem_cons.mp hm with e | hm
    ·exact hne y q hy hq (e▸hb')
    ·exact (hdis y q hy hq).2 hdp b hb' hm
   ·rw [if_neg hzx] at hr ⊢
    exact (h1 b hb').2 z r hz hr
theorem SOK.head {x:String}{xs:List PyData}{m:Mode}(K:SOK fns k h0 P Z A env h σ vals fp) (hp:σ x=some (.d (.list xs),m)) (hm:m≠.sh) :
  ∃ a vs n bs,vals x=some (.ref a)/\h.get? a=some ⟨.type "list", none,.seq vs.toArray n,#[]⟩/\RA h vs xs bs/\fp x=a::bs/\sz (.list xs)=true/\¬ Z a/\a∉bs/\(∀ y q,y≠x->σ y=some q->a∉fp y)/\(∀ b∈a::bs,b≠env.locals/\(P b\/h0.get? b=none)) /\
   (m = .deep->(∀ b∈bs,¬ Z b/\∀ y q,y≠x->σ y=some q->b∉fp y)/\bs.Nodup):=by
 refine ae (K.val x _ hp) fun uu Hr=>?_
 refine ao (Hr) fun v hv G9 hb=>?_
 try clear Hr
 refine ae (G9) fun hr hz=>?_
 try clear G9
 refine hr.isList_k fun a vs n bs Ha ea ra e=>?_
 (clear hr; subst Ha)
 refine ⟨a,vs,n,bs,hv,ea,ra,e,hz,?_⟩
 rw [e] at hb
 cases m with
 | sh=>exact absurd rfl hm
 | top=>
  refine a7 (K.top x _ hp rfl) fun a' bs' e' h1 h2 h3=>?_
  rw [e] at e'; cases e'
  exact (cH h1 h2 h3 hb (fun h=>(by cases h)))
 | deep=>
  refine ae (K.deep x _ hp rfl) fun h1 h2=>?_
  rw [e] at h1 h2
  rw [List.nodup_cons] at h2
  exact (cH ((h1 a (.head _)).1) h2.1 ((h1 a (.head _)).2) hb (fun uu=>⟨fun b hb=>h1 b (.tail _ hb),h2.2⟩))
end
end Mine
namespace Mine
open PySem PyProof.Rows
section
variable (fns:Fns) (k:Nat) (C:Calls)
noncomputable def cT (st:S):Prop:=∀ {stmt:Stmt}{h0:Heap}{P Z:Addr->Prop}{A:Around}{env:Env}{σ:St}{vals:String->Option Value}{fp:String->List Addr}{s:Shared}{Q:Flow->Shared->Prop}{Er:Value->Shared->Prop}{σ':St}{fl:Flw},
 okS env.scope.names st stmt=true->SOK fns k h0 P Z A env s.heap σ vals fp->ex C st σ = .ok (σ',fl) ->
 (fl = .next->∀ s' vals' fp',Stp Z s s'->SOK fns k h0 P Z A env s'.heap σ' vals' fp'->Frm Z (asg st) σ vals fp σ' vals' fp'->Q .next s')->(∀ r,fl = .ret r->∀ v s',Stp Z s s'->kn h0 P r v s'->Q (.ret v) s') ->
 wpAny (model prog w) A (exec stmt env) Q Er s
noncomputable def eE (st:Ss):Prop:=∀ {stmts:List Stmt}{h0:Heap}{P Z:Addr->Prop}{A:Around}{env:Env}{σ:St}{vals:String->Option Value}{fp:String->List Addr}{s:Shared}{Q:Flow->Shared->Prop}{Er:Value->Shared->Prop}{σ':St}{fl:Flw},
 cO env.scope.names st stmts=true->SOK fns k h0 P Z A env s.heap σ vals fp->exs C st σ = .ok (σ',fl) ->
 (fl = .next->∀ s' vals' fp',Stp Z s s'->SOK fns k h0 P Z A env s'.heap σ' vals' fp'->Frm Z (g8 st) σ vals fp σ' vals' fp'->Q .next s')->(∀ r,fl = .ret r->∀ v s',Stp Z s s'->kn h0 P r v s'->Q (.ret v) s') ->
 wpAny (model prog w) A (execs stmts env) Q Er s
end
section
variable {fns:Fns}{k:Nat}{C:Calls}{XP:String->Shared->Value->Shared->Prop}
theorem bnd {env:Env}{x:String}(h:bj env.scope.names x=true):varK env.scope.names x=true/\aP x=true/\(env.kindOf (Str.ofString x)=some .local\/env.kindOf (Str.ofString x)=some .cell):=by
 unfold bj at h
 simp only [Bool.and_eq_true,Bool.or_eq_true,beq_iff_eq] at h
 exact ⟨h.1.1,h.1.2,h.2⟩
theorem fP {env:Env}{x:String}{G:Prop}(h:bj env.scope.names x=true) (k:varK env.scope.names x=true->aP x=true->(env.kindOf (Str.ofString x)=some .local\/env.kindOf (Str.ofString x)=some .cell)->G):G:=aD (bnd h) k
theorem qG {h0:Heap}{P Z:Addr->Prop}{A:Around}{env:Env}{σ:St}{vals:String->Option Value}{fp:String->List Addr}{s s':Shared}{ns:List String}{r:V×Mode}{v:Value}(K:SOK fns k h0 P Z A env s.heap σ vals fp) (E:EP (Own σ fp ns) s r v s') :
  kn h0 P r v s':=by
 obtain ⟨kp,as,rv,ha,ht,hd⟩:=E
 have nh:∀ a,s.heap.get? a=none->h0.get? a=none:=fun a e=>by
  cases q:h0.get? a with
  | none=>rfl
  | some o=>obtain ⟨_,e'⟩:=Mine.K.there K.kp0 q; rw [e'] at e; exact nM e
 exact (br as rv (fun a h=>(ha a h).elim (fun q=>(K.own q).2.2) fun q=>.inr (nh a q)) (fun q=>aA (ht q) fun a bs h1 h2 h3=>(aO a bs h1 (nh a h2) h3)) (fun q=>⟨fun a h=>nh a ((hd q).1 a h),(hd q).2⟩))
theorem iL {σ₁ σ':St}{fl:Flw}{l:List String}{h0:Heap}{P Z:Addr->Prop}{A:Around}{env:Env}{σ:St}{vals:String->Option Value}{fp:String->List Addr}{s:Shared}{Q:Flow->Shared->Prop}(he:(Out.ok (σ₁,Flw.next):Out (St×Flw)) = .ok (σ',fl))
  (hN:fl = .next->∀ s' vals' fp',Stp Z s s'->SOK fns k h0 P Z A env s'.heap σ' vals' fp'->Frm Z l σ vals fp σ' vals' fp'->Q .next s'):∀ s' vals' fp',Stp Z s s'->SOK fns k h0 P Z A env s'.heap σ₁ vals' fp'->Frm Z l σ vals fp σ₁ vals' fp'->Q .next s':=by
 cases he
 exact hN rfl
theorem DU {σ₁ σ':St}{fl:Flw}{r:V×Mode}{N:V×Mode->Prop}(he:(Out.ok (σ₁,Flw.ret r):Out (St×Flw)) = .ok (σ',fl)) (hN:∀ r,fl = .ret r->N r):N r:=by
 cases he
 exact hN r rfl
theorem wh {e:E}(S:SimE fns k C XP e):cT fns k C (.ret e):=by
 intro stmt h0 P Z A env σ vals fp s Q Er σ' fl ok K he hN hR
 replace ok:=nZ ok
 revert ok; refine fun Hg=>Or.elim Hg (fun Hb=>?_) (fun ok=>?_)
 ·clear Hg
  refine av (Hb) fun HH HV Ik ok=>?_
  clear Hb
  subst Ik
  simp only [l5] at he
  refine Out.bind_k he fun r hr he=>?_
  exact wpAny_Return_some (K.eval S ok hr fun v s' E=>DU he hR v s' E.keeps.stp (qG K E))
 ·cases ok
theorem rl {c:String}:cT fns k C (.raise c):=by
 intro stmt h0 P Z A env σ vals fp s Q Er σ' fl ok K he hN hR
 exfalso
 simp only [eM] at he
 refine aU he fun uu uu he=>?_
 split at he<;>cases he
set_option tactic.hygienic true in
theorem tA {x:String}:cT fns k C (.retn x):=by
 intro stmt h0 P Z A env σ vals fp s Q Er σ' fl ok K he hN hR
 replace ok:=yt ok
 revert ok; refine fun Hh=>Or.elim Hh (fun He=>?_) (fun ok=>?_)
 ·clear Hh
  refine bn (He) fun H7 Iw H9 Iy ok=>?_
  clear He
  subst Iy
  simp only [Bool.and_eq_true,beq_iff_eq] at ok
  refine ae (ok) fun Hc hb=>?_
  try clear ok
  subst Hc
  refine fP hb fun h1 h2 h3=>?_
  simp only [j6] at he
  split at he
  ·rename_i r hr
   cases he
   refine ae (K.val x r hr) fun uu Hv=>?_
   refine ao (Hv) fun v hv hrv hd=>?_
   try clear Hv
   have nh:∀ a,¬ Z a->h0.get? a=none:=fun a e=>by
    cases q:h0.get? a with
    | none=>rfl
    | some o=>exact absurd (K.z0 a o q) e
   refine wpAny_Return_some (cL K.eok.kind h2 (K.loc.var K.eok hv) (hR r rfl v s (.refl Z s) (br (fp x) hrv (fun a h=>(hd a h).2) (fun q=>?_) (fun q=>?_))))
   ·refine a7 (K.top x r hr q) fun a bs e1 e2 e3 _=>?_
    exact (aO a bs e1 (nh a e2) e3)
   ·refine ae (K.deep x r hr q) fun e1 e2=>?_
    exact ⟨fun a h=>nh a (e1 a h).1,e2⟩
  ·exact nB he
 ·cases ok
theorem wk {c:E}{a b:Ss}(T:SimT fns k C XP c) (Sa:eE fns k C a) (Sb:eE fns k C b):cT fns k C (.ite c a b):=by
 intro stmt h0 P Z A env σ vals fp s Q Er σ' fl ok K he hN hR
 replace ok:=sE ok
 revert ok; refine fun Hm=>Or.elim Hm (fun Hl=>?_) (fun ok=>?_)
 ·clear Hm
  refine cb (Hl) fun Is Ia Id IJ Io ok=>?_
  clear Hl
  subst Io
  simp only [Bool.and_eq_true] at ok
  simp only [gD] at he
  refine Out.bind_k he fun r hr he=>?_
  refine Out.bind_k he fun t ht he=>?_
  refine wpAny_If (K.evalT T ok.1.1 (b:=t) (by rw [hr]; exact ht) fun s₁ kp=>?_)
  have K₁:=K.onK kp.k
  cases t with
  | true=>
   rw [if_pos rfl] at he ⊢
   exact Sa ok.1.2 K₁ he (fun e s' vals' fp' st K' F=>hN e s' vals' fp' (kp.stp.trans st) K' (F.more fun y hy=>List.mem_append_left _ hy)) fun r e v s' st R=>hR r e v s' (kp.stp.trans st) R
  | false=>
   simp only [Bool.false_eq_true,if_false] at he ⊢
   exact Sb ok.2 K₁ he (fun e s' vals' fp' st K' F=>hN e s' vals' fp' (kp.stp.trans st) K' (F.more fun y hy=>List.mem_append_right _ hy)) fun r e v s' st R=>hR r e v s' (kp.stp.trans st) R
 ·cases ok
theorem sy:eE fns k C .nil:=by
 intro stmts h0 P Z A env σ vals fp s Q Er σ' fl ok K he hN hR
 replace ok:=AY ok
 revert ok; refine fun Hn=>Or.elim Hn (fun Hj=>?_) (fun ok=>?_)
 ·clear Hn
  refine ae (Hj) fun IK ok=>?_
  clear Hj
  subst IK
  simp only [cW] at he
  cases he
  exact wpAny_execs_nil (hN rfl s vals fp (.refl Z s) K (.id fun z q h=>⟨q,h⟩))
 ·cases ok
theorem rT {st:S}{r:Ss}(S:cT fns k C st) (T:eE fns k C r):eE fns k C (.cons st r):=by
 intro stmts h0 P Z A env σ vals fp s Q Er σ' fl ok K he hN hR
 replace ok:=qE ok
 revert ok; refine fun Hp=>Or.elim Hp (fun Ho=>?_) (fun ok=>?_)
 ·clear Hp
  refine av (Ho) fun IX IZ Iu ok=>?_
  clear Ho
  subst Iu
  simp only [Bool.and_eq_true] at ok
  simp only [bQ] at he
  refine Out.bind_k he fun Hd h1 he=>?_
  obtain ⟨σ₁,fl₁⟩:=Hd
  dsimp only at he
  refine wpAny_execs_cons (S ok.1 K h1 (fun e s' vals' fp' st K' F=>?_) fun q e v s' st R=>?_)
  ·(clear h1; subst e)
   dsimp only at he ⊢
   exact T ok.2 K' he (fun e s'' vals'' fp'' st' K'' F'=>hN e s'' vals'' fp'' (st.trans st') K'' (F.trans F')) fun r e v s'' st' R=>hR r e v s'' (st.trans st') R
  ·(clear h1; subst e)
   cases he
   exact hR q rfl v s' st R
 ·cases ok
theorem uH {e:E}(S:SimE fns k C XP e):cT fns k C (.expr e):=by
 intro stmt h0 P Z A env σ vals fp s Q Er σ' fl ok K he hN hR
 replace ok:=lA ok
 revert ok; refine fun HP=>Or.elim HP (fun HE=>?_) (fun ok=>?_)
 ·clear HP
  refine jE (HE) fun Jk JY Kb I9 I0 IL ok=>?_
  clear HE
  subst IL
  simp only [cr] at he
  refine Out.bind_k he fun r hr he=>?_
  replace hN:=iL he hN
  clear he hR
  have hi:interactive env=false:=by unfold interactive; rw [K.eok.kind]; rfl
  exact wpAny_Expr_any (K.eval S ok hr fun v s' E=>hN s' vals fp E.keeps.stp ((K.onK E.keeps.k).consume _ _) (.id fun z q h=>cZ h)) hi
 ·cases ok
theorem SOK.same {h0:Heap}{P Z:Addr->Prop}{A:Around}{env:Env}{h h':Heap}{σ:St}{vals:String->Option Value}{fp:String->List Addr}{D:Addr}{m:Str->Option Value}(K:SOK fns k h0 P Z A env h σ vals fp) (hm:h.Ns D m) (hZ:¬ Z D) (hL:D≠env.locals) (hf:∀ y q,σ y=some q->D∉fp y)
  (hs:Heap.SameBut D h h'):SOK fns k h0 P Z A env h' σ vals fp:=by
 have kz:∀ b o,Z b->h.get? b=some o->h'.get? b=some o:=fun b o hb e=>hs.extBut b o (fun q=>hZ (q▸hb)) e
 have hm':=hm
 refine aI (hm') fun o es ep ho hd _=>?_
 try clear hm'
 refine ⟨K.room,K.eok,K.ge,K.z0,Mine.K.same K.kp0 hs (K.h0n hZ) (fun o' e=>by rw [ho] at e; (have oc:=Option.some.inj e; clear e; subst oc); exact Stay.not_dict hd),K.code,K.out,fun b hb=>ai (K.zdom b hb) fun o e=>⟨o,kz b o hb e⟩,K.loc.offA ho (fun v q=>by rw [hd] at q; cases q) hL hs,fun y q hq=>?_,K.top,K.deep⟩
 refine ae (K.val y q hq) fun h1 Hw=>?_
 refine ao (Hw) fun u h2 h3 h4=>?_
 try clear Hw
 exact (aE h1 (aC u h2 (h3.spot (env:={env with locals:=D }) (.inl (aE rfl (bI m hm))) (fun ⟨u,o,e,q⟩=>by obtain ⟨o',es,ep,e',q',_⟩:=hm; rw [e] at e'; (have oc:=Option.some.inj e'; clear e'; subst oc); rw [q] at q'; cases q') (fun a ha (e:a=D)=>hf y q hq (e▸ha)) hs) h4))
end
end Mine
namespace Mine
open PySem PyProof.Rows
noncomputable def TrAt (N:Addr->Prop) (h:Heap) (e:Addr) (vs:Array Value) (fl:Value):Prop :=
 ∃ T oT ts,vs[1]? = some (.ref T)/\¬ N T/\T≠e/\h.get? T=some oT/\oT.cls = .type "traceback" /\ oT.data = .fields ts/\ts[3]? = some fl
noncomputable def Ex0 (N:Addr->Prop) (h:Heap) (c:String) (e:Addr) (vs:Array Value):Prop:=¬ N e/\c∈SF.excN/\∃ oe,h.get? e=some oe/\oe.cls = .ref (SF.exc c)/\oe.data = .fields vs
noncomputable def Exc (N:Addr->Prop) (h:Heap) (c:String) (L:Addr) (x:Value):Prop:=∃ e vs,x = .ref e/\Ex0 N h c e vs/\(vs[1]? = some .none\/∃ fl,(fl = .none\/fl=rawInt L)/\TrAt N h e vs fl)
noncomputable def FlyA (N:Addr->Prop) (h:Heap) (c:String) (fl:Value) (x:Value):Prop:=∃ e vs,x = .ref e/\Ex0 N h c e vs/\TrAt N h e vs fl
noncomputable def Fly (N:Addr->Prop) (h:Heap) (c:String) (x:Value):Prop:=FlyA N h c .none x
theorem Fly.exc {N:Addr->Prop}{h:Heap}{c:String}{L:Addr}{x:Value}(f:Fly N h c x):Exc N h c L x:=aA (f) fun e vs h1 h2 h3=>(aO e vs h1 h2 (.inr (ah _ (.inl rfl) h3)))
theorem FlyA.exc {N:Addr->Prop}{h:Heap}{c:String}{L:Addr}{x:Value}(f:FlyA N h c (rawInt L) x):Exc N h c L x:=aA (f) fun e vs h1 h2 h3=>(aO e vs h1 h2 (.inr (ah _ (.inr rfl) h3)))
theorem TrAt.old {N N':Addr->Prop}{h:Heap}{e:Addr}{vs:Array Value}{fl:Value}(t:TrAt N h e vs fl) (hn:∀ b,N' b->N b):TrAt N' h e vs fl:=aI (t) fun T oT ts a b r=>(cy T oT ts a (fun q=>b (hn _ q)) r)
theorem FlyA.old {N N':Addr->Prop}{h:Heap}{c:String}{fl x:Value}(f:FlyA N h c fl x) (hn:∀ b,N' b->N b):FlyA N' h c fl x:=aA (f) fun e vs h1 h2 h3=>(aO e vs h1 ⟨fun q=>h2.1 (hn _ q),h2.2⟩ (h3.old hn))
theorem Exc.old {N N':Addr->Prop}{h:Heap}{c:String}{L:Addr}{x:Value}(f:Exc N h c L x) (hn:∀ b,N' b->N b):Exc N' h c L x:=aA (f) fun e vs h1 h2 h3=>(aO e vs h1 ⟨fun q=>h2.1 (hn _ q),h2.2⟩ (h3.imp id fun ⟨fl,q,t⟩=>(ah fl q (t.old hn))))
noncomputable def Chg (N:Addr->Prop) (h h':Heap):Prop:=∀ b o,h.get? b=some o->h'.get? b=some o\/(∃ es ep,¬ SF.old b/\o.cls = .type "frame" /\ o.data = .dict es ep/\∃ sl,h'.get? b=some {o with slots:=sl })\/(¬ N b/\¬ Stay o/\∃ fs,o.data = .fields fs)
theorem Chg.kg {N:Addr->Prop}{h h':Heap}(c:Chg N h h'):KG N h h':=fun b o hb e=>by
 rcases c b o e with q | ⟨es,ep,h1,h2,h3,sl,h4⟩ | ⟨h1,h2,_⟩
 ·exact (ah o q (.same rfl))
 ·exact (ah _ h4 (.frame es ep h1 h2 h3 rfl rfl rfl))
 ·exact absurd hb (fun q=>q.elim h1 h2)
theorem Chg.frames {N:Addr->Prop}{h h':Heap}{l:List Env}(c:Chg N h h') (x:FrOk h l):FrOk h' l:=fun env he=>by
 obtain ⟨h0,L,o,es,ep,h1,h2,h3,h4,h5⟩:=x env he
 rcases c L o h3 with q | ⟨_,_,_,_,_,sl,q⟩ | ⟨_,_,fs,q⟩
 ·exact (aE h0 (jH L o es ep h1 h2 q h4 h5))
 ·exact (aE h0 (jH L _ es ep h1 h2 q h4 h5))
 ·rw [h5] at q; cases q
noncomputable def noH (h:Heap):Heap:={h with objs:=#[] }
theorem zM (h:Heap) (b:Addr):(noH h).get? b=none:=rfl
theorem FrOk.fun {h:Heap}:∀ {l:List Env},FrOk h l->h.FunFrames (noH h) l
 | [],_=>trivial
 | env::l,x=>by
  obtain ⟨f0,L,o,es,ep,f1,f2,f3,f4,f5⟩:=x env (.head _)
  exact ⟨by rw [f0]; decide,(bl L o f1 (zM h L) f3 (fun ws q=>by rw [f5] at q; cases q)),FrOk.fun fun y hy=>x y (.tail _ hy)⟩
section
variable {M:Model}{A:Around}{E:Value->Shared->Prop}{env:Env}{l:List Env}{h:Heap}{g:Array GenState}{dr:Drawn}{tk:Nat}{os:OsState}{c:String}{x:Value}{Q:Unit->Shared->Prop}{N:Addr->Prop}{L:Addr}
theorem xP {e:Addr}{vs:Array Value}{head:Value}{hadNext:Bool}(hN:∀ b,N b->∃ o,h.get? b=some o) (hfr:A.frames=some (env::l)) (hF:FrOk h (env::l)) (hf:env.frame=some L) (he:Ex0 N h c e vs) (hsz:1<vs.size)
  (hQ:∀ h',FlyA N h' c (rawInt L) (.ref e)->Chg N h h'->Q () ⟨h',g,dr,tk,os⟩) :
  wpAny M A (do let a ← frameOf env; let pl ← entryPlaceOf L hadNext; let b ← EntryCells.newEntry head a .none (rawInt L) .none pl; setField (.ref e) 1 b) Q E ⟨h,g,dr,tk,os⟩:=by
 refine aD (he) fun ne cn Hr=>?_
 try clear he
 refine ao (Hr) fun oe ee hc hd=>?_
 try clear Hr
 have hl:=hF.fun
 have notf:∀ b o fs,h.get? b=some o->o.data = .fields fs->b∉(env::l).filterMap (·.frame):=fun b o fs eb hb hm=>by
  refine ae (hl.mem hm) fun uu Hw=>?_
  refine af (Hw) fun o' e' hnf=>?_
  try clear Hw
  rw [eb] at e'; (have oc:=Option.some.inj e'; clear e'; subst oc)
  exact hnf fs hb
 refine wpAny_bind (wpAny_frameOf_fun (s:=⟨h,g,dr,tk,os⟩) hfr hl hf fun h₁ hs₁=>?_)
 refine wpAny_bind (wpAny_entryPlaceOf fun pl hpl=>?_)
 unfold EntryCells.newEntry newFields
 refine wpAny_bind (wpAny_newObj_type ?_ (hpl.sizeOk5 _ _ _ _ _))
 generalize hts:([head,.ref L,.none,rawInt L,.none]++(if pl.isEmpty then List.replicate 6 Value.none else pl)).toArray=ts
 have h3:ts[3]? = some (rawInt L):=by rw [← hts]; simp
 have e₁:h₁.get? e=some oe:=(hs₁.2.1 e (notf e oe vs ee hd)).trans ee
 have e₂:=Heap.get?_push_of_some (h:=h₁) {cls:=.type "traceback", dict:=none,data:=.fields ts } e₁
 have hTe:h₁.objs.size≠e:=Nat.ne_of_gt (Heap.lt_size e₁)
 have hTN:¬ N h₁.objs.size:=fun q=>by
  refine ai (hN _ q) fun o eo=>?_
  have:=Heap.lt_size eo
  rw [hs₁.1] at this
  exact Nat.lt_irrefl _ this
 have hd₃:=Obj.data_mapFields hd (·.setIfInBounds 1 (Value.ref h₁.objs.size))
 refine wpAny_setField e₂ hd hsz (hQ _ (aO e _ rfl (bM ne cn (aC _ (Heap.get?_update_self _ e₂ (Obj.isFreed_of_fields hd₃)) ((Obj.cls_mapFields _ _).trans hc) hd₃)) (lq h₁.objs.size _ ts (by simp [hsz]) hTN hTe ((Heap.get?_update_other _ _ (Ne.symm hTe)).trans (Heap.get?_push_size h₁ rfl)) rfl rfl h3)) fun b o eb=>?_)
 by_cases hbe:b=e
 ·(clear e₁ e₂ hQ hTe; subst hbe)
  rw [ee] at eb; (have oc:=Option.some.inj eb; clear eb; subst oc)
  exact .inr (.inr (bM ne (Stay.not_cls (by rw [hc]; simp) (by rw [hc]; simp)) (bI vs hd)))
 ·have keep:∀ o',h₁.get? b=some o'->((h₁.push {cls:=.type "traceback", dict:=none,data:=.fields ts }).update e (Obj.mapFields (·.setIfInBounds 1 (Value.ref h₁.objs.size)))).get? b=some o':=fun o' e'=>by
   rw [Heap.get?_update_other _ _ (Ne.symm hbe)]
   exact Heap.get?_push_of_some _ e'
  by_cases hm:b∈(env::l).filterMap (·.frame)
  ·refine af (List.mem_filterMap.mp hm) fun env' he' hb'=>?_
   obtain ⟨_,L',o',es,ep,f1,f2,f3,f4,f5⟩:=hF env' he'
   rw [hb'] at f1; (have oc:=Option.some.inj f1; clear f1; subst oc)
   rw [eb] at f3; (have oc:=Option.some.inj f3; clear f3; subst oc)
   refine ai (hs₁.2.2 b o eb) fun sl e'=>?_
   exact .inr (.inl (bl es ep f2 f4 f5 (bI sl (keep _ e'))))
  ·exact .inl (keep o ((hs₁.2.1 b hm).trans eb))
theorem Chg.upd {T:Addr}{oT:Obj}{ts:Array Value}{v:Value}(ht:h.get? T=some oT) (hc:oT.cls = .type "traceback") (hd:oT.data = .fields ts) (hn:¬ N T):Chg N h (h.update T (Obj.mapFields (·.setIfInBounds 3 v))):=fun b o eb=>by
 by_cases hb:b=T
 ·subst hb
  rw [ht] at eb; (have oc:=Option.some.inj eb; clear eb; subst oc)
  exact .inr (.inr (bM hn (Stay.not_cls (by rw [hc]; simp) (by rw [hc]; simp)) (bI ts hd)))
 ·exact .inl ((Heap.get?_update_other _ _ (Ne.symm hb)).trans eb)
theorem vJ (hN:∀ b,N b->∃ o,h.get? b=some o) (hfr:A.frames=some (env::l)) (hF:FrOk h (env::l)) (hf:env.frame=some L) (hx:Exc N h c L x)
  (hQ:∀ h',FlyA N h' c (rawInt L) x->KG N h h'->FrOk h' (env::l)->Q () ⟨h',g,dr,tk,os⟩):wpAny M A (noteFrame x env) Q E ⟨h,g,dr,tk,os⟩:=by
 refine aA (hx) fun e vs G4 h0 hv=>?_
 try clear hx
 subst G4
 refine aD (h0) fun ne cn HF=>?_
 try clear h0
 refine ao (HF) fun oe ee hc hd=>?_
 try clear HF
 unfold noteFrame
 simp only [hf]
 rcases hv with hv | ⟨fl,hfl,T,oT,ts,h1,hTN,hTe,hT,hTc,hTd,h3⟩
 ·refine wpAny_bind (wpAny_field ee hd hv ?_)
  rw [if_neg (by decide)]
  exact xP hN hfr hF hf (bM ne cn (aC oe ee hc hd)) (Array.getElem?_eq_some_iff.mp hv).1 fun h' f k=>hQ h' f k.kg (k.frames hF)
 ·refine wpAny_bind (wpAny_field ee hd h1 ?_)
  rw [if_pos (show (Value.ref T != Value.none)=true from by simp)]
  refine wpAny_bind (wpAny_field hT hTd h3 ?_)
  rcases hfl with rfl | rfl
  ·rw [if_neg (show ¬ ((Value.none==rawInt L)=true) from by simp [rawInt])]
   refine wpAny_bind (wpAny_setField hT hTd (Array.getElem?_eq_some_iff.mp h3).1 ?_)
   have ch:Chg N h (h.update T (Obj.mapFields (·.setIfInBounds 3 Value.none))):=Chg.upd hT hTc hTd hTN
   refine xP (fun b hb=>?_) hfr (ch.frames hF) hf (bM ne cn (aC oe ((Heap.get?_update_other _ _ hTe).trans ee) hc hd)) (Array.getElem?_eq_some_iff.mp h1).1 fun h' f k=>hQ h' f (ch.kg.trans k.kg) (k.frames (ch.frames hF))
   refine ai (hN b hb) fun o e=>?_
   exact ⟨o,(Heap.get?_update_other _ _ (show T≠b from fun q=>hTN (by rw [q]; exact hb))).trans e⟩
  ·rw [if_pos (show (rawInt L==rawInt L)=true from by simp)]
   exact wpAny_pure (hQ h (aO e vs rfl (bM ne cn (aC oe ee hc hd)) (lq T oT ts h1 hTN hTe hT hTc hTd h3)) .refl hF)
theorem iK {fl:Value}{fr:Option Addr}(hF:FrOk h l) (hx:FlyA N h c fl x) (hQ:∀ h',FlyA N h' c (fr.elim .none fun f=>rawInt f) x->KG N h h'->FrOk h' l->Q () ⟨h',g,dr,tk,os⟩):wpAny M A (setFlight x fr) Q E ⟨h,g,dr,tk,os⟩:=by
 obtain ⟨e,vs,G5,G6,T,oT,ts,h1,hTN,hTe,hT,hTc,hTd,h3⟩:=hx
 subst G5
 refine aD (G6) fun ne cn HW=>?_
 try clear G6
 refine ao (HW) fun oe ee hc hd=>?_
 try clear HW
 unfold setFlight
 refine wpAny_bind (wpAny_field ee hd h1 ?_)
 rw [if_pos (show (Value.ref T != Value.none)=true from by simp)]
 have hsz:=(Array.getElem?_eq_some_iff.mp h3).1
 have ch:Chg N h (h.update T (Obj.mapFields (·.setIfInBounds 3 (fr.elim .none fun f=>rawInt f)))):=Chg.upd hT hTc hTd hTN
 exact wpAny_setField hT hTd hsz (hQ _ (aO e vs rfl (bM ne cn (aC oe ((Heap.get?_update_other _ _ hTe).trans ee) hc hd)) (lq T _ _ h1 hTN hTe (Heap.get?_update_self _ hT (Obj.isFreed_of_fields (Obj.data_mapFields hTd _))) ((Obj.cls_mapFields _ _).trans hTc) (Obj.data_mapFields hTd _) (by simp [hsz]))) ch.kg (ch.frames hF))
theorem DQ (hN:∀ b,N b->∃ o,h.get? b=some o) (hfr:A.frames=some (env::l)) (hF:FrOk h (env::l)) (hf:env.frame=some L) (hx:Exc N h c L x)
  (hQ:∀ h',Fly N h' c x->KG N h h'->Q () ⟨h',g,dr,tk,os⟩):wpAny M A (leaving env x) Q E ⟨h,g,dr,tk,os⟩:=by
 unfold leaving
 exact wpAny_bind (vJ hN hfr hF hf hx fun h₁ f₁ k₁ F₁=>iK F₁ f₁ fun h₂ f₂ k₂ _=>hQ h₂ f₂ (k₁.trans k₂))
theorem CF {E':Value->Shared->Prop}(hN:∀ b,N b->∃ o,h.get? b=some o) (hfr:A.frames=some (env::l)) (hF:FrOk h (env::l)) (hf:env.frame=some L) (hx:Exc N h c L x)
  (hQ:∀ h',Exc N h' c L x->KG N h h'->FrOk h' (env::l)->E' x ⟨h',g,dr,tk,os⟩):notedBy (model prog w) A env (cameBackBy (model prog w) A env E') x ⟨h,g,dr,tk,os⟩:=by
 refine vJ hN hfr hF hf hx fun h₁ f₁ k₁ F₁=>?_
 refine aA (f₁) fun e vs G7 G8 Ih=>?_
 try clear f₁
 refine bn (Ih) fun T oT ts h1 hTr=>?_
 try clear Ih
 (clear hx; subst G7)
 refine aD (G8) fun ne cn IC=>?_
 try clear G8
 refine ao (IC) fun oe ee hc hd=>?_
 try clear IC
 refine wpAny_bind (wpAny_field ee hd h1 ?_)
 rw [if_neg (show ¬ (Value.ref T==Value.none)=true from by simp),hf]
 exact iK F₁ (aO e vs rfl (bM ne cn (aC oe ee hc hd)) (b0 T oT ts h1 hTr)) fun h₂ f₂ k₂ F₂=>hQ h₂ f₂.exc (k₁.trans k₂) F₂
end
noncomputable def dom (h:Heap) (b:Addr):Prop:=∃ o,h.get? b=some o
noncomputable def XPc (c:String) (s:Shared) (x:Value) (s':Shared):Prop:=Kp s s'/\Fly (dom s.heap) s'.heap c x
theorem XPc.of {c:String}{s s₁:Shared}{x:Value}{s':Shared}(k:Kp s s₁) (h:XPc c s₁ x s'):XPc c s x s':=⟨k.trans h.1,h.2.old fun uu ⟨_,e⟩=>af (k.k _ _ (.inl trivial) e) fun o' e' uu=>⟨o',e'⟩⟩
theorem bw:∀ (c:String) (s s₁:Shared) (x:Value) (s':Shared),Kp s s₁->XPc c s₁ x s'->XPc c s x s':=fun uu uu uu uu uu k h=>.of k h
noncomputable def Lv (A:Around) (env:Env) (h:Heap):Prop:=∃ l,A.frames=some (env::l)/\FrOk h (env::l)/\env.frame=some env.locals
section
variable (fns:Fns) (k:Nat) (C:Calls)
noncomputable def c6 (st:S):Prop:=∀ {stmt:Stmt}{h0:Heap}{P Z:Addr->Prop}{A:Around}{env:Env}{σ:St}{vals:String->Option Value}{fp:String->List Addr}{s:Shared}{Q:Flow->Shared->Prop}{Er:Value->Shared->Prop}{c:String},
 okS env.scope.names st stmt=true->SOK fns k h0 P Z A env s.heap σ vals fp->ex C st σ = .exc c->(∀ x s',Stp Z s s'->Lv A env s'.heap->Exc Z s'.heap c env.locals x->Er x s')->wpAny (model prog w) A (exec stmt env) Q Er s
noncomputable def eK (st:Ss):Prop:=∀ {stmts:List Stmt}{h0:Heap}{P Z:Addr->Prop}{A:Around}{env:Env}{σ:St}{vals:String->Option Value}{fp:String->List Addr}{s:Shared}{Q:Flow->Shared->Prop}{Er:Value->Shared->Prop}{c:String},
 cO env.scope.names st stmts=true->SOK fns k h0 P Z A env s.heap σ vals fp->exs C st σ = .exc c->(∀ x s',Stp Z s s'->Lv A env s'.heap->Exc Z s'.heap c env.locals x->Er x s')->wpAny (model prog w) A (execs stmts env) Q Er s
end
end Mine
namespace Mine
open PySem PyProof.Rows
section
variable {fns:Fns}{k:Nat}{C:Calls}{XP:String->Shared->Value->Shared->Prop}
noncomputable def sU:Expr->Bool
 | .ListComp .. | .SetComp .. | .DictComp ..=>false
 | _=>true
theorem gu {v:Expr}(h:sU v=true) (t:Option Expr) (l:Nat) (env:Env):swapsWith v t l env=pure false:=by
 cases v<;>first | rfl | exact nF h
theorem li {e:Expr}{gs:List Comprehension}{sc:Scope}{p:Pos}{t:Str}{q:Pos}{l:Nat}{env:Env}:swapsWith (.ListComp e gs sc p) (some (.Name t q)) l env=pure true\/swapsWith (.ListComp e gs sc p) (some (.Name t q)) l env=pure false:=by
 have e1:swapsWith (.ListComp e gs sc p) (some (.Name t q)) l env=pure (env.blockKind == .function&&env.kindOf t==some .local&&q.line==(Expr.ListComp e gs sc p).pos.line && !(sc.names.any fun (n,k)=>n==t&&(k == .local||k == .cell))):=rfl
 rw [e1]
 generalize (env.blockKind == .function&&env.kindOf t==some .local&&q.line==(Expr.ListComp e gs sc p).pos.line && !(sc.names.any fun (n,k)=>n==t&&(k == .local||k == .cell)))=b
 cases b
 ·exact .inr rfl
 ·exact .inl rfl
theorem iV {ns:List (Str×NameKind)}{e:E}{ex:Expr}(hp:gz e=false) (h:okE ns e ex=true):sU ex=true:=by
 cases ex with
 | ListComp _ _ _ _=>
  cases e with
  | comp _ _ _=>exact nT hp
  | compif _ _ _ _=>exact nT hp
  | _=>exact Bool.noConfusion (show false=true from h)
 | _=>first | rfl | (cases e<;>exact Bool.noConfusion (show false=true from h))
theorem k8 {x t:String}{px pt:Pos}{elt iter:Expr}{ifs:List Expr}{sc:Scope}{pos spos:Pos}{A:Around}{env:Env}{σ:St}{P:Addr->Prop}{s:Shared}{Q:Flow->Shared->Prop}{Er:Value->Shared->Prop}{h:Heap}
  (hsc:gg env.scope.names sc x=true) (X:Cx fns k A P h env σ) (hset:∀ v,foldedSetIterable iter env v=pure v) (hsw:swapsWith (.ListComp elt [⟨.Name (Str.ofString x) px,iter,ifs,0⟩] sc pos) (some (.Name (Str.ofString t) pt)) spos.line env=pure true)
  (h:∀ cl:List (Str×Addr),(∀ n,(n,NameKind.free)∈sc.names->cl.lookup n=env.cells.lookup n)->wpAny (model prog w) A (eval iter env) (fun v s₁=>wpAny (model prog w) A (pyIter v) (fun i s₂=>wpAny (model prog w) A (newObj (.type "list") (.seq #[]) none) (fun acc s₃=>
   wpAny (model prog w) A (newFunctionEnv sc env.globals cl [] env.qual none .none (some env)) (fun cenv s₄=>
    codeAny (model prog w) A (.compStart (.ListComp elt [⟨.Name (Str.ofString x) px,iter,ifs,0⟩] sc pos) 0 i acc {cenv with scope:=relabel sc env }) (compPost (model prog w) A Er (some (assign (.Name (Str.ofString t) pt) env)) (fun uu s'=>Q .next s') acc cenv.locals) s₄) Er s₃) Er s₂) Er s₁) Er s) :
  wpAny (model prog w) A (exec (.Assign [.Name (Str.ofString t) pt] (.ListComp elt [⟨.Name (Str.ofString x) px,iter,ifs,0⟩] sc pos) spos) env) Q Er s:=by
 refine cJ (gW hsc) fun hk hnd htg hnames=>?_
 obtain ⟨cl,hcl,hclk⟩:=kZ (scope:=sc) (env:=env) (fun p hp e=>by
  rcases hnames p hp with h | h | h | h
  ·rw [h.1] at e; cases e
  ·rw [h] at e; cases e
  ·rw [h.1] at e; cases e
  ·exact X.eok.cells p.1 h.2)
 rw [exec_Assign_Name_used _ _ _ _ hsw]
 refine wpAny_bind (wpAny_standAt (wpAny_bind ?_))
 show wpAny _ A (do let _ ← comprehension (.ListComp elt [⟨.Name (Str.ofString x) px,iter,ifs,0⟩] sc pos) sc env _ (newList []) false (eval iter env) (some (assign (.Name (Str.ofString t) pt) env))) _ _ s
 exact wpAny_bind (wpAny_mono (wpAny_comprehension_free (use:=some (assign (.Name (Str.ofString t) pt) env)) (Q:=fun uu s'=>Q .next s') rfl hset hcl hk (fun y hy e=>by rw [← e]; exact gY hnd hy) (h cl hclk)) (fun uu s' hq=>wpAny_pure (wpAny_pure hq)) fun uu uu e=>e)
theorem pN {h0:Heap}{P Z:Addr->Prop}{A:Around}{env:Env}{σ:St}{vals:String->Option Value}{fp:String->List Addr}{s s₂:Shared}{Q:Flow->Shared->Prop}{Er:Value->Shared->Prop}{x:String}{px:Pos}{ns:List String}{d:PyData}{md:Mode}{v:Value}{h:Heap}{tk:Nat}{D:Addr}{m:Str->Option Value}
  (K:SOK fns k h0 P Z A env s.heap σ vals fp) (hb:bj env.scope.names x=true) (E:EP (Own σ fp ns) s (.d d,md) v {s₂ with heap:=h,toks:=tk }) (hm:h.Ns D m) (hD:s.heap.get? D=none)
  (hN:∀ s' vals' fp',Stp Z s s'->SOK fns k h0 P Z A env s'.heap (upd (consume σ ns md) x (.d d,md)) vals' fp'->Frm Z [x] σ vals fp (upd (consume σ ns md) x (.d d,md)) vals' fp'->Q .next s') :
  compPost (model prog w) A Er (some (assign (.Name (Str.ofString x) px) env)) (fun uu s'=>Q .next s') v D (.ok .next) {s₂ with heap:=h,toks:=tk }:=by
 refine fP hb fun h1 h2 h3=>?_
 show wpAny _ A (assign (.Name (Str.ofString x) px) env v) _ _ _
 refine wpAny_assign_Name (K.put_ep h1 h3 E fun s' as rv st kk K' F=>?_)
 have dL:D≠env.locals:=fun q=>by
  refine af (K.loc.ns) fun m' G4 _=>?_
  refine bn (G4) fun o _ _ e _=>?_
  try clear G4
  rw [← q] at e
  rw [hD] at e; exact nN e
 have hmo:=hm
 refine aI (hmo) fun o es ep ho hd hr=>?_
 try clear hmo
 have ho':=kk D o dL (fun u q=>by rw [hd] at q; cases q) ho
 have hm':s'.heap.Ns D m:=(cy o es ep ho' hd hr)
 refine (ah m hm' (fun h' hs=>hN _ _ _ ?_ (K'.same hm' (fun hz=>?_) dL (fun y q hq hf=>?_) hs) F))
 ·refine (E.keeps.stp.trans st).same hs (fun hz=>?_) fun o' e=>by rw [ho'] at e; (have oc:=Option.some.inj e; clear e; subst oc); exact Stay.not_dict hd
  refine ai (K.zdom D hz) fun o e=>?_
  rw [hD] at e; exact nN e
 ·refine ai (K.zdom D hz) fun o e=>?_
  rw [hD] at e; exact nN e
 ·split at hf
  ·refine bg (rv.1.there D hf) fun uu uu e=>?_
   rw [ho] at e; (have oc:=Option.some.inj e; clear e; (clear ho ho'; subst oc)); cases hd
  ·rename_i hy
   unfold upd at hq
   rw [if_neg hy] at hq
   have:∃ q',σ y=some q':=by
    unfold consume at hq
    split at hq
    ·exact ⟨q,hq⟩
    ·obtain ⟨q',hq',_⟩:=bP hq; exact ⟨q',hq'⟩
   refine ai (this) fun q' hq'=>?_
   try clear this
   refine ae (K.val y q' hq') fun uu Hq=>?_
   refine ao (Hq) fun u _ hr _=>?_
   try clear Hq
   refine ai (hr.there D hf) fun o e=>?_
   rw [hD] at e; exact nN e
theorem rD {e:E}(h:gz e=true):(∃ elt y it,e = .comp elt y it)\/∃ elt y it c,e = .compif elt y it c:=by
 cases e with
 | comp elt y it=>exact .inl ⟨_,_,_,rfl⟩
 | compif elt y it c=>exact .inr ⟨_,_,_,_,rfl⟩
 | _=>exact nF h
theorem jO {x:String}{e:E}(S:SimE fns k C XP e) (Sc:(∀ elt y it,e = .comp elt y it->dP fns k C XP it/\SimE fns k C XP elt)/\∀ elt y it c,e = .compif elt y it c->dP fns k C XP it/\SimE fns k C XP elt/\SimT fns k C XP c):cT fns k C (.assign x e):=by
 intro stmt h0 P Z A env σ vals fp s Q Er σ' fl ok K he hN hR
 replace ok:=jc ok
 revert ok; refine fun Hg=>Or.elim Hg (fun Hb=>?_) (fun ok=>?_)
 ·clear Hg
  refine cb (Hb) fun t pt v spos HU ok=>?_
  clear Hb
  subst HU
  simp only [Bool.and_eq_true,beq_iff_eq] at ok
  refine ae (ok) fun G5 oe=>?_
  try clear ok
  refine ae (G5) fun G6 hb=>?_
  try clear G5
  subst G6
  refine fP hb fun h1 h2 h3=>?_
  simp only [cf] at he
  refine Out.bind_k he fun r hr he=>?_
  replace hr:=AZ hr
  replace hN:=iL he hN
  clear he hR
  have plain:swapsWith v (some (.Name (Str.ofString x) pt)) spos.line env=pure false->wpAny (model prog w) A (exec (.Assign [.Name (Str.ofString x) pt] v spos) env) Q Er s:=fun hsw=>by
   refine wpAny_Assign_Name (K.eval S oe hr fun u s' E=>?_) hsw
   exact K.put_ep h1 h3 E fun s'' as rv st kk K' F=>hN s'' _ _ (E.keeps.stp.trans st) K' F
  cases hc:gz e with
  | false=>exact plain (gu (iV hc oe) _ _ _)
  | true=>
   refine Or.elim (rD hc) (fun q0=>?_) (fun q0=>?_)
   ·refine xA (q0) fun elt y it e0=>?_
    clear q0
    refine ae (Sc.1 elt y it e0) fun Si Se=>?_
    clear Sc S hc
    subst e0
    replace oe:=s8 oe
    revert oe; refine fun Hh=>Or.elim Hh (fun He=>?_) (fun oe=>?_)
    ·clear Hh
     refine nw (He) fun ee ty py iter sc pos Io oe=>?_
     clear He
     subst Io
     rcases li (e:=ee) (gs:=[⟨.Name ty py,iter,[],0⟩]) (sc:=sc) (p:=pos) (t:=Str.ofString x) (q:=pt) (l:=spos.line) (env:=env) with hsw | hsw
     ·simp only [Bool.and_eq_true,beq_iff_eq] at oe
      revert oe; intro HQ
      refine ae (HQ) fun G7 oe=>?_
      try clear HQ
      refine ae (G7) fun G8 oi=>?_
      try clear G7
      refine ae (G8) fun G9 hsc=>?_
      try clear G8
      (clear plain; subst G9)
      have X:=K.cx (fv (.comp elt y it))
      have e1:ev C (.comp elt y it) (ck σ (fv (.comp elt y it))) = .ok r:=by rw [ay C _ _ σ (bS σ _)]; exact hr
      simp only [gZ] at e1
      refine Out.bind_k e1 fun q hq e1=>?_
      refine Out.bind_k e1 fun res hres e1=>?_
      (have oc:=Out.ok.inj e1; clear e1; (clear hr; subst oc))
      refine k8 hsc X (l8 oi env) hsw fun cl hcl=>Si oi X (by rw [hq]; simp) (fun q' hq' i s₂ I=>?_) fun c hc=>by rw [hq] at hc; cases hc
      rw [hq] at hq'; (have oc:=Out.ok.inj hq'; clear hq'; subst oc)
      obtain ⟨res',hres'⟩:=eF (by rw [hres]; simp:(bz _ q.1).calm≠.bad)
      rw [hres'] at hres; (have oc:=Out.ok.inj hres; clear hres; subst oc)
      refine eY (RR:=fun acc C=>compPost (model prog w) A Er (some (assign (.Name (Str.ofString x) pt) env)) (fun uu s'=>Q .next s') acc C) (ds:=q.1) hsc X hres' (fun d r hf cenv s₃ P' Q₁ Q₂ Er' hNm X' g1 g2=>wpAny_tests_nil ?_) I (fun D C h tk m E hm hC=>pN K hb E hm hC fun s' vals' fp' st K' F=>hN s' vals' fp' st K' F) hcl
      rw [if_pos rfl]
      refine Out.bind_k hf fun z hz e=>?_
      (have oc:=Out.ok.inj e; clear e; (clear g1 hf; subst oc))
      exact Se (hNm▸oe) X' (by rw [hz]; simp) (fun r hr v s' E=>g2 r (by rw [hz] at hr; (have oc:=Out.ok.inj hr; clear hr; (clear E; subst oc)); rfl) v s' E) fun c hc=>by rw [hz] at hc; cases hc
     ·exact plain hsw
    ·cases oe
   ·refine Cy (q0) fun elt y it c e0=>?_
    clear q0
    refine aD (Sc.2 elt y it c e0) fun Si Se Sc'=>?_
    clear Sc S hc
    subst e0
    replace oe:=om oe
    revert oe; refine fun Hm=>Or.elim Hm (fun Hl=>?_) (fun oe=>?_)
    ·clear Hm
     refine g7 (Hl) fun ee ty py iter ff sc pos J4 oe=>?_
     clear Hl
     subst J4
     rcases li (e:=ee) (gs:=[⟨.Name ty py,iter,[ff],0⟩]) (sc:=sc) (p:=pos) (t:=Str.ofString x) (q:=pt) (l:=spos.line) (env:=env) with hsw | hsw
     ·simp only [Bool.and_eq_true,beq_iff_eq] at oe
      revert oe; intro Ib
      refine ae (Ib) fun Ha oe=>?_
      try clear Ib
      refine ae (Ha) fun Hc oc=>?_
      try clear Ha
      refine ae (Hc) fun Hd oi=>?_
      try clear Hc
      refine ae (Hd) fun Hf hsc=>?_
      try clear Hd
      (clear plain; subst Hf)
      have X:=K.cx (fv (.compif elt y it c))
      have e1:ev C (.compif elt y it c) (ck σ (fv (.compif elt y it c))) = .ok r:=by rw [ay C _ _ σ (bS σ _)]; exact hr
      simp only [e9] at e1
      refine Out.bind_k e1 fun q hq e1=>?_
      refine Out.bind_k e1 fun res hres e1=>?_
      (have oc:=Out.ok.inj e1; clear e1; (clear hr; subst oc))
      refine k8 hsc X (l8 oi env) hsw fun cl hcl=>Si oi X (by rw [hq]; simp) (fun q' hq' i s₂ I=>?_) fun c hc=>by rw [hq] at hc; cases hc
      rw [hq] at hq'; (have oc:=Out.ok.inj hq'; clear hq'; subst oc)
      obtain ⟨res',hres'⟩:=eF (by rw [hres]; simp:(bz _ q.1).calm≠.bad)
      rw [hres'] at hres; (have oc:=Out.ok.inj hres; clear hres; subst oc)
      refine eY (RR:=fun acc C=>compPost (model prog w) A Er (some (assign (.Name (Str.ofString x) pt) env)) (fun uu s'=>Q .next s') acc C) (ds:=q.1) hsc X hres' (fun d r hf cenv s₃ P' Q₁ Q₂ Er' hNm X' g1 g2=>wpAny_tests_one ?_) I (fun D C h tk m E hm hC=>pN K hb E hm hC fun s' vals' fp' st K' F=>hN s' vals' fp' st K' F) hcl
      refine Out.bind_k hf fun t ht hf=>?_
      refine Out.bind_k hf fun b hb' hf=>?_
      refine Sc' (hNm▸oc) X' (by rw [ht,Out.ok_bind,hb']; simp) (fun b'' hb'' s₄ k₄=>?_) fun c hc=>by rw [ht] at hc; cases hc
      rw [ht,Out.ok_bind,hb'] at hb''
      (have oc:=Out.ok.inj hb''; clear hb''; subst oc)
      cases b with
      | false=>(have oc:=Out.ok.inj hf; clear hf; (clear g2; subst oc)); simpa using g1 rfl s₄ k₄
      | true=>
       rw [if_pos rfl] at hf ⊢
       refine Out.bind_k hf fun z hz e=>?_
       (have oc:=Out.ok.inj e; clear e; (clear g1; subst oc))
       exact Se (hNm▸oe) (X'.k k₄.k) (by rw [hz]; simp) (fun r hr v s' E=>g2 r (by rw [hz] at hr; (have oc:=Out.ok.inj hr; clear hr; (clear E; subst oc)); rfl) v s' (E.after k₄)) fun c hc=>by rw [hz] at hc; cases hc
     ·exact plain hsw
    ·cases oe
 ·cases ok
end
end Mine
namespace Mine
open PySem PyProof.Rows
section
variable {fns:Fns}{k:Nat}{C:Calls}{XP:String->Shared->Value->Shared->Prop}
variable {h0:Heap}{P Z:Addr->Prop}{A:Around}{env:Env}{σ:St}{vals:String->Option Value}{fp:String->List Addr}
theorem SOK.putl {s s₂:Shared}{h':Heap}{ns:List String}{x:String}{xs zs:List PyData}{mx m:Mode}{as:List Addr}{σ':St}{fl:Flw}{a:Addr}{vs vs':List Value}{n n':Nat}{bs bs':List Addr}
  (K:SOK fns k h0 P Z A env s.heap σ vals fp) (kp:Kp s s₂) (ha:∀ b∈as,Own σ fp ns b\/s.heap.get? b=none) (hdp:m = .deep->(∀ b∈as,s.heap.get? b=none)/\as.Nodup)
  (hx:σ x=some (.d (.list xs),mx)) (hput:il σ x ns mx zs m = .ok (σ',fl)) (hm:mx≠.sh)
  (hv:vals x=some (.ref a)) (ea:s.heap.get? a=some ⟨.type "list", none,.seq vs.toArray n,#[]⟩) (hfp:fp x=a::bs) (hZ:¬ Z a) (hab:a∉bs) (hne:∀ y q,y≠x->σ y=some q->a∉fp y) (hP:∀ b∈a::bs,b≠env.locals/\(P b\/h0.get? b=none))
  (hdx:mx = .deep->(∀ b∈bs,¬ Z b/\∀ y q,y≠x->σ y=some q->b∉fp y)/\bs.Nodup)
  (hs:Heap.SameBut a s₂.heap h') (ea':h'.get? a=some ⟨.type "list", none,.seq vs'.toArray n',#[]⟩) (rr:RA s₂.heap vs' zs bs') (hz:∀ z∈zs,sz z=true) (hbs:∀ b∈bs',b∈bs\/b∈as) (hnd:(bs++as).Nodup->bs'.Nodup) :
  fl = .next/\∃ fp',SOK fns k h0 P Z A env h' σ' vals fp'/\Frm Z [x] σ vals fp σ' vals fp':=by
 have nz:∀ a,s.heap.get? a=none->¬ Z a:=fun a e hz=>by
  refine ai (K.zdom a hz) fun o e'=>?_
  rw [e] at e'; exact nN e'
 have nf:∀ a,s.heap.get? a=none->∀ y q,σ y=some q->a∉fp y:=fun a e y q hq hm=>by
  refine ae (K.val y q hq) fun uu Hq=>?_
  refine ao (Hq) fun u _ hr _=>?_
  try clear Hq
  refine ai (hr.there a hm) fun o e'=>?_
  rw [e] at e'; exact nN e'
 unfold il at hput
 split at hput
 ·rename_i hlen
  have ea₂:=kp.k.get ea rfl
  have main:∀ (hcase:m = .deep\/x∉ns),a∉as:=fun hcase hm=>by
   refine Or.elim (ha a hm) (fun Hb=>?_) (fun h1=>?_)
   ·refine aA (Hb) fun z q hz hq hf=>?_
    clear Hb
    rcases hcase with hc | hc
    ·have:=(hdp hc).1 a hm
     rw [ea] at this; exact nM this
    ·exact hne z q (fun e=>hc (e▸hz)) hq hf
   ·rw [ea] at h1; exact nM h1
  have rv':(hcase:m = .deep\/x∉ns)->RV h' (.ref a) (.d (.list zs)) (a::bs'):=fun hcase=>by
   refine ⟨.list ea' (rr.off (wr:=[a]) (fun b hb o e=>.inr ?_) fun b o hb e=>hs.extBut b o (fun q=>hb (by simp [q])) e),sz_list.mpr ⟨?_,hz⟩⟩
   ·rw [List.mem_singleton.mp hb] at e ⊢
    rw [ea₂] at e; (have oc:=Option.some.inj e; clear e; subst oc)
    exact ⟨by simp,fun hm=>(hbs a hm).elim hab (main hcase)⟩
   ·unfold lim at hlen; exact xC hlen
  have pb:∀ b∈bs',b≠env.locals/\(P b\/h0.get? b=none):=fun b hb=>by
   rcases hbs b hb with h1 | h1
   ·exact hP b (.tail _ h1)
   ·rcases ha b h1 with h2 | h2
    ·exact (K.own h2).2
    ·refine ⟨fun q=>?_,.inr ?_⟩
     ·refine af (K.loc.ns) fun m' G4 _=>?_
      refine bn (G4) fun o _ _ e _=>?_
      try clear G4
      rw [← q] at e
      rw [h2] at e; exact nN e
     ·cases e:h0.get? b with
      | none=>rfl
      | some o=>obtain ⟨_,e'⟩:=Mine.K.there K.kp0 e; rw [e'] at h2; exact nM h2
  have abs:(hcase:m = .deep\/x∉ns)->a∉bs':=fun hcase hm=>(hbs a hm).elim hab (main hcase)
  have org:∀ b∈a::bs',Z b->∃ z q,σ z=some q/\b∈fp z:=fun b hb hz=>by
   rcases List.mem_cons.mp hb with rfl | hb
   ·exact absurd hz hZ
   ·rcases hbs b hb with hb | hb
    ·exact (aB x _ hx (by rw [hfp]; exact .tail _ hb))
    ·refine Or.elim (ha b hb) (fun He=>?_) (fun h1=>?_)
     ·refine aA (He) fun y q HH h1 h2=>?_
      clear He
      exact (aB y q h1 h2)
     ·exact absurd hz (nz b h1)
  split at hput
  ·rename_i hmd
   cases hput
   refine (aE rfl (ah _ ?_ (.one (fun uu uu=>rfl) (fun z q h=>⟨q,h⟩) org)))
   refine ((K.onK kp.k).write hx hv ea₂ (by simp) Stay.not_list (fun uu q=>by cases q) hZ hne (hP a (.head _)) hs (rv' (.inl hmd)) pb (fun uu=>abs (.inl hmd)) (fun hdeep=>?_) fun y' q hy hq=>?_)
   ·refine ae (hdx hdeep) fun g1 g2=>?_
    refine ae (hdp hmd) fun g3 g4=>?_
    refine ⟨fun b hb=>?_,List.nodup_cons.mpr ⟨abs (.inl hmd),hnd (List.nodup_append.mpr ⟨g2,g4,fun b hb c hc q=>?_⟩)⟩⟩
    ·rcases hbs b hb with h1 | h1
     ·exact g1 b h1
     ·exact ⟨nz b (g3 b h1),fun y q _ hq=>nf b (g3 b h1) y q hq⟩
    ·subst q
     exact nf b (g3 b hc) x _ hx (by rw [hfp]; exact .tail _ hb)
   ·have g3:=(hdp hmd).1
    refine ⟨fun ht b cs e hm=>?_,fun hd b hb hm=>?_⟩
    ·refine a7 (K.top y' q hq ht) fun b' cs' e' _ _ h4=>?_
     rw [e] at e'; cases e'
     rcases hbs b hm with h1 | h1
     ·exact h4 x _ (Ne.symm hy) hx (by rw [hfp]; exact .tail _ h1)
     ·exact nf b (g3 b h1) y' q hq (by rw [e]; exact .head _)
    ·rcases hbs b hm with h1 | h1
     ·exact ((K.deep y' q hq hd).1 b hb).2 x _ (Ne.symm hy) hx (by rw [hfp]; exact .tail _ h1)
     ·exact nf b (g3 b h1) y' q hq hb
  ·split at hput
   ·exact nB hput
   ·rename_i hmd hxn
    cases hput
    have hx':Mine.demote σ ns x=some (V.d (.list xs),mx):=by unfold Mine.demote; rw [if_neg hxn]; exact hx
    refine (aE rfl (ah _ ?_ (.one (fun uu uu=>rfl) (fun z q h=>af (bP h) fun q' h' uu=>⟨q',h'⟩) org)))
    refine (((K.onK kp.k).demote ns).write hx' hv ea₂ (by simp) Stay.not_list (fun uu q=>by cases q) hZ (fun y' q hy hq=>?_) (hP a (.head _)) hs (rv' (.inr hxn)) pb (fun uu=>abs (.inr hxn)) (fun hdeep=>by cases hdeep) fun y' q hy hq=>?_)
    ·refine af (bP hq) fun q' hq' _=>?_
     exact hne y' q' hy hq'
    ·refine eA hq fun q' hq' e1 hc=>?_
     rcases hc with ⟨_,rfl⟩ | ⟨hn,rfl⟩
     ·refine ⟨fun h=>absurd h gH,fun h b hb=>?_⟩
      refine ae (K.val y' q' hq') fun uu Hv=>?_
      refine ao (Hv) fun u _ hr _=>?_
      try clear Hv
      rw [hr.scal_nil (fj h)] at hb
      cases hb
     ·refine ⟨fun ht b cs e hm=>?_,fun hd b hb hm=>?_⟩
      ·refine a7 (K.top y' q hq' ht) fun b' cs' e' _ _ h4=>?_
       rw [e] at e'; cases e'
       rcases hbs b hm with h1 | h1
       ·exact h4 x _ (Ne.symm hy) hx (by rw [hfp]; exact .tail _ h1)
       ·refine Or.elim (ha b h1) (fun Hl=>?_) (fun h2=>?_)
        ·refine aA (Hl) fun z p hz hp hf=>?_
         clear Hl
         exact h4 z p (fun q=>hn (q▸hz)) hp hf
        ·exact nf b h2 y' q hq' (by rw [e]; exact .head _)
      ·rcases hbs b hm with h1 | h1
       ·exact ((K.deep y' q hq' hd).1 b hb).2 x _ (Ne.symm hy) hx (by rw [hfp]; exact .tail _ h1)
       ·refine Or.elim (ha b h1) (fun Hj=>?_) (fun h2=>?_)
        ·refine aA (Hj) fun z p hz hp hf=>?_
         clear Hj
         exact ((K.deep y' q hq' hd).1 b hb).2 z p (fun q=>hn (q▸hz)) hp hf
        ·exact nf b h2 y' q hq' hb
 ·exact nB hput
theorem nr {env:Env}(eok:EnvOk env):interactive env=false:=by unfold interactive; rw [eok.kind]; rfl
set_option tactic.hygienic true in
theorem qf {x:String}{e:E}(S:SimE fns k C XP e):cT fns k C (.append x e):=by
 intro stmt h0 P Z A env σ vals fp s Q Er σ' fl ok K he hN hR
 replace ok:=tB ok
 revert ok; refine fun Hp=>Or.elim Hp (fun Ho=>?_) (fun ok=>?_)
 ·clear Hp
  refine g7 (Ho) fun t pt mm ap v pos spos IA ok=>?_
  clear Ho
  subst IA
  simp only [Bool.and_eq_true,beq_iff_eq] at ok
  refine ae (ok) fun G5 oe=>?_
  try clear ok
  refine ae (G5) fun G6 hb=>?_
  try clear G5
  refine ae (G6) fun G7 G8=>?_
  try clear G6
  refine ae (G7) fun G9 hl=>?_
  try clear G7
  subst G9
  subst G8
  refine fP hb fun h1 h2 h3=>?_
  simp only [eZ] at he
  refine fJ he fun r hr he=>?_
  obtain ⟨ry,m⟩:=r
  dsimp only at he
  split at he
  ·rename_i y vv mx hx0
   split at he
   rotate_left
   ·exact nB he
   rename_i xs hxx
   cases iP hxx
   have hx:=hx0
   split at he
   ·exact nB he
   ·rename_i hmx
    refine tU (K.head hx hmx) fun a vs n bs hv ea ra hfp hz hZ hab hne hP hdx=>?_
    refine wpAny_Expr_any (wpAny_Call_append rfl (by rw [aJ oe]; rfl) (by simpa using hl) (by rw [aJ oe]; rfl) ?_) (nr K.eok)
    refine cL K.eok.kind h2 (K.loc.var K.eok hv) (aO a vs.toArray rfl (bl _ n ea rfl rfl rfl) (K.eval S oe hr fun u s₂ E=>?_))
    obtain ⟨kp,as,Ha,ha,ht,hd⟩:=E
    refine ae (Ha) fun ru zu=>?_
    try clear Ha
    have hlen:=ra.length
    have hzl:=(sz_list.mp hz)
    refine wpAny_list_append_plain (hsz:=by rw [List.size_toArray,hlen]; unfold sizeLine; exact xO hzl) ⟨n,kp.k.get ea rfl⟩ fun h' hp hs=>?_
    refine ai (hp) fun n' ep=>?_
    try clear hp
    have:=K.putl kp ha hd hx he hmx hv ea hfp hZ hab hne hP hdx hs (vs':=vs++[u]) (by simpa using ep) ((ra.k kp.k).append (.cons ru .nil)) (fun z hz'=>by
     rcases List.mem_append.mp hz' with h | h
     ·exact hzl.2 z h
     ·rw [List.mem_singleton.mp h]; exact zu) (fun b hb=>by
     rcases List.mem_append.mp hb with h | h
     ·exact .inl h
     ·exact .inr (by simpa using h)) (fun h=>by simpa using h)
    refine ae (this) fun hfl HD=>?_
    try clear this
    refine af (HD) fun fp' K' F'=>?_
    try clear HD
    exact hN hfl _ vals fp' (kp.stp.same hs hZ fun o e=>by rw [kp.k.get ea rfl] at e; (have oc:=Option.some.inj e; clear e; subst oc); exact Stay.not_list) K' F'
  ·exact nB he
 ·cases ok
end
end Mine
namespace Mine
open PySem PyProof.Rows
section
variable {fns:Fns}{k:Nat}{C:Calls}{XP:String->Shared->Value->Shared->Prop}
variable {h0:Heap}{P Z:Addr->Prop}{A:Around}{env:Env}{σ:St}{vals:String->Option Value}{fp:String->List Addr}
theorem RA.erase {h:Heap}{vs:List Value}{xs:List PyData}{bs:List Addr}(i:Nat) (r:RA h vs xs bs):∃ bs',RA h (vs.eraseIdx i) (xs.eraseIdx i) bs'/\∀ b∈bs',b∈bs :=
 RA.ind (N:=fun vs xs bs=>∀ i,∃ bs',RA h (vs.eraseIdx i) (xs.eraseIdx i) bs'/\∀ b∈bs',b∈bs) (fun uu=>(ah ([]) RA.nil (fun uu h=>(nomatch h)))) (fun x r ih i=>by
  cases i with
  | zero=>exact (ah _ r (fun b hb=>List.mem_append_right _ hb))
  | succ i=>
   refine af (ih i) fun bs' q hs=>?_
   exact (ah _ (RA.cons x q) (fun b hb=>(List.mem_append.mp hb).elim (List.mem_append_left _) fun h=>List.mem_append_right _ (hs b h)))) r i
theorem wd (l:List Value) (i:Nat):l.toArray.eraseIdxIfInBounds i=(l.eraseIdx i).toArray:=by
 apply Array.toList_inj.mp
 unfold Array.eraseIdxIfInBounds
 split
 ·simp
 ·rename_i h
  simp at h
  simp [List.eraseIdx_of_length_le h]
set_option tactic.hygienic true in
theorem wS {x:String}{i:E}(Si:SimE fns k C XP i):cT fns k C (.pop x i):=by
 intro stmt h0 P Z A env σ vals fp s Q Er σ' fl ok K he hN hR
 replace ok:=A3 ok
 revert ok; refine fun Hg=>Or.elim Hg (fun Hb=>?_) (fun ok=>?_)
 ·clear Hg
  refine g7 (Hb) fun t pt mm ap vi pos spos Ip ok=>?_
  clear Hb
  subst Ip
  simp only [Bool.and_eq_true,beq_iff_eq] at ok
  refine ae (ok) fun G4 oi=>?_
  try clear ok
  refine ae (G4) fun G5 hb=>?_
  try clear G4
  refine ae (G5) fun G6 G7=>?_
  try clear G5
  refine ae (G6) fun G8 hl=>?_
  try clear G6
  subst G8
  subst G7
  refine fP hb fun h1 h2 h3=>?_
  simp only [lR] at he
  refine fJ he fun q hq he1=>?_
  clear he
  obtain ⟨ri,mi⟩:=q
  dsimp only at he1
  split at he1
  ·rename_i j vv mx hx0
   split at he1
   rotate_left
   ·exact nB he1
   rename_i xs hxx
   cases iP hxx
   have hx:=hx0
   split at he1
   ·exact nB he1
   ·rename_i hmx
    replace hN:=iL he1 hN
    clear he1 hR
    have hmx':mx≠.sh:=fun q=>hmx (.inl q)
    have hj0:0≤j:=Int.not_lt.mp fun q=>hmx (.inr (.inl q))
    have hjl:j<xs.length:=Int.not_le.mp fun q=>hmx (.inr (.inr q))
    refine tU (K.head hx hmx') fun a vs n bs hv ea ra hfp hz hZ hab hne hP hdx=>?_
    have hlen:=ra.length
    have hzl:=(sz_list.mp hz)
    refine wpAny_Expr_any (wpAny_Call_method (T := "list") (id := "list.pop") rfl (by rw [aJ oi]; rfl) (by simpa using hl) F.plainAttrs_list F.slot_list_pop F.type_list_pop ?_) (nr K.eok)
    refine cL K.eok.kind h2 (K.loc.var K.eok hv) ⟨(ah _ ea rfl),fun b hb=>?_,?_⟩
    ·cases hb; exact (ah _ ea rfl)
    have fin:wpAny (model prog w) A (spliced (backTo pos (starEach [vi] env))) (fun ws s₁=>wpAny (model prog w) A (call (.builtin "list.pop") ([.ref a]++ws)) (fun uu=>Q .next) Er s₁) Er s:=by
     refine ll _ oi (K.eval Si oi hq fun vj s₂ Ei=>?_)
     obtain ⟨kk,is,G9,_⟩:=Ei
     refine ae (G9) fun rj _=>?_
     try clear G9
     cases rj
     have hlt:j.toNat<vs.length:=by exact A7 hmx hlen
     refine call_meets F.slot_list_pop (ah _ (kk.k.get ea rfl) rfl) F.entry_list_pop (F.args_list_pop_2 _ _) (PySem.MeetsSeq.list_pop_at a vs.toArray n j _ j.toNat vs[j.toNat] ?_ ?_ ?_ ?_) ⟨kk.k.get ea rfl,?_⟩
     ·unfold Builtin.List.listFitsIndex
      simp
      exact Be hmx hzl
     ·unfold seqIndex?
      rw [List.size_toArray,hlen]
      simp only [if_neg (Int.not_lt.mpr hj0)]
      simp [hj0,hjl]
     ·simp [hlt]
     ·rw [List.size_toArray,hlen]; unfold sizeLine; exact xO hzl
     ·refine af ((ra.k kk.k).erase j.toNat) fun bs' q1 q2=>?_
      obtain ⟨n',hup⟩:∃ n',IsL (s₂.heap.update a (Obj.mapSeq fun xs=>xs.eraseIdxIfInBounds j.toNat)) a (vs.eraseIdx j.toNat).toArray n':=by
       have:=IsL.update (kk.k.get ea rfl) (fun xs:Array Value=>xs.eraseIdxIfInBounds j.toNat)
       rw [wd] at this
       exact ⟨_,this⟩
      have hs:Heap.SameBut a s₂.heap (s₂.heap.update a (Obj.mapSeq fun xs=>xs.eraseIdxIfInBounds j.toNat)):=Heap.SameBut.update ..
      have hab':a∉bs':=fun h=>hab (q2 a h)
      have rv:RV (s₂.heap.update a (Obj.mapSeq fun xs=>xs.eraseIdxIfInBounds j.toNat)) (.ref a) (.d (.list (xs.eraseIdx j.toNat))) (a::bs'):=by
       refine ⟨.list hup (q1.off (wr:=[a]) (fun b hb o e=>.inr ?_) fun b o hb e=>hs.extBut b o (fun q=>hb (by simp [q])) e),sz_list.mpr ⟨Nat.le_trans (List.length_eraseIdx_le ..) hzl.1,fun z hz=>hzl.2 z (List.mem_of_mem_eraseIdx hz)⟩⟩
       rw [List.mem_singleton.mp hb] at e ⊢
       rw [kk.k.get ea rfl] at e; (have oc:=Option.some.inj e; clear e; subst oc)
       exact ⟨by simp,hab'⟩
      have K':=(K.onK kk.k).write (m':=.top) hx hv (kk.k.get ea rfl) (by simp) Stay.not_list (fun uu q=>by cases q) hZ hne (hP a (.head _)) hs rv (fun b hb=>hP b (.tail _ (q2 b hb))) (fun uu=>hab') (fun h=>by cases h) fun y' q hy hq=>⟨fun ht b cs e hm=>by
       refine a7 (K.top y' q hq ht) fun b' cs' e' _ _ h4=>?_
       rw [e] at e'; cases e'
       exact h4 x _ (Ne.symm hy) hx (by rw [hfp]; exact .tail _ (q2 b hm)),fun hd b hb hm=>((K.deep y' q hq hd).1 b hb).2 x _ (Ne.symm hy) hx (by rw [hfp]; exact .tail _ (q2 b hm))⟩
      exact hN _ vals _ (kk.stp.same hs hZ fun o e=>by rw [kk.k.get ea rfl] at e; (have oc:=Option.some.inj e; clear e; subst oc); exact Stay.not_list) K' (.one (fun uu uu=>rfl) (fun z q h=>⟨q,h⟩) fun b hb hz=>(List.mem_cons.mp hb).elim (fun q=>absurd hz (q▸hZ)) fun hb=>(aB x _ hx (by rw [hfp]; exact .tail _ (q2 b hb))))
    rw [aJ oi] at fin ⊢
    exact Calls.callWith_builtin rfl (Calls.evalArgs_plain (wpAny_mono fin (fun vs s₁ h₁=>h₁) fun uu uu e=>e))
  ·exact nB he1
 ·cases ok
theorem SOK.dict {x:String}{v:V}{h:Heap}(K:SOK fns k h0 P Z A env h σ vals fp) (hx:σ x=some (v,.deep)) {a:Addr}(hfp:fp x=[a]) :
  ¬ Z a/\(∀ y q,y≠x->σ y=some q->a∉fp y)/\a≠env.locals/\(P a\/h0.get? a=none):=by
 refine ae (K.deep x _ hx rfl) fun h1 _=>?_
 refine ae (K.val x _ hx) fun uu Hr=>?_
 refine ao (Hr) fun u _ _ h2=>?_
 try clear Hr
 have hm:a∈fp x:=by rw [hfp]; exact .head _
 exact ⟨(h1 a hm).1,(h1 a hm).2,h2 a hm⟩
theorem pR (ks:List Int) (i:Int):stored (ks.map fun k=>(k,Value.bool true)) i (.bool true)=(if i∈ks then ks else ks++[i]).map fun k=>(k,.bool true):=by
 unfold stored
 by_cases hi:i∈ks
 ·rw [if_pos (by simpa using hi),if_pos hi,List.map_map]
  apply List.map_congr_left
  intro a _
  simp only [Function.comp]
  split<;>rfl
 ·rw [if_neg (by simpa using hi),if_neg hi,List.map_append]
  rfl
theorem pJ {h h':Heap}{a a':Addr}{o:Obj}{es:Array DictEntry}{ep:Nat}{xs:List (List Int×Addr×Value)}{t:List Int}{v:Value}(ho:h.get? a=some o) (hd:o.data = .dict es ep) (hs:Heap.SameBut a h h') (r:R h (.ref a') (aM t) []) (hx:∀ x∈xs,R h (.ref x.2.1) (aM x.1) []):∀ x∈storedH xs t a' v,R h' (.ref x.2.1) (aM x.1) []:=by
 have off:∀ {v:Value}{d:PyData},R h v d []->R h' v d []:=fun r=>r.off (wr:=[a]) (fun b hb o' e=>.inl fun vs n q=>by rw [List.mem_singleton.mp hb,ho] at e; (have oc:=Option.some.inj e; clear e; subst oc); rw [hd] at q; cases q) fun b o hb e=>hs.extBut b o (fun q=>hb (by simp [q])) e
 intro x hm
 rcases mem_storedH hm with ⟨y,hy,e1,e2⟩ | ⟨e1,e2⟩
 ·rw [e1,e2]; exact off (hx y hy)
 ·rw [e1,e2]; exact off r
theorem iT (xs:List (List Int×Addr×Value)) (t:List Int) (a:Addr) (v:Value):(storedH xs t a v).map (·.1)=if t∈xs.map (·.1) then xs.map (·.1) else xs.map (·.1)++[t]:=by
 unfold storedH
 rw [jg]
 by_cases hi:t∈xs.map (·.1)
 ·rw [if_pos (by simpa using hi),if_pos hi,List.map_map]
  apply List.map_congr_left
  intro y _
  simp only [Function.comp,putAt]
  split<;>rfl
 ·rw [if_neg (by simpa using hi),if_neg hi,List.map_append]
  rfl
theorem kX:∀ {xs:List PyData}{ns:List Int},aS xs=some ns->ns.length=xs.length
 | [],ns,h=>by simp [aS] at h; subst h; rfl
 | y::xs,ns,h=>by
  cases y<;>simp only [aS] at h<;>try (cases h)
  refine be h fun ms e Ha=>?_
  (clear h; subst Ha)
  rw [List.length_cons,List.length_cons,kX e]
theorem oY {x:PyData}{t:List Int}(h:dz x=some t) (z:sz x=true):t.length≤2^22:=by
 cases x<;>simp only [dz] at h<;>try (cases h)
 rw [kX h]
 exact (sz_tuple.mp z).1
set_option tactic.hygienic true in
theorem o4 {x:String}{e:E}(S:SimE fns k C XP e):cT fns k C (.setitem x e):=by
 intro stmt h0 P Z A env σ vals fp s Q Er σ' fl ok K he hN hR
 replace ok:=se ok
 revert ok; refine fun Hh=>Or.elim Hh (fun He=>?_) (fun ok=>?_)
 ·clear Hh
  refine g7 (He) fun t pt ix ps c1 c2 spos Iu ok=>?_
  clear He
  subst Iu
  simp only [Bool.and_eq_true,beq_iff_eq] at ok
  refine ae (ok) fun Hc oe=>?_
  try clear ok
  refine ae (Hc) fun Hd hb=>?_
  try clear Hc
  subst Hd
  refine fP hb fun h1 h2 h3=>?_
  simp only [cN] at he
  refine fJ he fun r hr he1=>?_
  clear he
  obtain ⟨ri,mi⟩:=r
  dsimp only at he1
  split at he1
  ·rename_i kd v hx
   refine wpAny_Assign_Subscript (wpAny_Constant_bool ?_)
   refine ae (K.val x _ hx) fun uu HD=>?_
   refine ao (HD) fun u hv hrv _=>?_
   try clear HD
   dsimp only at hrv
   refine cL K.eok.kind h2 (K.loc.var K.eok hv) (K.eval S oe hr fun vk s₂ E=>?_)
   obtain ⟨kk,is,Hf,_⟩:=E
   refine ae (Hf) fun rk zk=>?_
   try clear Hf
   have K₂:=K.onK kk.k
   have hrv₂:=hrv.k kk.k
   have fin:∀ {a:Addr}{o:Obj}{v':V}{h':Heap}{tk':Nat},u = .ref a->fp x=[a]->s₂.heap.get? a=some o->o.ExactDict->(∃ es ep,o.data = .dict es ep)->Heap.SameBut a s₂.heap h'->RV h' (.ref a) v' [a]->(Out.ok (upd σ x (v',.deep),Flw.next):Out (St×Flw)) = .ok (σ',fl)->Q .next {s₂ with heap:=h',toks:=tk' }:=fun {a} {o} {v'} {h'} {tk'} hu hfp ho hox hdd hs rv he=>by
    (clear hrv hrv₂; subst hu)
    refine cJ (K.dict hx hfp) fun d1 d2 d3 d4=>?_
    have hoc:o.cls≠.type "tuple" := fun q=>by
     rw [hox.1] at q; simp at q
    have hod:∀ v,o.data≠.cell v:=fun v q=>by
     refine bg (hdd) fun es ep e=>?_
     try clear hdd
     rw [e] at q; cases q
    have K':=K₂.write (m':=.deep) (bs':=[]) hx hv ho hoc (hdd.elim fun es hdd=>hdd.elim fun ep hdd=>Stay.not_dict hdd) hod d1 d2 ⟨d3,d4⟩ hs rv (fun uu h=>(nomatch h)) (fun uu h=>(nomatch h)) (fun uu=>⟨fun uu h=>(nomatch h),by simp⟩) fun y q hy hq=>⟨fun uu uu uu uu h=>(nomatch h),fun uu uu uu h=>(nomatch h)⟩
    exact iL he hN _ vals _ (kk.stp.same hs d1 fun o' e=>by rw [ho] at e; (have oc:=Option.some.inj e; clear e; subst oc); exact hdd.elim fun es hdd=>hdd.elim fun ep hdd=>Stay.not_dict hdd) K' (.one (fun uu uu=>rfl) (fun z q h=>⟨q,h⟩) fun b hb hz=>absurd hz (List.mem_singleton.mp hb▸d1))
   cases v with
   | dic0=>
    refine jr (hrv₂) fun a Hk hfp hsm hdI hdT=>?_
    try clear hrv₂
    (clear hrv hv; subst Hk)
    simp only [fI] at he1
    split at he1
    ·rename_i i hi
     (have oc:=cu hi; (clear hr zk; subst oc))
     refine R.isInt_k rk fun ti oqi _=>?_
     (clear rk; subst oqi)
     have hd':=hdI
     refine dh (hd') fun o es ep ho hox hdd _=>?_
     try clear hd'
     refine wpAny_setItem_pairs (intKind_is prog w _ _) hdI (fun h' hm' hs=>fin (v':=.dicI [_]) rfl hfp ho hox (bD _ _ hdd) hs (br a rfl rfl hsm ?_) he1) (by simp [sizeLine])
     simpa [stored] using hm'
    ·split at he1
     ·rename_i t ht
      refine af (eH rk ht) fun a' Hi hk=>?_
      subst Hi
      have hd':=hdT
      refine dh (hd') fun o es ep ho hox hdd _=>?_
      try clear hd'
      refine wpAny_setItem_heap (tupleKind_room_in1 (by exact rm1 K.room.2.2)) hk hdT (fun h' hm' hs=>fin (v':=.dicT [_]) rfl hfp ho hox (bD _ _ hdd) hs (fS a _ rfl rfl hsm hm' ?_ ?_ ?_) he1) (by simp [sizeLine])
      ·rw [iT]; simp
      ·intro z hz
       rw [List.mem_singleton.mp hz]
       exact oY ht zk
      ·exact pJ ho hdd hs (qP rk ht) fun x hx=>nomatch hx
     ·exact nB he1
   | dicI ks=>
    refine cw (hrv₂) fun a Hs hfp hsm hdI=>?_
    try clear hrv₂
    (clear hrv hv; subst Hs)
    simp only [fI] at he1
    split at he1
    ·rename_i i hi
     split at he1
     ·rename_i hlen
      (have oc:=cu hi; (clear hr zk; subst oc))
      refine R.isInt_k rk fun ti oqi _=>?_
      (clear rk; subst oqi)
      have hd':=hdI
      refine dh (hd') fun o es ep ho hox hdd _=>?_
      try clear hd'
      refine wpAny_setItem_pairs (intKind_is prog w _ _) hdI (fun h' hm' hs=>fin (v':=.dicI _) rfl hfp ho hox (bD _ _ hdd) hs (br a rfl rfl hsm ?_) he1) (by rw [List.length_map]; unfold lim at hlen; unfold sizeLine; exact xf hlen)
      rw [pR] at hm'
      exact hm'
     ·exact nB he1
    ·exact nB he1
   | dicT ks=>
    refine k9 (hrv₂) fun a xs Ht hfp hsm hdT Hu hks htu=>?_
    try clear hrv₂
    (clear hrv hv; subst Ht)
    subst Hu
    simp only [fI] at he1
    split at he1
    ·rename_i t ht
     split at he1
     ·rename_i hlen
      refine af (eH rk ht) fun a' Hz hk=>?_
      subst Hz
      have hd':=hdT
      refine dh (hd') fun o es ep ho hox hdd _=>?_
      try clear hd'
      refine wpAny_setItem_heap (tupleKind_room_in1 (by exact rm1 K.room.2.2)) hk hdT (fun h' hm' hs=>fin (v':=.dicT _) rfl hfp ho hox (bD _ _ hdd) hs (fS a _ rfl rfl hsm hm' ?_ ?_ ?_) he1) (by rw [List.length_map] at hlen; unfold lim at hlen; unfold sizeLine; exact xf hlen)
      ·rw [iT]
      ·intro z hz
       split at hz
       ·exact hks z hz
       ·rcases List.mem_append.mp hz with h | h
        ·exact hks z h
        ·rw [List.mem_singleton.mp h]; exact oY ht zk
      ·exact pJ ho hdd hs (qP rk ht) htu
     ·exact nB he1
    ·exact nB he1
   | _=>simp only [fI] at he1; exact nB he1
  ·exact nB he1
 ·cases ok
def AtV (h:Heap):List Int->Value->Value->Prop
 | [],v,u=>u=v
 | k::p,v,u=>∃ v1,ItemV h v k v1/\AtV h p v1 u
theorem AtV.snoc {h:Heap}{k:Int}{u u1:Value}(i:ItemV h u k u1):∀ {p:List Int}{v:Value},AtV h p v u->AtV h (p++[k]) v u1
 | [],v,a=>(ah u1 (a▸i) rfl)
 | j::p,v,a=>af (a) fun v1 b a=>(ah v1 b (AtV.snoc i a))
theorem ItemV.keep {h h':Heap}{v u:Value}{k:Int}(i:ItemV h v k u) (kp:K h h'):ItemV h' v k u:=Bl (i) fun a T vs n j e1 e2 e3=>⟨a,T,vs,n,j,e1,kp.exact e2 (by simp) (by simp),e3⟩
theorem AtV.keep {h h':Heap}{u:Value}(kp:K h h'):∀ {p:List Int}{v:Value},AtV h p v u->AtV h' p v u
 | [],_,a=>a
 | _::_,_,a=>af (a) fun v1 b a=>(ah v1 (b.keep kp) (AtV.keep kp a))
theorem qN (S:∀ i,SimE fns k C XP i) {s:Shared}{x:String}{d:PyData}{v0:Value}{Er:Value->Shared->Prop}(K:SOK fns k h0 P Z A env s.heap σ vals fp) (hv:vals x=some v0) (hr:R s.heap v0 d (fp x)) (hz:sz d=true) :
  ∀ {is:Es}{exx:Expr}{p:List Int×PyData},okP env.scope.names x is exx=true->evP C d is σ = .ok p->∀ {Q:Value->Shared->Prop},(∀ u s' bs,Kp s s'->AtV s'.heap p.1 v0 u->R s'.heap u p.2 bs->sz p.2=true->Q u s')->wpAny (model prog w) A (eval exx env) Q Er s
 | .nil,exx,p,ok,he,Q,hQ=>by
  refine aj ok fun n e1 h=>?_
  refine bX h fun h1 h2=>?_
  rw [aX e1,beq_iff_eq.mp h1]
  (have oc:=Out.ok.inj he; clear he; subst oc)
  exact cL K.eok.kind (bnd h2).2.1 (K.loc.var K.eok hv) (hQ v0 s (fp x) (.refl s) rfl hr hz)
 | .cons i r,exx,p,ok,he,Q,hQ=>by
  refine aj ok fun q e1 h=>?_
  refine bX h fun o1 o2=>?_
  rw [cK e1]
  refine Out.bind_k he fun p1 hp1 he=>?_
  refine Out.bind_k he fun r1 hr1 he=>?_
  refine aU he fun k1 hk1 he=>?_
  refine aU he fun k2 hk2 he=>?_
  refine aU he fun e2 he2 he=>?_
  (have oc:=Out.ok.inj he; clear he; subst oc)
  refine Subscript_ (qN S K hv hr hz o1 hp1 fun u s₁ bs kp at1 ru zu=>?_)
  refine (K.onK kp.k).eval (S i) o2 hr1 fun vb s₂ E=>?_
  obtain ⟨k2',cs,rb,_⟩:=E
  rw [bB hk1,cu hk2] at rb
  refine rb.1.isInt_k fun t Hx _=>?_
  subst Hx
  exact jU (dm o2) he2 (ru.k k2'.k) zu fun v ds it rv z hd=>hQ v s₂ ds (kp.trans k2') (.snoc it (at1.keep k2'.k)) rv z
theorem RA.setAt {h:Heap}{vs:List Value}{xs:List PyData}{bs:List Addr}(r:RA h vs xs bs):∀ (j:Nat) {v:Value}{e:PyData},vs[j]? = some v->xs[j]? = some e->∃ b1 c b2,bs=b1++(c++b2)/\R h v e c /\
  ∀ h' e',(∀ u d cs,(∀ b∈cs,b∈b1\/b∈b2)->R h u d cs->R h' u d cs)->R h' v e' c->RA h' vs (xs.set j e') bs:=by
 refine RA.ind (N:=fun vs xs bs=>∀ (j:Nat) {v:Value}{e:PyData},vs[j]? = some v->xs[j]? = some e->∃ b1 c b2,bs=b1++(c++b2)/\R h v e c /\
  ∀ h' e',(∀ u d cs,(∀ b∈cs,b∈b1\/b∈b2)->R h u d cs->R h' u d cs)->R h' v e' c->RA h' vs (xs.set j e') bs) (fun j v e hv=>by cases hv) (fun {v vs d ds as bs} x r ih j u e hv he=>?_) r
 have rest:∀ (B:Addr->Prop) (h':Heap) {vs:List Value}{ds:List PyData}{bs:List Addr},RA h vs ds bs->(∀ b∈bs,B b)->(∀ u d cs,(∀ b∈cs,B b)->R h u d cs->R h' u d cs)->RA h' vs ds bs:=fun B h' _ _ _ r=>RA.ind (N:=fun vs ds bs=>(∀ b∈bs,B b)->(∀ u d cs,(∀ b∈cs,B b)->R h u d cs->R h' u d cs)->RA h' vs ds bs) (fun uu uu=>.nil)
  (fun x _ i hb k=>.cons (k _ _ _ (fun b q=>hb b (List.mem_append_left _ q)) x) (i (fun b q=>hb b (List.mem_append_right _ q)) k)) r
 cases j with
 | zero=>
  (have oc:=Option.some.inj hv; clear hv; subst oc); (have oc:=Option.some.inj he; clear he; subst oc)
  exact (cy ([]) as bs rfl x (fun h' e' k q=>.cons q (rest (fun b=>b∈[]\/b∈bs) h' r (fun b hb=>.inr hb) k)))
 | succ j=>
  refine aI (ih j hv he) fun b1 c b2 HC q1 q2=>?_
  (clear ih r; subst HC)
  exact (cy (as++b1) c b2 (by rw [List.append_assoc]) q1 (fun h' e' k q=>.cons (k _ _ _ (fun b hb=>.inl (List.mem_append_left _ hb)) x) (q2 h' e' (fun u d cs hc=>k u d cs fun b hb=>(hc b hb).imp (List.mem_append_right _) id) q)))
theorem R.modP {h:Heap}{y:PyData}{u:Value}:∀ (p:List Int) {v:Value}{d d':PyData}{as:List Addr},R h v d as->as.Nodup->modP y p d=some d'->AtV h p v u ->
  ∃ a vs n,u = .ref a/\h.get? a=some ⟨.type "list", Option.none,.seq vs.toArray n,#[]⟩/\a∈as/\vs.length<lim /\
   ∀ (h':Heap) (w:Value) (n':Nat),KG (fun b=>b≠a) h h'->h'.get? a=some ⟨.type "list", Option.none,.seq (vs++[w]).toArray n',#[]⟩->R h' w y []->R h' v d' as
 | [],v,d,d',as,r,nd,hm,at'=>by
  replace hm:=Option.bind_eq_some_iff.mp hm
  revert hm; intro Jh
  refine af (Jh) fun xs hx hm=>?_
  try clear Jh
  cases bC hx
  by_cases hl:xs.length<lim
  ·rw [if_pos hl] at hm
   (have oc:=Option.some.inj hm; clear hm; subst oc)
   refine r.isList_k fun a vs n bs HB ea ra HL=>?_
   (clear r; subst HB)
   subst HL
   subst at'
   refine (sr a vs n rfl ea (.head _) (by rw [ra.length]; exact hl) (fun h' w n' kp ea' rw'=>?_))
   have q:RA h' vs xs bs:=ra.onG kp fun b hb q=>(List.nodup_cons.mp nd).1 (q▸hb)
   have:=R.list ea' (q.append (.cons rw' .nil))
   rwa [List.append_nil,List.append_nil] at this
  ·rw [if_neg hl] at hm; exact nN hm
 | k::p,v,d,d',as,r,nd,hm,at'=>by
  revert at'; intro Jv
  refine af (Jv) fun v1 HK at'=>?_
  try clear Jv
  refine rN (HK) fun a0 T vs0 n0 j0 H8 ea0 hj0 hv0=>?_
  try clear HK
  subst H8
  unfold Mine.modP at hm
  cases hx:asL d with
  | some xs=>
   rw [hx] at hm
   cases bC hx
   replace hm:=Option.bind_eq_some_iff.mp hm
   revert hm; intro Jq
   refine af (Jq) fun j hj hm=>?_
   try clear Jq
   replace hm:=Option.bind_eq_some_iff.mp hm
   revert hm; intro JO
   refine af (JO) fun e he hm=>?_
   try clear JO
   replace hm:=Option.map_eq_some_iff.mp hm
   refine af (hm) fun e' he' H6=>?_
   try clear hm
   subst H6
   refine r.isList_k fun a1 vs n bs e1 ea ra Ie=>?_
   (clear r; subst Ie)
   cases e1
   rw [ea] at ea0
   have hvs:vs=vs0:=by cases ea0; rfl
   subst hvs
   rw [ra.length] at hj0
   cases hj.symm.trans hj0
   refine aI (ra.setAt j0 hv0 he) fun b1 c b2 HY q1 q2=>?_
   subst HY
   have nd2:=(List.nodup_cons.mp nd).2
   refine aD (List.nodup_append.mp nd2) fun n1 n2 n3=>?_
   refine aD (List.nodup_append.mp n2) fun n4 n5 n6=>?_
   refine nv (R.modP p q1 n4 he' at') fun a ws m Ig eb hac hl hu=>?_
   (clear at'; subst Ig)
   refine (sr a ws m rfl eb (.tail _ (List.mem_append_right _ (List.mem_append_left _ hac))) hl (fun h' w n' kp ea' rw'=>?_))
   refine .list (kp.hard (.inl fun q=>(List.nodup_cons.mp nd).1 (q▸List.mem_append_right _ (List.mem_append_left _ hac))) ea rfl) (q2 h' e' (fun u d cs hc ru=>ru.onG kp fun b hb q=>?_) (hu h' w n' kp ea' rw'))
   subst q
   exact (hc b hb).elim (fun h1=>n3 b h1 b (List.mem_append_left _ hac) rfl) fun h1=>n6 b hac b h1 rfl
  | none=>
   rw [hx] at hm
   replace hm:=Option.bind_eq_some_iff.mp hm
   revert hm; intro JM
   refine af (JM) fun xs ht hm=>?_
   try clear JM
   cases gG ht
   replace hm:=Option.bind_eq_some_iff.mp hm
   revert hm; intro Ji
   refine af (Ji) fun j hj hm=>?_
   try clear Ji
   replace hm:=Option.bind_eq_some_iff.mp hm
   revert hm; intro Jx
   refine af (Jx) fun e he hm=>?_
   try clear Jx
   replace hm:=Option.map_eq_some_iff.mp hm
   refine af (hm) fun e' he' Ii=>?_
   try clear hm
   subst Ii
   refine aI (r.isTup) fun a1 vs n e1 ea ra=>?_
   cases e1
   rw [ea] at ea0
   have hvs:vs=vs0:=by cases ea0; rfl
   subst hvs
   rw [ra.length] at hj0
   cases hj.symm.trans hj0
   refine aI (ra.setAt j0 hv0 he) fun b1 c b2 HZ q1 q2=>?_
   (clear r ra; subst HZ)
   refine aD (List.nodup_append.mp nd) fun n1 n2 n3=>?_
   refine aD (List.nodup_append.mp n2) fun n4 n5 n6=>?_
   refine nv (R.modP p q1 n4 he' at') fun a ws m Iq eb hac hl hu=>?_
   (clear at'; subst Iq)
   refine (sr a ws m rfl eb (List.mem_append_right _ (List.mem_append_left _ hac)) hl (fun h' w n' kp ea' rw'=>?_))
   refine .tuple (kp.stay ea (.inr (aE rfl (bD _ _ rfl)))) (q2 h' e' (fun u d cs hc ru=>ru.onG kp fun b hb q=>?_) (hu h' w n' kp ea' rw'))
   subst q
   exact (hc b hb).elim (fun h1=>n3 b h1 b (List.mem_append_left _ hac) rfl) fun h1=>n6 b hac b h1 rfl
theorem jn {y:PyData}(hy:sz y=true):∀ (p:List Int) {d d':PyData},modP y p d=some d'->sz d=true->sz d' = true
 | [],d,d',hm,hd=>by
  replace hm:=Option.bind_eq_some_iff.mp hm
  revert hm; intro JE
  refine af (JE) fun xs hx hm=>?_
  try clear JE
  cases bC hx
  by_cases hl:xs.length<lim
  ·rw [if_pos hl] at hm
   (have oc:=Option.some.inj hm; clear hm; subst oc)
   have h:=sz_list.mp hd
   unfold lim at hl
   exact sz_list.mpr ⟨by rw [List.length_append,List.length_singleton]; exact Dx hl,fun x hx=>(List.mem_append.mp hx).elim (h.2 x) fun q=>List.mem_singleton.mp q▸hy⟩
  ·rw [if_neg hl] at hm; exact nN hm
 | k::p,d,d',hm,hd=>by
  unfold modP at hm
  cases hx:asL d with
  | some xs=>
   rw [hx] at hm
   cases bC hx
   replace hm:=Option.bind_eq_some_iff.mp hm
   revert hm; intro Jz
   refine af (Jz) fun j hj hm=>?_
   try clear Jz
   replace hm:=Option.bind_eq_some_iff.mp hm
   revert hm; intro JK
   refine af (JK) fun e he hm=>?_
   try clear JK
   replace hm:=Option.map_eq_some_iff.mp hm
   refine af (hm) fun e' he' HO=>?_
   try clear hm
   subst HO
   have h:=sz_list.mp hd
   exact sz_list.mpr ⟨by rw [List.length_set]; exact h.1,fun x hx=>(List.mem_or_eq_of_mem_set hx).elim (h.2 x) fun q=>q▸jn hy p he' (h.2 e (List.mem_of_getElem? he))⟩
  | none=>
   rw [hx] at hm
   replace hm:=Option.bind_eq_some_iff.mp hm
   revert hm; intro Jj
   refine af (Jj) fun xs ht hm=>?_
   try clear Jj
   cases gG ht
   replace hm:=Option.bind_eq_some_iff.mp hm
   revert hm; intro Jt
   refine af (Jt) fun j hj hm=>?_
   try clear Jt
   replace hm:=Option.bind_eq_some_iff.mp hm
   revert hm; intro Jo
   refine af (Jo) fun e he hm=>?_
   try clear Jo
   replace hm:=Option.map_eq_some_iff.mp hm
   refine af (hm) fun e' he' HT=>?_
   try clear hm
   subst HT
   have h:=sz_tuple.mp hd
   exact sz_tuple.mpr ⟨by rw [List.length_set]; exact h.1,fun x hx=>(List.mem_or_eq_of_mem_set hx).elim (h.2 x) fun q=>q▸jn hy p he' (h.2 e (List.mem_of_getElem? he))⟩
theorem SOK.inner {h h':Heap}{x:String}{V0 V1:V}{v0:Value}{a:Addr}{o:Obj}(K:SOK fns k h0 P Z A env h σ vals fp) (hx:σ x=some (V0,.deep)) (hv:vals x=some v0) (ha:a∈fp x) (ho:h.get? a=some o) (hoc:o.cls≠.type "tuple") (hst:¬ Stay o) (hod:∀ v,o.data≠.cell v)
  (hs:Heap.SameBut a h h') (rv:RV h' v0 V1 (fp x)):SOK fns k h0 P Z A env h' (upd σ x (V1,.deep)) vals fp:=by
 refine ae (K.deep x _ hx rfl) fun hd1 hd2=>?_
 have hnz:=(hd1 a ha).1
 have kz:∀ b o,Z b->h.get? b=some o->h'.get? b=some o:=fun b o hb e=>hs.extBut b o (fun q=>hnz (q▸hb)) e
 have back:∀ y q,y≠x->upd σ x (V1,.deep) y=some q->σ y=some q:=fun y q hy hq=>(if_neg hy).symm.trans hq
 have here:∀ q,upd σ x (V1,.deep) x=some q->q=(V1,.deep):=fun q hq=>(Option.some.inj ((if_pos rfl).symm.trans hq)).symm
 refine ⟨K.room,K.eok,K.ge,K.z0,Mine.K.same K.kp0 hs (K.h0n hnz) (fun o' e=>by rw [ho] at e; (have oc:=Option.some.inj e; clear e; subst oc); exact hst),K.code,K.out,fun b hb=>ai (K.zdom b hb) fun o e=>⟨o,kz b o hb e⟩,K.loc.offA ho hod ((K.val x _ hx).2.choose_spec.2.2 a ha).1 hs,fun y q hq=>?_,fun y q hq htp=>?_,fun y q hq hdp=>?_⟩
 ·by_cases hy:y=x
  ·(clear back ha hd1 hd2; subst hy)
   cases here q hq
   refine ae (K.val y _ hx) fun h1 HW=>?_
   refine ao (HW) fun u h2 h3 h4=>?_
   try clear HW
   exact (aE h1 (aC v0 hv rv h4))
  ·refine ae (K.val y q (back y q hy hq)) fun h1 Ih=>?_
   refine ao (Ih) fun u h2 h3 h4=>?_
   try clear Ih
   exact (aE h1 (aC u h2 (h3.offA ho hoc ((hd1 a ha).2 y q hy (back y q hy hq)) hs) h4))
 ·by_cases hy:y=x
  ·(clear back ha hd1 hd2 hv hx rv; subst hy)
   cases here q hq
   cases htp
  ·refine a7 (K.top y q (back y q hy hq) htp) fun b cs h1 h2 h3 h4=>?_
   refine (bl b cs h1 h2 h3 (fun z r hz hr=>?_))
   by_cases hzx:z=x
   ·(clear back ha hd1 hd2 here hq hr hv hy rv; subst hzx); exact h4 z _ hz hx
   ·exact h4 z r hz (back z r hzx hr)
 ·by_cases hy:y=x
  ·(clear ha here hq hv hx rv; subst hy)
   refine ⟨fun b hb=>⟨(hd1 b hb).1,fun z r hz hr=>(hd1 b hb).2 z r hz (back z r hz hr)⟩,hd2⟩
  ·refine ae (K.deep y q (back y q hy hq) hdp) fun h1 h2=>?_
   refine ⟨fun b hb=>⟨(h1 b hb).1,fun z r hz hr=>?_⟩,h2⟩
   by_cases hzx:z=x
   ·(clear back ha hd1 hd2 here hq hr hv hy rv; subst hzx); exact (h1 b hb).2 z _ hz hx
   ·exact (h1 b hb).2 z r hz (back z r hzx hr)
theorem nl {x:String}{is:Es}{e:E}(Si:∀ i,SimE fns k C XP i) (S:SimE fns k C XP e):cT fns k C (.appendAt x is e):=by
 intro stmt h0 P Z A env σ vals fp s Q Er σ' fl ok K he hN hR
 replace ok:=qd ok
 rcases ok with ⟨yy,ii,pp,mm,ap,v,pos,sp,rfl,ok⟩ | ok
 rotate_left
 ·cases ok
 simp only [Bool.and_eq_true,beq_iff_eq] at ok
 refine ae (ok) fun HA oe=>?_
 try clear ok
 refine ae (HA) fun HI op=>?_
 try clear HA
 refine ae (HI) fun HJ hl=>?_
 try clear HI
 subst HJ
 cases hx:σ x with
 | none=>simp only [dS,hx] at he; exact nB he
 | some q=>
  obtain ⟨vx,mx⟩:=q
  simp only [dS,hx] at he
  cases mx with
  | sh=>exact nB he
  | top=>exact nB he
  | deep=>
   refine aU he fun d hd he=>?_
   refine fJ he fun p1 hp1 he=>?_
   refine fJ he fun r hr he=>?_
   refine aU he fun y hy he=>?_
   by_cases hsy:sx y=true
   ·rw [if_pos hsy] at he
    refine aU he fun d' hd' he=>?_
    cases he
    cases bB hd
    refine ae (K.val x _ hx) fun uu HX=>?_
    refine ao (HX) fun v0 hv0 HG hb=>?_
    try clear HX
    refine ae (HG) fun hr0 hz0=>?_
    try clear HG
    refine ae (K.deep x _ hx rfl) fun hd1 hd2=>?_
    refine wpAny_Expr_any (wpAny_Call_append rfl (by rw [aJ oe]; rfl) (by simpa using hl) (by rw [aJ oe]; rfl) ?_) (nr K.eok)
    refine qN Si K hv0 hr0 hz0 op hp1 fun u s₁ bs kp at1 ru zu=>?_
    refine nv (R.modP p1.1 (hr0.k kp.k) hd2 hd' at1) fun a vs n HR ea ham hlen hup=>?_
    (clear at1 ru; subst HR)
    refine (aO a vs.toArray rfl (bl _ n ea rfl rfl rfl) ((K.onK kp.k).eval S oe hr fun u2 s₂ E=>?_))
    obtain ⟨kp2,as2,ru2,_⟩:=E
    rw [bB hy] at ru2
    revert ru2; intro IQ
    refine ae (IQ) fun ru2 zu2=>?_
    try clear IQ
    cases ru2.sx_nil hsy
    unfold lim at hlen
    refine wpAny_list_append_plain (hsz:=by rw [List.size_toArray]; unfold sizeLine; exact xe hlen) ⟨n,kp2.k.get ea rfl⟩ fun h' hp hs=>?_
    refine ai (hp) fun n' ep=>?_
    try clear hp
    have ea2:=kp2.k.get ea rfl
    have ru3:R h' u2 y []:=ru2.off (wr:=[a]) (fun b hb o eo=>.inr (by
     rw [List.mem_singleton.mp hb] at eo ⊢
     rw [ea2] at eo; (have oc:=Option.some.inj eo; clear eo; subst oc)
     exact ⟨by simp,fun hm=>by cases hm⟩)) fun b o hb eo=>hs.extBut b o (fun q=>hb (by simp [q])) eo
    have rn:=hup h' u2 n' ((kp2.k.mono fun uu uu=>trivial).trans (KG.same hs (fun q=>q rfl) fun o eo=>by rw [ea2] at eo; (have oc:=Option.some.inj eo; clear eo; subst oc); exact Stay.not_list)) (by simpa using ep) ru3
    have K':=((K.onK kp.k).onK kp2.k).inner hx hv0 ham ea2 (by simp) Stay.not_list (fun uu q=>by cases q) hs (V1:=.d d') ⟨rn,jn zu2 p1.1 hd' hz0⟩
    exact hN rfl _ vals fp ((kp.trans kp2).stp.same hs (hd1 a ham).1 fun o eo=>by rw [ea2] at eo; (have oc:=Option.some.inj eo; clear eo; subst oc); exact Stay.not_list) K' (.id fun z q h=>by
     by_cases ez:z=x
     ·exact ⟨_,ez▸hx⟩
     ·exact ⟨q,(if_neg ez).symm.trans h⟩)
   ·rw [if_neg hsy] at he; exact nB he
end
end Mine
namespace Mine
open PySem PyProof.Rows
section
variable {fns:Fns}{k:Nat}{C:Calls}{XP:String->Shared->Value->Shared->Prop}
variable {h0:Heap}{P Z:Addr->Prop}{A:Around}{env:Env}{σ:St}{vals:String->Option Value}{fp:String->List Addr}
theorem yF (hC:b9 fns k C XP) {g:List V->Out (V×Mode)}(hR:C "Rule" = some g):fns.init.isSome=true:=by
 refine af ((hC "Rule" g hR).2.2.2 (by decide)) fun fa hfa _=>?_
 unfold adr at hfa
 rw [if_pos rfl] at hfa
 refine be hfa fun uu q _=>?_
 rw [q]; rfl
theorem uv {s:Shared}{x:String}{d:PyData}{vf:Value}{y:Addr}{bs:List Addr}{mA:Str->Option Value}{Er:Value->Shared->Prop}{Q:Value->Shared->Prop}{exx:Expr}(hi:fns.init.isSome=true) (K:SOK fns k h0 P Z A env s.heap σ vals fp) (hv:vals x=some (.ref y))
  (I:s.heap.Inst y SF.rule mA) (f2:mA "full" = some vf) (rd:R s.heap vf d bs) (ok:lg env.scope.names x exx=true) (hQ:∀ s',Kp s s'->Q vf s'):wpAny (model prog w) A (eval exx env) Q Er s:=by
 refine av (rZ ok) fun p pa G4 hb=>?_
 (clear ok; subst G4)
 refine aA ((K.ge.k K.kp0).cls (.inr hi)) fun N mN G7 quiet _=>?_
 obtain ⟨G8,hn⟩:=G7
 refine eB (G8) fun nm q bs' sn sub col dd k0 k1 k2 k3 k5 hC=>?_
 have ga:=quiet "__getattribute__" (by simp)
 have hf:handedOut vf=pure vf:=by cases rd<;>rfl
 rw [arm_eval_Attribute]
 refine wpAny_bind (cL K.eok.kind (bnd hb).2.1 (K.loc.var K.eok hv) ?_)
 obtain ⟨hh,g,dr,tk,os⟩:=s
 exact wpAny_bind (wpAny_standAt (wpAny_bind (wpAny_holding (load_attr hC hn ga (quiet "full" (by simp)) jb I f2 hf (wpAny_bind (wpAny_letTemporaryGo (wpAny_pure (hQ _ (.toks ⟨hh,g,dr,tk,os⟩ _)))))))))
theorem oH (S:∀ i,SimE fns k C XP i) {s:Shared}{x:String}{d:PyData}{v0:Value}{bs0:List Addr}{Er:Value->Shared->Prop}(K:SOK fns k h0 P Z A env s.heap σ vals fp) (hr:R s.heap v0 d bs0) (hz:sz d=true)
  (base:∀ {exx:Expr}{Q:Value->Shared->Prop},lg env.scope.names x exx=true->(∀ s',Kp s s'->Q v0 s')->wpAny (model prog w) A (eval exx env) Q Er s) :
  ∀ {is:Es}{exx:Expr}{p:List Int×PyData},sb env.scope.names x is exx=true->evP C d is σ = .ok p->∀ {Q:Value->Shared->Prop},(∀ u s' bs,Kp s s'->AtV s'.heap p.1 v0 u->R s'.heap u p.2 bs->sz p.2=true->Q u s')->wpAny (model prog w) A (eval exx env) Q Er s
 | .nil,exx,p,ok,he,Q,hQ=>by
  (have oc:=Out.ok.inj he; clear he; subst oc)
  exact base ok fun s' kp=>hQ v0 s' bs0 kp rfl (hr.k kp.k) hz
 | .cons i r,exx,p,ok,he,Q,hQ=>by
  refine aj ok fun q e1 h=>?_
  refine bX h fun o1 o2=>?_
  rw [cK e1]
  refine Out.bind_k he fun p1 hp1 he=>?_
  refine Out.bind_k he fun r1 hr1 he=>?_
  refine aU he fun k1 hk1 he=>?_
  refine aU he fun k2 hk2 he=>?_
  refine aU he fun e2 he2 he=>?_
  (have oc:=Out.ok.inj he; clear he; subst oc)
  refine Subscript_ (oH S K hr hz base o1 hp1 fun u s₁ bs kp at1 ru zu=>?_)
  refine (K.onK kp.k).eval (S i) o2 hr1 fun vb s₂ E=>?_
  obtain ⟨k2',cs,rb,_⟩:=E
  rw [bB hk1,cu hk2] at rb
  refine rb.1.isInt_k fun t Hx _=>?_
  subst Hx
  exact jU (dm o2) he2 (ru.k k2'.k) zu fun v ds it rv z hd=>hQ v s₂ ds (kp.trans k2') (.snoc it (at1.keep k2'.k)) rv z
theorem t0 {x:String}{is:Es}{e:E}(hC:b9 fns k C XP) (Si:∀ i,SimE fns k C XP i) (S:SimE fns k C XP e):cT fns k C (.appF x is e):=by
 intro stmt h0 P Z A env σ vals fp s Q Er σ' fl ok K he hN hR
 replace ok:=yS ok
 refine A1 (ok.resolve_right id) fun yy ii pp mm ap v pos sp J1 ok1=>?_
 clear ok
 subst J1
 revert ok1; intro ok
 simp only [Bool.and_eq_true,beq_iff_eq] at ok
 refine ae (ok) fun HA oe=>?_
 clear ok
 refine ae (HA) fun HI op=>?_
 clear HA
 refine ae (HI) fun HJ hl=>?_
 clear HI
 subst HJ
 cases hx:σ x with
 | none=>simp only [gX,hx] at he; exact nB he
 | some q=>
  obtain ⟨vx,mx⟩:=q
  simp only [gX,hx] at he
  cases mx with
  | sh=>exact nB he
  | top=>exact nB he
  | deep=>
   refine aU he fun g hg he=>?_
   refine aU he fun q hq he=>?_
   refine fJ he fun p1 hp1 he=>?_
   refine fJ he fun r hr he=>?_
   refine aU he fun y hy he=>?_
   by_cases hsy:sx y=true
   ·rw [if_pos hsy] at he
    refine aU he fun d' hd' he=>?_
    replace hN:=iL he hN
    obtain ⟨c,d,n⟩:=q
    cases kE hq
    dsimp only at hp1 hd' hN
    refine ae (K.val x _ hx) fun uu HX=>?_
    refine ao (HX) fun v0 hv0 HG hb=>?_
    refine ae (K.deep x _ hx rfl) fun hd1 hd2=>?_
    refine gU (HG) fun X D o vf bs t u mA h1 h2 h3 h4 h5 h6 h7 h8 h9 h10 h11 h12 h13 h14=>?_
    (clear HG; subst h1)
    have nd:(X::D::bs).Nodup:=h2▸hd2
    have nd1:=List.nodup_cons.mp nd
    have nd2:=List.nodup_cons.mp nd1.2
    have I:s.heap.Inst X SF.rule mA:=(br o h3 h4 h5 (.inr (aC D h6 h7 h8)))
    refine wpAny_Expr_any (wpAny_Call_append rfl (by rw [aJ oe]; rfl) (by simpa using hl) (by rw [aJ oe]; rfl) ?_) (nr K.eok)
    refine oH Si K h13 h14 (fun ok' hq'=>uv (yF hC hg) K hv0 I h10 h13 ok' hq') op hp1 fun u2 s₁ bs1 kp at1 ru zu=>?_
    refine nv (R.modP p1.1 (h13.k kp.k) nd2.2 hd' at1) fun a vs m HR ea ham hlen hup=>?_
    (clear at1 ru; subst HR)
    refine (aO a vs.toArray rfl (bl _ m ea rfl rfl rfl) ((K.onK kp.k).eval S oe hr fun u2 s₂ E=>?_))
    obtain ⟨kp2,as2,ru2,_⟩:=E
    rw [bB hy] at ru2
    revert ru2; intro IQ
    refine ae (IQ) fun ru2 zu2=>?_
    clear IQ
    cases ru2.sx_nil hsy
    unfold lim at hlen
    refine wpAny_list_append_plain (hsz:=by rw [List.size_toArray]; unfold sizeLine; exact xe hlen) ⟨m,kp2.k.get ea rfl⟩ fun h' hp hs=>?_
    refine ai (hp) fun n' ep=>?_
    have ea2:=kp2.k.get ea rfl
    have ru3:R h' u2 y []:=ru2.off (wr:=[a]) (fun b hb o eo=>.inr (by
     rw [List.mem_singleton.mp hb] at eo ⊢
     rw [ea2] at eo; (have oc:=Option.some.inj eo; clear eo; subst oc)
     exact ⟨by simp,fun hm=>by cases hm⟩)) fun b o hb eo=>hs.extBut b o (fun q=>hb (by simp [q])) eo
    have kg1:KG (fun b=>b≠a) s₁.heap h':=(kp2.k.mono fun uu uu=>trivial).trans (KG.same hs (fun q=>q rfl) fun o eo=>by rw [ea2] at eo; (have oc:=Option.some.inj eo; clear eo; subst oc); exact Stay.not_list)
    have rn:=hup h' u2 n' kg1 (by simpa using ep) ru3
    have kg0:KG (fun b=>b≠a) s.heap h':=(kp.k.mono fun uu uu=>trivial).trans kg1
    have neX:X≠a:=fun q=>nd1.1 (q▸List.mem_cons_of_mem _ ham)
    have neD:D≠a:=fun q=>nd2.1 (q▸ham)
    have rvn:RV h' (.ref X) (.rule c d' n) (fp x):=by
     rw [h2]
     refine bn (h8) fun oD es ep' e hd=>?_
     obtain ⟨oD',eD,q,_⟩:=kg0.dataG (.inl neD) e fun fs q=>by rw [hd.1] at q; cases q
     exact gL X D o vf bs t u mA rfl rfl (kg0.hard (.inl neX) h3 (by unfold hardB; rw [h4])) h4 h5 h6 h7 (b0 oD' es ep' eD ⟨q.trans hd.1,hd.2⟩) h9 h10 h11 h12 rn (jn zu2 p1.1 hd' h14)
    have hax:a∈fp x:=by rw [h2]; exact List.mem_cons_of_mem _ (List.mem_cons_of_mem _ ham)
    have K':=((K.onK kp.k).onK kp2.k).inner hx hv0 hax ea2 (by simp) Stay.not_list (fun uu q=>by cases q) hs (V1:=.rule c d' n) rvn
    exact hN _ vals fp ((kp.trans kp2).stp.same hs (hd1 a hax).1 fun o eo=>by rw [ea2] at eo; (have oc:=Option.some.inj eo; clear eo; subst oc); exact Stay.not_list) K' (.id fun z q h=>by
     by_cases ez:z=x
     ·exact ⟨_,ez▸hx⟩
     ·exact ⟨q,(if_neg ez).symm.trans h⟩)
   ·rw [if_neg hsy] at he; exact nB he
end
end Mine
namespace Mine
open PySem PyProof.Rows
section
variable {fns:Fns}{k:Nat}{C:Calls}
variable {h0:Heap}{P Z:Addr->Prop}{A:Around}{env:Env}{σ:St}{vals:String->Option Value}{fp:String->List Addr}{s:Shared}
theorem SOK.lv (hf:fns.hand=false) {h:Heap}(K:SOK fns k h0 P Z A env h σ vals fp):Lv A env h:=by
 refine cw (K.out hf) fun l h1 h2 h3 h4=>?_
 refine (aC l h1 (fun env' he'=>?_) h3)
 rcases List.mem_cons.mp he' with rfl | he'
 ·refine af (K.loc.ns) fun m G4 _=>?_
  refine aI (G4) fun o es ep e hd _=>?_
  try clear G4
  refine af (K.loc.cls) fun o' e' hc=>?_
  rw [e] at e'; (have oc:=Option.some.inj e'; clear e'; subst oc)
  exact (aE K.eok.kind (jH _ o es ep h3 h4 e hc hd))
 ·exact h2.k K.kp0 env' he'
theorem SOK.zd {h:Heap}(K:SOK fns k h0 P Z A env h σ vals fp) (b:Addr) (hb:Z b):dom h b:=K.zdom b hb
theorem SOK.evalX (hf:fns.hand=false) {e:E}{exx:Expr}{c:String}{Q:Value->Shared->Prop}{Er:Value->Shared->Prop}(K:SOK fns k h0 P Z A env s.heap σ vals fp) (S:SimE fns k C XPc e) (ok:okE env.scope.names e exx=true) (he:ev C e σ = .exc c)
  (hE:∀ x s',Stp Z s s'->Lv A env s'.heap->Exc Z s'.heap c env.locals x->Er x s'):wpAny (model prog w) A (PySem.eval exx env) Q Er s:=by
 have e1:ev C e (ck σ (fv e)) = .exc c:=by rw [ay C e _ σ (bS σ (fv e))]; exact he
 refine S ok (K.cx (fv e)) (by rw [e1]; simp) (fun r hr=>by rw [e1] at hr; cases hr) fun c' hc x s' X=>?_
 rw [e1] at hc; cases hc
 exact hE x s' X.1.stp ((K.onK X.1.k).lv hf) (Fly.exc (X.2.old K.zd))
theorem SOK.evalTX (hf:fns.hand=false) {e:E}{exx:Expr}{c:String}{Q:Bool->Shared->Prop}{Er:Value->Shared->Prop}(K:SOK fns k h0 P Z A env s.heap σ vals fp) (S:SimT fns k C XPc e) (ok:okE env.scope.names e exx=true) (he:ev C e σ = .exc c)
  (hE:∀ x s',Stp Z s s'->Lv A env s'.heap->Exc Z s'.heap c env.locals x->Er x s'):wpAny (model prog w) A (isTrue exx env (PySem.eval exx env)) Q Er s:=by
 have e1:ev C e (ck σ (fv e)) = .exc c:=by rw [ay C e _ σ (bS σ (fv e))]; exact he
 refine S ok (K.cx (fv e)) (by rw [e1]; simp) (fun r hr=>by rw [e1] at hr; cases hr) fun c' hc x s' X=>?_
 rw [e1] at hc; cases hc
 exact hE x s' X.1.stp ((K.onK X.1.k).lv hf) (Fly.exc (X.2.old K.zd))
theorem vh {v:V}:NE (aq v):=fun c h=>by
 unfold aq at h
 split at h<;>cases h
theorem wZ (hf:fns.hand=false) {e:E}(S:SimE fns k C XPc e):c6 fns k C (.ret e):=by
 intro stmt h0 P Z A env σ vals fp s Q Er c ok K he hE
 replace ok:=nZ ok
 revert ok; refine fun Hg=>Or.elim Hg (fun Hb=>?_) (fun ok=>?_)
 ·clear Hg
  refine av (Hb) fun HH HV Ik ok=>?_
  clear Hb
  subst Ik
  simp only [l5] at he
  rcases bF he with he | ⟨_,_,he⟩
  ·exact wpAny_Return_some (K.evalX hf S ok he hE)
  ·cases he
 ·cases ok
theorem tv (hf:fns.hand=false) {e:E}(S:SimE fns k C XPc e):c6 fns k C (.expr e):=by
 intro stmt h0 P Z A env σ vals fp s Q Er c ok K he hE
 replace ok:=lA ok
 revert ok; refine fun Hh=>Or.elim Hh (fun He=>?_) (fun ok=>?_)
 ·clear Hh
  refine jE (He) fun H7 Iw H9 Im Is IA ok=>?_
  clear He
  subst IA
  simp only [cr] at he
  have hi:interactive env=false:=by unfold interactive; rw [K.eok.kind]; rfl
  rcases bF he with he | ⟨_,_,he⟩
  ·exact wpAny_Expr_any (K.evalX hf S ok he hE) hi
  ·cases he
 ·cases ok
theorem pY (hf:fns.hand=false) {x:String}{e:E}(S:SimE fns k C XPc e):c6 fns k C (.assign x e):=by
 intro stmt h0 P Z A env σ vals fp s Q Er c ok K he hE
 replace ok:=jc ok
 revert ok; refine fun Hm=>Or.elim Hm (fun Hl=>?_) (fun ok=>?_)
 ·clear Hm
  refine cb (Hl) fun Id IJ IP IT Ir ok=>?_
  clear Hl
  subst Ir
  simp only [Bool.and_eq_true,beq_iff_eq] at ok
  refine ae (ok) fun G5 oe=>?_
  try clear ok
  refine ae (G5) fun G6 hb=>?_
  try clear G5
  subst G6
  simp only [cf] at he
  rcases bF he with he | ⟨_,_,he⟩
  ·refine ae (qI he) fun he hc=>?_
   exact wpAny_Assign_Name (K.evalX hf S oe he hE) (gu (iV hc oe) _ _ _)
  ·cases he
 ·cases ok
theorem vw (hf:fns.hand=false) {c:E}{a b:Ss}(T:SimT fns k C XPc c) (Xa:eK fns k C a) (Xb:eK fns k C b):c6 fns k C (.ite c a b):=by
 intro stmt h0 P Z A env σ vals fp s Q Er c' ok K he hE
 replace ok:=sE ok
 revert ok; refine fun Hn=>Or.elim Hn (fun Hj=>?_) (fun ok=>?_)
 ·clear Hn
  refine cb (Hj) fun IZ JL Jk JY J5 ok=>?_
  clear Hj
  subst J5
  simp only [Bool.and_eq_true] at ok
  simp only [gD] at he
  rcases bF he with he | ⟨r,hr,he⟩
  ·exact wpAny_If (K.evalTX hf T ok.1.1 he hE)
  ·rcases bF he with he | ⟨t,ht,he⟩
   ·exact absurd he (vh c')
   ·refine wpAny_If (K.evalT T ok.1.1 (b:=t) (by rw [hr]; exact ht) fun s₁ kp=>?_)
    have K₁:=K.onK kp.k
    cases t with
    | true=>
     rw [if_pos rfl] at he ⊢
     exact Xa ok.1.2 K₁ he fun x s' st=>hE x s' (kp.stp.trans st)
    | false=>
     simp only [Bool.false_eq_true,if_false] at he ⊢
     exact Xb ok.2 K₁ he fun x s' st=>hE x s' (kp.stp.trans st)
 ·cases ok
theorem rC {st:S}{r:Ss}(S:cT fns k C st) (X:c6 fns k C st) (Xr:eK fns k C r):eK fns k C (.cons st r):=by
 intro stmts h0 P Z A env σ vals fp s Q Er c ok K he hE
 replace ok:=qE ok
 revert ok; refine fun Hp=>Or.elim Hp (fun Ho=>?_) (fun ok=>?_)
 ·clear Hp
  refine av (Ho) fun I9 I0 IL ok=>?_
  clear Ho
  subst IL
  simp only [Bool.and_eq_true] at ok
  simp only [bQ] at he
  rcases bF he with he | ⟨⟨σ₁,fl₁⟩,h1,he⟩
  ·exact wpAny_execs_cons (X ok.1 K he hE)
  ·dsimp only at he
   cases fl₁ with
   | ret v=>cases he
   | next=>
    refine wpAny_execs_cons (S ok.1 K h1 (fun uu s' vals' fp' st K' F=>?_) fun q e=>by cases e)
    exact Xr ok.2 K' he fun x s'' st'=>hE x s'' (st.trans st')
 ·cases ok
theorem t6:eK fns k C .nil:=by
 intro stmts h0 P Z A env σ vals fp s Q Er c ok K he hE
 simp only [cW] at he
 cases he
theorem sv (hf:fns.hand=false) (hC:b9 fns k C XPc) {c:String}:c6 fns k C (.raise c):=by
 intro stmt h0 P Z A env σ vals fp s Q Er c' ok K he hE
 replace ok:=vS ok
 revert ok; refine fun HP=>Or.elim HP (fun HE=>?_) (fun ok=>?_)
 ·clear HP
  refine g7 (HE) fun JH np t kk p2 cp pos JW ok=>?_
  clear HE
  subst JW
  simp only [Bool.and_eq_true,beq_iff_eq,decide_eq_true_eq] at ok
  refine ae (ok) fun G7 hl=>?_
  try clear ok
  refine ae (G7) fun G8 hd=>?_
  try clear G7
  refine ae (G8) fun G9 hg=>?_
  try clear G8
  subst G9
  simp only [eM] at he
  cases hc:C c with
  | none=>rw [hc] at he; cases he
  | some g=>
   rw [hc] at he
   simp only [au] at he
   split at he
   ·rename_i hn
    cases he
    have hN:=(hC c g hc).2.2.1 hn
    have ge:=K.ge.k K.kp0
    refine ao (ge.exc) fun mg g1 g2 _=>?_
    obtain ⟨gm,N,nm,q,bs,hdct,sn,sub,ab,col,dd,k0,k1,k2,k3,k5,mN,e1,e2,e3,e4⟩:=g2 c hN
    refine wpAny_Raise_call_subT (C:=SF.exc c) (nm:=nm) (q:=q) (N:=N) (bs:=bs) (bm:=cD c) (hdct:=hdct) (sn:=sn) (sub:=sub) (ab:=ab) (col:=col) (dd:=dd) (k0:=k0) (k1:=k1) (k2:=k2) (k3:=k3) (k5:=k5)
     PySem.F.excBase_ValueError (mN:=mN) (e4.1.hasType PySem.F.excBase_ValueError.hasBase) (K.room.1 hf) rfl e3 (Calls.Name_function_global K.eok.kind (dA hg) (Calls.loadGlobal_global (K.eok.glob▸g1) gm ⟨rfl,?_⟩) (nd hd))
    refine Calls.evalArgs_plain (wpAny_items_cons (wpAny_Constant_str (wpAny_items_nil (kU rfl (by show 1≤sizeLine; rw [sizeLine_eq]; exact EQ) e1 e2 e4.1 (fun h' e Mk=>?_)))) rfl)
    refine ao (Mk.there) fun tt m1 m2 m3=>?_
    have kp:Kp s {s with heap:=h',toks:=s.toks+1 }:=.of Mk.keeps
    refine hE _ _ kp.stp ((K.onK kp.k).lv hf) (aO e _ rfl (bM (fun q=>(by obtain ⟨o,eo⟩:=K.zdom e q; rw [Mk.new] at eo; cases eo)) hN (aC _ m1 rfl rfl)) (.inl rfl))
   ·cases he
 ·cases ok
theorem nc {α β:Type}{o:Out α}{f:α->Out β}{c:String}(h:o.calm.bind f = .exc c):∃ a,f a = .exc c:=by
 cases o with
 | ok a=>exact ⟨a,h⟩
 | exc c=>cases h
 | bad=>cases h
theorem c9 {α β:Type}{o:Out α}{f:α->Out β}{c:String}{G:Prop}(h:o.calm.bind f = .exc c) (k:∀ a,f a = .exc c->G):G:=ai (nc h) k
theorem ky {α β:Type}{o:Option α}{f:α->Out β}{c:String}(h:au o f = .exc c):∃ a,f a = .exc c:=by
 cases o with
 | some a=>exact ⟨a,h⟩
 | none=>cases h
theorem bE {α β:Type}{o:Option α}{f:α->Out β}{c:String}{G:Prop}(h:au o f = .exc c) (k:∀ a,f a = .exc c->G):G:=ai (ky h) k
theorem ze {σ:St}{x:String}{v:V}{k:PyData}{c:String}(h:fI σ x v k = .exc c):False:=by
 unfold fI at h
 repeat' (split at h)
 all_goals cases h
theorem zj {σ:St}{x:String}{ns:List String}{mx m:Mode}{xs:List PyData}{c:String}(h:il σ x ns mx xs m = .exc c):False:=by
 unfold il at h
 repeat' (split at h)
 all_goals cases h
theorem dJ {st:S}(h:∀ σ c,ex C st σ≠.exc c):c6 fns k C st:=by
 intro stmt h0 P Z A env σ vals fp s Q Er c ok K he hE
 exact absurd he (h σ c)
theorem pD {x:String}{e:E}:c6 fns k C (.setitem x e):=dJ fun σ c h=>by
 simp only [cN] at h
 refine c9 h fun r h=>?_
 split at h
 ·exact ze h
 ·cases h
theorem pT {x:String}{e:E}:c6 fns k C (.append x e):=dJ fun σ c h=>by
 simp only [eZ] at h
 refine c9 h fun r h=>?_
 split at h
 ·split at h
  ·split at h
   ·cases h
   ·exact zj h
  ·cases h
 ·cases h
theorem nq {x:String}{is:Es}{e:E}:c6 fns k C (.appendAt x is e):=dJ fun σ c h=>by
 simp only [dS] at h
 split at h
 ·refine bE h fun d h=>?_
  refine c9 h fun p h=>?_
  refine c9 h fun r h=>?_
  refine bE h fun y h=>?_
  split at h
  ·obtain ⟨d',h⟩:=ky h; cases h
  ·cases h
 ·cases h
theorem sV {x:String}{is:Es}{e:E}:c6 fns k C (.appF x is e):=dJ fun σ c h=>by
 simp only [gX] at h
 split at h
 ·refine bE h fun uu h=>?_
  refine bE h fun d h=>?_
  refine c9 h fun p h=>?_
  refine c9 h fun r h=>?_
  refine bE h fun y h=>?_
  split at h
  ·obtain ⟨d',h⟩:=ky h; cases h
  ·cases h
 ·cases h
theorem ww {x:String}{i:E}:c6 fns k C (.pop x i):=dJ fun σ c h=>by
 simp only [lR] at h
 refine c9 h fun q h=>?_
 split at h
 ·split at h
  ·split at h<;>cases h
  ·cases h
 ·cases h
theorem tO {x:String}:c6 fns k C (.retn x):=dJ fun σ c h=>by
 simp only [j6] at h
 split at h<;>cases h
theorem wq:c6 fns k C .bad:=dJ fun σ c h=>by simp only [yp] at h; cases h
end
end Mine
namespace Mine
open PySem PyProof.Rows
section
variable {fns:Fns}{k:Nat}{C:Calls}
variable {h0:Heap}{P Z:Addr->Prop}{A:Around}{env:Env}{σ:St}{vals:String->Option Value}{fp:String->List Addr}
theorem hY {y z:String}{q:V×Mode}{G:Prop}(h:rem σ y z=some q) (k:z≠y->σ z=some q->G):G:=by
 unfold rem at h
 by_cases e:z=y
 ·rw [if_pos e] at h; exact nN h
 ·rw [if_neg e] at h; exact k e h
theorem SOK.forget {h:Heap}(K:SOK fns k h0 P Z A env h σ vals fp) (y:String):SOK fns k h0 P Z A env h (rem σ y) vals fp where
 room:=K.room
 eok:=K.eok
 ge:=K.ge
 z0:=K.z0
 kp0:=K.kp0
 code:=K.code
 out:=K.out
 zdom:=K.zdom
 loc:=K.loc
 val:=fun x p hp=>hY hp fun _ hp=>K.val x p hp
 top:=fun x p hp ht=>hY hp fun _ hp=>a7 (K.top x p hp ht) fun a bs h1 h2 h3 h4=>bl a bs h1 h2 h3 fun z q hz hq=>hY hq fun _ hq=>h4 z q hz hq
 deep:=fun x p hp hd=>hY hp fun _ hp=>ae (K.deep x p hp hd) fun h1 h2=>aE (fun a ha=>aE (h1 a ha).1 fun z q hz hq=>hY hq fun _ hq=>(h1 a ha).2 z q hz hq) h2
end
end Mine
namespace Mine
open PySem PyProof.Rows
theorem tP {M:Model}{A:Around}{E:Value->Shared->Prop}{s:Shared}{a:Addr}{m:Str->Option Value}{name:Str}{T:Value}{Q:Bool->Shared->Prop}(hn:s.heap.Ns a m) (hc:∃ o,s.heap.get? a=some o/\o.cls=T) (hs:(m name).isSome=true)
  (h:∀ h' v,h'.Ns a (fun x=>if x=name then v else m x)->Heap.SameBut a s.heap h'->(∃ o,h'.get? a=some o/\o.cls=T)->Q true {s with heap:=h' }):wpAny M A (nsDel a name) Q E s:=by
 refine dh (hn) fun o es ep ho hd hk hm=>?_
 try clear hn
 refine af (hc) fun o' ho' hT=>?_
 try clear hc
 rw [ho] at ho'
 obtain rfl:=Option.some.inj ho'
 have hany:es.any (·.refKey)=false:=by
  rw [Array.any_eq_false']; intro e he; obtain ⟨n,t,h⟩:=hk e he; simp [DictEntry.refKey,h]
 have hsome:es.any (·.key.isStr name)=true:=by
  rw [← hm name] at hs
  simp only [nsFind,findBy,Option.isSome_map,Array.find?_isSome] at hs
  obtain ⟨x,hx,hp⟩:=hs
  obtain ⟨i,hi,rfl⟩:=Array.mem_iff_getElem.mp hx
  exact Array.any_eq_true.mpr ⟨i,hi,hp⟩
 have hhas:nsHas name o=pure true:=by
  rw [nsHas_eq]; unfold nsHasByArray; rw [hd]
  show (if (es.any fun x=>x.key.isStr name)=true then _ else _)=_
  rw [if_pos hsome]
 unfold nsDel
 refine wpAny_bind (wpAny_loadPart ho ?_)
 rw [hhas]
 refine wpAny_bind (wpAny_pure ?_)
 rw [if_pos rfl]
 refine wpAny_bind (wpAny_updatePart ho (wpAny_pure ?_))
 obtain ⟨cl,d,dt,sl⟩:=o
 (clear hhas ho'; subst hd)
 cases hi:es.findIdx? (·.key.isStr name) with
 | some i=>
  refine h _ (nsFind (es.eraseIdxIfInBounds i) name) (fc _ _ (ep+1) (Heap.get?_update_self _ ho (by simp only [Obj.dropName_eq,Obj.dropNameByArray,hi]; rfl)) (by simp only [Obj.dropName_eq,Obj.dropNameByArray,hi]) (hk.erase i) fun x=>?_) (Heap.SameBut.update ..) (ah _ (Heap.get?_update_self _ ho (by simp only [Obj.dropName_eq,Obj.dropNameByArray,hi]; rfl)) (by simp only [Obj.dropName_eq,Obj.dropNameByArray,hi]; exact hT))
  show nsFind (es.eraseIdxIfInBounds i) x=if x=name then nsFind (es.eraseIdxIfInBounds i) name else m x
  by_cases hx:x=name
  ·rw [if_pos hx,hx]
  ·rw [if_neg hx,nsFind_erase_other hi hx,hm]
 | none=>
  exfalso
  rw [Array.findIdx?_eq_none_iff] at hi
  obtain ⟨i,hi',hp⟩:=Array.any_eq_true.mp hsome
  have:=hi _ (Array.getElem_mem hi')
  rw [hp] at this
  exact nT this
section
variable {fns:Fns}{k:Nat}
variable {h0:Heap}{P Z:Addr->Prop}{A:Around}{env:Env}{σ:St}{vals:String->Option Value}{fp:String->List Addr}{s:Shared}
theorem SOK.goes {A':Around}{x:String}{pos:Pos}{Q:Unit->Shared->Prop}{Er:Value->Shared->Prop}(K:SOK fns k h0 P Z A env s.heap σ vals fp) (hl:env.kindOf (Str.ofString x)=some .local)
  (hQ:∀ s',Stp Z s s'->(∀ v y,RV s.heap v y []->RV s'.heap v y [])->SOK fns k h0 P Z A env s'.heap (rem σ x) (fun y=>if y=x then none else vals y) fp->Q () s') :
  wpAny (model prog w) A' (do bindName env (Str.ofString x) .none; unbindBehindTheSuite env (Str.ofString x) pos) Q Er s:=by
 have hp:(env.scope.kind == .class||(env.scope.kind == .module&&env.locals != env.globals))=false:=by rw [K.eok.kind]; rfl
 refine af (K.loc.ns) fun m hm hmv=>?_
 have hT:Spot env s.heap env.locals:=.inl (aE rfl (bI m hm))
 refine wpAny_bind (wpAny_bindName ?_)
 rw [storeName_local hl (by rw [K.eok.kind]; rfl)]
 refine iG hm K.loc.cls (fun h₁ hn₁ hs₁ hc₁=>?_)
 unfold unbindBehindTheSuite
 refine wpAny_onRaise ?_
 unfold unbindName
 refine wpAny_bind (wpAny_point (wpAny_bind ?_))
 unfold deleteName
 simp only [hl,hp]
 rw [if_neg (by decide)]
 refine wpAny_bind (tP hn₁ hc₁ (by rw [if_pos rfl]; rfl) fun h₂ v hn₂ hs₂ hc₂=>?_)
 simp only [if_true,Bool.not_true,Bool.false_eq_true,if_false]
 refine wpAny_pure (wpAny_point ?_)
 have hs:Heap.SameBut env.locals s.heap h₂:=hs₁.trans hs₂
 have hkp:so env.locals s.heap h₂:=fun ⟨u,o,e,q⟩=>by obtain ⟨o',es,ep,e',q',_⟩:=hm; rw [e] at e'; (have oc:=Option.some.inj e'; clear e'; subst oc); rw [q] at q'; cases q'
 have off:∀ {y v},(fun y=>if y=x then none else vals y) y=some v->y≠x/\vals y=some v:=fun {y v} h=>by
  dsimp only at h
  by_cases e:y=x
  ·rw [if_pos e] at h; exact nN h
  ·rw [if_neg e] at h; exact ⟨e,h⟩
 refine hQ _ ((Stp.refl Z s).same hs K.loc.nz hT.nostay) (fun v y r=>r.spot hT hkp (fun a h=>nomatch h) hs) ?_
 have F:=K.forget x
 refine ⟨K.room,K.eok,K.ge,K.z0,Mine.K.same K.kp0 hs (K.h0n K.loc.nz) hT.nostay,K.code,K.out,fun b hb=>ai (K.zdom b hb) fun o e=>⟨o,hs.extBut b o (fun q=>K.loc.nz (q▸hb)) e⟩,⟨hc₂,ah _ hn₂ fun y u hu hky=>?_,K.loc.nz,fun n c hkn hc=>?_,fun y u c hu hky hc=>?_,K.loc.apart,fun y u hu=>K.loc.kinds y u (off hu).2⟩,fun y p hq=>hY hq fun hne hq=>?_,F.top,F.deep⟩
 ·have hy:¬ Str.ofString y=Str.ofString x:=fun q=>(off hu).1 (cC q)
  rw [if_neg hy,if_neg hy]
  exact hmv y u (off hu).2 hky
 ·refine aD (K.loc.cell n c hkn hc) fun h1 h2 ow=>?_
  refine av ow fun u o h3 h4=>?_
  exact (bM h1 h2 (aB u o (hs.extBut c o h1 h3) h4))
 ·refine af (K.loc.cval y u c (off hu).2 hky hc) fun o h3 h4=>?_
  exact ah o (hs.extBut c o (K.loc.cell _ c hky hc).1 h3) h4
 ·refine ae (K.val y p hq) fun h1 ow=>?_
  refine ao ow fun u h2 h3 h4=>?_
  exact aE h1 (aC u ((if_neg hne).trans h2) (h3.spot hT hkp (fun a h=>(h4 a h).1) hs) h4)
end
end Mine
namespace Mine
open PySem PyProof.Rows
section
variable {M:Model}{A:Around}{E:Value->Shared->Prop}{g:Array GenState}{dr:Drawn}{tk:Nat}{os:OsState}
theorem qe {h:Heap}{C D N N':Addr}{nm nm' q q':Str}{bs bs' bm bm':List Value}{hdct hdct':Bool}{sn sn':List Str}{sub sub':List Value}{ab ab':Bool}{col col':Option Bool}{dd dd':Option Addr}{k0 k1 k2 k3 k5 j0 j1 j2 j3 j5:Option Value}{ni ni':String}{e:Addr}{oe:Obj}{Q:Bool->Shared->Prop}
  (hC:h.get? C=some (excClassObj nm q C N bs bm hdct sn sub ab col dd k0 k1 k2 k3 k5 ni)) (hD:h.get? D=some (excClassObj nm' q' D N' bs' bm' hdct' sn' sub' ab' col' dd' j0 j1 j2 j3 j5 ni')) (he:h.get? e=some oe) (hcls:oe.cls = .ref C) (hbase:bm'.contains (.type "BaseException")=true)
  (hq:Q ((Value.ref C::bm).contains (.ref D)) ⟨h,g,dr,tk,os⟩):wpAny M A (excMatches (.ref e) (.ref D)) Q E ⟨h,g,dr,tk,os⟩:=by
 have hcB:(Value.ref D::bm').contains (.type "BaseException")=true:=by rw [List.contains_cons,hbase,Bool.or_true]
 have f:=tc_notTuple
 unfold excMatches
 repeat (first | (with_reducible refine wpAny_loadPart_at he ?_; rw [hcls]) | with_reducible refine wpAny_loadPart_at hD ?_ | (with_reducible refine wpAny_isSubtype_exc hD ?_; rw [hcB]) | with_reducible refine wpAny_isSubtype_exc hC ?_ | wp_step)
 cases hb:(Value.ref C::bm).contains (.ref D)<;>(rw [hb] at hq; wp_walk; exact hq)
end
section
variable {fns:Fns}{k:Nat}{C:Calls}
variable {h0:Heap}{P Z:Addr->Prop}{A:Around}{env:Env}{σ:St}{vals:String->Option Value}{fp:String->List Addr}{s:Shared}
theorem SOK.hand (hf:fns.hand=false) {h:Heap}(K:SOK fns k h0 P Z A env h σ vals fp) (v:Value):SOK {fns with hand:=true } k h0 P Z (A.mark (some v)) env h σ vals fp where
 room:=by
  refine ae (K.room.at hf) fun h1 h2=>?_
  refine ⟨(fun q=>by cases q),?_,?_⟩
  ·show A.depth+2*k+1<_; exact E1 h1
  ·show A.units+100*k+200<_; exact C3 h2
 eok:=K.eok
 ge:=K.ge.flag _ _
 z0:=K.z0
 kp0:=K.kp0
 code:=K.code
 out:=fun q=>by exact nT q
 zdom:=K.zdom
 loc:=K.loc
 val:=K.val
 top:=K.top
 deep:=K.deep
theorem SOK.back {h h₁:Heap}{σ₁:St}{vals₁:String->Option Value}{fp₁:String->List Addr}{v:Value}(K:SOK {fns with hand:=true } k h0 P Z (A.mark (some v)) env h σ vals fp) (K₀:SOK fns k h0 P Z A env h₁ σ₁ vals₁ fp₁):SOK fns k h0 P Z A env h σ vals fp where
 room:=K₀.room
 eok:=K.eok
 ge:=K₀.ge
 z0:=K.z0
 kp0:=K.kp0
 code:=K.code
 out:=K₀.out
 zdom:=K.zdom
 loc:=K.loc
 val:=K.val
 top:=K.top
 deep:=K.deep
theorem calm_bind_ok' {α β:Type}{o:Out α}{f:α->Out β}{b:β}(h:o.calm.bind f = .ok b):∃ a,o = .ok a/\f a = .ok b:=by
 cases o with
 | ok a=>exact (ah a rfl h)
 | exc c=>exact nB h
 | bad=>exact nB h
theorem qM (hX:∀ t g,C t=some g->t∈aw->t∈SF.excN) (t:String) (g:List V->Out (V×Mode)) (h:iu C t=some g) (ht:t∈aw):t∈SF.excN:=hX t g ((if_pos ht).symm.trans h) ht
theorem qZ (hX:∀ t g,C t=some g->t∈aw->t∈SF.excN):∀ (b:List H1) {stmts:List Stmt}{h0:Heap}{P Z:Addr->Prop}{A:Around}{env:Env}{σ:St}{vals:String->Option Value}{fp:String->List Addr}{s:Shared}{Q:Flow->Shared->Prop}{Er:Value->Shared->Prop}{σ':St}{fl:Flw},
  iA env.scope.names b stmts=true->SOK fns k h0 P Z A env s.heap σ vals fp->exH C b σ = .ok (σ',fl) ->
  (fl = .next->∀ s' vals' fp',Stp Z s s'->SOK fns k h0 P Z A env s'.heap σ' vals' fp'->Frm Z (oO b) σ vals fp σ' vals' fp'->Q .next s')->(∀ r,fl = .ret r->∀ v s',Stp Z s s'->kn h0 P r v s'->(∃ σ₁ vals₁ fp₁,SOK fns k h0 P Z A env s'.heap σ₁ vals₁ fp₁)->Q (.ret v) s') ->
  wpAny (model prog w) A (execs stmts env) Q Er s
 | [],stmts,h0,P,Z,A,env,σ,vals,fp,s,Q,Er,σ',fl,ok,K,he,hN,hR=>by
  refine bG (show (d6 stmts).isSome=true from ok) fun uu e=>?_
  rw [cq e]
  cases he
  exact wpAny_execs_nil (hN rfl s vals fp (.refl Z s) K (.id fun z q h=>⟨q,h⟩))
 | .nam x::r,stmts,h0,P,Z,A,env,σ,vals,fp,s,Q,Er,σ',fl,ok,K,he,hN,hR=>nB he
 | .asg x e::r,stmts,h0,P,Z,A,env,σ,vals,fp,s,Q,Er,σ',fl,ok,K,he,hN,hR=>by
  refine aj ok fun q e1 ok=>?_
  refine bX ok fun o1 o2=>?_
  rw [cF e1]
  unfold exH at he
  split at he
  ·rename_i hh
   refine af (calm_bind_ok' he) fun v hv he=>?_
   have S:SimE fns k (iu C) XPc e:=(dE bw (qM hX) e hh).e
   refine wpAny_execs_cons (jO (x:=x) S ⟨fun uu uu uu q=>(by (clear S hN he hv o1 ok; subst q); cases hh),fun uu uu uu uu q=>(by (clear S hN he hv o1 ok; subst q); cases hh)⟩ (show okS env.scope.names (.assign x e) q.1=true from o1) K (σ':=upd (consume σ (fv e) v.2) x v) (fl:=.next) (by simp only [cf]; rw [iQ hv]; rfl) (fun uu s₁ vals₁ fp₁ st₁ K₁ F₁=>?_) fun r q=>by cases q)
   exact qZ hX r o2 K₁ he (fun e s' vals' fp' st K' F=>hN e s' vals' fp' (st₁.trans st) K' (F₁.trans F)) fun r e v s' st=>hR r e v s' (st₁.trans st)
  ·exact nB he
 | .ret e::r,stmts,h0,P,Z,A,env,σ,vals,fp,s,Q,Er,σ',fl,ok,K,he,hN,hR=>by
  refine aj ok fun q e1 ok=>?_
  refine bX ok fun o1 o2=>?_
  rw [cF e1]
  unfold exH at he
  split at he
  ·rename_i hh
   refine af (calm_bind_ok' he) fun v hv he=>?_
   cases he
   have S:SimE fns k (iu C) XPc e:=(dE bw (qM hX) e hh).e
   refine wpAny_execs_cons ?_
   refine av ((nZ (show okS env.scope.names (.ret e) q.1=true from o1)).resolve_right id) fun Kg J9 G6 ok3=>?_
   rw [G6]
   exact wpAny_Return_some (K.eval S ok3 hv fun u s' E=>hR v rfl u s' E.keeps.stp (qG K E) ⟨σ,vals,fp,K.onK E.keeps.k⟩)
  ·exact nB he
noncomputable def FW (fns:Fns) (k:Nat) (C:Calls) (st:S):Prop:=∀ {stmt:Stmt}{h0:Heap}{P Z:Addr->Prop}{A:Around}{env:Env}{σ:St}{vals:String->Option Value}{fp:String->List Addr}{s:Shared}{Q:Flow->Shared->Prop}{Er:Value->Shared->Prop}{c:String},
 okS env.scope.names st stmt=true->SOK fns k h0 P Z A env s.heap σ vals fp->ex C st σ = .exc c->(∀ x s',XPc c s x s'->Er x s')->wpAny (model prog w) A (exec stmt env) Q Er s
theorem SOK.evalK {e:E}{exx:Expr}{c:String}{Q:Value->Shared->Prop}{Er:Value->Shared->Prop}(K:SOK fns k h0 P Z A env s.heap σ vals fp) (S:SimE fns k C XPc e) (ok:okE env.scope.names e exx=true) (he:ev C e σ = .exc c)
  (hE:∀ x s',XPc c s x s'->Er x s'):wpAny (model prog w) A (PySem.eval exx env) Q Er s:=by
 have e1:ev C e (ck σ (fv e)) = .exc c:=by rw [ay C e _ σ (bS σ (fv e))]; exact he
 refine S ok (K.cx (fv e)) (by rw [e1]; simp) (fun r hr=>by rw [e1] at hr; cases hr) fun c' hc x s' X=>?_
 rw [e1] at hc; cases hc
 exact hE x s' X
theorem w8 {b:S}(hb:j8 b=true) (Se:∀ e,b = .expr e->SimE fns k C XPc e) (Sa:∀ x e,b = .assign x e->SimE fns k C XPc e):FW fns k C b:=by
 intro stmt h0 P Z A env σ vals fp s Q Er c ok K he hE
 cases b with
 | expr e=>
  replace ok:=lA ok
  revert ok; refine fun Hg=>Or.elim Hg (fun Hb=>?_) (fun ok=>?_)
  ·clear Hg
   refine jE (Hb) fun HH HV Il H7 Iw I6 ok=>?_
   clear Hb
   subst I6
   simp only [cr] at he
   have hi:interactive env=false:=by unfold interactive; rw [K.eok.kind]; rfl
   rcases bF he with he | ⟨_,_,he⟩
   ·exact wpAny_Expr_any (K.evalK (Se e rfl) ok he hE) hi
   ·cases he
  ·cases ok
 | assign x e=>
  replace ok:=jc ok
  revert ok; refine fun Hh=>Or.elim Hh (fun He=>?_) (fun ok=>?_)
  ·clear Hh
   refine cb (He) fun Im Is Ia Id H0 ok=>?_
   clear He
   subst H0
   simp only [Bool.and_eq_true,beq_iff_eq] at ok
   refine ae (ok) fun G4 oe=>?_
   try clear ok
   refine ae (G4) fun G5 hb=>?_
   try clear G4
   subst G5
   simp only [cf] at he
   rcases bF he with he | ⟨_,_,he⟩
   ·refine ae (qI he) fun he hc=>?_
    exact wpAny_Assign_Name (K.evalK (Sa x e rfl) oe he hE) (gu (iV hc oe) _ _ _)
   ·cases he
  ·cases ok
 | _=>exact nF hb
theorem vV {ns:List (Str×NameKind)}{b:List H1}{nm:Option Str}{st:List Stmt}(h:AS ns b nm st=true):(nm=none/\iA ns b st=true)\/∃ x r,b = .nam x::r/\nm=some (Str.ofString x)/\bj ns x=true/\ns.lookup (Str.ofString x)=some .local/\iA ns r st=true:=by
 cases nm with
 | none=>
  left
  cases b with
  | nil=>exact ⟨rfl,h⟩
  | cons a r=>cases a<;>exact ⟨rfl,h⟩
 | some y=>
  right
  cases b with
  | nil=>exact nF h
  | cons a r=>
   cases a with
   | nam x=>
    replace h:(y==Str.ofString x&&(bj ns x&&ns.lookup (Str.ofString x)==some .local)&&iA ns r st)=true:=h
    simp only [Bool.and_eq_true,beq_iff_eq] at h
    exact ⟨x,r,rfl,congrArg some h.1.1,h.1.2.1,h.1.2.2,h.2⟩
   | _=>exact nF h
theorem sQ {ns:List (Str×NameKind)}{b:List H1}{st:List Stmt}{c:String}{σ:St}(h:iA ns b st=true):exN C c b σ=exH C b σ:=by
 cases b with
 | nil=>rfl
 | cons a r=>
  cases a with
  | nam x=>
   refine aj h fun q e1 ok=>?_
   exact nF ok
  | _=>rfl
theorem Do {c x:String}{r:List H1}{σ σ':St}{fl:Flw}{G:Prop}(h:exN C c (.nam x::r) σ = .ok (σ',fl)) (kk:∀ σ₁,exH C r (upd σ x (.err c,.sh)) = .ok (σ₁,fl)->oB fl=true->σ' = rem σ₁ x->G):G:=by
 unfold exN at h
 refine Out.bind_k h fun o ho h=>?_
 split at h
 ·rename_i q
  cases h
  exact kk o.1 ho q rfl
 ·exact nB h
theorem At (hf:fns.hand=false) (hX:∀ t g,C t=some g->t∈aw->t∈SF.excN) {c x:String}{e:Addr}{r:List H1}{stmts:List Stmt}{pos:Pos}{Q:Flow->Shared->Prop}{Er:Value->Shared->Prop}{E2 E3:Value->Shared->Prop}{σ':St}{fl:Flw}{h:Heap}{tk:Nat}(K₀:SOK fns k h0 P Z A env s.heap σ vals fp) (k04:K s.heap h) (ne:¬ dom s.heap e) (ree:RV h (.ref e) (.err c) [e]) (b1:bj env.scope.names x=true) (b2:env.kindOf (Str.ofString x)=some .local) (ob:iA env.scope.names r stmts=true)
  (he:exN C c (.nam x::r) σ = .ok (σ',fl))
  (hN:fl = .next->∀ s' vals' fp',Stp Z s s'->SOK fns k h0 P Z A env s'.heap σ' vals' fp'->Frm Z (oO (.nam x::r)) σ vals fp σ' vals' fp'->Q .next s') (hR:∀ r,fl = .ret r->∀ v s',Stp Z s s'->kn h0 P r v s'->Q (.ret v) s') :
  wpAny (model prog w) (A.mark (some (.ref e))) (storeName env (Str.ofString x) (.ref e)) (fun _ s₂=>wpAny (model prog w) (A.mark (some (.ref e))) (execs stmts env) (fun f s₃=>wpAny (model prog w) A (do bindName env (Str.ofString x) .none; unbindBehindTheSuite env (Str.ofString x) pos) (fun _ s₄=>Q f s₄) Er s₃) E2 s₂) E3 {s with heap:=h,toks:=tk }:=by
 refine Do he fun σ₁ he hpl hσ=>?_
 have st₄:Stp Z s {s with heap:=h,toks:=tk }:=(aB h tk rfl (k04.mono fun uu uu=>trivial))
 have KH:=(K₀.onK k04).hand hf (.ref e)
 have nfp:∀ y q,σ y=some q->e∉fp y:=fun y q hq hm=>by
  refine ae (K₀.val y q hq) fun uu ow=>?_
  refine ao ow fun v _ hr _=>?_
  exact ne (hr.there e hm)
 have nz:¬ Z e:=fun hz=>ne (K₀.zdom e hz)
 refine fP b1 fun g1 g2 g3=>?_
 refine KH.put (s:={s with heap:=h,toks:=tk }) (x:=x) (r:=(.err c,.sh)) (as:=[e]) g1 g3 ree (fun a ha=>?_) (fun q=>by cases q) (fun q=>by cases q) (fun y q hy hq=>⟨fun _ a bs ea ha=>?_,fun _ a ha hm=>?_⟩) fun s5 st5 kp5 K5=>?_
 ·rw [List.mem_singleton.mp ha]
  refine ⟨fun q=>?_,.inr ?_⟩
  ·refine af (K₀.loc.cls) fun o eo _=>?_
   exact ne ⟨o,q▸eo⟩
  ·exact K₀.h0n nz
 ·exact nfp y q hq (by rw [ea,List.mem_singleton.mp ha]; exact .head _)
 ·exact nfp y q hq (List.mem_singleton.mp hm▸ha)
 refine qZ (fns:={fns with hand:=true }) (s:=s5) hX r ob K5 he (fun e6 s6 vals6 fp6 st6 K6 F6=>?_) fun q e6 v s6 st6 R6 hK=>?_
 ·refine K6.goes b2 fun s7 st7 _ K7=>?_
  subst e6
  rw [hσ] at hN
  refine hN rfl s7 _ fp6 (((st₄.trans st5).trans st6).trans st7) (K7.back K₀) ?_
  have F5:Frm Z [x] σ vals fp (upd σ x (.err c,.sh)) (d7 vals x (.ref e)) (fun y=>if y=x then [e] else fp y):=.one (fun y hy=>if_neg hy) (fun z q h=>⟨q,h⟩) fun b hb hz=>absurd (List.mem_singleton.mp hb▸hz) nz
  have F7:Frm Z [x] σ₁ vals6 fp6 (rem σ₁ x) (fun y=>if y=x then none else vals6 y) fp6:=⟨fun y hy=>⟨if_neg fun q=>hy (by simp [q]),rfl⟩,fun b _ hb z q hq=>hY hq fun _ hq=>hb z q hq⟩
  exact ((F5.trans F6).trans F7).more fun y hy=>by
   rcases List.mem_append.mp hy with hy | hy
   ·exact hy
   ·rw [List.mem_singleton.mp hy]; exact .head _
 ·refine xA (hK) fun σ₂ vals₂ fp₂ K6=>?_
  try clear hK
  refine K6.goes b2 fun s7 st7 kv _=>?_
  refine hR q e6 v s7 (((st₄.trans st5).trans st6).trans st7) ?_
  refine cw (R6) fun as r1 r2 r3 r4=>?_
  try clear R6
  have hq:lD q.1=true:=by rw [e6] at hpl; exact hpl
  cases r1.scal_nil hq
  exact ⟨[],kv v q.1 r1,r2,r3,r4⟩
theorem sA (hf:fns.hand=false) (hC:b9 fns k C XPc) {c:String}{x:Value}{Q:Flow->Shared->Prop}{Er:Value->Shared->Prop}{σ':St}{fl:Flw}{l:List Env}(K₀:SOK fns k h0 P Z A env s.heap σ vals fp):∀ (hs:List (String×List H1)) (ds:List ExceptHandler) {h:Heap}{tk:Nat},rG env.scope.names hs ds=true ->
  K s.heap h->FlyA (dom s.heap) h c .none x->FrOk h l->fy C c hs σ = .ok (σ',fl) ->
  (fl = .next->∀ s' vals' fp',Stp Z s s'->SOK fns k h0 P Z A env s'.heap σ' vals' fp'->Frm Z (rg hs) σ vals fp σ' vals' fp'->Q .next s')->(∀ r,fl = .ret r->∀ v s',Stp Z s s'->kn h0 P r v s'->Q (.ret v) s') ->
  wpAny (model prog w) A (handleBy x env ds) Q Er {s with heap:=h,toks:=tk }
 | [],ds,h,tk,ok,kk,fly,fr,he,hN,hR=>by exact nB he
 | p::r,[],h,tk,ok,kk,fly,fr,he,hN,hR=>by exact nF ok
 | p::r,d::ds,h,tk,ok,kk,fly,fr,he,hN,hR=>by
  refine bX ok fun o1 o2=>?_
  refine aj o1 fun q e1 o1=>?_
  refine aj o1 fun n e2 o1=>?_
  simp only [Bool.and_eq_true,beq_iff_eq] at o1
  refine ae (o1) fun G6 ob=>?_
  try clear o1
  refine ae (G6) fun G7 hd=>?_
  try clear G6
  refine ae (G7) fun hn hg=>?_
  try clear G7
  refine ai (v5 e1) fun pos e3=>?_
  rw [e3,aX e2,hn]
  unfold fy at he
  refine aU he fun gC hgC he=>?_
  split at he
  ·rename_i hne
   have hdN:=(hC p.1 gC hgC).2.2.1 hne
   have hX:∀ t g,C t=some g->t∈aw->t∈SF.excN:=fun t g h1 h2=>(hC t g h1).2.2.1 h2
   have ge:=K₀.ge.k (KG.trans K₀.kp0 kk)
   refine ao (ge.exc) fun mg g1 g2 g3=>?_
   obtain ⟨gm,N',nm',q',bs',hdct',sn',sub',ab',col',dd',j0,j1,j2,j3,j5,mN',d1,d2,d3,d4⟩:=g2 p.1 hdN
   have fly':=fly
   refine aA (fly) fun e vs G8 G9 _=>?_
   try clear fly
   subst G8
   refine aD (G9) fun ne cn Hv=>?_
   try clear G9
   refine ao (Hv) fun oe ee hc hdt=>?_
   try clear Hv
   obtain ⟨_,N,nm,qn,bs,hdct,sn,sub,ab,col,dd,k0,k1,k2,k3,k5,mN,c1,c2,c3,c4⟩:=g2 c cn
   refine wpAny_handleBy_cons (codeAny_handlers_test (Calls.Name_function_global K₀.eok.kind (dA hg) (Calls.loadGlobal_global (K₀.eok.glob▸g1) gm ?_) (nd hd))) (by intro q; cases q)
   refine qe c1 d1 ee hc (d4.1.hasType PySem.F.excBase_ValueError.hasBase) ?_
   rw [pI g3 cn hdN]
   split at he
   ·rename_i hm
    rw [decide_eq_true hm]
    rcases vV ob with ⟨hnm,ob⟩ | ⟨x,r',hb,hnm,b1,b2,ob⟩
    rotate_left
    ·rw [hnm]
     rw [hb] at he
     refine codeAny_handlers_suite_as (iK (l:=l) fr fly' fun h₄ f₄ k₄ F₄=>?_)
     have k04:K s.heap h₄:=Mine.K.step kk k₄ fun b o e=>⟨o,e⟩
     have ree:RV h₄ (.ref e) (.err c) [e]:=by
      refine aA (f₄) fun e' vs' q1 G4 _=>?_
      try clear f₄
      obtain ⟨_,_,oe',ee',hc',_⟩:=G4
      cases q1
      exact ⟨e,oe',rfl,rfl,ee',hc',cn⟩
     exact At hf hX K₀ k04 ne ree b1 b2 ob he (fun e s' vals' fp' st K' F=>hN e s' vals' fp' st K' (F.more fun y hy=>List.mem_append_left _ (by rw [hb]; exact hy))) hR
    rw [hnm]
    rw [sQ ob] at he
    refine codeAny_handlers_suite (iK (l:=l) fr fly' fun h₄ f₄ k₄ F₄=>?_)
    have k04:K s.heap h₄:=Mine.K.step kk k₄ fun b o e=>⟨o,e⟩
    have st₄:Stp Z s {s with heap:=h₄,toks:=tk }:=(aB h₄ tk rfl (k04.mono fun uu uu=>trivial))
    refine qZ (fns:={fns with hand:=true }) (s:={s with heap:=h₄,toks:=tk }) hX p.2 ob ((K₀.onK k04).hand hf (.ref e)) he (fun e s' vals' fp' st K' F=>?_) fun r e v s' st R _=>hR r e v s' (st₄.trans st) R
    (clear hR; subst e)
    exact hN rfl s' vals' fp' (st₄.trans st) (K'.back K₀) (F.more fun y hy=>List.mem_append_left _ hy)
   ·rename_i hm
    rw [decide_eq_false hm]
    exact sA hf hC K₀ r ds o2 kk fly' fr he (fun e s' vals' fp' st K' F=>hN e s' vals' fp' st K' (F.more fun y hy=>List.mem_append_right _ hy)) hR
  ·exact nB he
theorem zJ {b:S}{hs:List (String×List H1)}{o:Out (St×Flw)}{r:St×Flw}(h:orH C b hs σ o = .ok r):o = .ok r\/∃ c,o = .exc c/\j8 b=true/\fy C c hs σ = .ok r:=by
 cases o with
 | ok a=>exact .inl h
 | exc c=>
  simp only [orH] at h
  split at h
  ·rename_i q; exact .inr (aC c rfl q h)
  ·exact nB h
 | bad=>exact nB h
theorem uX (hf:fns.hand=false) (hC:b9 fns k C XPc) {b:S}{hs:List (String×List H1)}(Sb:cT fns k C b) (Se:∀ e,b = .expr e->SimE fns k C XPc e) (Sa:∀ x e,b = .assign x e->SimE fns k C XPc e):cT fns k C (.tryS b hs):=by
 intro stmt h0 P Z A env σ vals fp s Q Er σ' fl ok K he hN hR
 refine jz (AW ok) fun t d ds p Ha ob oh=>?_
 (clear ok; subst Ha)
 simp only [dB] at he
 refine wpAny_Try_except (wpAny_execs_cons ?_)
 rcases zJ he with he | ⟨c,he,h1,h2⟩
 ·refine Sb ob K he (fun e s' vals' fp' st K' F=>?_) fun r e v s' st R=>hR r e v s' st R
  exact wpAny_execs_nil (wpAny_execs_nil (hN e s' vals' fp' st K' (F.more fun y hy=>List.mem_append_left _ hy)))
 ·refine w8 h1 Se Sa ob K he fun x s₁ X=>?_
  refine ae (X) fun Hc fly=>?_
  try clear X
  refine av (Hc) fun h₁ tk₁ Hd k₁=>?_
  try clear Hc
  subst Hd
  refine ao ((K.onK k₁).lv hf) fun l l1 l2 l3=>?_
  have hN':∀ b,dom s.heap b->∃ o,h₁.get? b=some o:=fun b ⟨o,e⟩=>af (k₁ b o (.inl trivial) e) fun o' e' uu=>⟨o',e'⟩
  refine vJ hN' l1 l2 l3 (Fly.exc fly) fun h₂ f₂ k₂ F₂=>iK F₂ f₂ fun h₃ f₃ k₃ F₃=>?_
  exact sA hf hC K hs (d::ds) oh (Mine.K.step (Mine.K.step k₁ k₂ fun b o e=>⟨o,e⟩) k₃ fun b o e=>⟨o,e⟩) f₃ F₃ h2 (fun e s' vals' fp' st K' F=>hN e s' vals' fp' st K' (F.more fun y hy=>List.mem_append_right _ hy)) hR
theorem lb {c:String}:∀ (b:List H1) (σ:St),exH C b σ≠.exc c
 | [],σ,h=>by cases h
 | .nam x::r,σ,h=>by cases h
 | .asg x e::r,σ,h=>by
  unfold exH at h
  split at h
  ·refine c9 h fun q h=>?_
   exact lb r _ h
  ·cases h
 | .ret e::r,σ,h=>by
  unfold exH at h
  split at h
  ·refine c9 h fun q h=>?_
   cases h
  ·cases h
theorem Aa {c c':String}(b:List H1) (σ:St) (h:exN C c b σ = .exc c'):False:=by
 have main:∀ x r,exN C c (.nam x::r) σ≠.exc c':=fun x r h=>by
  replace h:((exH C r (upd σ x (.err c,.sh))).bind fun o=>if oB o.2=true then Out.ok (rem o.1 x,o.2) else Out.bad) = .exc c':=h
  cases q:exH C r (upd σ x (.err c,.sh)) with
  | ok o=>
   rw [q] at h
   simp only [Out.ok_bind] at h
   split at h<;>cases h
  | exc d=>exact lb _ _ q
  | bad=>rw [q] at h; cases h
 cases b with
 | nil=>cases h
 | cons a r=>
  cases a with
  | nam x=>exact main x r h
  | asg x e=>exact lb (.asg x e::r) σ h
  | ret e=>exact lb (.ret e::r) σ h
theorem qz {c c':String}:∀ (hs:List (String×List H1)) (σ:St),fy C c hs σ≠.exc c'
 | [],σ,h=>by cases h
 | p::r,σ,h=>by
  unfold fy at h
  refine bE h fun uu h=>?_
  split at h
  ·split at h
   ·exact Aa _ _ h
   ·exact qz r σ h
  ·cases h
theorem vU {b:S}{hs:List (String×List H1)}:c6 fns k C (.tryS b hs):=dJ fun σ c h=>by
 simp only [dB] at h
 cases o:ex C b σ with
 | ok a=>rw [o] at h; cases h
 | exc c=>
  rw [o] at h
  simp only [orH] at h
  split at h
  ·exact qz _ _ h
  ·cases h
 | bad=>rw [o] at h; cases h
end
end Mine
namespace Mine
open PySem PyProof.Rows
section
variable {fns:Fns}{k:Nat}{C:Calls}{XP:String->Shared->Value->Shared->Prop}
variable {h0:Heap}{P Z:Addr->Prop}{A:Around}{env:Env}{σ:St}{vals:String->Option Value}{fp:String->List Addr}
theorem RV.fields {h h':Heap}{wr:List Addr}{v:Value}{x:V}{as:List Addr}(r:RV h v x as) (hw:∀ b∈wr,∃ o,h.get? b=some o/\(∀ C,o.cls≠.ref C)/\∃ fs,o.data = .fields fs) (kp:∀ b o,b∉wr->h.get? b=some o->h'.get? b=some o):RV h' v x as:=by
 have out:∀ b o,h.get? b=some o->(∀ fs,o.data≠.fields fs)->b∉wr:=fun b o e hd hm=>by
  refine ao (hw b hm) fun o' e' _ Hq=>?_
  refine ai (Hq) fun fs q=>?_
  try clear Hq
  rw [e] at e'; (have oc:=Option.some.inj e'; clear e'; subst oc)
  exact hd fs q
 have key:∀ ks b,IsTupleKey (intKind prog w) h ks b->IsTupleKey (intKind prog w) h' ks b:=fun ks b hk=>by
  refine aI (hk) fun o' it n a1 a2 a3=>?_
  try clear hk
  exact (cy o' it n (kp b o' (out b o' a1 fun fs q=>by rw [a3.1] at q; cases q) a1) a2 a3)
 cases x with
 | d x=>exact ⟨r.1.off (wr:=wr) (fun b hb o e=>.inl fun vs n q=>by
   refine ao (hw b hb) fun o' e' _ Hv=>?_
   refine ai (Hv) fun fs q'=>?_
   try clear Hv
   rw [e] at e'; (have oc:=Option.some.inj e'; clear e'; subst oc)
   rw [q] at q'; cases q') kp,r.2⟩
 | dic0=>
  refine jr (r) fun b h1 h2 h3 G4 G5=>?_
  try clear r
  refine dh (G4) fun o es ep e hx hd hr=>?_
  try clear G4
  refine cQ (G5) fun o' es' ep' e' h4 h5 h6 h7 h8=>?_
  try clear G5
  exact (iq b h1 h2 h3 (fc o es ep (kp b o (out b o e fun fs q=>by rw [hd] at q; cases q) e) hx hd hr) (eX o' es' ep' (kp b o' (out b o' e' fun fs q=>by rw [h5] at q; cases q) e') h4 h5 h6 (fun y hy=>key _ _ (h7 y hy)) h8))
 | dicI ks=>
  refine cw (r) fun b h1 h2 h3 G6=>?_
  try clear r
  refine dh (G6) fun o es ep e hx hd hr=>?_
  try clear G6
  exact (br b h1 h2 h3 (fc o es ep (kp b o (out b o e fun fs q=>by rw [hd] at q; cases q) e) hx hd hr))
 | dicT ks=>
  refine f8 (r) fun b xs h1 h2 h3 G7 h9=>?_
  try clear r
  refine cQ (G7) fun o' es' ep' e' h4 h5 h6 h7 h8=>?_
  try clear G7
  exact (fS b xs h1 h2 h3 (eX o' es' ep' (kp b o' (out b o' e' fun fs q=>by rw [h5] at q; cases q) e') h4 h5 h6 (fun y hy=>key _ _ (h7 y hy)) h8) h9.1 h9.2.1 (fun x hx=>(h9.2.2 x hx).off (wr:=wr) (fun b hb o e=>.inl fun vs n q=>by
   refine ao (hw b hb) fun o' e' _ Hr=>?_
   refine ai (Hr) fun fs q'=>?_
   try clear Hr
   rw [e] at e'; (have oc:=Option.some.inj e'; clear e'; subst oc)
   rw [q] at q'; cases q') kp))
 | rule c d n=>
  refine gU (r) fun x D o vf bs t u mA h1 h2 h3 h4 h5 h6 h7 G8 h9 h10 h11 h12 h13 h14=>?_
  try clear r
  refine bn (G8) fun oD es ep e hd=>?_
  try clear G8
  have nx:x∉wr:=fun hm=>by
   refine ao (hw x hm) fun o' e' hn _=>?_
   rw [h3] at e'; (have oc:=Option.some.inj e'; clear e'; subst oc)
   exact hn _ h4
  have nD:D∉wr:=out D oD e fun fs q=>by rw [hd.1] at q; cases q
  exact (gL x D o vf bs t u mA h1 h2 (kp x o nx h3) h4 h5 h6 h7 (b0 oD es ep (kp D oD nD e) hd) h9 h10 h11 h12 (h13.off (wr:=wr) (fun b hb o e=>.inl fun vs n q=>by
   refine ao (hw b hb) fun o' e' _ Hw=>?_
   refine ai (Hw) fun fs q'=>?_
   try clear Hw
   rw [e] at e'; (have oc:=Option.some.inj e'; clear e'; subst oc)
   rw [q] at q'; cases q') kp) h14)
 | err c=>
  obtain ⟨x,o,h1,h2,h3,h4,h5⟩:=r
  have nx:x∉wr:=fun hm=>by
   obtain ⟨o',e',hn,_⟩:=hw x hm
   rw [h3] at e'; (have oc:=Option.some.inj e'; clear e'; subst oc)
   exact hn _ h4
  exact ⟨x,o,h1,h2,kp x o nx h3,h4,h5⟩
theorem SOK.iter {h h':Heap}{wr:List Addr}(K:SOK fns k h0 P Z A env h σ vals fp) (hw:∀ b∈wr,∃ o,h.get? b=some o/\(∀ C,o.cls≠.ref C)/\∃ fs,o.data = .fields fs) (hw':∀ b∈wr,Z b->∃ o,h'.get? b=some o) (hw0:∀ b∈wr,h0.get? b=none) (hns:∀ b∈wr,∀ o,h.get? b=some o->¬ Stay o) (kp:∀ b o,b∉wr->h.get? b=some o->h'.get? b=some o):SOK fns k h0 P Z A env h' σ vals fp:=by
 have out:∀ b o,h.get? b=some o->(∀ fs,o.data≠.fields fs)->b∉wr:=fun b o e hd hm=>by
  refine ao (hw b hm) fun o' e' _ HD=>?_
  refine ai (HD) fun fs q=>?_
  try clear HD
  rw [e] at e'; (have oc:=Option.some.inj e'; clear e'; subst oc)
  exact hd fs q
 refine ⟨K.room,K.eok,K.ge,K.z0,Mine.K.step K.kp0 (KG.ofW kp hns) (fun b o e hm=>by rw [hw0 b hm] at e; cases e),K.code,K.out,fun b hb=>?_,⟨(let ⟨m,⟨o',es,ep,e',hd,_⟩,_⟩:=K.loc.ns; af (K.loc.cls) fun o e c=>(ah o (kp _ o (out _ o e fun fs q=>by rw [e] at e'; (have oc:=Option.some.inj e'; clear e'; subst oc); rw [hd] at q; cases q) e) c)),?_,K.loc.nz,fun n c a b=>?_,fun x v c a b d=>?_,K.loc.apart,K.loc.kinds⟩,fun x p hp=>?_,K.top,K.deep⟩
 ·by_cases hm:b∈wr
  ·exact hw' b hm hb
  ·refine ai (K.zdom b hb) fun o e=>?_
   exact ⟨o,kp b o hm e⟩
 ·refine af (K.loc.ns) fun m G9 hv=>?_
  refine aI (G9) fun o es ep e hd hr=>?_
  try clear G9
  exact (ah m (cy o es ep (kp _ o (out _ o e fun fs q=>by rw [hd] at q; cases q) e) hd hr) hv)
 ·refine aD (K.loc.cell n c a b) fun h1 h2 HF=>?_
  refine av (HF) fun v o h3 h4=>?_
  try clear HF
  exact (bM h1 h2 (aB v o (kp c o (out c o h3 fun fs q=>by rw [h4] at q; cases q) h3) h4))
 ·refine af (K.loc.cval x v c a b d) fun o h3 h4=>?_
  exact (ah o (kp c o (out c o h3 fun fs q=>by rw [h4] at q; cases q) h3) h4)
 ·refine ae (K.val x p hp) fun h1 IR=>?_
  refine ao (IR) fun v h2 h3 h4=>?_
  try clear IR
  exact (aE h1 (aC v h2 (h3.fields hw kp) h4))
theorem SOK.excl {s:Shared}{ns:List String}{m:Mode}{F:List Addr}(K:SOK fns k h0 P Z A env s.heap σ vals fp) (ha:∀ a∈F,Own σ fp ns a\/s.heap.get? a=none) (hd:m = .deep->∀ a∈F,s.heap.get? a=none) :
  ∀ y q,Mine.consume σ ns m y=some q->(q.2 = .top->∀ a bs,fp y=a::bs->a∉F)/\(q.2 = .deep->∀ a∈fp y,a∉F):=by
 have nf:∀ a,s.heap.get? a=none->∀ y q,σ y=some q->a∉fp y:=fun a e y q hq hm=>by
  refine ae (K.val y q hq) fun uu HW=>?_
  refine ao (HW) fun u _ hr _=>?_
  try clear HW
  refine ai (hr.there a hm) fun o e'=>?_
  rw [e] at e'; exact nN e'
 intro y q hq
 by_cases hdp:m = .deep
 ·have hq':σ y=some q:=by unfold Mine.consume at hq; rwa [if_pos hdp] at hq
  exact ⟨fun uu a bs e hm=>nf a (hd hdp a hm) y q hq' (by rw [e]; exact .head _),fun uu a ha' hm=>nf a (hd hdp a hm) y q hq' ha'⟩
 ·have hq2:Mine.demote σ ns y=some q:=by unfold Mine.consume at hq; rwa [if_neg hdp] at hq
  refine eA hq2 fun q' hq' e1 hc=>?_
  rcases hc with ⟨_,rfl⟩ | ⟨hn,rfl⟩
  ·refine ⟨fun h=>absurd h gH,fun h a ha'=>?_⟩
   refine ae (K.val y q' hq') fun uu Ih=>?_
   refine ao (Ih) fun u _ hr _=>?_
   try clear Ih
   rw [hr.scal_nil (fj h)] at ha'
   cases ha'
  ·refine ⟨fun h a bs e hm=>?_,fun h a ha' hm=>?_⟩
   ·refine Or.elim (ha a hm) (fun Hb=>?_) (fun h1=>?_)
    ·refine aA (Hb) fun z p hz hp hf=>?_
     clear Hb
     refine a7 (K.top y q hq' h) fun a' bs' e' _ _ h4=>?_
     rw [e] at e'; cases e'
     exact h4 z p (fun q=>hn (q▸hz)) hp hf
    ·exact nf a h1 y q hq' (by rw [e]; exact .head _)
   ·refine Or.elim (ha a hm) (fun He=>?_) (fun h1=>?_)
    ·refine aA (He) fun z p hz hp hf=>?_
     clear He
     exact ((K.deep y q hq' h).1 a ha').2 z p (fun q=>hn (q▸hz)) hp hf
    ·exact nf a h1 y q hq' ha'
noncomputable def FI (fns:Fns) (k:Nat) (C:Calls) (h0:Heap) (P Z:Addr->Prop) (A:Around) (env:Env) (x:String) (b:Ss) (s s₂:Shared) (ds:List PyData) (F wr:List Addr) (L:Addr->Prop) (St:Nat->Heap->Prop) (out:Out (Mine.St×Flw)) (σ₀:Mine.St) (vals:String->Option Value) (fp:String->List Addr) (n:Nat) (s':Shared):Prop :=
 ∃ (j:Nat) (σj:Mine.St) (vals':String->Option Value) (fp':String->List Addr),Stp Z s s'/\SOK fns k h0 P (fun b=>Z b\/(b∈F\/b∈wr\/L b)) A env s'.heap σj vals' fp'/\St j s'.heap/\j≤ds.length/\n=ds.length+1-j /\
    b8 (fun y σ=>exs C b (upd σ x (mk (.d y)))) (ds.drop j) σj=out/\KG (fun b=>Z b\/(b∈F\/L b)) s₂.heap s'.heap/\Frm (fun b=>Z b\/L b) (x::g8 b) σ₀ vals fp σj vals' fp'
set_option maxHeartbeats 1000000 in
theorem tb {x:String}{it:It}{b:Ss}(Si:dP fns k C XP it) (Sb:eE fns k C b) (Xb:eK fns k C b) {stmt:Stmt}{s:Shared}{Q:Flow->Shared->Prop}{Er:Value->Shared->Prop}{σ₀:Mine.St}{out:Out (Mine.St×Flw)}{ds:List PyData}{md:Mode}(L:Addr->Prop)
  (ok:okS env.scope.names (.for1 x it b) stmt=true) (K:SOK fns k h0 P Z A env s.heap σ vals fp) (e1:bt C it (ck σ (bx it)) = .ok (ds,md)) (he1:b8 (fun y σ=>exs C b (upd σ x (mk (.d y)))) ds σ₀=out) (hnb:out≠.bad)
  (hK:∀ h',Mine.K s.heap h'->SOK fns k h0 P Z A env h' σ₀ vals fp) (cs:∀ y q,σ₀ y=some q->∃ q',σ y=some q')
  (hex:∀ F:List Addr,(∀ a∈F,Own σ fp (bx it) a\/s.heap.get? a=none)->(md = .deep->∀ a∈F,s.heap.get? a=none)->∀ y q,σ₀ y=some q->(q.2 = .top->∀ a bs,fp y=a::bs->a∉F)/\(q.2 = .deep->∀ a∈fp y,a∉F))
  (hL1:∀ a,L a->a≠env.locals/\∃ vs n,s.heap.get? a=some ⟨.type "list", none,.seq vs n,#[]⟩) (hL2:∀ y q,σ₀ y=some q->∀ a∈fp y,¬ L a) (hsc:(∀ d∈ds,sx d=true)\/∀ y q,σ y=some q->∃ q',σ₀ y=some q')
  (hN:∀ σ',out = .ok (σ',.next)->∀ s' vals' fp',Stp Z s s'->KG (fun b=>Z b\/L b) s.heap s'.heap->SOK fns k h0 P Z A env s'.heap σ' vals' fp'->Frm (fun b=>Z b\/L b) (x::g8 b) σ₀ vals fp σ' vals' fp'->Q .next s')
  (hR:∀ σ' r,out = .ok (σ',.ret r)->∀ v s',Stp Z s s'->kn h0 P r v s'->Q (.ret v) s') (hX:∀ c,out = .exc c->∀ x s',Stp Z s s'->Lv A env s'.heap->Exc Z s'.heap c env.locals x->Er x s'):wpAny (model prog w) A (exec stmt env) Q Er s:=by
 replace ok:=qq ok
 revert ok; refine fun Hm=>Or.elim Hm (fun Hl=>?_) (fun ok=>?_)
 ·clear Hm
  refine jE (Hl) fun t pt iter body spos I6 ok=>?_
  clear Hl
  subst I6
  simp only [Bool.and_eq_true,beq_iff_eq] at ok
  refine ae (ok) fun Ha ob=>?_
  try clear ok
  refine ae (Ha) fun Hc oi=>?_
  try clear Ha
  refine ae (Hc) fun Hd hb=>?_
  try clear Hc
  subst Hd
  refine fP hb fun g1 g2 g3=>?_
  refine wpAny_For (Si oi (K.cx (bx it)) (by rw [e1]; simp) (fun q' hq' i s₂ I=>?_) fun c hc=>by rw [e1] at hc; cases hc) (l8 oi env)
  rw [e1] at hq'; (have oc:=Out.ok.inj hq'; clear hq'; subst oc)
  obtain ⟨kp₂,Hf,hsm⟩:=I
  refine uC (Hf) fun I fpw wr Pw St F Hk W hst hwr hfp hPw hF hFP hFd=>?_
  try clear Hf
  subst Hk
  have exists_s:∀ b o,s.heap.get? b=some o->b∉wr:=fun b o e hm=>by rw [(hwr b hm).1] at e; exact nN e
  have hLs:∃ o es ep,s.heap.get? env.locals=some o/\o.data = .dict es ep:=by
   refine af (K.loc.ns) fun m Hi _=>?_
   refine aI (Hi) fun o es ep e hd _=>?_
   try clear Hi
   exact (b0 o es ep e hd)
  have hFL:env.locals∉F:=fun hm=>by
   refine bn (hLs) fun o es ep e hd=>?_
   try clear hLs
   refine bg (hF _ hm) fun vs n e'=>?_
   obtain ⟨_,e1,d1,_⟩:=kp₂.k.data e fun fs q=>by rw [hd] at q; cases q
   rw [e1] at e'; (have oc:=Option.some.inj e'; clear e'; (clear e1 right; subst oc)); rw [hd] at d1; cases d1
  have ex0:=hex F hFP hFd
  have nf:∀ y q,σ₀ y=some q->∀ a∈fp y,a∉wr:=fun y q hq a ha hm=>by
   refine ai (cs y q hq) fun q' hq'=>?_
   refine ae (K.val y q' hq') fun uu HX=>?_
   refine ao (HX) fun u _ hr _=>?_
   try clear HX
   refine ai (hr.there a ha) fun o e=>?_
   exact exists_s a o e hm
  have wz:∀ b∈wr,¬ Z b:=fun b hm hz=>by
   refine ai (K.zdom b hz) fun o e=>?_
   exact exists_s b o e hm
  have w0:∀ b∈wr,h0.get? b=none:=fun b hm=>by
   cases e:h0.get? b with
   | none=>rfl
   | some o=>exact absurd (K.z0 b o e) (wz b hm)
  have K₂:SOK fns k h0 P (fun b=>Z b\/(b∈F\/b∈wr\/L b)) A env s₂.heap σ₀ vals fp:=by
   refine (hK _ kp₂.k).freeze (fun b hb=>?_) (fun hm=>?_) (fun n c hkn hc hm=>?_) (fun y q hq hqt a bs e hm=>?_) (fun y q hq hqd a ha hm=>?_)
   ·rcases hb with hb | hb | hb
    ·obtain ⟨vs,n,e⟩:=hF b hb; exact ⟨_,e⟩
    ·obtain ⟨o,e,_⟩:=(hwr b hb).2.2 0 _ hst; exact ⟨o,e⟩
    ·obtain ⟨_,vs,n,e⟩:=hL1 b hb; exact ⟨_,kp₂.k.get e rfl⟩
   ·rcases hm with hm | hm | hm
    ·exact hFL hm
    ·refine bn (hLs) fun o es ep e hd=>?_
     try clear hLs
     exact exists_s _ o e hm
    ·exact (hL1 _ hm).1 rfl
   ·refine aD (K.loc.cell n c hkn hc) fun uu uu JC=>?_
    refine av (JC) fun v o e hd=>?_
    try clear JC
    rcases hm with hm | hm | hm
    ·refine bg (hF c hm) fun vs n e'=>?_
     obtain ⟨_,e1,d1,_⟩:=kp₂.k.data e fun fs q=>by rw [hd] at q; cases q
     rw [e1] at e'; (have oc:=Option.some.inj e'; clear e'; (clear e1 right; subst oc)); rw [hd] at d1; cases d1
    ·exact exists_s c o e hm
    ·refine ae (hL1 c hm) fun uu Ju=>?_
     refine bg (Ju) fun vs n e'=>?_
     try clear Ju
     rw [e] at e'; (have oc:=Option.some.inj e'; clear e'; (clear e; subst oc)); cases hd
   ·rcases hm with hm | hm | hm
    ·exact (ex0 y q hq).1 hqt a bs e hm
    ·exact nf y q hq a (by rw [e]; exact .head _) hm
    ·exact hL2 y q hq a (by rw [e]; exact .head _) hm
   ·rcases hm with hm | hm | hm
    ·exact (ex0 y q hq).2 hqd a ha hm
    ·exact nf y q hq a ha hm
    ·exact hL2 y q hq a ha hm
  have FP:∀ a∈F,a≠env.locals/\(P a\/h0.get? a=none):=fun a ha=>by
   refine ⟨fun q=>hFL (q▸ha),?_⟩
   rcases hFP a ha with h | h
   ·exact (K.own h).2.2
   ·right
    cases e:h0.get? a with
    | none=>rfl
    | some o=>obtain ⟨_,e'⟩:=Mine.K.there K.kp0 e; rw [e'] at h; exact nM h
  have stp₂:Stp Z s s₂:=kp₂.stp
  refine codeAny_forLoop_any
   (FI fns k C h0 P Z A env x b s s₂ ds F wr L St out σ₀ vals fp) ?_ (ds.length+1)
   (tC 0 _ vals fp stp₂ K₂ hst (Nat.zero_le _) rfl (by simpa using he1) KG.refl (.id fun z q h=>⟨q,h⟩))
  intro n s' Hs
  refine Ah (Hs) fun j σj vals' fp' stp' K' hst' hj Ht hloop hkp hfr=>?_
  try clear Hs
  subst Ht
  have hLw:∀ b,L b->b∉wr:=fun b hb=>let ⟨_,vs,n,e⟩:=hL1 b hb; exists_s b _ e
  have hwf:∀ b∈wr,∃ o,s'.heap.get? b=some o/\(∀ C,o.cls≠.ref C)/\∃ fs,o.data = .fields fs:=fun b hm=>ao ((hwr b hm).2.2 j _ hst') fun o e g f=>(aC o e g.2.2 f)
  have hFw:∀ a∈F,a∉wr:=fun a ha hm=>(hwr a hm).2.1 ha
  have hns:∀ b∈wr,∀ o,s'.heap.get? b=some o->¬ Stay o:=fun b hm o e=>by
   refine ao ((hwr b hm).2.2 j _ hst') fun o' e' Hu JQ=>?_
   refine ai (JQ) fun fs q=>?_
   try clear JQ
   refine ae (Hu) fun uu hc=>?_
   try clear Hu
   rw [e] at e'; (have oc:=Option.some.inj e'; clear e'; (clear uu; subst oc))
   exact fun x=>x.elim (fun x=>hc.1 x.1) fun x=>let ⟨_,vs,n,e⟩:=x; by rw [q] at e; cases e
  have step1:∀ h₁ tk₁,(∀ b∈wr,∃ o,h₁.get? b=some o)->(∀ b o,b∉wr->s'.heap.get? b=some o->h₁.get? b=some o)->SOK fns k h0 P (fun b=>Z b\/(b∈F\/b∈wr\/L b)) A env h₁ σj vals' fp'/\Stp Z s {s' with heap:=h₁,toks:=tk₁ }:=fun h₁ tk₁ hw₁ hk₁=>by
   refine ⟨K'.iter hwf (fun b hm _=>hw₁ b hm) w0 hns hk₁,?_⟩
   refine av (stp') fun hh tk' Hz kk=>?_
   try clear stp'
   (clear K' hkp hst' hwf; subst Hz)
   exact (aB h₁ tk₁ rfl (kk.trans ((KG.ofW hk₁ hns).mono fun b hz hm=>wz b hm hz)))
  by_cases hlt:j<ds.length
  ·obtain ⟨d,hd⟩:∃ d,ds[j]? = some d:=⟨_,List.getElem?_eq_getElem hlt⟩
   have hdd:ds.drop j=d::ds.drop (j+1):=by
    rw [List.drop_eq_getElem_cons hlt]
    rw [List.getElem?_eq_getElem hlt] at hd
    (have oc:=Option.some.inj hd; clear hd; subst oc); rfl
   rw [hdd] at hloop
   simp only [b8] at hloop
   refine W.item j _ _ _ hlt hst' fun v h₁ tk₁ hPv hst₁ hk₁=>?_
   obtain ⟨K₁,stp₁⟩:=step1 h₁ tk₁ (fun b hm=>af ((hwr b hm).2.2 (j+1) h₁ hst₁) fun o e uu=>⟨o,e⟩) hk₁
   refine af (hPw j v hPv d hd) fun bs hrv hbs=>?_
   have hkp₁:KG (fun b=>Z b\/(b∈F\/L b)) s₂.heap h₁:=hkp.trans ((KG.ofW hk₁ hns).mono fun b hb hm=>hb.elim (wz b hm) fun hf=>hf.elim (fun hf=>hFw b hf hm) fun hf=>hLw b hf hm)
   have hrv₁:R h₁ v d bs:=hrv.onG hkp₁ fun b hb=>.inr (.inl (hbs b hb))
   have hfpH:∀ b∈fpw,∀ o,h₁.get? b=some o->hardB o=true:=fun b hb o e=>by
    rcases hfp b hb with hb | hb
    ·refine ao ((hwr b hb).2.2 _ _ hst₁) fun o' e' Hx _=>?_
     refine ae (Hx) fun hh _=>?_
     try clear Hx
     rw [e] at e'; (have oc:=Option.some.inj e'; clear e'; subst oc); exact hh
    ·refine bg (hF b hb) fun vs' n' e'=>?_
     rw [hkp₁.hard (.inl (.inr (.inl hb))) e' rfl] at e
     (have oc:=Option.some.inj e; clear e; subst oc); rfl
   have hzd:sz d=true:=hsm.2 d (List.mem_of_getElem? hd)
   refine wpAny_of_eq rfl ?_
   refine wpAny_assign_Name (K₁.put (r:=mk (.d d)) (as:=bs) g1 g3 ⟨hrv₁,hzd⟩ (fun a ha=>FP a (hbs a ha)) (fun h=>absurd h gH) (fun h=>?_) (fun y q hy hq=>⟨fun ht a cs e hm=>?_,fun hdp a ha hm=>?_⟩) fun s₃ st₃ kk₃ K₃=>?_)
   ·have:bs=[]:=hrv₁.sx_nil (fj h)
    (clear hbs hrv hrv₁; subst this)
    exact ⟨fun uu h=>(nomatch h),.nil⟩
   ·refine aA (K₁.top y q hq ht) fun a' bs' e' h1 _=>?_
    rw [e] at e'; cases e'
    exact h1 (.inr (.inl (hbs a hm)))
   ·exact ((K₁.deep y q hq hdp).1 a ha).1 (.inr (.inl (hbs a hm)))
   ·have hfx:Frm (fun b=>Z b\/L b) (x::g8 b) σ₀ vals fp (upd σj x (mk (.d d))) (d7 vals' x v) (fun y=>if y=x then bs else fp' y):=by
     refine ⟨fun y hy=>?_,fun b' hz hb' z q hq hm=>?_⟩
     ·have hyx:y≠x:=fun q=>hy (q▸.head _)
      have:=hfr.1 y hy
      exact ⟨(if_neg hyx).trans this.1,(if_neg hyx).trans this.2⟩
     ·unfold upd at hq
      dsimp only at hm
      by_cases e:z=x
      ·rw [if_pos e] at hm
       rcases hsc with h | h
       ·rw [hrv₁.sx_nil (h d (List.mem_of_getElem? hd))] at hm; cases hm
       ·refine Or.elim (hFP b' (hbs b' hm)) (fun Hj=>?_) (fun h1=>?_)
        ·refine aA (Hj) fun y q Im h1 h2=>?_
         clear Hj
         refine ai (h y q h1) fun q' hq'=>?_
         exact hb' y q' hq' h2
        ·rcases hz with hz | hz
         ·refine ai (K.zdom b' hz) fun o e=>?_
          rw [h1] at e; exact nN e
         ·refine ae (hL1 b' hz) fun uu Js=>?_
          refine bg (Js) fun vs n e=>?_
          try clear Js
          rw [h1] at e; exact nN e
      ·rw [if_neg e] at hq hm
       exact hfr.2 b' hz hb' z q hq hm
    have body₃:∀ s₄,Stp (fun b=>Z b\/(b∈F\/b∈wr\/L b)) s₃ s₄->Stp Z s s₄/\St (j+1) s₄.heap/\KG (fun b=>Z b\/(b∈F\/L b)) s₂.heap s₄.heap:=fun s₄ st₄=>by
     have st:=st₃.trans st₄
     refine ⟨stp₁.trans (st.mono fun b hb=>.inl hb),?_,?_⟩
     ·refine av (st) fun h₄ tk₄ HC kk₄=>?_
      try clear st
      (clear st₄; subst HC)
      exact W.frame _ _ _ hst₁ fun b hb o e=>kk₄.hard (.inl (.inr ((hfp b hb).elim (fun h=>.inr (.inl h)) .inl))) e (hfpH b hb o e)
     ·refine av (st) fun h₄ tk₄ HB kk₄=>?_
      try clear st
      (clear st₄; subst HB)
      exact hkp₁.trans (kk₄.mono fun b hb=>hb.imp id fun h=>h.imp id .inr)
    cases hbody:exs C b (upd σj x (mk (.d d))) with
    | bad=>rw [hbody] at hloop; exact absurd hloop.symm hnb
    | exc c=>
     rw [hbody] at hloop
     refine Xb ob K₃ hbody fun z s₄ st₄ lv exc=>?_
     refine ao (lv) fun l l1 l2 l3=>?_
     try clear lv
     refine av ((body₃ s₄ st₄).1) fun h₄ tk₄ e₄ kk₄=>?_
     (clear st₄; subst e₄)
     refine CF (N:=Z) (fun b hb=>?_) l1 l2 l3 (exc.old fun b hb=>.inl hb) fun h' ex' kg' fr'=>hX c hloop.symm z _ (aB h' tk₄ rfl (kk₄.trans kg')) (aC l l1 fr' l3) ex'
     refine ai (K.zdom b hb) fun o e=>?_
     refine af (kk₄ b o (.inl hb) e) fun o' e' _=>?_
     exact ⟨o',e'⟩
    | ok o=>
    obtain ⟨σ₁,fl₁⟩:=o
    rw [hbody] at hloop
    simp only [Out.ok_bind] at hloop
    refine Sb ob K₃ hbody (fun e s₄ vals₄ fp₄ st₄ K₄ F₄=>?_) fun r e v s₄ st₄ R₄=>?_
    ·(clear hbody; subst e)
     refine aD (body₃ s₄ st₄) fun q1 q2 q3=>?_
     refine (ah (ds.length+1-(j+1)) (by exact qX hlt) (tC (j+1) σ₁ vals₄ fp₄ q1 K₄ q2 hlt rfl hloop q3 ((hfx.trans (F₄.less fun b hb=>hb.imp id fun h=>.inr (.inr h))).more fun y hy=>(List.mem_append.mp hy).elim (fun h=>h) (.tail _))))
    ·(clear hbody; subst e)
     exact hR σ₁ r hloop.symm v s₄ (body₃ s₄ st₄).1 R₄
  ·have hjl:j=ds.length:=by exact xu hj hlt
   (clear hj hlt; subst hjl)
   rw [List.drop_length] at hloop
   simp only [b8] at hloop
   refine W.done _ _ _ hst' fun h₁ tk₁ hk₁=>?_
   have st1:Stp Z s {s' with heap:=h₁,toks:=tk₁ }:=by
    refine av (stp') fun hh tk' HL kk=>?_
    try clear stp'
    (clear K' hkp hst' hwf step1; subst HL)
    exact (aB h₁ tk₁ rfl (kk.trans ((KG.ofW hk₁ hns).mono fun b hz hm=>wz b hm hz)))
   have kgL:KG (fun b=>Z b\/L b) s.heap h₁:=((kp₂.k.mono fun uu uu=>trivial).trans (hkp.mono fun b hb=>hb.imp id .inr)).trans ((KG.ofW hk₁ hns).mono fun b hb hm=>hb.elim (wz b hm) fun h=>hLw b h hm)
   exact wpAny_execs_nil (hN σj hloop.symm {s' with heap:=h₁,toks:=tk₁ } vals' fp' st1 kgL ((K'.thaw (Z:=Z) (fun b hb=>.inl hb) K.z0).iter hwf (fun b hm hz=>absurd hz (wz b hm)) w0 hns hk₁) hfr)
 ·cases ok
theorem xl {σ:Mine.St}{ns:List String}{md:Mode}(y:String) (q:V×Mode) (hy:σ y=some q):∃ q',Mine.consume σ ns md y=some q':=by
 unfold Mine.consume
 split
 ·exact ⟨q,hy⟩
 ·unfold Mine.demote
  split
  ·exact ⟨_,by rw [hy]; rfl⟩
  ·exact ⟨q,hy⟩
theorem vZ {x:String}{it:It}{b:Ss}(Si:dP fns k C XP it) (Sb:eE fns k C b) (Xb:eK fns k C b):cT fns k C (.for1 x it b):=by
 intro stmt h0 P Z A env σ vals fp s Q Er σ' fl ok K he hN hR
 simp only [ew] at he
 refine Out.bind_k he fun HK hq he1=>?_
 obtain ⟨ds,md⟩:=HK
 have e1:bt C it (ck σ (bx it)) = .ok (ds,md):=by rw [dO C it _ σ (bS σ _)]; exact hq
 exact tb Si Sb Xb (fun uu=>False) ok K e1 he1 (by simp) (fun h' kp=>(K.onK kp).consume (bx it) md) (fun y q hq=>cZ hq) (fun F h1 h2=>K.excl h1 h2) (fun a h=>h.elim) (fun uu uu uu uu uu h=>h) (.inr xl)
  (fun σ'' e s' vals' fp' st _ K' F=>by cases e; exact hN rfl s' vals' fp' st K' ⟨F.1,fun b hz hb=>F.2 b (.inl hz) fun z q hq=>ai (cZ hq) fun q' hq'=>hb z q' hq'⟩) (fun σ'' r e=>by cases e; exact hR r rfl) fun c e=>by cases e
theorem vp (hf:fns.hand=false) {x:String}{it:It}{b:Ss}(Si:dP fns k C XPc it) (Sb:eE fns k C b) (Xb:eK fns k C b):c6 fns k C (.for1 x it b):=by
 intro stmt h0 P Z A env σ vals fp s Q Er c ok K he hE
 simp only [ew] at he
 rcases bF he with he | ⟨⟨ds,md⟩,hq,he1⟩
 ·replace ok:=qq ok
  revert ok; refine fun Hp=>Or.elim Hp (fun Ho=>?_) (fun ok=>?_)
  ·clear Hp
   refine jE (Ho) fun Is Ia Id IJ IP IK ok=>?_
   clear Ho
   subst IK
   simp only [Bool.and_eq_true,beq_iff_eq] at ok
   have e1:bt C it (ck σ (bx it)) = .exc c:=by rw [dO C it _ σ (bS σ _)]; exact he
   refine wpAny_For (Si ok.1.2 (K.cx (bx it)) (by rw [e1]; simp) (fun q' hq'=>by rw [e1] at hq'; cases hq') fun c' hc x s' X=>?_) (l8 ok.1.2 env)
   rw [e1] at hc; cases hc
   exact hE x s' X.1.stp ((K.onK X.1.k).lv hf) (Fly.exc (X.2.old K.zd))
  ·cases ok
 ·have e1:bt C it (ck σ (bx it)) = .ok (ds,md):=by rw [dO C it _ σ (bS σ _)]; exact hq
  exact tb Si Sb Xb (fun uu=>False) ok K e1 he1 (by simp) (fun h' kp=>(K.onK kp).consume (bx it) md) (fun y q hq=>cZ hq) (fun F h1 h2=>K.excl h1 h2) (fun a h=>h.elim) (fun uu uu uu uu uu h=>h) (.inr xl)
   (fun σ'' e=>by cases e) (fun σ'' r e=>by cases e) fun c' e=>by cases e; exact hE
section
variable (hf:fns.hand=false) (hC:b9 fns k C XPc)
include hf hC
mutual
theorem fY:∀ st:S,cT fns k C st/\c6 fns k C st
 | .assign x e=>⟨jO (ax hf hC bw e).e ⟨fun elt y it _=>⟨ej hf hC bw it,(ax hf hC bw elt).e⟩,fun elt y it c _=>⟨ej hf hC bw it,(ax hf hC bw elt).e,(ax hf hC bw c).t⟩⟩,pY hf (ax hf hC bw e).e⟩
 | .setitem x e=>⟨o4 (ax hf hC bw e).e,pD⟩
 | .append x e=>⟨qf (ax hf hC bw e).e,pT⟩
 | .appendAt x is e=>⟨nl (fun i=>(ax hf hC bw i).e) (ax hf hC bw e).e,nq⟩
 | .appF x is e=>⟨t0 hC (fun i=>(ax hf hC bw i).e) (ax hf hC bw e).e,sV⟩
 | .pop x i=>⟨wS (ax hf hC bw i).e,ww⟩
 | .expr e=>⟨uH (ax hf hC bw e).e,tv hf (ax hf hC bw e).e⟩
 | .ret e=>⟨wh (ax hf hC bw e).e,wZ hf (ax hf hC bw e).e⟩
 | .retn x=>⟨tA,tO⟩
 | .ite c a b=>⟨wk (ax hf hC bw c).t (bh a).1 (bh b).1,vw hf (ax hf hC bw c).t (bh a).2 (bh b).2⟩
 | .for1 x it b=>⟨vZ (ej hf hC bw it) (bh b).1 (bh b).2,vp hf (ej hf hC bw it) (bh b).1 (bh b).2⟩
 | .raise _=>⟨rl,sv hf hC⟩
 | .tryS b hs=>⟨uX hf hC (fY b).1 (fun e _=>(ax hf hC bw e).e) (fun x e _=>(ax hf hC bw e).e),vU⟩
 | .bad=>⟨fun ok=>Bool.noConfusion (show false=true from ok),wq⟩
termination_by structural s=>s
theorem bh:∀ st:Ss,eE fns k C st/\eK fns k C st
 | .nil=>⟨sy,t6⟩
 | .cons s r=>⟨rT (fY s).1 (bh r).1,rC (fY s).1 (fY s).2 (bh r).2⟩
termination_by structural s=>s
end
theorem mU (st:Ss):eE fns k C st:=(bh hf hC st).1
theorem mO (st:Ss):eK fns k C st:=(bh hf hC st).2
end
end
end Mine
namespace Mine
open PySem PyProof.Rows
structure InF (s₀:Shared) (L:Addr) (m:Str->Option Value) (cs:List (Str×Addr)) (cm:Str->Option Value) (s:Shared):Prop where
 x:InCallC s₀ L m cs cm s
 c:∃ o,s.heap.get? L=some o/\o.cls = .type "frame"
section
variable {M:Model}{A:Around}{E:Value->Shared->Prop}{s₀:Shared}{env:Env}
theorem jj (f:Str×Value->PUnit->Sem (ForInStep PUnit)) (hf:∀ n v u,f (n,v) u=(do storeName env n v; pure (.yield ⟨⟩))) (hk:env.scope.kind = .function) :
  ∀ (binds:List (Str×Value)) (m cm:Str->Option Value) (s:Shared) (Q:PUnit->Shared->Prop),InF s₀ env.locals m env.cells cm s ->
   (∀ x∈binds,env.kindOf x.1=some .local\/(env.kindOf x.1=some .cell/\(env.cells.lookup x.1).isSome=true)) ->
   (∀ s',InF s₀ env.locals (bindL env.kindOf binds m) env.cells (bindC env.kindOf binds cm) s'->Q ⟨⟩ s')->wpAny M A (forIn binds ⟨⟩ f) Q E s
 | [],m,cm,s,Q,x,_,h=>by rw [List.forIn_nil]; exact wpAny_pure (h s x)
 | (n,v)::r,m,cm,s,Q,⟨x,c⟩,hkind,h=>by
  rw [List.forIn_cons,hf]
  have hr:∀ y∈r,env.kindOf y.1=some .local\/(env.kindOf y.1=some .cell/\(env.cells.lookup y.1).isSome=true):=fun y hy=>hkind y (List.mem_cons_of_mem _ hy)
  refine bg (x.toInCall.same) fun h₁ tk e₁=>?_
  rcases hkind (n,v) List.mem_cons_self with hl | ⟨hl,hc⟩
  ·refine wpAny_bind (wpAny_bind ?_)
   rw [storeName_local hl (by rw [hk]; rfl)]
   refine iG x.toInCall.ns c fun h' hn' hs' hc'=>wpAny_pure (jj f hf hk r (fun x=>if x=n then some v else m x) cm _ Q ⟨⟨⟨(bD h' (s.toks+1) (by rw [e₁])),hn',fun b o e=>?_,x.toInCall.fresh⟩,fun k c hc=>?_,x.apart,x.above⟩,hc'⟩ hr fun s'' x''=>h s'' ?_)
   ·exact hs'.extBut b o (Nat.ne_of_lt (Nat.lt_of_lt_of_le (Heap.lt_size e) x.toInCall.fresh)) (x.toInCall.keep b o e)
   ·exact (x.cell k c hc).sameBut hs' (Nat.ne_of_gt (x.above k c (mem_of_lookup hc)))
   ·unfold bindL bindC; rw [if_pos hl,if_pos hl]; exact x''
  ·refine bG hc fun cc hc=>?_
   have hnl:¬ env.kindOf n=some .local:=by rw [hl]; decide
   have hLc:=x.above n cc (mem_of_lookup hc)
   refine wpAny_bind (wpAny_bind (wpAny_storeName_cell hk hl hc (x.cell n cc hc) fun h' hc' hs'=>wpAny_pure (jj f hf hk r m (fun y=>if y=n then some v else cm y) _ Q ⟨⟨⟨(bD h' s.toks (by rw [e₁])),x.toInCall.ns.sameBut hs' (Nat.ne_of_lt hLc),fun b o e=>?_,x.toInCall.fresh⟩,fun k c' hk'=>?_,x.apart,x.above⟩,af (c) fun o e q=>(ah o (hs'.extBut _ o (Nat.ne_of_lt hLc) e) q)⟩ hr fun s'' x''=>h s'' ?_)))
   ·exact hs'.extBut b o (Nat.ne_of_lt (Nat.lt_trans (Nat.lt_of_lt_of_le (Heap.lt_size e) x.toInCall.fresh) hLc)) (x.toInCall.keep b o e)
   ·by_cases hkn:k=n
    ·(clear h hkind hl hnl; subst hkn)
     rw [hc] at hk'; (have oc:=Option.some.inj hk'; clear hk'; subst oc)
     show h'.IsCell _ (if _=_ then some v else cm _)
     rw [if_pos rfl]; exact hc'
    ·show h'.IsCell _ (if _=_ then some v else cm _)
     rw [if_neg hkn]
     exact (x.cell k c' hk').sameBut hs' fun e=>hkn (name_of_addr x.apart (mem_of_lookup hk') (e▸mem_of_lookup hc))
   ·unfold bindL bindC; rw [if_neg hnl,if_neg hnl]; exact x''
end
section
variable {A:Around}{s:Shared}
theorem qj {R:Result->Shared->Prop}{a:Addr}{o:Obj}{fd:FuncData}{body:List Stmt}{vals:List Value}{binds:List (Str×Value)}
  (hroom:A.depth<recursionLimit) (ho:s.heap.get? a=some o) (hdata:o.data = .func fd) (hlim:s.heap.NoLimit) (hcd:s.heap.CodeRec fd.code fd.qualname)
  (hbody:fd.body = .stmts body) (hbind:bindArgs fd ⟨vals,[]⟩=pure binds) (hclo:fd.closure=[])
  (hkind:∀ x∈binds,fd.scope.names.lookup x.1=some .local\/(fd.scope.names.lookup x.1=some .cell/\((cellsFrom (s.heap.objs.size+1) fd.scope.names []).lookup x.1).isSome=true))
  (h:∀ s₁,InF s (callEnvC fd s.heap.objs.size a).locals (bindL (callEnvC fd s.heap.objs.size a).kindOf binds fun uu=>none) (callEnvC fd s.heap.objs.size a).cells
    (bindC (callEnvC fd s.heap.objs.size a).kindOf binds fun uu=>none) s₁ ->
   wpAny (model prog w) (A.deeper (callEnvC fd s.heap.objs.size a)) (execs body (callEnvC fd s.heap.objs.size a)) (fun f s'=>R (.ok (.ret (match f with | .ret v=>v | _=>.none))) s')
    (fun e s'=>wpAny (model prog w) (A.deeper (callEnvC fd s.heap.objs.size a)) (leaving (callEnvC fd s.heap.objs.size a) e) (fun uu s''=>R (.error e) s'') (fun e' s''=>R (.error e') s'') s') s₁)
  (hco:fd.scope.isCoroutine=false) (hgen:fd.scope.isGenerator=false) (hk:fd.scope.kind = .function) :
  codeAny (model prog w) A (.call (.ref a) ⟨vals,[]⟩) R s:=by
 refine codeAny_call_function hroom ho hdata hco hgen hbody hcd ?_
 rw [hbind,hclo]
 refine wpAny_pure ?_
 simp only [newFunctionEnv,Option.isSome_none,Bool.false_eq_true,if_false]
 refine wpAny_bind (wpAny_alloc ?_)
 refine wpAny_bind (wpAny_layCells _ (fun name kind cells=>by cases hkc:kind==NameKind.cell<;>simp [hkc]) _ _ _ _ ?_)
 have ok:=cellsFrom_ok fd.scope.names (s.heap.push {cls:=.type "frame", data:=.dict #[] }) (s.heap.objs.size+1) [] ⟨fun uu uu hm=>(nomatch hm),List.Pairwise.nil⟩ (by rw [Heap.size_push]; exact Nat.le_refl _)
 rw [Heap.size_push] at ok
 rw [show ({s with heap:=s.heap.push {cls:=.type "frame", data:=.dict #[] } }:Shared).heap.objs.size=s.heap.objs.size+1 from Heap.size_push ..]
 refine wpAny_bind (jj (s₀:=s) (env:=callEnvC fd s.heap.objs.size a) _ (fun uu uu uu=>rfl) hk binds (fun uu=>none) (fun uu=>none) _ _
  ⟨⟨⟨(bD _ _ rfl),(Heap.Ns.new s.heap (.type "frame")).keeps (pushCells_keeps _ _),fun b o e=>pushCells_keeps _ _ b o (Heap.get?_push_of_some _ e),Nat.le_refl _⟩,
   fun n c hc=>(ok.empty n c (mem_of_lookup hc)).1,ok.apart,fun n c hm=>(ok.empty n c hm).2⟩,_,pushCells_keeps _ _ _ _ (Heap.get?_push_size _ rfl),rfl⟩
  hkind fun s' x=>wpAny_pure ⟨hlim.keeps x.x.toInCall.keep,codeAny_func (h s' x)⟩)
end
end Mine
namespace Mine
open PySem PyProof.Rows
theorem db {n:Str}:∀ (names:List (Str×NameKind)) (k:Nat) (acc:List (Str×Addr)),(names.lookup n=some .cell\/(acc.lookup n).isSome=true)->((cellsFrom k names acc).lookup n).isSome=true
 | [],_,acc,h=>h.elim (fun e=>by cases e) id
 | (m,kd)::r,k,acc,h=>by
  unfold cellsFrom
  by_cases hk:kd = .cell
  ·subst hk
   simp only [beq_self_eq_true,if_true]
   by_cases e:n=m
   ·(clear h; subst e)
    exact db r _ _ (.inr (by simp))
   ·have e':(n==m)=false:=by simpa using e
    refine db r _ _ (h.imp (fun h=>?_) fun h=>?_)
    ·rw [List.lookup_cons,e'] at h; exact h
    ·rw [List.lookup_cons,e']; exact h
  ·have hb:(kd==NameKind.cell)=false:=by simpa using hk
   simp only [hb,Bool.false_eq_true,if_false]
   by_cases e:n=m
   ·subst e
    rcases h with h | h
    ·simp at h; exact absurd h hk
    ·exact db r _ _ (.inr h)
   ·have e':(n==m)=false:=by simpa using e
    refine db r _ _ (h.imp (fun h=>?_) id)
    rw [List.lookup_cons,e'] at h; exact h
theorem jK {kd:Str->Option NameKind}{y:Str}:∀ (bs:List (Str×Value)) (m:Str->Option Value),(∀ p∈bs,p.1≠y)->bindL kd bs m y=m y
 | [],_,_=>rfl
 | (n,v)::r,m,h=>by
  unfold bindL
  rw [jK r _ fun p hp=>h p (.tail _ hp)]
  split
  ·exact if_neg fun (e:y=n)=>h (n,v) (.head _) e.symm
  ·rfl
theorem jM {kd:Str->Option NameKind}{y:Str}:∀ (bs:List (Str×Value)) (m:Str->Option Value),(∀ p∈bs,p.1≠y)->bindC kd bs m y=m y
 | [],_,_=>rfl
 | (n,v)::r,m,h=>by
  unfold bindC
  rw [jM r _ fun p hp=>h p (.tail _ hp)]
  split
  ·rfl
  ·exact if_neg fun (e:y=n)=>h (n,v) (.head _) e.symm
theorem tu {p:String}{ps:List String}{vs:List Value}(h:p∉ps):∀ q∈(ps.map Str.ofString).zip vs,q.1≠Str.ofString p:=by
 intro q hq e
 have:=(List.of_mem_zip hq).1
 refine aQ this fun y hy e'=>?_
 exact h (cC (e'.trans e)▸hy)
theorem mz {kd:Str->Option NameKind}{x:String}{v:Value}:∀ (ps:List String) (vs:List Value) (m:Str->Option Value),ps.Nodup->(ps.zip vs).lookup x=some v->kd (Str.ofString x)=some .local->bindL kd ((ps.map Str.ofString).zip vs) m (Str.ofString x)=some v
 | [],_,_,_,h,_=>by simp at h
 | _::_,[],_,_,h,_=>by simp at h
 | p::ps,u::vs,m,hn,h,hk=>by
  rw [List.nodup_cons] at hn
  rw [List.zip_cons_cons,List.lookup_cons] at h
  rw [List.map_cons,List.zip_cons_cons]
  unfold bindL
  by_cases e:x=p
  ·subst e
   simp at h
   subst h
   rw [jK _ _ (tu hn.1),if_pos hk]
   simp
  ·have e':(x==p)=false:=by simpa using e
   rw [e'] at h
   exact mz ps vs _ hn.2 h hk
theorem mQ {kd:Str->Option NameKind}{x:String}{v:Value}:∀ (ps:List String) (vs:List Value) (m:Str->Option Value),ps.Nodup->(ps.zip vs).lookup x=some v->kd (Str.ofString x)=some .cell->bindC kd ((ps.map Str.ofString).zip vs) m (Str.ofString x)=some v
 | [],_,_,_,h,_=>by simp at h
 | _::_,[],_,_,h,_=>by simp at h
 | p::ps,u::vs,m,hn,h,hk=>by
  rw [List.nodup_cons] at hn
  rw [List.zip_cons_cons,List.lookup_cons] at h
  rw [List.map_cons,List.zip_cons_cons]
  unfold bindC
  by_cases e:x=p
  ·subst e
   simp at h
   subst h
   rw [jM _ _ (tu hn.1),if_neg (by rw [hk]; simp)]
   simp
  ·have e':(x==p)=false:=by simpa using e
   rw [e'] at h
   exact mQ ps vs _ hn.2 h hk
section
variable {fns:Fns}{k:Nat}{C:Calls}{XP:String->Shared->Value->Shared->Prop}
theorem pG {h:Heap}{xs:List V}{vals:List Value}{as:List Addr}(rs:RVs h xs vals as):∀ {ps:List String}{σ:St},bJ ps xs=some σ ->
  vals.length=ps.length/\∃ fp:String->List Addr,∀ x q,σ x=some q->x∈ps/\∃ V v,q=mk V/\(ps.zip vals).lookup x=some v/\RV h v V (fp x)/\∀ a∈fp x,a∈as:=by
 induction rs with
 | nil=>
  intro ps σ hb
  cases ps with
  | nil=>exact (aE rfl (bI (fun uu=>[]) (fun x q h=>nN ((congrFun (Option.some.inj hb) x).trans h))))
  | cons p ps=>exact nN hb
 | @cons V xs v vs a1 bs r rs IH=>
  intro ps σ hb
  cases ps with
  | nil=>exact nN hb
  | cons p ps=>
  replace hb:=Option.map_eq_some_iff.mp (show (bJ ps xs).map _=_ from hb)
  refine af (hb) fun σ' hb' G4=>?_
  clear hb
  subst G4
  obtain ⟨hl,fp',ih⟩:=IH hb'
  refine (aE (by rw [List.length_cons,List.length_cons,hl]) (bI (fun x=>if x=p then a1 else fp' x) (fun x q hq=>?_)))
  unfold upd at hq
  by_cases e:x=p
  ·subst e
   rw [if_pos rfl] at hq; (have oc:=Option.some.inj hq; clear hq; subst oc)
   have e1:(if x=x then a1 else fp' x)=a1:=if_pos rfl
   refine (aE (.head _) (bl V v rfl (by simp) ?_ (fun a ha=>?_)))
   ·show RV h v V (if x=x then a1 else fp' x)
    rw [e1]; exact r
   ·have ha':a∈(if x=x then a1 else fp' x):=ha
    rw [e1] at ha'
    exact List.mem_append_left _ ha'
  ·rw [if_neg e] at hq
   obtain ⟨h1,V',v',h2,h3,h4,h5⟩:=ih x q hq
   have e':(x==p)=false:=by simpa using e
   exact (aE (.tail _ h1) (bl V' v' h2 (by rw [List.zip_cons_cons,List.lookup_cons,e']; exact h3) (by show RV h v' V' (if x=p then a1 else fp' x); rw [if_neg e]; exact h4) (fun a ha=>List.mem_append_right _ (h5 a (by have ha':a∈(if x=p then a1 else fp' x):=ha; rwa [if_neg e] at ha')))))
theorem m0 {ft:FnT}{fd:FuncData}{fa:Addr}{A:Around}{P:Addr->Prop}{s:Shared}{h₁:Heap}{tk₁:Nat}{σ:St}{pn:List String}{pv:List Value}{fp:String->List Addr}
  (hf:fns.hand=false) (hnd:pn.Nodup) (hpb:∀ x∈pn,bj ft.scope.names x=true) (hfree:∀ p∈ft.scope.names,(p.2 != .free)=true) (hh:fns.hand=false->A.handled=none) (r1:A.depth+2*k+5<recursionLimit) (r2:A.units+100*k+303<cLine) (hfr:∃ l,A.frames=some l/\FrOk s.heap l) (ge:GE fns s.heap)
  (hsc:fd.scope=ft.scope) (hgl:fd.globals=mainGlobals) (hbl:fd.builtins=builtinsNs) (hkind:fd.scope.kind = .function) (hcode:ft.lam=true->CodeOk s.heap fd.code fd.qualname)
  (X:InF s (callEnvC fd s.heap.objs.size fa).locals (bindL (callEnvC fd s.heap.objs.size fa).kindOf ((pn.map Str.ofString).zip pv) fun uu=>none) (callEnvC fd s.heap.objs.size fa).cells (bindC (callEnvC fd s.heap.objs.size fa).kindOf ((pn.map Str.ofString).zip pv) fun uu=>none) {s with heap:=h₁,toks:=tk₁ })
  (hfp:∀ x q,σ x=some q->x∈pn/\∃ V v,q=mk V/\(pn.zip pv).lookup x=some v/\RV s.heap v V (fp x)/\∀ a∈fp x,P a) :
  SOK {fns with lam:=ft.lam } k s.heap P (fun b=>∃ o,s.heap.get? b=some o) (A.deeper (callEnvC fd s.heap.objs.size fa)) (callEnvC fd s.heap.objs.size fa) h₁ σ (fun x=>(pn.zip pv).lookup x) fp:=by
 have hin:=X.x.toInCall
 have hnames:(callEnvC fd s.heap.objs.size fa).scope.names=ft.scope.names:=by show fd.scope.names=_; rw [hsc]
 have hloc:(callEnvC fd s.heap.objs.size fa).locals=s.heap.objs.size:=rfl
 have hko:∀ n,(callEnvC fd s.heap.objs.size fa).kindOf n=ft.scope.names.lookup n:=fun n=>by show fd.scope.names.lookup n=_; rw [hsc]
 have nofree:∀ n,(callEnvC fd s.heap.objs.size fa).kindOf n≠some .free:=fun n e=>by
  rw [hko] at e
  have:=hfree _ (mem_of_lookup e)
  simp at this
 have hold:¬ SF.old s.heap.objs.size:=fun q=>by
  refine ai (ge.old _ q) fun o e=>?_
  rw [bi] at e; exact nN e
 refine ⟨⟨hh,?_,?_⟩,⟨hkind,hgl,hbl,fun n hn=>?_⟩,ge.flag ft.lam fns.hand,fun b o e=>⟨o,e⟩,.of hin.keep,fun q=>⟨_,hcode q⟩,fun uu=>?_,fun b ⟨o,e⟩=>⟨o,hin.keep b o e⟩,⟨X.c,(ah _ hin.ns (fun x v hv hk=>?_)),fun ⟨o,e⟩=>?_,fun n c hk hc=>?_,fun x v c hv hk hc=>?_,fun n n' c h1 h2=>?_,fun x v hv=>?_⟩,fun x p hp=>?_,fun x p hp ht=>?_,fun x p hp hdp=>?_⟩
 ·show A.depth+1+2*k+(if fns.hand then 1 else 4)<_
  rw [hf]; simp only [Bool.false_eq_true,if_false]; exact BS r1
 ·show A.units+3+100*k+(if fns.hand then 200 else 300)<_
  rw [hf]; simp only [Bool.false_eq_true,if_false]; exact En r2
 ·rcases hn with hn | hn
  ·rw [hko] at hn
   exact Option.isSome_iff_exists.mp (by show ((cellsFrom _ fd.scope.names []).lookup n).isSome=true; rw [hsc]; exact db _ _ _ (.inl hn))
  ·exact absurd hn (nofree n)
 ·refine af (hfr) fun l e1 e2=>?_
  try clear hfr
  exact (br l (Around.frames_deeper e1) e2 rfl hold)
 ·exact mz pn pv _ hnd hv hk
 ·rw [hloc] at e
  rw [bi] at e; exact nN e
 ·have hm:=mem_of_lookup hc
  have hlt:=X.x.above n c hm
  refine (bM (Nat.ne_of_gt hlt) (fun ⟨o,e⟩=>?_) (bI _ (X.x.cell n c hc)))
  have:=Heap.lt_size e
  rw [hloc] at hlt
  exact Nat.lt_irrefl _ (Nat.lt_trans this hlt)
 ·have:=X.x.cell _ c hc
  rw [mQ pn pv _ hnd hv hk] at this
  exact this
 ·exact name_of_addr X.x.apart (mem_of_lookup h1) (mem_of_lookup h2)
 ·have hm:x∈pn:=by
   have:(x,v)∈pn.zip pv:=by
    generalize pn.zip pv=l at hv
    induction l with
    | nil=>exact nN hv
    | cons q l ih=>
     rw [List.lookup_cons] at hv
     split at hv
     ·rename_i e
      (have oc:=Option.some.inj hv; clear hv; (clear ih; subst oc))
      rw [beq_iff_eq.mp e]
      exact .head _
     ·exact .tail _ (ih hv)
   exact (List.of_mem_zip this).1
  have hb:=hpb x hm
  unfold bj at hb
  simp only [Bool.and_eq_true,Bool.or_eq_true,beq_iff_eq] at hb
  rw [hko]
  exact hb.2
 ·obtain ⟨h1,V,v,G5,h3,h4,h5⟩:=hfp x p hp
  (clear hp; subst G5)
  have hb:=hpb x h1
  unfold bj at hb
  simp only [Bool.and_eq_true] at hb
  refine (aE (by rw [hnames]; exact hb.1.1) (aC v h3 (h4.keep hin.keep) (fun a h=>⟨fun q=>?_,.inl (h5 a h)⟩)))
  refine ai (h4.there a h) fun o e=>?_
  rw [q,hloc,bi] at e; exact nN e
 ·obtain ⟨h1,V,v,G6,_⟩:=hfp x p hp
  (clear hp; subst G6)
  exact absurd ht gH
 ·obtain ⟨h1,V,v,G7,h3,h4,h5⟩:=hfp x p hp
  (clear hp; subst G7)
  rw [h4.scal_nil (fj hdp)]
  exact ⟨fun uu h=>(nomatch h),.nil⟩
theorem kO {ft:FnT}{fd:FuncData}{pn:List String}{vals:List Value}{n:Nat}(hsc:fd.scope=ft.scope) (hbk:∀ x∈pn,bj ft.scope.names x=true):∀ x∈(pn.map Str.ofString).zip vals,fd.scope.names.lookup x.1=some .local\/(fd.scope.names.lookup x.1=some .cell/\((cellsFrom n fd.scope.names []).lookup x.1).isSome=true):=by
 intro x hx
 refine aQ (List.of_mem_zip hx).1 fun y hy e=>?_
 have hb:=hbk y hy
 unfold bj at hb
 simp only [Bool.and_eq_true,Bool.or_eq_true,beq_iff_eq] at hb
 rw [hsc,← e]
 rcases hb.2 with h | h
 ·exact .inl h
 ·exact .inr ⟨h,db _ _ _ (.inl h)⟩
section
variable {f:Fn}{vs:List V}{σ σ':St}
theorem wI (h:bJ f.params vs=some σ) (e:exs C f.body σ = .bad):aH C f vs = .bad:=by unfold aH; rw [h]; dsimp only; rw [e]; rfl
theorem vK {c:String}(h:bJ f.params vs=some σ) (e:exs C f.body σ = .exc c):aH C f vs = .exc c:=by unfold aH; rw [h]; dsimp only; rw [e]; rfl
theorem tR (h:bJ f.params vs=some σ) (e:exs C f.body σ = .ok (σ',.next)):aH C f vs = .ok (.d .none,.deep):=by unfold aH; rw [h]; dsimp only; rw [e]; rfl
theorem wa {r:V×Mode}(h:bJ f.params vs=some σ) (e:exs C f.body σ = .ok (σ',.ret r)):aH C f vs = .ok r:=by unfold aH; rw [h]; dsimp only; rw [e]; rfl
theorem vG (h:bJ f.params vs=some σ) (e:exs C f.body σ = .bad):bW C f vs = .bad:=by unfold bW; rw [h]; dsimp only; rw [e]; rfl
theorem wm {c:String}(h:bJ f.params vs=some σ) (e:exs C f.body σ = .exc c):bW C f vs = .exc c:=by unfold bW; rw [h]; dsimp only; rw [e]; rfl
theorem mu (h:bJ f.params vs=some σ) (e:exs C f.body σ = .ok (σ',.next)):bW C f vs=dX σ':=by unfold bW; rw [h]; dsimp only; rw [e]; rfl
theorem wK {r:V×Mode}(h:bJ f.params vs=some σ) (e:exs C f.body σ = .ok (σ',.ret r)):bW C f vs = .bad:=by unfold bW; rw [h]; dsimp only; rw [e]; rfl
end
theorem n7 {A:Around}{env:Env}{s s₁:Shared}{c:String}{x:Value}{R:Shared->Prop}{E:Value->Shared->Prop}(kp:Kp s s₁) (lv:Lv A env s₁.heap) (ex:Exc (dom s.heap) s₁.heap c env.locals x) (hR:∀ s',XPc c s x s'->R s') :
  wpAny (model prog w) A (leaving env x) (fun uu s'=>R s') E s₁:=by
 refine ao (lv) fun l l1 l2 l3=>?_
 try clear lv
 refine av (kp) fun h₁ tk₁ G8 k₁=>?_
 try clear kp
 subst G8
 refine DQ (N:=dom s.heap) (fun b hb=>?_) l1 l2 l3 ex fun h' fl kg=>hR _ ⟨(aB h' tk₁ rfl (Mine.K.step k₁ kg fun b o e=>⟨o,e⟩)),fl⟩
 refine ai (hb) fun o e=>?_
 try clear hb
 refine af (k₁ b o (.inl trivial) e) fun o' e' _=>?_
 exact ⟨o',e'⟩
set_option maxHeartbeats 1000000 in
theorem lP (hf:fns.hand=false) {fn:Fn}{ft:FnT}{fa:Addr}(hC:b9 {fns with lam:=ft.lam } k C XPc) (hok:okF ft fn=true) {A:Around}{P:Addr->Prop}{s:Shared}{Q:Value->Shared->Prop}{Er:Value->Shared->Prop}{xs:List V}{vals:List Value}{as:List Addr}
  (hroom:Room fns.hand (k+1) A) (hfr:∃ l,A.frames=some l/\FrOk s.heap l) (ge:GE fns s.heap) (hfa:FnAt s.heap ft fa) (rs:RVs s.heap xs vals as) (ha:∀ a∈as,P a) (nb:aH C fn xs≠.bad) (hQ:∀ r,aH C fn xs = .ok r->∀ v s',EP P s r v s'->Q v s') (hE:∀ c,aH C fn xs = .exc c->∀ x s',XPc c s x s'->Er x s') :
  wpAny (model prog w) A (call (.ref fa) vals []) Q Er s:=by
 unfold okF at hok
 simp only [Bool.and_eq_true,decide_eq_true_eq,List.all_eq_true] at hok
 refine ae (hok) fun G9 hfree=>?_
 try clear hok
 refine ae (G9) fun Ha hbody=>?_
 try clear G9
 refine ae (Ha) fun Hc hnd=>?_
 try clear Ha
 refine ae (Hc) fun hps hbk=>?_
 try clear Hc
 cases hσ:bJ fn.params xs with
 | none=>exact absurd (by unfold aH; rw [hσ]) nb
 | some σ=>
 obtain ⟨hlen,fp,hfp⟩:=pG rs hσ
 refine tS (hfa) fun o fd ho hd hbd hsc hgl hcl hbl hcr hcode hbind hco hgen hkind=>?_
 try clear hfa
 rw [hps] at hbind
 refine wpAny_call (qj (by have:=hroom.at hf; exact EJ this) ho hd ge.nolim hcr hbd (hbind vals hlen) hcl (kO hsc hbk) (fun s₁ X=>?_) hco hgen hkind)
 refine bg (X.x.toInCall.same) fun h₁ tk₁ Hd=>?_
 subst Hd
 have K:=m0 (k:=k) (ft:=ft) (fa:=fa) (σ:=σ) (pn:=fn.params) (pv:=vals) (fp:=fp) (P:=P) hf hnd hbk hfree hroom.1 (Nat.lt_of_le_of_lt (by exact Nat.le_succ _) (hroom.at hf).1) (Nat.lt_of_le_of_lt (by exact CD) (hroom.at hf).2) hfr ge hsc hgl hbl hkind hcode X fun x q hq=>by
  obtain ⟨h1,V,v,h2,h3,h4,h5⟩:=hfp x q hq
  exact (aE h1 (bl V v h2 h3 h4 (fun a h=>ha a (h5 a h))))
 have kp:∀ s',Stp (fun b=>∃ o,s.heap.get? b=some o) {s with heap:=h₁,toks:=tk₁ } s'->Kp s s':=fun s' st=>by
  refine av (st) fun h' tk' Hf kk=>?_
  try clear st
  subst Hf
  exact (aB h' tk' rfl (Mine.K.step (Mine.K.of X.x.toInCall.keep) kk fun b o e=>⟨o,e⟩))
 have okb:cO (callEnvC fd s.heap.objs.size fa).scope.names fn.body ft.body=true:=by show cO fd.scope.names fn.body ft.body=true; rw [hsc]; exact hbody
 cases hex:exs C fn.body σ with
 | bad=>exact absurd (wI hσ hex) nb
 | exc c=>exact mO (fns:={fns with lam:=ft.lam }) hf hC fn.body okb K hex fun x s' st lv ex=>n7 (kp s' st) lv ex fun s'' X=>hE c (vK hσ hex) x s'' X
 | ok o=>
  obtain ⟨σ',fl⟩:=o
  refine mU (fns:={fns with lam:=ft.lam }) hf hC fn.body okb K hex (fun e s' vals' fp' st K' _=>?_) fun q e v s' st R=>?_
  ·subst e
   exact hQ _ (tR hσ hex) _ _ (.scalar (kp s' st) .none rfl (by simp))
  ·subst e
   refine cw (R) fun as' h1 h2 h3 h4=>?_
   try clear R
   exact hQ _ (wa hσ hex) _ _ ⟨kp s' st,as',h1,h2,h3,h4⟩
end
end Mine
namespace Mine
open PySem PyProof.Rows
theorem mM {env:Env}:∀ (l1 l2:List Stmt),execs (l1++l2) env=(execs l1 env>>=fun f=>match f with | .next=>execs l2 env | f=>pure f)
 | [],l2=>rfl
 | st::l1,l2=>by
  rw [List.cons_append,execs_cons,execs_cons,bind_assoc]
  congr 1
  funext f
  cases f with
  | next=>exact mM l1 l2
  | _=>rfl
section
variable {fns:Fns}{k:Nat}{C:Calls}
noncomputable def But2 (x D:Addr) (h h':Heap):Prop:=∀ b o,b≠x->b≠D->h.get? b=some o->h'.get? b=some o
theorem But2.kk {x D:Addr}{h0 h h':Heap}(a:But2 x D h h') (k:K h0 h) (hx:h0.get? x=none) (hD:h0.get? D=none) (nx:∀ o,h.get? x=some o->¬ Stay o) (nD:∀ o,h.get? D=some o->¬ Stay o):K h0 h' :=
 K.step k (G:=fun b=>b≠x/\b≠D) (.of fun b o hb e=>a b o (fun q=>hb.elim (fun h=>h.1 q) (nx o (q▸e))) (fun q=>hb.elim (fun h=>h.2 q) (nD o (q▸e))) e) fun b o e=>⟨fun q=>(by rw [q,hx] at e; cases e),fun q=>(by rw [q,hD] at e; cases e)⟩
theorem Loc.but2 {x D:Addr}{h h':Heap}{env:Env}{Z:Addr->Prop}{vals:String->Option Value}(L:Loc env Z h vals) (a:But2 x D h h') (hx:Z x) (hD:Z D):Loc env Z h' vals where
 cls:=af (L.cls) fun o e c=>(ah o (a _ o (fun q=>L.nz (q▸hx)) (fun q=>L.nz (q▸hD)) e) c)
 ns:=let ⟨m,⟨o,es,ep,e,r⟩,q⟩:=L.ns; (ah m (b0 o es ep (a _ o (fun q=>L.nz (q▸hx)) (fun q=>L.nz (q▸hD)) e) r) q)
 nz:=L.nz
 cell:=fun n c q1 q2=>by
  refine aD (L.cell n c q1 q2) fun h1 h2 Hq=>?_
  refine av (Hq) fun v o e r=>?_
  try clear Hq
  exact (bM h1 h2 (aB v o (a c o (fun q=>h2 (q▸hx)) (fun q=>h2 (q▸hD)) e) r))
 cval:=fun y v c q1 q2 q3=>by
  refine aD (L.cell _ c q2 q3) fun uu h2 _=>?_
  refine af (L.cval y v c q1 q2 q3) fun o e r=>?_
  exact (ah o (a c o (fun q=>h2 (q▸hx)) (fun q=>h2 (q▸hD)) e) r)
 apart:=L.apart
 kinds:=L.kinds
theorem iZ {A:Around}{h:Heap}{g:Array GenState}{dr:Drawn}{tk:Nat}{os:OsState}{E:Value->Shared->Prop}{x D:Addr}{mA:Str->Option Value}{n:String}{v:Value}{Q:Unit->Shared->Prop}{ns:List Str}(ge:RuleAt fns h) (hn:n∈fieldNames) (hw:Within mA ns) (hs:ns.length≤8) (hxC:x≠SF.rule)
  (I:h.Inst x SF.rule mA) (hd:∀ o,h.get? x=some o->o.dict=some D)
  (hQ:∀ h' tk',h'.Inst x SF.rule (fun y=>if y=Str.ofString n then some v else mA y)->But2 x D h h'->(∀ o,h'.get? x=some o->o.dict=some D)->Q () ⟨h',g,dr,tk',os⟩) :
  wpAny (model prog w) A (setAttr (.ref x) (Str.ofString n) v) Q E ⟨h,g,dr,tk,os⟩:=by
 refine aA (ge) fun N mN G4 quiet _=>?_
 try clear ge
 obtain ⟨G5,hN⟩:=G4
 refine eB (G5) fun nm q bs' sn sub col dd k0 k1 k2 k3 k5 hC=>?_
 try clear G5
 have hB:typeLookup (.type "object") (Str.ofString n)=pure none:=by
  simp only [fieldNames,List.mem_cons,List.not_mem_nil,or_false] at hn
  rcases hn with rfl | rfl | rfl
  ·exact kG
  ·exact jb
  ·exact mK
 have hq:mN (Str.ofString n)=none:=quiet n (by
  simp only [fieldNames,List.mem_cons,List.not_mem_nil,or_false] at hn
  rcases hn with rfl | rfl | rfl<;>simp)
 refine store_attr PySem.F.store_object hC hN (quiet "__setattr__" (by simp)) hq hB hxC I (fun h' tk' I' hk hsame=>?_) hw (by rw [sizeLine_eq]; exact C7 hs)
 refine af (I) fun o e _=>?_
 try clear I
 have hdo:=hd o e
 refine hQ h' tk' I' (fun b ob h1 h2 eb=>hk b ob h1 (fun o₀ dx e₀ ed=>by rw [e] at e₀; (have oc:=Option.some.inj e₀; clear e₀; subst oc); rw [hdo] at ed; (have oc:=Option.some.inj ed; clear ed; subst oc); exact h2) eb) fun o' e'=>?_
 refine jr (hsame o e) fun o₁ e₁ _ _ _ hdd=>?_
 rw [e'] at e₁; (have oc:=Option.some.inj e₁; clear e₁; subst oc)
 exact hdd D hdo
theorem Inst.ns1 {h:Heap}{x Cl D:Addr}{mA:Str->Option Value}(I:h.Inst x Cl mA) (hd:∀ o,h.get? x=some o->o.dict=some D):∃ o,h.get? x=some o/\o.cls = .ref Cl/\(∀ c,o.data≠.cls c)/\o.dict=some D/\D≠x/\h.Ns1 D mA:=by
 refine cw (I) fun o e h1 h2 h3=>?_
 try clear I
 have:=hd o e
 rcases h3 with ⟨q,_⟩ | ⟨d,q1,q2,q3⟩
 ·rw [this] at q; exact nM q
 ·rw [this] at q1; (have oc:=Option.some.inj q1; clear q1; subst oc)
  exact (jw o e h1 h2 this q2 q3)
theorem Inst.kk {h h':Heap}{x Cl D:Addr}{mA:Str->Option Value}(I:h.Inst x Cl mA) (hd:∀ o,h.get? x=some o->o.dict=some D) (k:K h h'):h'.Inst x Cl mA/\∀ o,h'.get? x=some o->o.dict=some D:=by
 refine iz (Inst.ns1 I hd) fun o e h1 h2 h3 h4 G6=>?_
 refine aI (G6) fun oD es ep eD hdD r=>?_
 try clear G6
 have e':=K.get k e (by unfold hardB; rw [h1])
 obtain ⟨oD',eD',q,_⟩:=K.data k eD fun fs q=>by rw [hdD] at q; cases q
 exact ⟨(br o e' h1 h2 (.inr (aC D h3 h4 (cy oD' es ep eD' (q.trans hdD) r)))),fun o' q=>by rw [e'] at q; (have oc:=Option.some.inj q; clear q; subst oc); exact h3⟩
theorem tj {σ:St}{c:String}(h:dX σ = .exc c):False:=by
 unfold dX at h
 refine bE h fun uu h=>?_
 refine bE h fun uu h=>?_
 refine bE h fun uu h=>?_
 refine bE h fun uu h=>?_
 refine bE h fun uu h=>?_
 refine bE h fun uu h=>?_
 refine bE h fun uu h=>?_
 refine bE h fun uu h=>?_
 split at h<;>cases h
set_option maxHeartbeats 2000000 in
theorem rM {σ:St}{r:V×Mode}(h:dX σ = .ok r):∃ ci mc rows ys,r=(.rule ci (.list rows) (ys:List PyData).length,.deep)/\σ "count" = some (.d (.int ci),mc)/\σ "full" = some (.d (.list rows),.deep)/\rows[0]? = some (.list ys):=by
 unfold dX at h
 obtain ⟨⟨pc,mc⟩,hc1,h⟩:=aT h
 obtain ⟨dc,hc2,h⟩:=aT h
 obtain ⟨ci,hc3,h⟩:=aT h
 obtain ⟨⟨pf,mf⟩,hf1,h⟩:=aT h
 obtain ⟨df,hf2,h⟩:=aT h
 obtain ⟨rows,hf3,h⟩:=aT h
 obtain ⟨row0,hf4,h⟩:=aT h
 obtain ⟨ys,hf5,h⟩:=aT h
 by_cases hd:mf = .deep
 ·rw [if_pos hd] at h
  have e1:=bB hc2
  have e2:=cu hc3
  have e3:=bB hf2
  have e4:=bC hf3
  have e5:=bC hf5
  dsimp only at e1 e3
  rw [e1,e2] at hc1
  rw [e3,e4,hd] at hf1
  rw [e5] at hf4
  exact (g9 ci mc rows ys ((Out.ok.inj h).symm) hc1 hf1 hf4)
 ·rw [if_neg hd] at h; exact nB h
theorem uP {σ:St}{rows ys:List PyData}(hf1:σ "full" = some (.d (.list rows),.deep)) (hf4:rows[0]? = some (.list ys)):ev C eg (ck σ ["full"]) = .ok (sI ys.length):=by
 have h1:ck σ ["full"] "full" = some (.d (.list rows),.deep):=by unfold ck; rw [if_pos (by simp)]; exact hf1
 have h2:kq (.list rows) 0=some (.list ys):=by
  show (ba 0 rows.length).bind (fun k=>rows[k]?)=_
  have hl:0<rows.length:=(List.getElem?_eq_some_iff.mp hf4).1
  unfold ba
  rw [if_pos (Int.le_refl 0),if_pos (by exact la3 hl)]
  exact hf4
 unfold eg
 rw [jo,jB,c7,dH,h1]
 show ((eV (.list rows) (.int 0)).bind _)=_
 unfold eV
 rw [show dN (.int 0)=some 0 from rfl]
 simp only [au,h2,Out.ok_bind]
 rfl
theorem tp (C:Calls) (hf:fns.hand=false) {A:Around}{env:Env}{P:Addr->Prop}{hh h' hs:Heap}{g:Array GenState}{dr:Drawn}{tk tk':Nat}{os:OsState}{x D:Addr}{σ:St}{vals:String->Option Value}{fp:String->List Addr}{Q:Flow->Shared->Prop}{Er:Value->Shared->Prop}
  {ci:Int}{mc:Mode}{rows ys:List PyData}{a3 b3 c3:Stmt}(Mk:Heap.MadeObj hh h' x D SF.rule) (hxC:x≠SF.rule) (kh:K h' hs) (ge:GE fns hh) (R0:RuleAt fns hh) (hlam:fns.lam=false)
  (K':SOK fns k h' P (fun b=>∃ o,h'.get? b=some o) A env hs σ vals fp) (hfr:∃ l,A.frames=some (env::l)/\FrOk hh l) (hvs:vals "self" = some (.ref x))
  (hc1:σ "count" = some (.d (.int ci),mc)) (hf1:σ "full" = some (.d (.list rows),.deep)) (hf4:rows[0]? = some (.list ys))
  (o1:el env.scope.names "count" (.name "count") a3=true) (o2:el env.scope.names "full" (.name "full") b3=true) (o3:el env.scope.names "size" eg c3=true)
  (hQ:∀ s',EP P ⟨hh,g,dr,tk,os⟩ (.rule ci (.list rows) ys.length,.deep) (.ref x) s'->Q .next s'):wpAny (model prog w) A (execs [a3,b3,c3] env) Q Er ⟨hs,g,dr,tk',os⟩:=by
 have kM:K hh h':=.of Mk.keeps
 have Zx:∃ o,h'.get? x=some o:=by obtain ⟨o,e,_⟩:=Mk.inst; exact ⟨o,e⟩
 refine iz (Inst.ns1 Mk.inst Mk.dict) fun ox ex hxc hxd hxdict hDx hNs=>?_
 have ZD:∃ o,h'.get? D=some o:=by obtain ⟨o,_,_,e,_⟩:=hNs; exact ⟨o,e⟩
 have kall:K hh hs:=KG.trans kM kh
 refine ae (K'.val "count" _ hc1) fun uu IC=>?_
 refine ao (IC) fun vc hvc Hz _=>?_
 try clear IC
 refine ae (Hz) fun rvc _=>?_
 try clear Hz
 refine rvc.isInt_k fun tc Hx _=>?_
 (clear rvc; subst Hx)
 refine ae (K'.val "full" _ hf1) fun uu HX=>?_
 refine ao (HX) fun vf hvf HC _=>?_
 try clear HX
 refine ae (HC) fun rvf zvf=>?_
 try clear HC
 refine ae (K'.deep "full" _ hf1 rfl) fun dp1 dp2=>?_
 refine ae (Inst.kk Mk.inst Mk.dict kh) fun I1 D1=>?_
 refine cb (jY o1) fun q1 q2 v1 q3 HB ov1=>?_
 (clear o1; subst HB)
 refine cb (jY o2) fun q4 q5 v2 q6 HL ov2=>?_
 (clear o2; subst HL)
 refine cb (jY o3) fun q7 q8 v3 q9 HK ov3=>?_
 (clear o3; subst HK)
 refine ao (ku ov1) fun q10 H8 _ nd1=>?_
 subst H8
 refine ao (ku ov2) fun q11 H6 _ nd2=>?_
 subst H6
 have nds:aP "self" = true:=by decide
 have xStay:∀ {h:Heap}{mA:Str->Option Value},h.Inst x SF.rule mA->∀ o,h.get? x=some o->¬ Stay o:=fun I o e=>by
  refine ao (I) fun o' e' c' _=>?_
  try clear I
  rw [e] at e'; (have oc:=Option.some.inj e'; clear e'; subst oc)
  exact Stay.not_cls (by rw [c']; simp) (by rw [c']; simp)
 have dStay:∀ {h:Heap}{mA:Str->Option Value},h.Inst x SF.rule mA->(∀ o,h.get? x=some o->o.dict=some D)->(∀ o,h.get? D=some o->¬ Stay o)/\∀ o,h.get? D=some o->∀ vs n,o.data≠.seq vs n:=fun I d=>by
  obtain ⟨_,_,_,_,_,_,o',es,ep,e',hd',_⟩:=Inst.ns1 I d
  exact ⟨fun o e=>by rw [e] at e'; (have oc:=Option.some.inj e'; clear e'; subst oc); exact Stay.not_dict hd',fun o e vs n q=>by rw [e] at e'; (have oc:=Option.some.inj e'; clear e'; subst oc); rw [hd'] at q; cases q⟩
 have nxf:x∉fp "full" := fun q=>(dp1 x q).1 Zx
 have nDf:D∉fp "full" := fun q=>(dp1 D q).1 ZD
 have keepR:∀ {h h2:Heap}{mA:Str->Option Value},h.Inst x SF.rule mA->(∀ o,h.get? x=some o->o.dict=some D)->But2 x D h h2->R h vf (.list rows) (fp "full")->R h2 vf (.list rows) (fp "full"):=fun I d b r=>by
  refine r.on2 fun a o ha ⟨vs,n,hs⟩ e=>b a o (fun q=>?_) (fun q=>?_) e
  ·(clear D1 I1 Mk Zx b d dStay ex hDx hQ hvs hxC xStay; subst q)
   refine ao (I) fun o' e' c' _=>?_
   try clear I
   rw [e] at e'; (have oc:=Option.some.inj e'; clear e'; subst oc)
   rcases ha with ha | ha
   ·exact nxf ha
   ·rw [c'] at ha; cases ha
  ·(clear D1 Mk ZD b hDx hNs hxdict nDf; subst q)
   exact (dStay I d).2 o e vs n hs
 refine wpAny_execs_cons (plainObj_wpAny_Assign_Attribute (cL K'.eok.kind nd1 (K'.loc.var K'.eok hvc) (cL K'.eok.kind nds (K'.loc.var K'.eok hvs) (iZ (fns:=fns) (R0.k kall) (by simp [fieldNames]) Within.nil (by simp) hxC I1 D1 fun h2 tk2 I2 b2 D2=>?_))) rfl)
 have k2:K hh h2:=b2.kk kall Mk.newX Mk.newD (xStay I1) (dStay I1 D1).1
 have L2:=K'.loc.but2 b2 Zx ZD
 refine wpAny_execs_cons (plainObj_wpAny_Assign_Attribute (cL K'.eok.kind nd2 (L2.var K'.eok hvf) (cL K'.eok.kind nds (L2.var K'.eok hvs) (iZ (fns:=fns) (R0.k k2) (by simp [fieldNames]) (Within.cons _ _ Within.nil) (by simp) hxC I2 D2 fun h3 tk3 I3 b3 D3=>?_))) rfl)
 have k3:K hh h3:=b3.kk k2 Mk.newX Mk.newD (xStay I2) (dStay I2 D2).1
 have L3:=L2.but2 b3 Zx ZD
 have rf3:R h3 vf (.list rows) (fp "full"):=keepR I2 D2 b3 (keepR I1 D1 b2 rvf)
 have he:ev C eg (ck σ ["full"]) = .ok (sI ys.length):=uP hf1 hf4
 have cx3:Cx fns k A (fun uu=>True) h3 env (ck σ ["full"]):=by
  refine ⟨K'.room,K'.eok,ge.k k3,(fun q=>by rw [hlam] at q; cases q),fun q=>?_,fun y py hy _=>?_⟩
  ·refine cw (K'.out q) fun l e1 e2 e3 e4=>?_
   refine af (hfr) fun l' f1 f2=>?_
   refine (ah _ f1 (fun env' he'=>?_))
   rcases List.mem_cons.mp he' with rfl | he'
   ·refine af (L3.ns) fun m Ie _=>?_
    refine aI (Ie) fun o es ep g1 g2 _=>?_
    refine af (L3.cls) fun o' g3 g4=>?_
    rw [g1] at g3; (have oc:=Option.some.inj g3; clear g3; subst oc)
    exact (aE K'.eok.kind (jH _ _ es ep e3 e4 g1 g4 g2))
   ·exact (f2.k k3) env' he'
  ·unfold ck at hy
   split at hy
   ·rename_i hm
    rw [List.mem_singleton.mp hm] at hy ⊢
    rw [hf1] at hy; (have oc:=Option.some.inj hy; clear hy; subst oc)
    exact (aO vf (fp "full") (L3.var K'.eok hvf) ⟨rf3,zvf⟩ (fun uu uu=>trivial))
   ·exact nN hy
 have S3:SimE fns k C XPc eg:=qB hf (qg bw (ig "full") (lZ 0))
 refine wpAny_execs_cons (plainObj_wpAny_Assign_Attribute (S3 ov3 cx3 (by rw [he]; simp) (fun r hr v s4 E4=>?_) (fun c hc=>by rw [he] at hc; cases hc)) (by
  refine Or.elim (xQ ov3) (fun Hb=>?_) (fun q=>?_)
  ·refine cb (Hb) fun HH HV Il H7 HU H9=>?_
   clear Hb
   subst HU
   rfl
  ·cases q))
 rw [he] at hr; (have oc:=Out.ok.inj hr; clear hr; subst oc)
 obtain ⟨HY,as4,Ig,_⟩:=E4
 refine av (HY) fun h4 tk4 Ii k34=>?_
 try clear HY
 subst Ii
 refine ae (Ig) fun rv4 _=>?_
 try clear Ig
 refine rv4.isInt_k fun t4 HZ _=>?_
 (clear rv4; subst HZ)
 refine ae (Inst.kk I3 D3 k34) fun I4 D4=>?_
 have k4:K hh h4:=KG.trans k3 k34
 have L4:=L3.onK k34
 refine cL K'.eok.kind nds (L4.var K'.eok hvs) (iZ (fns:=fns) (R0.k k4) (by simp [fieldNames]) (Within.cons _ _ (Within.cons _ _ Within.nil)) (by simp) hxC I4 D4 fun h5 tk5 I5 b5 D5=>?_)
 have k5':K hh h5:=b5.kk k4 Mk.newX Mk.newD (xStay I4) (dStay I4 D4).1
 have rf5:R h5 vf (.list rows) (fp "full"):=keepR I4 D4 b5 (rf3.k k34)
 refine iz (Inst.ns1 I5 D5) fun o5 e5 c5 d5 di5 ne5 ns5=>?_
 have nh:∀ a,¬ (∃ o,h'.get? a=some o)->hh.get? a=none:=fun a q=>by
  cases e:hh.get? a with
  | none=>rfl
  | some o=>exact absurd ⟨o,Mk.keeps a o e⟩ q
 refine wpAny_execs_nil (hQ _ ⟨(aB h5 tk5 rfl k5'),x::D::fp "full", (gL x D o5 vf (fp "full") tc t4 _ rfl rfl e5 c5 d5 di5 ne5 ns5 ?_ ?_ ?_ ?_ rf5 zvf),fun a ha'=>.inr ?_,(fun q=>by cases q),fun uu=>⟨fun a ha'=>?_,?_⟩⟩)
 ·rfl
 ·rfl
 ·rfl
 ·intro m hm
  simp only [methNames,List.mem_cons,List.not_mem_nil,or_false] at hm
  rcases hm with rfl | rfl | rfl | rfl | rfl<;>rfl
 ·rcases List.mem_cons.mp ha' with rfl | ha'
  ·exact Mk.newX
  ·rcases List.mem_cons.mp ha' with rfl | ha'
   ·exact Mk.newD
   ·exact nh a (dp1 a ha').1
 ·rcases List.mem_cons.mp ha' with rfl | ha'
  ·exact Mk.newX
  ·rcases List.mem_cons.mp ha' with rfl | ha'
   ·exact Mk.newD
   ·exact nh a (dp1 a ha').1
 ·refine List.nodup_cons.mpr ⟨fun q=>?_,List.nodup_cons.mpr ⟨nDf,dp2⟩⟩
  rcases List.mem_cons.mp q with q | q
  ·exact ne5 q.symm
  ·exact nxf q
theorem t7 (hf:fns.hand=false) {fn:Fn}{p:Addr×FnT}(hp:fns.init=some p) (hC:b9 {fns with lam:=p.2.lam } k C XPc) (hok:okI p.2 fn=true) {A:Around}{P:Addr->Prop}{s:Shared}{Q:Value->Shared->Prop}{Er:Value->Shared->Prop}{xs:List V}{vals:List Value}{as:List Addr}
  (hroom:Room fns.hand (k+1) A) (hfr:∃ l,A.frames=some l/\FrOk s.heap l) (ge:GE fns s.heap) (rs:RVs s.heap xs vals as) (ha:∀ a∈as,P a) (nb:bW C fn xs≠.bad) (hQ:∀ r,bW C fn xs = .ok r->∀ v s',EP P s r v s'->Q v s') (hE:∀ c,bW C fn xs = .exc c->∀ x s',XPc c s x s'->Er x s') :
  wpAny (model prog w) A (call (.ref SF.rule) vals []) Q Er s:=by
 unfold okI at hok
 simp only [Bool.and_eq_true,decide_eq_true_eq,List.all_eq_true,Bool.not_eq_true'] at hok
 refine ae (hok) fun G7 hlam=>?_
 try clear hok
 refine ae (G7) fun G8 hfree=>?_
 try clear G7
 refine ae (G8) fun G9 hself=>?_
 try clear G8
 refine ae (G9) fun Ha hlast=>?_
 try clear G9
 refine ae (Ha) fun Hc hbody=>?_
 try clear Ha
 refine ae (Hc) fun Hd hnd=>?_
 try clear Hc
 refine ae (Hd) fun hps hbk=>?_
 try clear Hd
 refine dh (ym hlast) fun a3 b3 c3 hl3 o1 o2 o3=>?_
 cases hσ:bJ fn.params xs with
 | none=>exact absurd (by unfold bW; rw [hσ]) nb
 | some σ=>
  refine ae (pG rs hσ) fun hlen Hr=>?_
  refine ai (Hr) fun fp hfp=>?_
  try clear Hr
  have R0:=ge.cls (.inr (by rw [hp]; rfl))
  refine a7 (R0) fun N mN Hf quiet Hk _=>?_
  try clear R0
  obtain ⟨Hi,hN⟩:=Hf
  refine eB (Hi) fun nm q bs' sn sub col dd k0 k1 k2 k3 k5 hCl=>?_
  try clear Hi
  refine f8 (Hk) fun p' oI i1 i2 i3 i4 i5=>?_
  try clear Hk
  rw [hp] at i1; (have oc:=Option.some.inj i1; clear i1; subst oc)
  obtain ⟨hh,g,dr,tk,os⟩:=s
  refine wpAny_call_obj_init PySem.F.objNew hCl hN i2 i4 i5 fun h' x D Mk=>?_
  have hxC:x≠SF.rule:=fun q=>by have:=Mk.newX; rw [q] at this; rw [this] at hCl; exact nN hCl
  have kM:K hh h':=.of Mk.keeps
  refine tS (i3.k kM) fun o fd ho hd hbd hsc hgl hcl hbl hcr hcode hbind hco hgen hkind=>?_
  rw [hps] at hbind
  refine ae (hroom.at hf) fun r1 r2=>?_
  have ge':GE fns h':=ge.k kM
  have K0fp:∀ y q,σ y=some q->y ∈ "self" :: fn.params/\∃ V v,q=mk V/\(("self" :: fn.params).zip (.ref x::vals)).lookup y=some v/\RV h' v V (fp y)/\∀ a∈fp y,P a:=fun y q hq=>by
   refine ae (hfp y q hq) fun h1 HF=>?_
   refine a7 (HF) fun V v h2 h3 h4 h5=>?_
   try clear HF
   have hys:y ≠ "self" := fun e=>by
    rw [hps] at hnd
    exact (List.nodup_cons.mp hnd).1 (e▸h1)
   refine (aE (.tail _ h1) (bl V v h2 ?_ (h4.k kM) (fun a h=>ha a (h5 a h))))
   rw [List.zip_cons_cons,List.lookup_cons,beq_eq_false_iff_ne.mpr hys]
   exact h3
  have hu:(A.under (.builtin "type.__call__" ⟨.ref SF.rule::vals,[]⟩)).units≤A.units+50:=by
   have:(Code.builtin "type.__call__" ⟨.ref SF.rule::vals,[]⟩).cUnits≤50:=by
    have:(Code.builtin "type.__call__" ⟨.ref SF.rule::vals,[]⟩).cUnits=1+3*(Code.builtin "type.__call__" ⟨.ref SF.rule::vals,[]⟩).frames:=rfl
    rw [this]
    have:(Code.builtin "type.__call__" ⟨.ref SF.rule::vals,[]⟩).frames≤1:=by first | exact Nat.le_refl _ | exact Nat.zero_le _
    exact Dk this
   show A.units+_≤_
   exact CP this
  refine wpAny_call (qj (s:=⟨h',g,dr,tk,os⟩) (A:=A.under (.builtin "type.__call__" ⟨.ref SF.rule::vals,[]⟩)) (by rw [depth_under_make]; exact CK r1) ho hd (qp ge.nolim kM) hcr hbd (hbind (.ref x::vals) (by rw [List.length_cons,List.length_cons,hlen])) hcl (kO hsc (fun y hy=>hbk y (hps▸hy))) (fun s₁ X=>?_) hco hgen hkind)
  refine bg (X.x.toInCall.same) fun h₁ tk₁ Hs=>?_
  subst Hs
  have hk₁:=X.x.toInCall.keep
  have KS:=m0 (k:=k) (ft:=p.2) (fa:=p.1) (σ:=σ) (pn := "self" :: fn.params) (pv:=.ref x::vals) (fp:=fp) (P:=P) (s:=⟨h',g,dr,tk,os⟩) hf (hps▸hnd) (fun y hy=>hbk y (hps▸hy)) hfree (A:=A.under (.builtin "type.__call__" ⟨.ref SF.rule::vals,[]⟩)) hroom.1 (by rw [depth_under_make]; exact Dg r1) (Nat.lt_of_le_of_lt (by exact Cc hu) r2) (by
   refine af (hfr) fun l e1 e2=>?_
   try clear hfr
   exact (ah l e1 (e2.k kM))) ge' hsc hgl hbl hkind hcode X K0fp
  have hsplit:p.2.body=p.2.body.take (p.2.body.length-3)++[a3,b3,c3]:=by rw [← hl3]; exact (List.take_append_drop _ _).symm
  rw [hsplit,mM]
  refine wpAny_bind ?_
  have okb:cO (callEnvC fd h'.objs.size p.1).scope.names fn.body (p.2.body.take (p.2.body.length-3))=true:=by show cO fd.scope.names fn.body _=true; rw [hsc]; exact hbody
  cases hex:exs C fn.body σ with
  | bad=>exact absurd (vG hσ hex) nb
  | exc c=>
   refine mO (fns:={fns with lam:=p.2.lam }) hf hC fn.body okb KS hex fun x s' st lv ex=>?_
   have kp:Kp ⟨h',g,dr,tk,os⟩ s':=by
    refine av (st) fun h₂ tk' Ht kk=>?_
    try clear st
    (clear ex lv; subst Ht)
    exact (aB h₂ tk' rfl (Mine.K.step (Mine.K.of hk₁) kk fun b o e=>⟨o,e⟩))
   exact n7 kp lv ex fun s'' X=>hE c (wm hσ hex) x s'' (.of (aB h' tk rfl kM) X)
  | ok o=>
  obtain ⟨σ',fl⟩:=o
  cases fl with
  | ret q=>exact absurd (wK hσ hex) nb
  | next=>
  cases hfl:dX σ' with
  | bad=>exact absurd ((mu hσ hex).trans hfl) nb
  | exc c=>
   exact (tj hfl).elim
  | ok r=>
  replace hQ:=hQ r ((mu hσ hex).trans hfl)
  refine fU (rM hfl) fun ci mc rows ys er hc1 hf1 hf4=>?_
  refine mU (fns:={fns with lam:=p.2.lam }) hf hC fn.body okb KS hex (fun uu s' vals' fp' st K' F=>?_) fun q e=>by cases e
  refine av (st) fun hs' tk' Hu kgs=>?_
  (clear st; subst Hu)
  rw [er] at hQ
  have R0:=ge.cls (.inr (by rw [hp]; rfl))
  refine tp (fns:={fns with lam:=p.2.lam }) C hf Mk hxC (Mine.K.step (Mine.K.of hk₁) kgs fun b o e=>⟨o,e⟩) (ge.flag _ _) R0 hlam K' ?_ ?_ hc1 hf1 hf4 (by show el fd.scope.names _ _ _=true; rw [hsc]; exact o1) (by show el fd.scope.names _ _ _=true; rw [hsc]; exact o2) (by show el fd.scope.names _ _ _=true; rw [hsc]; exact o3) fun s' E=>⟨rfl,hQ _ _ E⟩
  ·refine af (hfr) fun l' f1 f2=>?_
   exact (ah l' (Around.frames_deeper (A:=A.under (.builtin "type.__call__" ⟨.ref SF.rule::vals,[]⟩)) f1) f2)
  ·rw [(F.1 "self" hself).1]
   show (("self" :: fn.params).zip (Value.ref x::vals)).lookup "self" = _
   rw [List.zip_cons_cons,List.lookup_cons,beq_self_eq_true]
end
end Mine
namespace Mine
open PySem PyProof.Rows
section
variable {fns:Fns}{L:List (String×Fn)}
noncomputable def xV (fns:Fns) (L:List (String×Fn)):Prop:=∀ f fn,L.lookup f=some fn->(f∈aw->f∈SF.excN)/\(f∉aw->if f = "Rule" then ∃ p,fns.init=some p/\okI p.2 fn=true else if f∈methNames then ∃ p,fns.mth f=some p/\okF p.2 fn=true/\p.2.lam=false else ∃ p,fns.fn f=some p/\okF p.2 fn=true/\p.2.lam=true)
theorem yv {ft:FnT}{f:Fn}(h:okI ft f=true):ft.lam=false:=by
 unfold okI at h
 simp only [Bool.and_eq_true,Bool.not_eq_true'] at h
 exact h.2
theorem uf (hf:fns.hand=false) (hL:xV fns L):∀ n,b9 {fns with lam:=true } n (mkC L n) XPc/\b9 {fns with lam:=false } n (aG (mkC L n)) XPc
 | 0=>⟨(fun f g h=>by cases h),fun f g h=>by
  unfold aG at h
  split at h<;>cases h⟩
 | n+1=>by
  refine ae (uf hf hL n) fun i1 i2=>?_
  have main:∀ (b:Bool) (f:String) (g:List V->Out (V×Mode)),mkC L (n+1) f=some g->(f∈aw->f∈SF.excN)/\(f∉aw->∃ a,adr {fns with lam:=b } f=some a/\∀ {A:Around}{P:Addr->Prop}{s:Shared}{Q:Value->Shared->Prop}{Er:Value->Shared->Prop}{xs:List V}{vals:List Value}{as:List Addr},
    Room fns.hand (n+1) A->(∃ l,A.frames=some l/\FrOk s.heap l)->GE {fns with lam:=b } s.heap->RVs s.heap xs vals as->(∀ a∈as,P a)->g xs≠.bad->(∀ r,g xs = .ok r->∀ v s',EP P s r v s'->Q v s')->(∀ c,g xs = .exc c->∀ x s',XPc c s x s'->Er x s') ->
    wpAny (model prog w) A (call (.ref a) vals []) Q Er s):=fun b f g h=>by
   refine be (show (L.lookup f).map (fun fn vs=>dl f (mkC L n) fn vs)=some g from h) fun fn hfn G4=>?_
   (clear h; subst G4)
   refine ae (hL f fn hfn) fun h1 h2=>?_
   refine ⟨h1,fun he=>?_⟩
   replace h2:=h2 he
   by_cases hr:f = "Rule"
   ·rw [if_pos hr] at h2
    refine af (h2) fun p hp hok=>?_
    try clear h2
    refine (ah SF.rule (by unfold adr; rw [if_pos hr]; show (fns.init).map _=_; rw [hp]; rfl) (fun room fr ge rs ha nb hQ hE=>?_))
    have hk:∀ xs,dl f (mkC L n) fn xs=bW (aG (mkC L n)) fn xs:=fun xs=>by unfold dl; rw [if_pos hr]
    dsimp only at nb
    rw [hk] at nb
    refine t7 (fns:={fns with lam:=b }) hf (p:=p) hp (by rw [yv hok]; exact i2) hok room fr ge rs ha nb (fun r e=>hQ r ((hk _).trans e)) fun c e=>hE c ((hk _).trans e)
   ·rw [if_neg hr] at h2
    by_cases hm:f∈methNames
    ·rw [if_pos hm] at h2
     refine ao (h2) fun p hp hok hl=>?_
     try clear h2
     refine (ah p.1 (by rw [yK hr hm]; show (fns.mth f).map _=_; rw [hp]; rfl) (fun room fr ge rs ha nb hQ hE=>?_))
     have hk:∀ xs,dl f (mkC L n) fn xs=aH (aG (mkC L n)) fn xs:=fun xs=>by unfold dl; rw [if_neg hr,if_pos hm]
     dsimp only at nb
     rw [hk] at nb
     refine a7 (ge.cls (.inl (bD f p hp))) fun uu uu uu uu uu hmt=>?_
     refine ao (hmt f p hp) fun uu uu hat _=>?_
     exact lP (fns:={fns with lam:=b }) hf (ft:=p.2) (by rw [hl]; exact i2) hok room fr ge hat rs ha nb (fun r e=>hQ r ((hk _).trans e)) fun c e=>hE c ((hk _).trans e)
    ·rw [if_neg hm] at h2
     refine ao (h2) fun p hp hok hl=>?_
     try clear h2
     refine (ah p.1 (by rw [sG hr hm]; show (fns.fn f).map _=_; rw [hp]; rfl) (fun room fr ge rs ha nb hQ hE=>?_))
     have hk:∀ xs,dl f (mkC L n) fn xs=aH (mkC L n) fn xs:=fun xs=>by unfold dl; rw [if_neg hr,if_neg hm]
     dsimp only at nb
     rw [hk] at nb
     exact lP (fns:={fns with lam:=b }) hf (ft:=p.2) (by rw [hl]; exact i1) hok room fr ge (ge.funs f p hp) rs ha nb (fun r e=>hQ r ((hk _).trans e)) fun c e=>hE c ((hk _).trans e)
  refine ⟨fun f g h=>⟨Nat.le_add_left 1 n,fun uu=>rfl,main true f g h⟩,fun f g h=>?_⟩
  unfold aG at h
  split at h
  ·exact nN h
  ·rename_i hn
   exact ⟨Nat.le_add_left 1 n,fun q=>absurd q hn,main false f g h⟩
end
end Mine
namespace Mine
open PySem PyProof.Rows
noncomputable def b7 (p:Program) (loose:List Str) (mg mN:Str->Option Value) (L:List (String×Fn)):Fns where
 fn f:=if f = "Rule" \/ f∈methNames\/f∈aw then none else (L.lookup f).bind fun fn=>((recsOf p).find? fun d=>d.name==Str.ofString f).bind fun d=>(fG (mg (Str.ofString f))).map fun a=>(a,⟨fn.params,d.body,d.scope,true⟩)
 mth m:=if m∈methNames then (L.lookup m).bind fun fn=>(dK p loose m).bind fun r=>(fG (mN (Str.ofString m))).map fun a=>(a,⟨fn.params,r.body,r.scope,false⟩) else none
 init:=(L.lookup "Rule").bind fun fn=>(dK p loose "__init__").bind fun r=>(fG (mN "__init__")).map fun a=>(a,⟨"self" :: fn.params,r.body,r.scope,false⟩)
 lam:=true
 hand:=false
theorem gv {α:Type}:∀ {l:List (String×α)}{x:String}{v:α},l.lookup x=some v->(x,v)∈l
 | (y,u)::l,x,v,h=>by
  rw [List.lookup_cons] at h
  split at h
  ·rename_i e; (have oc:=Option.some.inj h; clear h; subst oc); rw [beq_iff_eq.mp e]; exact .head _
  ·exact .tail _ (gv h)
theorem rI {ps:List String}(h:ps.Nodup):(ps.map Str.ofString).Nodup:=List.pairwise_map.mpr (List.Pairwise.imp (fun h e=>h (cC e)) h)
theorem qh {fd:FuncData}{ps:List String}(h:fq fd.params ps=true) (hd:fd.defaults = .none) (hn:ps.Nodup) (vals:List Value) (hl:vals.length=ps.length):bindArgs fd ⟨vals,[]⟩=pure ((ps.map Str.ofString).zip vals):=by
 unfold fq at h
 simp only [Bool.and_eq_true,beq_iff_eq,List.isEmpty_iff,Option.isNone_iff_eq_none] at h
 refine ae (h) fun G6 h6=>?_
 try clear h
 refine ae (G6) fun G7 h5=>?_
 try clear G6
 refine ae (G7) fun G8 h4=>?_
 try clear G7
 refine ae (G8) fun h2 h3=>?_
 try clear G8
 exact rV h2 h3 h4 h5 h6 hd (rI hn) (by rw [List.length_map]; exact hl)
theorem mj {ft:FnT}{f:Fn}(h:okF ft f=true):f.params.Nodup:=by
 unfold okF at h
 simp only [Bool.and_eq_true,decide_eq_true_eq] at h
 exact h.1.1.2
theorem uc {ft:FnT}{f:Fn}(h:okI ft f=true):ft.params.Nodup:=by
 unfold okI at h
 simp only [Bool.and_eq_true,decide_eq_true_eq] at h
 exact h.1.1.1.1.1.2
theorem kP {sc:Scope}(h:fz sc=true):sc.isCoroutine=false/\sc.isGenerator=false/\sc.kind = .function:=by
 unfold fz at h
 simp only [Bool.and_eq_true,Bool.not_eq_true',beq_iff_eq] at h
 exact ⟨h.1.1,h.1.2,h.2⟩
section
variable {p:Program}{loose:List Str}{mean:ExcName->Option Value}{mg mb:Str->Option Value}{h:Heap}{L:List (String×Fn)}
theorem Cv (hS:∀ c P,h.TableAt c P #[]->SF.tab P) (T:Top p loose mean mg mb h) {f:String}{ps:List String}{d:DefRec}(hd:(recsOf p).find? (fun d=>d.name==Str.ofString f)=some d) (hn:ps.Nodup) (h1:fq d.params ps=true) (h2:fz d.scope=true) :
  ∃ a,mg (Str.ofString f)=some (.ref a)/\FnAt h ⟨ps,d.body,d.scope,true⟩ a:=by
 have hm:=List.mem_of_find?_eq_some hd
 have hnm:=List.find?_some hd
 simp only [beq_iff_eq] at hnm
 refine rN (T.fn d hm) fun a o pm code doc t1 t2 t3 t4=>?_
 have hcode:CodeOk h code d.name:=by
  refine AI (T.tab d hm) fun a' o' fd c P u1 u2 u3 u4 u5 u6=>?_
  rw [t1] at u1; cases u1
  rw [t2] at u2; (have oc:=Option.some.inj u2; clear u2; subst oc)
  rw [t3] at u3; cases u3
  exact ⟨c,P,#[],u4,t4,u5,u6,⟨trivial,fun pos cv q=>by cases q⟩,hS c P u6⟩
 refine aD (kP h2) fun h7 h8 h9=>?_
 exact ⟨a,by rw [← hnm]; exact t1,o,_,t2,t3,rfl,rfl,rfl,rfl,rfl,t4,fun uu=>hcode,fun vals hl=>qh (by exact h1) rfl hn vals hl,h7,h8,h9⟩
theorem qL {C N:Addr}{mN:Str->Option Value}{c:ClsRec}(P:PlainAt h c C N mN) {m:String}{ps:List String}{r:MethRec}(hr:c.meths.find? (fun r=>r.name==Str.ofString m)=some r) (hn:ps.Nodup) (h1:fq r.params ps=true) (h2:fz r.scope=true) :
  ∃ a o,mN (Str.ofString m)=some (.ref a)/\FnAt h ⟨ps,r.body,r.scope,false⟩ a/\h.get? a=some o/\o.cls = .type "function" := by
 have hnm:=List.find?_some hr
 simp only [beq_iff_eq] at hnm
 refine Ae (P.meths r (List.mem_of_find?_eq_some hr)) fun a o pm cd doc t1 t2 t3 t4 t5=>?_
 refine aD (kP h2) fun h7 h8 h9=>?_
 exact ⟨a,o,by rw [← hnm]; exact t1,⟨o,_,t2,t4,rfl,rfl,rfl,rfl,rfl,t5,(fun q=>by cases q),fun vals hl=>qh (by exact h1) rfl hn vals hl,h7,h8,h9⟩,t2,t3⟩
theorem zB (TE:TopE p loose mg h) (Y:fZ (bq L) h) (T:Top p loose mean mg mb h) (hr:(fk p loose).isSome=true):∃ c C N mN,fk p loose=some c/\mg "Rule" = some (.ref C)/\PlainAt h c C N mN/\∀ n∈fieldNames,mN (Str.ofString n)=none:=by
 refine bG hr fun c hc=>?_
 have hm:=List.mem_of_find?_eq_some hc
 have hn:=List.find?_some hc
 simp only [beq_iff_eq] at hn
 refine bn (TE c hm) fun C N mN h1 P=>?_
 rw [hn] at h1
 refine ⟨c,C,N,mN,hc,h1,P.ofCmp,fun n hf=>?_⟩
 obtain ⟨mg',g',ad,_,_,C',o,cd,mN',b1,b2,b3,b4,b5⟩:=Y
 have hg:mg' = mg:=g'.eq_nsMap.trans T.g.eq_nsMap.symm
 (clear T TE; subst hg)
 have e1:mg' "Rule" = some (.ref C):=h1
 rw [b1] at e1; cases e1
 refine eB (P.cls.obj) fun nm q bs sn sub col dd k0 k1 k2 k3 k5 e=>?_
 rw [b2] at e; (have oc:=Option.some.inj e; clear e; (clear b2; subst oc))
 cases b3
 have hN:mN' = mN:=b4.eq_nsMap.trans P.cls.ns.eq_nsMap.symm
 rw [← hN]
 exact b5 n hf
theorem AF (Y:fZ (bq L) h) (T:Top p loose mean mg mb h) (ht:kW p loose L=true) {ad:String->Addr}(had:∀ c∈bq L,mg (Str.ofString c)=some (.ref (ad c))) (hP:bq L=[] \/ "PickError" ∈ bq L) (hSF:∀ c,SF.exc c=ad c) :
  (∀ c∈bq L,ExcAt h c)/\∀ c∈bq L,∀ c' ∈ "PickError" :: bq L,ad c=ad c'->c=c':=by
 obtain ⟨mg',g',ad',a1,a2,_⟩:=Y
 have hg:mg' = mg:=g'.eq_nsMap.trans T.g.eq_nsMap.symm
 subst hg
 have ea:∀ c∈bq L,ad' c=ad c:=fun c hc=>by
  refine av (a1 c hc) fun uu uu q _=>?_
  rw [had c hc] at q
  exact (Value.ref.inj (Option.some.inj q)).symm
 have qt:∀ c∈bq L,QtAt h c:=fun c hc=>by
  obtain ⟨o,cd,b1,b2,b3,b4,mN,b5,b6⟩:=a1 c hc
  exact ⟨o,cd,mN,by rw [hSF,← ea c hc]; exact b2,b3,b5,b6⟩
 refine ⟨fun c hc=>?_,fun c hc c' hc' q=>?_⟩
 ·have hP' : "PickError" ∈ bq L:=hP.resolve_left fun q=>by rw [q] at hc; cases hc
  refine a7 (a1 c hc) fun o cd b1 b2 b3 b4=>?_
  refine wL hc fun hcm hce=>?_
  refine aQ hcm fun G9 hq Ha=>?_
  obtain ⟨f,fn⟩:=G9
  (clear hcm; subst Ha)
  have ht1:=List.all_eq_true.mp ht _ hq
  unfold gy at ht1
  rw [if_pos (of_decide_eq_true hce),beq_iff_eq] at ht1
  refine af (T.ownAt ht1) fun C O _=>?_
  obtain ⟨bm,N,nm,q,bs,hdct,sn,sub,ab,col,dd,k0,k1,k2,k3,k5,mN,c1,c2,c3,c4⟩:=O.obj
  have eC:=O.bound
  rw [b1] at eC; cases eC
  rw [b2] at c1; (have oc:=Option.some.inj c1; clear c1; subst oc)
  cases b3
  dsimp only at b4
  replace b4:=b4.1
  injection b4 with _ b4
  have e1:SF.exc f=ad' f:=by rw [hSF,ea f hc]
  have e2:SF.exc "PickError" = ad' "PickError" := by rw [hSF,ea _ hP']
  have e3:bm=cD f:=by rw [b4]; unfold cD; rw [e2]
  subst e3
  rw [← e1] at b2
  exact ⟨N,nm,q,bs,hdct,sn,sub,ab,col,dd,k0,k1,k2,k3,k5,mN,by rw [e1] at b2 ⊢; exact b2,c2,c3 _ (.head _),c4.tail,qt _ hc,qt _ hP'⟩
 ·have hP' : "PickError" ∈ bq L:=hP.resolve_left fun q=>by rw [q] at hc; cases hc
  have hc'':c'∈bq L:=(List.mem_cons.mp hc').elim (fun q=>q▸hP') id
  exact a2 c hc c' hc'' (by rw [ea c hc,ea c' hc'']; exact q)
theorem yz (Y:fZ (bq L) h) (T:Top p loose mean mg mb h):∀ c∈bq L,∃ a,mg (Str.ofString c)=some (.ref a):=fun c hc=>by
 obtain ⟨mg',g',ad',a1,_⟩:=Y
 have hg:mg' = mg:=g'.eq_nsMap.trans T.g.eq_nsMap.symm
 (clear T; subst hg)
 refine av (a1 c hc) fun uu uu q _=>?_
 exact ⟨_,q⟩
theorem lV (ht:kW p loose L=true) {f:String}{fn:Fn}(hf:L.lookup f=some fn):gy p loose f fn=true:=List.all_eq_true.mp ht _ (gv hf)
theorem vN {f:String}{fn:Fn}(hf:L.lookup f=some fn) (he:f∈aw):f∈bq L:=List.mem_filter.mpr ⟨List.mem_map.mpr ⟨_,gv hf,rfl⟩,decide_eq_true he⟩
theorem uL (hS:∀ c P,h.TableAt c P #[]->SF.tab P) (hO:∀ b,SF.old b->∃ o,h.get? b=some o) (T:Top p loose mean mg mb h) (TE:TopE p loose mg h) (Y:fZ (bq L) h) (ht:kW p loose L=true) (hb:uS p loose=true) (hr:(fk p loose).isSome=true) (hL:(L.lookup "Rule").isSome=true) (hP:bq L=[] \/ "PickError" ∈ bq L)
  (hN:SF.excN=bq L) (hA:∀ c,SF.exc c=((fG (mg (Str.ofString c))).getD 0)) (hR:SF.rule=(fG (mg "Rule")).getD 0):∃ mN,GE (b7 p loose mg mN L) h/\xV (b7 p loose mg mN L) L:=by
 refine fU (zB TE Y T hr) fun c C N mN hc hC Pl hfn=>?_
 have eR:SF.rule=C:=by rw [hR,hC]; rfl
 have had:∀ c∈bq L,mg (Str.ofString c)=some (.ref (SF.exc c)):=fun c hc=>by
  refine ai (yz Y T c hc) fun a e=>?_
  rw [hA,e]; rfl
 refine ae (AF Y T ht (ad:=SF.exc) had hP fun uu=>rfl) fun x1 x2=>?_
 have mrec:∀ m,dK p loose m=c.meths.find? fun r=>r.name==Str.ofString m:=fun m=>by unfold dK; rw [hc]; rfl
 have tM:∀ m fn,L.lookup m=some fn->m∈methNames->∃ a o r,dK p loose m=some r/\mN (Str.ofString m)=some (.ref a)/\FnAt h ⟨fn.params,r.body,r.scope,false⟩ a/\h.get? a=some o/\o.cls = .type "function" /\ okF ⟨fn.params,r.body,r.scope,false⟩ fn=true:=fun m fn hm hmm=>by
  have h1:=lV ht hm
  have n1:m∉aw:=fun q=>by
   simp only [methNames,List.mem_cons,List.not_mem_nil,or_false] at hmm
   rcases hmm with rfl | rfl | rfl | rfl | rfl<;>revert q<;>decide
  have n2:m ≠ "Rule" := fun q=>by (clear h1 hm n1; subst q); revert hmm; decide
  unfold gy at h1
  rw [if_neg n1,if_neg n2,if_pos hmm] at h1
  refine aj h1 fun r hr h1=>?_
  simp only [Bool.and_eq_true] at h1
  refine a7 (qL Pl ((mrec m).symm.trans hr) (mj h1.1.1) h1.1.2 h1.2) fun a o e1 e2 e3 e4=>?_
  exact ⟨a,o,r,hr,e1,e2,e3,e4,h1.1.1⟩
 have tI:∀ fn,L.lookup "Rule" = some fn->∃ a o r,dK p loose "__init__" = some r/\mN "__init__" = some (.ref a)/\FnAt h ⟨"self" :: fn.params,r.body,r.scope,false⟩ a/\h.get? a=some o/\o.cls = .type "function" /\ okI ⟨"self" :: fn.params,r.body,r.scope,false⟩ fn=true:=fun fn hm=>by
  have h1:=lV ht hm
  unfold gy at h1
  rw [if_neg (by decide),if_pos rfl] at h1
  refine aj h1 fun r hr h1=>?_
  simp only [Bool.and_eq_true] at h1
  refine a7 (qL Pl (ps := "self" :: fn.params) ((mrec "__init__").symm.trans hr) (uc h1.1.1) h1.1.2 h1.2) fun a o e1 e2 e3 e4=>?_
  exact ⟨a,o,r,hr,e1,e2,e3,e4,h1.1.1⟩
 have tF:∀ f fn,L.lookup f=some fn->¬ (f = "Rule" \/ f∈methNames\/f∈aw)->∃ a d,(recsOf p).find? (fun d=>d.name==Str.ofString f)=some d/\mg (Str.ofString f)=some (.ref a)/\FnAt h ⟨fn.params,d.body,d.scope,true⟩ a/\okF ⟨fn.params,d.body,d.scope,true⟩ fn=true:=fun f fn hm hn=>by
  have h1:=lV ht hm
  unfold gy at h1
  rw [if_neg (fun q=>hn (.inr (.inr q))),if_neg (fun q=>hn (.inl q)),if_neg (fun q=>hn (.inr (.inl q)))] at h1
  refine aj h1 fun d hd h1=>?_
  simp only [Bool.and_eq_true] at h1
  refine af (Cv hS T hd (mj h1.1.1) h1.1.2 h1.2) fun a e1 e2=>?_
  exact ⟨a,d,hd,e1,e2,h1.1.1⟩
 have gF:∀ f p',(b7 p loose mg mN L).fn f=some p'->¬ (f = "Rule" \/ f∈methNames\/f∈aw)/\mg (Str.ofString f)=some (.ref p'.1)/\FnAt h p'.2 p'.1:=fun f p' hp=>by
  simp only [b7] at hp
  split at hp
  ·exact nN hp
  ·rename_i hn
   refine aZ hp fun fn hfn hp=>?_
   refine a7 (tF f fn hfn hn) fun a d e1 e2 e3 _=>?_
   rw [e1,e2] at hp
   (have oc:=Option.some.inj hp; clear hp; subst oc)
   exact ⟨hn,e2,e3⟩
 have gM:∀ m p',(b7 p loose mg mN L).mth m=some p'->m∈methNames/\∃ o,mN (Str.ofString m)=some (.ref p'.1)/\FnAt h p'.2 p'.1/\h.get? p'.1=some o/\o.cls = .type "function" := fun m p' hp=>by
  simp only [b7] at hp
  split at hp
  ·rename_i hn
   refine aZ hp fun fn hfn hp=>?_
   refine cQ (tM m fn hfn hn) fun a o r e1 e2 e3 e4 e5 _=>?_
   rw [e1,e2] at hp
   (have oc:=Option.some.inj hp; clear hp; subst oc)
   exact ⟨hn,o,e2,e3,e4,e5⟩
  ·exact nN hp
 have gI:∀ p',(b7 p loose mg mN L).init=some p'->∃ o,mN "__init__" = some (.ref p'.1)/\FnAt h p'.2 p'.1/\h.get? p'.1=some o/\o.cls = .type "function" := fun p' hp=>by
  simp only [b7] at hp
  refine aZ hp fun fn hfn hp=>?_
  refine cQ (tI fn hfn) fun a o r e1 e2 e3 e4 e5 _=>?_
  rw [e1,e2] at hp
  (have oc:=Option.some.inj hp; clear hp; subst oc)
  exact ⟨o,e2,e3,e4,e5⟩
 refine ⟨mN,⟨⟨mg,T.g,fun f a hf hq=>?_,fun x hx=>?_⟩,fun f p' hp=>(gF f p' hp).2.2,fun uu=>?_,⟨mb,T.b,fun x hx=>?_⟩,T.nolimit,hO,⟨mg,T.g,fun c hc=>?_,?_⟩,nu (T.bmain) fun bm ob a b c d e f=>⟨mg,bm,ob,T.g,a,b,c,d,e,f⟩⟩,fun f fn hf=>⟨fun he=>by rw [hN]; exact vN hf he,fun he=>?_⟩⟩
 ·unfold adr at hq
  by_cases h1:f = "Rule"
  ·rw [if_pos h1] at hq
   refine be hq fun uu uu Hc=>?_
   subst Hc
   rw [h1,eR]; exact hC
  ·rw [if_neg h1,if_neg hf] at hq
   refine be hq fun p' hp Hd=>?_
   subst Hd
   exact (gF f p' hp).2.1
 ·have:=List.all_eq_true.mp hb x hx
  simp only [Bool.and_eq_true,Bool.not_eq_true',List.contains_eq_mem,decide_eq_false_iff_not] at this
  refine ae (this) fun Hf h5=>?_
  try clear this
  refine ae (Hf) fun Hk h4=>?_
  try clear Hf
  refine ae (Hk) fun Hi h3=>?_
  try clear Hk
  refine ae (Hi) fun h1 h2=>?_
  try clear Hi
  exact T.free _ h1 h2 h3 h4 h5
 ·refine bG hL fun fn hfn'=>?_
  refine cQ (tI fn hfn') fun a o r e1 e2 e3 e4 e5 _=>?_
  refine ⟨N,mN,eR▸Pl.cls,fun n hn=>?_,⟨(a,⟨"self" :: fn.params,r.body,r.scope,false⟩),o,?_,e2,e3,e4,e5⟩,fun m p' hp=>(gM m p' hp).2⟩
  ·simp only [List.mem_cons,List.not_mem_nil,or_false] at hn
   rcases hn with rfl | rfl | rfl | rfl | rfl | rfl
   ·exact Pl.quiet _ (List.mem_append_left _ (.head _))
   ·exact Pl.quiet _ (List.mem_append_left _ (.tail _ (.head _)))
   ·exact Pl.quiet _ (List.mem_append_left _ (.tail _ (.tail _ (.head _))))
   ·exact hfn _ (.head _)
   ·exact hfn _ (.tail _ (.head _))
   ·exact hfn _ (.tail _ (.tail _ (.head _)))
  ·simp only [b7,hfn',e1,e2,Option.bind_some,fG,Option.map_some]
 ·simp only [bnames,List.mem_cons,List.not_mem_nil,or_false] at hx
  rcases hx with rfl | rfl | rfl | rfl | rfl | rfl | rfl | rfl | rfl | rfl | rfl | rfl | rfl<;>(rw [T.builtins _ (by decide +kernel)]; kernel_rfl)
 ·rw [hN] at hc
  exact ⟨had c hc,x1 c hc⟩
 ·rw [hN]; exact x2
 ·by_cases h1:f = "Rule"
  ·rw [if_pos h1]
   (clear he; subst h1)
   refine cQ (tI fn hf) fun a o r e1 e2 e3 e4 e5 e6=>?_
   exact ⟨(a,⟨"self" :: fn.params,r.body,r.scope,false⟩),by simp only [b7,hf,e1,e2,Option.bind_some,fG,Option.map_some],e6⟩
  ·rw [if_neg h1]
   by_cases h2:f∈methNames
   ·rw [if_pos h2]
    refine cQ (tM f fn hf h2) fun a o r e1 e2 e3 e4 e5 e6=>?_
    exact ⟨(a,⟨fn.params,r.body,r.scope,false⟩),by simp only [b7,if_pos h2,hf,e1,e2,Option.bind_some,fG,Option.map_some],e6,rfl⟩
   ·rw [if_neg h2]
    refine a7 (tF f fn hf fun q=>q.elim h1 fun q=>q.elim h2 he) fun a d e1 e2 e3 e6=>?_
    exact ⟨(a,⟨fn.params,d.body,d.scope,true⟩),by simp only [b7,if_neg (show ¬ (f = "Rule" \/ f∈methNames\/f∈aw) from fun q=>q.elim h1 fun q=>q.elim h2 he),hf,e1,e2,Option.bind_some,fG,Option.map_some],e6,rfl⟩
theorem qb {n:Nat}(h:n≤60):Room false n callerA:=⟨fun uu=>rfl,by show 1+claimMargin+2*n+4<recursionLimit; unfold claimMargin recursionLimit; exact DL h,by show 4+100*n+300<cLine; unfold cLine; exact CM h⟩
theorem zV:pO gl:=by
 intro p loose mean mg mb L s fn fa a n ns vs m Q Er hSF T TE Y ht hb hr hL hP hf hmg hn hrun ea hI hlen hQ
 replace hSF:SF=pM mg L s.heap:=hSF
 show wpAny (model prog w) callerA (call (.ref fa) [.ref a]) Q Er s
 refine af (uL (fun c P x=>by rw [hSF]; exact ⟨c,x⟩) (fun b hb=>by rw [hSF] at hb; exact hb) T TE Y ht hb hr hL hP (by rw [hSF]; rfl) (fun uu=>by rw [hSF]; rfl) (by rw [hSF]; rfl)) fun mN ge tab=>?_
 obtain ⟨p',hp,hok,hlam⟩:∃ p',(b7 p loose mg mN L).fn "law" = some p'/\okF p'.2 fn=true/\p'.2.lam=true:=(tab "law" fn hf).2 (by decide)
 have ha:p'.1=fa:=by
  have:(b7 p loose mg mN L).fn "law" = some p':=hp
  simp only [b7] at this
  rw [if_neg (by decide),hf] at this
  refine aZ (show ((recsOf p).find? _).bind _=some p' from this) fun d _ this=>?_
  rw [hmg] at this
  (have oc:=Option.some.inj this; clear this; (clear hlam hok hp; subst oc)); rfl
 have hC:b9 { (b7 p loose mg mN L) with lam:=p'.2.lam } n (mkC L n) XPc:=by rw [hlam]; exact (uf (fns:=b7 p loose mg mN L) rfl tab n).1
 have rs:RVs s.heap [.d (aa ns)] [.ref a] ([a]++[]):=by
  refine .cons ⟨.list ea (RA.of_ints hI),?_⟩ .nil
  exact sz_list.mpr ⟨by rw [List.length_map]; exact hlen,jZ ns⟩
 have hat:FnAt s.heap p'.2 fa:=ha▸ge.funs "law" p' hp
 refine lP (fns:=b7 p loose mg mN L) (P:=fun uu=>True) rfl hC hok (qb (by exact CA hn)) ⟨[],rfl,fun uu h=>nomatch h⟩ ge hat rs (fun uu uu=>trivial) (by rw [hrun]; simp) (fun r hr v s' E=>?_) fun c hc=>by rw [hrun] at hc; cases hc
 rw [hrun] at hr; (have oc:=Out.ok.inj hr; clear hr; subst oc)
 obtain ⟨Hs,as,Ht,_⟩:=E
 refine av (Hs) fun h' tk Hu kp=>?_
 try clear Hs
 subst Hu
 refine ae (Ht) fun r _=>?_
 try clear Ht
 cases r
 refine hQ h' tk ⟨fun b o e=>?_,fun b o e=>K.there kp e⟩
 refine af (kp b o (.inl trivial) e) fun o' e' l=>?_
 cases l with
 | same q=>exact .inl (q▸e')
 | tab ps more q1 q2 q3 _=>
  rw [hSF] at q1; revert q1; intro JG
  refine ai (JG) fun c q1=>?_
  try clear JG
  (clear e; subst q2 q3)
  exact .inr (.inl ⟨q1.isCodeTable,rfl,ps,more,rfl,e'⟩)
 | frame es ep q1 _ _ _ _ _=>rw [hSF] at q1; exact absurd ⟨o,e⟩ q1
end
theorem rF {P:Params}{h:Heap}{a:Addr}{vs:List Value}{xs:List W.WData}(x:W.Well P h (.ref a) (.list xs)) (hL:h.IsList a vs.toArray):h.get? a=some {cls:=.type "list", data:=.seq vs.toArray }:=by
 obtain ⟨o,e,hc,n,hd⟩:=hL
 cases x with
 | list e' _=>
  rw [e] at e'; (have oc:=Option.some.inj e'; clear e'; (clear hc; subst oc))
  dsimp only at hd
  injection hd with h1 h2
  rw [e,h1]
end Mine
namespace Mine
open PySem PyProof.Rows
theorem vX {p:Program}{loose:List Str}{mean:ExcName->Option Value}{mg mb:Str->Option Value}{L:List (String×Fn)}{w:World}{prog:Program}{s:Shared}{fn:Fn}{fa a:Addr}{n:Nat}{ns:List Int}{vs:List Value}{m:Mode}{Q:Value->Shared->Prop}{Er:Value->Shared->Prop}(T:Top p loose mean mg mb s.heap) (TE:TopE p loose mg s.heap) (Y:fZ (bq L) s.heap) (ht:kW p loose L=true) (hb:uS p loose=true) (hr:(fk p loose).isSome=true) (hL:(L.lookup "Rule").isSome=true) (hP:bq L=[] \/ "PickError" ∈ bq L)
  (hf:L.lookup "law" = some fn) (hmg:mg (Str.ofString "law")=some (.ref fa)) (hn:n≤50) (hrun:aH (mkC L n) fn [.d (aa ns)] = .ok (.d (.bool true),m)) (ea:s.heap.get? a=some {cls:=.type "list", data:=.seq vs.toArray }) (hI:IntsAre vs ns) (hlen:ns.length≤2^22)
  (hQ:∀ h' tk,OldK s.heap h'->Q (.bool true) {s with heap:=h',toks:=tk }):wpAny (model prog w) callerA (call (.ref fa) [.ref a]) Q Er s :=
 zT zV ⟨prog,w,pM mg L s.heap⟩ rfl T TE Y ht hb hr hL hP hf hmg hn hrun ea hI hlen hQ
end Mine
namespace Mine
open PySem
theorem jQ {n:Nat}:∀ {xs:List PyData},(∀ x∈xs,x.depth≤n)->PyData.depthAll xs≤n
 | [],_=>by simp [PyData.depthAll]
 | x::xs,h=>by
  rw [PyData.depthAll]
  exact Nat.max_le.mpr ⟨h x (.head _),jQ fun y hy=>h y (.tail _ hy)⟩
theorem iE:∀ {xs:List PyData},(∀ x∈xs,x.canLay0=true)->PyData.canLayAll0 xs=true
 | [],_=>by simp [PyData.canLayAll0]
 | x::xs,h=>by
  rw [PyData.canLayAll0,h x (.head _),iE fun y hy=>h y (.tail _ hy)]; rfl
noncomputable def Low (n:Nat) (d:PyData):Prop:=d.canLay0=true/\d.depth≤n
theorem Low.okc {n:Nat}{d:PyData}(h:Low n d) (hn:n≤64:=by decide):okc d=true:=by
 unfold Mine.okc
 rw [h.1,decide_eq_true (Nat.le_trans h.2 hn)]; rfl
theorem Low.int (i:Int) (n:Nat):Low (n+1) (.int i):=⟨rfl,by simp [PyData.depth]⟩
theorem Low.list {n:Nat}{xs:List PyData}(h:∀ x∈xs,Low n x):Low (n+1) (.list xs) :=
 ⟨by rw [PyData.canLay0]; exact iE fun x hx=>(h x hx).1,by rw [PyData.depth]; have:=jQ fun x hx=>(h x hx).2; exact nJ this⟩
theorem oz (ns:List Int) (n:Nat):Low (n+2) (aa ns):=.list fun x hx=>by
 refine aQ hx fun i _ G4=>?_
 (clear hx; subst G4)
 exact .int i n
theorem uZ (t:List (List Int)) (n:Nat):Low (n+3) (ag t):=.list fun x hx=>by
 refine aQ hx fun i _ G6=>?_
 (clear hx; subst G6)
 exact oz i n
@[simp] theorem gJ (i:Int):okc (.int i)=true:=(Low.int i 0).okc
@[simp] theorem Fj:okc .none=true:=rfl
@[simp] theorem cX (ns:List Int):okc (aa ns)=true:=(oz ns 0).okc
@[simp] theorem okc_ints' (ns:List Int):okc (.list (ns.map .int))=true:=cX ns
@[simp] theorem eu (t:List (List Int)):okc (ag t)=true:=(uZ t 0).okc
@[simp] theorem okc_rows' (t:List (List Int)):okc (.list (t.map aa))=true:=eu t
@[simp] theorem GT:okc (.list [])=true:=cX []
@[simp] theorem lL (a b:Int):PyData.eqv (.int a) (.int b)=decide (a=b):=by
 rw [PyData.eqv]; by_cases h:a=b<;>simp [h]
theorem jR:∀ (a b:List Int),PyData.eqvAll (a.map .int) (b.map .int)=decide (a=b)
 | [],[]=>by simp [PyData.eqvAll]
 | [],y::b=>by simp [PyData.eqvAll]
 | x::a,[]=>by simp [PyData.eqvAll]
 | x::a,y::b=>by
  rw [List.map_cons,List.map_cons,PyData.eqvAll,jR a b,lL]
  by_cases h1:x=y<;>by_cases h2:a=b<;>simp [h1,h2]
@[simp] theorem fB (a b:List Int):PyData.eqv (aa a) (aa b)=decide (a=b):=by
 unfold aa; rw [PyData.eqv]; exact jR a b
@[simp] theorem eqv_ints' (a b:List Int):PyData.eqv (.list (a.map .int)) (.list (b.map .int))=decide (a=b):=fB a b
theorem jL:∀ (a b:List (List Int)),PyData.eqvAll (a.map aa) (b.map aa)=decide (a=b)
 | [],[]=>by simp [PyData.eqvAll]
 | [],y::b=>by simp [PyData.eqvAll]
 | x::a,[]=>by simp [PyData.eqvAll]
 | x::a,y::b=>by
  rw [List.map_cons,List.map_cons,PyData.eqvAll,jL a b,fB]
  by_cases h1:x=y<;>by_cases h2:a=b<;>simp [h1,h2]
@[simp] theorem pj (a b:List (List Int)):PyData.eqv (ag a) (ag b)=decide (a=b):=by
 unfold ag; rw [PyData.eqv]; exact jL a b
@[simp] theorem AP (a:List Int):PyData.eqv (aa a) (.list [])=decide (a=[]):=fB a []
@[simp] theorem ph (k:Int) (ns:List Int):inV (.int k) (.d (aa ns)) = .ok (decide (k∈ns)):=by
 show (if okc (.int k)&&okc (aa ns) then Out.ok ((ns.map PyData.int).any fun y=>PyData.eqv y (.int k)) else .bad)=_
 rw [gJ,cX,if_pos (by decide)]
 congr 1
 rw [Bool.eq_iff_iff,List.any_map]
 simp [List.any_eq_true]
@[simp] theorem pE (k:List Int) (t:List (List Int)):inV (aa k) (.d (ag t)) = .ok (decide (k∈t)):=by
 show (if okc (aa k)&&okc (ag t) then Out.ok ((t.map aa).any fun y=>PyData.eqv y (aa k)) else .bad)=_
 rw [cX,eu,if_pos (by decide)]
 congr 1
 rw [Bool.eq_iff_iff,List.any_map]
 simp [List.any_eq_true]
@[simp] theorem d0:∀ ns:List Int,aS (ns.map .int)=some ns
 | []=>rfl
 | i::ns=>by rw [List.map_cons,aS,d0 ns]; rfl
theorem uD (ns:List Int):(ns.map PyData.int).all sx=true:=by rw [List.all_map,List.all_eq_true]; intro _ _; rfl
@[simp] theorem eQ (ns:List Int):fresh (ns.map .int) = .deep:=by unfold fresh; rw [uD]; rfl
@[simp] theorem AR (i:Int):mk (.d (.int i))=sI i:=rfl
@[simp] theorem GU (ns:List Int):mk (.d (aa ns))=(.d (aa ns),.sh):=rfl
theorem kI {F:PyData->Out (Option (V×Mode))}{f:Int->Int}{p:Int->Bool}:∀ {ns:List Int},(∀ i∈ns,F (.int i) = .ok (if p i then some (sI (f i)) else none))->bz F (ns.map .int) = .ok (((ns.filter p).map f).map .int,true)
 | [],_=>rfl
 | i::ns,h=>by
  rw [List.map_cons,bz,h i (.head _),kI fun j hj=>h j (.tail _ hj)]
  simp only [Out.ok_bind]
  cases hp:p i<;>simp [hp,sI,List.filter_cons]
theorem pA {α:Type}{F:PyData->Out (Option (V×Mode))}{e:α->PyData}{f:α->Int}:∀ {l:List α},(∀ i∈l,F (e i) = .ok (some (sI (f i))))->bz F (l.map e) = .ok ((l.map f).map .int,true)
 | [],_=>rfl
 | i::l,h=>by
  rw [List.map_cons,bz,h i (.head _),pA fun j hj=>h j (.tail _ hj)]
  rfl
theorem hH {α:Type}{F:PyData->Out (Option (V×Mode))}{e:α->PyData}{f:α->List Int}{p:α->Bool}{m:α->Mode}:∀ {l:List α},(∀ i∈l,F (e i) = .ok (if p i then some (.d (aa (f i)),m i) else none)) ->
  ∃ b,bz F (l.map e) = .ok (((l.filter p).map f).map aa,b)/\((∀ i∈l,m i = .deep)->b=true)
 | [],_=>(ah true rfl (fun uu=>rfl))
 | i::l,h=>by
  refine af (hH (l:=l) fun j hj=>h j (.tail _ hj)) fun b e1 e2=>?_
  rw [List.map_cons,bz,h i (.head _),e1]
  simp only [Out.ok_bind]
  cases hp:p i
  ·exact (ah b (by simp [hp,List.filter_cons]) (fun q=>e2 fun j hj=>q j (.tail _ hj)))
  ·refine (ah (decide (m i = .deep)&&b) (by simp [hp,List.filter_cons]) (fun q=>?_))
   rw [q i (.head _),e2 fun j hj=>q j (.tail _ hj)]; rfl
theorem lj (a b:Int):c8 a b=((List.range (b-a).toNat).map fun (k:Nat)=>a+(k:Int)).map .int:=by
 unfold c8; rw [List.map_map]; rfl
noncomputable def aW (n:Nat):List Int:=(List.range n).map fun (k:Nat)=>(k:Int)
theorem tq {n:Nat}(h:n≤1000000):cj 0 n = .ok ((aW n).map .int,.deep):=by
 unfold cj
 rw [if_pos (cH (by unfold lim; exact Di h) (by exact D7) (by exact CW) (by exact E8) (by exact BR h)),lj]
 simp [aW]
theorem mem_upTo {n:Nat}{i:Int}:i∈aW n↔0≤i/\i<n:=by
 unfold aW
 simp only [List.mem_map,List.mem_range]
 constructor
 ·rintro ⟨k,hk,rfl⟩; exact EM hk
 ·rintro ⟨h1,h2⟩; exact (ah i.toNat (by exact la1 h1 h2) (by exact Ep h1))
theorem mv {xs:List PyData}{i:Int}{k:Nat}{y:PyData}(hk:ba i xs.length=some k) (h:xs[k]? = some y):eV (.list xs) (.int i) = .ok (mk (.d y)):=by
 show (au ((ba i xs.length).bind fun k=>xs[k]?) fun z=>Out.ok (mk (.d z)))=_
 rw [hk,Option.bind_some,h]; rfl
theorem fe {i:Int}{n:Nat}(h0:0≤i) (h:i<n):ba i n=some i.toNat:=by unfold ba; rw [if_pos h0,if_pos h]
theorem tV {ns:List Int}{i:Int}{x:Int}(h0:0≤i) (h:ns[i.toNat]? = some x):eV (aa ns) (.int i) = .ok (sI x):=by
 have hlt:i.toNat<ns.length:=(List.getElem?_eq_some_iff.mp h).1
 exact mv (fe h0 (by rw [List.length_map]; exact xp hlt)) (by rw [List.getElem?_map,h]; rfl)
section
variable (a b:Int) (xs ys:List Int) (t u:List (List Int)) (σ:St) (x y:String) (v:V×Mode)
@[simp] theorem GS:upd σ x v y=if y=x then some v else σ y:=rfl
@[simp] theorem bK (b:Bool):aq (.d (.bool b)) = .ok b:=rfl
@[simp] theorem G1:bY .lt (.d (.int a)) (.d (.int b)) = .ok (decide (a<b)):=rfl
@[simp] theorem G0:bY .gt (.d (.int a)) (.d (.int b)) = .ok (decide (b<a)):=rfl
@[simp] theorem GZ:bY .ge (.d (.int a)) (.d (.int b)) = .ok (decide (b≤a)):=rfl
@[simp] theorem z4:bY .eq (.d (.int a)) (.d (.int b)) = .ok (decide (a=b)):=by
 show (if okc (.int a)&&okc (.int b) then Out.ok (PyData.eqv (.int a) (.int b)) else .bad)=_
 rw [gJ,gJ,lL,if_pos (by decide)]
@[simp] theorem Ar:bY .ne (.d (.int a)) (.d (.int b)) = .ok (!decide (a=b)):=by
 show (if okc (.int a)&&okc (.int b) then Out.ok (!PyData.eqv (.int a) (.int b)) else .bad)=_
 rw [gJ,gJ,lL,if_pos (by decide)]
@[simp] theorem yY:bY .eq (.d (aa xs)) (.d (aa ys)) = .ok (decide (xs=ys)):=by
 show (if okc (aa xs)&&okc (aa ys) then Out.ok (PyData.eqv (aa xs) (aa ys)) else .bad)=_
 rw [cX,cX,fB,if_pos (by decide)]
@[simp] theorem yT:bY .ne (.d (aa xs)) (.d (aa ys)) = .ok (!decide (xs=ys)):=by
 show (if okc (aa xs)&&okc (aa ys) then Out.ok (!PyData.eqv (aa xs) (aa ys)) else .bad)=_
 rw [cX,cX,fB,if_pos (by decide)]
@[simp] theorem zC:bY .eq (.d (ag t)) (.d (ag u)) = .ok (decide (t=u)):=by
 show (if okc (ag t)&&okc (ag u) then Out.ok (PyData.eqv (ag t) (ag u)) else .bad)=_
 rw [eu,eu,pj,if_pos (by decide)]
@[simp] theorem yR:bY .ne (.d (ag t)) (.d (ag u)) = .ok (!decide (t=u)):=by
 show (if okc (ag t)&&okc (ag u) then Out.ok (!PyData.eqv (ag t) (ag u)) else .bad)=_
 rw [eu,eu,pj,if_pos (by decide)]
@[simp] theorem z7:bY .isin (.d (.int a)) (.d (aa xs)) = .ok (decide (a∈xs)):=ph a xs
@[simp] theorem yE:bY .notin (.d (.int a)) (.d (aa xs)) = .ok (!decide (a∈xs)):=by
 show ((inV (.int a) (.d (aa xs))).bind fun b=>Out.ok (!b))=_
 rw [ph]; rfl
@[simp] theorem yq:bY .isin (.d (aa xs)) (.d (ag t)) = .ok (decide (xs∈t)):=pE xs t
@[simp] theorem GY:di .add (.int a) (.int b) = .ok (sI (a+b)):=rfl
@[simp] theorem GV:di .sub (.int a) (.int b) = .ok (sI (a-b)):=rfl
@[simp] theorem GW:di .xor (.int a) (.int b) = .ok (sI (Builtin.bitXor a b)):=rfl
theorem tz (h:a.natAbs<2^63):di .mul (.int a) (.int b) = .ok (sI (a*b)):=by
 show (if a.natAbs<2^63\/b.natAbs<2^63 then Out.ok (sI (a*b)) else .bad)=_
 rw [if_pos (.inl h)]
theorem uy (h:b.natAbs<2^63):di .mul (.int a) (.int b) = .ok (sI (a*b)):=by
 show (if a.natAbs<2^63\/b.natAbs<2^63 then Out.ok (sI (a*b)) else .bad)=_
 rw [if_pos (.inr h)]
theorem zD (h:0<b):di .mod (.int a) (.int b) = .ok (sI (a%b)):=by
 show (if b=0 then Out.bad else Out.ok (sI (a.fmod b)))=_
 rw [if_neg (by exact Bg h),Int.fmod_eq_emod_of_nonneg _ (by exact xB h)]
theorem zx (h:0<b) (h':b<1000000000):di .fdiv (.int a) (.int b) = .ok (sI (a/b)):=by
 show (if b=0\/1000000000≤b.natAbs then Out.bad else Out.ok (sI (a.fdiv b)))=_
 rw [if_neg (by lia),Int.fdiv_eq_ediv_of_nonneg _ (by exact xB h)]
theorem wX (h:xs.length+ys.length≤1000000):di .add (aa xs) (aa ys) = .ok (.d (aa (xs++ys)),.deep):=by
 show (if (xs.map PyData.int).length+(ys.map PyData.int).length≤lim then Out.ok (V.d (.list (xs.map .int++ys.map .int)),fresh (xs.map .int++ys.map .int)) else .bad)=_
 rw [List.length_map,List.length_map,if_pos (show _≤lim from h),← List.map_append,eQ]; rfl
@[simp] theorem zX:b1V .len (.d (aa xs)) = .ok (sI xs.length):=by
 show Out.ok (sI (xs.map PyData.int).length)=_
 rw [List.length_map]
@[simp] theorem zF:b1V .len (.d (ag t)) = .ok (sI t.length):=by
 show Out.ok (sI (t.map aa).length)=_
 rw [List.length_map]
@[simp] theorem yV:b1V .list (.d (aa xs)) = .ok (.d (aa xs),.deep):=by
 show Out.ok (V.d (.list (xs.map PyData.int)),fresh (xs.map PyData.int))=_
 rw [eQ]; rfl
@[simp] theorem v4:b1V .tuple (.d (aa xs)) = .ok (.d (aM xs),.deep):=by
 show Out.ok (V.d (.tuple (xs.map PyData.int)),if (xs.map PyData.int).all sx then Mode.deep else .sh)=_
 rw [uD,if_pos rfl]; rfl
noncomputable def aN (xs:List Int):List Int:=xs.mergeSort fun a b=>decide (a≤b)
theorem uq (h:xs.length<64):b1V .sorted (.d (aa xs)) = .ok (.d (aa (aN xs)),.deep):=by
 show dM (xs.map PyData.int)=_
 unfold dM
 rw [List.length_map,if_pos h,d0]; rfl
@[simp] theorem A6:gn (.d (.int a)) "int" = .ok true:=rfl
@[simp] theorem AN:gn (.d (.int a)) "bool" = .ok false:=rfl
@[simp] theorem zN:gn (.d (aa xs)) "list" = .ok true:=rfl
@[simp] theorem Go:(sI a).1 = .d (.int a):=rfl
@[simp] theorem G2:(sI a).2 = .deep:=rfl
@[simp] theorem ik (b:Bool):(sB b).1 = .d (.bool b):=rfl
@[simp] theorem G3 (b:Bool):(sB b).2 = .deep:=rfl
@[simp] theorem Gi:bN []=some []:=rfl
@[simp] theorem GJ (m:Mode) (l:List (V×Mode)):bN ((.d (.int a),m)::l)=(bN l).map (.int a :: ·):=rfl
@[simp] theorem GR (l:List (V×Mode)):bN (sI a::l)=(bN l).map (.int a :: ·):=rfl
@[simp] theorem A4:allDeep []=true:=rfl
@[simp] theorem Ce (l:List (V×Mode)):allDeep (sI a::l)=allDeep l:=by simp [allDeep]
end
theorem dZ (xs:List Int):(aN xs).Perm xs:=List.mergeSort_perm ..
theorem iM (xs:List Int):(aN xs).Pairwise (·≤·):=by
 have:=List.pairwise_mergeSort (le:=fun a b:Int=>decide (a≤b)) (fun a b c h1 h2=>by simp at *; exact x8 h1 h2) (fun a b=>by simp; exact xW) xs
 exact this.imp (by intro a b h; simpa using h)
theorem mB:∀ {l l':List Int},l.Perm l'->l.Pairwise (·≤·)->l'.Pairwise (·≤·)->l=l'
 | [],l',p,_,_=>by rw [p.nil_eq]
 | a::l,[],p,_,_=>by cases p.eq_nil
 | a::l,b::l',p,h,h'=>by
  refine ae (List.pairwise_cons.mp h) fun h1 h2=>?_
  refine ae (List.pairwise_cons.mp h') fun h3 h4=>?_
  have e:a=b:=by
   rcases List.mem_cons.mp (p.mem_iff.mp (List.mem_cons_self (a:=a) (l:=l))) with e | e
   ·exact e
   ·rcases List.mem_cons.mp (p.mem_iff.mpr (List.mem_cons_self (a:=b) (l:=l'))) with e' | e'
    ·exact e'.symm
    ·have:=h1 b e'; have:=h3 a e; exact xM (by assumption) this
  (clear h' h3; subst e)
  rw [mB ((List.perm_cons a).mp p) h2 h4]
theorem uT {xs ys:List Int}(p:xs.Perm ys) (h:ys.Pairwise (·≤·)):aN xs=ys:=mB ((dZ xs).trans p) (iM xs) h
@[simp] theorem Fb (xs:List Int):hU (.d (aa xs))=some (xs.map .int):=rfl
@[simp] theorem iW (t:List (List Int)):hU (.d (ag t))=some (t.map aa):=rfl
@[simp] theorem dy (xs:List Int) (m:Mode):itV (.d (aa xs),m) = .ok (xs.map .int,m):=rfl
@[simp] theorem aK (t:List (List Int)) (m:Mode):itV (.d (ag t),m) = .ok (t.map aa,m):=rfl
@[simp] theorem A5 (xs:List Int) (a:Int):PyData.list (xs.map .int++[.int a])=aa (xs++[a]):=by unfold aa; rw [List.map_append]; rfl
theorem s9 {σ:St}{x:String}{ns:List String}{mx:Mode}{xs:List PyData}(h:xs.length≤1000000):il σ x ns mx xs .deep = .ok (upd σ x (.d (.list xs),mx),.next):=by
 unfold il
 rw [if_pos (show _≤lim from h),if_pos rfl]
@[simp] theorem bZ (n:Nat):(aW n).length=n:=by simp [aW]
theorem tw (xs:List Int) (n:Nat) (h:n≤1000000):fE (aa xs) (.int n) = .ok (.d (aa (xs.take n)),.deep):=by
 unfold aa fE
 dsimp only
 rw [if_pos ⟨by exact nK,by exact xa h⟩,Int.toNat_natCast,← List.map_take,eQ]
theorem sF (xs:List Int) (n:Nat) (h:n≤1000000):fu (aa xs) (.int n) = .ok (.d (aa (xs.drop n)),.deep):=by
 unfold aa fu
 dsimp only
 rw [if_pos ⟨by exact nK,by exact xa h⟩,Int.toNat_natCast,← List.map_drop,eQ]
theorem dF {C:Calls}{s:S}{r:Ss}{σ σ':St}(h:ex C s σ = .ok (σ',.next)):exs C (.cons s r) σ=exs C r σ':=by
 simp only [bQ,h,Out.ok_bind]
theorem zm {C:Calls}{s:S}{r:Ss}{σ σ':St}{v:V×Mode}(h:ex C s σ = .ok (σ',.ret v)):exs C (.cons s r) σ = .ok (σ',.ret v):=by
 simp only [bQ,h,Out.ok_bind]
section
variable {C:Calls}{a b:E}{σ:St}{x y:PyData}{mx my:Mode}
theorem uB (ha:ev C a σ = .ok (.d x,mx)) (hb:ev C b σ = .ok (.d y,my)):ev C (.shi a b) σ=fE x y:=by simp only [ly,ha,hb,Out.ok_bind]
theorem ue (ha:ev C a σ = .ok (.d x,mx)) (hb:ev C b σ = .ok (.d y,my)):ev C (.slo a b) σ=fu x y:=by simp only [lI,ha,hb,Out.ok_bind]
theorem kS (ha:ev C a σ = .ok (.d x,mx)) (hb:ev C b σ = .ok (.d y,my)):ev C (.sub a b) σ=eV x y:=by simp only [jB,ha,hb,Out.ok_bind]
theorem cU {o:BOp}(ha:ev C a σ = .ok (.d x,mx)) (hb:ev C b σ = .ok (.d y,my)):ev C (.bin o a b) σ=di o x y:=by simp only [lC,ha,hb,Out.ok_bind]
theorem AT {r:V×Mode}(h:ev C a σ = .ok r):ex C (.ret a) σ = .ok (σ,.ret r):=by simp only [l5,h,Out.ok_bind]
end
section
variable {C:Calls}{a b c:E}{σ:St}{x y:V}{mx my:Mode}
theorem gT {f:String}{g:List V->Out (V×Mode)}{es:Es}{l:List (V×Mode)}(hC:C f=some g) (he:evs C es σ = .ok l):ev C (.call f es) σ=g (l.map (·.1)):=by simp only [kC,hC,he,Out.ok_bind]
theorem al {es:Es}{r:V×Mode}{l:List (V×Mode)}(h:ev C a σ = .ok r) (hs:evs C es σ = .ok l):evs C (.cons a es) σ = .ok (r::l):=by simp only [aY,h,hs,Out.ok_bind]
theorem aF:evs C .nil σ = .ok []:=by simp only [a8]
theorem bp {o:COp}{t:Bool}(ha:ev C a σ = .ok (x,mx)) (hb:ev C b σ = .ok (y,my)) (h:bY o x y = .ok t):ev C (.cmp o a b) σ = .ok (sB t):=by simp only [jv,ha,hb,h,Out.ok_bind]
theorem dv {t:Bool}(ha:ev C a σ = .ok (sB t)):ev C (.not a) σ = .ok (sB (!t)):=by simp only [gQ,ha,Out.ok_bind,ik,bK]
theorem yo {t:Bool}(ha:ev C a σ = .ok (sB false)) (hb:ev C b σ = .ok (sB t)):ev C (.or a b) σ = .ok (sB t):=by
 simp only [iX,ha,hb,Out.ok_bind,ik,bK,Bool.false_eq_true,if_false]
theorem zv (ha:ev C a σ = .ok (sB true)):ev C (.or a b) σ = .ok (sB true):=by
 simp only [iX,ha,Out.ok_bind,ik,bK,if_true]
theorem v7 {t:Bool}(ha:ev C a σ = .ok (sB true)) (hb:ev C b σ = .ok (sB t)):ev C (.and a b) σ = .ok (sB t):=by
 simp only [gw,ha,hb,Out.ok_bind,ik,bK,if_true]
theorem wu (ha:ev C a σ = .ok (sB false)):ev C (.and a b) σ = .ok (sB false):=by
 simp only [gw,ha,Out.ok_bind,ik,bK,Bool.false_eq_true,if_false]
theorem ju {u v:Ss}(h:ev C c σ = .ok (sB false)):ex C (.ite c u v) σ=exs C v σ:=by simp only [gD,h,Out.ok_bind,ik,bK,Bool.false_eq_true,if_false]
theorem lO {u v:Ss}(h:ev C c σ = .ok (sB true)):ex C (.ite c u v) σ=exs C u σ:=by simp only [gD,h,Out.ok_bind,ik,bK,if_true]
theorem d8:exs C .nil σ = .ok (σ,.next):=by simp only [cW]
theorem eG {f:B1}(ha:ev C a σ = .ok (x,mx)):ev C (.bi1 f a) σ=b1V f x:=by simp only [jo,ha,Out.ok_bind]
theorem sd {z:String}{p r:V×Mode}(h:σ z=some p) (hr:mk p.1=r):ev C (.name z) σ = .ok r:=by simp only [c7,h,hr]
theorem aL {r:V×Mode}{q:List PyData×Mode}(h:ev C a σ = .ok r) (hq:itV r = .ok q):bt C (.e a) σ = .ok q:=by simp only [gP,h,Out.ok_bind,hq]
theorem cg {n:Nat}{m:Mode}(h:ev C a σ = .ok (.d (.int n),m)) (hn:n≤1000000):bt C (.r1 a) σ = .ok ((aW n).map .int,.deep):=by
 simp only [fL,h,Out.ok_bind]; exact tq hn
theorem qO {elt:E}{z:String}{it:It}{q:List PyData×Mode}{r:List PyData×Bool}(h:bt C it σ = .ok q) (hr:bz (fun y=>(ev C elt (upd σ z (mk (.d y)))).bind fun r=>.ok (some r)) q.1 = .ok r):ev C (.comp elt z it) σ = .ok (.d (.list r.1),if r.2 then .deep else .top):=by
 simp only [gZ,h,Out.ok_bind,hr,Out.calm_ok]
theorem mh {elt c:E}{z:String}{it:It}{q:List PyData×Mode}{r:List PyData×Bool}(h:bt C it σ = .ok q) (hr:bz (fun y=>(ev C c (upd σ z (mk (.d y)))).bind fun t=>(aq t.1).bind fun b=>if b then (ev C elt (upd σ z (mk (.d y)))).bind fun r=>.ok (some r) else .ok none) q.1 = .ok r):ev C (.compif elt z it c) σ = .ok (.d (.list r.1),if r.2 then .deep else .top):=by
 simp only [e9,h,Out.ok_bind,hr,Out.calm_ok]
theorem mr {c:E}{z:String}{it:It}{ns:List Int}{m:Mode}(p:Int->Bool) (h:bt C it σ = .ok (ns.map .int,m)) (hc:∀ i∈ns,ev C c (upd σ z (sI i)) = .ok (sB (p i))):ev C (.compif (.name z) z it c) σ = .ok (.d (aa (ns.filter p)),.deep):=by
 rw [mh h (r:=((ns.filter p).map .int,true))]
 ·rfl
 ·have:=kI (F:=fun y=>(ev C c (upd σ z (mk (.d y)))).bind fun t=>(aq t.1).bind fun b=>if b then (ev C (.name z) (upd σ z (mk (.d y)))).bind fun r=>.ok (some r) else .ok none) (f:=fun i=>i) (p:=p) (ns:=ns) fun i hi=>by
   rw [AR,hc i hi]
   cases p i<;>simp [c7]
  simpa using this
theorem uK {t:List (List Int)}{i:Int}{r:List Int}(h0:0≤i) (h:t[i.toNat]? = some r):eV (ag t) (.int i) = .ok (.d (aa r),.sh):=by
 have hlt:i.toNat<t.length:=(List.getElem?_eq_some_iff.mp h).1
 exact mv (fe h0 (by rw [List.length_map]; exact xp hlt)) (by rw [List.getElem?_map,h]; rfl)
end
end Mine
namespace Mine
open PySem
def Val (σ:St) (x:String) (v:V):Prop:=∃ m,σ x=some (v,m)
def Has (σ:St) (l:List (String×V)):Prop:=∀ x v,l.lookup x=some v->Val σ x v
def Sub (l:List (String×V)):List (String×V)->Prop
 | []=>True
 | p::r=>l.lookup p.1=some p.2/\Sub l r
theorem lh (σ:St) (x:String) (r:V×Mode):upd σ x r x=some r:=if_pos rfl
theorem mX {β:Type}(x:String) (v:β) (l:List (String×β)):List.lookup x ((x,v)::l)=some v:=by
 rw [List.lookup_cons,beq_self_eq_true]
theorem mW {β:Type}{x y:String}(h:x≠y) (v:β) (l:List (String×β)):List.lookup x ((y,v)::l)=l.lookup x:=by
 rw [List.lookup_cons,beq_eq_false_iff_ne.mpr h]
section
variable {C:Calls}{σ:St}{l l':List (String×V)}
theorem Has.nil:Has σ []:=fun uu uu h=>by exact nN h
theorem Has.ev {x:String}{v:V}(H:Has σ l) (h:l.lookup x=some v):ev C (.name x) σ = .ok (mk v):=by
 refine ai (H x v h) fun m e=>?_
 exact sd e rfl
theorem Has.upd (H:Has σ l) (x:String) (v:V) (m:Mode):Has (Mine.upd σ x (v,m)) ((x,v)::l):=by
 intro y u h
 by_cases e:y=x
 ·subst e
  rw [mX] at h
  (have oc:=Option.some.inj h; clear h; subst oc)
  exact ⟨m,if_pos rfl⟩
 ·rw [mW e] at h
  refine ai (H y u h) fun m' q=>?_
  exact ⟨m',(if_neg e).trans q⟩
theorem Has.demote (H:Has σ l) (ns:List String):Has (Mine.demote σ ns) l:=by
 intro x v h
 refine ai (H x v h) fun m q=>?_
 by_cases e:x∈ns
 ·exact ⟨(mk v).2,(if_pos e).trans (by rw [q]; rfl)⟩
 ·exact ⟨m,(if_neg e).trans q⟩
theorem Has.consume (H:Has σ l) (ns:List String) (m:Mode):Has (Mine.consume σ ns m) l:=by
 unfold Mine.consume
 by_cases e:m = .deep
 ·rw [if_pos e]; exact H
 ·rw [if_neg e]; exact H.demote ns
theorem Has.sub (H:Has σ l) (h:Sub l l'):Has σ l':=by
 induction l' with
 | nil=>exact .nil
 | cons p r ih=>
  intro x v hx
  by_cases e:x=p.1
  ·subst e
   rw [mX] at hx
   (have oc:=Option.some.inj hx; clear hx; subst oc)
   exact H _ _ h.1
  ·rw [mW e] at hx
   exact ih h.2 x v hx
noncomputable def Runs (C:Calls) (b:Ss) (σ:St) (Post:St->Flw->Prop):Prop:=∃ σ' fl,exs C b σ = .ok (σ',fl)/\Post σ' fl
noncomputable def Cont (C:Calls) (b:Ss) (Post:St->Flw->Prop) (σ:St):Flw->Prop
 | .next=>Runs C b σ Post
 | .ret v=>Post σ (.ret v)
variable {b u v:Ss}{s:S}{e c:E}{Post Post':St->Flw->Prop}{r:V×Mode}{x:String}
theorem Cont.ret (h:Post σ (.ret r)):Cont C b Post σ (.ret r):=h
theorem Runs.mono (h:Runs C b σ Post) (k:∀ σ' fl,Post σ' fl->Post' σ' fl):Runs C b σ Post':=av (h) fun a f h1 h2=>(aB a f h1 (k a f h2))
theorem Runs.nil (h:Post σ .next):Runs C .nil σ Post:=(aB σ .next d8 h)
theorem Runs.cons {o:St×Flw}(he:ex C s σ = .ok o) (k:Cont C b Post o.1 o.2):Runs C (.cons s b) σ Post:=by
 obtain ⟨σ',fl⟩:=o
 cases fl with
 | next=>
  refine av (k) fun a f h1 h2=>?_
  try clear k
  exact (aB a f (by rw [dF he]; exact h1) h2)
 | ret v=>exact (aB σ' (.ret v) (zm he) k)
theorem Runs.set (H:Has σ l) (he:Mine.ev C e σ = .ok r) (k:∀ σ',Has σ' ((x,r.1)::l)->σ' x=some r->Runs C b σ' Post):Runs C (.cons (.assign x e) b) σ Post :=
 Runs.cons (o:=(Mine.upd (Mine.consume σ (fv e) r.2) x r,.next)) (by simp only [cf,iQ he,Out.ok_bind]) (k _ ((H.consume _ _).upd x r.1 r.2) (if_pos rfl))
theorem Runs.ret (he:Mine.ev C e σ = .ok r) (k:Post σ (.ret r)):Runs C (.cons (.ret e) b) σ Post:=Runs.cons (o:=(σ,.ret r)) (AT he) k
theorem Runs.retn (he:σ x=some r) (k:Post σ (.ret r)):Runs C (.cons (.retn x) b) σ Post:=Runs.cons (o:=(σ,.ret r)) (by simp only [j6,he]) k
theorem Runs.no (he:Mine.ev C c σ = .ok (sB false)) (k:Runs C b σ Post):Runs C (.cons (.ite c u .nil) b) σ Post:=Runs.cons (o:=(σ,.next)) ((ju he).trans d8) k
theorem Runs.ite {t:Bool}(he:Mine.ev C c σ = .ok (sB t)) (kt:t=true->Runs C u σ (Cont C b Post)) (kf:t=false->Runs C v σ (Cont C b Post)):Runs C (.cons (.ite c u v) b) σ Post:=by
 cases t with
 | true=>
  refine av (kt rfl) fun a f h1 h2=>?_
  exact Runs.cons (o:=(a,f)) ((lO he).trans h1) h2
 | false=>
  refine av (kf rfl) fun a f h1 h2=>?_
  exact Runs.cons (o:=(a,f)) ((ju he).trans h1) h2
theorem Runs.next {σ':St}(he:ex C s σ = .ok (σ',.next)) (k:Runs C b σ' Post):Runs C (.cons s b) σ Post:=Runs.cons (o:=(σ',.next)) he k
theorem Runs.iteTo {t:Bool}(Inv:St->Prop) (he:Mine.ev C c σ = .ok (sB t)) (kt:t=true->Runs C u σ (fun σ' fl=>fl = .next/\Inv σ')) (kf:t=false->Runs C v σ (fun σ' fl=>fl = .next/\Inv σ')) (k:∀ σ',Inv σ'->Runs C b σ' Post):Runs C (.cons (.ite c u v) b) σ Post :=
 Runs.ite he (fun q=>(kt q).mono fun σ' fl h=>by obtain ⟨rfl,h⟩:=h; exact k σ' h) fun q=>(kf q).mono fun σ' fl h=>by obtain ⟨rfl,h⟩:=h; exact k σ' h
theorem gp {ns:List String}{m:Mode}:(∀ l,Has σ l->Has (Mine.consume σ ns m) l)/\∀ y,y∉ns->Mine.consume σ ns m y=σ y:=⟨fun uu H=>H.consume ns m,fun y hy=>by
 unfold Mine.consume
 by_cases q:m = .deep
 ·rw [if_pos q]
 ·rw [if_neg q]; exact if_neg hy⟩
theorem mt {α:Type}{body:Ss}{z:String}{g:α->PyData}{xs:List α}(Inv:List α->St->Prop)
  (hs:∀ pre y post,xs=pre++y::post->∀ σ,Inv pre σ->Runs C body (Mine.upd σ z (mk (.d (g y)))) (fun σ' fl=>match fl with | .next=>Inv (pre++[y]) σ' | .ret v=>Post σ' (.ret v))) :
  ∀ (post pre:List α) (σ:St),xs=pre++post->Inv pre σ->∃ o,b8 (fun y σ=>exs C body (Mine.upd σ z (mk (.d y)))) (post.map g) σ = .ok o/\match o.2 with | .next=>Inv xs o.1 | .ret v=>Post o.1 (.ret v)
 | [],pre,σ,hl,h=>(ah (σ,.next) rfl (by rw [hl,List.append_nil]; exact h))
 | y::post,pre,σ,hl,h=>by
  refine av (hs pre y post hl σ h) fun a f h1 h2=>?_
  cases f with
  | ret v=>exact (ah (a,.ret v) (by rw [List.map_cons,b8,h1]; rfl) h2)
  | next=>
   obtain ⟨o,h3,h4⟩:=mt Inv hs post (pre++[y]) a (by rw [hl,List.append_assoc]; rfl) h2
   exact (ah o (by rw [List.map_cons,b8,h1]; exact h3) h4)
theorem Runs.for {α:Type}{body:Ss}{z:String}{it:It}{g:α->PyData}{xs:List α}{m:Mode}(Inv:List α->St->Prop) (hit:bt C it σ = .ok (xs.map g,m)) (h0:∀ σ0,(∀ l,Has σ l->Has σ0 l)->(∀ y,y∉bx it->σ0 y=σ y)->Inv [] σ0)
  (hs:∀ pre y post,xs=pre++y::post->∀ σ,Inv pre σ->Runs C body (Mine.upd σ z (mk (.d (g y)))) (fun σ' fl=>match fl with | .next=>Inv (pre++[y]) σ' | .ret v=>Post σ' (.ret v)))
  (k:∀ σ',Inv xs σ'->Runs C b σ' Post):Runs C (.cons (.for1 z it body) b) σ Post:=by
 refine af (mt Inv hs xs [] (Mine.consume σ (bx it) m) rfl (h0 _ gp.1 gp.2)) fun o h1 h2=>?_
 refine Runs.cons (o:=o) (by simp only [ew,hit,Out.ok_bind]; exact h1) ?_
 obtain ⟨a,f⟩:=o
 cases f with
 | next=>exact k a h2
 | ret v=>exact h2
noncomputable def Sk {β:Type}(o:Option β) (Inv:St->Prop) (rv:β->V×Mode) (σ:St) (fl:Flw):Prop:=match o with
 | none=>fl = .next/\Inv σ
 | some q=>fl = .ret (rv q)
theorem Sk.next {β:Type}{o:Option β}{Inv:St->Prop}{rv:β->V×Mode}(h:o=none) (hI:Inv σ):Sk o Inv rv σ .next:=by subst h; exact ⟨rfl,hI⟩
theorem Sk.ret {β:Type}{o:Option β}{q:β}{Inv:St->Prop}{rv:β->V×Mode}(h:o=some q):Sk o Inv rv σ (.ret (rv q)):=by subst h; exact rfl
theorem Runs.seek {α β:Type}{body:Ss}{z:String}{it:It}{g:α->PyData}{xs:List α}{m:Mode}(Inv:St->Prop) (f:α->Option β) (rv:β->V×Mode) (hit:bt C it σ = .ok (xs.map g,m)) (h0:∀ σ0,(∀ l,Has σ l->Has σ0 l)->(∀ y,y∉bx it->σ0 y=σ y)->Inv σ0)
  (hs:∀ y∈xs,∀ σ,Inv σ->Runs C body (Mine.upd σ z (mk (.d (g y)))) (Sk (f y) Inv rv))
  (k:xs.findSome? f=none->∀ σ',Inv σ'->Runs C b σ' Post) (kr:∀ q,xs.findSome? f=some q->∀ σ',Post σ' (.ret (rv q))):Runs C (.cons (.for1 z it body) b) σ Post:=by
 refine Runs.for (fun pre σ=>Inv σ/\pre.findSome? f=none) hit (fun σ0 h1 h2=>⟨h0 σ0 h1 h2,rfl⟩) (fun pre y post hl σ1 h1=>?_) fun σ' h=>k h.2 σ' h.1
 refine (hs y (by rw [hl]; exact List.mem_append_right _ (.head _)) σ1 h1.1).mono fun σ' fl h=>?_
 cases hf:f y with
 | none=>
  rw [hf] at h
  revert h; intro IF
  refine ae (IF) fun G4 h=>?_
  try clear IF
  subst G4
  exact ⟨h,by rw [List.findSome?_append,h1.2,List.findSome?_cons,hf]; rfl⟩
 | some q=>
  rw [hf] at h
  subst h
  exact kr q (by rw [hl,List.findSome?_append,h1.2,List.findSome?_cons,hf]; rfl) σ'
theorem fQ:∀ (ps:List String) (vs:List V),ps.length=vs.length->∃ σ,bJ ps vs=some σ/\Has σ (ps.zip vs)
 | [],[],_=>(ah _ rfl .nil)
 | [],v::vs,h=>by cases h
 | p::ps,[],h=>by cases h
 | p::ps,v::vs,h=>by
  refine af (fQ ps vs (Nat.succ.inj h)) fun σ h1 h2=>?_
  exact (ah _ (by rw [bJ,h1]; rfl) (h2.upd p (mk v).1 (mk v).2))
theorem dW {ps:List String}{vs:List V}{P:V×Mode->Prop}(hl:ps.length=vs.length) (h:∀ σ,Has σ (ps.zip vs)->Runs C b σ (fun uu fl=>∃ r,fl = .ret r/\P r)):∃ r,aH C ⟨ps,b⟩ vs = .ok r/\P r:=by
 refine af (fQ ps vs hl) fun σ h1 h2=>?_
 obtain ⟨a,f,h3,r,G5,h4⟩:=h σ h2
 subst G5
 exact (ah r (by unfold aH; dsimp only; rw [h1]; dsimp only; rw [h3]; rfl) h4)
theorem cP {ps:List String}{vs:List V}{r:V×Mode}(hl:ps.length=vs.length) (h:∀ σ,Has σ (ps.zip vs)->Runs C b σ (fun uu fl=>fl = .ret r)):aH C ⟨ps,b⟩ vs = .ok r:=by
 refine af (dW (P:=fun q=>q=r) hl fun σ H=>(h σ H).mono fun uu uu e=>(ah r e rfl)) fun q h1 G6=>?_
 (clear h; subst G6)
 exact h1
noncomputable def gN (f:String):Bool:=!decide (f = "Rule") && !decide (f∈methNames)
theorem lX {f:String}(h:gN f=true) (fn:Fn) (vs:List V):dl f C fn vs=aH C fn vs:=by
 unfold gN at h
 simp only [Bool.and_eq_true,Bool.not_eq_true',decide_eq_false_iff_not] at h
 unfold dl
 rw [if_neg h.1,if_neg h.2]
theorem cG {L:List (String×Fn)}{n:Nat}{f:String}{fn:Fn}{es:Es}{q:List (V×Mode)}{vs:List V}(hL:L.lookup f=some fn) (he:evs (mkC L (n+1)) es σ = .ok q) (hv:q.map (·.1)=vs) (h:aH (mkC L n) fn vs = .ok r) (hp:gN f=true:=by decide):Mine.ev (mkC L (n+1)) (.call f es) σ = .ok r:=by
 have hC:mkC L (n+1) f=some fun vs=>dl f (mkC L n) fn vs:=by show (L.lookup f).map _=_; rw [hL]; rfl
 rw [gT hC he,hv,lX hp,h]
end
section
variable {C:Calls}{σ:St}{a b c:E}{x y:Int}{p q:Bool}{xs ys:List Int}{t u:List (List Int)}{m m':Mode}
theorem ak (i:Int):ev C (.int i) σ = .ok (sI i):=by simp only [dH]
theorem cM (i:Bool):ev C (.bool i) σ = .ok (sB i):=by simp only [oM]
theorem iU:ev C .none σ = .ok (.d .none,.deep):=by simp only [o0]
theorem tm:ev C .edic σ = .ok (.dic0,.deep):=by simp only [ol]
theorem nA:ev C (.list .nil) σ = .ok (.d (aa []),.deep):=by simp only [bv,a8]; rfl
theorem gc (h:ev C a σ = .ok (sI x)):ev C (.list (.cons a .nil)) σ = .ok (.d (aa [x]),.deep):=by simp only [bv,a8,aY,h,Out.ok_bind]; rfl
theorem Eo (h:ev C a σ = .ok (sI x)) (h':ev C b σ = .ok (sI y)):ev C (.list (.cons a (.cons b .nil))) σ = .ok (.d (aa [x,y]),.deep):=by simp only [bv,a8,aY,h,h',Out.ok_bind]; rfl
theorem ca (ha:ev C a σ = .ok (sI x)) (hb:ev C b σ = .ok (sI y)):ev C (.bin .add a b) σ = .ok (sI (x+y)):=(cU ha hb).trans rfl
theorem C0 (ha:ev C a σ = .ok (sI x)) (hb:ev C b σ = .ok (sI y)):ev C (.bin .sub a b) σ = .ok (sI (x-y)):=(cU ha hb).trans rfl
theorem B8 (ha:ev C a σ = .ok (sI x)) (hb:ev C b σ = .ok (sI y)):ev C (.bin .xor a b) σ = .ok (sI (Builtin.bitXor x y)):=(cU ha hb).trans rfl
theorem kK (ha:ev C a σ = .ok (sI x)) (hb:ev C b σ = .ok (sI y)) (h:x.natAbs<2^63):ev C (.bin .mul a b) σ = .ok (sI (x*y)):=(cU ha hb).trans (tz x y h)
theorem aV (ha:ev C a σ = .ok (sI x)) (hb:ev C b σ = .ok (sI y)) (h:0<y):ev C (.bin .mod a b) σ = .ok (sI (x%y)):=(cU ha hb).trans (zD x y h)
theorem fb (ha:ev C a σ = .ok (sI x)) (hb:ev C b σ = .ok (sI y)) (h:0<y) (h':y<1000000000):ev C (.bin .fdiv a b) σ = .ok (sI (x/y)):=(cU ha hb).trans (zx x y h h')
theorem lz (ha:ev C a σ = .ok (sI x)) (hb:ev C b σ = .ok (sI y)):ev C (.cmp .lt a b) σ = .ok (sB (decide (x<y))):=bp ha hb rfl
theorem oG (ha:ev C a σ = .ok (sI x)) (hb:ev C b σ = .ok (sI y)):ev C (.cmp .gt a b) σ = .ok (sB (decide (y<x))):=bp ha hb rfl
theorem AA (ha:ev C a σ = .ok (sI x)) (hb:ev C b σ = .ok (sI y)):ev C (.cmp .ge a b) σ = .ok (sB (decide (y≤x))):=bp ha hb rfl
theorem cz (ha:ev C a σ = .ok (sI x)) (hb:ev C b σ = .ok (sI y)):ev C (.cmp .eq a b) σ = .ok (sB (decide (x=y))):=bp ha hb (z4 x y)
theorem iH (ha:ev C a σ = .ok (sI x)) (hb:ev C b σ = .ok (sI y)):ev C (.cmp .ne a b) σ = .ok (sB (!decide (x=y))):=bp ha hb (Ar x y)
theorem ED (ha:ev C a σ = .ok (.d (aa xs),m)) (hb:ev C b σ = .ok (.d (aa ys),m')):ev C (.cmp .ne a b) σ = .ok (sB (!decide (xs=ys))):=bp ha hb (yT xs ys)
theorem EX (ha:ev C a σ = .ok (.d (aa xs),m)) (hb:ev C b σ = .ok (.d (aa ys),m')):ev C (.cmp .eq a b) σ = .ok (sB (decide (xs=ys))):=bp ha hb (yY xs ys)
theorem Bi (ha:ev C a σ = .ok (.d (ag t),m)) (hb:ev C b σ = .ok (.d (ag u),m')):ev C (.cmp .ne a b) σ = .ok (sB (!decide (t=u))):=bp ha hb (yR t u)
theorem rY (ha:ev C a σ = .ok (sI x)) (hb:ev C b σ = .ok (.d (aa xs),m)):ev C (.cmp .isin a b) σ = .ok (sB (decide (x∈xs))):=bp ha hb (z7 x xs)
theorem nH (ha:ev C a σ = .ok (sI x)) (hb:ev C b σ = .ok (.d (aa xs),m)):ev C (.cmp .notin a b) σ = .ok (sB (!decide (x∈xs))):=bp ha hb (yE x xs)
theorem ES (ha:ev C a σ = .ok (.d (aa xs),m)) (hb:ev C b σ = .ok (.d (ag t),m')):ev C (.cmp .isin a b) σ = .ok (sB (decide (xs∈t))):=bp ha hb (yq xs t)
theorem eL (ha:ev C a σ = .ok (.d (aa xs),m)) (hb:ev C b σ = .ok (.d (aa ys),m')) (h:xs.length+ys.length≤1000000):ev C (.bin .add a b) σ = .ok (.d (aa (xs++ys)),.deep):=(cU ha hb).trans (wX xs ys h)
theorem wG (t u:List (List Int)) (h:t.length+u.length≤1000000):∃ m,di .add (ag t) (ag u) = .ok (.d (ag (t++u)),m):=by
 refine ⟨fresh ((t++u).map aa),?_⟩
 show (if (t.map aa).length+(u.map aa).length≤lim then Out.ok (V.d (.list (t.map aa++u.map aa)),fresh (t.map aa++u.map aa)) else .bad)=_
 rw [List.length_map,List.length_map,if_pos (show _≤lim from h),← List.map_append]; rfl
theorem fo (ha:ev C a σ = .ok (.d (ag t),m)) (hb:ev C b σ = .ok (.d (ag u),m')) (h:t.length+u.length≤1000000):∃ m,ev C (.bin .add a b) σ = .ok (.d (ag (t++u)),m):=by
 refine ai (wG t u h) fun m q=>?_
 exact ⟨m,(cU ha hb).trans q⟩
theorem cR (ha:ev C a σ = .ok (.d (aa xs),m)):ev C (.bi1 .len a) σ = .ok (sI xs.length):=(eG ha).trans (zX xs)
theorem dR (ha:ev C a σ = .ok (.d (ag t),m)):ev C (.bi1 .len a) σ = .ok (sI t.length):=(eG ha).trans (zF t)
theorem iI (ha:ev C a σ = .ok (.d (aa xs),m)):ev C (.bi1 .list a) σ = .ok (.d (aa xs),.deep):=(eG ha).trans (yV xs)
theorem qr (ha:ev C a σ = .ok (.d (aa xs),m)):ev C (.bi1 .tuple a) σ = .ok (.d (aM xs),.deep):=(eG ha).trans (v4 xs)
theorem ip (ha:ev C a σ = .ok (.d (aa xs),m)) (h:xs.length<64):ev C (.bi1 .sorted a) σ = .ok (.d (aa (aN xs)),.deep):=(eG ha).trans (uq xs h)
theorem oA {r:List Int}(h:r.Pairwise (· < ·)):aN r=r:=uT (.refl _) (h.imp fun h=>Int.le_of_lt h)
theorem eI {i:Int}(ha:ev C a σ = .ok (.d (aa xs),m)) (hb:ev C b σ = .ok (sI i)) (h0:0≤i) (h:xs[i.toNat]? = some x):ev C (.sub a b) σ = .ok (sI x):=(kS ha hb).trans (tV h0 h)
theorem je {i:Int}(ha:ev C a σ = .ok (.d (ag t),m)) (hb:ev C b σ = .ok (sI i)) (h0:0≤i) (h:t[i.toNat]? = some xs):ev C (.sub a b) σ = .ok (.d (aa xs),.sh):=(kS ha hb).trans (uK h0 h)
theorem eW (ha:ev C a σ = .ok (sB p)) (hb:p=true->ev C b σ = .ok (sB q)):ev C (.and a b) σ = .ok (sB (p&&q)):=by
 cases p with
 | true=>exact v7 ha (hb rfl)
 | false=>exact wu ha
theorem dC (ha:ev C a σ = .ok (sB p)) (hb:p=false->ev C b σ = .ok (sB q)):ev C (.or a b) σ = .ok (sB (p||q)):=by
 cases p with
 | true=>exact zv ha
 | false=>exact yo ha (hb rfl)
theorem z9 (ha:ev C a σ = .ok (.d (ag t),m)):∃ m,ev C (.rev a) σ = .ok (.d (ag t.reverse),m):=by
 refine ⟨fresh (t.reverse.map aa),?_⟩
 simp only [jq,ha,Out.ok_bind]
 show Out.ok (V.d (.list (t.map aa).reverse),fresh (t.map aa).reverse)=_
 rw [← List.map_reverse]; rfl
theorem zy {i j:Int}(ha:ev C a σ = .ok (sI i)) (hb:ev C b σ = .ok (sI j)) (h1:0≤i) (h2:i≤1000) (h3:0≤j) (h4:j≤1000):bt C (.r2 a b) σ = .ok (((List.range (j-i).toNat).map fun (k:Nat)=>i+(k:Int)).map .int,.deep):=by
 simp only [fK,ha,hb,Out.ok_bind]
 show cj i j=_
 unfold cj
 rw [if_pos (cH (by unfold lim; exact CC h1 h4) (by exact yc h1) (by exact x9 h2) (by exact yc h3) (by exact x9 h4)),lj]
theorem bU {α:Type}{g:α->PyData}{l:List α}{z:String}{it:It}{q:Mode}(f:α->List Int) (mm:Mode) (h:bt C it σ = .ok (l.map g,q)) (hc:∀ i∈l,ev C a (upd σ z (mk (.d (g i)))) = .ok (.d (aa (f i)),mm)) :
  ∃ m,ev C (.comp a z it) σ = .ok (.d (ag (l.map f)),m)/\(mm = .deep->m = .deep)/\m≠.sh:=by
 obtain ⟨b,h1,h2⟩:=hH (F:=fun y=>(ev C a (upd σ z (mk (.d y)))).bind fun r=>.ok (some r)) (e:=g) (f:=f) (p:=fun uu=>true) (m:=fun uu=>mm) (l:=l) fun i hi=>by rw [hc i hi]; rfl
 rw [List.filter_eq_self.mpr (fun uu uu=>rfl)] at h1
 exact (aC (if b then .deep else .top) (qO h h1) (fun hm=>by rw [h2 fun uu uu=>hm]; rfl) (by cases b<;>simp))
theorem jd {α:Type}{g:α->PyData}{l:List α}{z:String}{it:It}{r:Mode}(f:α->List Int) (p:α->Bool) (mm:Mode) (h:bt C it σ = .ok (l.map g,r)) (hp:∀ i∈l,ev C c (upd σ z (mk (.d (g i)))) = .ok (sB (p i)))
  (hc:∀ i∈l,p i=true->ev C a (upd σ z (mk (.d (g i)))) = .ok (.d (aa (f i)),mm)):∃ m,ev C (.compif a z it c) σ = .ok (.d (ag ((l.filter p).map f)),m)/\(mm = .deep->m = .deep)/\m≠.sh:=by
 obtain ⟨b,h1,h2⟩:=hH (F:=fun y=>(ev C c (upd σ z (mk (.d y)))).bind fun t=>(aq t.1).bind fun b=>if b then (ev C a (upd σ z (mk (.d y)))).bind fun r=>.ok (some r) else .ok none) (e:=g) (f:=f) (p:=p) (m:=fun uu=>mm) (l:=l) fun i hi=>by
  rw [hp i hi]
  cases hq:p i with
  | true=>simp only [Out.ok_bind,ik,bK,if_true,hc i hi hq]
  | false=>simp only [Out.ok_bind,ik,bK,Bool.false_eq_true,if_false]
 exact (aC (if b then .deep else .top) (mh h h1) (fun hm=>by rw [h2 fun uu uu=>hm]; rfl) (by cases b<;>simp))
theorem jp {α:Type}{g:α->PyData}{l:List α}{z:String}{it:It}{q:Mode}(f:α->Int) (h:bt C it σ = .ok (l.map g,q)) (hc:∀ i∈l,ev C a (upd σ z (mk (.d (g i)))) = .ok (sI (f i))):ev C (.comp a z it) σ = .ok (.d (aa (l.map f)),.deep):=by
 rw [qO h (r:=((l.map f).map .int,true))]
 ·rfl
 ·exact pA (F:=fun y=>(ev C a (upd σ z (mk (.d y)))).bind fun r=>.ok (some r)) (e:=g) fun i hi=>by rw [hc i hi]; rfl
theorem uz {xs:List Int}(h:xs≠[]):∃ i,iY xs=some i/\i∈xs:=by
 cases xs with
 | nil=>exact absurd rfl h
 | cons x xs=>
  refine (ah _ rfl ?_)
  have key:∀ (l:List Int) (a:Int),l.foldl (fun a b=>if a<b then b else a) a=a\/l.foldl (fun a b=>if a<b then b else a) a∈l:=by
   intro l
   induction l with
   | nil=>exact fun a=>.inl rfl
   | cons y l ih=>
    intro a
    rw [List.foldl_cons]
    by_cases q:a<y
    ·rw [if_pos q]
     rcases ih y with e | e
     ·exact .inr (by rw [e]; exact .head _)
     ·exact .inr (.tail _ e)
    ·rw [if_neg q]
     exact (ih a).imp id fun e=>.tail _ e
  rcases key xs x with e | e
  ·rw [e]; exact .head _
  ·exact .tail _ e
theorem BL (ha:ev C a σ = .ok (.d (aa xs),m)) (h:xs≠[]):∃ i,ev C (.bi1 .max a) σ = .ok (sI i)/\i∈xs:=by
 refine af (uz h) fun i h1 h2=>?_
 refine (ah i ((eG ha).trans ?_) h2)
 show (au ((aS (xs.map PyData.int)).bind iY) fun i=>Out.ok (sI i))=_
 rw [d0,Option.bind_some,h1]; rfl
theorem ji:ev C (.list (.cons (.list .nil) .nil)) σ = .ok (.d (ag [[]]),.deep):=by simp only [bv,a8,aY]; rfl
theorem fh:ev C (.list .nil) σ = .ok (.d (ag []),.deep):=by simp only [bv,a8]; rfl
theorem pU {α:Type}{l:List α}{Q:α->Bool->Prop}(h:∀ i∈l,∃ b,Q i b):∃ p:α->Bool,∀ i∈l,Q i (p i):=by
 classical
 exact ⟨fun i=>if hi:i∈l then (h i hi).choose else false,fun i hi=>by dsimp only; rw [dif_pos hi]; exact (h i hi).choose_spec⟩
theorem Has.mk {l:List (String×V)}(H:Has σ l) (z:String) (v:V):Has (Mine.upd σ z (Mine.mk v)) ((z,v)::l):=H.upd z v (Mine.mk v).2
variable {l:List (String×V)}{z:String}{bb:Ss}{Post:St->Flw->Prop}
theorem Runs.appR (H:Has σ l) (hz:σ z=some (.d (ag t),m)) (hm:m≠.sh) (h:ev C a σ = .ok (.d (aa xs),.deep)) (hl:t.length<1000000) (k:∀ σ',Has σ' ((z,.d (ag (t++[xs])))::l)->σ' z=some (.d (ag (t++[xs])),m)->(∀ y,y≠z->σ' y=σ y)->Runs C bb σ' Post):Runs C (.cons (.append z a) bb) σ Post:=by
 refine Runs.cons (o:=(upd σ z (.d (ag (t++[xs])),m),.next)) ?_ (k _ (H.upd z _ m) (if_pos rfl) fun y hy=>if_neg hy)
 simp only [eZ,h,Out.calm_ok,Out.ok_bind,hz,iW,if_neg hm]
 rw [s9 (by rw [List.length_append,List.length_map]; exact hl)]
 unfold ag; rw [List.map_append]; rfl
theorem mT {α β:Type}(f:α->β):∀ (l:List α) (i:Nat),(l.map f).eraseIdx i=(l.eraseIdx i).map f
 | [],_=>rfl
 | _::_,0=>rfl
 | a::l,i+1=>congrArg (f a :: ·) (mT f l i)
theorem Runs.popR (H:Has σ l) (hz:σ z=some (.d (ag t),m)) (hm:m≠.sh) (h:ev C a σ = .ok (sI x)) (h0:0≤x) (h1:x<t.length) (k:∀ σ',Has σ' ((z,.d (ag (t.eraseIdx x.toNat)))::l)->σ' z=some (.d (ag (t.eraseIdx x.toNat)),.top)->Runs C bb σ' Post):Runs C (.cons (.pop z a) bb) σ Post:=by
 refine Runs.cons (o:=(upd σ z (.d (ag (t.eraseIdx x.toNat)),.top),.next)) ?_ (k _ (H.upd z _ .top) (if_pos rfl))
 simp only [lR,h,Out.calm_ok,Out.ok_bind,hz,iW,Go]
 rw [if_neg (by rw [List.length_map]; exact fun q=>q.elim hm fun q=>by exact CV h0 h1 q)]
 unfold ag; rw [mT]
theorem xg {r:PyData}{q:List PyData}(h:ev C a σ = .ok (.d (.tuple (r::q)),m)) (hb:ev C b σ = .ok (sI 0)):ev C (.sub a b) σ = .ok (mk (.d r)):=by
 rw [kS h hb]
 show (au ((ba 0 (r::q).length).bind fun k=>(r::q)[k]?) fun z=>Out.ok (mk (.d z)))=_
 rw [fe (by decide) (by rw [List.length_cons]; exact ET)]; rfl
theorem xI {r r':PyData}{q:List PyData}(h:ev C a σ = .ok (.d (.tuple (r::r'::q)),m)) (hb:ev C b σ = .ok (sI 1)):ev C (.sub a b) σ = .ok (mk (.d r')):=by
 rw [kS h hb]
 show (au ((ba 1 (r::r'::q).length).bind fun k=>(r::r'::q)[k]?) fun z=>Out.ok (mk (.d z)))=_
 rw [fe (by decide) (by rw [List.length_cons,List.length_cons]; exact Cm)]; rfl
theorem AQ (ha:ev C a σ = .ok (sI x)) (hb:ev C b σ = .ok (.d (ag t),m)):∃ m,ev C (.tup (.cons a (.cons b .nil))) σ = .ok (.d (.tuple [.int x,ag t]),m):=by
 refine ⟨if allDeep [sI x,(.d (ag t),m)] then .deep else .sh,?_⟩
 simp only [jl,a8,aY,ha,hb,Out.ok_bind]
 rfl
theorem cV {G:Prop}(ha:ev C a σ = .ok (sI x)) (hb:ev C b σ = .ok (.d (ag t),m)) (k:∀ m,ev C (.tup (.cons a (.cons b .nil))) σ = .ok (.d (.tuple [.int x,ag t]),m)->G):G:=ai (AQ ha hb) k
theorem nI {v:V}{ty:String}(h:ev C a σ = .ok (v,m)) (hi:gn v ty = .ok p):ev C (.isi a ty) σ = .ok (sB p):=by simp only [lK,h,Out.ok_bind,hi]
theorem tE {x y z:PyData}{m1 m2 m3:Mode}(ha:ev C a σ = .ok (.d x,m1)) (hb:ev C b σ = .ok (.d y,m2)) (hc:ev C c σ = .ok (.d z,m3)):ev C (.tup (.cons a (.cons b (.cons c .nil)))) σ = .ok (.d (.tuple [x,y,z]),if allDeep [(.d x,m1),(.d y,m2),(.d z,m3)] then .deep else .sh):=by
 simp only [jl,a8,aY,ha,hb,hc,Out.ok_bind]; rfl
end
end Mine
namespace Mine
open PySem
noncomputable def p_exchanged:Fn:=⟨["choice", "out", "thing"],
(.cons (.ret (.bi1 .sorted (.bin .add (.compif (.name "one") "one" (.e (.name "choice")) (.cmp .ne (.name "one") (.name "out"))) (.list (.cons (.name "thing") .nil)))))
.nil)⟩
noncomputable def p_known_of:Fn:=⟨["table"],
(.cons (.assign "known" .edic)
(.cons (.for1 "choice" (.e (.name "table"))
(.cons (.setitem "known" (.bi1 .tuple (.name "choice")))
.nil))
(.cons (.retn "known")
.nil)))⟩
noncomputable def p_goes:Fn:=⟨["known", "one", "other", "thing"],
(.cons (.for1 "out" (.e (.name "one"))
(.cons (.ite (.and (.cmp .notin (.name "out") (.name "other")) (.cmp .isin (.bi1 .tuple (.call "exchanged" (.cons (.name "one") (.cons (.name "out") (.cons (.name "thing") .nil))))) (.name "known")))
(.cons (.ret (.bool true))
.nil)
.nil)
.nil))
(.cons (.ret (.bool false))
.nil))⟩
noncomputable def p_fault:Fn:=⟨["count", "table"],
(.cons (.assign "known" (.call "known_of" (.cons (.name "table") .nil)))
(.cons (.for1 "one" (.e (.name "table"))
(.cons (.for1 "thing" (.r1 (.name "count"))
(.cons (.ite (.cmp .notin (.name "thing") (.name "one"))
(.cons (.for1 "other" (.e (.name "table"))
(.cons (.ite (.and (.cmp .isin (.name "thing") (.name "other")) (.not (.call "goes" (.cons (.name "known") (.cons (.name "one") (.cons (.name "other") (.cons (.name "thing") .nil)))))))
(.cons (.ret (.tup (.cons (.bi1 .list (.name "one")) (.cons (.bi1 .list (.name "other")) (.cons (.name "thing") .nil)))))
.nil)
.nil)
.nil))
.nil)
.nil)
.nil))
.nil))
(.cons (.ret .none)
.nil)))⟩
noncomputable def l_cell_at:Fn:=⟨["_law_script", "_law_k"],
(.cons (.ite (.cmp .lt (.name "_law_k") (.bi1 .len (.name "_law_script")))
(.cons (.ret (.sub (.name "_law_script") (.name "_law_k")))
.nil)
.nil)
(.cons (.ite (.cmp .eq (.name "_law_script") (.list .nil))
(.cons (.ret (.int 0))
.nil)
.nil)
(.cons (.ret (.bin .add (.bin .mul (.sub (.name "_law_script") (.bin .mod (.name "_law_k") (.bi1 .len (.name "_law_script")))) (.int 7)) (.name "_law_k")))
.nil)))⟩
noncomputable def l_whole:Fn:=⟨["_law_found"],
(.cons (.ret (.and (.isi (.name "_law_found") "int") (.not (.isi (.name "_law_found") "bool"))))
.nil)⟩
noncomputable def l_subsets:Fn:=⟨["_law_count"],
(.cons (.assign "_law_rows" (.list (.cons (.list .nil) .nil)))
(.cons (.for1 "_law_thing" (.r1 (.name "_law_count"))
(.cons (.assign "_law_rows" (.bin .add (.name "_law_rows") (.comp (.bin .add (.name "_law_row") (.list (.cons (.name "_law_thing") .nil))) "_law_row" (.e (.name "_law_rows")))))
.nil))
(.cons (.retn "_law_rows")
.nil)))⟩
noncomputable def l_apart:Fn:=⟨["_law_vectors", "_law_row"],
(.cons (.assign "_law_sums" (.list (.cons (.int 0) .nil)))
(.cons (.for1 "_law_thing" (.e (.name "_law_row"))
(.cons (.ite (.cmp .isin (.sub (.name "_law_vectors") (.name "_law_thing")) (.name "_law_sums"))
(.cons (.ret (.bool false))
.nil)
.nil)
(.cons (.assign "_law_sums" (.bin .add (.name "_law_sums") (.comp (.bin .xor (.name "_law_one") (.sub (.name "_law_vectors") (.name "_law_thing"))) "_law_one" (.e (.name "_law_sums")))))
.nil)))
(.cons (.ret (.bool true))
.nil)))⟩
noncomputable def l_parts:Fn:=⟨["_law_script", "_law_kind", "_law_count", "_law_more"],
(.cons (.assign "_law_rows" (.call "_law_subsets" (.cons (.name "_law_count") .nil)))
(.cons (.ite (.cmp .eq (.name "_law_kind") (.int 0))
(.cons (.ret (.tup (.cons (.name "_law_count") (.cons (.comp (.sub (.name "_law_rows") (.bin .mod (.call "_law_cell_at" (.cons (.name "_law_script") (.cons (.bin .add (.int 6) (.name "_law_k")) .nil))) (.bi1 .len (.name "_law_rows")))) "_law_k" (.r1 (.bin .mod (.name "_law_more") (.int 6)))) .nil))))
.nil)
.nil)
(.cons (.ite (.cmp .eq (.bin .mod (.name "_law_more") (.int 9)) (.int 8))
(.cons (.assign "_law_count" (.bin .add (.int 7) (.bin .mod (.bin .fdiv (.name "_law_more") (.int 9)) (.int 3))))
(.cons (.assign "_law_rows" (.list .nil))
(.cons (.for1 "_law_one" (.r1 (.name "_law_count"))
(.cons (.assign "_law_rows" (.bin .add (.name "_law_rows") (.comp (.list (.cons (.name "_law_one") (.cons (.name "_law_thing") .nil))) "_law_thing" (.r2 (.bin .add (.name "_law_one") (.int 1)) (.name "_law_count")))))
.nil))
(.cons (.ret (.tup (.cons (.name "_law_count") (.cons (.name "_law_rows") .nil))))
.nil))))
.nil)
(.cons (.ret (.tup (.cons (.name "_law_count") (.cons (.compif (.name "_law_row") "_law_row" (.e (.name "_law_rows")) (.cmp .eq (.bi1 .len (.name "_law_row")) (.bin .mod (.name "_law_more") (.bin .add (.name "_law_count") (.int 1))))) .nil))))
.nil))))⟩
noncomputable def l_few:Fn:=⟨["_law_script"],
(.cons (.assign "_law_kind" (.bin .mod (.call "_law_cell_at" (.cons (.name "_law_script") (.cons (.int 0) .nil))) (.int 9)))
(.cons (.assign "_law_count" (.sub (.list (.cons (.int 6) (.cons (.int 5) (.cons (.int 4) (.cons (.int 3) (.cons (.int 6) (.cons (.int 1) (.cons (.int 0) .nil)))))))) (.bin .mod (.bin .fdiv (.call "_law_cell_at" (.cons (.name "_law_script") (.cons (.int 0) .nil))) (.int 9)) (.int 7))))
(.cons (.assign "_law_more" (.call "_law_cell_at" (.cons (.name "_law_script") (.cons (.int 1) .nil))))
(.cons (.ite (.cmp .eq (.name "_law_kind") (.int 7))
(.cons (.assign "_law_many" (.bin .add (.int 1) (.bin .mod (.name "_law_more") (.int 4))))
(.cons (.ite (.cmp .gt (.bi1 .len (.name "_law_script")) (.int 63))
(.cons (.assign "_law_many" (.bin .add (.int 1) (.bin .mod (.name "_law_more") (.int 5))))
.nil)
.nil)
(.cons (.ret (.tup (.cons (.bin .mul (.int 2) (.name "_law_many")) (.cons (.call "_law_pairs_by" (.cons (.name "_law_many") .nil)) .nil))))
.nil)))
.nil)
(.cons (.ite (.cmp .lt (.name "_law_kind") (.int 2))
(.cons (.ret (.call "_law_parts" (.cons (.name "_law_script") (.cons (.name "_law_kind") (.cons (.name "_law_count") (.cons (.name "_law_more") .nil))))))
.nil)
.nil)
(.cons (.assign "_law_count" (.sub (.list (.cons (.int 6) (.cons (.int 5) (.cons (.int 4) (.cons (.int 3) (.cons (.int 7) (.cons (.int 7) (.cons (.int 2) .nil)))))))) (.bin .mod (.bin .fdiv (.call "_law_cell_at" (.cons (.name "_law_script") (.cons (.int 0) .nil))) (.int 9)) (.int 7))))
(.cons (.assign "_law_rows" (.list (.cons (.list .nil) .nil)))
(.cons (.for1 "_law_thing" (.r1 (.name "_law_count"))
(.cons (.assign "_law_rows" (.bin .add (.name "_law_rows") (.compif (.bin .add (.name "_law_row") (.list (.cons (.name "_law_thing") .nil))) "_law_row" (.e (.name "_law_rows")) (.cmp .lt (.bi1 .len (.name "_law_row")) (.int 3)))))
.nil))
(.cons (.assign "_law_vectors" (.comp (.bin .mod (.call "_law_cell_at" (.cons (.name "_law_script") (.cons (.bin .add (.int 6) (.name "_law_thing")) .nil))) (.int 8)) "_law_thing" (.r1 (.name "_law_count"))))
(.cons (.assign "_law_good" (.compif (.name "_law_row") "_law_row" (.e (.name "_law_rows")) (.call "_law_apart" (.cons (.name "_law_vectors") (.cons (.name "_law_row") .nil)))))
(.cons (.assign "_law_most" (.bi1 .max (.comp (.bi1 .len (.name "_law_row")) "_law_row" (.e (.name "_law_good")))))
(.cons (.assign "_law_table_here" (.compif (.name "_law_row") "_law_row" (.e (.name "_law_good")) (.cmp .eq (.bi1 .len (.name "_law_row")) (.name "_law_most"))))
(.cons (.ite (.cmp .eq (.name "_law_kind") (.int 3))
(.cons (.pop "_law_table_here" (.bin .mod (.name "_law_more") (.bi1 .len (.name "_law_table_here"))))
.nil)
.nil)
(.cons (.ret (.tup (.cons (.name "_law_count") (.cons (.name "_law_table_here") .nil))))
.nil))))))))))))))⟩
noncomputable def l_pairs_by:Fn:=⟨["_law_many"],
(.cons (.assign "_law_rows" (.list (.cons (.list .nil) .nil)))
(.cons (.for1 "_law_k" (.r1 (.name "_law_many"))
(.cons (.assign "_law_rows" (.bin .add (.comp (.bin .add (.name "_law_row") (.list (.cons (.bin .mul (.int 2) (.name "_law_k")) .nil))) "_law_row" (.e (.name "_law_rows"))) (.comp (.bin .add (.name "_law_row") (.list (.cons (.bin .add (.bin .mul (.int 2) (.name "_law_k")) (.int 1)) .nil))) "_law_row" (.e (.name "_law_rows")))))
.nil))
(.cons (.retn "_law_rows")
.nil)))⟩
noncomputable def l_table:Fn:=⟨["_law_script"],
(.cons (.assign "_law_kind" (.bin .mod (.call "_law_cell_at" (.cons (.name "_law_script") (.cons (.int 0) .nil))) (.int 9)))
(.cons (.assign "_law_more" (.call "_law_cell_at" (.cons (.name "_law_script") (.cons (.int 1) .nil))))
(.cons (.ite (.cmp .eq (.name "_law_kind") (.int 4))
(.cons (.assign "_law_count" (.bin .add (.int 7) (.bin .mod (.name "_law_more") (.int 12))))
(.cons (.assign "_law_step" (.bin .add (.int 1) (.bin .mod (.bin .fdiv (.name "_law_more") (.int 12)) (.int 4))))
(.cons (.ret (.tup (.cons (.name "_law_count") (.cons (.compif (.list (.cons (.name "_law_thing") .nil)) "_law_thing" (.r1 (.name "_law_count")) (.cmp .eq (.bin .mod (.name "_law_thing") (.name "_law_step")) (.int 0))) .nil))))
.nil)))
.nil)
(.cons (.ite (.cmp .eq (.name "_law_kind") (.int 5))
(.cons (.assign "_law_count" (.bin .add (.int 7) (.bin .mod (.name "_law_more") (.int 6))))
(.cons (.ret (.tup (.cons (.name "_law_count") (.cons (.comp (.compif (.name "_law_thing") "_law_thing" (.r1 (.name "_law_count")) (.cmp .ne (.name "_law_thing") (.name "_law_gone"))) "_law_gone" (.r1 (.name "_law_count"))) .nil))))
.nil))
.nil)
(.cons (.assign "_law_made" (.call "_law_few" (.cons (.name "_law_script") .nil)))
(.cons (.assign "_law_far" (.call "_law_cell_at" (.cons (.name "_law_script") (.cons (.int 12) .nil))))
(.cons (.ite (.or (.cmp .ne (.bin .mod (.name "_law_far") (.int 3)) (.int 1)) (.or (.cmp .gt (.bi1 .len (.sub (.name "_law_made") (.int 1))) (.int 8)) (.cmp .gt (.sub (.name "_law_made") (.int 0)) (.int 9))))
(.cons (.retn "_law_made")
.nil)
.nil)
(.cons (.assign "_law_step" (.bin .add (.int 1) (.bin .mod (.bin .fdiv (.name "_law_far") (.int 3)) (.int 9))))
(.cons (.assign "_law_first" (.bin .mod (.bin .fdiv (.name "_law_far") (.int 27)) (.int 9)))
(.cons (.assign "_law_table_here" (.list .nil))
(.cons (.for1 "_law_choice" (.e (.sub (.name "_law_made") (.int 1)))
(.cons (.append "_law_table_here" (.comp (.bin .add (.name "_law_first") (.bin .mul (.name "_law_step") (.name "_law_thing"))) "_law_thing" (.e (.name "_law_choice"))))
.nil))
(.cons (.ret (.tup (.cons (.bin .add (.name "_law_first") (.bin .mul (.name "_law_step") (.sub (.name "_law_made") (.int 0)))) (.cons (.name "_law_table_here") .nil))))
.nil))))))))))))⟩
noncomputable def l_can:Fn:=⟨["_law_table_here", "_law_one", "_law_other", "_law_thing"],
(.cons (.for1 "_law_out" (.e (.name "_law_one"))
(.cons (.assign "_law_made" (.bi1 .sorted (.bin .add (.compif (.name "_law_left") "_law_left" (.e (.name "_law_one")) (.cmp .ne (.name "_law_left") (.name "_law_out"))) (.list (.cons (.name "_law_thing") .nil)))))
(.cons (.ite (.and (.cmp .notin (.name "_law_out") (.name "_law_other")) (.cmp .isin (.name "_law_made") (.name "_law_table_here")))
(.cons (.ret (.bool true))
.nil)
.nil)
.nil)))
(.cons (.ret (.bool false))
.nil))⟩
noncomputable def l_fault:Fn:=⟨["_law_count", "_law_table_here"],
(.cons (.for1 "_law_one" (.e (.name "_law_table_here"))
(.cons (.for1 "_law_thing" (.r1 (.name "_law_count"))
(.cons (.ite (.cmp .notin (.name "_law_thing") (.name "_law_one"))
(.cons (.for1 "_law_other" (.e (.name "_law_table_here"))
(.cons (.ite (.and (.cmp .isin (.name "_law_thing") (.name "_law_other")) (.not (.call "_law_can" (.cons (.name "_law_table_here") (.cons (.name "_law_one") (.cons (.name "_law_other") (.cons (.name "_law_thing") .nil)))))))
(.cons (.ret (.tup (.cons (.name "_law_one") (.cons (.name "_law_other") (.cons (.name "_law_thing") .nil)))))
.nil)
.nil)
.nil))
.nil)
.nil)
.nil))
.nil))
(.cons (.ret .none)
.nil))⟩
structure Lib (L:List (String×Fn)):Prop where
 cell:L.lookup "_law_cell_at" = some l_cell_at
 whole:L.lookup "_law_whole" = some l_whole
 subs:L.lookup "_law_subsets" = some l_subsets
 apart:L.lookup "_law_apart" = some l_apart
 parts:L.lookup "_law_parts" = some l_parts
 few:L.lookup "_law_few" = some l_few
 pairs:L.lookup "_law_pairs_by" = some l_pairs_by
 table:L.lookup "_law_table" = some l_table
 can:L.lookup "_law_can" = some l_can
 lfault:L.lookup "_law_fault" = some l_fault
 exch:L.lookup "exchanged" = some p_exchanged
 known:L.lookup "known_of" = some p_known_of
 goes:L.lookup "goes" = some p_goes
 fault:L.lookup "fault" = some p_fault
noncomputable def bk (s:List Int) (k:Int):Int:=if k<s.length then s[k.toNat]?.getD 0 else if s=[] then 0 else s[(k%s.length).toNat]?.getD 0*7+k
theorem getD_some {s:List Int}{i:Nat}(h:i<s.length):s[i]? = some (s[i]?.getD 0):=by rw [List.getElem?_eq_getElem h]; rfl
theorem o7 (C:Calls) (s:List Int) (k:Int) (hk:0≤k):aH C l_cell_at [.d (aa s),.d (.int k)] = .ok (sI (bk s k)):=by
 unfold l_cell_at
 refine cP rfl fun σ H=>?_
 have e1:=lz (C:=C) (H.ev (x := "_law_k") rfl) (cR (H.ev (x := "_law_script") rfl))
 unfold bk
 by_cases h1:k<s.length
 ·rw [if_pos h1]
  refine Runs.ite (e1.trans (by rw [decide_eq_true h1])) (fun uu=>Runs.ret (eI (H.ev rfl) (H.ev rfl) hk (getD_some (by exact la1 hk h1))) rfl) fun q=>by cases q
 ·rw [if_neg h1]
  refine Runs.no (e1.trans (by rw [decide_eq_false h1])) ?_
  have e2:=EX (C:=C) (H.ev (x := "_law_script") rfl) nA
  by_cases h2:s=[]
  ·rw [if_pos h2]
   exact Runs.ite (e2.trans (by rw [decide_eq_true h2])) (fun uu=>Runs.ret (ak 0) rfl) fun q=>by cases q
  ·rw [if_neg h2]
   refine Runs.no (e2.trans (by rw [decide_eq_false h2])) ?_
   have hl:0<s.length:=List.length_pos_iff.mpr h2
   have h3:0≤k%s.length:=Int.emod_nonneg _ (by exact la2 hl)
   have h4:k%s.length<s.length:=Int.emod_lt_of_pos _ (by exact la3 hl)
   refine Runs.ret (ca ((cU (eI (H.ev rfl) (aV (H.ev rfl) (cR (H.ev rfl)) (by exact la3 hl)) h3 (getD_some (by exact la4 hl h4))) (ak 7)).trans (uy _ 7 (by decide))) (H.ev rfl)) rfl
theorem iv (C:Calls) (i:Int):aH C l_whole [.d (.int i)] = .ok (sB true):=by
 unfold l_whole
 refine cP rfl fun σ H=>Runs.ret (eW (p:=true) (q:=true) ?_ fun uu=>?_) rfl
 ·exact nI (H.ev rfl) rfl
 ·exact dv (t:=false) (nI (H.ev rfl) rfl)
def Srt (c:Int) (r:List Int):Prop:=r.Pairwise (· < ·)/\∀ x∈r,0≤x/\x<c
theorem Srt.snoc {c x:Int}{r:List Int}(h:Srt c r) (h0:0≤c) (hx:c≤x):Srt (x+1) (r++[x]):=by
 refine ⟨List.pairwise_append.mpr ⟨h.1,List.pairwise_singleton _ _,fun a ha b hb=>?_⟩,fun a ha=>?_⟩
 ·rw [List.mem_singleton.mp hb]; have:=h.2 a ha; exact la5 hx this
 ·rcases List.mem_append.mp ha with ha | ha
  ·have:=h.2 a ha; exact la6 hx this
  ·rw [List.mem_singleton.mp ha]; exact la7 h0 hx
theorem Srt.mono {c d:Int}{r:List Int}(h:Srt c r) (hd:c≤d):Srt d r:=⟨h.1,fun x hx=>by have:=h.2 x hx; exact la8 hd this⟩
theorem Srt.nil (c:Int):Srt c []:=⟨.nil,fun uu h=>by cases h⟩
theorem og {c:Nat}{pre post:List Int}{y:Int}(h:aW c=pre++y::post):y=pre.length/\pre.length<c:=by
 have hl:=congrArg List.length h
 rw [bZ,List.length_append,List.length_cons] at hl
 have hy:(aW c)[pre.length]? = some y:=by rw [h,List.getElem?_append_right (Nat.le_refl _),Nat.sub_self]; rfl
 have hp:pre.length<c:=by exact la9 hl
 unfold aW at hy
 rw [List.getElem?_map,List.getElem?_range hp] at hy
 exact ⟨(Option.some.inj hy).symm,hp⟩
theorem k6 {c:Nat}{pre post:List Int}{y:Int}{G:Prop}(h:aW c=pre++y::post) (k:y=pre.length->pre.length<c->G):G:=ae (og h) k
def n9 (k n:Nat) (c:Int) (t:List (List Int)):Prop:=t≠[]/\t.length≤n/\∀ r∈t,r.length≤k/\Srt c r
noncomputable def subs:Nat->List (List Int)
 | 0=>[[]]
 | k+1=>subs k++(subs k).map fun r=>r++[(k:Int)]
noncomputable def ld:Nat->List (List Int)
 | 0=>[[]]
 | k+1=>ld k++((ld k).filter fun r=>decide ((r.length:Int)<3)).map fun r=>r++[(k:Int)]
theorem we:∀ c≤6,∀ r∈subs c,((subs c).filter fun r'=>decide ((r'.length:Int)=r.length)).length≤62:=by decide +kernel
theorem sC:∀ c≤7,∀ r∈ld c,((ld c).filter fun r'=>decide ((r'.length:Int)=r.length)).length≤62:=by decide +kernel
theorem oC {t:List (List Int)}(h:∀ r∈t,(t.filter fun r'=>decide ((r'.length:Int)=r.length)).length≤62) (k:Int):(t.filter fun r=>decide ((r.length:Int)=k)).length≤62:=by
 cases e:t.filter fun r=>decide ((r.length:Int)=k) with
 | nil=>exact Nat.zero_le _
 | cons r u=>
  obtain ⟨h1,h2⟩:=List.mem_filter.mp (show r∈t.filter fun r=>decide ((r.length:Int)=k) by rw [e]; exact .head _)
  have:=h r h1
  rw [of_decide_eq_true h2,e] at this
  exact this
theorem nV (C:Calls) (c:Nat) (hc:c≤7):∃ r,aH C l_subsets [.d (.int c)] = .ok r/\∃ t,r.1 = .d (ag t)/\t=subs c/\[]∈t/\n9 c 128 c t:=by
 unfold l_subsets
 refine dW rfl fun σ H=>?_
 refine Runs.set H ji fun σ H _=>?_
 refine Runs.for (g:=PyData.int) (xs:=aW c) (fun pre σ=>∃ t,Has σ [("_law_rows", .d (ag t)),("_law_count", .d (.int c))]/\t=subs pre.length/\[]∈t/\n9 pre.length (2^pre.length) pre.length t) (cg (H.ev rfl) (by exact Gc hc)) (fun σ0 h _=>(jw ([[]]) ((h _ H).sub ⟨rfl,rfl,trivial⟩) rfl (.head _) (by simp) (by simp) (fun r hr=>?_))) ?_ ?_
 ·cases List.mem_singleton.mp hr; exact ⟨Nat.le_refl _,.nil _⟩
 ·intro pre y post hl σ G4
  refine iz (G4) fun t H ht h0 g1 g2 g3=>?_
  try clear G4
  refine k6 hl fun hy hp=>?_
  have hpow:2^pre.length≤2^6:=Nat.pow_le_pow_right (by decide) (by exact A2 hc hp)
  have H1:=H.mk "_law_thing" (.d (.int y))
  obtain ⟨m1,e1,_⟩:=bU (fun r=>r++[y]) .deep (aL (H1.ev (C:=C) (x := "_law_rows") rfl) (aK t .sh)) (a:=.bin .add (.name "_law_row") (.list (.cons (.name "_law_thing") .nil))) (z := "_law_row") (fun r hr=>by
   have H2:=H1.mk "_law_row" (.d (aa r))
   exact eL (H2.ev rfl) (gc (H2.ev rfl)) (by have:=(g3 r hr).1; rw [List.length_singleton]; exact Gv hc hp this))
  obtain ⟨m2,e2⟩:=fo (H1.ev (C:=C) (x := "_law_rows") rfl) e1 (by rw [List.length_map]; exact FS g2 hpow)
  refine Runs.set H1 e2 fun σ H _=>Runs.nil (jw _ (H.sub ⟨rfl,rfl,trivial⟩) (by rw [ht,hy,List.length_append,List.length_singleton]; rfl) (List.mem_append_left _ h0) ?_ ?_ (fun r hr=>?_))
  ·exact fun q=>g1 (List.append_eq_nil_iff.mp q).1
  ·rw [List.length_append,List.length_append,List.length_map,List.length_singleton,Nat.pow_succ]; exact zZ g2
  ·rw [List.length_append,List.length_singleton]
   rcases List.mem_append.mp hr with hr | hr
   ·obtain ⟨q1,q2⟩:=g3 r hr; exact ⟨by exact Nat.le_succ_of_le (by assumption),q2.mono (by exact Av)⟩
   ·refine aQ hr fun r' hr' G5=>?_
    (clear hr; subst G5)
    refine ae (g3 r' hr') fun q1 q2=>?_
    rw [List.length_append,List.length_singleton]
    exact ⟨by exact Nat.lt_succ_of_le (by assumption),(q2.snoc (by exact Int.natCast_nonneg _) (x:=y) (by exact z5 hy)).mono (by exact An hy)⟩
 ·intro σ' G6
  refine iz (G6) fun t H ht h0 g1 g2 g3=>?_
  try clear G6
  refine ai (H "_law_rows" _ rfl) fun m e=>?_
  rw [bZ] at ht g2 g3
  have hpow:2^c≤2^7:=Nat.pow_le_pow_right (by decide) (by assumption)
  exact Runs.retn e (ah _ rfl (jw t rfl ht h0 g1 (by exact Nat.le_trans (by assumption) (by assumption)) g3))
section
variable {L:List (String×Fn)}{n:Nat}{σ:St}
theorem bV (lib:Lib L) {s:List Int}{k:Int}{m:Mode}{a b:E}(ha:ev (mkC L (n+1)) a σ = .ok (.d (aa s),m)) (hb:ev (mkC L (n+1)) b σ = .ok (sI k)) (hk:0≤k):ev (mkC L (n+1)) (.call "_law_cell_at" (.cons a (.cons b .nil))) σ = .ok (sI (bk s k)) :=
 cG lib.cell (al ha (al hb aF)) rfl (o7 _ s k hk)
end
theorem rx (C:Calls) (vec row:List Int) (h:∀ i∈row,0≤i/\i<vec.length) (hl:row.length≤7):∃ r,aH C l_apart [.d (aa vec),.d (aa row)] = .ok r/\∃ b,r=sB b/\(row=[]->b=true):=by
 unfold l_apart
 refine dW rfl fun σ H=>?_
 refine Runs.set H (gc (ak 0)) fun σ H _=>?_
 refine Runs.for (g:=PyData.int) (xs:=row) (fun pre σ=>∃ ss:List Int,Has σ [("_law_sums", .d (aa ss)),("_law_vectors", .d (aa vec))]/\ss.length=2^pre.length) (aL (H.ev rfl) (dy row .sh)) (fun σ0 h _=>(ah ([0]) ((h _ H).sub ⟨rfl,rfl,trivial⟩) rfl)) ?_ ?_
 ·intro pre y post hr σ G7
  refine af (G7) fun ss H hs=>?_
  try clear G7
  have hp:pre.length<row.length:=by rw [hr,List.length_append,List.length_cons]; exact vY
  have hpow:2^pre.length≤2^6:=Nat.pow_le_pow_right (by decide) (by exact A2 hl hp)
  obtain ⟨y0,y1⟩:=h y (by rw [hr]; exact List.mem_append_right _ (.head _))
  have H1:=H.mk "_law_thing" (.d (.int y))
  have ev1:∀ {σ:St}{l:List (String×V)},Has σ l->l.lookup "_law_vectors" = some (.d (aa vec))->l.lookup "_law_thing" = some (.d (.int y))->ev C (.sub (.name "_law_vectors") (.name "_law_thing")) σ = .ok (sI (vec[y.toNat]?.getD 0)):=fun H a b=>eI (H.ev a) (H.ev b) y0 (getD_some (by exact la1 y0 y1))
  refine Runs.ite (rY (ev1 H1 rfl rfl) (H1.ev rfl)) (fun uu=>Runs.ret (cM false) (ah _ rfl (ah false rfl (fun q=>?_)))) fun uu=>Runs.nil ?_
  ·rw [q] at hr; exact absurd hr (by simp)
  refine Runs.set H1 (eL (H1.ev rfl) (jp (g:=PyData.int) (fun i=>Builtin.bitXor i (vec[y.toNat]?.getD 0)) (aL (H1.ev rfl) (dy ss .sh)) fun i _=>?_) ?_) fun σ H _=>Runs.nil (ah _ (H.sub ⟨rfl,rfl,trivial⟩) ?_)
  ·have H2:=H1.mk "_law_one" (.d (.int i))
   exact B8 (H2.ev rfl) (ev1 H2 rfl rfl)
  ·rw [List.length_map]; exact FZ hs hpow
  ·rw [List.length_append,List.length_append,List.length_map,List.length_singleton,Nat.pow_succ]; exact GH hs
 ·intro σ' G8
  refine af (G8) fun ss H hs=>?_
  try clear G8
  exact Runs.ret (cM true) (ah _ rfl (ah true rfl (fun uu=>rfl)))
def Tb (c:Int) (t:List (List Int)):Prop:=0≤c/\c≤100/\t.length≤62/\∀ r∈t,r.length≤12/\Srt c r
def sq (r:V×Mode):Prop:=∃ c t,r.1 = .d (.tuple [.int c,ag t])/\Tb c t
theorem rc (C:Calls) (c:Nat) (hc:c≤5):∃ r,aH C l_pairs_by [.d (.int c)] = .ok r/\∃ t,r.1 = .d (ag t)/\n9 c 32 (2*c) t:=by
 unfold l_pairs_by
 refine dW rfl fun σ H=>?_
 refine Runs.set H ji fun σ H _=>?_
 refine Runs.for (g:=PyData.int) (xs:=aW c) (fun pre σ=>∃ t,Has σ [("_law_rows", .d (ag t)),("_law_many", .d (.int c))]/\n9 pre.length (2^pre.length) (2*pre.length) t) (cg (H.ev rfl) (by exact FL hc)) (fun σ0 h _=>(br ([[]]) ((h _ H).sub ⟨rfl,rfl,trivial⟩) (by simp) (by simp) (fun r hr=>?_))) ?_ ?_
 ·cases List.mem_singleton.mp hr; exact ⟨Nat.le_refl _,.nil _⟩
 ·intro pre y post hl σ G9
  refine cw (G9) fun t H g1 g2 g3=>?_
  try clear G9
  refine k6 hl fun hy hp=>?_
  have hpow:2^pre.length≤2^5:=Nat.pow_le_pow_right (by decide) (by exact F2 hc hp)
  have H1:=H.mk "_law_k" (.d (.int y))
  obtain ⟨m1,e1,_⟩:=bU (fun r=>r++[2*y]) .deep (aL (H1.ev (C:=C) (x := "_law_rows") rfl) (aK t .sh)) (a:=.bin .add (.name "_law_row") (.list (.cons (.bin .mul (.int 2) (.name "_law_k")) .nil))) (z := "_law_row") (fun r hr=>by
   have H2:=H1.mk "_law_row" (.d (aa r))
   exact eL (H2.ev rfl) (gc (kK (ak 2) (H2.ev rfl) (by decide))) (by have:=(g3 r hr).1; rw [List.length_singleton]; exact Az hc hp this))
  obtain ⟨m2,e2,_⟩:=bU (fun r=>r++[2*y+1]) .deep (aL (H1.ev (C:=C) (x := "_law_rows") rfl) (aK t .sh)) (a:=.bin .add (.name "_law_row") (.list (.cons (.bin .add (.bin .mul (.int 2) (.name "_law_k")) (.int 1)) .nil))) (z := "_law_row") (fun r hr=>by
   have H2:=H1.mk "_law_row" (.d (aa r))
   exact eL (H2.ev rfl) (gc (ca (kK (ak 2) (H2.ev rfl) (by decide)) (ak 1))) (by have:=(g3 r hr).1; rw [List.length_singleton]; exact Az hc hp this))
  obtain ⟨m3,e3⟩:=fo e1 e2 (by rw [List.length_map,List.length_map]; exact FF g2 hpow)
  refine Runs.set H1 e3 fun σ H _=>Runs.nil (br _ (H.sub ⟨rfl,rfl,trivial⟩) ?_ ?_ (fun r hr=>?_))
  ·exact fun q=>g1 (List.map_eq_nil_iff.mp (List.append_eq_nil_iff.mp q).1)
  ·rw [List.length_append,List.length_append,List.length_map,List.length_map,List.length_singleton,Nat.pow_succ]; exact zZ g2
  ·rw [List.length_append,List.length_singleton]
   rcases List.mem_append.mp hr with hr | hr
   ·refine aQ hr fun r' hr' Ha=>?_
    (clear hr; subst Ha)
    refine ae (g3 r' hr') fun q1 q2=>?_
    rw [List.length_append,List.length_singleton]
    exact ⟨by exact Nat.lt_succ_of_le (by assumption),(q2.snoc (by exact Int.natCast_nonneg _) (x:=2*y) (by exact Ff hy)).mono (by exact FQ hy)⟩
   ·refine aQ hr fun r' hr' Hc=>?_
    (clear hr; subst Hc)
    refine ae (g3 r' hr') fun q1 q2=>?_
    rw [List.length_append,List.length_singleton]
    exact ⟨by exact Nat.lt_succ_of_le (by assumption),(q2.snoc (by exact Int.natCast_nonneg _) (x:=2*y+1) (by exact Gj hy)).mono (by exact Fx hy)⟩
 ·intro σ' Hd
  refine cw (Hd) fun t H g1 g2 g3=>?_
  try clear Hd
  refine ai (H "_law_rows" _ rfl) fun m e=>?_
  rw [bZ] at g2 g3
  have hpow:2^c≤2^5:=Nat.pow_le_pow_right (by decide) (by assumption)
  exact Runs.retn e (ah _ rfl (br t rfl g1 (by exact Nat.le_trans (by assumption) (by assumption)) g3))
theorem eN {L:List (String×Fn)}{n:Nat}{σ:St}{f:String}{fn:Fn}{es:Es}{q:List (V×Mode)}{vs:List V}{P:V×Mode->Prop}(hL:L.lookup f=some fn) (he:evs (mkC L (n+1)) es σ = .ok q) (hv:q.map (·.1)=vs) (h:∃ r,aH (mkC L n) fn vs = .ok r/\P r) (hp:gN f=true:=by decide):∃ r,ev (mkC L (n+1)) (.call f es) σ = .ok r/\P r:=by
 refine af (h) fun r h1 h2=>?_
 try clear h
 exact (ah r (cG hL he hv h1 hp) h2)
noncomputable def tri (k:Nat):Nat:=((List.range k).map fun i=>8-i).sum
theorem tL:∀ k≤9,tri k≤36:=by decide
theorem v9 (k:Nat):tri (k+1)=tri k+(8-k):=by unfold tri; rw [List.range_succ,List.map_append,List.sum_append]; rfl
theorem r5 {L:List (String×Fn)}(lib:Lib L) (n:Nat) (s:List Int) (kind more:Int) (c:Nat) (hc:c≤6):∃ r,aH (mkC L (n+1)) l_parts [.d (aa s),.d (.int kind),.d (.int c),.d (.int more)] = .ok r/\sq r:=by
 unfold l_parts
 refine dW rfl fun σ H=>?_
 obtain ⟨Hf,e1,t,ht,hsub,h0,g1,g2,g3⟩:=eN (σ:=σ) (n:=n) lib.subs (es:=.cons (.name "_law_count") .nil) (al (H.ev rfl) aF) rfl (nV _ c (by exact Nat.le_succ_of_le (by assumption)))
 obtain ⟨rv,rm⟩:=Hf
 cases ht
 refine Runs.set H e1 fun σ H _=>?_
 have m6:=Int.emod_nonneg more (show (6:Int)≠0 by decide)
 have m6':=Int.emod_lt_of_pos more (show (0:Int)<6 by decide)
 have hpos:0<t.length:=List.length_pos_iff.mpr g1
 refine Runs.ite (cz (H.ev rfl) (ak 0)) (fun uu=>?_) fun uu=>Runs.nil ?_
 ·obtain ⟨k,hk⟩:∃ k:Nat,more%6=k:=⟨(more%6).toNat,by exact GI⟩
  have idx:∀ i:Int,∃ r,t[(bk s (6+i)%t.length).toNat]? = some r:=fun i=>⟨_,List.getElem?_eq_getElem (by have:=Int.emod_lt_of_pos (bk s (6+i)) (show (0:Int)<t.length by exact la3 hpos); have:=Int.emod_nonneg (bk s (6+i)) (show (t.length:Int)≠0 by exact la2 hpos); exact la4 hpos (by assumption))⟩
  obtain ⟨m1,e2,_⟩:=bU (C:=mkC L (n+1)) (σ:=σ) (g:=PyData.int) (l:=aW k) (z := "_law_k") (it:=.r1 (.bin .mod (.name "_law_more") (.int 6))) (a:=.sub (.name "_law_rows") (.bin .mod (.call "_law_cell_at" (.cons (.name "_law_script") (.cons (.bin .add (.int 6) (.name "_law_k")) .nil))) (.bi1 .len (.name "_law_rows")))) (fun i=>(t[(bk s (6+i)%t.length).toNat]?).getD []) .sh (cg (n:=k) (m:=.deep) ((aV (H.ev rfl) (ak 6) (by decide)).trans (by rw [hk]; rfl)) (by exact Fc hk)) (fun i hi=>by
   have H2:=H.mk "_law_k" (.d (.int i))
   have:=mem_upTo.mp hi
   refine ai (idx i) fun r hr=>?_
   rw [hr]
   exact je (H2.ev rfl) (aV (bV lib (H2.ev rfl) (ca (ak 6) (H2.ev rfl)) (by exact AD this)) (dR (H2.ev rfl)) (by exact la3 hpos)) (Int.emod_nonneg _ (by exact la2 hpos)) hr)
  refine cV (H.ev (x := "_law_count") rfl) e2 fun m2 e3=>?_
  refine Runs.ret e3 (ah _ rfl (dT c _ rfl (by exact Int.natCast_nonneg _) (by exact AG hc) (by rw [List.length_map,bZ]; exact Cu hk) (fun r hr=>?_)))
  refine aQ hr fun i _ Hk=>?_
  (clear hr; subst Hk)
  refine ai (idx i) fun r hr=>?_
  rw [hr]
  refine ae (g3 r (List.mem_of_getElem? hr)) fun q1 q2=>?_
  exact ⟨by show r.length≤12; exact zW hc q1,q2⟩
 ·refine Runs.ite (cz (aV (H.ev rfl) (ak 9) (by decide)) (ak 8)) (fun uu=>?_) fun uu=>Runs.nil ?_
  ·have a1:=Int.emod_nonneg (more/9) (show (3:Int)≠0 by decide)
   have a2:=Int.emod_lt_of_pos (more/9) (show (0:Int)<3 by decide)
   obtain ⟨d,hd⟩:∃ d:Nat,7+more/9%3=d:=⟨(7+more/9%3).toNat,by exact FC⟩
   refine Runs.set H (ca (ak 7) (aV (fb (H.ev rfl) (ak 9) (by decide) (by decide)) (ak 3) (by decide))) fun σ H _=>?_
   rw [hd] at H
   refine Runs.set H fh fun σ H _=>?_
   refine Runs.for (g:=PyData.int) (xs:=aW d) (fun pre σ=>∃ t,Has σ [("_law_rows", .d (ag t)),("_law_count", .d (.int d))]/\t.length≤tri pre.length/\∀ r∈t,r.length≤12/\Srt d r) (cg (H.ev rfl) (by exact Fz hd)) (fun σ0 h _=>(aC ([]) ((h _ H).sub ⟨rfl,rfl,trivial⟩) (by simp) (fun uu q=>by cases q))) ?_ ?_
   ·intro pre y post hl σ Hi
    refine ao (Hi) fun t H q1 q2=>?_
    try clear Hi
    refine k6 hl fun hy hp=>?_
    have H1:=H.mk "_law_one" (.d (.int y))
    obtain ⟨m1,e2,_⟩:=bU (C:=mkC L (n+1)) (σ:=upd σ "_law_one" (mk (.d (.int y)))) (g:=PyData.int) (z := "_law_thing") (it:=.r2 (.bin .add (.name "_law_one") (.int 1)) (.name "_law_count")) (a:=.list (.cons (.name "_law_one") (.cons (.name "_law_thing") .nil))) (fun i=>[y,i]) .deep (zy (ca (H1.ev rfl) (ak 1)) (H1.ev rfl) (by exact FA hy) (by exact Fe hd hy hp) (by exact Int.natCast_nonneg _) (by exact GP hd)) (fun i hi=>by
     have H2:=H1.mk "_law_thing" (.d (.int i))
     exact Eo (H2.ev rfl) (H2.ev rfl))
    obtain ⟨m2,e3⟩:=fo (H1.ev (C:=mkC L (n+1)) (x := "_law_rows") rfl) e2 (by rw [List.length_map,List.length_map,List.length_range]; have:=tL pre.length (by exact Gr hd hp); exact FY hd q1 hy this)
    refine Runs.set H1 e3 fun σ H _=>Runs.nil (aC _ (H.sub ⟨rfl,rfl,trivial⟩) ?_ (fun r hr=>?_))
    ·rw [List.length_append,List.length_append,List.length_map,List.length_map,List.length_range,List.length_singleton,v9]; exact Gk hd q1 hy
    ·rcases List.mem_append.mp hr with hr | hr
     ·exact q2 r hr
     ·refine aQ hr fun i hi Hs=>?_
      (clear hr; subst Hs)
      refine aQ hi fun k hk Ht=>?_
      (clear hi hr; subst Ht)
      have:=List.mem_range.mp hk
      exact ⟨by simp,by simp; exact FO,fun x hx=>by
       rcases List.mem_cons.mp hx with rfl | hx
       ·exact Fm hp hy
       ·rw [List.mem_singleton.mp hx]; exact FG hy this⟩
   ·intro σ' Hu
    refine ao (Hu) fun t H q1 q2=>?_
    try clear Hu
    refine cV (H.ev (C:=mkC L (n+1)) (x := "_law_count") rfl) (H.ev (x := "_law_rows") rfl) fun m2 e3=>?_
    rw [bZ] at q1
    have:=tL d (by exact GA hd)
    exact Runs.ret e3 (ah _ rfl (dT d t rfl (by exact Int.natCast_nonneg _) (by exact GD hd) (by exact Ew q1 this) q2))
  ·obtain ⟨m1,e2,_⟩:=jd (C:=mkC L (n+1)) (σ:=σ) (g:=aa) (l:=t) (z := "_law_row") (it:=.e (.name "_law_rows")) (a:=.name "_law_row") (c:=.cmp .eq (.bi1 .len (.name "_law_row")) (.bin .mod (.name "_law_more") (.bin .add (.name "_law_count") (.int 1)))) (fun r=>r) (fun r=>decide ((r.length:Int)=more%(c+1))) .sh (aL (H.ev rfl) (aK t .sh)) (fun r hr=>by
    have H2:=H.mk "_law_row" (.d (aa r))
    exact cz (cR (H2.ev rfl)) (aV (H2.ev rfl) (ca (H2.ev rfl) (ak 1)) (by exact wC))) (fun r hr _=>(H.mk "_law_row" (.d (aa r))).ev rfl)
   refine cV (H.ev (x := "_law_count") rfl) e2 fun m2 e3=>?_
   refine Runs.ret e3 (ah _ rfl (dT c _ rfl (by exact Int.natCast_nonneg _) (by exact AG hc) ?_ (fun r hr=>?_)))
   ·rw [List.map_id']; exact oC (by rw [hsub]; exact we c hc) _
   ·rw [List.map_id'] at hr
    refine ae (g3 r (List.mem_filter.mp hr).1) fun q1 q2=>?_
    exact ⟨by exact zW hc q1,q2⟩
theorem xj {l:List Int}{x:Int}{b:Int}(h:l.length=7) (hb:∀ i∈l,0≤i/\i≤b):∃ c:Nat,l[(x/9%7).toNat]? = some (c:Int)/\(c:Int)≤b:=by
 have h1:=Int.emod_nonneg (x/9) (show (7:Int)≠0 by decide)
 have h2:=Int.emod_lt_of_pos (x/9) (show (0:Int)<7 by decide)
 have hl:(x/9%7).toNat<l.length:=by exact FK h
 have:=hb _ (List.getElem_mem hl)
 exact (ah (l[(x/9%7).toNat].toNat) (by rw [List.getElem?_eq_getElem hl]; congr 1; exact FN this) (by exact Gn this))
theorem qy {C:Calls}{σ:St}(a b c d e f g:Int):ev C (.list (.cons (.int a) (.cons (.int b) (.cons (.int c) (.cons (.int d) (.cons (.int e) (.cons (.int f) (.cons (.int g) .nil)))))))) σ = .ok (.d (aa [a,b,c,d,e,f,g]),.deep):=by
 simp only [dH,bv,a8,aY,Out.ok_bind]; rfl
theorem wE {L:List (String×Fn)}(lib:Lib L) (n:Nat) (s:List Int) (hs:s.length≤63):∃ r,aH (mkC L (n+2)) l_few [.d (aa s)] = .ok r/\sq r:=by
 unfold l_few
 refine dW rfl fun σ H=>?_
 refine Runs.set H (aV (bV lib (H.ev rfl) (ak 0) (by decide)) (ak 9) (by decide)) fun σ H _=>?_
 refine af (xj (l:=[6,5,4,3,6,1,0]) (x:=bk s 0) (b:=6) rfl (by decide)) fun c hc1 hc2=>?_
 refine Runs.set H (eI (qy 6 5 4 3 6 1 0) (aV (fb (bV lib (H.ev rfl) (ak 0) (by decide)) (ak 9) (by decide) (by decide)) (ak 7) (by decide)) (Int.emod_nonneg _ (by decide)) hc1) fun σ H _=>?_
 refine Runs.set H (bV lib (H.ev rfl) (ak 1) (by decide)) fun σ H _=>?_
 generalize bk s 0%9=kind at H
 generalize bk s 1=more at H
 refine Runs.ite (cz (H.ev rfl) (ak 7)) (fun uu=>?_) fun uu=>Runs.nil ?_
 ·have a1:=Int.emod_nonneg more (show (4:Int)≠0 by decide)
  have a2:=Int.emod_lt_of_pos more (show (0:Int)<4 by decide)
  obtain ⟨d,hd⟩:∃ d:Nat,1+more%4=d:=⟨(1+more%4).toNat,by exact Ga⟩
  refine Runs.set H (ca (ak 1) (aV (H.ev rfl) (ak 4) (by decide))) fun σ H _=>?_
  rw [hd] at H
  refine Runs.no ((oG (cR (H.ev rfl)) (ak 63)).trans (by rw [decide_eq_false (by exact Fu hs)])) ?_
  obtain ⟨Hz,e1,t,ht,g1,g2,g3⟩:=eN (σ:=σ) (n:=n+1) lib.pairs (es:=.cons (.name "_law_many") .nil) (al (H.ev rfl) aF) rfl (rc _ d (by exact Gf hd))
  obtain ⟨rv,rm⟩:=Hz
  cases ht
  refine cV (kK (ak 2) (H.ev (x := "_law_many") rfl) (by decide)) e1 fun m2 e3=>?_
  exact Runs.ret e3 (ah _ rfl (dT _ t rfl (by exact Int.natCast_nonneg _) (by exact FM hd) (by exact C9 g2) (fun r hr=>ae (g3 r hr) fun q1 q2=>⟨by exact Fh hd q1,q2⟩)))
 ·refine Runs.ite (lz (H.ev rfl) (ak 2)) (fun uu=>?_) fun uu=>Runs.nil ?_
  ·refine af (eN (σ:=σ) (n:=n+1) lib.parts (es:=.cons (.name "_law_script") (.cons (.name "_law_kind") (.cons (.name "_law_count") (.cons (.name "_law_more") .nil)))) (al (H.ev rfl) (al (H.ev rfl) (al (H.ev rfl) (al (H.ev rfl) aF)))) rfl (r5 lib n s kind more c (by exact Fq hc2))) fun r e1 h=>?_
   exact Runs.ret e1 (ah r rfl h)
  ·clear hc1 hc2
   refine af (xj (l:=[6,5,4,3,7,7,2]) (x:=bk s 0) (b:=7) rfl (by decide)) fun c hc1 hc2=>?_
   refine Runs.set H (eI (qy 6 5 4 3 7 7 2) (aV (fb (bV lib (H.ev rfl) (ak 0) (by decide)) (ak 9) (by decide) (by decide)) (ak 7) (by decide)) (Int.emod_nonneg _ (by decide)) hc1) fun σ H _=>?_
   refine Runs.set H ji fun σ H _=>?_
   refine Runs.for (g:=PyData.int) (xs:=aW c) (fun pre σ=>∃ t,Has σ [("_law_rows", .d (ag t)),("_law_count", .d (.int c)),("_law_script", .d (aa s)),("_law_kind", .d (.int kind)),("_law_more", .d (.int more))]/\t=ld pre.length/\[]∈t/\n9 pre.length (2^pre.length) pre.length t) (cg (H.ev rfl) (by exact z2 hc2)) (fun σ0 h _=>(jw ([[]]) ((h _ H).sub (kU rfl rfl rfl rfl rfl trivial)) rfl (.head _) (by simp) (by simp) (fun r hr=>?_))) ?_ ?_
   ·cases List.mem_singleton.mp hr; exact ⟨Nat.le_refl _,.nil _⟩
   ·intro pre y post hl σ Hx
    refine iz (Hx) fun t H h3 h0 g1 g2 g3=>?_
    try clear Hx
    refine k6 hl fun hy hp=>?_
    have hpow:2^pre.length≤2^6:=Nat.pow_le_pow_right (by decide) (by exact FX hc2 hp)
    have H1:=H.mk "_law_thing" (.d (.int y))
    obtain ⟨m1,e1,_⟩:=jd (C:=mkC L (n+2)) (fun r=>r++[y]) (fun r=>decide ((r.length:Int)<3)) .deep (aL (H1.ev (x := "_law_rows") rfl) (aK t .sh)) (a:=.bin .add (.name "_law_row") (.list (.cons (.name "_law_thing") .nil))) (c:=.cmp .lt (.bi1 .len (.name "_law_row")) (.int 3)) (z := "_law_row") (fun r hr=>lz (cR ((H1.mk "_law_row" (.d (aa r))).ev rfl)) (ak 3)) (fun r hr _=>by
     have H2:=H1.mk "_law_row" (.d (aa r))
     exact eL (H2.ev rfl) (gc (H2.ev rfl)) (by have:=(g3 r hr).1; rw [List.length_singleton]; exact FU hc2 hp this))
    have hf:=List.length_filter_le (fun r:List Int=>decide ((r.length:Int)<3)) t
    obtain ⟨m2,e2⟩:=fo (H1.ev (C:=mkC L (n+2)) (x := "_law_rows") rfl) e1 (by rw [List.length_map]; exact FD g2 hpow hf)
    refine Runs.set H1 e2 fun σ H _=>Runs.nil (jw _ (H.sub (kU rfl rfl rfl rfl rfl trivial)) (by rw [h3,hy,List.length_append,List.length_singleton]; rfl) (List.mem_append_left _ h0) ?_ ?_ (fun r hr=>?_))
    ·exact fun q=>g1 (List.append_eq_nil_iff.mp q).1
    ·rw [List.length_append,List.length_append,List.length_map,List.length_singleton,Nat.pow_succ]; exact GG g2 hf
    ·rw [List.length_append,List.length_singleton]
     rcases List.mem_append.mp hr with hr | hr
     ·obtain ⟨q1,q2⟩:=g3 r hr; exact ⟨by exact Nat.le_succ_of_le (by assumption),q2.mono (by exact Av)⟩
     ·refine aQ hr fun r' hr' HC=>?_
      (clear hr; subst HC)
      refine ae (g3 r' (List.mem_filter.mp hr').1) fun q1 q2=>?_
      rw [List.length_append,List.length_singleton]
      exact ⟨by exact Nat.lt_succ_of_le (by assumption),(q2.snoc (by exact Int.natCast_nonneg _) (x:=y) (by exact z5 hy)).mono (by exact An hy)⟩
   ·intro σ HB
    refine iz (HB) fun t H h3 h0 g1 g2 g3=>?_
    try clear HB
    rw [bZ] at h3 g2 g3
    have hpow:2^c≤2^7:=Nat.pow_le_pow_right (by decide) (by exact zU hc2)
    obtain ⟨vec,hvec⟩:∃ vec,(aW c).map (fun i=>bk s (6+i)%8)=vec:=⟨_,rfl⟩
    have hvl:vec.length=c:=by rw [← hvec,List.length_map,bZ]
    refine Runs.set H (r:=(.d (aa vec),.deep)) ((jp (g:=PyData.int) (fun i=>bk s (6+i)%8) (cg (n:=c) (H.ev rfl) (by exact z2 hc2)) fun i hi=>?_).trans (by rw [hvec])) fun σ H _=>?_
    ·have H2:=H.mk "_law_thing" (.d (.int i))
     have:=mem_upTo.mp hi
     exact aV (bV lib (H2.ev rfl) (ca (ak 6) (H2.ev rfl)) (by exact AD this)) (ak 8) (by decide)
    obtain ⟨p,hp⟩:=pU (l:=t) (Q:=fun r b=>ev (mkC L (n+2)) (.call "_law_apart" (.cons (.name "_law_vectors") (.cons (.name "_law_row") .nil))) (upd σ "_law_row" (mk (.d (aa r)))) = .ok (sB b)/\(r=[]->b=true)) fun r hr=>by
     have H2:=H.mk "_law_row" (.d (aa r))
     refine ae (g3 r hr) fun q1 q2=>?_
     obtain ⟨_,e1,b,rfl,hb⟩:=eN (n:=n+1) lib.apart (es:=.cons (.name "_law_vectors") (.cons (.name "_law_row") .nil)) (al (H2.ev rfl) (al (H2.ev rfl) aF)) rfl (rx _ vec r (fun i hi=>by have:=q2.2 i hi; exact Gp hvl this) (by exact Fs hc2 q1))
     exact (ah b e1 hb)
    refine af (jd (C:=mkC L (n+2)) (σ:=σ) (g:=aa) (l:=t) (z := "_law_row") (it:=.e (.name "_law_rows")) (a:=.name "_law_row") (c:=.call "_law_apart" (.cons (.name "_law_vectors") (.cons (.name "_law_row") .nil))) (fun r=>r) p .sh (aL (H.ev rfl) (aK t .sh)) (fun r hr=>(hp r hr).1) (fun r hr _=>(H.mk "_law_row" (.d (aa r))).ev rfl)) fun m1 e1 _=>?_
    rw [List.map_id'] at e1
    refine Runs.set H e1 fun σ H _=>?_
    have hne:(t.filter p).map (fun r=>(r.length:Int))≠[]:=fun q=>by
     have:[]∈t.filter p:=List.mem_filter.mpr ⟨h0,(hp [] h0).2 rfl⟩
     rw [List.map_eq_nil_iff.mp q] at this
     cases this
    refine af (BL (jp (C:=mkC L (n+2)) (σ:=σ) (g:=aa) (l:=t.filter p) (z := "_law_row") (it:=.e (.name "_law_good")) (a:=.bi1 .len (.name "_law_row")) (fun r=>(r.length:Int)) (aL (H.ev rfl) (aK _ .sh)) fun r _=>cR ((H.mk "_law_row" (.d (aa r))).ev rfl)) hne) fun mo e2 hmo=>?_
    refine Runs.set H e2 fun σ H _=>?_
    refine aQ hmo fun r0 hr0 hr1=>?_
    obtain ⟨tt,htt⟩:∃ tt,(t.filter p).filter (fun r=>decide ((r.length:Int)=mo))=tt:=⟨_,rfl⟩
    have hpos:0<tt.length:=List.length_pos_iff.mpr fun q=>by
     have:r0∈tt:=by rw [← htt]; exact List.mem_filter.mpr ⟨hr0,decide_eq_true hr1⟩
     rw [q] at this; cases this
    have hsub:∀ r∈tt,r∈t:=fun r hr=>by rw [← htt] at hr; exact (List.mem_filter.mp (List.mem_filter.mp hr).1).1
    have hlen:tt.length≤62:=by
     have q1:=List.length_filter_le p (t.filter fun r:List Int=>decide ((r.length:Int)=mo))
     have q2:=oC (t:=t) (by rw [h3]; exact sC c (by exact zU hc2)) mo
     rw [← htt,List.filter_filter]
     rw [List.filter_filter] at q1
     simp only [Bool.and_comm] at q1 ⊢
     exact EV q1 q2
    obtain ⟨m3,e3,_,hm3⟩:=jd (C:=mkC L (n+2)) (σ:=σ) (g:=aa) (l:=t.filter p) (z := "_law_row") (it:=.e (.name "_law_good")) (a:=.name "_law_row") (c:=.cmp .eq (.bi1 .len (.name "_law_row")) (.name "_law_most")) (fun r=>r) (fun r=>decide ((r.length:Int)=mo)) .sh (aL (H.ev rfl) (aK _ .sh)) (fun r hr=>by
     have H2:=H.mk "_law_row" (.d (aa r))
     exact cz (cR (H2.ev rfl)) (H2.ev rfl)) (fun r hr _=>(H.mk "_law_row" (.d (aa r))).ev rfl)
    rw [List.map_id',htt] at e3
    refine Runs.set H e3 fun σ H hσ=>?_
    have fin:∀ {σ:St}{l:List (String×V)}(t':List (List Int)),Has σ l->l.lookup "_law_count" = some (.d (.int c))->l.lookup "_law_table_here" = some (.d (ag t'))->(∀ r∈t',r∈t)->t'.length≤62->Runs (mkC L (n+2)) (.cons (.ret (.tup (.cons (.name "_law_count") (.cons (.name "_law_table_here") .nil)))) .nil) σ (fun uu fl=>∃ r,fl = .ret r/\sq r):=fun t' H a b ht' hl'=>by
     refine cV (H.ev (C:=mkC L (n+2)) a) (H.ev b) fun m2 e4=>?_
     exact Runs.ret e4 (ah _ rfl (dT c t' rfl (by exact Int.natCast_nonneg _) (by exact Fl hc2) hl' (fun r hr=>ae (g3 r (ht' r hr)) fun q1 q2=>⟨by exact F8 hc2 q1,q2⟩)))
    refine Runs.ite (cz (H.ev rfl) (ak 3)) (fun uu=>?_) fun uu=>Runs.nil (fin tt H rfl rfl hsub hlen)
    refine Runs.popR H hσ hm3 (aV (H.ev rfl) (dR (H.ev rfl)) (by exact la3 hpos)) (Int.emod_nonneg _ (by exact la2 hpos)) (Int.emod_lt_of_pos _ (by exact la3 hpos)) fun σ H _=>Runs.nil (fin _ H rfl rfl (fun r hr=>hsub r (List.mem_of_mem_eraseIdx hr)) (Nat.le_trans (List.length_eraseIdx_le ..) hlen))
theorem Srt.affine {c a b:Int}{r:List Int}(h:Srt c r) (ha:0≤a) (hb:0<b):Srt (a+b*c) (r.map fun x=>a+b*x):=by
 refine ⟨?_,fun x hx=>?_⟩
 ·rw [List.pairwise_map]
  refine h.1.imp fun {x y} q=>?_
  have:=Int.mul_lt_mul_of_pos_left q hb
  exact Gz this
 ·refine aQ hx fun y hy HL=>?_
  (clear hx; subst HL)
  refine ae (h.2 y hy) fun h0 h1=>?_
  have q1:=Int.mul_nonneg (Int.le_of_lt hb) h0
  have q2:=Int.mul_lt_mul_of_pos_left h1 hb
  exact GC ha q1 q2
theorem pV (c:Nat):(aW c).Pairwise (· < ·):=by
 unfold aW
 rw [List.pairwise_map]
 exact List.pairwise_lt_range.imp fun {a b} h=>by exact GK h
theorem r7 {L:List (String×Fn)}(lib:Lib L) (n:Nat) (s:List Int) (hs:s.length≤63):∃ r,aH (mkC L (n+3)) l_table [.d (aa s)] = .ok r/\sq r:=by
 unfold l_table
 refine dW rfl fun σ H=>?_
 refine Runs.set H (aV (bV lib (H.ev rfl) (ak 0) (by decide)) (ak 9) (by decide)) fun σ H _=>?_
 refine Runs.set H (bV lib (H.ev rfl) (ak 1) (by decide)) fun σ H _=>?_
 generalize bk s 0%9=kind at H
 generalize bk s 1=more at H
 refine Runs.ite (cz (H.ev rfl) (ak 4)) (fun uu=>?_) fun uu=>Runs.nil ?_
 ·have a1:=Int.emod_nonneg more (show (12:Int)≠0 by decide)
  have a2:=Int.emod_lt_of_pos more (show (0:Int)<12 by decide)
  have a3:=Int.emod_nonneg (more/12) (show (4:Int)≠0 by decide)
  obtain ⟨d,hd⟩:∃ d:Nat,7+more%12=d:=⟨(7+more%12).toNat,by exact FH⟩
  refine Runs.set H (ca (ak 7) (aV (H.ev rfl) (ak 12) (by decide))) fun σ H _=>?_
  rw [hd] at H
  refine Runs.set H (ca (ak 1) (aV (fb (H.ev rfl) (ak 12) (by decide) (by decide)) (ak 4) (by decide))) fun σ H _=>?_
  obtain ⟨m1,e1,_⟩:=jd (C:=mkC L (n+3)) (σ:=σ) (g:=PyData.int) (l:=aW d) (z := "_law_thing") (it:=.r1 (.name "_law_count")) (a:=.list (.cons (.name "_law_thing") .nil)) (c:=.cmp .eq (.bin .mod (.name "_law_thing") (.name "_law_step")) (.int 0)) (fun i=>[i]) (fun i=>decide (i%(1+more/12%4)=0)) .deep (cg (H.ev rfl) (by exact Fk hd)) (fun i _=>by
   have H2:=H.mk "_law_thing" (.d (.int i))
   exact cz (aV (H2.ev rfl) (H2.ev rfl) (by exact F4)) (ak 0)) (fun i _ _=>gc ((H.mk "_law_thing" (.d (.int i))).ev rfl))
  refine cV (H.ev (C:=mkC L (n+3)) (x := "_law_count") rfl) e1 fun m2 e2=>?_
  refine Runs.ret e2 (ah _ rfl (dT d _ rfl (by exact Int.natCast_nonneg _) (by exact GM hd) ?_ (fun r hr=>?_)))
  ·rw [List.length_map]
   have:=List.length_filter_le (fun i=>decide (i%(1+more/12%4)=0)) (aW d)
   rw [bZ] at this; exact Ec hd this
  ·refine aQ hr fun i hi HK=>?_
   (clear hr; subst HK)
   have:=mem_upTo.mp (List.mem_filter.mp hi).1
   exact ⟨by simp,by simp,fun x hx=>by rw [List.mem_singleton.mp hx]; exact Ad this⟩
 ·refine Runs.ite (cz (H.ev rfl) (ak 5)) (fun uu=>?_) fun uu=>Runs.nil ?_
  ·have a1:=Int.emod_nonneg more (show (6:Int)≠0 by decide)
   have a2:=Int.emod_lt_of_pos more (show (0:Int)<6 by decide)
   obtain ⟨d,hd⟩:∃ d:Nat,7+more%6=d:=⟨(7+more%6).toNat,by exact Fy⟩
   refine Runs.set H (ca (ak 7) (aV (H.ev rfl) (ak 6) (by decide))) fun σ H _=>?_
   rw [hd] at H
   obtain ⟨m1,e1,_⟩:=bU (C:=mkC L (n+3)) (σ:=σ) (g:=PyData.int) (l:=aW d) (z := "_law_gone") (it:=.r1 (.name "_law_count")) (a:=.compif (.name "_law_thing") "_law_thing" (.r1 (.name "_law_count")) (.cmp .ne (.name "_law_thing") (.name "_law_gone"))) (fun g=>(aW d).filter fun i=>!decide (i=g)) .deep (cg (H.ev rfl) (by exact Ax hd)) (fun g _=>by
    have H2:=H.mk "_law_gone" (.d (.int g))
    exact mr (fun i=>!decide (i=g)) (cg (H2.ev rfl) (by exact Ax hd)) fun i _=>by
     have H3:Has (upd (upd σ "_law_gone" (mk (.d (.int g)))) "_law_thing" (sI i)) _:=H2.upd "_law_thing" (.d (.int i)) .deep
     exact iH (H3.ev rfl) (H3.ev rfl))
   refine cV (H.ev (C:=mkC L (n+3)) (x := "_law_count") rfl) e1 fun m2 e2=>?_
   refine Runs.ret e2 (ah _ rfl (dT d _ rfl (by exact Int.natCast_nonneg _) (by exact GB hd) (by rw [List.length_map,bZ]; exact BF hd) (fun r hr=>?_)))
   refine aQ hr fun g _ H8=>?_
   (clear hr; subst H8)
   refine ⟨?_,(pV d).filter _,fun x hx=>?_⟩
   ·have:=List.length_filter_le (fun i=>!decide (i=g)) (aW d)
    rw [bZ] at this; exact F9 hd this
   ·have:=mem_upTo.mp (List.mem_filter.mp hx).1
    exact Ad this
  ·obtain ⟨H6,e1,c,t,hr,h0,h1,h2,h3⟩:=eN (σ:=σ) (n:=n+2) lib.few (es:=.cons (.name "_law_script") .nil) (al (H.ev rfl) aF) rfl (wE lib n s hs)
   obtain ⟨rv,rm⟩:=H6
   cases hr
   refine Runs.set H e1 fun σ H hσ=>?_
   refine Runs.set H (bV lib (H.ev rfl) (ak 12) (by decide)) fun σ' H hσ'=>?_
   generalize bk s 12=far at H
   have made:∀ {σ:St}{l:List (String×V)},Has σ l->l.lookup "_law_made" = some (.d (.tuple [.int c,ag t]))->ev (mkC L (n+3)) (.sub (.name "_law_made") (.int 0)) σ = .ok (sI c)/\ev (mkC L (n+3)) (.sub (.name "_law_made") (.int 1)) σ = .ok (.d (ag t),.sh):=fun H a=>⟨xg (m:=.sh) (H.ev a) (ak 0),xI (m:=.sh) (H.ev a) (ak 1)⟩
   refine ae (made H rfl) fun d1 d2=>?_
   refine Runs.ite (dC (iH (aV (H.ev rfl) (ak 3) (by decide)) (ak 1)) fun uu=>dC (oG (dR d2) (ak 8)) fun uu=>oG d1 (ak 9)) (fun uu=>?_) fun q=>Runs.nil ?_
   ·refine ai (H "_law_made" _ rfl) fun m e=>?_
    exact Runs.retn e (ah _ rfl (dT c t rfl h0 h1 h2 h3))
   ·have hc9:c≤9:=by
     have:=(Bool.or_eq_false_iff.mp (Bool.or_eq_false_iff.mp q).2).2
     have:=of_decide_eq_false this
     exact Gw this
    have ht8:t.length≤8:=by
     have:=(Bool.or_eq_false_iff.mp (Bool.or_eq_false_iff.mp q).2).1
     have:=of_decide_eq_false this
     exact GF this
    clear q d1 d2
    refine Runs.set H (ca (ak 1) (aV (fb (H.ev rfl) (ak 3) (by decide) (by decide)) (ak 9) (by decide))) fun σ H _=>?_
    refine Runs.set H (aV (fb (H.ev rfl) (ak 27) (by decide) (by decide)) (ak 9) (by decide)) fun σ H _=>?_
    have b1:=Int.emod_nonneg (far/3) (show (9:Int)≠0 by decide)
    have b2:=Int.emod_lt_of_pos (far/3) (show (0:Int)<9 by decide)
    have b3:=Int.emod_nonneg (far/27) (show (9:Int)≠0 by decide)
    have b4:=Int.emod_lt_of_pos (far/27) (show (0:Int)<9 by decide)
    generalize hst:1+far/3%9=st at H
    generalize hfi:far/27%9=fi at H
    refine Runs.set H fh fun σ H hσ=>?_
    refine Runs.for (g:=aa) (xs:=t) (fun pre σ=>Has σ [("_law_table_here", .d (ag (pre.map fun r=>r.map fun x=>fi+st*x))),("_law_made", .d (.tuple [.int c,ag t])),("_law_step", .d (.int st)),("_law_first", .d (.int fi))]/\σ "_law_table_here" = some (.d (ag (pre.map fun r=>r.map fun x=>fi+st*x)),.deep)) (aL (made H rfl).2 (aK t .sh)) (fun σ0 h hh=>⟨(h _ H).sub (cH rfl rfl rfl rfl trivial),(hh _ (by simp [fg,dD,yD,ql])).trans hσ⟩) ?_ ?_
    ·intro pre y post hl σ Ie
     refine ae (Ie) fun H hσ=>?_
     try clear Ie
     have hp:pre.length<t.length:=by rw [hl,List.length_append,List.length_cons]; exact vY
     have H1:=H.mk "_law_choice" (.d (aa y))
     refine Runs.appR H1 (t:=pre.map fun r=>r.map fun x=>fi+st*x) (m:=.deep) ((if_neg (by decide)).trans hσ) (by decide) (jp (g:=PyData.int) (fun x=>fi+st*x) (aL (H1.ev rfl) (dy y .sh)) fun i _=>?_) (by rw [List.length_map]; exact F1 ht8 hp) fun σ H hσ _=>Runs.nil ?_
     ·have H2:=H1.mk "_law_thing" (.d (.int i))
      exact ca (H2.ev rfl) (kK (H2.ev rfl) (H2.ev rfl) (by lia))
     ·have e:(pre++[y]).map (fun r=>r.map fun x=>fi+st*x)=pre.map (fun r=>r.map fun x=>fi+st*x)++[y.map fun x=>fi+st*x]:=by rw [List.map_append]; rfl
      show Has σ _/\_
      rw [e]
      exact ⟨H.sub (cH rfl rfl rfl rfl trivial),hσ⟩
    ·intro σ HY
     refine ae (HY) fun H _=>?_
     try clear HY
     refine cV (ca (H.ev (C:=mkC L (n+3)) (x := "_law_first") rfl) (kK (H.ev (x := "_law_step") rfl) (made H rfl).1 (by lia))) (H.ev (x := "_law_table_here") rfl) fun m2 e2=>?_
     have q1:=Int.mul_nonneg (show 0≤st by exact Fd hst) h0
     have q2:st*c≤9*9:=Int.mul_le_mul (by exact FE hst) hc9 h0 (by decide)
     refine Runs.ret e2 (ah _ rfl (dT _ _ rfl (by exact GN hfi q1) (by exact Gy hfi q2) (by rw [List.length_map]; exact Ey ht8) (fun r hr=>?_)))
     refine aQ hr fun r' hr' Ig=>?_
     (clear hr; subst Ig)
     refine ae (h3 r' hr') fun q3 q4=>?_
     exact ⟨by rw [List.length_map]; exact Gu q3,q4.affine (by exact Fo hfi) (by exact Gs hst)⟩
noncomputable def dw (one:List Int) (o x:Int):List Int:=aN (one.filter (fun y=>!decide (y=o))++[x])
noncomputable def dq (t:List (List Int)) (one other:List Int) (x:Int):Bool:=one.any fun o=>!decide (o∈other)&&decide (dw one o x∈t)
noncomputable def cB (c:Nat) (t:List (List Int)):Option (List Int×List Int×Int) :=
 t.findSome? fun one=>(aW c).findSome? fun x=>if x∈one then none else t.findSome? fun other=>if (decide (x∈other) && !dq t one other x)=true then some (one,other,x) else none
theorem hM {α:Type}(p:α->Bool) (l:List α):l.findSome? (fun x=>if p x=true then some () else none)=if l.any p=true then some () else none:=by
 induction l with
 | nil=>rfl
 | cons a l ih=>
  rw [List.findSome?_cons,List.any_cons]
  cases p a with
  | true=>rfl
  | false=>simpa using ih
theorem qk {C:Calls}{σ:St}{c:List Int}{o t:Int}{m:Mode}{a b d:E}{z:String}{l:List (String×V)}(H:Has σ l) (hz:z ≠ "x") (ha:ev C a σ = .ok (.d (aa c),m)) (hd:ev C d σ = .ok (sI t)) (hb:∀ i:Int,ev C b (upd σ z (sI i)) = .ok (sI o)) (h:c.length<63) :
  ev C (.bi1 .sorted (.bin .add (.compif (.name z) z (.e a) (.cmp .ne (.name z) b)) (.list (.cons d .nil)))) σ = .ok (.d (aa (dw c o t)),.deep):=by
 have hl:(c.filter fun x=>!decide (x=o)).length≤c.length:=List.length_filter_le ..
 refine ip (eL (mr (fun i=>!decide (i=o)) (aL ha (dy c m)) fun i _=>iH (sd (p:=sI i) (if_pos rfl) rfl) (hb i)) (gc hd) (by rw [List.length_singleton]; exact Gg h hl)) ?_
 rw [List.length_append,List.length_singleton]; exact FV h hl
theorem lM (C:Calls) (c:List Int) (o t:Int) (h:c.length<63):aH C p_exchanged [.d (aa c),.d (.int o),.d (.int t)] = .ok (.d (aa (dw c o t)),.deep):=by
 unfold p_exchanged
 exact cP rfl fun σ H=>Runs.ret (qk H (by decide) (H.ev rfl) (H.ev rfl) (fun i=>(H.upd "one" (.d (.int i)) .deep).ev rfl) h) rfl
theorem w6 (C:Calls) (t:List (List Int)) (one other:List Int) (x:Int) (h:one.length<63):aH C l_can [.d (ag t),.d (aa one),.d (aa other),.d (.int x)] = .ok (sB (dq t one other x)):=by
 unfold l_can dq
 refine cP rfl fun σ H=>?_
 refine Runs.seek (g:=PyData.int) (xs:=one) (fun σ=>Has σ [("_law_table_here", .d (ag t)),("_law_one", .d (aa one)),("_law_other", .d (aa other)),("_law_thing", .d (.int x))]) (fun o=>if (!decide (o∈other)&&decide (dw one o x∈t))=true then some () else none) (fun uu=>sB true) (aL (H.ev rfl) (dy one .sh)) (fun σ0 h _=>(h _ H).sub (cH rfl rfl rfl rfl trivial)) (fun o ho σ H=>?_) (fun q σ' _=>?_) fun uu q σ'=>?_
 ·have H1:=H.mk "_law_out" (.d (.int o))
  refine Runs.set H1 (qk H1 (by decide) (H1.ev rfl) (H1.ev rfl) (fun i=>(H1.upd "_law_left" (.d (.int i)) .deep).ev rfl) h) fun σ H2 _=>?_
  refine Runs.ite (eW (nH (H2.ev rfl) (H2.ev rfl)) fun uu=>ES (H2.ev rfl) (H2.ev rfl)) (fun q=>Runs.ret (cM true) ?_) fun q=>Runs.nil (Runs.nil ?_)
  ·exact Cont.ret (Sk.ret (q:=()) (if_pos q))
  ·exact Sk.next (if_neg (by rw [q]; decide)) (H2.sub (cH rfl rfl rfl rfl trivial))
 ·rw [hM] at q
  refine Runs.ret (cM false) ?_
  by_cases e:(one.any fun o=>!decide (o∈other)&&decide (dw one o x∈t))=true
  ·rw [if_pos e] at q; cases q
  ·rw [Bool.eq_false_iff.mpr e]
 ·rw [hM] at q
  by_cases e:(one.any fun o=>!decide (o∈other)&&decide (dw one o x∈t))=true
  ·rw [e]
  ·rw [if_neg e] at q; cases q
theorem pQ {L:List (String×Fn)}(lib:Lib L) (n:Nat) (c:Nat) (t:List (List Int)) (hc:c≤1000) (h:∀ r∈t,r.length<63):aH (mkC L (n+1)) l_fault [.d (.int c),.d (ag t)] = .ok (match cB c t with | none=>(.d .none,.deep) | some (a,b,x)=>(.d (.tuple [aa a,aa b,.int x]),.sh)):=by
 unfold l_fault cB
 refine cP rfl fun σ H=>?_
 let rv:List Int×List Int×Int->V×Mode:=fun q=>(.d (.tuple [aa q.1,aa q.2.1,.int q.2.2]),.sh)
 let Inv:St->Prop:=fun σ=>Has σ [("_law_table_here", .d (ag t)),("_law_count", .d (.int c))]
 refine Runs.seek (g:=aa) (xs:=t) Inv (fun one=>(aW c).findSome? fun x=>if x∈one then none else t.findSome? fun other=>if (decide (x∈other) && !dq t one other x)=true then some (one,other,x) else none) rv (aL (H.ev rfl) (aK t .sh)) (fun σ0 h _=>(h _ H).sub ⟨rfl,rfl,trivial⟩) (fun one hone σ H=>?_) (fun q σ' _=>?_) fun q hq σ'=>?_
 ·have H1:=H.mk "_law_one" (.d (aa one))
  refine Runs.seek (g:=PyData.int) (xs:=aW c) (fun σ=>Has σ [("_law_table_here", .d (ag t)),("_law_count", .d (.int c)),("_law_one", .d (aa one))]) (fun x=>if x∈one then none else t.findSome? fun other=>if (decide (x∈other) && !dq t one other x)=true then some (one,other,x) else none) rv (cg (H1.ev rfl) (by exact pC hc)) (fun σ0 h _=>(h _ H1).sub (cS rfl rfl rfl trivial)) (fun x hx σ H=>?_) (fun q σ' H=>Runs.nil ?_) fun q hq σ'=>?_
  ·have H2:=H.mk "_law_thing" (.d (.int x))
   refine Runs.ite (nH (H2.ev rfl) (H2.ev rfl)) (fun q=>?_) fun q=>Runs.nil (Runs.nil ?_)
   ·have hx':x∉one:=by simpa using q
    refine Runs.seek (g:=aa) (xs:=t) (fun σ=>Has σ [("_law_table_here", .d (ag t)),("_law_count", .d (.int c)),("_law_one", .d (aa one)),("_law_thing", .d (.int x))]) (fun other=>if (decide (x∈other) && !dq t one other x)=true then some (one,other,x) else none) rv (aL (H2.ev rfl) (aK t .sh)) (fun σ0 h _=>(h _ H2).sub (cH rfl rfl rfl rfl trivial)) (fun other ho σ H=>?_) (fun q σ' H=>Runs.nil (Runs.nil ?_)) fun q hq σ'=>?_
    ·have H3:=H.mk "_law_other" (.d (aa other))
     refine Runs.ite (eW (rY (H3.ev rfl) (H3.ev rfl)) fun uu=>dv (cG lib.can (al (H3.ev rfl) (al (H3.ev rfl) (al (H3.ev rfl) (al (H3.ev rfl) aF)))) rfl (w6 _ t one other x (h one hone)))) (fun q=>?_) fun q=>Runs.nil (Runs.nil ?_)
     ·have e3:ev (mkC L (n+1)) (.tup (.cons (.name "_law_one") (.cons (.name "_law_other") (.cons (.name "_law_thing") .nil)))) (upd σ "_law_other" (mk (.d (aa other)))) = .ok (rv (one,other,x)):=by
       exact tE (m1:=.sh) (m2:=.sh) (m3:=.deep) (H3.ev rfl) (H3.ev rfl) (H3.ev rfl)
      exact Runs.ret e3 (Cont.ret (Sk.ret (q:=(one,other,x)) (if_pos q)))
     ·exact Sk.next (if_neg (by rw [q]; decide)) (H3.sub (cH rfl rfl rfl rfl trivial))
    ·exact Sk.next ((if_neg hx').trans q) (H.sub (cS rfl rfl rfl trivial))
    ·exact Cont.ret (Sk.ret ((if_neg hx').trans hq))
   ·have hx':x∈one:=by simpa using q
    exact Sk.next (if_pos hx') (H2.sub (cS rfl rfl rfl trivial))
  ·exact Sk.next q (H.sub ⟨rfl,rfl,trivial⟩)
  ·exact Sk.ret hq
 ·rw [q]; exact Runs.ret iU rfl
 ·rw [hq]
def Kn (pre:List (List Int)) (v:V):Prop:=(pre=[]/\v = .dic0)\/∃ ks,v = .dicT ks/\ks.length≤pre.length/\(∀ k,k∈ks↔k∈pre)/\ks.Nodup
theorem ie (r:List Int):dz (aM r)=some r:=d0 r
theorem Kn.add {pre:List (List Int)}{v:V}{σ:St}{z:String}(K:Kn pre v) (r:List Int) (hl:pre.length≤1000):∃ v',fI σ z v (aM r) = .ok (upd σ z (v',.deep),.next)/\Kn (pre++[r]) v':=by
 rcases K with ⟨rfl,rfl⟩ | ⟨ks,rfl,h1,h2,h3⟩
 ·refine (ah (.dicT [r]) ?_ (.inr (br ([r]) rfl (Nat.le_refl _) (fun k=>Iff.rfl) (by simp))))
  simp only [fI,ie,show dN (aM r)=none from rfl]
 ·refine (ah (.dicT (if r∈ks then ks else ks++[r])) ?_ (.inr (br _ rfl ?_ (fun k=>?_) ?_)))
  ·show (match dz (aM r) with | some i=>if ks.length≤lim then Out.ok (upd σ z (V.dicT (if i∈ks then ks else ks++[i]),Mode.deep),Flw.next) else .bad | none=>.bad)=_
   rw [ie]
   show (if ks.length≤lim then _ else _)=_
   rw [if_pos (by unfold lim; exact zP hl h1)]
  ·rw [List.length_append,List.length_singleton]
   by_cases e:r∈ks
   ·rw [if_pos e]; exact xD h1
   ·rw [if_neg e,List.length_append,List.length_singleton]; exact nJ h1
  ·by_cases e:r∈ks
   ·rw [if_pos e,h2,List.mem_append,List.mem_singleton]
    exact ⟨.inl,fun q=>q.elim id fun q=>q▸(h2 r).mp e⟩
   ·rw [if_neg e,List.mem_append,List.mem_append,h2]
  ·by_cases e:r∈ks
   ·rw [if_pos e]; exact h3
   ·rw [if_neg e]; exact List.nodup_append.mpr ⟨h3,by simp,fun a ha b hb q=>e (by rw [List.mem_singleton.mp hb] at q; exact q▸ha)⟩
theorem kD (C:Calls) (t:List (List Int)) (hl:t.length≤1000):∃ r,aH C p_known_of [.d (ag t)] = .ok r/\∃ v,r=(v,.deep)/\Kn t v:=by
 unfold p_known_of
 refine dW rfl fun σ H=>?_
 refine Runs.set H tm fun σ H hσ=>?_
 refine Runs.for (g:=aa) (xs:=t) (fun pre σ=>∃ v,σ "known" = some (v,.deep)/\Kn pre v) (aL (H.ev rfl) (aK t .sh)) (fun σ0 _ hh=>(ah .dic0 ((hh _ (by simp [fg,dD])).trans hσ) (.inl ⟨rfl,rfl⟩))) ?_ ?_
 ·intro pre y post hl' σ Ii
  refine af (Ii) fun v hv K=>?_
  try clear Ii
  have hp:pre.length<t.length:=by rw [hl',List.length_append,List.length_cons]; exact vY
  refine af (K.add (σ:=upd σ "choice" (mk (.d (aa y)))) (z := "known") y (by exact Dr hl hp)) fun v' h1 h2=>?_
  have hv':upd σ "choice" (mk (.d (aa y))) "known" = some (v,.deep):=(if_neg (by decide)).trans hv
  refine Runs.next (σ':=upd (upd σ "choice" (mk (.d (aa y)))) "known" (v',.deep)) ?_ (Runs.nil (ah v' (lh _ _ _) h2))
  simp only [cN,qr (C:=C) (sd (C:=C) (σ:=upd σ "choice" (mk (.d (aa y)))) (z := "choice") (p:=(.d (aa y),.sh)) (if_pos rfl) rfl),Out.ok_bind,hv']
  exact h1
 ·intro σ' HZ
  refine af (HZ) fun v hv K=>?_
  try clear HZ
  exact Runs.retn hv (ah _ rfl (ah v rfl K))
theorem sJ {L:List (String×Fn)}(lib:Lib L) (n:Nat) (t:List (List Int)) (v:V) (K:Kn t v) (one other:List Int) (x:Int) (ht:t≠[]) (h:one.length<63):aH (mkC L (n+1)) p_goes [v,.d (aa one),.d (aa other),.d (.int x)] = .ok (sB (dq t one other x)):=by
 rcases K with ⟨q,_⟩ | ⟨ks,rfl,_,hk,_⟩
 ·exact absurd q ht
 unfold p_goes dq
 refine cP rfl fun σ H=>?_
 refine Runs.seek (g:=PyData.int) (xs:=one) (fun σ=>Has σ [("known", .dicT ks),("one", .d (aa one)),("other", .d (aa other)),("thing", .d (.int x))]) (fun o=>if (!decide (o∈other)&&decide (dw one o x∈t))=true then some () else none) (fun uu=>sB true) (aL (H.ev rfl) (dy one .sh)) (fun σ0 h _=>(h _ H).sub (cH rfl rfl rfl rfl trivial)) (fun o ho σ H=>?_) (fun q σ' _=>?_) fun uu q σ'=>?_
 ·have H1:=H.mk "out" (.d (.int o))
  have e1:ev (mkC L (n+1)) (.cmp .isin (.bi1 .tuple (.call "exchanged" (.cons (.name "one") (.cons (.name "out") (.cons (.name "thing") .nil))))) (.name "known")) (upd σ "out" (mk (.d (.int o)))) = .ok (sB (decide (dw one o x∈t))):=by
   refine bp (qr (cG lib.exch (al (H1.ev rfl) (al (H1.ev rfl) (al (H1.ev rfl) aF))) rfl (lM _ one o x h))) (H1.ev (x := "known") rfl) ?_
   show (au (dz (aM (dw one o x))) fun i=>Out.ok (decide (i∈ks)))=_
   rw [ie]
   exact congrArg Out.ok (decide_eq_decide.mpr (hk _))
  refine Runs.ite (eW (nH (H1.ev rfl) (H1.ev rfl)) fun uu=>e1) (fun q=>Runs.ret (cM true) (Cont.ret (Sk.ret (q:=()) (if_pos q)))) fun q=>Runs.nil (Runs.nil (Sk.next (if_neg (by rw [q]; decide)) (H1.sub (cH rfl rfl rfl rfl trivial))))
 ·rw [hM] at q
  refine Runs.ret (cM false) ?_
  by_cases e:(one.any fun o=>!decide (o∈other)&&decide (dw one o x∈t))=true
  ·rw [if_pos e] at q; cases q
  ·rw [Bool.eq_false_iff.mpr e]
 ·rw [hM] at q
  by_cases e:(one.any fun o=>!decide (o∈other)&&decide (dw one o x∈t))=true
  ·rw [e]
  ·rw [if_neg e] at q; cases q
noncomputable def qT:Option (List Int×List Int×Int)->V×Mode
 | none=>(.d .none,.deep)
 | some q=>(.d (.tuple [aa q.1,aa q.2.1,.int q.2.2]),.deep)
theorem qY {L:List (String×Fn)}(lib:Lib L) (n:Nat) (c:Nat) (t:List (List Int)) (hc:c≤1000) (hl:t.length≤1000) (h:∀ one∈t,∀ other∈t,∀ x∈other,x∉one->one.length<63):aH (mkC L (n+2)) p_fault [.d (.int c),.d (ag t)] = .ok (qT (cB c t)):=by
 unfold p_fault cB
 refine cP rfl fun σ H=>?_
 obtain ⟨_,e0,v,Iq,K⟩:=eN (σ:=σ) (n:=n+1) lib.known (es:=.cons (.name "table") .nil) (al (H.ev rfl) aF) rfl (kD _ t hl)
 subst Iq
 refine Runs.set H e0 fun σ H _=>?_
 refine Runs.seek (g:=aa) (xs:=t) (fun σ=>Has σ [("table", .d (ag t)),("count", .d (.int c)),("known", v)]) (fun one=>(aW c).findSome? fun x=>if x∈one then none else t.findSome? fun other=>if (decide (x∈other) && !dq t one other x)=true then some (one,other,x) else none) (fun q=>qT (some q)) (aL (H.ev rfl) (aK t .sh)) (fun σ0 h _=>(h _ H).sub (cS rfl rfl rfl trivial)) (fun one hone σ H=>?_) (fun q σ' _=>?_) fun q hq σ'=>?_
 ·have H1:=H.mk "one" (.d (aa one))
  refine Runs.seek (g:=PyData.int) (xs:=aW c) (fun σ=>Has σ [("table", .d (ag t)),("count", .d (.int c)),("known", v),("one", .d (aa one))]) (fun x=>if x∈one then none else t.findSome? fun other=>if (decide (x∈other) && !dq t one other x)=true then some (one,other,x) else none) (fun q=>qT (some q)) (cg (H1.ev rfl) (by exact pC hc)) (fun σ0 h _=>(h _ H1).sub (cH rfl rfl rfl rfl trivial)) (fun x hx σ H=>?_) (fun q σ' H=>Runs.nil ?_) fun q hq σ'=>?_
  ·have H2:=H.mk "thing" (.d (.int x))
   refine Runs.ite (nH (H2.ev rfl) (H2.ev rfl)) (fun q=>?_) fun q=>Runs.nil (Runs.nil ?_)
   ·have hx':x∉one:=by simpa using q
    refine Runs.seek (g:=aa) (xs:=t) (fun σ=>Has σ [("table", .d (ag t)),("count", .d (.int c)),("known", v),("one", .d (aa one)),("thing", .d (.int x))]) (fun other=>if (decide (x∈other) && !dq t one other x)=true then some (one,other,x) else none) (fun q=>qT (some q)) (aL (H2.ev rfl) (aK t .sh)) (fun σ0 h _=>(h _ H2).sub (kU rfl rfl rfl rfl rfl trivial)) (fun other ho σ H=>?_) (fun q σ' H=>Runs.nil (Runs.nil ?_)) fun q hq σ'=>?_
    ·have H3:=H.mk "other" (.d (aa other))
     refine Runs.ite (eW (rY (H3.ev rfl) (H3.ev rfl)) fun hp=>dv (cG lib.goes (al (H3.ev rfl) (al (H3.ev rfl) (al (H3.ev rfl) (al (H3.ev rfl) aF)))) rfl (sJ lib n t v K one other x (List.ne_nil_of_mem hone) (h one hone other ho x (of_decide_eq_true hp) hx')))) (fun q=>?_) fun q=>Runs.nil (Runs.nil ?_)
     ·exact Runs.ret (tE (iI (H3.ev rfl)) (iI (H3.ev rfl)) (H3.ev rfl)) (Cont.ret (Sk.ret (q:=(one,other,x)) (if_pos q)))
     ·exact Sk.next (if_neg (by rw [q]; decide)) (H3.sub (kU rfl rfl rfl rfl rfl trivial))
    ·exact Sk.next ((if_neg hx').trans q) (H.sub (cH rfl rfl rfl rfl trivial))
    ·exact Cont.ret (Sk.ret ((if_neg hx').trans hq))
   ·have hx':x∈one:=by simpa using q
    exact Sk.next (if_pos hx') (H2.sub (cH rfl rfl rfl rfl trivial))
  ·exact Sk.next q (H.sub (cS rfl rfl rfl trivial))
  ·exact Sk.ret hq
 ·rw [q]; exact Runs.ret iU rfl
 ·rw [hq]
end Mine
namespace Mine
open PySem
noncomputable def p_need_row:Fn:=⟨["count", "things"],
(.cons (.assign "seen" .edic)
(.cons (.for1 "thing" (.e (.name "things"))
(.cons (.ite (.or (.cmp .lt (.name "thing") (.int 0)) (.or (.cmp .ge (.name "thing") (.name "count")) (.cmp .isin (.name "thing") (.name "seen"))))
(.cons (.raise "NoThing")
.nil)
.nil)
(.cons (.setitem "seen" (.name "thing"))
.nil)))
.nil))⟩
noncomputable def ir:Ss:=(.cons (.ite (.or (.cmp .lt (.name "thing") (.int 0)) (.or (.cmp .ge (.name "thing") (.name "count")) (.cmp .isin (.name "thing") (.name "seen"))))
(.cons (.raise "NoThing")
.nil)
.nil)
(.cons (.setitem "seen" (.name "thing"))
.nil))
def Good (c:Int) (xs:List Int):Prop:=(∀ x∈xs,0≤x/\x<c)/\xs.Nodup
def Sn (pre:List Int) (v:V):Prop:=(pre=[]/\v = .dic0)\/∃ ks,v = .dicI ks/\ks.length≤pre.length/\∀ k,k∈ks↔k∈pre
theorem Sn.has {pre:List Int}{v:V}(K:Sn pre v) (x:Int):bY .isin (.d (.int x)) v = .ok (decide (x∈pre)):=by
 rcases K with ⟨rfl,rfl⟩ | ⟨ks,rfl,h1,h2⟩
 ·rfl
 ·show Out.ok (decide (x∈ks))=_
  rw [decide_eq_decide.mpr (h2 x)]
theorem Sn.add {pre:List Int}{v:V}{σ:St}{z:String}(K:Sn pre v) (x:Int) (hl:pre.length≤1000):∃ v',fI σ z v (.int x) = .ok (upd σ z (v',.deep),.next)/\Sn (pre++[x]) v':=by
 rcases K with ⟨rfl,rfl⟩ | ⟨ks,rfl,h1,h2⟩
 ·exact (ah (.dicI [x]) rfl (.inr (aC ([x]) rfl (Nat.le_refl _) (fun k=>Iff.rfl))))
 ·refine (ah (.dicI (if x∈ks then ks else ks++[x])) ?_ (.inr (aC _ rfl ?_ (fun k=>?_))))
  ·show (if ks.length≤lim then _ else _)=_
   rw [if_pos (by unfold lim; exact zP hl h1)]
  ·rw [List.length_append,List.length_singleton]
   by_cases e:x∈ks
   ·rw [if_pos e]; exact xD h1
   ·rw [if_neg e,List.length_append,List.length_singleton]; exact nJ h1
  ·by_cases e:x∈ks
   ·rw [if_pos e,h2,List.mem_append,List.mem_singleton]
    exact ⟨.inl,fun q=>q.elim id fun q=>q▸(h2 x).mp e⟩
   ·rw [if_neg e,List.mem_append,List.mem_append,h2]
theorem mF {C:Calls}{g:List V->Out (V×Mode)}(hC:C "NoThing" = some g) (c:Int):∀ (xs pre:List Int) (σ:St) (v:V),Has σ [("count", .d (.int c))]->σ "seen" = some (v,.deep)->Sn pre v->Good c pre->pre.length+xs.length≤1000 ->
  (Good c (pre++xs)->∃ σ',b8 (fun y σ=>exs C ir (upd σ "thing" (mk (.d y)))) (xs.map .int) σ = .ok (σ',.next))/\(¬ Good c (pre++xs)->b8 (fun y σ=>exs C ir (upd σ "thing" (mk (.d y)))) (xs.map .int) σ = .exc "NoThing")
 | [],pre,σ,v,H,hs,K,hg,hl=>by
  rw [List.append_nil]
  exact ⟨fun uu=>⟨σ,rfl⟩,fun q=>absurd hg q⟩
 | x::xs,pre,σ,v,H,hs,K,hg,hl=>by
  have H1:Has (upd σ "thing" (mk (.d (.int x)))) [("thing", .d (.int x)),("count", .d (.int c))]:=H.mk "thing" (.d (.int x))
  have hs1:upd σ "thing" (mk (.d (.int x))) "seen" = some (v,.deep):=(if_neg (by decide)).trans hs
  have et:=H1.ev (C:=C) (x := "thing") rfl
  have e2:ev C (.cmp .isin (.name "thing") (.name "seen")) (upd σ "thing" (mk (.d (.int x)))) = .ok (sB (decide (x∈pre))):=bp et (by simp only [c7,hs1]; rfl) (K.has x)
  have ec:ev C (.or (.cmp .lt (.name "thing") (.int 0)) (.or (.cmp .ge (.name "thing") (.name "count")) (.cmp .isin (.name "thing") (.name "seen")))) (upd σ "thing" (mk (.d (.int x)))) = .ok (sB (decide (x<0)||(decide (c≤x)||decide (x∈pre)))) :=
   dC (lz et (ak 0)) fun uu=>dC (AA et (H1.ev rfl)) fun uu=>e2
  simp only [List.map_cons,b8]
  by_cases bad:x<0\/c≤x\/x∈pre
  ·have eb:(decide (x<0)||(decide (c≤x)||decide (x∈pre)))=true:=by simpa using bad
   rw [eb] at ec
   have ng:¬ Good c (pre++x::xs):=fun ⟨h1,h2⟩=>by
    have hx:=h1 x (by simp)
    rcases bad with q | q | q
    ·exact EB hx q
    ·exact EH hx q
    ·exact (List.nodup_append.mp h2).2.2 x q x (.head _) rfl
   have er:exs C ir (upd σ "thing" (mk (.d (.int x)))) = .exc "NoThing" := by
    unfold ir
    simp only [cW,bQ]
    rw [lO ec]
    simp only [cW,bQ,cN,eM,hC,au]
    rfl
   refine ⟨fun q=>absurd q ng,fun uu=>?_⟩
   rw [er]; rfl
  ·have eb:(decide (x<0)||(decide (c≤x)||decide (x∈pre)))=false:=by simpa using bad
   rw [eb] at ec
   obtain ⟨v',e4,K'⟩:=K.add (σ:=upd σ "thing" (mk (.d (.int x)))) (z := "seen") x (by rw [List.length_cons] at hl; exact DY hl)
   have er:exs C ir (upd σ "thing" (mk (.d (.int x)))) = .ok (upd (upd σ "thing" (mk (.d (.int x)))) "seen" (v',.deep),.next):=by
    unfold ir
    rw [dF ((ju ec).trans d8)]
    refine (dF (σ':=upd (upd σ "thing" (mk (.d (.int x)))) "seen" (v',.deep)) ?_).trans d8
    simp only [cN,et,Out.calm_ok,Out.ok_bind,hs1]
    exact e4
   have hg':Good c (pre++[x]):=by
    refine ⟨fun y hy=>?_,List.nodup_append.mpr ⟨hg.2,by simp,fun a ha b hb q=>?_⟩⟩
    ·rcases List.mem_append.mp hy with h | h
     ·exact hg.1 y h
     ·rw [List.mem_singleton.mp h]; exact B0 bad
    ·rw [List.mem_singleton.mp hb] at q; (clear H1 K' e2 e4 eb er et hb hl hs1; subst q); exact bad (.inr (.inr ha))
   have ih:=mF hC c xs (pre++[x]) (upd (upd σ "thing" (mk (.d (.int x)))) "seen" (v',.deep)) v' ((H1.upd "seen" v' .deep).sub ⟨rfl,trivial⟩) (lh _ _ _) K' hg' (by rw [List.length_append,List.length_singleton]; rw [List.length_cons] at hl; exact Bp hl)
   rw [List.append_assoc] at ih
   rw [er]
   exact ih
theorem nj {C:Calls}{g:List V->Out (V×Mode)}(hC:C "NoThing" = some g) (c:Int) (xs:List Int) (hl:xs.length≤1000) :
  (Good c xs->aH C p_need_row [.d (.int c),.d (aa xs)] = .ok (.d .none,.deep))/\(¬ Good c xs->aH C p_need_row [.d (.int c),.d (aa xs)] = .exc "NoThing"):=by
 refine af (fQ ["count", "things"] [.d (.int c),.d (aa xs)] rfl) fun σ hσ H=>?_
 have hb:bJ p_need_row.params [.d (.int c),.d (aa xs)]=some σ:=hσ
 have e1:ex C (.assign "seen" .edic) σ = .ok (upd σ "seen" (.dic0,.deep),.next):=by
  simp only [cf]
  rw [iQ (tm (C:=C) (σ:=σ))]
  rfl
 have H1:Has (upd σ "seen" (.dic0,.deep)) [("seen", .dic0),("count", .d (.int c)),("things", .d (aa xs))]:=H.upd "seen" .dic0 .deep
 have hit:=aL (C:=C) (H1.ev (C:=C) (x := "things") rfl) (dy xs .sh)
 refine ae (mF hC c xs [] (consume (upd σ "seen" (.dic0,.deep)) (bx (.e (.name "things"))) .sh) .dic0 ((H1.sub (l':=[("count", .d (.int c))]) ⟨rfl,trivial⟩).consume _ _) ((gp.2 "seen" (by simp [fg,dD])).trans (lh _ _ _)) (.inl ⟨rfl,rfl⟩) ⟨fun uu h=>(nomatch h),.nil⟩ (by simpa using hl)) fun l1 l2=>?_
 have e2:exs C p_need_row.body σ=(b8 (fun y σ=>exs C ir (upd σ "thing" (mk (.d y)))) (xs.map .int) (consume (upd σ "seen" (.dic0,.deep)) (bx (.e (.name "things"))) .sh)).bind fun q=>match q.2 with | .next=>exs C .nil q.1 | .ret v=>.ok (q.1,.ret v):=by
  show exs C (.cons (.assign "seen" .edic) _) σ=_
  rw [dF e1]
  simp only [cW,bQ,cN,gD,ew,eM,hit,Out.ok_bind]
  rfl
 refine ⟨fun q=>?_,fun q=>?_⟩
 ·refine ai (l1 q) fun σ' l1=>?_
  rw [l1] at e2
  unfold aH
  rw [hb]
  dsimp only
  rw [e2]
  simp only [Out.ok_bind,d8]
 ·rw [l2 q] at e2
  unfold aH
  rw [hb]
  dsimp only
  rw [e2]
  rfl
end Mine
namespace Mine
open PySem
def NoF (c:Nat) (t:List (List Int)):Prop:=∀ one∈t,∀ x∈aW c,x∉one->∀ other∈t,x∈other->dq t one other x=true
theorem fault_none {c:Nat}{t:List (List Int)}:cB c t=none↔NoF c t:=by
 unfold cB NoF
 rw [List.findSome?_eq_none_iff]
 refine forall_congr' fun one=>imp_congr_right fun uu=>?_
 rw [List.findSome?_eq_none_iff]
 refine forall_congr' fun x=>imp_congr_right fun uu=>?_
 by_cases hx:x∈one
 ·simp [hx]
 ·rw [if_neg hx,List.findSome?_eq_none_iff]
  refine ⟨fun h _ other ho hxo=>?_,fun h other ho=>?_⟩
  ·have:=h other ho
   cases hc:dq t one other x with
   | true=>rfl
   | false=>rw [if_pos (by simp [hxo,hc])] at this; cases this
  ·by_cases hxo:x∈other
   ·rw [if_neg (by simp [h hx other ho hxo])]
   ·rw [if_neg (by simp [hxo])]
theorem wo {t u:List (List Int)}(h:∀ r,r∈t↔r∈u) (one other:List Int) (x:Int):dq t one other x=dq u one other x:=by
 unfold dq
 congr 1
 funext o
 rw [decide_eq_decide.mpr (h (dw one o x))]
theorem NoF.set {c:Nat}{t u:List (List Int)}(n:NoF c t) (h:∀ r,r∈t↔r∈u):NoF c u:=fun one ho x hx hn other hot hxo=>by
 rw [← wo h]
 exact n one ((h one).mpr ho) x hx hn other ((h other).mpr hot) hxo
theorem NoF.one (c:Nat) (r:List Int):NoF c [r]:=fun one ho x hx hn other hot hxo=>by
 rw [List.mem_singleton.mp ho] at hn
 rw [List.mem_singleton.mp hot] at hxo
 exact absurd hxo hn
end Mine
namespace Mine
open PySem
noncomputable def p_Rule:Fn:=⟨["count", "table"],
(.cons (.ite (.cmp .eq (.bi1 .len (.name "table")) (.int 0))
(.cons (.raise "NoChoice")
.nil)
.nil)
(.cons (.for1 "choice" (.e (.name "table"))
(.cons (.expr (.call "need_row" (.cons (.name "count") (.cons (.name "choice") .nil))))
.nil))
(.cons (.assign "known" (.call "known_of" (.cons (.comp (.bi1 .sorted (.name "choice")) "choice" (.e (.name "table"))) .nil)))
(.cons (.assign "full" (.comp (.bi1 .list (.name "choice")) "choice" (.e (.bi1 .sorted (.bi1 .list (.name "known"))))))
(.cons (.ite (.cmp .isnot (.call "fault" (.cons (.name "count") (.cons (.name "full") .nil))) .none)
(.cons (.raise "NoExchange")
.nil)
.nil)
.nil)))))⟩
structure LibR (L:List (String×Fn)):Prop extends Lib L where
 need:L.lookup "need_row" = some p_need_row
 rule:L.lookup "Rule" = some p_Rule
 nth:∃ f,L.lookup "NoThing" = some f
theorem oX {L:List (String×Fn)}{n:Nat}{σ:St}{f:String}{fn:Fn}{es:Es}{q:List (V×Mode)}{vs:List V}{r:V×Mode}(hL:L.lookup f=some fn) (he:evs (aG (mkC L (n+1))) es σ = .ok q) (hv:q.map (·.1)=vs) (h:aH (mkC L n) fn vs = .ok r) (hp:gN f=true:=by decide) (hl:f ≠ "law" := by decide):ev (aG (mkC L (n+1))) (.call f es) σ = .ok r:=by
 have hC:aG (mkC L (n+1)) f=some fun vs=>dl f (mkC L n) fn vs:=by
  unfold aG
  rw [if_neg hl]
  show (L.lookup f).map _=_; rw [hL]; rfl
 rw [gT hC he,hv,lX hp,h]
theorem Srt.good {c:Int}{r:List Int}(h:Srt c r):Good c r:=⟨h.2,h.1.imp fun q e=>by rw [e] at q; exact Int.lt_irrefl _ q⟩
theorem jS:∀ ks:List (List Int),du (ks.map aM)=some ks
 | []=>rfl
 | k::ks=>by simp only [List.map_cons,du,ie,jS ks,Option.bind_some,Option.map_some]
theorem qc {ks:List (List Int)}(h0:ks≠[]) (h64:ks.length<64):∃ m,b1V .sorted (.d (.list (ks.map aM))) = .ok (.d (.list ((az ks).map aM)),m):=by
 refine ⟨fresh ((az ks).map aM),?_⟩
 show dM (ks.map aM)=_
 unfold dM
 have hi:aS (ks.map aM)=none:=by
  cases ks with
  | nil=>exact absurd rfl h0
  | cons k ks=>rfl
 rw [if_pos (by rw [List.length_map]; exact h64),hi]
 show dG _=_
 unfold dG
 rw [jS]
theorem vO (r:List Int):b1V .list (.d (aM r)) = .ok (.d (aa r),.deep):=by
 show Out.ok (V.d (.list (r.map PyData.int)),fresh (r.map PyData.int))=_
 have:fresh (r.map PyData.int) = .deep:=by
  unfold fresh
  rw [if_pos]
  rw [List.all_map,List.all_eq_true]
  intro _ _; rfl
 rw [this]; rfl
end Mine
namespace Mine
open PySem
theorem AH {L:List (String×Fn)}{n:Nat}{σ:St}{f:String}{fn:Fn}{es:Es}{q:List (V×Mode)}{vs:List V}{c:String}(hL:L.lookup f=some fn) (he:evs (aG (mkC L (n+1))) es σ = .ok q) (hv:q.map (·.1)=vs) (h:aH (mkC L n) fn vs = .exc c) (hp:gN f=true:=by decide) (hl:f ≠ "law" := by decide):ev (aG (mkC L (n+1))) (.call f es) σ = .exc c:=by
 have hC:aG (mkC L (n+1)) f=some fun vs=>dl f (mkC L n) fn vs:=by
  unfold aG
  rw [if_neg hl]
  show (L.lookup f).map _=_; rw [hL]; rfl
 rw [gT hC he,hv,lX hp,h]
theorem fH {C:Calls}{σ:St}{a:E}{g:List V->Out (V×Mode)}{c k:Int}{d:PyData}{m:Mode}(hC:C "Rule" = some g) (h:ev C a σ = .ok (.rule c d k,m)):ev C (.attr a "count") σ = .ok (sI c)/\ev C (.attr a "full") σ = .ok (mk (.d d))/\ev C (.attr a "size") σ = .ok (sI k):=by
 refine ⟨?_,?_,?_⟩<;>(simp only [kj,hC,au,h,Out.ok_bind]; rfl)
end Mine
namespace Mine
open PySem
theorem sm {C:Calls}{σ:St}{a b:E}{t u:List (List Int)}{m m':Mode}(ha:ev C a σ = .ok (.d (ag t),m)) (hb:ev C b σ = .ok (.d (ag u),m')):ev C (.cmp .eq a b) σ = .ok (sB (decide (t=u))):=bp ha hb (zC t u)
theorem sZ {C:Calls}{σ:St}{a:E}{r:List Int}{m:Mode}(ha:ev C a σ = .ok (.d (aa r),m)):∃ m,ev C (.list (.cons a .nil)) σ = .ok (.d (ag [r]),m):=by
 refine ⟨if allDeep [(.d (aa r),m)] then .deep else .top,?_⟩
 simp only [bv,a8,aY,ha,Out.ok_bind]
 rfl
theorem l6 {L:List (String×Fn)}(lib:LibR L) {n:Nat}{σ:St}{es:Es}{q:List (V×Mode)}{vs:List V}{r:V×Mode}(he:evs (mkC L (n+1)) es σ = .ok q) (hv:q.map (·.1)=vs) (h:bW (aG (mkC L n)) p_Rule vs = .ok r):ev (mkC L (n+1)) (.call "Rule" es) σ = .ok r:=by
 have hC:mkC L (n+1) "Rule" = some fun vs=>dl "Rule" (mkC L n) p_Rule vs:=by show (L.lookup "Rule").map _=_; rw [lib.rule]; rfl
 rw [gT hC he,hv]
 exact h
end Mine
namespace Mine
open PySem
structure LibQ (L:List (String×Fn)):Prop extends LibR L where
 nch:∃ f,L.lookup "NoChoice" = some f
 nex:∃ f,L.lookup "NoExchange" = some f
theorem Good.srt {c:Int}{r:List Int}(h:Good c r):Srt c (aN r):=by
 have p:=dZ r
 refine ⟨?_,fun x hx=>h.1 x (p.mem_iff.mp hx)⟩
 have h2:(aN r).Pairwise (·≠·):=p.nodup_iff.mpr h.2
 exact (iM r).imp₂ (fun a b h1 h2=>by exact EC h1 h2) h2
theorem ln {L:List (String×Fn)}{n:Nat}{f:String}(h:∃ g,L.lookup f=some g) (hf:f ≠ "law"):∃ g,aG (mkC L (n+1)) f=some g:=by
 refine ai (h) fun g hg=>?_
 try clear h
 unfold aG
 rw [if_neg hf]
 exact ⟨_,by show (L.lookup f).map _=_; rw [hg]; rfl⟩
noncomputable def jk:Ss:=.cons (.expr (.call "need_row" (.cons (.name "count") (.cons (.name "choice") .nil)))) .nil
theorem oZ {L:List (String×Fn)}(lib:LibR L) (n:Nat) (c:Int) (T:V):∀ (t:List (List Int)) (σ:St),(∀ r∈t,r.length≤1000)->Has σ [("count", .d (.int c)),("table", T)] ->
  ((∀ r∈t,Good c r)->∃ σ',b8 (fun y σ=>exs (aG (mkC L (n+3))) jk (upd σ "choice" (mk (.d y)))) (t.map aa) σ = .ok (σ',.next)/\Has σ' [("count", .d (.int c)),("table", T)]) /\
  ((∃ r∈t,¬ Good c r)->b8 (fun y σ=>exs (aG (mkC L (n+3))) jk (upd σ "choice" (mk (.d y)))) (t.map aa) σ = .exc "NoThing")
 | [],σ,_,H=>⟨fun _=>⟨σ,rfl,H⟩,fun ⟨_,h,_⟩=>nomatch h⟩
 | r::t,σ,hl,H=>by
  refine ai (lib.nth) fun nt hnt=>?_
  have hNT:mkC L (n+2) "NoThing" = some fun vs=>dl "NoThing" (mkC L (n+1)) nt vs:=by show (L.lookup "NoThing").map _=_; rw [hnt]; rfl
  have H1:=H.mk "choice" (.d (aa r))
  refine ae (nj hNT c r (hl r (.head _))) fun s1 s2=>?_
  have es:=al (H1.ev (C:=aG (mkC L (n+3))) (x := "count") rfl) (al (H1.ev (x := "choice") rfl) aF)
  rw [List.map_cons,b8]
  by_cases g:Good c r
  ·have e:=oX lib.need es rfl (s1 g)
   have er:exs (aG (mkC L (n+3))) jk (upd σ "choice" (mk (.d (aa r)))) = .ok (upd σ "choice" (mk (.d (aa r))),.next):=by
    unfold jk
    simp only [cW,bQ,cr,e,Out.ok_bind]
    rfl
   rw [er]
   refine ae (oZ lib n c T t (upd σ "choice" (mk (.d (aa r)))) (fun r h=>hl r (.tail _ h)) (H1.sub ⟨rfl,rfl,trivial⟩)) fun i1 i2=>?_
   refine ⟨fun h=>i1 fun r hr=>h r (.tail _ hr),fun ⟨x,hx,hb⟩=>i2 ⟨x,?_,hb⟩⟩
   exact (List.mem_cons.mp hx).resolve_left fun q=>hb (q▸g)
  ·have e:=AH lib.need es rfl (s2 g)
   have er:exs (aG (mkC L (n+3))) jk (upd σ "choice" (mk (.d (aa r)))) = .exc "NoThing" := by
    unfold jk
    simp only [cW,bQ,cr,e,Out.exc_bind]
   rw [er]
   exact ⟨fun h=>absurd (h r (.head _)) g,fun _=>rfl⟩
theorem nQ {C:Calls}{c:E}{u b:Ss}{σ:St}(he:ev C c σ = .ok (sB false)):exs C (.cons (.ite c u .nil) b) σ=exs C b σ:=dF ((ju he).trans d8)
theorem lS {C:Calls}{s:S}{b:Ss}{σ:St}{n:String}(h:ex C s σ = .exc n):exs C (.cons s b) σ = .exc n:=by
 rw [bQ,h]; rfl
theorem sL {C:Calls}{c:E}{n:String}{g:List V->Out (V×Mode)}{b:Ss}{σ:St}(hn:n∈aw) (hC:C n=some g) (he:ev C c σ = .ok (sB true)):exs C (.cons (.ite c (.cons (.raise n) .nil) .nil) b) σ = .exc n:=by
 refine lS ((lO he).trans (lS ?_))
 simp only [eM,hC,au]
 exact if_pos hn
theorem qw {C:Calls}{x:String}{e:E}{r:V×Mode}{b:Ss}{σ:St}(he:ev C e σ = .ok r):exs C (.cons (.assign x e) b) σ=exs C b (upd (consume σ (fv e) r.2) x r):=dF (by simp only [cf,iQ he,Out.ok_bind])
noncomputable def rq:Ss:=(.cons (.ite (.cmp .isnot (.call "fault" (.cons (.name "count") (.cons (.name "full") .nil))) .none)
(.cons (.raise "NoExchange")
.nil)
.nil)
.nil)
theorem km {L:List (String×Fn)}(lib:LibQ L) (n:Nat) (c:Nat) (t:List (List Int)) (ht:t≠[]) (hl:t.length≤63) (hr:∀ r∈t,r.length≤60) (σ:St) (H:Has σ [("count", .d (.int c)),("table", .d (ag t))]) :
  ((∃ r∈t,¬ Good c r)->exs (aG (mkC L (n+3))) p_Rule.body σ = .exc "NoThing") /\
  ((∀ r∈t,Good c r)->∃ σ' ks,exs (aG (mkC L (n+3))) p_Rule.body σ=exs (aG (mkC L (n+3))) rq σ'/\Has σ' [("count", .d (.int c)),("full", .d (ag (az ks)))]/\σ' "full" = some (.d (ag (az ks)),.deep)/\(∀ r,r∈ks↔r∈t.map aN)/\ks.Nodup/\ks.length≤t.length):=by
 have e0:ev (aG (mkC L (n+3))) (.cmp .eq (.bi1 .len (.name "table")) (.int 0)) σ = .ok (sB false):=(cz (dR (H.ev (x := "table") rfl)) (ak 0)).trans (by rw [decide_eq_false (fun q=>ht (List.eq_nil_of_length_eq_zero (by exact B9 q)))])
 have hit:=aL (C:=aG (mkC L (n+3))) (H.ev (C:=aG (mkC L (n+3))) (x := "table") rfl) (aK t .sh)
 refine ae (oZ lib.toLibR n c (.d (ag t)) t (consume σ (bx (.e (.name "table"))) .sh) (fun r h=>Nat.le_trans (hr r h) (by decide)) (H.consume _ _)) fun l1 l2=>?_
 refine ⟨fun hb=>?_,fun hg=>?_⟩
 ·unfold p_Rule
  dsimp only
  rw [nQ e0]
  refine lS ?_
  simp only [ew,hit,Out.ok_bind]
  exact l2 hb
 ·refine af (l1 hg) fun σ1 l3 H1=>?_
  refine ao (bU (C:=aG (mkC L (n+3))) (σ:=σ1) (g:=aa) (l:=t) (z := "choice") (it:=.e (.name "table")) (a:=.bi1 .sorted (.name "choice")) aN .deep (aL (H1.ev rfl) (aK t .sh)) fun r hr'=>ip ((Has.nil.mk "choice" (.d (aa r))).ev rfl) (Nat.lt_of_le_of_lt (hr r hr') (by decide))) fun m1 e1 _ _=>?_
  obtain ⟨r,e2,v,G4,K⟩:=kD (mkC L (n+2)) (t.map aN) (by rw [List.length_map]; exact Bs hl)
  subst G4
  have e3:=oX lib.known (al e1 aF) rfl e2
  rcases K with ⟨q,_⟩ | ⟨ks,rfl,k1,k2,k3⟩
  ·exact absurd (List.map_eq_nil_iff.mp q) ht
  rw [List.length_map] at k1
  have h0:ks≠[]:=fun q=>by
   refine ai (List.exists_mem_of_ne_nil t ht) fun a ha=>?_
   have:=(k2 (aN a)).mpr (List.mem_map_of_mem ha)
   rw [q] at this; cases this
  have H2:=(H1.consume (fv (.call "known_of" (.cons (.comp (.bi1 .sorted (.name "choice")) "choice" (.e (.name "table"))) .nil))) .deep).upd "known" (.dicT ks) .deep
  generalize hσ2:upd (consume σ1 (fv (.call "known_of" (.cons (.comp (.bi1 .sorted (.name "choice")) "choice" (.e (.name "table"))) .nil))) .deep) "known" (.dicT ks,.deep)=σ2 at H2
  have e4:ev (aG (mkC L (n+3))) (.bi1 .list (.name "known")) σ2 = .ok (.d (.list (ks.map aM)),fresh (ks.map aM)):=by
   rw [eG (H2.ev (x := "known") rfl)]
   show nL .list ks=_
   unfold nL
   rw [if_pos ⟨rfl,by unfold lim; exact BU hl k1⟩]
  refine ai (qc h0 (by exact Bq hl k1)) fun m4 e5=>?_
  have e6:ev (aG (mkC L (n+3))) (.bi1 .sorted (.bi1 .list (.name "known"))) σ2 = .ok (.d (.list ((az ks).map aM)),m4):=(eG e4).trans e5
  refine ao (bU (C:=aG (mkC L (n+3))) (σ:=σ2) (g:=aM) (l:=az ks) (z := "choice") (it:=.e (.bi1 .sorted (.bi1 .list (.name "known")))) (a:=.bi1 .list (.name "choice")) (fun r=>r) .deep (aL e6 rfl) fun r _=>(eG ((Has.nil.mk "choice" (.d (aM r))).ev rfl)).trans (vO r)) fun m6 e7 hm6 _=>?_
  rw [List.map_id',hm6 rfl] at e7
  refine ⟨upd (consume σ2 (fv (.comp (.bi1 .list (.name "choice")) "choice" (.e (.bi1 .sorted (.bi1 .list (.name "known")))))) .deep) "full" (.d (ag (az ks)),.deep),ks,?_,((H2.consume _ _).upd "full" (.d (ag (az ks))) .deep).sub ⟨rfl,rfl,trivial⟩,lh _ _ _,k2,k3,k1⟩
  unfold p_Rule
  dsimp only
  rw [nQ e0,dF (σ':=σ1) (by simp only [ew,hit,Out.ok_bind]; exact l3),qw e3]
  dsimp only
  rw [hσ2,qw e7]
  rfl
theorem bR (ks:List (List Int)) (r:List Int):r∈az ks↔r∈ks:=(List.mergeSort_perm ks _).mem_iff
theorem fX (ks:List (List Int)):(az ks).length=ks.length:=(List.mergeSort_perm ks _).length_eq
theorem fC {L:List (String×Fn)}(lib:LibQ L) (n:Nat) (c:Nat) (t:List (List Int)) (hc:c≤1000) (hl:t.length≤63) (hr:∀ r∈t,r.length≤60) :
  (t=[]->bW (aG (mkC L (n+3))) p_Rule [.d (.int c),.d (ag t)] = .exc "NoChoice") /\
  (t≠[]->(∃ r∈t,¬ Good c r)->bW (aG (mkC L (n+3))) p_Rule [.d (.int c),.d (ag t)] = .exc "NoThing") /\
  (t≠[]->(∀ r∈t,Good c r)->¬ NoF c (t.map aN)->bW (aG (mkC L (n+3))) p_Rule [.d (.int c),.d (ag t)] = .exc "NoExchange") /\
  (t≠[]->(∀ r∈t,Good c r)->NoF c (t.map aN)->∃ ks x,bW (aG (mkC L (n+3))) p_Rule [.d (.int c),.d (ag t)] = .ok (.rule c (ag (az ks)) (x:List Int).length,.deep)/\(az ks)[0]? = some x/\(∀ r,r∈ks↔r∈t.map aN)/\ks.Nodup/\ks.length≤t.length):=by
 refine af (fQ ["count", "table"] [V.d (.int c),V.d (ag t)] rfl) fun σ hσ H=>?_
 have run:bW (aG (mkC L (n+3))) p_Rule [.d (.int c),.d (ag t)]=(exs (aG (mkC L (n+3))) p_Rule.body σ).bind fun r=>match r.2 with
  | .next=>dX r.1
  | .ret _=>.bad:=by
  unfold bW
  rw [show bJ p_Rule.params [V.d (.int c),V.d (ag t)]=some σ from hσ]
  try rfl
 rw [run]
 have last:∀ {σ':St}{ks:List (List Int)},Has σ' [("count", .d (.int c)),("full", .d (ag (az ks)))]->(∀ r,r∈ks↔r∈t.map aN)->ks.length≤t.length->ev (aG (mkC L (n+3))) (.cmp .isnot (.call "fault" (.cons (.name "count") (.cons (.name "full") .nil))) .none) σ' = .ok (sB (cB c (az ks)).isSome):=fun {σ'} {ks} H' k2 k1=>by
  have ef:=qY lib.toLib n c (az ks) hc (by rw [fX]; exact xc hl k1) fun r hr' o ho x hx hn=>by
   refine af (List.mem_map.mp ((k2 r).mp ((bR ks r).mp hr'))) fun r' h1 G4=>?_
   subst G4
   rw [(dZ r').length_eq]
   exact Nat.lt_of_le_of_lt (hr r' h1) (by decide)
  refine bp (oX lib.fault (al (H'.ev (x := "count") rfl) (al (H'.ev (x := "full") rfl) aF)) rfl ef) iU ?_
  cases cB c (az ks)<;>rfl
 have flt:∀ {ks:List (List Int)},(∀ r,r∈ks↔r∈t.map aN)->((cB c (az ks)).isSome=false↔NoF c (t.map aN)):=fun {ks} k2=>by
  rw [Option.isSome_eq_false_iff,Option.isNone_iff_eq_none,fault_none]
  exact ⟨fun h=>h.set fun r=>(bR ks r).trans (k2 r),fun h=>h.set fun r=>((bR ks r).trans (k2 r)).symm⟩
 refine ⟨fun q=>?_,fun ht hb=>?_,fun ht hg nf=>?_,fun ht hg nf=>?_⟩
 ·subst q
  refine ai (ln (n:=n+2) lib.nch (by decide)) fun g hC=>?_
  unfold p_Rule
  dsimp only
  rw [sL (by decide) hC ((cz (dR (H.ev (x := "table") rfl)) (ak 0)).trans rfl)]
  rfl
 ·rw [(km lib n c t ht hl hr σ H).1 hb]
  rfl
 ·refine nu ((km lib n c t ht hl hr σ H).2 hg) fun σ' ks e H' hf k2 k3 k1=>?_
  refine ai (ln (n:=n+2) lib.nex (by decide)) fun g hC=>?_
  have e1:=last H' k2 k1
  rw [show (cB c (az ks)).isSome=true from by
   cases q:(cB c (az ks)).isSome with
   | true=>rfl
   | false=>exact absurd ((flt k2).mp q) nf] at e1
  rw [e]
  unfold rq
  rw [sL (by decide) hC e1]
  rfl
 ·refine nu ((km lib n c t ht hl hr σ H).2 hg) fun σ' ks e H' hf k2 k3 k1=>?_
  have e1:=last H' k2 k1
  rw [(flt k2).mpr nf] at e1
  obtain ⟨x,hx⟩:∃ x,(az ks)[0]? = some x:=by
   refine ai (List.exists_mem_of_ne_nil t ht) fun a ha=>?_
   have:=List.length_pos_of_mem ((bR ks _).mpr ((k2 (aN a)).mpr (List.mem_map_of_mem ha)))
   exact ⟨_,List.getElem?_eq_getElem this⟩
  refine ⟨ks,x,?_,hx,k2,k3,k1⟩
  rw [e]
  unfold rq
  rw [nQ e1,d8]
  refine ai (H' "count" _ rfl) fun mc hcnt=>?_
  simp only [Out.ok_bind]
  unfold dX
  rw [hcnt,hf]
  show (au (((az ks).map aa)[0]?) _)=_
  rw [List.getElem?_map,hx]
  show Out.ok (V.rule c (.list ((az ks).map aa)) ((x.map PyData.int).length:Int),Mode.deep)=_
  rw [List.length_map]
  rfl
end Mine
namespace Mine
open PySem
noncomputable def l_row_is4:Fn:=⟨["_law_found", "_law_due_here"],
(.cons (.ite (.or (.not (.isi (.name "_law_found") "list")) (.cmp .ne (.bi1 .len (.name "_law_found")) (.bi1 .len (.name "_law_due_here"))))
(.cons (.ret (.bool false))
.nil)
.nil)
(.cons (.for1 "_law_k" (.r1 (.bi1 .len (.name "_law_due_here")))
(.cons (.ite (.or (.not (.call "_law_whole" (.cons (.sub (.name "_law_found") (.name "_law_k")) .nil))) (.cmp .ne (.sub (.name "_law_found") (.name "_law_k")) (.sub (.name "_law_due_here") (.name "_law_k"))))
(.cons (.ret (.bool false))
.nil)
.nil)
.nil))
(.cons (.ret (.bool true))
.nil)))⟩
noncomputable def l_rows_are4:Fn:=⟨["_law_found", "_law_due_here"],
(.cons (.ite (.or (.not (.isi (.name "_law_found") "list")) (.cmp .ne (.bi1 .len (.name "_law_found")) (.bi1 .len (.name "_law_due_here"))))
(.cons (.ret (.bool false))
.nil)
.nil)
(.cons (.for1 "_law_k" (.r1 (.bi1 .len (.name "_law_due_here")))
(.cons (.ite (.not (.call "_law_row_is" (.cons (.sub (.name "_law_found") (.name "_law_k")) (.cons (.sub (.name "_law_due_here") (.name "_law_k")) .nil))))
(.cons (.ret (.bool false))
.nil)
.nil)
.nil))
(.cons (.ret (.bool true))
.nil)))⟩
noncomputable def l_spoilt:Fn:=⟨["_law_table_here", "_law_count", "_law_kind", "_law_place", "_law_thing"],
(.cons (.ite (.cmp .eq (.name "_law_kind") (.int 1))
(.cons (.ret (.list .nil))
.nil)
.nil)
(.cons (.ite (.or (.cmp .eq (.name "_law_table_here") (.list .nil)) (.or (.cmp .gt (.name "_law_kind") (.int 5)) (.cmp .eq (.name "_law_kind") (.int 0))))
(.cons (.retn "_law_table_here")
.nil)
.nil)
(.cons (.assign "_law_at" (.bin .mod (.name "_law_place") (.bi1 .len (.name "_law_table_here"))))
(.cons (.assign "_law_odd" (.sub (.list (.cons (.name "_law_count") (.cons (.bin .sub (.neg (.int 1)) (.bin .mod (.name "_law_thing") (.int 3))) (.cons (.bin .add (.bin .pow (.int 10) (.int 12)) (.bin .mod (.name "_law_thing") (.int 7))) .nil)))) (.bin .mod (.bin .fdiv (.name "_law_thing") (.int 3)) (.int 3))))
(.cons (.ite (.and (.cmp .eq (.name "_law_kind") (.int 2)) (.cmp .ne (.sub (.name "_law_table_here") (.name "_law_at")) (.list .nil)))
(.cons (.assign "_law_odd" (.sub (.sub (.name "_law_table_here") (.name "_law_at")) (.bin .mod (.name "_law_thing") (.bi1 .len (.sub (.name "_law_table_here") (.name "_law_at"))))))
.nil)
.nil)
(.cons (.assign "_law_here" (.sub (.name "_law_table_here") (.name "_law_at")))
(.cons (.assign "_law_cut" (.bin .mod (.bin .fdiv (.name "_law_place") (.int 7)) (.bin .add (.bi1 .len (.name "_law_here")) (.int 1))))
(.cons (.ite (.cmp .lt (.name "_law_kind") (.int 4))
(.cons (.assign "_law_more" (.bin .add (.bin .add (.shi (.name "_law_here") (.name "_law_cut")) (.list (.cons (.name "_law_odd") .nil))) (.slo (.name "_law_here") (.name "_law_cut"))))
(.cons (.ret (.bin .add (.bin .add (.shi (.name "_law_table_here") (.name "_law_at")) (.list (.cons (.name "_law_more") .nil))) (.slo (.name "_law_table_here") (.bin .add (.name "_law_at") (.int 1)))))
.nil))
.nil)
(.cons (.ret (.bin .add (.name "_law_table_here") (.list (.cons (.bi1 .list (.name "_law_here")) .nil))))
.nil)))))))))⟩
noncomputable def l_sound:Fn:=⟨["_law_count", "_law_choice"],
(.cons (.for1 "_law_k" (.r1 (.bi1 .len (.name "_law_choice")))
(.cons (.assign "_law_thing" (.sub (.name "_law_choice") (.name "_law_k")))
(.cons (.ite (.or (.cmp .lt (.name "_law_thing") (.int 0)) (.or (.cmp .ge (.name "_law_thing") (.name "_law_count")) (.cmp .isin (.name "_law_thing") (.shi (.name "_law_choice") (.name "_law_k")))))
(.cons (.ret (.bool false))
.nil)
.nil)
.nil)))
(.cons (.ret (.bool true))
.nil))⟩
noncomputable def l_due:Fn:=⟨["_law_count", "_law_table_here"],
(.cons (.ite (.cmp .eq (.name "_law_table_here") (.list .nil))
(.cons (.ret (.int 1))
.nil)
.nil)
(.cons (.for1 "_law_choice" (.e (.name "_law_table_here"))
(.cons (.ite (.not (.call "_law_sound" (.cons (.name "_law_count") (.cons (.name "_law_choice") .nil))))
(.cons (.ret (.int 2))
.nil)
.nil)
.nil))
(.cons (.ite (.cmp .isnot (.call "_law_fault" (.cons (.name "_law_count") (.cons (.comp (.bi1 .sorted (.name "_law_choice")) "_law_choice" (.e (.name "_law_table_here"))) .nil))) .none)
(.cons (.ret (.int 3))
.nil)
.nil)
(.cons (.ret (.int 0))
.nil))))⟩
noncomputable def l_told4:Fn:=⟨["_law_count", "_law_table_here"],
(.cons (.tryS (.expr (.call "Rule" (.cons (.name "_law_count") (.cons (.name "_law_table_here") .nil)))) [("NoChoice", [.ret (.int 1)]),("NoThing", [.ret (.int 2)]),("NoExchange", [.ret (.int 3)])])
(.cons (.ret (.int 0))
.nil))⟩
noncomputable def l_refused_by_any:Fn:=⟨["_law_count", "_law_table_here", "_law_due_here"],
(.cons (.assign "_law_found" (.list .nil))
(.cons (.tryS (.expr (.call "Rule" (.cons (.name "_law_count") (.cons (.name "_law_table_here") .nil)))) [("PickError", [.nam "e", .asg "_law_found" (.list (.cons (.isE "e" "NoChoice") (.cons (.isE "e" "NoThing") (.cons (.isE "e" "NoExchange") .nil)))),.asg "_law_found" (.bin .add (.name "_law_found") (.list (.cons (.or (.isE "e" "NoWeights") (.isE "e" "NoRule")) (.cons (.isE "e" "ValueError") .nil))))])])
(.cons (.ret (.cmp .eq (.name "_law_found") (.list (.cons (.cmp .eq (.name "_law_due_here") (.int 1)) (.cons (.cmp .eq (.name "_law_due_here") (.int 2)) (.cons (.cmp .eq (.name "_law_due_here") (.int 3)) (.cons (.bool false) (.cons (.bool true) .nil))))))))
.nil)))⟩
structure LibU (L:List (String×Fn)):Prop extends LibQ L where
 pick:∃ f,L.lookup "PickError" = some f
 nwe:∃ f,L.lookup "NoWeights" = some f
 nru:∃ f,L.lookup "NoRule" = some f
 rowIs:L.lookup "_law_row_is" = some l_row_is4
 rowsAre:L.lookup "_law_rows_are" = some l_rows_are4
 spo:L.lookup "_law_spoilt" = some l_spoilt
 sou:L.lookup "_law_sound" = some l_sound
 due:L.lookup "_law_due" = some l_due
 told:L.lookup "_law_told" = some l_told4
 refu:L.lookup "_law_refused_by_any" = some l_refused_by_any
theorem zG {L:List (String×Fn)}(lib:Lib L) (n:Nat) (r:List Int) (hl:r.length≤1000):aH (mkC L (n+1)) l_row_is4 [.d (aa r),.d (aa r)] = .ok (sB true):=by
 unfold l_row_is4
 refine cP rfl fun σ H=>?_
 refine Runs.no (dC (p:=false) (q:=false) (dv (t:=true) (nI (H.ev (x := "_law_found") rfl) rfl)) fun uu=>(iH (cR (H.ev (x := "_law_found") rfl)) (cR (H.ev (x := "_law_due_here") rfl))).trans (by simp)) ?_
 refine Runs.for (g:=PyData.int) (xs:=aW r.length) (fun pre σ=>Has σ [("_law_found", .d (aa r)),("_law_due_here", .d (aa r))]) (cg (cR (H.ev (x := "_law_due_here") rfl)) (by exact pC hl)) (fun σ0 h _=>(h _ H).sub ⟨rfl,rfl,trivial⟩) ?_ fun σ H=>Runs.ret (cM true) rfl
 intro pre y post hp σ H
 have hy:=mem_upTo.mp (show y∈aW r.length by rw [hp]; simp)
 have H1:=H.mk "_law_k" (.d (.int y))
 obtain ⟨v,hv⟩:∃ v,r[y.toNat]? = some v:=⟨_,List.getElem?_eq_getElem (by exact yb hy)⟩
 have e1:ev (mkC L (n+1)) (.sub (.name "_law_found") (.name "_law_k")) (upd σ "_law_k" (mk (.d (.int y)))) = .ok (sI v):=eI (H1.ev rfl) (H1.ev rfl) hy.1 hv
 have e2:ev (mkC L (n+1)) (.sub (.name "_law_due_here") (.name "_law_k")) (upd σ "_law_k" (mk (.d (.int y)))) = .ok (sI v):=eI (H1.ev rfl) (H1.ev rfl) hy.1 hv
 exact Runs.no (dC (p:=false) (q:=false) (dv (t:=true) (cG lib.whole (al e1 aF) rfl (iv _ v))) fun uu=>(iH e1 e2).trans (by simp)) (Runs.nil (H1.sub ⟨rfl,rfl,trivial⟩))
theorem uj {L:List (String×Fn)}(lib:LibU L) (n:Nat) (t:List (List Int)) (hl:t.length≤1000) (hr:∀ r∈t,r.length≤1000):aH (mkC L (n+2)) l_rows_are4 [.d (ag t),.d (ag t)] = .ok (sB true):=by
 unfold l_rows_are4
 refine cP rfl fun σ H=>?_
 refine Runs.no (dC (p:=false) (q:=false) (dv (t:=true) (nI (H.ev (x := "_law_found") rfl) rfl)) fun uu=>(iH (dR (H.ev (x := "_law_found") rfl)) (dR (H.ev (x := "_law_due_here") rfl))).trans (by simp)) ?_
 refine Runs.for (g:=PyData.int) (xs:=aW t.length) (fun pre σ=>Has σ [("_law_found", .d (ag t)),("_law_due_here", .d (ag t))]) (cg (dR (H.ev (x := "_law_due_here") rfl)) (by exact pC hl)) (fun σ0 h _=>(h _ H).sub ⟨rfl,rfl,trivial⟩) ?_ fun σ H=>Runs.ret (cM true) rfl
 intro pre y post hp σ H
 have hy:=mem_upTo.mp (show y∈aW t.length by rw [hp]; simp)
 have H1:=H.mk "_law_k" (.d (.int y))
 obtain ⟨v,hv⟩:∃ v,t[y.toNat]? = some v:=⟨_,List.getElem?_eq_getElem (by exact yb hy)⟩
 have e1:ev (mkC L (n+2)) (.sub (.name "_law_found") (.name "_law_k")) (upd σ "_law_k" (mk (.d (.int y)))) = .ok (.d (aa v),.sh):=je (H1.ev rfl) (H1.ev rfl) hy.1 hv
 have e2:ev (mkC L (n+2)) (.sub (.name "_law_due_here") (.name "_law_k")) (upd σ "_law_k" (mk (.d (.int y)))) = .ok (.d (aa v),.sh):=je (H1.ev rfl) (H1.ev rfl) hy.1 hv
 exact Runs.no (dv (t:=true) (cG lib.rowIs (al e1 (al e2 aF)) rfl (zG lib.toLib n v (hr v (List.mem_of_getElem? hv))))) (Runs.nil (H1.sub ⟨rfl,rfl,trivial⟩))
theorem E0 {C:Calls}{σ:St}{a:E}{x:Int}(h:ev C a σ = .ok (sI x)):ev C (.neg a) σ = .ok (sI (-x)):=by simp only [lU,h,Out.ok_bind]; rfl
theorem zt {C:Calls}{σ:St}{a b d:E}{x y z:Int}(ha:ev C a σ = .ok (sI x)) (hb:ev C b σ = .ok (sI y)) (hd:ev C d σ = .ok (sI z)):ev C (.list (.cons a (.cons b (.cons d .nil)))) σ = .ok (.d (aa [x,y,z]),.deep):=by simp only [bv,a8,aY,ha,hb,hd,Out.ok_bind]; rfl
theorem Aq {C:Calls}{σ:St}{a b:E}{t:List (List Int)}{i:Int}{m:Mode}(ha:ev C a σ = .ok (.d (ag t),m)) (hb:ev C b σ = .ok (sI i)) (h0:0≤i) (h1:i≤1000):∃ m,ev C (.shi a b) σ = .ok (.d (ag (t.take i.toNat)),m):=by
 refine ⟨_,(uB ha hb).trans (?_:fE (.list (t.map aa)) (.int i) = .ok (.d (.list ((t.take i.toNat).map aa)),fresh ((t.map aa).take i.toNat)))⟩
 unfold fE
 dsimp only
 rw [if_pos ⟨h0,by exact xi h1⟩,List.map_take]
theorem Ag {C:Calls}{σ:St}{a b:E}{t:List (List Int)}{i:Int}{m:Mode}(ha:ev C a σ = .ok (.d (ag t),m)) (hb:ev C b σ = .ok (sI i)) (h0:0≤i) (h1:i≤1000):∃ m,ev C (.slo a b) σ = .ok (.d (ag (t.drop i.toNat)),m):=by
 refine ⟨_,(ue ha hb).trans (?_:fu (.list (t.map aa)) (.int i) = .ok (.d (.list ((t.drop i.toNat).map aa)),fresh ((t.map aa).drop i.toNat)))⟩
 unfold fu
 dsimp only
 rw [if_pos ⟨h0,by exact xi h1⟩,List.map_drop]
theorem t9 {C:Calls}{σ:St}{a b:E}{r:List Int}{i:Int}{m:Mode}(ha:ev C a σ = .ok (.d (aa r),m)) (hb:ev C b σ = .ok (sI i)) (h0:0≤i) (h1:i≤1000):ev C (.shi a b) σ = .ok (.d (aa (r.take i.toNat)),.deep):=by
 refine ai (Int.eq_ofNat_of_zero_le h0) fun k G4=>?_
 subst G4
 exact (uB ha hb).trans (tw r k (by exact xx h1))
theorem Ak {C:Calls}{σ:St}{a b:E}{r:List Int}{i:Int}{m:Mode}(ha:ev C a σ = .ok (.d (aa r),m)) (hb:ev C b σ = .ok (sI i)) (h0:0≤i) (h1:i≤1000):ev C (.slo a b) σ = .ok (.d (aa (r.drop i.toNat)),.deep):=by
 refine ai (Int.eq_ofNat_of_zero_le h0) fun k G5=>?_
 subst G5
 exact (ue ha hb).trans (sF r k (by exact xx h1))
theorem pW (C:Calls) (c:Nat) (t:List (List Int)) (kind place thing:Int) (hl:t.length≤62) (hr:∀ r∈t,r.length≤12) :
  ∃ r,aH C l_spoilt [.d (ag t),.d (.int c),.d (.int kind),.d (.int place),.d (.int thing)] = .ok r/\∃ u,r.1 = .d (ag u)/\u.length≤63/\∀ r∈u,r.length≤13:=by
 unfold l_spoilt
 refine dW rfl fun σ H=>?_
 refine Runs.ite (cz (H.ev (x := "_law_kind") rfl) (ak 1)) (fun _=>Runs.ret fh ⟨_,rfl,[],rfl,by decide,fun _ h=>nomatch h⟩) fun _=>Runs.nil ?_
 refine Runs.ite (dC (sm (H.ev (x := "_law_table_here") rfl) fh) fun _=>dC (oG (H.ev (x := "_law_kind") rfl) (ak 5)) fun _=>cz (H.ev (x := "_law_kind") rfl) (ak 0)) (fun _=>?_) fun q=>Runs.nil ?_
 ·refine ai (H "_law_table_here" _ rfl) fun m e=>?_
  exact Runs.retn e ⟨_,rfl,t,rfl,by exact Bh hl,fun r h=>by have:=hr r h; exact rQ this⟩
 have ht:t≠[]:=of_decide_eq_false (Bool.or_eq_false_iff.mp q).1
 have hp:0<t.length:=List.length_pos_iff.mpr ht
 have a1:=Int.emod_nonneg place (show (t.length:Int)≠0 by exact la2 hp)
 have a2:=Int.emod_lt_of_pos place (show 0<(t.length:Int) by exact la3 hp)
 refine Runs.set H (aV (H.ev (x := "_law_place") rfl) (dR (H.ev (x := "_law_table_here") rfl)) (by exact la3 hp)) fun σ H _=>?_
 generalize place%(t.length:Int)=at_ at H a1 a2
 obtain ⟨h,hh⟩:∃ h,t[at_.toNat]? = some h:=⟨_,List.getElem?_eq_getElem (by exact Ca hp a2)⟩
 have hhl:=hr h (List.mem_of_getElem? hh)
 obtain ⟨od,ho⟩:∃ od,[(c:Int),-1-thing%3,10^12+thing%7][(thing/3%3).toNat]? = some od:=⟨_,List.getElem?_eq_getElem (by simp; exact BZ)⟩
 have hd:∀ {σ:St}{l:List (String×V)},Has σ l->l.lookup "_law_table_here" = some (.d (ag t))->l.lookup "_law_at" = some (.d (.int at_))->ev C (.sub (.name "_law_table_here") (.name "_law_at")) σ = .ok (.d (aa h),.sh):=fun H a b=>je (H.ev a) (H.ev b) a1 hh
 refine Runs.set H (eI (zt (H.ev (x := "_law_count") rfl) (C0 (E0 (ak 1)) (aV (H.ev (x := "_law_thing") rfl) (ak 3) (by decide))) (ca ((cU (ak 10) (ak 12)).trans rfl) (aV (H.ev (x := "_law_thing") rfl) (ak 7) (by decide)))) (aV (fb (H.ev (x := "_law_thing") rfl) (ak 3) (by decide) (by decide)) (ak 3) (by decide)) (Int.emod_nonneg _ (by decide)) ho) fun σ H _=>?_
 refine Runs.iteTo (fun σ=>∃ o,Has σ [("_law_odd", .d (.int o)),("_law_at", .d (.int at_)),("_law_table_here", .d (ag t)),("_law_kind", .d (.int kind)),("_law_place", .d (.int place))]) (eW (cz (H.ev (x := "_law_kind") rfl) (ak 2)) fun _=>ED (hd H rfl rfl) nA) (fun q=>?_) (fun _=>Runs.nil ⟨rfl,od,H.sub ⟨rfl,rfl,rfl,rfl,rfl,trivial⟩⟩) fun σ ⟨o,H⟩=>?_
 ·have hne:h≠[]:=of_decide_eq_false (by have:=(Bool.and_eq_true_iff.mp q).2; simpa using this)
  have hlp:0<h.length:=List.length_pos_iff.mpr hne
  have b1:=Int.emod_nonneg thing (show (h.length:Int)≠0 by exact la2 hlp)
  have b2:=Int.emod_lt_of_pos thing (show 0<(h.length:Int) by exact la3 hlp)
  obtain ⟨o,ho⟩:∃ o,h[(thing%(h.length:Int)).toNat]? = some o:=⟨_,List.getElem?_eq_getElem (by exact la4 hlp b2)⟩
  exact Runs.set H (eI (hd H rfl rfl) (aV (H.ev (x := "_law_thing") rfl) (cR (hd H rfl rfl)) (by exact la3 hlp)) b1 ho) fun σ H _=>Runs.nil ⟨rfl,o,H.sub ⟨rfl,rfl,rfl,rfl,rfl,trivial⟩⟩
 refine Runs.set H (hd H rfl rfl) fun σ H _=>?_
 have c1:=Int.emod_nonneg (place/7) (show ((h.length:Int)+1)≠0 by exact Bb)
 have c2:=Int.emod_lt_of_pos (place/7) (show 0<((h.length:Int)+1) by exact wC)
 refine Runs.set H (aV (fb (H.ev (x := "_law_place") rfl) (ak 7) (by decide) (by decide)) (ca (cR (H.ev (x := "_law_here") rfl)) (ak 1)) (by exact wC)) fun σ H _=>?_
 generalize place/7%((h.length:Int)+1)=cut at H c1 c2
 have mem:∀ {r},r∈t->r.length≤13:=fun h=>by have:=hr _ h; exact rQ this
 refine Runs.ite (lz (H.ev (x := "_law_kind") rfl) (ak 4)) (fun _=>?_) fun _=>Runs.nil ?_
 ·refine Runs.set H (eL (eL (t9 (H.ev (x := "_law_here") rfl) (H.ev (x := "_law_cut") rfl) c1 (by exact xE hhl c2)) (gc (H.ev (x := "_law_odd") rfl)) (by simp; exact B6 hhl)) (Ak (H.ev (x := "_law_here") rfl) (H.ev (x := "_law_cut") rfl) c1 (by exact xE hhl c2)) (by simp; exact ER hhl)) fun σ H _=>?_
  refine ai (Aq (H.ev (C:=C) (x := "_law_table_here") rfl) (H.ev (x := "_law_at") rfl) a1 (by exact CZ hl a2)) fun m1 e1=>?_
  refine ai (sZ (H.ev (C:=C) (x := "_law_more") rfl)) fun m2 e2=>?_
  obtain ⟨m3,e3⟩:=fo e1 e2 (by simp; exact Bv hl)
  refine ai (Ag (H.ev (C:=C) (x := "_law_table_here") rfl) (ca (H.ev (x := "_law_at") rfl) (ak 1)) (by exact BA a1) (by exact Cf hl a2)) fun m4 e4=>?_
  obtain ⟨m5,e5⟩:=fo e3 e4 (by simp; exact Ch hl)
  refine Runs.ret e5 ⟨_,rfl,_,rfl,by simp; exact Cz hl,fun r h=>?_⟩
  rcases List.mem_append.mp h with h | h
  ·rcases List.mem_append.mp h with h | h
   ·exact mem (List.mem_of_mem_take h)
   ·rw [List.mem_singleton.mp h]; simp; exact C1 hhl
  ·exact mem (List.mem_of_mem_drop h)
 ·refine ai (sZ (iI (H.ev (C:=C) (x := "_law_here") rfl))) fun m2 e2=>?_
  obtain ⟨m3,e3⟩:=fo (H.ev (C:=C) (x := "_law_table_here") rfl) e2 (by simp; exact CE hl)
  refine Runs.ret e3 ⟨_,rfl,_,rfl,by simp; exact D8 hl,fun r h=>?_⟩
  rcases List.mem_append.mp h with h | h
  ·exact mem h
  ·rw [List.mem_singleton.mp h]; exact rQ hhl
end Mine
namespace Mine
open PySem
theorem sW {r:List Int}{i:Nat}{v:Int}(h:r[i]? = some v):r.take (i+1)=r.take i++[v]:=by
 rw [List.take_add_one,h]; rfl
open Classical in
theorem qS (C:Calls) (c:Nat) (r:List Int) (hl:r.length≤1000):aH C l_sound [.d (.int c),.d (aa r)] = .ok (sB (decide (Good c r))):=by
 unfold l_sound
 refine cP rfl fun σ H=>?_
 refine Runs.for (g:=PyData.int) (xs:=aW r.length) (fun pre σ=>Has σ [("_law_count", .d (.int c)),("_law_choice", .d (aa r))]/\Good c (r.take pre.length)) (cg (cR (H.ev (x := "_law_choice") rfl)) (by exact pC hl)) (fun σ0 h _=>⟨(h _ H).sub ⟨rfl,rfl,trivial⟩,by simp [Good]⟩) ?_ ?_
 ·intro pre y post hp σ hI
  refine ae (hI) fun H hg=>?_
  try clear hI
  refine ae (og hp) fun G4 hy=>?_
  subst G4
  have H1:=H.mk "_law_k" (.d (.int pre.length))
  obtain ⟨v,hv⟩:∃ v,r[pre.length]? = some v:=⟨_,List.getElem?_eq_getElem hy⟩
  refine Runs.set H1 (eI (H1.ev (x := "_law_choice") rfl) (H1.ev (x := "_law_k") rfl) (by exact nK) (by simpa using hv)) fun σ H2 _=>?_
  have ht:=sW hv
  have e:ev C (.or (.cmp .lt (.name "_law_thing") (.int 0)) (.or (.cmp .ge (.name "_law_thing") (.name "_law_count")) (.cmp .isin (.name "_law_thing") (.shi (.name "_law_choice") (.name "_law_k"))))) σ=_:=dC (lz (H2.ev (x := "_law_thing") rfl) (ak 0)) fun _=>dC (AA (H2.ev (x := "_law_thing") rfl) (H2.ev (x := "_law_count") rfl)) fun _=>rY (H2.ev (x := "_law_thing") rfl) (t9 (H2.ev (x := "_law_choice") rfl) (H2.ev (x := "_law_k") rfl) (by exact nK) (by exact EY hl hy))
  rw [show ((pre.length:Int)).toNat=pre.length from rfl] at e
  refine Runs.ite e (fun q=>?_) fun q=>Runs.nil (Runs.nil ⟨H2.sub ⟨rfl,rfl,trivial⟩,?_⟩)
  ·refine Runs.ret (cM false) ?_
   refine congrArg (fun b=>Flw.ret (sB b)) (decide_eq_false fun g=>?_).symm
   have q:v<0\/(c:Int)≤v\/v∈r.take pre.length:=by simpa using q
   have hm:=List.mem_of_getElem? hv
   rcases q with q | q | q
   ·have:=g.1 v hm; exact Br q this
   ·have:=g.1 v hm; exact Bx q this
   ·have h2:(r.take (pre.length+1)).Nodup:=g.2.sublist (List.take_sublist ..)
    rw [ht] at h2
    exact (List.nodup_append.mp h2).2.2 v q v (.head _) rfl
  ·have q:¬ (v<0\/(c:Int)≤v\/v∈r.take pre.length):=by simpa using q
   rw [List.length_append,List.length_singleton,ht]
   refine ⟨fun x hx=>?_,List.nodup_append.mpr ⟨hg.2,by simp,fun a ha b hb e=>?_⟩⟩
   ·rcases List.mem_append.mp hx with h | h
    ·exact hg.1 x h
    ·rw [List.mem_singleton.mp h]; exact EN q
   ·rw [List.mem_singleton.mp hb] at e; exact q (.inr (.inr (e▸ha)))
 ·intro σ hI
  have hg:=hI.2
  rw [bZ,List.take_length] at hg
  rw [decide_eq_true hg]
  exact Runs.ret (cM true) rfl
def Due (c:Nat) (t:List (List Int)) (d:Int):Prop:=(d=1/\t=[])\/(d=2/\t≠[]/\∃ r∈t,¬ Good c r)\/(d=3/\t≠[]/\(∀ r∈t,Good c r)/\¬ NoF c (t.map aN))\/(d=0/\t≠[]/\(∀ r∈t,Good c r)/\NoF c (t.map aN))
theorem Ap (c:Nat) (t:List (List Int)):∃ d,Due c t d:=by
 by_cases h1:t=[]
 ·exact ⟨1,.inl ⟨rfl,h1⟩⟩
 ·by_cases h2:∃ r∈t,¬ Good c r
  ·exact ⟨2,.inr (.inl ⟨rfl,h1,h2⟩)⟩
  ·have h2:∀ r∈t,Good c r:=fun r hr=>Classical.byContradiction fun q=>h2 ⟨r,hr,q⟩
   by_cases h3:NoF c (t.map aN)
   ·exact ⟨0,.inr (.inr (.inr ⟨rfl,h1,h2,h3⟩))⟩
   ·exact ⟨3,.inr (.inr (.inl ⟨rfl,h1,h2,h3⟩))⟩
theorem vR {L:List (String×Fn)}(lib:LibU L) (n:Nat) (c:Nat) (t:List (List Int)) (d:Int) (hc:c≤1000) (hr:∀ r∈t,r.length≤60) (hd:Due c t d):aH (mkC L (n+2)) l_due [.d (.int c),.d (ag t)] = .ok (sI d):=by
 unfold l_due
 refine cP rfl fun σ H=>?_
 refine Runs.ite (sm (H.ev (x := "_law_table_here") rfl) fh) (fun q=>Runs.ret (ak 1) ?_) fun q=>Runs.nil ?_
 ·have q:=of_decide_eq_true q
  rcases hd with ⟨rfl,_⟩ | ⟨_,h,_⟩ | ⟨_,h,_⟩ | ⟨_,h,_⟩
  ·rfl
  ·exact absurd q h
  ·exact absurd q h
  ·exact absurd q h
 have ht:=of_decide_eq_false q
 refine Runs.for (g:=aa) (xs:=t) (fun pre σ=>Has σ [("_law_count", .d (.int c)),("_law_table_here", .d (ag t))]/\∀ r∈pre,Good c r) (aL (H.ev (x := "_law_table_here") rfl) (aK t .sh)) (fun σ0 h _=>⟨(h _ H).sub ⟨rfl,rfl,trivial⟩,fun _ h=>nomatch h⟩) ?_ ?_
 ·intro pre y post hp σ hI
  refine ae (hI) fun H hg=>?_
  try clear hI
  have hy:y∈t:=by rw [hp]; simp
  have H1:=H.mk "_law_choice" (.d (aa y))
  refine Runs.ite (dv (cG lib.sou (al (H1.ev (x := "_law_count") rfl) (al (H1.ev (x := "_law_choice") rfl) aF)) rfl (qS _ c y (by have:=hr y hy; exact nC this)))) (fun q=>Runs.ret (ak 2) ?_) fun q=>Runs.nil (Runs.nil ⟨H1.sub ⟨rfl,rfl,trivial⟩,fun r h=>?_⟩)
  ·have q:¬ Good c y:=by simpa using q
   rcases hd with ⟨_,h⟩ | ⟨rfl,_⟩ | ⟨_,_,h,_⟩ | ⟨_,_,h,_⟩
   ·exact absurd h ht
   ·rfl
   ·exact absurd (h y hy) q
   ·exact absurd (h y hy) q
  ·rcases List.mem_append.mp h with h | h
   ·exact hg r h
   ·rw [List.mem_singleton.mp h]; simpa using q
 ·intro σ hI
  refine ae (hI) fun H hg=>?_
  try clear hI
  refine af (bU (C:=mkC L (n+2)) (σ:=σ) (g:=aa) (l:=t) (z := "_law_choice") (it:=.e (.name "_law_table_here")) (a:=.bi1 .sorted (.name "_law_choice")) aN .deep (aL (H.ev rfl) (aK t .sh)) fun r hr'=>ip ((Has.nil.mk "_law_choice" (.d (aa r))).ev rfl) (Nat.lt_of_le_of_lt (hr r hr') (by decide))) fun m1 e1 _=>?_
  have e2:=cG lib.lfault (al (H.ev (C:=mkC L (n+2)) (x := "_law_count") rfl) (al e1 aF)) rfl (pQ lib.toLib n c (t.map aN) hc fun r h=>by
   refine af (List.mem_map.mp h) fun r' h1 G5=>?_
   subst G5
   rw [(dZ r').length_eq]
   exact Nat.lt_of_le_of_lt (hr r' h1) (by decide))
  have e3:ev (mkC L (n+2)) (.cmp .isnot (.call "_law_fault" (.cons (.name "_law_count") (.cons (.comp (.bi1 .sorted (.name "_law_choice")) "_law_choice" (.e (.name "_law_table_here"))) .nil))) .none) σ = .ok (sB (cB c (t.map aN)).isSome):=by
   cases q:cB c (t.map aN) with
   | none=>rw [q] at e2; exact bp e2 iU rfl
   | some w=>rw [q] at e2; exact bp e2 iU rfl
  refine Runs.ite e3 (fun q=>Runs.ret (ak 3) ?_) fun q=>Runs.nil (Runs.ret (ak 0) ?_)
  ·rcases hd with ⟨_,h⟩ | ⟨_,_,r,h,h'⟩ | ⟨rfl,_⟩ | ⟨_,_,_,h⟩
   ·exact absurd h ht
   ·exact absurd (hg r h) h'
   ·rfl
   ·rw [fault_none.mpr h] at q; cases q
  ·rcases hd with ⟨_,h⟩ | ⟨_,_,r,h,h'⟩ | ⟨_,_,_,h⟩ | ⟨rfl,_⟩
   ·exact absurd h ht
   ·exact absurd (hg r h) h'
   ·exact absurd (fault_none.mp (Option.isNone_iff_eq_none.mp (Option.isSome_eq_false_iff.mp q))) h
   ·rfl
theorem nP {L:List (String×Fn)}(lib:LibQ L) (n:Nat) {c:Nat}{t:List (List Int)}{d:Int}(hc:c≤1000) (hl:t.length≤63) (hr:∀ r∈t,r.length≤60) (hd:Due c t d) (h0:d≠0):∃ x,bW (aG (mkC L (n+3))) p_Rule [.d (.int c),.d (ag t)] = .exc x/\((d=1/\x = "NoChoice")\/(d=2/\x = "NoThing")\/(d=3/\x = "NoExchange")):=by
 refine cJ (fC lib n c t hc hl hr) fun r1 r2 r3 _=>?_
 rcases hd with ⟨rfl,h⟩ | ⟨rfl,h,h'⟩ | ⟨rfl,h,h',h''⟩ | ⟨rfl,_⟩
 ·exact ⟨_,r1 h,.inl ⟨rfl,rfl⟩⟩
 ·exact ⟨_,r2 h h',.inr (.inl ⟨rfl,rfl⟩)⟩
 ·exact ⟨_,r3 h h' h'',.inr (.inr ⟨rfl,rfl⟩)⟩
 ·exact absurd rfl h0
theorem cA {L:List (String×Fn)}{f:String}(h:∃ g,L.lookup f=some g) (n:Nat):∃ g,mkC L (n+1) f=some g:=by
 refine ai (h) fun g hg=>?_
 try clear h
 exact ⟨_,by show (L.lookup f).map _=_; rw [hg]; rfl⟩
theorem kl {L:List (String×Fn)}(lib:LibR L) {n:Nat}{σ:St}{es:Es}{q:List (V×Mode)}{vs:List V}{o:Out (V×Mode)}(he:evs (mkC L (n+1)) es σ = .ok q) (hv:q.map (·.1)=vs) (h:bW (aG (mkC L n)) p_Rule vs=o):ev (mkC L (n+1)) (.call "Rule" es) σ=o:=by
 have hC:mkC L (n+1) "Rule" = some fun vs=>dl "Rule" (mkC L n) p_Rule vs:=by show (L.lookup "Rule").map _=_; rw [lib.rule]; rfl
 rw [gT hC he,hv]
 exact h
theorem rH {L:List (String×Fn)}(lib:LibU L) (n:Nat) {c:Nat}{t:List (List Int)}{d:Int}(hc:c≤1000) (hl:t.length≤63) (hr:∀ r∈t,r.length≤60) (hd:Due c t d):aH (mkC L (n+4)) l_told4 [.d (.int c),.d (ag t)] = .ok (sI d):=by
 refine ai (cA lib.nch (n+3)) fun g1 h1=>?_
 refine ai (cA lib.nth (n+3)) fun g2 h2=>?_
 refine ai (cA lib.nex (n+3)) fun g3 h3=>?_
 unfold l_told4
 refine cP rfl fun σ H=>?_
 have es:=al (H.ev (C:=mkC L (n+4)) (x := "_law_count") rfl) (al (H.ev (x := "_law_table_here") rfl) aF)
 by_cases h0:d=0
 ·subst h0
  refine cJ (fC lib.toLibQ n c t hc hl hr) fun _ _ _ r4=>?_
  rcases hd with ⟨h,_⟩ | ⟨h,_⟩ | ⟨h,_⟩ | ⟨_,a1,a2,a3⟩
  ·cases h
  ·cases h
  ·cases h
  refine av (r4 a1 a2 a3) fun ks x e _=>?_
  have e1:=kl lib.toLibR es rfl e
  refine Runs.cons (o:=(σ,.next)) ?_ (Runs.ret (ak 0) rfl)
  simp only [dB,cr,e1,Out.ok_bind,orH]
  rfl
 ·refine af (nP lib.toLibQ n hc hl hr hd h0) fun x e hx=>?_
  have e1:=kl lib.toLibR es rfl e
  refine Runs.cons (o:=(σ,.ret (sI d))) ?_ rfl
  rcases hx with ⟨rfl,rfl⟩ | ⟨rfl,rfl⟩ | ⟨rfl,rfl⟩
  ·simp only [dB,cr,e1,Out.exc_bind,orH,j8,fy,h1,au,if_pos (show "NoChoice" ∈ aw by decide),true_or,exN,exH,if_pos (show hOk (.int 1)=true from rfl),dH,Out.calm_ok,Out.ok_bind,if_true]
  ·simp only [dB,cr,e1,Out.exc_bind,orH,j8,fy,h1,h2,au,if_pos (show "NoChoice" ∈ aw by decide),if_pos (show "NoThing" ∈ aw by decide),true_or,exN,exH,if_pos (show hOk (.int 2)=true from rfl),dH,Out.calm_ok,Out.ok_bind,if_true,if_neg (show ¬ ("NoChoice" = "NoThing" \/ "NoChoice" = "PickError") by decide)]
  ·simp only [dB,cr,e1,Out.exc_bind,orH,j8,fy,h1,h2,h3,au,if_pos (show "NoChoice" ∈ aw by decide),if_pos (show "NoThing" ∈ aw by decide),if_pos (show "NoExchange" ∈ aw by decide),true_or,exN,exH,if_pos (show hOk (.int 3)=true from rfl),dH,Out.calm_ok,Out.ok_bind,if_true,if_neg (show ¬ ("NoChoice" = "NoExchange" \/ "NoChoice" = "PickError") by decide),if_neg (show ¬ ("NoThing" = "NoExchange" \/ "NoThing" = "PickError") by decide)]
end Mine
namespace Mine
open PySem
theorem lp {C:Calls}{σ:St}{x c t:String}{m:Mode}{g:List V->Out (V×Mode)}(hs:σ x=some (.err c,m)) (hC:C t=some g) (ht:t∈aw):ev (iu C) (.isE x t) σ = .ok (sB (decide (t=c\/t = "PickError"))):=by
 have h:iu C t=some g:=(if_pos ht).trans hC
 simp only [jx,hs,au,jC,pg,if_pos ht,h]
theorem Eg {C:Calls}{σ:St}{x c:String}{m:Mode}(hs:σ x=some (.err c,m)):ev C (.isE x "ValueError") σ = .ok (sB true):=by
 simp only [jx,hs,au,jC,pg,if_neg (show ¬ "ValueError" ∈ aw by decide),if_true]
noncomputable def ofB (bs:List Bool):PyData:=.list (bs.map .bool)
theorem CL (bs:List Bool):okc (ofB bs)=true:=(Low.list (n:=1) fun x hx=>by
 refine af (List.mem_map.mp hx) fun b _ G4=>?_
 subst G4
 exact ⟨rfl,by simp [PyData.depth]⟩).okc
theorem yd:∀ bs:List Bool,PyData.eqvAll (bs.map .bool) (bs.map .bool)=true
 | []=>by simp [PyData.eqvAll]
 | b::bs=>by rw [List.map_cons,PyData.eqvAll,yd bs]; simp [PyData.eqv]
theorem Cb (bs:List Bool):bY .eq (.d (ofB bs)) (.d (ofB bs)) = .ok true:=by
 show (if okc (ofB bs)&&okc (ofB bs) then Out.ok (PyData.eqv (ofB bs) (ofB bs)) else .bad)=_
 rw [CL,if_pos (by decide)]
 unfold ofB
 rw [PyData.eqv,yd]
theorem Fv {C:Calls}{σ:St}{a b:E}{p q:Bool}(ha:ev C a σ = .ok (sB p)) (hb:ev C b σ = .ok (sB q)):ev C (.list (.cons a (.cons b .nil))) σ = .ok (.d (ofB [p,q]),.deep):=by simp only [bv,a8,aY,ha,hb,Out.ok_bind]; rfl
theorem GQ {C:Calls}{σ:St}{a b c:E}{p q r:Bool}(ha:ev C a σ = .ok (sB p)) (hb:ev C b σ = .ok (sB q)) (hc:ev C c σ = .ok (sB r)):ev C (.list (.cons a (.cons b (.cons c .nil)))) σ = .ok (.d (ofB [p,q,r]),.deep):=by simp only [bv,a8,aY,ha,hb,hc,Out.ok_bind]; rfl
theorem F3 {C:Calls}{σ:St}{a b c d e:E}{p q r s t:Bool}(ha:ev C a σ = .ok (sB p)) (hb:ev C b σ = .ok (sB q)) (hc:ev C c σ = .ok (sB r)) (hd:ev C d σ = .ok (sB s)) (he:ev C e σ = .ok (sB t)):ev C (.list (.cons a (.cons b (.cons c (.cons d (.cons e .nil)))))) σ = .ok (.d (ofB [p,q,r,s,t]),.deep):=by simp only [bv,a8,aY,ha,hb,hc,hd,he,Out.ok_bind]; rfl
theorem vB {L:List (String×Fn)}(lib:LibU L) (n:Nat) {c:Nat}{t:List (List Int)}{d:Int}(hc:c≤1000) (hl:t.length≤63) (hr:∀ r∈t,r.length≤60) (hd:Due c t d) (h0:d≠0):aH (mkC L (n+4)) l_refused_by_any [.d (.int c),.d (ag t),.d (.int d)] = .ok (sB true):=by
 refine ai (cA lib.nch (n+3)) fun g1 h1=>?_
 refine ai (cA lib.nth (n+3)) fun g2 h2=>?_
 refine ai (cA lib.nex (n+3)) fun g3 h3=>?_
 refine ai (cA lib.nwe (n+3)) fun g4 h4=>?_
 refine ai (cA lib.nru (n+3)) fun g5 h5=>?_
 refine ai (cA lib.pick (n+3)) fun g6 h6=>?_
 unfold l_refused_by_any
 refine cP rfl fun σ H=>?_
 refine Runs.set H nA fun σ H _=>?_
 refine af (nP lib.toLibQ n hc hl hr hd h0) fun x e hx=>?_
 have e1:=kl lib.toLibR (al (H.ev (C:=mkC L (n+4)) (x := "_law_count") rfl) (al (H.ev (x := "_law_table_here") rfl) aF)) rfl e
 have H1:=(H.upd "e" (.err x) .sh)
 have s1:upd σ "e" (.err x,.sh) "e" = some (.err x,.sh):=if_pos rfl
 have f1:=GQ (lp s1 h1 (by decide)) (lp s1 h2 (by decide)) (lp s1 h3 (by decide))
 have H2:=H1.upd "_law_found" (.d (ofB [decide ("NoChoice" = x \/ "NoChoice" = "PickError"),decide ("NoThing" = x \/ "NoThing" = "PickError"),decide ("NoExchange" = x \/ "NoExchange" = "PickError")])) .deep
 generalize hσ2:upd (upd σ "e" (.err x,.sh)) "_law_found" (.d (ofB [decide ("NoChoice" = x \/ "NoChoice" = "PickError"),decide ("NoThing" = x \/ "NoThing" = "PickError"),decide ("NoExchange" = x \/ "NoExchange" = "PickError")]),.deep)=σ2 at H2
 have s2:σ2 "e" = some (.err x,.sh):=by rw [← hσ2]; exact (if_neg (by decide)).trans s1
 have f2:=Fv (dC (lp s2 h4 (by decide)) fun _=>lp s2 h5 (by decide)) (Eg (C:=iu (mkC L (n+4))) s2)
 have f3:ev (iu (mkC L (n+4))) (.bin .add (.name "_law_found") (.list (.cons (.or (.isE "e" "NoWeights") (.isE "e" "NoRule")) (.cons (.isE "e" "ValueError") .nil)))) σ2 = .ok (.d (ofB [decide ("NoChoice" = x \/ "NoChoice" = "PickError"),decide ("NoThing" = x \/ "NoThing" = "PickError"),decide ("NoExchange" = x \/ "NoExchange" = "PickError"),decide ("NoWeights" = x \/ "NoWeights" = "PickError")||decide ("NoRule" = x \/ "NoRule" = "PickError"),true]),.deep):=(cU (H2.ev (x := "_law_found") rfl) f2).trans rfl
 have H3:=H2.upd "_law_found" (.d (ofB [decide ("NoChoice" = x \/ "NoChoice" = "PickError"),decide ("NoThing" = x \/ "NoThing" = "PickError"),decide ("NoExchange" = x \/ "NoExchange" = "PickError"),decide ("NoWeights" = x \/ "NoWeights" = "PickError")||decide ("NoRule" = x \/ "NoRule" = "PickError"),true])) .deep
 generalize hσ3:upd σ2 "_law_found" _=σ3 at H3
 have H4:Has (rem σ3 "e") [("_law_found", .d (ofB [decide (d=1),decide (d=2),decide (d=3),false,true])),("_law_due_here", .d (.int d))]:=by
  have e:[decide ("NoChoice" = x \/ "NoChoice" = "PickError"),decide ("NoThing" = x \/ "NoThing" = "PickError"),decide ("NoExchange" = x \/ "NoExchange" = "PickError"),decide ("NoWeights" = x \/ "NoWeights" = "PickError")||decide ("NoRule" = x \/ "NoRule" = "PickError"),true]=[decide (d=1),decide (d=2),decide (d=3),false,true]:=by
   rcases hx with ⟨rfl,rfl⟩ | ⟨rfl,rfl⟩ | ⟨rfl,rfl⟩<;>decide
  rw [e] at H3
  have H5:Has σ3 [("_law_found", .d (ofB [decide (d=1),decide (d=2),decide (d=3),false,true])),("_law_due_here", .d (.int d))]:=H3.sub ⟨rfl,rfl,trivial⟩
  intro y v hy
  refine ai (H5 y v hy) fun m hm=>?_
  refine ⟨m,(if_neg fun q=>?_).trans hm⟩
  rw [q] at hy
  cases hy
 refine Runs.cons (o:=(rem σ3 "e", .next)) ?_ (Runs.ret (bp (H4.ev (x := "_law_found") rfl) (F3 (cz (H4.ev (x := "_law_due_here") rfl) (ak 1)) (cz (H4.ev (x := "_law_due_here") rfl) (ak 2)) (cz (H4.ev (x := "_law_due_here") rfl) (ak 3)) (cM false) (cM true)) (Cb _)) rfl)
 simp only [dB,cr,e1,Out.exc_bind,orH,j8,fy,h6,au,if_pos (show "PickError" ∈ aw by decide),or_true,if_true,exN,exH]
 rw [if_pos (show hOk _=true from rfl),f1]
 simp only [Out.calm_ok,Out.ok_bind,consume,if_true,hσ2]
 rw [if_pos (show hOk _=true from rfl),f3]
 simp only [Out.calm_ok,Out.ok_bind,consume,if_true,hσ3]
 rfl
end Mine
namespace Mine
open PySem
noncomputable def qa:Fn:=⟨[],.nil⟩
noncomputable def sw:Fn:=⟨[],.nil⟩
noncomputable def sO:Fn:=⟨[],.nil⟩
noncomputable def nS:Fn:=⟨[],.nil⟩
noncomputable def pZ:Fn:=⟨[],.nil⟩
noncomputable def uN:Fn:=⟨[],.nil⟩
noncomputable def lE:Ss:=(.cons (.assign "_law_rule" (.call "Rule" (.cons (.name "_law_count") (.cons (.name "_law_handed") .nil))))
(.cons (.assign "_law_full" (.list .nil))
(.cons (.for1 "_law_choice" (.e (.bi1 .sorted (.comp (.bi1 .sorted (.name "_law_choice")) "_law_choice" (.e (.name "_law_table_here")))))
(.cons (.ite (.cmp .notin (.name "_law_choice") (.name "_law_full"))
(.cons (.append "_law_full" (.name "_law_choice"))
.nil)
.nil)
.nil))
(.cons (.ite (.or (.not (.call "_law_whole" (.cons (.attr (.name "_law_rule") "count") .nil))) (.or (.cmp .ne (.attr (.name "_law_rule") "count") (.name "_law_count")) (.not (.call "_law_rows_are" (.cons (.attr (.name "_law_rule") "full") (.cons (.name "_law_full") .nil))))))
(.cons (.ret (.bool false))
.nil)
.nil)
(.cons (.assign "_law_again" (.call "Rule" (.cons (.name "_law_count") (.cons (.attr (.name "_law_rule") "full") .nil))))
(.cons (.appF "_law_again" (.cons (.int 0) .nil) (.name "_law_count"))
(.cons (.appendAt "_law_handed" (.cons (.int 0) .nil) (.name "_law_count"))
(.cons (.append "_law_handed" (.list .nil))
(.cons (.ret (.and (.call "_law_whole" (.cons (.attr (.name "_law_rule") "size") .nil)) (.and (.cmp .eq (.attr (.name "_law_rule") "size") (.bi1 .len (.sub (.name "_law_full") (.int 0)))) (.call "_law_rows_are" (.cons (.attr (.name "_law_rule") "full") (.cons (.name "_law_full") .nil))))))
.nil)))))))))
noncomputable def rz:Fn:=⟨["_law_script"],
(.cons (.assign "_law_made" (.call "_law_table" (.cons (.name "_law_script") .nil)))
(.cons (.assign "_law_count" (.sub (.name "_law_made") (.int 0)))
(.cons (.assign "_law_table_here" (.comp (.bi1 .list (.name "_law_choice")) "_law_choice" (.e (.sub (.name "_law_made") (.int 1)))))
(.cons (.assign "_law_turn" (.call "_law_cell_at" (.cons (.name "_law_script") (.cons (.int 2) .nil))))
(.cons (.ite (.cmp .eq (.bin .mod (.name "_law_turn") (.int 2)) (.int 1))
(.cons (.assign "_law_table_here" (.comp (.rev (.name "_law_choice")) "_law_choice" (.e (.name "_law_table_here"))))
.nil)
.nil)
(.cons (.ite (.cmp .eq (.bin .mod (.bin .fdiv (.name "_law_turn") (.int 2)) (.int 2)) (.int 1))
(.cons (.assign "_law_table_here" (.rev (.name "_law_table_here")))
.nil)
.nil)
(.cons (.assign "_law_kind" (.bin .mod (.call "_law_cell_at" (.cons (.name "_law_script") (.cons (.int 3) .nil))) (.int 9)))
(.cons (.assign "_law_place" (.call "_law_cell_at" (.cons (.name "_law_script") (.cons (.int 4) .nil))))
(.cons (.assign "_law_table_here" (.call "_law_spoilt" (.cons (.name "_law_table_here") (.cons (.name "_law_count") (.cons (.name "_law_kind") (.cons (.name "_law_place") (.cons (.call "_law_cell_at" (.cons (.name "_law_script") (.cons (.int 5) .nil))) .nil)))))))
(.cons (.assign "_law_handed" (.comp (.bi1 .list (.name "_law_choice")) "_law_choice" (.e (.name "_law_table_here"))))
(.cons (.assign "_law_due_here" (.call "_law_due" (.cons (.name "_law_count") (.cons (.name "_law_table_here") .nil))))
(.cons (.ite (.or (.cmp .ne (.call "_law_told" (.cons (.name "_law_count") (.cons (.name "_law_handed") .nil))) (.name "_law_due_here")) (.cmp .ne (.name "_law_handed") (.name "_law_table_here")))
(.cons (.ret (.bool false))
.nil)
.nil)
(.cons (.ite (.cmp .gt (.name "_law_due_here") (.int 0))
(.cons (.ret (.and (.call "_law_refused_by_any" (.cons (.name "_law_count") (.cons (.name "_law_handed") (.cons (.name "_law_due_here") .nil)))) (.cmp .eq (.attr (.call "Rule" (.cons (.name "_law_count") (.cons (.list (.cons (.list .nil) .nil)) .nil))) "full") (.list (.cons (.list .nil) .nil)))))
.nil)
.nil)
  lE)))))))))))))⟩
noncomputable def p_L:List (String×Fn):=[("PickError", qa),("NoChoice", sw),("NoThing", sO),("NoExchange", nS),("NoWeights", pZ),("NoRule", uN),("exchanged", p_exchanged),("known_of", p_known_of),("goes", p_goes),("fault", p_fault),("need_row", p_need_row),("Rule", p_Rule),("_law_cell_at", l_cell_at),("_law_whole", l_whole),("_law_row_is", l_row_is4),("_law_rows_are", l_rows_are4),("_law_subsets", l_subsets),("_law_apart", l_apart),("_law_parts", l_parts),("_law_few", l_few),("_law_pairs_by", l_pairs_by),("_law_table", l_table),("_law_can", l_can),("_law_fault", l_fault),("_law_spoilt", l_spoilt),("_law_sound", l_sound),("_law_due", l_due),("_law_told", l_told4),("_law_refused_by_any", l_refused_by_any),("law", rz)]
theorem libU:LibU p_L:=⟨⟨⟨⟨rfl,rfl,rfl,rfl,rfl,rfl,rfl,rfl,rfl,rfl,rfl,rfl,rfl,rfl⟩,rfl,rfl,⟨_,rfl⟩⟩,⟨_,rfl⟩,⟨_,rfl⟩⟩,⟨_,rfl⟩,⟨_,rfl⟩,⟨_,rfl⟩,rfl,rfl,rfl,rfl,rfl,rfl,rfl⟩
theorem Runs.setD {C:Calls}{σ:St}{l:List (String×V)}{e:E}{r:V×Mode}{x:String}{b:Ss}{Post:St->Flw->Prop}(H:Has σ l) (he:ev C e σ = .ok r) (hd:r.2 = .deep) (k:∀ σ',Has σ' ((x,r.1)::l)->σ' x=some r->(∀ y,y≠x->σ' y=σ y)->Runs C b σ' Post):Runs C (.cons (.assign x e) b) σ Post:=by
 refine Runs.cons (o:=(upd (consume σ (fv e) r.2) x r,.next)) (by simp only [cf,iQ he,Out.ok_bind]) (k _ ((H.consume _ _).upd x r.1 r.2) (if_pos rfl) fun y hy=>(if_neg hy).trans ?_)
 unfold consume
 rw [if_pos hd]
theorem Runs.appS {C:Calls}{σ:St}{l:List (String×V)}{z y:String}{t:List (List Int)}{xs:List Int}{m:Mode}{bb:Ss}{Post:St->Flw->Prop}(H:Has σ l) (hz:σ z=some (.d (ag t),m)) (hm:m≠.sh) (hy:l.lookup y=some (.d (aa xs))) (hyz:z≠y) (hl:t.length<1000000) (k:∀ σ',Has σ' ((z,.d (ag (t++[xs])))::l)->σ' z=some (.d (ag (t++[xs])),.top)->(∀ w,w≠z->w≠y->σ' w=σ w)->Runs C bb σ' Post):Runs C (.cons (.append z (.name y)) bb) σ Post:=by
 have e:(t.map aa)++[aa xs]=(t++[xs]).map aa:=by rw [List.map_append]; rfl
 refine Runs.cons (o:=(upd (demote σ [y]) z (.d (ag (t++[xs])),.top),.next)) ?_ (k _ ((H.demote _).upd z _ .top) (if_pos rfl) fun w h1 h2=>(if_neg h1).trans (if_neg fun h=>h2 (List.mem_singleton.mp h)))
 have he:ev C (.name y) σ = .ok (.d (aa xs),.sh):=H.ev hy
 simp only [eZ,he,Out.calm_ok,Out.ok_bind,hz,iW,if_neg hm]
 unfold il
 rw [if_pos (by rw [List.length_append,List.length_map]; exact hl),if_neg (by decide),dD,if_neg (fun h=>hyz (List.mem_singleton.mp h)),e]
 rfl
theorem xS {C:Calls}{σ:St}{v:List (List Int)}{y:List Int}{n:Int}(h0:v[0]? = some y) (hy:y.length≤1000):evP C (ag v) (.cons (.int 0) .nil) σ = .ok ([0],aa y)/\modP (.int n) [0] (ag v)=some (ag (v.set 0 (y++[n]))):=by
 have hv0:0<v.length:=by
  cases v with
  | nil=>cases h0
  | cons a v=>simp
 have hi:ba 0 (v.map aa).length=some 0:=by
  rw [List.length_map]
  unfold ba
  rw [if_pos (Int.le_refl 0)]
  rw [if_pos (by exact la3 hv0)]; rfl
 have hx:(v.map aa)[0]? = some (aa y):=by rw [List.getElem?_map,h0]; rfl
 constructor
 ·show (Out.ok (([]:List Int),ag v)).bind _=_
  simp only [Out.ok_bind,dH]
  show au (kq (ag v) 0) _=_
  have:kq (ag v) 0=some (aa y):=by
   show ((ba 0 (v.map aa).length).bind fun k=>(v.map aa)[k]?)=_
   rw [hi]; exact hx
  rw [this]; rfl
 ·show ((ba 0 (v.map aa).length).bind fun j=>((v.map aa)[j]?).bind fun e=>(modP (.int n) [] e).map fun e'=>PyData.list ((v.map aa).set j e'))=_
  rw [hi]
  show ((v.map aa)[0]?).bind _=_
  rw [hx]
  show Option.map _ (if (y.map PyData.int).length<lim then some (PyData.list (y.map PyData.int++[.int n])) else none)=_
  rw [if_pos (by rw [List.length_map]; unfold lim; exact Cp hy)]
  unfold ag
  rw [List.map_set]
  show some (PyData.list ((v.map aa).set 0 (.list (y.map PyData.int++[.int n]))))=_
  unfold aa
  rw [List.map_append]; rfl
theorem Runs.appF0 {C:Calls}{g:List V->Out (V×Mode)}{σ:St}{l:List (String×V)}{z w:String}{c k n:Int}{v:List (List Int)}{y:List Int}{bb:Ss}{Post:St->Flw->Prop}(hC:C "Rule" = some g) (H:Has σ l) (hz:σ z=some (.rule c (ag v) k,.deep)) (h0:v[0]? = some y) (hy:y.length≤1000) (hn:l.lookup w=some (.d (.int n)))
  (kk:∀ σ',Has σ' ((z,.rule c (ag (v.set 0 (y++[n]))) k)::l)->(∀ w,w≠z->σ' w=σ w)->Runs C bb σ' Post):Runs C (.cons (.appF z (.cons (.int 0) .nil) (.name w)) bb) σ Post:=by
 refine ae (xS (C:=C) (σ:=σ) (n:=n) h0 hy) fun e1 e2=>?_
 have hcn:ev C (.name w) σ = .ok (sI n):=H.ev hn
 refine Runs.next (σ':=upd σ z (.rule c (ag (v.set 0 (y++[n]))) k,.deep)) ?_ (kk _ (H.upd z _ .deep) fun w hw=>if_neg hw)
 simp only [gX,hz,hC,au,iN,e1,Out.calm_ok,Out.ok_bind,hcn]
 show (if sx (.int n)=true then au (modP (.int n) [0] (ag v)) _ else Out.bad)=_
 rw [if_pos (show sx (.int n)=true from rfl),e2]; rfl
theorem Runs.appA0 {C:Calls}{σ:St}{l:List (String×V)}{z w:String}{n:Int}{v:List (List Int)}{y:List Int}{bb:Ss}{Post:St->Flw->Prop}(H:Has σ l) (hz:σ z=some (.d (ag v),.deep)) (h0:v[0]? = some y) (hy:y.length≤1000) (hn:l.lookup w=some (.d (.int n)))
  (kk:∀ σ',Has σ' ((z,.d (ag (v.set 0 (y++[n]))))::l)->σ' z=some (.d (ag (v.set 0 (y++[n]))),.deep)->Runs C bb σ' Post):Runs C (.cons (.appendAt z (.cons (.int 0) .nil) (.name w)) bb) σ Post:=by
 refine ae (xS (C:=C) (σ:=σ) (n:=n) h0 hy) fun e1 e2=>?_
 have hcn:ev C (.name w) σ = .ok (sI n):=H.ev hn
 refine Runs.next (σ':=upd σ z (.d (ag (v.set 0 (y++[n]))),.deep)) ?_ (kk _ (H.upd z _ .deep) (if_pos rfl))
 simp only [dS,hz,au,asD,e1,Out.calm_ok,Out.ok_bind,hcn]
 show (if sx (.int n)=true then au (modP (.int n) [0] (ag v)) _ else Out.bad)=_
 rw [if_pos (show sx (.int n)=true from rfl),e2]; rfl
theorem jN:∀ t:List (List Int),fF (t.map aa)=some t
 | []=>rfl
 | r::t=>by
  rw [List.map_cons]
  show (aS (r.map PyData.int)).bind _=_
  rw [d0,Option.bind_some,jN t]; rfl
theorem yu {C:Calls}{σ:St}{a:E}{t:List (List Int)}{m:Mode}(ha:ev C a σ = .ok (.d (ag t),m)) (h0:t≠[]) (h:t.length<64):∃ m,ev C (.bi1 .sorted a) σ = .ok (.d (ag (az t)),m):=by
 refine ⟨fresh ((az t).map aa),(eG ha).trans ?_⟩
 show dM (t.map aa)=_
 unfold dM
 have hi:aS (t.map aa)=none/\du (t.map aa)=none:=by
  cases t with
  | nil=>exact absurd rfl h0
  | cons k ks=>exact ⟨rfl,rfl⟩
 rw [if_pos (by rw [List.length_map]; exact h),hi.1]
 show dG _=_
 unfold dG
 rw [hi.2]
 show au (fF (t.map aa)) _=_
 rw [jN]; rfl
theorem wT (xs:List Int) (t:List (List Int)):bY .notin (.d (aa xs)) (.d (ag t)) = .ok (!decide (xs∈t)):=by
 show ((inV (aa xs) (.d (ag t))).bind fun b=>Out.ok (!b))=_
 rw [pE]; rfl
theorem td (n:Nat) (c:Nat) (u:List (List Int)) (σ:St) (hc:c≤1000) (hl:u.length≤63) (hr:∀ r∈u,r.length≤60) (hd:Due c u 0) (H:Has σ [("_law_count", .d (.int c)),("_law_table_here", .d (ag u)),("_law_handed", .d (ag u))]) (hh:σ "_law_handed" = some (.d (ag u),.deep)) :
  Runs (mkC p_L (n+4)) lE σ (fun _ fl=>fl = .ret (sB true)):=by
 refine ai (cA (L:=p_L) (f := "Rule") ⟨_,libU.rule⟩ (n+3)) fun gR hRu=>?_
 rcases hd with ⟨h,_⟩ | ⟨h,_⟩ | ⟨h,_⟩ | ⟨_,hu,hg,nf⟩
 ·cases h
 ·cases h
 ·cases h
 refine f8 ((fC libU.toLibQ n c u hc hl hr).2.2.2 hu hg nf) fun ks x er hx k2 k3 k1=>?_
 have hks:∀ r∈ks,Srt c r/\r.length≤60:=fun r h=>by
  refine af (List.mem_map.mp ((k2 r).mp h)) fun r' h1 G4=>?_
  subst G4
  exact ⟨(hg r' h1).srt,by rw [(dZ r').length_eq]; exact hr r' h1⟩
 have hxs:x∈az ks:=List.mem_of_getElem? hx
 unfold lE
 refine Runs.setD H (l6 libU.toLibR (al (H.ev (x := "_law_count") rfl) (al (H.ev (x := "_law_handed") rfl) aF)) rfl er) rfl fun σ H hru kp=>?_
 replace hh:=(kp _ (by decide)).trans hh
 clear kp
 refine Runs.setD H fh rfl fun σ H hf kp=>?_
 replace hh:=(kp _ (by decide)).trans hh
 replace hru:=(kp _ (by decide)).trans hru
 clear kp
 refine af (bU (C:=mkC p_L (n+4)) (σ:=σ) (g:=aa) (l:=u) (z := "_law_choice") (it:=.e (.name "_law_table_here")) (a:=.bi1 .sorted (.name "_law_choice")) aN .deep (aL (H.ev rfl) (aK u .sh)) fun r hr'=>ip ((Has.nil.mk "_law_choice" (.d (aa r))).ev rfl) (Nat.lt_of_le_of_lt (hr r hr') (by decide))) fun m1 e1 _=>?_
 obtain ⟨m2,e2⟩:=yu e1 (by simpa using hu) (by rw [List.length_map]; exact BM hl)
 have sl:(az (u.map aN)).length≤63:=by rw [fX,List.length_map]; exact hl
 refine Runs.for (g:=aa) (xs:=az (u.map aN)) (fun pre σ=>∃ f m,Has σ [("_law_count", .d (.int c)),("_law_full", .d (ag f)),("_law_rule", .rule c (ag (az ks)) x.length),("_law_handed", .d (ag u))]/\σ "_law_handed" = some (.d (ag u),.deep)/\σ "_law_full" = some (.d (ag f),m)/\m≠.sh/\f.Nodup/\(∀ r,r∈f↔r∈pre)/\f.Sublist pre) (aL e2 (aK _ m2)) (fun σ0 h hn=>?_) ?_ ?_
 ·have f1 : "_law_handed" ∉ bx (.e (.bi1 .sorted (.comp (.bi1 .sorted (.name "_law_choice")) "_law_choice" (.e (.name "_law_table_here"))))):=by simp [fg,lH,kB,dD]
  have f2 : "_law_full" ∉ bx (.e (.bi1 .sorted (.comp (.bi1 .sorted (.name "_law_choice")) "_law_choice" (.e (.name "_law_table_here"))))):=by simp [fg,lH,kB,dD]
  exact ⟨[],.deep,(h _ H).sub ⟨rfl,rfl,rfl,rfl,trivial⟩,(hn _ f1).trans hh,(hn _ f2).trans hf,by decide,.nil,fun _=>Iff.rfl,.slnil⟩
 ·intro pre y post hp σ hI
  refine k9 (hI) fun f m H h1 h2 h3 h4 h5 h6=>?_
  try clear hI
  have H1:=H.mk "_law_choice" (.d (aa y))
  refine Runs.ite (bp (H1.ev (x := "_law_choice") rfl) (H1.ev (x := "_law_full") rfl) (wT y f)) (fun q=>?_) fun q=>Runs.nil (Runs.nil ?_)
  ·have q:y∉f:=by simpa using q
   have fl:f.length<1000000:=by
    have:=h6.length_le
    have:pre.length≤(az (u.map aN)).length:=by rw [hp]; simp
    exact EZ sl (by assumption) this
   refine Runs.appS H1 (t:=f) (m:=m) ((if_neg (by decide)).trans h2) h3 rfl (by decide) fl fun σ' H2 hs kp=>Runs.nil (Runs.nil ⟨f++[y],.top,H2.sub ⟨rfl,rfl,rfl,rfl,trivial⟩,(kp _ (by decide) (by decide)).trans ((if_neg (by decide)).trans h1),hs,by decide,?_,fun r=>?_,?_⟩)
   ·exact List.nodup_append.mpr ⟨h4,by simp,fun a ha b hb e=>q (by rw [List.mem_singleton.mp hb] at e; exact e▸ha)⟩
   ·rw [List.mem_append,List.mem_append,h5 r]
   ·exact h6.append (List.Sublist.refl _)
  ·have q:y∈f:=by simpa using q
   refine ⟨f,m,H1.sub ⟨rfl,rfl,rfl,rfl,trivial⟩,(if_neg (by decide)).trans h1,(if_neg (by decide)).trans h2,h3,h4,fun r=>?_,?_⟩
   ·rw [List.mem_append,← h5 r,List.mem_singleton]
    exact ⟨.inl,fun h=>h.elim id fun e=>e▸q⟩
   ·exact h6.trans (List.sublist_append_left _ _)
 ·intro σ hI
  refine k9 (hI) fun f m H h1 _ _ h4 h5 h6=>?_
  try clear hI
  have ef:f=az ks:=by
   have p:f.Perm (az ks):=(List.perm_ext_iff_of_nodup h4 ((List.mergeSort_perm ks _).nodup_iff.mpr k3)).mpr fun r=>by
    exact (h5 r).trans ((bR _ r).trans ((k2 r).symm.trans (bR ks r).symm))
   exact jf p ((jW _).sublist h6) (jW _)
  subst ef
  have ra:∀ {σ:St}{l:List (String×V)},Has σ l->l.lookup "_law_full" = some (.d (ag (az ks)))->l.lookup "_law_rule" = some (.rule c (ag (az ks)) x.length)->ev (mkC p_L (n+4)) (.call "_law_rows_are" (.cons (.attr (.name "_law_rule") "full") (.cons (.name "_law_full") .nil))) σ = .ok (sB true):=fun H a b=>
   cG libU.rowsAre (al (fH hRu (H.ev b)).2.1 (al (H.ev a) aF)) rfl (uj libU (n+1) (az ks) (by rw [fX]; exact xc hl k1) fun r h=>by have:=(hks r ((bR ks r).mp h)).2; exact nC this)
  refine Runs.no (dC (p:=false) (q:=false) (dv (t:=true) (cG libU.whole (al (fH hRu (H.ev (x := "_law_rule") rfl)).1 aF) rfl (iv _ c))) fun _=>dC (p:=false) (q:=false) ((iH (fH hRu (H.ev (x := "_law_rule") rfl)).1 (H.ev (x := "_law_count") rfl)).trans (by simp)) fun _=>dv (t:=true) (ra H rfl rfl)) ?_
  have hs0:az ks≠[]:=fun q=>by rw [q] at hxs; cases hxs
  have hsr:∀ r∈az ks,Srt c r/\r.length≤60:=fun r h=>hks r ((bR ks r).mp h)
  have hmap:∀ r,r∈(az ks).map aN↔r∈u.map aN:=fun r=>by
   have:(az ks).map aN=az ks:=(List.map_congr_left fun r h=>oA (hsr r h).1.1).trans (List.map_id _)
   rw [this,bR,k2 r]
  obtain ⟨ks2,x2,er2,hx2,q2,q3,q1⟩:=(fC libU.toLibQ n c (az ks) hc (by rw [fX]; exact Bk hl k1) fun r h=>(hsr r h).2).2.2.2 hs0 (fun r h=>(hsr r h).1.good) (nf.set fun r=>(hmap r).symm)
  refine Runs.setD H (l6 libU.toLibR (al (H.ev (x := "_law_count") rfl) (al (fH hRu (H.ev (x := "_law_rule") rfl)).2.1 aF)) rfl er2) rfl fun σ H ha kp=>?_
  replace h1:=(kp _ (by decide)).trans h1
  clear kp
  have hx2l:x2.length≤60:=by
   have:=(q2 x2).mp ((bR ks2 x2).mp (List.mem_of_getElem? hx2))
   exact (hks x2 ((k2 x2).mpr ((hmap x2).mp this))).2
  refine Runs.appF0 hRu H ha hx2 (by exact nC hx2l) (w := "_law_count") rfl fun σ H kp=>?_
  replace h1:=(kp _ (by decide)).trans h1
  clear kp
  obtain ⟨y,hy⟩:∃ y,u[0]? = some y:=⟨_,List.getElem?_eq_getElem (List.length_pos_iff.mpr hu)⟩
  refine Runs.appA0 H h1 hy (by have:=hr y (List.mem_of_getElem? hy); exact nC this) (w := "_law_count") rfl fun σ H h1=>?_
  refine Runs.appR H h1 (by decide) nA (by rw [List.length_set]; exact E9 hl) fun σ H _ _=>?_
  refine Runs.ret (eW (p:=true) (q:=true) (cG libU.whole (al (fH hRu (H.ev (x := "_law_rule") rfl)).2.2 aF) rfl (iv _ x.length)) fun _=>eW (p:=true) (q:=true) ((cz (fH hRu (H.ev (x := "_law_rule") rfl)).2.2 (cR (je (H.ev (x := "_law_full") rfl) (ak 0) (by decide) hx))).trans (by simp)) fun _=>ra H rfl rfl) rfl
theorem zO {C:Calls}{σ:St}{a:E}{xs:List Int}{m:Mode}(ha:ev C a σ = .ok (.d (aa xs),m)):ev C (.rev a) σ = .ok (.d (aa xs.reverse),.deep):=by
 simp only [jq,ha,Out.ok_bind]
 show Out.ok (V.d (.list (xs.map PyData.int).reverse),fresh (xs.map PyData.int).reverse)=_
 rw [← List.map_reverse,eQ]; rfl
theorem wN (s:List Int) (hs:s.length≤63):∃ m,aH (mkC p_L 5) rz [.d (aa s)] = .ok (.d (.bool true),m):=by
 refine ⟨.deep,?_⟩
 unfold rz
 refine cP rfl fun σ H=>?_
 obtain ⟨oq,e1,c,t,hr,h0,hc,hl,hrow⟩:=eN (σ:=σ) (n:=4) libU.table (es:=.cons (.name "_law_script") .nil) (al (H.ev rfl) aF) rfl (r7 libU.toLib 1 s hs)
 obtain ⟨rv,rm⟩:=oq
 cases hr
 refine ai (Int.eq_ofNat_of_zero_le h0) fun c G5=>?_
 subst G5
 have hr:∀ r∈t,r.length≤12:=fun r h=>(hrow r h).1
 clear hrow h0
 refine Runs.set H e1 fun σ H _=>?_
 refine Runs.set H (xg (m:=.sh) (H.ev (x := "_law_made") rfl) (ak 0)) fun σ H _=>?_
 refine af (bU (C:=mkC p_L 5) (σ:=σ) (g:=aa) (l:=t) (z := "_law_choice") (it:=.e (.sub (.name "_law_made") (.int 1))) (a:=.bi1 .list (.name "_law_choice")) (fun r=>r) .deep (aL (xI (m:=.sh) (H.ev (x := "_law_made") rfl) (ak 1)) (aK t .sh)) fun r _=>iI ((Has.nil.mk "_law_choice" (.d (aa r))).ev rfl)) fun m1 e2 _=>?_
 rw [List.map_id'] at e2
 refine Runs.set H e2 fun σ H _=>?_
 refine Runs.set H (bV libU.toLib (H.ev (x := "_law_script") rfl) (ak 2) (by decide)) fun σ H _=>?_
 let l0:=fun t:List (List Int)=>[("_law_table_here", V.d (ag t)),("_law_turn", V.d (.int (bk s 2))),("_law_count", .d (.int c)),("_law_script", .d (aa s))]
 refine Runs.iteTo (fun σ=>∃ t:List (List Int),Has σ (l0 t)/\t.length≤62/\∀ r∈t,r.length≤12) (cz (aV (H.ev (x := "_law_turn") rfl) (ak 2) (by decide)) (ak 1)) (fun _=>?_) (fun _=>Runs.nil ⟨rfl,t,H.sub ⟨rfl,rfl,rfl,rfl,trivial⟩,hl,hr⟩) fun σ hI=>?_
 ·refine af (bU (C:=mkC p_L 5) (σ:=σ) (g:=aa) (l:=t) (z := "_law_choice") (it:=.e (.name "_law_table_here")) (a:=.rev (.name "_law_choice")) (fun r=>r.reverse) .deep (aL (H.ev (x := "_law_table_here") rfl) (aK t .sh)) fun r _=>zO ((Has.nil.mk "_law_choice" (.d (aa r))).ev rfl)) fun m3 e3 _=>?_
  refine Runs.set H e3 fun σ H _=>Runs.nil ⟨rfl,_,H.sub ⟨rfl,rfl,rfl,rfl,trivial⟩,by rw [List.length_map]; exact hl,fun r h=>?_⟩
  refine af (List.mem_map.mp h) fun r' h' G6=>?_
  subst G6
  rw [List.length_reverse]; exact hr r' h'
 clear hl hr H
 refine ao (hI) fun t H hl hr=>?_
 try clear hI
 refine Runs.iteTo (fun σ=>∃ t:List (List Int),Has σ (l0 t)/\t.length≤62/\∀ r∈t,r.length≤12) (cz (aV (fb (H.ev (x := "_law_turn") rfl) (ak 2) (by decide) (by decide)) (ak 2) (by decide)) (ak 1)) (fun _=>?_) (fun _=>Runs.nil ⟨rfl,t,H,hl,hr⟩) fun σ hI=>?_
 ·refine ai (z9 (H.ev (C:=mkC p_L 5) (x := "_law_table_here") rfl)) fun m3 e3=>?_
  exact Runs.set H e3 fun σ H _=>Runs.nil ⟨rfl,_,H.sub ⟨rfl,rfl,rfl,rfl,trivial⟩,by rw [List.length_reverse]; exact hl,fun r h=>hr r (List.mem_reverse.mp h)⟩
 clear hl hr H
 refine ao (hI) fun t H hl hr=>?_
 try clear hI
 refine Runs.set H (aV (bV libU.toLib (H.ev (x := "_law_script") rfl) (ak 3) (by decide)) (ak 9) (by decide)) fun σ H _=>?_
 refine Runs.set H (bV libU.toLib (H.ev (x := "_law_script") rfl) (ak 4) (by decide)) fun σ H _=>?_
 obtain ⟨oq,e4,u,hu,ul,ur⟩:=eN (σ:=σ) (n:=4) libU.spo (al (H.ev (x := "_law_table_here") rfl) (al (H.ev (x := "_law_count") rfl) (al (H.ev (x := "_law_kind") rfl) (al (H.ev (x := "_law_place") rfl) (al (bV libU.toLib (H.ev (x := "_law_script") rfl) (ak 5) (by decide)) aF))))) rfl (pW (mkC p_L 4) c t (bk s 3%9) (bk s 4) (bk s 5) hl hr)
 obtain ⟨rv,rm⟩:=oq
 cases hu
 refine Runs.set H e4 fun σ H _=>?_
 have hc:c≤1000:=by exact C2 hc
 have hr:∀ r∈u,r.length≤60:=fun r h=>by have:=ur r h; exact A9 this
 refine ai (Ap c u) fun d hd=>?_
 refine ao (bU (C:=mkC p_L 5) (σ:=σ) (g:=aa) (l:=u) (z := "_law_choice") (it:=.e (.name "_law_table_here")) (a:=.bi1 .list (.name "_law_choice")) (fun r=>r) .deep (aL (H.ev (x := "_law_table_here") rfl) (aK u .sh)) fun r _=>iI ((Has.nil.mk "_law_choice" (.d (aa r))).ev rfl)) fun m5 e5 hm5 _=>?_
 rw [List.map_id',hm5 rfl] at e5
 refine Runs.setD H e5 rfl fun σ H hh _=>?_
 refine Runs.setD H (cG libU.due (al (H.ev (x := "_law_count") rfl) (al (H.ev (x := "_law_table_here") rfl) aF)) rfl (vR libU 2 c u d hc hr hd)) rfl fun σ H _ kp=>?_
 replace hh:=(kp _ (by decide)).trans hh
 clear kp
 refine Runs.no (dC (p:=false) (q:=false) ((iH (cG libU.told (al (H.ev (x := "_law_count") rfl) (al (H.ev (x := "_law_handed") rfl) aF)) rfl (rH libU 0 hc ul hr hd)) (H.ev (x := "_law_due_here") rfl)).trans (by simp)) fun _=>(Bi (H.ev (x := "_law_handed") rfl) (H.ev (x := "_law_table_here") rfl)).trans (by simp)) ?_
 refine Runs.ite (oG (H.ev (x := "_law_due_here") rfl) (ak 0)) (fun q=>?_) fun q=>Runs.nil ?_
 ·have q:=of_decide_eq_true q
  have hd0:d≠0:=by exact BB q
  refine ai (cA (L:=p_L) (f := "Rule") ⟨_,libU.rule⟩ 4) fun gR hRu=>?_
  obtain ⟨ks,x,er,hx,k2,k3,k1⟩:=(fC libU.toLibQ 1 c [[]] hc (by decide) (by simp)).2.2.2 (by simp) (by simp [Good]) (by rw [List.map_singleton]; exact NoF.one c _)
  have hks:az ks=[[]]:=by
   have m:∀ r,r∈ks↔r=[]:=fun r=>by
    rw [k2 r,List.map_singleton,List.mem_singleton,oA .nil]
   have:ks=[[]]:=by
    rcases ks with _ | ⟨a,_ | ⟨b,ks⟩⟩
    ·have:=(m []).mpr rfl; cases this
    ·rw [(m a).mp (.head _)]
    ·have:=(m a).mp (.head _)
     have:=(m b).mp (.tail _ (.head _))
     subst_vars
     simp at k3
   rw [this]
   exact (List.mergeSort_perm [[]] _).eq_singleton
  rw [hks] at er
  have e6:ev (mkC p_L 5) (.call "Rule" (.cons (.name "_law_count") (.cons (.list (.cons (.list .nil) .nil)) .nil))) σ=_:=l6 libU.toLibR (al (H.ev (x := "_law_count") rfl) (al ji aF)) rfl er
  refine Runs.ret (eW (p:=true) (q:=true) (cG libU.refu (al (H.ev (x := "_law_count") rfl) (al (H.ev (x := "_law_handed") rfl) (al (H.ev (x := "_law_due_here") rfl) aF))) rfl (vB libU 0 hc ul hr hd hd0)) fun _=>(sm (fH hRu e6).2.1 ji).trans (by simp)) rfl
 ·have q:=of_decide_eq_false q
  have hd0:d=0:=by
   rcases hd with ⟨rfl,_⟩ | ⟨rfl,_⟩ | ⟨rfl,_⟩ | ⟨rfl,_⟩
   ·exact absurd (by decide) q
   ·exact absurd (by decide) q
   ·exact absurd (by decide) q
   ·rfl
  subst hd0
  exact td 1 c u σ hc ul hr hd (H.sub ⟨rfl,rfl,rfl,trivial⟩) hh
end Mine
set_option tactic.hygienic true
open PySem PySem.W PyProof.Rows
set_option maxRecDepth 100000
set_option maxHeartbeats 8000000
theorem PySem.Challenge.cw_uf050037_04_holds : PySem.Challenge.rw_uf050037_04.Holds := by
  w_on
  refine holds_law (by
    unfold OpenLaw.wellSaid
    iterate 18 (refine look_both ?_ ?_)
    · unfold OpenRow.wellSaid
      iterate 2 (refine look_both ?_ ?_)
      · unfold OpenRow.partSaid
        iterate 12 (refine look_both ?_ ?_)
        · unfold looksOpen
          iterate 5 (refine look_both ?_ ?_)
          all_goals decide +kernel
        all_goals decide +kernel
      all_goals decide +kernel
    all_goals decide +kernel) fun said=>?_
  o_head (Mine.Gx (Mine.bq Mine.p_L)); (case hw=>w_witness2)
  intro w s₀ s₁ mg mb G Y fa o pm cd doc dV kV ho hd hcd hD hmg hg args vals as hpre hlay hrd hwl hlo
  refine Ground.open G ?_
  intro T B D TE TW
  clear hd hcd hD
  wrow_args hpre hlay hrd hwl hlo
  rename_i ns _ _ _ _ _ _ _ a vs _ hL ra w1 r0 hI hr hc1 hc2
  have e:=Mine.rF (by simpa only [ofPy] using w1) hL
  obtain ⟨m,hsp⟩:=Mine.wN ns (by omega)
  refine Mine.vX (n:=5) (ns:=ns) T TE Y (L:=Mine.p_L) (by kernel_rfl) (by kernel_rfl) (by kernel_rfl) rfl (.inr (by decide)) rfl hmg (by decide) hsp e hI (by omega) fun h' tk kk=>?_
  refine ⟨.inl ⟨_,.bool true,[],rfl,?_,?_,?_,?_⟩,kk,rfl,.of_eq hg⟩
  · intro cls; first | rfl | exact raisesW_false allW_false_nil
  · exact .bool true
  · wrow_post
  · exact fun _=>⟨.nil,fun _ h=>nomatch h⟩
