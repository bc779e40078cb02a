import PyProof.Rows.All
import Wide.All
import Wide.FinOn
import Open.Line
import PyProof.P3Statements
import PyProof.Lay0
import PyProof.P3In
import PyProof.NeData
import PyProof.CompFree
import PyProof.DictRoadsH
import PyProof.DictWalks
import PyProof.Rows.SortShell
import PyProof.Rows.RuleB_xor
import PyProof.Rows.RuleB_small
import PyProof.Rows.RuleB_floordiv
import PyProof.Rows.RuleB_mod
import PyProof.Rows.RuleB_mul
import PyProof.Rows.IntRules
import PyProof.Rows.RuleC_int
import PyProof.Rows.RuleU_int
import PyProof.ListOps
import PyProof.Cells
import PyProof.Calls
import PyProof.SliceMore
import PyProof.TupleOfSeq
import PyProof.ListCopy
import PyProof.CodeObjX
import PyProof.Rows.PlainObj
import PyProof.ExcClass2
import PyProof.DictStraight
import PyProof.Rows.StrTemp
import PyProof.TupleOps
import PyProof.ListIndexNeg
import PyProof.Rules3
import PyProof.SliceList
import PyProof.Rows.TupSub
import PyProof.ForRange
import PyProof.Rows.DictMade
import PyProof.WalkInts
import PyProof.SeqI3
import PyProof.SumWalkG
import PyProof.WalksMore
import PyProof.IsiPairs
import PyProof.IsiHeapPairs
import PyProof.ListRange
import PyProof.Rows.SortWalk
import PyProof.IsiNone
import PyProof.Rows.SortRuns
import PyProof.Rows.CallKwBuiltin
import PyProof.DefMake
import PyProof.EvalArms
import PyProof.RangeFor
import PyProof.ListNew
import PyProof.Rows.DictUnroll
import PyProof.Rows.PlainNoArg
import PyProof.LetGo
import PyProof.ForAppend
import PyProof.CallRoads
import PyProof.MeetsSeq
import PyProof.AutoSeq1
import PyProof.ForAny
import PyProof.Raises
import PyProof.Rows.TupTab
import PyProof.Rows.TupIter
import PyProof.ObjNew
import PyProof.InstStore
import PyProof.AssignAttr
import PySem.Challenge.RW_uf050037_09
set_option Elab.async false
set_option autoImplicit true
set_option bootstrap.genMatcherCode false
set_option genSizeOf false

set_option tactic.hygienic false
set_option linter.unusedVariables false
set_option linter.unusedSectionVars false
universe u0 u1 u2 u3 u4 u5 u6 u7 u8 u9 u10 u11
open List (all_eq_true all_map any_eq_true append_assoc append_nil drop_drop drop_eq_getElem_cons drop_length drop_zero filter_cons foldl_cons forIn_cons forIn_nil getElem_drop getElem_of_mem getElem_take length_append length_cons length_drop length_filter_le length_map length_singleton length_take length_zip lookup_cons mapM_cons mapM_nil map_append map_cons map_id map_map mem_append mem_append_left mem_append_right mem_cons mem_cons_self mem_filter mem_map mem_of_getElem? mem_of_mem_take mem_singleton mergeSort_perm nil_append nodup_append nodup_cons not_mem_nil of_mem_zip pairwise_append pairwise_cons pairwise_map size_toArray take_append_drop take_of_length_le zip_cons_cons)
open Array (getElem_mem length_toList mem_def mem_toList_iff perm_iff_toList_perm size_zip toList_append toList_push toList_reverse)
open Nat (add_assoc add_comm add_le_add add_le_add_left add_le_add_right add_lt_add_left add_right_comm add_sub_cancel_left add_sub_of_le add_zero le_add_left le_add_right le_antisymm le_max_right le_min le_of_eq le_of_lt le_of_lt_succ le_of_not_lt le_of_succ_le le_refl le_sub_of_add_le le_sub_one_of_lt le_succ le_succ_of_le le_trans lt_irrefl lt_of_le_of_lt lt_of_le_of_ne lt_of_lt_of_le lt_of_not_le lt_succ_of_le lt_succ_of_lt lt_trans min_eq_left min_eq_right min_le_left ne_of_gt ne_of_lt not_le_of_lt not_lt_of_le pow_le_pow_right sub_add_cancel sub_le sub_le_sub_right sub_lt sub_pos_of_lt sub_self succ_le_of_lt succ_le_succ succ_pos zero_add zero_le)
open Bool (and_eq_true and_eq_true_iff false_eq_true not_eq_true or_eq_false_iff or_eq_true)
open Option (bind_some map_eq_some_iff map_some)
open Int (add_nonneg emod_lt_of_pos emod_nonneg natCast_nonneg not_le not_lt ofNat_le ofNat_lt toNat_of_nonneg)
open PySem.Heap (lt_size size_push)
namespace Internal
section
open Nat (add_lt_of_lt_sub le_of_sub_eq_zero le_total lt_add_of_pos_right lt_of_sub_pos lt_of_succ_le lt_sub_of_add_lt min_le_right min_self mul_two not_lt_zero one_pos sub_le_sub_left two_mul)
theorem nLe {x n:Nat}(h:(x:Int)<=@OfNat.ofNat Int n instOfNat):x<=n:=ofNat_le.mp h
theorem nLm {x n:Nat}(h:x<=n):(x:Int)<=@OfNat.ofNat Int n instOfNat:=ofNat_le.mpr h
theorem lte {a b c:Nat}(h:a<c) (e:b=c):a<b:=e▸h
theorem lee {a b c:Nat}(h:a<=c) (e:b=c):a<=b:=e▸h
theorem elt {a b c:Nat}(e:a=c) (h:c<b):a<b:=e▸h
theorem ele {a b c:Nat}(e:a=c) (h:c<=b):a<=b:=e▸h
theorem jle {a b c:Int}(e:a=c) (h:c<=b):a<=b:=e▸h
theorem nn {x:Int}{n:Nat}(e:x = ↑n):0<=x:=e▸natCast_nonneg n
theorem m9 {x:Int}{n:Nat}(h:7+x/9%3 = ↑n):n<=9:=by lia
theorem m18 {x:Int}{n:Nat}(h:7+x%12 = ↑n):n<=18:=by lia
theorem m12 {x:Int}{n:Nat}(h:7+x%6 = ↑n):n<=12:=by lia
theorem m4 {x:Int}{n:Nat}(h:1+x%4 = ↑n):n<=4:=by lia
theorem m5 {x:Int}{n:Nat}(h:x%6 = ↑n):n<=5:=by lia
theorem p9 {x y:Int}(h:1+x/3%9=y):0<y:=by lia
theorem q9 {x y:Int}(h:1+x/3%9=y):y<=9:=by lia
theorem r9 {x y:Int}(h:x/27%9=y):0<=y:=by lia
theorem dbl {a b:Nat}(h:a<=b):a+a<=b*2:=by lia
theorem tlt {x:Int}{n:Nat}(h0:0<n) (h:x < ↑n):x.toNat<n:=by lia
theorem tln {x:Int}{n:Nat}(h0:0<=x) (h:x < ↑n):x.toNat<n:=by lia
theorem nxl {a b c:Nat}(h:a+b<c):a<c:=lt_of_le_of_lt (le_add_right a b) h
theorem nxe {a b c:Nat}(h:a+b<=c):a<=c:=le_trans (le_add_right a b) h
theorem adl {a b c d:Nat}(h:b<c) (g:a+c<=d):a+b<d:=lt_of_lt_of_le (add_lt_add_left h a) g
theorem adE {a b c d:Nat}(h:b<=c) (g:a+c<=d):a+b<=d:=le_trans (add_le_add_left h a) g
theorem mF {a b c:Nat}(h:a<c):a-b<c:=lt_of_le_of_lt (sub_le a b) h
theorem J8 {a b c:Nat}(h:a<=c):a-b<=c:=le_trans (sub_le a b) h
theorem mne {a b c:Nat}(h:b<=c):min a b<=c:=le_trans (Nat.min_le_right a b) h
theorem mnl {a b c:Nat}(h:a<=c):min a b<=c:=le_trans (min_le_left a b) h
theorem vlo{a b c:Nat}:a<=a+b-(a+b-(a+c)):=le_sub_of_add_le (add_le_add_left (le_trans (le_of_eq (Nat.add_sub_add_left a b c)) (sub_le b c)) a)
theorem pl {a b:Nat}(p:0<a) (h:a<b+1):a-1<b:=lt_of_lt_of_le (Nat.sub_one_lt (ne_of_gt p)) (le_of_lt_succ h)
theorem sl {a b:Nat}(h:1<=b):a+b-1<a+b:=sub_lt (lt_of_lt_of_le h (le_add_left _ _)) Nat.one_pos
theorem ts {a b:Nat}{x:Int}(e:x = ↑b):((a:Int)-(x+1)).toNat=a-(b+1):=by subst e; exact Int.toNat_sub a (b+1)
theorem r9b {x y:Int}(h:x/27%9=y):y<=8:=h▸Int.le_of_lt_add_one (emod_lt_of_pos _ (by decide))
theorem rm1 {u k c:Nat}{b:Prop} [Decidable b] (h:u+100*k+(if b then 200 else 300)<c):u+1<c:=lt_of_le_of_lt (add_le_add (le_add_right u _) (by split<;>decide)) h
theorem na1 {a:Int}(h:a.natAbs<2^63):-2^64<a:=by lia
theorem na2 {a:Int}(h:a.natAbs<2^63):a<2^64:=by lia
theorem wle {a b:Nat}(h:1<=b) (e:0+a+(b-a)-1=b-1):a<=b:=(Nat.le_total a b).elim id λg=>by rw[zero_add,Nat.sub_eq_zero_of_le g,add_zero] at e; exact le_of_eq (Nat.sub_one_cancel (lt_of_lt_of_le h g) h e)
theorem hf (n:Nat):n/2<=n-1:=by
 cases n with
 | zero=>exact le_refl _
 | succ n=>exact le_of_lt_succ (Nat.div_lt_self (succ_pos n) (by decide))
variable {a b c d e f:Nat}
theorem la1{a:Int}{b:Nat}:0<=a->a<b->a.toNat<b:=λp q=>tln p q
theorem la2{a:Nat}:0<a->(↑a:Int)≠(0:Int):=λp=>Int.ne_of_gt (Int.natCast_pos.mpr p)
theorem la3{a:Nat}:0<a->(0:Int)<(↑a:Int):=λp=>Int.natCast_pos.mpr p
theorem la4{a:Int}{b:Nat}:0<b->a%b<b->(a%(↑b:Int)).toNat<b:=λp q=>tlt p q
theorem la5{a b c:Int}:c<=b->0<=a/\a<c->a<b:=λp q=>Int.lt_of_lt_of_le q.2 p
theorem la6{a b c:Int}:c<=b->0<=a/\a<c->0<=a/\a<b+1:=λp q=>And.intro q.1 (Int.lt_of_lt_of_le q.2 (Int.le_trans p (Int.le_of_lt (Int.lt_succ _))))
theorem la7{a b:Int}:0<=b->b<=a->0<=a/\a<a+1:=λp q=>And.intro (Int.le_trans p q) (Int.lt_succ _)
theorem la8{a b c:Int}:c<=b->0<=a/\a<c->0<=a/\a<b:=λp q=>And.intro q.1 (Int.lt_of_lt_of_le q.2 p)
theorem la9:b=a+(c+1)->a<b:=λp=>lte (lt_add_of_pos_right (succ_pos _)) p
theorem KH:a<=7->a<=1000000:=λp=>le_trans p (by decide)
theorem Cr:b<=7->a<b->a<=6:=λp q=>le_of_lt_succ (lt_of_lt_of_le q p)
theorem KO:b<=7->c<b->a<=c->a+1<=1000000:=λp q r=>le_trans (le_trans (succ_le_of_lt (lt_of_le_of_lt r q)) p) (by decide)
theorem J4:a<=b->b<=2^6->a+a<=1000000:=λp q=>le_trans (dbl (le_trans p q)) (by decide)
theorem BN:a<=b->a+a<=b*2:=λp=>dbl p
theorem B0{a:Nat}:(↑a:Int)<=(↑(a+(1:Nat)):Int):=ofNat_le.mpr (le_add_right _ _)
theorem Ct{a:Nat}{b:Int}:b=a->a<=b:=λp=>Int.le_of_eq (Eq.symm p)
theorem Cg{a:Int}{b:Nat}:a=b->a+1<=(↑(b+(1:Nat)):Int):=λp=>Int.le_of_eq (by rw[p]; rfl)
theorem w5:a<a+(b+1):=lt_add_of_pos_right (succ_pos _)
theorem KI:a=b->b<=2^6->a+a<=1000000:=λp q=>le_trans (dbl (ele p q)) (by decide)
theorem Lb:a=b->a+a=b*2:=λp=>by rw[p,mul_two]
theorem KR:a<=5->a<=1000000:=λp=>le_trans p (by decide)
theorem Km:b<=5->a<b->a<=5:=λp q=>le_trans (le_of_lt q) p
theorem Bz:b<=5->c<b->a<=c->a+1<=1000000:=λp q r=>le_trans (le_trans (succ_le_of_lt (lt_of_le_of_lt r q)) p) (by decide)
theorem Ku:a<=b->b<=2^5->a+a<=1000000:=λp q=>le_trans (dbl (le_trans p q)) (by decide)
theorem Kx{a:Nat}{b:Int}:b=a->2*a<=2*b:=λp=>Int.le_of_eq (by rw[p])
theorem K8{a:Int}{b:Nat}:a=b->2*a+1<=2*(↑(b+(1:Nat)):Int):=λh=>by rw[h,Int.natCast_succ,Int.mul_add]; exact Int.add_le_add_left (by decide) _
theorem K3{a:Nat}{b:Int}:b=a->2*a<=2*b+1:=by intro p; lia
theorem K2{a:Int}{b:Nat}:a=b->2*a+1+1<=2*(↑(b+(1:Nat)):Int):=by intro p; lia
theorem J6{a:Int}:a%(6:Int)=(↑(a%(6:Int)).toNat:Int):=Eq.symm (toNat_of_nonneg (emod_nonneg _ (by decide)))
theorem KN{a:Nat}{b:Int}:b%6=a->a<=1000000:=λp=>le_trans (m5 p) (by decide)
theorem Cn{a:Int}{b:Nat}:0<=a/\a<b->0<=6+a:=λp=>add_nonneg (by decide) p.1
theorem BK{a:Nat}:a<=6->(↑a:Int)<=(100:Int):=λp=>Int.le_trans (ofNat_le.mpr p) (by decide)
theorem Kv{a:Nat}{b:Int}:b%6=a->a<=63:=λp=>le_trans (m5 p) (by decide)
theorem Bx:b<=6->a<=b->a<=12:=λp q=>le_trans q (le_trans p (by decide))
theorem Kl{a:Int}:(7:Int)+a/(9:Int)%(3:Int)=(↑((7:Int)+a/(9:Int)%(3:Int)).toNat:Int):=(toNat_of_nonneg (add_nonneg (by decide) (emod_nonneg _ (by decide)))).symm
theorem Kc{a:Nat}{b:Int}:7+b/9%3=a->a<=1000000:=λp=>le_trans (m9 p) (by decide)
theorem Kt{a:Int}{b:Nat}:a=b->0<=a+1:=λp=>add_nonneg (nn p) (by decide)
theorem JZ{a b:Int}{c d:Nat}:7+b/9%3=c->a=d->d<c->a+1<=1000:=λp q r=>by subst q; exact ofNat_le.mpr (le_trans r (le_trans (m9 p) (by decide)))
theorem Kb{a:Nat}{b:Int}:7+b/9%3=a->(↑a:Int)<=(1000:Int):=λp=>Int.le_trans (ofNat_le.mpr (m9 p)) (by decide)
theorem Le{a:Nat}{b:Int}{c:Nat}:7+b/9%3=c->a<c->a<=9:=λp q=>le_trans (le_of_lt q) (m9 p)
theorem Ka{a b:Nat}{c d:Int}{e f:Nat}:7+d/9%3=b->a<=e->c=f->e<=36->a+((↑b:Int)-(c+(1:Int))).toNat<=(1000000:Nat):=λp q r s=>le_trans (add_le_add (le_trans q s) (le_trans (le_of_eq (ts r)) (le_trans (sub_le _ _) (m9 p)))) (by decide)
theorem J0{a b:Nat}{c:Int}{d e:Nat}{f:Int}:7+f/9%3=b->a<=d->c=e->a+((↑b:Int)-(c+(1:Int))).toNat<=d+((8:Nat)-e):=λp q r=>add_le_add q (le_trans (le_of_eq (ts r)) (le_trans (sub_le_sub_right (m9 p) _) (le_of_eq (Nat.succ_sub_succ 8 _))))
theorem Lg{a:Int}{b:Nat}:a<a+1+b:=Int.lt_of_lt_of_le (Int.lt_succ a) (Int.le_add_of_nonneg_right (natCast_nonneg b))
theorem Kj{a:Int}{b c:Nat}:c<b->a=c->0<=a/\a<b:=λp q=>by subst q; exact ⟨natCast_nonneg _,ofNat_lt.mpr p⟩
theorem J5{a:Int}{b c d:Nat}:a=d->b<((↑c:Int)-(a+(1:Int))).toNat->0<=a+1+b/\a+1+b<c:=λp q=>And.intro (add_nonneg (add_nonneg (nn p) (by decide)) (natCast_nonneg _)) (by subst p; exact ofNat_lt.mpr (Nat.add_lt_of_lt_sub' (Nat.lt_of_lt_of_eq q (ts rfl))))
theorem KP{a:Nat}{b:Int}:7+b/9%3=a->a<=9:=λp=>m9 p
theorem KQ{a:Nat}{b:Int}:7+b/9%3=a->(↑a:Int)<=(100:Int):=λp=>Int.le_trans (ofNat_le.mpr (m9 p)) (by decide)
theorem Kk:a<=b->b<=36->a<=63:=λp q=>le_trans p (le_trans q (by decide))
theorem KX{a:Nat}:(0:Int)<(↑a:Int)+(1:Int):=Int.lt_add_one_of_le (natCast_nonneg _)
theorem KM{a:Int}{b:Nat}:b=7->(a/(9:Int)%(7:Int)).toNat<b:=λp=>p▸(Int.toNat_lt (emod_nonneg _ (by decide))).mpr (emod_lt_of_pos _ (by decide))
theorem JR{a b:Int}:0<=a/\a<=b->a=(↑a.toNat:Int):=λp=>Eq.symm (toNat_of_nonneg p.1)
theorem K1{a b:Int}:0<=a/\a<=b->(↑a.toNat:Int)<=b:=λp=>jle (toNat_of_nonneg p.1) p.2
theorem KA{a:Int}:(1:Int)+a%(4:Int)=(↑((1:Int)+a%(4:Int)).toNat:Int):=(toNat_of_nonneg (add_nonneg (by decide) (emod_nonneg _ (by decide)))).symm
theorem JL{a:Nat}:a<=63->¬(63:Int)<(↑a:Int):=λp=>not_lt.mpr (nLm p)
theorem JK{a:Nat}{b:Int}:1+b%4=a->a<=5:=λp=>le_trans (m4 p) (by decide)
theorem JO{a:Nat}{b:Int}:1+b%4=a->(2:Int)*(↑a:Int)<=(100:Int):=λp=>ofNat_le.mpr (le_trans (Nat.mul_le_mul_left 2 (m4 p)) (by decide))
theorem J3:a<=32->a<=63:=λp=>le_trans p (by decide)
theorem Lj{a:Nat}{b:Int}{c:Nat}:1+b%4=c->a<=c->a<=12:=λp q=>le_trans q (le_trans (m4 p) (by decide))
theorem KL{a:Nat}:(↑a:Int)<=(6:Int)->a<=6:=λp=>nLe p
theorem Ck{a:Nat}:(↑a:Int)<=(7:Int)->a<=1000000:=λp=>le_trans (nLe p) (by decide)
theorem JV{a b:Nat}:(↑b:Int)<=(7:Int)->a<b->a<=6:=λp q=>le_of_lt_succ (lt_of_lt_of_le q (nLe p))
theorem KT{a b c:Nat}:(↑b:Int)<=(7:Int)->c<b->a<=c->a+1<=1000000:=λp q r=>le_trans (succ_le_succ r) (le_trans q (le_trans (nLe p) (by decide)))
theorem KK:a<=c->c<=2^6->b<=a->a+b<=1000000:=λp q r=>le_trans (add_le_add (le_trans p q) (le_trans r (le_trans p q))) (by decide)
theorem KF:a<=c->b<=a->a+b<=c*2:=λp q=>adE q (dbl p)
theorem CC{a:Nat}:(↑a:Int)<=(7:Int)->a<=7:=λp=>nLe p
theorem K0{a:Int}{b c:Nat}:b=c->0<=a/\a<c->0<=a/\a<b:=λp q=>p▸q
theorem Ky{a b:Nat}:(↑b:Int)<=(7:Int)->a<=b->a<=7:=λp q=>le_trans q (nLe p)
theorem K9:a<=b->b<=63->a<=63:=λp q=>le_trans p q
theorem JM{a:Nat}:(↑a:Int)<=(7:Int)->(↑a:Int)<=(100:Int):=λp=>Int.le_trans p (by decide)
theorem KJ{a b:Nat}:(↑b:Int)<=(7:Int)->a<=b->a<=12:=λp q=>le_trans q (le_trans (nLe p) (by decide))
theorem KB{a b c d:Int}:b*c<b*d->a+b*c<a+b*d:=λp=>Int.add_lt_add_left p _
theorem Ld{a b c d:Int}:0<=a->0<=b*c->b*c<b*d->0<=a+b*c/\a+b*c<a+b*d:=λp q r=>And.intro (add_nonneg p q) (Int.add_lt_add_left r _)
theorem BS{a b:Nat}:a<b->(↑a:Int)<(↑b:Int):=λp=>ofNat_lt.mpr p
theorem La{a:Int}:(7:Int)+a%(12:Int)=(↑((7:Int)+a%(12:Int)).toNat:Int):=(toNat_of_nonneg (add_nonneg (by decide) (emod_nonneg _ (by decide)))).symm
theorem K5{a:Nat}{b:Int}:7+b%12=a->a<=1000000:=λp=>le_trans (m18 p) (by decide)
theorem JJ{a:Int}:0<1+a/12%4:=Int.lt_of_lt_of_le (by decide) (Int.add_le_add_left (emod_nonneg _ (by decide)) 1)
theorem JX{a:Nat}{b:Int}:7+b%12=a->(↑a:Int)<=(100:Int):=λp=>Int.le_trans (ofNat_le.mpr (m18 p)) (by decide)
theorem Kh{a:Nat}{b:Int}{c:Nat}:7+b%12=c->a<=c->a<=63:=λp q=>le_trans q (le_trans (m18 p) (by decide))
theorem Cu{a:Int}{b:Nat}:0<=a/\a<b->0<=a/\a<b:=by intro p; omega
theorem JW{a:Int}:(7:Int)+a%(6:Int)=(↑((7:Int)+a%(6:Int)).toNat:Int):=(toNat_of_nonneg (add_nonneg (by decide) (emod_nonneg _ (by decide)))).symm
theorem CD{a:Nat}{b:Int}:7+b%6=a->a<=1000000:=λp=>le_trans (m12 p) (by decide)
theorem KZ{a:Nat}{b:Int}:7+b%6=a->(↑a:Int)<=(100:Int):=λp=>Int.le_trans (ofNat_le.mpr (m12 p)) (by decide)
theorem Kf{a:Nat}{b:Int}:7+b%6=a->a<=63:=λp=>le_trans (m12 p) (by decide)
theorem K4{a:Nat}{b:Int}{c:Nat}:7+b%6=c->a<=c->a<=12:=λp q=>le_trans q (m12 p)
theorem Kq{a:Int}:¬9<a->a<=9:=λp=>not_lt.mp p
theorem Ks{a:Nat}:¬(8:Int)<(↑a:Int)->a<=8:=λp=>nLe (not_lt.mp p)
theorem JP:b<=8->a<b->a<1000000:=λp q=>lt_of_lt_of_le q (le_trans p (by decide))
theorem K6{a b:Int}:1+b/3%9=a->0<=a:=λp=>Int.le_of_lt (p9 p)
theorem Ke{a b:Int}:1+b/3%9=a->a<=9:=λp=>q9 p
theorem JY{a b c d:Int}:d/27%9=a->0<=b*c->0<=a+b*c:=λp q=>add_nonneg (r9 p) q
theorem JT{a b c d:Int}:d/27%9=a->b*c<=9*9->a+b*c<=100:=λp q=>Int.le_trans (Int.add_le_add (r9b p) q) (by decide)
theorem KE:a<=8->a<=63:=λp=>le_trans p (by decide)
theorem JU:a<=12->a<=12:=by intro p; omega
theorem K7{a b:Int}:b/27%9=a->0<=a:=λp=>r9 p
theorem Li{a b:Int}:1+b/3%9=a->0<a:=λp=>p9 p
theorem KY:b<63->a<=b->a+1<=1000000:=λp q=>le_trans (succ_le_of_lt (lt_of_le_of_lt q p)) (by decide)
theorem JS:b<63->a<=b->a+1<64:=λp q=>Nat.add_lt_add_right (lt_of_le_of_lt q p) _
theorem xJ:a<=1000->a<=1000000:=λp=>le_trans p (by decide)
theorem Ch:b<=1000->a<=b->a<=1000000:=λp q=>le_trans q (le_trans p (by decide))
theorem yc:a<=b->a<=b+1:=λp=>le_succ_of_le p
theorem jX:a<=b->a+1<=b+1:=λp=>succ_le_succ p
theorem Ex:b<=1000->a<b->a<=1000:=λp q=>le_trans (le_of_lt q) p
theorem EC{a b:Int}:0<=a/\a<b->a<0->False:=λp q=>absurd q (not_lt.mpr p.1)
theorem Ey{a b:Int}:0<=a/\a<b->b<=a->False:=λp q=>absurd p.2 (not_lt.mpr q)
theorem Eh{a b c:Int}:a<c->c<=b->a<=b:=λp q=>Int.le_trans (Int.le_of_lt p) q
theorem GT{a b c:Int}:¬c<a->c<=b->a<=b:=λp q=>Int.le_trans (not_lt.mp p) q
theorem Hm{a:Nat}:(0:Int)<=(↑a:Int):=natCast_nonneg _
theorem yz{a b:Int}:a<=b->b<=a->a=b:=λp q=>Int.le_antisymm p q
theorem DL{a b:Nat}{c:Int}:a=c->c=b->a=b:=λp q=>Int.ofNat.inj (p.trans q)
theorem Gg{a:Int}{b c d:Nat}:c=a->d=b->d<=a->c<=b->a=b:=λp q r s=>by subst p q; exact congrArg Nat.cast (le_antisymm s (ofNat_le.mp r))
theorem zV:a<=100->a<=1000:=λp=>le_trans p (by decide)
theorem GA:a<=100->a<=1000000:=λp=>le_trans p (by decide)
theorem Gk{a:Int}:0<=a->a=(↑a.toNat:Int):=λp=>Eq.symm (toNat_of_nonneg p)
theorem FY{a:Nat}:(↑a:Int)<=(100:Int)->a<=1000:=λp=>le_trans (nLe p) (by decide)
theorem G1:a<=12->a<63:=λp=>lt_of_le_of_lt p (by decide)
theorem C5{a:Int}{b:Nat}:0<=a/\a<b->a=(↑a.toNat:Int):=λp=>Eq.symm (toNat_of_nonneg p.1)
theorem IS{a b:Nat}:(↑b:Int)<=(100:Int)->(0:Int)<=(↑a:Int)/\(↑a:Int)<(↑b:Int)->a<=1000:=λp q=>le_trans (nLe (Int.le_trans (Int.le_of_lt q.2) p)) (by decide)
theorem Gu{a:Nat}:(↑a:Int)<=(100:Int)->a<=1000000:=λp=>le_trans (nLe p) (by decide)
theorem Ds{a b:Nat}:(↑b:Int)<=(100:Int)->a<=b->a<=100:=λp q=>le_trans q (nLe p)
theorem yT{a:Nat}:(↑a:Int)<=(100:Int)->a<=100:=λp=>nLe p
theorem Ia:a<=12->a<=100:=λp=>le_trans p (by decide)
theorem FH:a<=12->a<=60:=λp=>le_trans p (by decide)
theorem Fg{a:Nat}:(↑a:Int)=(0:Int)->a=0:=λp=>Nat.eq_zero_of_le_zero (ofNat_le.mp (jle p (by decide)))
theorem GU:a<=100->a<128:=λp=>lt_of_le_of_lt p (by decide)
theorem ET:a<=63->a<=1000:=λp=>le_trans p (by decide)
theorem E8:b<=63->a<=b->a<=1000000:=λp q=>le_trans q (le_trans p (by decide))
theorem Hp:b<=63->a<=b->a<64:=λp q=>lt_of_le_of_lt q (lt_of_le_of_lt p (by decide))
theorem Gx:b<=63->c<=b->a=c->a<=1000:=λp q r=>le_trans (le_trans (ele r q) p) (by decide)
theorem DN:a+(b+1)<=1000->a<=1000:=λp=>nxe p
theorem Fd{a b:Int}{c:Prop}:¬(a<0\/b<=a\/c)->0<=a/\a<b:=λp=>And.intro (not_lt.mp λg=>p (.inl g)) (not_le.mp λg=>p (.inr (.inl g)))
theorem DP:a+(b+1)<=1000->a+1+b<=1000:=λp=>by rw[add_right_comm]; exact p
theorem CP:a<=b-1->0<b->a+1<=b:=λp q=>succ_le_of_lt (lt_of_le_of_lt p (sub_lt q (by decide)))
theorem DO{a:Prop}{b c:Nat}:b<=c->c+1<=b->a:=λp q=>absurd q (not_le_of_lt (lt_succ_of_le p))
theorem yC:b=a->a<=b:=λp=>le_of_eq (Eq.symm p)
theorem CQ{a:Nat}:a<=1000000->((↑a:Int)-(0:Int)).toNat<=(1000000:Nat):=λp=>Int.toNat_le.mpr (Int.le_trans (Int.sub_le_self _ (Int.le_refl 0)) (ofNat_le.mpr p))
theorem E0:-(2:Int)^(60:Nat)<=(0:Int):=by decide
theorem DR:(0:Int)<(2:Int)^(60:Nat):=by decide
theorem C8{a:Nat}:-(2:Int)^(60:Nat)<=(↑a:Int):=by lia
theorem Gj{a:Nat}:a<=1000000->(↑a:Int)<(2:Int)^(60:Nat):=λp=>Int.lt_of_le_of_lt (ofNat_le.mpr p) (by decide)
theorem IR{a b:Nat}:a<b->(0:Int)<=(↑a:Int)/\(↑a:Int)<(↑b:Int):=λp=>And.intro (natCast_nonneg _) (ofNat_lt.mpr p)
theorem Gb{a:Int}:0<=a->(↑a.toNat:Int)=a:=λp=>toNat_of_nonneg p
theorem y3{a:Int}{b:Nat}:a.toNat<b->a<b:=λp=>Int.lt_of_le_of_lt (Int.self_le_toNat _) (ofNat_lt.mpr p)
theorem DU{a:Int}:0<a->¬a=0:=λp=>Int.ne_of_gt p
theorem yU{a:Int}:0<a->0<=a:=λp=>Int.le_of_lt p
theorem zU{a b c:Int}:a<=c->c<=b->a<=b:=λp q=>Int.le_trans p q
theorem zX{a b:Int}:a<=b\/b<=a:=Int.le_total _ _
theorem Jk{a b:Int}:0<=b->a<=1000->(a-b).toNat<=(1000000:Nat):=λp q=>Int.toNat_le.mpr (Int.le_trans (Int.sub_le_self _ p) (Int.le_trans q (by decide)))
theorem y0{a:Int}:0<=a->-(2:Int)^(60:Nat)<=a:=by intro p; lia
theorem yH{a:Int}:a<=1000->a<(2:Int)^(60:Nat):=λp=>Int.lt_of_le_of_lt p (by decide)
theorem EB{a:Int}{b:Nat}:0<=a->a<b->a<0\/b<=a->False:=λp q r=>r.elim (λg=>not_lt.mpr p g) (λg=>not_le.mpr q g)
theorem IM{a:Nat}:(0:Int)<(↑(a+(1:Nat)):Int):=Int.natCast_pos.mpr (succ_pos _)
theorem EU{a:Nat}:(1:Int)<(↑(a+(1:Nat)+(1:Nat)):Int):=ofNat_lt.mpr (Nat.succ_lt_succ (succ_pos _))
theorem zg:a+d<=c->b<d->a+b<c:=λp q=>adl q p
theorem DY:a<=c->a-b<=c-0:=λp=>le_trans (sub_le_sub_left (zero_le _) _) (sub_le_sub_right p _)
theorem IE:a<=b->¬a=b->a<b:=λp q=>lt_of_le_of_ne p q
theorem Hi:a<=b->¬a=b->a+(b-a)/2+1<=b:=λp q=>lt_of_lt_of_le (add_lt_add_left (Nat.div_lt_self (sub_pos_of_lt (lt_of_le_of_ne p q)) (by decide)) a) (le_of_eq (add_sub_of_le p))
theorem I9:a-b<=c-d->a-(b+(a-b)/2+1)<=c-(d+1):=λp=>sub_le_sub_right (le_trans (le_trans (le_of_eq (Nat.sub_sub _ _ _).symm) (sub_le _ _)) p) 1
theorem De:a<b+(c-b)/2+1->a<=b+(c-b)/2:=λp=>le_of_lt_succ p
theorem HH:a<=b->b<=c->¬a=b->a+(b-a)/2<c:=λp q r=>lt_of_lt_of_le (lt_of_lt_of_le (add_lt_add_left (Nat.div_lt_self (sub_pos_of_lt (lt_of_le_of_ne p r)) (by decide)) a) (le_of_eq (add_sub_of_le p))) q
theorem FG:a<=a+(b-a)/2:=le_add_right _ _
theorem CM:a<=b->b<=c->a+(b-a)/2<=c:=λp q=>le_trans (add_le_add_left (Nat.div_le_self _ _) _) (le_trans (le_of_eq (add_sub_of_le p)) q)
theorem Fj:b-a<=c-d->a+(b-a)/2-a<=c-(d+1):=λp=>by rw[add_sub_cancel_left,<- Nat.sub_sub]; exact le_trans (hf _) (sub_le_sub_right p 1)
theorem Dl:a<=b->b-a<=c-max 0 c->a=b:=λp q=>le_antisymm p (le_of_sub_eq_zero (Nat.le_zero.mp (by rw[Nat.zero_max,sub_self] at q; exact q)))
theorem yd:0<1:=by decide
theorem Iq:a<b->a+0<b:=by intro p; omega
theorem yV:0+1<=1:=by decide
theorem yI:¬b≥c-a->a+b<c:=λp=>Nat.add_lt_of_lt_sub' (lt_of_not_le p)
theorem zJ{a:Nat}:a<2*a+1:=lt_succ_of_le (Nat.le_mul_of_pos_left a (by decide))
theorem zi{a b:Nat}:a+1<=b->a+1+1<=2*b+1:=λh=>succ_le_succ (le_trans h (Nat.le_mul_of_pos_left b (by decide)))
theorem H4:max 0 a+1<=c->a-b<=c:=λp=>le_trans (le_succ_of_le (J8 (le_max_right _ _))) p
theorem G2:b<c->a+b<d->a+b+1<=a+min c (d-a):=λp q=>add_le_add_left (le_min.mpr ⟨p,lt_sub_of_add_lt (add_comm a b▸q)⟩) a
theorem EY:a<c->a+min b (c-a)<=c:=λp=>le_trans (add_le_add_left (min_le_right _ _) _) (le_of_eq (add_sub_of_le (le_of_lt p)))
theorem Gi:a<b+c+1->a<=b+c:=λp=>le_of_lt_succ p
theorem ID{a:Prop}{b c d e:Nat}:b+min c (d-b)<=e->e<d->d-b<=c->a:=λp q r=>by rw[min_eq_right r] at p; exact absurd (le_trans (Nat.sub_le_iff_le_add'.mp (le_refl _)) p) (not_le_of_lt q)
theorem G4:a+min b (d-a)<=c->c<d->a+b<=c:=λp q=>(le_total b (d-a)).elim (λg=>by rw[min_eq_left g] at p; exact p) (λg=>by rw[min_eq_right g] at p; exact absurd (le_trans (Nat.sub_le_iff_le_add'.mp (le_refl _)) p) (not_le_of_lt q))
theorem zF:a<b->¬a≥b:=λp=>not_le_of_lt p
theorem zT:a<b->b<=c->a+(b-a)/2<c:=λp q=>lt_of_lt_of_le (lt_of_lt_of_le (add_lt_add_left (Nat.div_lt_self (sub_pos_of_lt p) (by decide)) a) (le_of_eq (add_sub_of_le (le_of_lt p)))) q
theorem Hz:0<=a:=zero_le _
theorem yt:a<c->a-b<c:=λp=>mF p
theorem zI:¬a≥b+1->a<=b:=λp=>le_of_lt_succ (lt_of_not_le p)
theorem GO:a<c->max 0 c+1<=b->a+1<=b:=λp q=>le_trans p (le_trans (le_max_right 0 c) (le_of_succ_le q))
theorem IW:a<c->a-b<=c:=λp=>le_of_lt (mF p)
theorem Jv:a+1<=b->a+1-min b (a+1)<=a-c:=λp=>by rw[min_eq_right p,sub_self]; exact zero_le _
theorem Hn:c<b->a+1-min b (a+1)<=a-c:=λp=>(le_total b (a+1)).elim (λg=>by rw[min_eq_left g]; exact le_trans (sub_le_sub_left p _) (le_of_eq (Nat.add_sub_add_right a 1 c))) (λg=>by rw[min_eq_right g,sub_self]; exact zero_le _)
theorem Hr{a:Prop}{b c d:Nat}:b<c+1-min d (c+1)->c+1<=d->a:=λp q=>by rw[min_eq_right q,sub_self] at p; exact absurd p (not_lt_zero _)
theorem EG{a b c:Nat}:a<b+1-min c (b+1)->a<=b-c:=λp=>(le_total c (b+1)).elim (λg=>le_sub_of_add_le (le_of_lt_succ (add_lt_of_lt_sub (by rw[min_eq_left g] at p; exact p)))) (λg=>absurd (by rw[min_eq_right g,sub_self] at p; exact p) (not_lt_zero _))
theorem yv:a<=b+c->¬a=b+c->a<=b+c-1:=λp q=>le_sub_one_of_lt (lt_of_le_of_ne p q)
theorem s6:1<=b->a+b-1<a+b:=λp=>sl p
theorem zO:a<b+(c+1)->¬a=b+c->a<b+c:=λp q=>lt_of_le_of_ne (le_of_lt_succ p) q
theorem D8:a<=c/\c<b->a<=a+b-1-c:=λp=>le_sub_of_add_le (le_sub_one_of_lt (add_lt_add_left p.2 _))
theorem Hl:a<=c/\c<b->a+b-1-c<b:=λp=>lt_of_le_of_lt (sub_le_sub_left p.1 _) (by rw[Nat.sub_right_comm,add_sub_cancel_left]; exact sub_lt (lt_of_le_of_lt (zero_le _) p.2) one_pos)
theorem Io:d<=a->c<=f->b<d\/f<=b->¬(a<=b/\b<c):=λp q r=>λe=>r.elim (λg=>not_lt_of_le (le_trans p e.1) g) (λg=>not_lt_of_le (le_trans q g) e.2)
theorem Hw:a+d<=c->b<=d->a+b<=c:=λp q=>adE q p
theorem Hc:c<a+b->a<=a+(a+b)-1-c:=λp=>le_sub_of_add_le (le_sub_one_of_lt (add_lt_add_left p _))
theorem GJ:d<=c->a+(a+b)-1-c<=a+(a+b)-1-d:=λp=>sub_le_sub_left p _
theorem Jf:1<=b->a<=c->a+(a+b)-1-c<a+b:=λp q=>lt_of_le_of_lt (sub_le_sub_left q _) (by rw[Nat.sub_right_comm,add_sub_cancel_left]; exact sl p)
theorem CN:max a b<=b->max a b=b:=λp=>le_antisymm p (le_max_right _ _)
theorem yQ:c+1-(0+1)<=b->b<c+1->a+b=a+(c+1)-1:=λp q=>congrArg (_ + ·) (le_antisymm (le_of_lt_succ q) p)
theorem oz:a+d<=e->b<d->c=e->a+b<c:=λp q r=>lte (adl q p) r
theorem zv:a+d<=e->b<d->c=e->a+b-1<c:=λp q r=>lte (mF (adl q p)) r
theorem zn:a+d<=e->b<d->c=e->a+b<=c:=λp q r=>le_of_lt (lte (adl q p) r)
theorem zh:c+1<=b->a<=a+b-(c+1):=λp=>le_sub_of_add_le (add_le_add_left p _)
theorem y2:d+a-(b+1)<=c->a-(b+1)<=c-d:=λp=>Nat.sub_le_of_le_add (Nat.le_of_add_le_add_left (le_trans (Nat.le_add_of_sub_le p) (le_trans (add_le_add_right (Nat.sub_le_iff_le_add'.mp (le_refl _)) _) (le_of_eq (add_assoc _ _ _)))))
theorem zQ:d+1<=c->a<b+c->a-b<c:=λp q=>(Nat.lt_or_ge a b).elim (λg=>lt_of_le_of_lt (le_of_eq (Nat.sub_eq_zero_of_le (le_of_lt g))) (lt_of_lt_of_le (succ_pos _) p)) (λg=>Nat.sub_lt_left_of_lt_add g q)
theorem yg:c+1<=d->a+d-(c+1)<=b->a+(b-a)=b:=λp q=>add_sub_of_le (le_trans (le_sub_of_add_le (add_le_add_left p _)) q)
theorem IQ:¬b<a->¬a<b->a=b:=λp q=>le_antisymm (le_of_not_lt p) (le_of_not_lt q)
theorem Fy:a+(b+1)-1=a+b:=by rfl
theorem F1:a+1-(b+1+1)<=c->a-(b+1)<=c:=λp=>Nat.succ_sub_succ _ _▸p
theorem Jb:a<b+1->¬a=b->a<b:=λp q=>lt_of_le_of_ne (le_of_lt_succ p) q
theorem CW:max (a+1) b<=b->max (a+1) b=b:=λp=>le_antisymm p (le_max_right _ _)
theorem y9:a+d<=e->b<=d->c=e->a+b<=c:=λp q r=>lee (adE q p) r
theorem tn:a+b<=d->c=d->a+b<=c:=λp q=>lee p q
theorem Ii:b+1<=a->1<=a:=λp=>le_trans (le_add_left _ _) p
theorem zD:c<=a->a<=b->b<c+1->a=b:=λp q r=>le_antisymm q (le_trans (le_of_lt_succ r) p)
theorem zl:max 1 a<=a->max 1 a=a:=λp=>le_antisymm p (le_max_right _ _)
theorem yY:a<=b->a≠b->a<b:=λp q=>lt_of_le_of_ne p q
theorem Jn:1<=c->a+c<=b->a<b:=λp q=>lt_of_lt_of_le (lt_add_of_pos_right (lt_of_succ_le p)) q
theorem DT:1<=b->b<=d->a+d<=c->a+b-1<c:=λp q r=>lt_of_lt_of_le (sl p) (le_trans (add_le_add_left q _) r)
theorem IA:a<b+c->a<=b+c-1:=λp=>le_sub_one_of_lt p
theorem CY:¬c<b->c<=a->a<=b->a=b:=λp q r=>le_antisymm r (le_trans (le_of_not_lt p) q)
theorem zx:b<=d->a+d<=c->a+b<=c:=λp q=>adE p q
theorem GH:1<=a->¬a>1->a=1:=λp q=>le_antisymm (le_of_not_lt q) p
theorem Fx:a<b->a<=(a+b)/2/\(a+b)/2<b:=λp=>And.intro ((Nat.le_div_iff_mul_le (by decide)).mpr (by rw[mul_two]; exact add_le_add_left (le_of_lt p) _)) ((Nat.div_lt_iff_lt_mul (by decide)).mpr (by rw[mul_two]; exact Nat.add_lt_add_right p _))
theorem Fw:a<b->min a b=a:=λp=>min_eq_left (le_of_lt p)
theorem F2:c<0->a<=b:=λp=>absurd p (not_lt_zero _)
theorem Dt:c<=d->d<c->a<b:=λp q=>absurd q (not_lt_of_le p)
theorem G8{a b c d e f g:Nat}:a+d<=e->f<d->g<=f->c=e->b<g->a+b<c:=λp q r s t=>s▸lt_of_lt_of_le (add_lt_add_left (lt_trans (lt_of_lt_of_le t r) q) a) p
theorem D0:c<=b->a<c->a<=b:=λp q=>le_trans (le_of_lt q) p
theorem HQ:e-b<=c-d->a<e->a-b<=c-(d+1):=λp q=>le_trans (sub_le_sub_right (le_sub_one_of_lt q) _) (le_trans (le_of_eq (Nat.sub_right_comm _ 1 _)) (sub_le_sub_right p 1))
theorem E6:a-e<=c-d->e<=b->a-(b+1)<=c-(d+1):=λp q=>sub_le_sub_right (le_trans (sub_le_sub_left q _) p) 1
theorem GF:b<c+1->a+b<=a+c:=λp=>add_le_add_left (le_of_lt_succ p) _
theorem C6:d<=c->b<d->a+b<a+c:=λp q=>add_lt_add_left (lt_of_lt_of_le q p) _
theorem GN:a-c<=d-max 0 d->c<=b->a<=b:=λp q=>le_trans (le_of_sub_eq_zero (Nat.eq_zero_of_le_zero (le_trans p (le_of_eq (Nat.sub_eq_zero_of_le (le_max_right 0 _)))))) q
theorem Gm:c<f->a<b\/b+f<=a->¬a=b+c-(b+c-(b+d)):=λp q=>λe=>q.elim (λg=>not_lt_of_le vlo (e▸g)) (λg=>not_lt_of_le (le_trans g (le_trans (le_of_eq e) (sub_le _ _))) (add_lt_add_left p _))
theorem DJ:b<f->d<a\/a+f<=d->¬(a+b-(a+b-(a+c))<d/\d<=a+b):=λp q=>λe=>q.elim (λg=>not_lt_of_le vlo (lt_trans e.1 g)) (λg=>not_lt_of_le (le_trans g e.2) (add_lt_add_left p _))
theorem HZ:a<b->min (a+1) b=a+1:=λp=>min_eq_left (succ_le_of_lt p)
theorem DX:c<=b->a+b-(a+b-(a+c))=a+c:=λp=>Nat.sub_sub_self (add_le_add_left p _)
theorem Iy:e<=c->c<a+(d+1)->e=a+b->¬c=a+b->a+b<c/\c<=a+d:=λp q r s=>And.intro (lt_of_le_of_ne (r▸p) (Ne.symm s)) (le_of_lt_succ q)
theorem I7:d<=b->d=c+a->¬b=c+a->a<=b-1-c:=λp q r=>le_sub_of_add_le (le_sub_one_of_lt (add_comm _ _▸lt_of_le_of_ne (q▸p) (Ne.symm r)))
theorem Ib:d<=a->a<b+(c+1)->d=b+e->¬a=b+e->a-1-b<c:=λp q r s=>Nat.sub_lt_left_of_lt_add (le_sub_one_of_lt (lt_of_le_of_lt (le_add_right _ _) (lt_of_le_of_ne (r▸p) (Ne.symm s)))) (pl (lt_of_le_of_lt (zero_le _) (lt_of_le_of_ne (r▸p) (Ne.symm s))) q)
theorem FW:c<=b->c=a+d->¬b=a+d->a+(b-1-a)=b-1:=λp q r=>add_sub_of_le (le_sub_one_of_lt (lt_of_le_of_lt (le_add_right _ _) (lt_of_le_of_ne (q▸p) (Ne.symm r))))
theorem Jm:c<=f->f=a+b->¬(a+b<c/\c<=a+d):=λp q=>λe=>not_lt_of_le (q▸p) e.1
theorem EJ:b<=a->a<=d->¬a=b+c->d=b+c->a-b<c:=λp q r s=>Nat.sub_lt_left_of_lt_add p (lt_of_le_of_ne (s▸q) r)
theorem j6:a<=b->a+(b-a)=b:=λp=>Nat.add_sub_cancel' p
theorem Is:c<=e->e<a+(d+1)->a+b<c->a+b<c/\c<=a+d:=λp q r=>And.intro r (le_of_lt_succ (lt_of_le_of_lt p q))
theorem EM:e<=c->c<a+(d+1)->a+b<e->a+b<c/\c<=a+d:=λp q r=>And.intro (lt_of_lt_of_le r p) (le_of_lt_succ q)
theorem Fk:a+c<b->a<=b-1:=λp=>nxe (le_sub_one_of_lt p)
theorem Gp:a<=b->a-1<=b-1:=λp=>sub_le_sub_right p _
theorem IF:d<=a->a<b+(c+1)->b+e<d->a-1<b+c:=λp q r=>pl (lt_of_le_of_lt (zero_le _) (lt_of_lt_of_le r p)) q
theorem zy:¬a+b<c->¬(a+b<c/\c<=a+d):=λp=>λe=>p e.1
theorem HG:c<a+(d+1)->a+b<c->a+b<c/\c<=a+d:=λp q=>And.intro q (le_of_lt_succ p)
theorem C3:¬c+d<a->c+d<b->a<=b-1:=λp q=>le_trans (le_of_not_lt p) (le_sub_one_of_lt q)
theorem Jp:a<b+(c+1)->b+d<a->a-1<b+c:=λp q=>pl (lt_of_le_of_lt (zero_le _) q) p
theorem C9:d<=c->¬a=b+d->¬b+d<a->a<b+c:=λp q r=>lt_of_lt_of_le (lt_of_le_of_ne (le_of_not_lt r) q) (add_le_add_left p _)
theorem E1:min (max (max a 1) b) b=b:=min_eq_right (le_max_right _ _)
theorem Js:c<=a->a<=b->b<c+min (max d 1) e->d=0->a=b:=λp q r s=>le_antisymm q (le_trans (le_of_lt_succ (lt_of_lt_of_le r (add_le_add_left (le_trans (min_le_left (max d 1) e) (by rw[s]; decide:max d 1<=1)) _))) p)
theorem GL:a<b+min (max c 1) d->¬c=0->a<b+c:=λp q=>lt_of_lt_of_le p (add_le_add_left (le_trans (min_le_left _ _) (Nat.max_le.mpr ⟨le_refl _,Nat.pos_of_ne_zero q⟩)) _)
theorem F9{a b c:Int}:a<c->c<b->¬a=b:=λp q=>Int.ne_of_lt (Int.lt_of_lt_of_le p (Int.le_of_lt q))
theorem Dk{a b c:Int}:a<c->c<b->a<b:=λp q=>Int.lt_of_lt_of_le p (Int.le_of_lt q)
theorem HK{a:Prop}{b c:Int}:¬b=c->¬b<c->¬c<b->a:=λp q r=>absurd (Int.le_antisymm (not_lt.mp r) (not_lt.mp q)) p
theorem Gy:a<=b->a<=b+c:=λp=>le_trans p (le_add_right _ _)
theorem yK:a<=b->a<b+1:=λp=>lt_succ_of_le p
theorem JD:a<b->a<b+c:=λp=>lt_of_lt_of_le p (le_add_right _ _)
theorem EK:a<b->b<a->False:=λp q=>absurd q (not_lt_of_le (le_of_lt p))
theorem EW{a:Prop}{b:Nat}:1<=b->0=b->a:=λp q=>absurd (lee p q) (by decide)
theorem yw:2<=a->a=a-1+1:=λp=>(sub_add_cancel (le_of_succ_le p)).symm
theorem sq:b=a->0+(a-0)<=b:=λp=>by rw[zero_add]; exact le_of_eq p.symm
theorem ED:b=a->0+min (a-0) a<=b:=λp=>by rw[p,zero_add]; exact min_le_right _ _
theorem JI:a<b->a<=min (b-0) b:=λp=>le_min.mpr ⟨le_of_lt p,le_of_lt p⟩
theorem IG:min (a-0) a=a:=min_self _
theorem CU:a<=b-0->¬a<b->a=b:=λp q=>le_antisymm (le_trans p (sub_le _ _)) (le_of_not_lt q)
theorem HX{a b:Prop}{c:Nat}:2<=c->max 0 c=0->a/\b:=by intro p q; lia
theorem zK:b=a->0+a<=b:=λp=>by rw[p,zero_add]; exact le_refl _
theorem yl:a=b->a<=b:=λp=>le_of_eq p
theorem DG:1<=b->a<=a+b-1:=λp=>le_sub_of_add_le (add_le_add_left p _)
theorem F8{a b c:Prop}{d e:Nat}:2<=e->max 0 e=0->a/\b/\c/\d=1:=λp q=>absurd q (ne_of_gt (lt_of_lt_of_le (by decide) (le_trans p (le_max_right 0 _))))
theorem Jx{a b:Int}:0<=a->(a.toNat<b.toNat↔a<b):=λp=>by rw[Int.lt_toNat,toNat_of_nonneg p]
theorem GS{a:Int}:¬0<=a->a<0:=λp=>not_le.mp p
theorem Ep{a:Int}{b:Nat}:b<=2^22->a<b->a<(2:Int)^(63:Nat):=λp q=>Int.lt_of_lt_of_le q (Int.le_trans (ofNat_le.mpr p) (by decide))
theorem Di{a:Int}{b:Nat}:b<=2^22->-b<=a->-(2:Int)^(63:Nat)<=a:=λp q=>Int.le_trans (Int.le_trans (by decide) (Int.neg_le_neg (ofNat_le.mpr p))) q
theorem yN{a:Int}:0<=a->¬a<0:=λp=>not_lt.mpr p
theorem GK{a:Int}:-(2:Int)^(22:Nat)<=a/\a<(2:Int)^(22:Nat)->-(2:Int)^(63:Nat)<=a:=λp=>Int.le_trans (by decide) p.1
theorem Ev{a:Int}:-(2:Int)^(22:Nat)<=a/\a<(2:Int)^(22:Nat)->a<(2:Int)^(63:Nat):=λp=>Int.lt_trans p.2 (by decide)
theorem FX:b<=2^22->a=b->a<=2^24:=λp q=>le_trans (ele q p) (by decide)
theorem ov:b=c->a<c->a<b:=λp q=>lte q p
theorem Ga:a=c->¬b<c->min a a<=b:=λp q=>mne (ele p (le_of_not_lt q))
theorem zG:¬c<a->min a b<=c:=λp=>mnl (le_of_not_lt p)
theorem Db:a<64->a<=16777216+1:=λp=>le_trans (le_of_lt p) (by decide)
theorem zr:a<64->a<=16777216:=λp=>le_trans (le_of_lt p) (by decide)
theorem ES:a<2->a<=1:=λp=>le_of_lt_succ p
theorem Dh:¬a<2->1<=a:=λp=>le_trans (le_add_left _ _) (le_of_not_lt p)
theorem FU:b=a->¬b<2->¬a<2:=λp q=>not_lt_of_le (le_trans (le_of_not_lt q) (le_of_eq p))
theorem y8:¬a<2->2<=a:=λp=>le_of_not_lt p
theorem yW:b<=a->¬a<b:=λp=>not_lt_of_le p
theorem Ju:a<=1000000->a<=16777216:=λp=>le_trans p (by decide)
theorem zC:a<=1000000->a<=2^22:=λp=>le_trans p (by decide)
theorem Dq:a=b->a=b:=by intro p; omega
theorem zH:b<64->a=b->a<=16777216:=λp q=>le_trans (le_of_lt (elt q p)) (by decide)
theorem CS:a+200<b->a+1+1<b:=λp=>lt_of_le_of_lt (add_le_add_left (by decide:2<=200) a) p
theorem zc:b<64->a=b->a<64:=λp q=>elt q p
theorem zM:a<64->a<=2^22:=λp=>le_trans (le_of_lt p) (by decide)
theorem EE{a b:Nat}:a=b->b<=2^22->(↑a:Int)<(2:Int)^(63:Nat):=λp q=>Int.lt_of_le_of_lt (ofNat_le.mpr (ele p q)) (by decide)
theorem CR{a b:Nat}:a=b->b<=2^22->¬(↑a:Int)≥(2:Int)^(63:Nat):=λp q=>λg=>absurd (Int.le_trans g (ofNat_le.mpr (le_trans (le_of_eq p) q))) (by decide)
theorem Jw{a b:Nat}{c:Prop}:a=b->b<=2^22/\c->a<=2^24:=λp q=>le_trans (ele p q.1) (by decide)
theorem oj:a<128->a<=16777216:=λp=>le_trans (le_of_lt p) (by decide)
theorem Ef:2<=a->¬a<2:=λp=>not_lt_of_le p
theorem Ft:2<=a->2<=a:=by intro p; omega
theorem x8:a<128->a<=16777216+1:=λp=>le_trans (le_of_lt p) (by decide)
theorem sX:b<128->a=b->a<=16777216:=λp q=>le_trans (le_of_lt (elt q p)) (by decide)
theorem C7:¬b<64->a=b->2<=a:=λp q=>le_trans (le_add_left _ _) (lee (le_of_not_lt p) q)
theorem zp:b<128->a=b->a<128:=λp q=>elt q p
theorem zq:a<128->a<=2^22:=λp=>le_trans (le_of_lt p) (by decide)
theorem EQ:a+100*c+200<b->a+200<b:=λp=>lt_of_le_of_lt (add_le_add_right (le_add_right _ _) 200) p
theorem Ig:a+100*c+300<b->a+200<b:=λp=>lt_of_le_of_lt (add_le_add (le_add_right _ _) (by decide)) p
theorem zN:a+200<d->b+1<=64->a+1+min b c<d:=λp q=>lt_of_le_of_lt (le_trans (le_of_eq (add_assoc _ 1 _)) (add_le_add_left (le_trans (add_le_add_left (min_le_left _ _) 1) (le_trans (le_of_eq (add_comm 1 _)) (le_trans q (by decide)))) _)) p
theorem yF:a+200<b->a+1<b:=λp=>lt_of_le_of_lt (succ_le_succ (le_add_right _ _)) p
theorem zz:a+200<d->b<=64->a+min b c<d:=λp q=>lt_of_le_of_lt (add_le_add_left (le_trans (min_le_left _ _) (le_trans q (by decide))) _) p
theorem ym{a b:Nat}{c:Prop}{d:Nat}:b<1000/\c->a=d->d=b->a<=2^24:=λp q r=>le_trans (le_of_lt (elt q (elt r p.1))) (by decide)
theorem yu{a b:Nat}{c:Prop}{d:Nat}:b<1000/\c->d=b->a=d->a<=2^22:=λp q r=>le_trans (le_of_lt (elt r (elt q p.1))) (by decide)
theorem GY{a b:Int}:-(2:Int)^(60:Nat)<=a/\a<(2:Int)^(60:Nat)/\-(2:Int)^(60:Nat)<=b/\b<(2:Int)^(60:Nat)->-(2:Int)^(62:Nat)<=a:=λp=>Int.le_trans (by decide) p.1
theorem El{a b:Int}:-(2:Int)^(60:Nat)<=a/\a<(2:Int)^(60:Nat)/\-(2:Int)^(60:Nat)<=b/\b<(2:Int)^(60:Nat)->a<(2:Int)^(62:Nat):=λp=>Int.lt_trans p.2.1 (by decide)
theorem IJ{a b:Int}:-(2:Int)^(60:Nat)<=b/\b<(2:Int)^(60:Nat)/\-(2:Int)^(60:Nat)<=a/\a<(2:Int)^(60:Nat)->-(2:Int)^(62:Nat)<=a:=λp=>Int.le_trans (by decide) p.2.2.1
theorem EF{a b:Int}:-(2:Int)^(60:Nat)<=b/\b<(2:Int)^(60:Nat)/\-(2:Int)^(60:Nat)<=a/\a<(2:Int)^(60:Nat)->a<(2:Int)^(62:Nat):=λp=>Int.lt_trans p.2.2.2 (by decide)
theorem Hv{a b:Int}:(a-b).toNat<=(1000000:Nat)->(a-b).toNat<=(2:Nat)^(22:Nat):=λp=>le_trans p (by decide)
theorem sJ:b<a->a+1-(b+1)<a+1-b:=λp=>Nat.sub_lt_sub_left (lt_succ_of_lt p) (Nat.lt_succ_self _)
theorem Ht{a b:Nat}{c:Prop}{d:Nat}:b<=2^22/\c->a<=d->d<b->a<=2^24:=λp q r=>le_trans q (le_trans (le_trans (le_of_lt r) p.1) (by decide))
theorem yq:a<=b->¬a<b->a=b:=λp q=>le_antisymm p (le_of_not_lt q)
theorem GP:a<=0->a=0:=λp=>Nat.eq_zero_of_le_zero p
theorem yL:a<=b+1->¬a=b+1->a<=b:=λp q=>le_of_lt_succ (lt_of_le_of_ne p q)
theorem GR{a b c:Int}:b>c->a<=c->a<=b:=λp q=>Int.le_trans q (Int.le_of_lt p)
theorem Dx{a b:Int}:¬a>b->a<=b:=λp=>not_lt.mp p
theorem Ff:0<b->a<=b-1->a<b:=λp q=>lt_of_le_of_lt q (sub_lt p (by decide))
theorem sv:a<b->a<=b-1:=λp=>le_sub_one_of_lt p
theorem zS{a:Nat}:¬(↑a:Int)<(0:Int):=not_lt.mpr (natCast_nonneg _)
theorem lv:¬b<a->a<=b:=λp=>le_of_not_lt p
theorem Fe:a<20->a<30:=λp=>lt_of_lt_of_le p (by decide)
theorem EA:-(2:Int)^(62:Nat)<=(0:Int):=by decide
theorem IY:(0:Int)<(2:Int)^(62:Nat):=by decide
theorem ze{a:Nat}{b:Prop}:a<=2^22/\b->a<=2^24:=λp=>le_trans p.1 (by decide)
theorem Dr{a:Int}{b:Nat}{c:Prop}{d:Nat}:¬(c\/a<0\/d<=a)->b=d->a.toNat<b:=λp q=>q▸(Int.toNat_lt (not_lt.mp λg=>p (.inr (.inl g)))).mpr (not_le.mp λg=>p (.inr (.inr g)))
theorem F3{a:Int}{b:Prop}{c:Nat}{d:Prop}:¬(b\/a<0\/c<=a)->c<=2^22/\d->(-9223372036854775808:Int)<=a/\a<9223372036854775808:=λp q=>And.intro (Int.le_trans (by decide) (not_lt.mp λg=>p (.inr (.inl g)))) (Int.lt_trans (not_le.mp λg=>p (.inr (.inr g))) (Int.lt_of_le_of_lt (ofNat_le.mpr q.1) (by decide)))
theorem yP:a<=1000000->a<=2^24:=λp=>le_trans p (by decide)
theorem DA:a+2*b+5<c->a+1+2*b+4<c:=λp=>by rw[add_right_comm _ 1]; exact p
theorem Hy:a+100*b+303<c->a+3+100*b+300<c:=λp=>by rw[add_right_comm _ 3]; exact p
theorem IP:a+2*(c+1)+4<b/\d+100*(c+1)+300<e->a<b:=λp=>nxl (nxl p.1)
theorem Jc:a+100*b+303<=a+100*(b+1)+300:=by lia
theorem G9:a<=8->a<=16777216:=λp=>le_trans p (by decide)
theorem Ij:a<=1->1+3*a<=50:=λp=>le_trans (add_le_add_left (Nat.mul_le_mul_left 3 p) 1) (by decide)
theorem HW:b<=50->a+b<=a+50:=λp=>add_le_add_left p _
theorem GV:a+2*(c+1)+4<b->a+1<b:=λp=>lt_of_le_of_lt (add_le_add (le_add_right _ _) (by decide)) p
theorem HP:a+2*(b+1)+4<c->a+1+2*b+5<c:=λp=>by rw[add_right_comm _ 1]; exact p
theorem CO:a<=c+50->a+100*b+303<=c+100*(b+1)+300:=by intros; lia
theorem Ip:1<=a+1+0/\a+1+0<=a+1/\a+1<=2*(a+1+0):=And.intro (succ_pos _) (And.intro (le_refl _) (Nat.le_mul_of_pos_left _ (by decide)))
theorem GI{a:Nat}:2<=a+1->a=a-1+1:=λp=>(sub_add_cancel (Nat.le_of_succ_le_succ p)).symm
theorem Jo:a+1+1<128->(a+1+1)/2<64:=λp=>Nat.div_lt_of_lt_mul p
theorem DC{a:Nat}:1<=(a+1+1)/2+max 0 ((a+1+1)%2)/\(a+1+1)/2+max 0 ((a+1+1)%2)<=a+1+1/\a+1+1<=2*((a+1+1)/2+max 0 ((a+1+1)%2)):=by
 rw[Nat.zero_max,show a+1+1=a+2 from rfl,Nat.add_div_right a (by decide),Nat.add_mod_right]
 exact ⟨le_trans (le_add_left 1 _) (le_add_right _ _),le_trans (le_of_eq (add_right_comm _ 1 _)) (le_succ_of_le (succ_le_succ (le_trans (add_le_add_right (Nat.le_mul_of_pos_left _ (by decide)) _) (le_of_eq (Nat.div_add_mod a 2))))),le_trans (succ_le_succ (succ_le_succ (le_of_eq (Nat.div_add_mod a 2).symm))) (le_trans (le_of_eq (add_right_comm _ (a%2) 2)) (le_trans (add_le_add_left (Nat.le_mul_of_pos_left (a%2) (by decide:0<2)) (2*(a/2)+2)) (le_of_eq (by rw[Nat.mul_add,Nat.mul_add]))))⟩
theorem Ek:c=a->0+min (a-0) b<=c:=λp=>by rw[zero_add,p]; exact min_le_left _ _
theorem Du:c<=b->a<c->a<=min (b-0) c:=λp q=>le_min.mpr ⟨le_trans (le_of_lt q) p,le_of_lt q⟩
theorem I8:b<=a->min (a-0) b=b:=λp=>min_eq_right p
theorem HI:a<=b->a≥b->a=b:=λp q=>le_antisymm p q
theorem FM:¬a≥b->c=b->a+(b-a)<=c:=λp q=>le_of_eq ((add_sub_of_le (le_of_lt (lt_of_not_le p))).trans q.symm)
theorem Da:¬b≥a->1<=a-b:=λp=>succ_le_of_lt (sub_pos_of_lt (lt_of_not_le p))
theorem Eg:1<=b->b<=a->1<=a:=λp q=>le_trans p q
theorem I6:c=b->1<=d->d<=b-a->a+(b-a)=c:=λp q r=>(add_sub_of_le (le_of_lt (lt_of_sub_pos (lt_of_lt_of_le q r)))).trans p.symm
theorem Eu:a<=c->c<0+b->a<b:=λp q=>lt_of_le_of_lt p (zero_add b▸q)
theorem sR:a<0+b->a<b:=λp=>zero_add b▸p
theorem Jz:d=b->1<=e->e<=b-a->a+min (b-a) c<=d:=λp q r=>le_trans (add_le_add_left (min_le_left _ _) _) (le_of_eq ((add_sub_of_le (le_of_lt (lt_of_sub_pos (lt_of_lt_of_le q r)))).trans p.symm))
theorem Ec:b<=2*d->d<=c->a<=b-c->a<=min (b-c) d:=λp q r=>le_min.mpr ⟨r,le_trans r (Nat.sub_le_of_le_add (le_trans p (two_mul d▸add_le_add_left q _)))⟩
theorem E5:a<=2*c->c<=b->min (a-b) c=a-b:=λp q=>min_eq_left (Nat.sub_le_of_le_add (le_trans p (two_mul c▸add_le_add_left q _)))
theorem Ej:b<=2*d->d<=c->a<=b-c->¬a<d->a=b-c:=λp q r s=>le_antisymm r (le_trans (Nat.sub_le_of_le_add (le_trans p (two_mul d▸add_le_add_left q _))) (le_of_not_lt s))
theorem HA{a b c:Prop}{d:Nat}:2<=d->max 0 d=0->a/\(b\/c):=λp q=>by rw[Nat.zero_max] at q; rw[q] at p; exact absurd p (by decide)
theorem FD:2<=b->max 0 b=1\/a=b->a=b:=by intros; lia
theorem Id:a=2->¬a<=1:=λp=>not_le_of_lt (lte (Nat.lt_succ_self _) p)
theorem JA:d=e->a+b=d->c=e->a+b=c:=λp q r=>Eq.trans q (Eq.trans p (Eq.symm r))
theorem Ja{a:Nat}{b:Prop}:2<=a->max 0 a=0/\b->False:=by intro p q; lia
theorem Hf:a+b<=1000000->a+b<=2^22:=λp=>le_trans p (by decide)
theorem Ji:a+b<=1000000->a+b<=2^24:=λp=>le_trans p (by decide)
theorem G0{a:Nat}{b:Int}:¬(b=0\/(1000000000:Nat)<=a)->a<1073741824:=λp=>lt_trans (lt_of_not_le λg=>p (.inr g)) (by decide)
theorem FE{a:Int}{b:Nat}:(0:Int)<=a/\a<=(1000:Int)/\b<(2:Nat)^(63:Nat)->a<=1000000:=λp=>Int.le_trans p.2.1 (by decide)
theorem Fl{a:Nat}{b:Int}:(0:Int)<=b/\b<=(1000:Int)/\a<(2:Nat)^(63:Nat)->a<2^64:=λp=>lt_trans p.2.2 (by decide)
theorem C1:a<=60->1+300+2*a+4<1000:=λp=>lt_of_le_of_lt (add_le_add_right (add_le_add_left (Nat.mul_le_mul_left 2 p) _) 4) (by decide)
theorem Jh:a<=60->4+100*a+300<9900:=λp=>lt_of_le_of_lt (add_le_add_right (add_le_add_left (Nat.mul_le_mul_left 100 p) _) 300) (by decide)
theorem E9:a<=50->a+1<=60:=λp=>le_trans (succ_le_succ p) (by decide)
theorem C2{a:Int}{b:Nat}:0<=a/\a<b->a.toNat<b:=λp=>tln p.1 p.2
theorem GQ:a<=b+(a-b):=Nat.sub_le_iff_le_add'.mp (le_refl _)
theorem yk:¬b<=a->a<=b:=λp=>le_of_lt (lt_of_not_le p)
theorem sw:b<min d (c-a)->a+b<c:=λp=>Nat.add_lt_of_lt_sub' (lt_of_lt_of_le p (Nat.min_le_right _ _))
theorem Dd:a<min b (c-d)->a<b:=λp=>lt_of_lt_of_le p (min_le_left _ _)
theorem oC:b<c-a->a+b<c:=λp=>Nat.add_lt_of_lt_sub' p
theorem Dc:b<=d->a+d<c->a+b<c:=λp q=>lt_of_le_of_lt (add_le_add_left p _) q
theorem GW:b<=a->d+a<c->a-b<c-(d+b):=λp q=>lt_sub_of_add_lt (elt (by rw[Nat.add_left_comm,sub_add_cancel p]) q)
theorem HV:c<=b->a+b=a+c+(b-c):=λp=>by rw[add_assoc,add_sub_of_le p]
theorem yn:a<=c->c<b->a<b:=λp q=>lt_of_le_of_lt p q
theorem yr:a<=c->c<=b->a<=b:=λp q=>le_trans p q
theorem H0:a+1=b->a<b:=λp=>lt_of_succ_le (le_of_eq p)
theorem Im:b+1=a->a<=b+1:=λp=>le_of_eq (Eq.symm p)
theorem E3:a+1=c->c=b->a=b-1:=λp q=>by subst q; subst p; rfl
theorem zo:a<b->a+1≠b->a+1<b:=λp q=>lt_of_le_of_ne (succ_le_of_lt p) q
theorem HD:a<=b+c->a+1<=b+(c+1):=λp=>succ_le_succ p
theorem ye:a<=b+c->a+1<=b+1+c:=λp=>le_trans (succ_le_succ p) (le_of_eq (add_right_comm b c 1))
theorem Df:a+1<b->a+1+1≠b->a+1+1<b:=λp q=>lt_of_le_of_ne (succ_le_of_lt p) q
theorem Hh:a+1<b->a+1+(b-(a+1))<=b:=λp=>le_of_eq (Nat.add_sub_cancel' (le_of_lt p))
theorem Go:b+1<a->0<a-(b+1):=λp=>sub_pos_of_lt p
theorem FN:a+1+b+c<d->a+1+(b+c)<d:=λp=>elt (add_assoc _ _ _).symm p
theorem yi:a<=a+b:=le_add_right _ _
theorem DZ:d+1+a+b<e->e=c->a+b<c-(d+1):=λp q=>lt_sub_of_add_lt (q▸elt (by rw[add_comm,<- add_assoc]) p)
theorem FV:b<=c-(a+1)->b>0->a+1+b≠c->a+1+b<c:=λp q r=>lt_of_le_of_ne (Nat.add_le_of_le_sub' (le_of_lt (lt_of_sub_pos (lt_of_lt_of_le q p))) p) r
theorem HC:a<=b+c->a<=b+(c+1+d):=λp=>le_trans p (add_le_add_left (nxe (le_add_right _ _)) _)
theorem Jl:a<=b+c->a<=b+(c+1):=λp=>le_trans p (add_le_add_left (le_add_right _ _) _)
theorem FC:a+1<b->a+(b-a)<=b:=λp=>le_of_eq (add_sub_of_le (le_of_lt (Nat.lt_of_succ_lt p)))
theorem Fu:b+1<a->0<a-b:=λp=>sub_pos_of_lt (nxl p)
theorem Hj:a+b+c<d->a+(b+c)<d:=λp=>elt (add_assoc _ _ _).symm p
theorem Dj:d+a+b<e->e=c->a+b<c-d:=λp q=>lt_sub_of_add_lt (q▸elt (by rw[add_comm,<- add_assoc]) p)
theorem FB:b<=c-a->b>0->a+b+1≠c->a+b≠c->a+b+1<c:=λp q r s=>lt_of_le_of_ne (lt_of_le_of_ne (Nat.add_le_of_le_sub' (le_of_lt (lt_of_sub_pos (lt_of_lt_of_le q p))) p) s) r
theorem Ge:a<=b+d->a<=b+c+d:=λp=>le_trans p (add_le_add (le_add_right _ _) (le_refl _))
theorem HL:a+b<=c+1->d+1<a->e<b->c<=d+e->False:=λp q r s=>lt_irrefl _ (lt_of_lt_of_le (Nat.add_lt_add q r) (le_trans p (le_trans (succ_le_succ s) (le_of_eq (add_right_comm d e 1)))))
theorem CT:a+b<=c+1+(a+b)+1:=le_succ_of_le (le_add_left _ _)
theorem zf:a+2<=a+1+b+1:=succ_le_succ (le_add_right _ _)
theorem II:a+b<=c+2+(a+b)+1:=le_succ_of_le (le_add_left _ _)
theorem ya:a+2<=a+2+b+1:=le_succ_of_le (le_add_right _ _)
theorem sS:1<=a->a-1<a:=λp=>sub_lt (lt_of_succ_le p) (by decide)
theorem GG:a+b<=1+(a+b)+1:=le_succ_of_le (le_add_left _ _)
theorem IB:a+b<=a+b+1+1:=le_succ_of_le (le_add_right _ _)
theorem Hb:a<=a+1:=le_add_right _ _
theorem x9:a+1-a=1:=add_sub_cancel_left _ _
theorem JF:a<min c b->a<b:=λp=>lt_of_lt_of_le p (min_le_right _ _)
theorem Iw:a<min b c->a<b:=λp=>lt_of_lt_of_le p (min_le_left _ _)
theorem HY:a<=f->f+b+c<=d+e->a+b+c<=d+e:=λp q=>le_trans (add_le_add_right (add_le_add_right p _) _) q
theorem DF:a+b<=c->1<d->c+e+d<=a+b->False:=λp q r=>lt_irrefl c (lt_of_lt_of_le (lt_of_le_of_lt (le_add_right c e) (lt_add_of_pos_right (lt_trans one_pos q))) (le_trans r p))
theorem sj:a≠0->0<a:=λp=>Nat.pos_of_ne_zero p
theorem C4:0<a->a≠1->1<a:=λp q=>lt_of_le_of_ne p (Ne.symm q)
theorem tB:0<a->a<=b->a-1<b:=λp q=>lt_of_lt_of_le (sub_lt p (by decide)) q
theorem sC:1<a->a<=b->a-1<b:=λp q=>lt_of_lt_of_le (sub_lt (lt_of_le_of_lt (zero_le _) p) (by decide)) q
theorem ot:a-1<b->a-1<=b:=λp=>le_of_lt p
theorem yM:0<b->a+b+c<=d+e->a+1+(b-1)+c<=d+e:=λp q=>by rw[add_assoc a 1,add_sub_of_le p]; exact q
theorem oE:1<a->0<a:=λp=>lt_of_le_of_lt (zero_le _) p
theorem JH:1<a->0<a-1:=λp=>lt_sub_of_add_lt p
theorem C0:1<c->a+b+c<=d+e->a+1+b+(c-1)<=d+e:=λp q=>by rw[add_right_comm a 1 b,add_assoc (a+b) 1,add_sub_of_le (le_of_lt p)]; exact q
theorem Jr:a-1≠0->0<a-1:=λp=>Nat.pos_of_ne_zero p
theorem CX:1<a->a-1≠1->1<a-1:=λp q=>lt_of_le_of_ne (le_sub_one_of_lt p) (Ne.symm q)
theorem Fi:a-1<b->0+(a-1)<=b:=λp=>by rw[zero_add]; exact le_of_lt p
theorem F0:1<a-1->a-1-1<a-1:=λp=>sub_lt (lt_of_le_of_lt (zero_le _) p) (by decide)
theorem EI:a+b+c<=d+e->a+b+(c-1)<=d+e:=λp=>adE (sub_le _ _) p
theorem Fo:b<c-1-a->a+b<c-1:=λp=>Nat.add_lt_of_lt_sub' p
theorem Iz:a≠1->a≠0->1<a:=λp q=>lt_of_le_of_ne (Nat.pos_of_ne_zero q) (Ne.symm p)
theorem FS:c-1<b->a<=c-1->a<=b:=λp q=>le_trans q (le_of_lt p)
theorem Dv:a+b+f<=d+e->f-1-c>0->a+b+c<=d+e:=λp q=>le_trans (add_le_add_left (le_trans (le_of_lt (lt_of_sub_pos q)) (sub_le _ _)) _) p
theorem HO:a<=b-1->¬b-1-a>0->a=b-1:=λp q=>le_antisymm p (le_of_sub_eq_zero (Nat.eq_zero_of_not_pos q))
theorem JG:a<=b->0+a<=b:=λp=>by rw[zero_add]; exact p
theorem GZ:0<a->a-1<a:=λp=>sub_lt p (by decide)
theorem Fz:c<=b->a<=c->a<=b:=λp q=>le_trans q p
theorem DH:a+f+c<=d+e->b<=f->a+b+c<=d+e:=λp q=>le_trans (add_le_add (add_le_add_left q _) (le_refl _)) p
theorem HR:a<=b->¬b-a>0->a=b:=λp q=>le_antisymm p (le_of_sub_eq_zero (Nat.eq_zero_of_not_pos q))
theorem Do:a+b<=c+1+(a+b):=le_add_left _ _
theorem Je:a+b<=c+2+(a+b):=le_add_left _ _
theorem F6:a+b<=1+(a+b):=le_add_left _ _
theorem CV:a+b<=a+b+1:=le_add_right _ _
theorem IL:a+b+(d+1)<=c->a+b<c:=λp=>lt_of_lt_of_le (lt_add_of_pos_right (succ_pos _)) p
theorem DV:a+b+(c+1)<=d->a+(b+1)+c<=d:=λp=>ele (by rw[<- add_assoc,<- add_assoc,add_right_comm]) p
theorem Jg:a+(b+1)-(a+b)=1:=by rw[<- add_assoc,add_sub_cancel_left]
theorem Dz:min (a+b) c<=a+(b+1):=mnl (add_le_add_left (le_add_right _ _) _)
theorem HT:min (a+b) c<=a+(b+1)+d:=mnl (le_trans (add_le_add_left (le_succ _) _) (le_add_right _ _))
theorem Ew:a+(b+1)+c-(a+b)=c+1:=by rw[<- add_assoc,add_assoc (a+b) 1,add_sub_cancel_left,add_comm]
theorem Ic:a+b+1+c=a+b+(c+1):=add_right_comm _ _ _
theorem JE:b<min c (d-a)->a+b<a+c:=λp=>add_lt_add_left (lt_of_lt_of_le p (min_le_left _ _)) _
theorem yD:a<b->a<0+b:=λp=>lt_of_lt_of_le p (le_add_left _ _)
theorem Fv:b+c=d->a<0+d->a<b+c:=λp q=>by rw[p]; rw[zero_add] at q; exact q
theorem Fp:0+a<=a:=by lia
theorem EL:a+c=b->1<=c->a<b:=λp q=>lt_of_lt_of_le (lt_add_of_pos_right (lt_of_succ_le q)) (le_of_eq p)
theorem Ee:a+c=b->0+a<=b:=λp=>by subst p; rw[zero_add]; exact le_add_right _ _
theorem Hu:a<=b->b-a=0->a=b:=λp q=>le_antisymm p (le_of_sub_eq_zero q)
theorem tS:b+c=d->a<d->a<b+c:=λp q=>lte q p
theorem Gz:b-a≠0->a<b:=λp=>Nat.lt_of_sub_ne_zero p
theorem DE:b<c->a<b->0+a+(b-a)-1<c:=λp q=>lt_of_le_of_lt (sub_le _ _) (by rw[zero_add,add_sub_of_le (le_of_lt q)]; exact p)
theorem G3:a<b->0+a+(b-a)-1=b-1:=λp=>by rw[zero_add,add_sub_of_le (le_of_lt p)]
theorem HJ:a+b=c->a+b<=c:=λp=>le_of_eq p
theorem yh:1<=a->a-1<0+a:=λp=>lt_of_lt_of_le (sub_lt (lt_of_succ_le p) (by decide)) (le_add_left _ _)
theorem y4:b+c=d->1<=c->a<d->a-b<c:=λp q r=>by subst p; exact (Nat.lt_or_ge a b).elim (λg=>by rw[Nat.sub_eq_zero_of_le (le_of_lt g)]; exact q) (λg=>Nat.sub_lt_left_of_lt_add g r)
theorem Ik:a+d=b->min a b-c=a-c:=λp=>by subst p; rw[min_eq_left (le_add_right _ _)]
theorem IX:a+d=c->b<=d->min (a+b) c-a=b:=λp q=>by subst p; rw[min_eq_left (add_le_add_left q _),add_sub_cancel_left]
theorem EV:1<=b->0+c+(b-c)-1=b-1->a<c+(b-c)->a<0+b:=λp q r=>by rw[zero_add]; exact lt_of_lt_of_le r (le_of_eq (add_sub_of_le (wle p q)))
theorem EH:b+d=c->a<b->a+(b-a)<=c:=λp q=>by subst p; rw[add_sub_of_le (le_of_lt q)]; exact le_add_right _ _
theorem IZ:d<=c->a<b+d->a<b+c:=λp q=>lt_of_lt_of_le q (add_le_add_left p _)
theorem DI:a+d=c->b<=d->a+b<=c:=λp q=>adE q (le_of_eq p)
theorem zw:0<b->a=b->0<a:=λp q=>lte p q
theorem yS:b<c->a=c-b->a-1<a:=λp q=>sub_lt (lte (sub_pos_of_lt p) q) (by decide)
theorem DQ:d+e=c->1<=d->1<=e->0+a+(d-a)-1=d-1->b=d-a->a+(b-1)<c:=λp q r s t=>by subst p; subst t; exact lt_of_le_of_lt (add_le_add_left (sub_le _ 1) _) (elt (add_sub_of_le (wle q s)) (lt_add_of_pos_right r))
theorem Jt:a<c->b=c-a->a+(b-1)=c-1:=λp q=>by subst q; rw[<- Nat.add_sub_assoc (sub_pos_of_lt p),add_sub_of_le (le_of_lt p)]
theorem GM:1<=b->0+c+(b-c)-1=b-1->a<c+(b-c)->a<b:=λp q r=>lt_of_lt_of_le r (le_of_eq (add_sub_of_le (wle p q)))
theorem E2:b<=a->a<b+c->a-b<c:=λp q=>Nat.sub_lt_left_of_lt_add p q
theorem Eo:b+e=d->1<=b->0+a+(b-a)-1=b-1->c<=e->a+0+(b-a+c)<=d:=λp q r s=>by subst p; rw[add_zero,<- add_assoc,add_sub_of_le (wle q r)]; exact add_le_add_left s _
theorem yJ:1<=b->0+a+(b-a)-1=b-1->a+(b-a+c)=b+c:=λp q=>by rw[<- add_assoc,add_sub_of_le (wle p q)]
theorem FO:1<=b->0+a+(b-a)-1=b-1->a+(b-a)=b:=λp q=>add_sub_of_le (wle p q)
theorem H8:1<=b->0+d+(b-d)-1=b-1->a<d+(b-d)->a<b+c:=λp q r=>lt_of_lt_of_le r (le_trans (le_of_eq (add_sub_of_le (wle p q))) (le_add_right _ _))
theorem GC:a<c->c<=b->a<=b:=λp q=>le_trans (le_of_lt p) q
theorem CZ:c+a<=b->a<=b-c:=λp=>le_sub_of_add_le (ele (add_comm _ _) p)
theorem GD:a+c<=b->a+(b-a)=b:=λp=>Nat.add_sub_cancel' (nxe p)
theorem IN:a<c+d->c+d<=b->a<=b:=λp q=>le_trans (le_of_lt p) q
theorem Dm:c<b->a<0+c->a<0+b:=λp q=>lt_of_lt_of_le q (le_of_lt (add_lt_add_left p _))
theorem FZ:c+d=b->a<c->0+a<=b:=λp q=>by subst p; rw[zero_add]; exact le_trans (le_of_lt q) (le_add_right _ _)
theorem Jq:c+d=b->e<=d->a<c+e->a<b:=λp q r=>lt_of_lt_of_le r (adE q (le_of_eq p))
theorem FQ:a+c<=b->a<=b:=λp=>nxe p
theorem DD:d<=c->a<b+d+(c-d)->a<b+c:=λp q=>by rw[add_assoc,add_sub_of_le p] at q; exact q
theorem FT:a+c=d->b<=c->a+b+(c-b)<=d:=λp q=>by subst p; rw[add_assoc,add_sub_of_le q]; exact le_refl _
theorem FJ:b+d=a->a-(b+c)<=d-c:=λp=>by subst p; exact le_of_eq (Nat.add_sub_add_left _ _ _)
theorem Gn:a<c->c+d<=b->a<=b:=λp q=>le_trans (le_of_lt p) (nxe q)
theorem IT:b<a->1<=a-b:=λp=>succ_le_of_lt (sub_pos_of_lt p)
theorem yb:0<a->1<=a:=λp=>succ_le_of_lt p
theorem EX:¬a-b<=c->1<=a-b:=λp=>le_trans (le_add_left _ _) (succ_le_of_lt (lt_of_not_le p))
theorem DW:a+1+b=a+(b+1):=by lia
theorem IU:a+(b+1)=a+1+b:=by lia
theorem Hg:b=c->a=c->min a b=b:=λp q=>by subst q; subst p; exact min_self _
theorem Dy:b=c->a=c->b<128->a<=16777216:=λp q r=>by subst q; exact le_trans (le_of_lt (p▸r)) (by decide)
theorem GB:a=d->¬c<d->min a b<=c:=λp q=>mnl (ele p (le_of_not_lt q))
theorem Fm:b=c->b<128->a=0+d->d<c->a<=16777216:=λp q r s=>by subst r; rw[zero_add]; exact le_trans (le_of_lt s) (le_trans (le_of_lt (p▸q)) (by decide))
theorem Ha:b=c->b<128->a=0+d->d<c->a+1<=16777216+1:=λp q r s=>by subst r; rw[zero_add]; exact succ_le_succ (le_trans (le_of_lt s) (le_trans (le_of_lt (p▸q)) (by decide)))
theorem EN:a-b=0->a-b=0:=by intro p; omega
theorem D9:c=0+b->¬a<c->a-c=0->a=b:=λp q r=>by subst p; rw[zero_add] at q r; exact le_antisymm (le_of_sub_eq_zero r) (le_of_not_lt q)
theorem Jj:0+a=a:=by lia
theorem Fb:b<2->min a b<=1:=λp=>mne (le_of_lt_succ p)
theorem Gf:a=0+b->¬b<2->1<=a:=λp q=>by subst p; rw[zero_add]; exact le_trans (by decide:1<=2) (le_of_not_lt q)
theorem Ie:a=0+b->min a b=b:=λp=>by subst p; rw[zero_add]; exact min_self _
theorem E7{a:Nat}:(0:Int)+(↑a:Int)*(1:Int)=(↑a:Int):=by lia
theorem Hx:a<128->a<=2^24:=λp=>le_trans (le_of_lt p) (by decide)
theorem H9:b=c->a=c->a=b:=λp q=>Eq.trans q (Eq.symm p)
theorem Dp:a=c->¬b<c->a<=b:=λp q=>ele p (le_of_not_lt q)
theorem Fs{a b:Nat}{c d:Int}:c=d/\(↑a:Int)=(↑b:Int)->a=b:=by intro p; lia
theorem Ir{a:Nat}:-(2:Int)^(62:Nat)<=(↑a:Int):=by lia
theorem Fq{a:Nat}:a<128->(↑a:Int)<(2:Int)^(62:Nat):=λp=>Int.lt_of_lt_of_le (ofNat_lt.mpr p) (by decide)
theorem Et:a+2*c+4<b->a<b:=λp=>nxl (nxl p)
theorem IC:a+2*c+4<b->a+1+2*0+1<b:=λp=>show a+2<b from lt_of_le_of_lt (add_le_add (le_add_right a _) (by decide:2<=4)) p
theorem Em:a+100*c+300<b->a+1+1+3+100*0+200<b:=λp=>show a+205<b from lt_of_le_of_lt (add_le_add (le_add_right a _) (by decide:205<=300)) p
theorem FK:a<128->a<=1000:=λp=>le_trans (le_of_lt p) (by decide)
theorem Jy:b<127->a<=b->a+1<=1000000:=λp q=>le_trans (succ_le_of_lt (lt_of_le_of_lt q p)) (by decide)
theorem EZ:b<127->a<=b->a+1<128:=λp q=>Nat.add_lt_add_right (lt_of_le_of_lt q p) _
theorem Ih:a<127->a<128:=λp=>lt_of_lt_of_le p (by decide)
theorem I0{a b:Int}:b<a->¬a<=b:=not_le.mpr
theorem Hq:a<b->a+1<b+1:=λp=>Nat.add_lt_add_right p _
theorem HF:0<a->a-1+1=a:=λp=>sub_add_cancel (succ_le_of_lt p)
theorem DB:c<d->d<=0->a<=b:=λp q=>absurd (lt_of_lt_of_le p q) (not_lt_zero _)
theorem Jd:a<c->c<=b+1->a<=b:=λp q=>le_of_lt_succ (lt_of_lt_of_le p q)
theorem Hs{a b:Int}:0<=b->a.toNat<=b.toNat->a<=b:=λp q=>Int.le_trans (Int.self_le_toNat a) (Int.le_trans (ofNat_le.mpr q) (Int.le_of_eq (toNat_of_nonneg p)))
theorem y5{a b:Int}:b=a->a<=b:=λp=>Int.le_of_eq (Eq.symm p)
theorem zm{a b:Int}:a<=b->a<=b:=by intro p; omega
theorem FR{a b:Nat}:(↑a:Int)=(↑b:Int)->a=b:=by intro p; lia
theorem Fa{a b:Int}{c d:Nat}:-b<=-a/\(-a = -b->(↑c:Int)<=(↑d:Int))->a<=b:=by intro p; lia
theorem Il{a b:Int}:b=a->-a = -b:=by intro p; lia
theorem Fr:b<=100->a=b->a<128:=λp q=>lt_of_le_of_lt (ele q p) (by decide)
theorem zW{a:Int}{b c:Nat}:c=b->0<=a/\a<c->0<=a/\a<b:=by intro p q; lia
theorem HM:b<=100->c=b->a<=c->a<=100:=λp q r=>le_trans r (ele q p)
theorem DS:a<=100->a<=999:=λp=>le_trans p (by decide)
theorem D7:a<=100->a<=999999:=λp=>le_trans p (by decide)
theorem HE:a<=100->a<1000000:=λp=>lt_of_le_of_lt p (by decide)
theorem HU:b<=100->c=b->a<=c->a<128:=λp q r=>lt_of_le_of_lt r (lt_of_le_of_lt (ele q p) (by decide))
theorem lN:a+1=b+1->a=b:=by intros; lia
theorem He{a b c:Int}:a+(b+0)+c=c+a+b:=by lia
theorem HN{a b c d e:Int}:a<=c->b+d=c+e->d<=e->a<=b:=by intro p q r; lia
theorem F5{a:Int}{b:Nat}:0<=a/\a<b->0<=13+a:=λp=>add_nonneg (by decide) p.1
end
theorem az (h0:p0 ) (h1:p1 ):p0/\p1:=⟨h0,h1⟩
theorem fS (h0:p0 ) (h1:p1 ) (h2:p2 ):p0/\p1/\p2:=⟨h0,h1,h2⟩
theorem cE (h0:p0 ) (h1:p1 ) (h2:p2 ) (h3:p3 ):p0/\p1/\p2/\p3:=⟨h0,h1,h2,h3⟩
theorem cr (h0:p0 ) (h1:p1 ) (h2:p2 ) (h3:p3 ) (h4:p4 ):p0/\p1/\p2/\p3/\p4:=⟨h0,h1,h2,h3,h4⟩
theorem ow (h0:p0 ) (h1:p1 ) (h2:p2 ) (h3:p3 ) (h4:p4 ) (h5:p5 ):p0/\p1/\p2/\p3/\p4/\p5:=⟨h0,h1,h2,h3,h4,h5⟩
theorem b0{A:Sort u0}{p:A->Prop}(a:A):p a->∃ a,p a:=λp=>⟨a,p⟩
theorem ag{A:Sort u0}{p q:A->Prop}(a:A):p a->q a->∃ a,p a/\q a:=λp q=>⟨a,p,q⟩
theorem aL{A:Sort u0}{p q r:A->Prop}(a:A):p a->q a->r a->∃ a,p a/\q a/\r a:=λp q r=>⟨a,p,q,r⟩
theorem bD{A:Sort u0}{p q r s:A->Prop}(a:A):p a->q a->r a->s a->∃ a,p a/\q a/\r a/\s a:=λp q r s=>⟨a,p,q,r,s⟩
theorem iS{A:Sort u0}{p q r s t:A->Prop}(a:A):p a->q a->r a->s a->t a->∃ a,p a/\q a/\r a/\s a/\t a:=λp q r s t=>⟨a,p,q,r,s,t⟩
theorem j4{A:Sort u0}{p q r s t u:A->Prop}(a:A):p a->q a->r a->s a->t a->u a->∃ a,p a/\q a/\r a/\s a/\t a/\u a:=λp q r s t u=>⟨a,p,q,r,s,t,u⟩
theorem tC{A:Sort u0}{p q r s t u v:A->Prop}(a:A):p a->q a->r a->s a->t a->u a->v a->∃ a,p a/\q a/\r a/\s a/\t a/\u a/\v a:=λp q r s t u v=>⟨a,p,q,r,s,t,u,v⟩
theorem bG{A:Sort u0}{B:Sort u1}{p:A->B->Prop}(a:A)(b:B):p a b->∃ a b,p a b:=λp=>⟨a,b,p⟩
theorem ay{A:Sort u0}{B:Sort u1}{p q:A->B->Prop}(a:A)(b:B):p a b->q a b->∃ a b,p a b/\q a b:=λp q=>⟨a,b,p,q⟩
theorem bJ{A:Sort u0}{B:Sort u1}{p q r:A->B->Prop}(a:A)(b:B):p a b->q a b->r a b->∃ a b,p a b/\q a b/\r a b:=λp q r=>⟨a,b,p,q,r⟩
theorem bO{A:Sort u0}{B:Sort u1}{p q r s:A->B->Prop}(a:A)(b:B):p a b->q a b->r a b->s a b->∃ a b,p a b/\q a b/\r a b/\s a b:=λp q r s=>⟨a,b,p,q,r,s⟩
theorem bI{A:Sort u0}{B:Sort u1}{p q r s t:A->B->Prop}(a:A)(b:B):p a b->q a b->r a b->s a b->t a b->∃ a b,p a b/\q a b/\r a b/\s a b/\t a b:=λp q r s t=>⟨a,b,p,q,r,s,t⟩
theorem oG{A:Sort u0}{B:Sort u1}{p q r s t u:A->B->Prop}(a:A)(b:B):p a b->q a b->r a b->s a b->t a b->u a b->∃ a b,p a b/\q a b/\r a b/\s a b/\t a b/\u a b:=λp q r s t u=>⟨a,b,p,q,r,s,t,u⟩
theorem gQ{A:Sort u0}{B:Sort u1}{p q r s t u v:A->B->Prop}(a:A)(b:B):p a b->q a b->r a b->s a b->t a b->u a b->v a b->∃ a b,p a b/\q a b/\r a b/\s a b/\t a b/\u a b/\v a b:=λp q r s t u v=>⟨a,b,p,q,r,s,t,u,v⟩
theorem qu{p q r s t u v w x y:A->B->Prop}(a:A)(b:B):p a b->q a b->r a b->s a b->t a b->u a b->v a b->w a b->x a b->y a b->∃ a b,p a b/\q a b/\r a b/\s a b/\t a b/\u a b/\v a b/\w a b/\x a b/\y a b:=λp q r s t u v w x y=>⟨a,b,p,q,r,s,t,u,v,w,x,y⟩
theorem cB{A:Sort u0}{B:Sort u1}{C:Sort u2}{p q:A->B->C->Prop}(a:A)(b:B)(c:C):p a b c->q a b c->∃ a b c,p a b c/\q a b c:=λp q=>⟨a,b,c,p,q⟩
theorem cT{A:Sort u0}{B:Sort u1}{C:Sort u2}{p q r:A->B->C->Prop}(a:A)(b:B)(c:C):p a b c->q a b c->r a b c->∃ a b c,p a b c/\q a b c/\r a b c:=λp q r=>⟨a,b,c,p,q,r⟩
theorem gX{A:Sort u0}{B:Sort u1}{C:Sort u2}{p q r s:A->B->C->Prop}(a:A)(b:B)(c:C):p a b c->q a b c->r a b c->s a b c->∃ a b c,p a b c/\q a b c/\r a b c/\s a b c:=λp q r s=>⟨a,b,c,p,q,r,s⟩
theorem fW{A:Sort u0}{B:Sort u1}{C:Sort u2}{p q r s t u:A->B->C->Prop}(a:A)(b:B)(c:C):p a b c->q a b c->r a b c->s a b c->t a b c->u a b c->∃ a b c,p a b c/\q a b c/\r a b c/\s a b c/\t a b c/\u a b c:=λp q r s t u=>⟨a,b,c,p,q,r,s,t,u⟩
theorem BG{A:Sort u0}{B:Sort u1}{C:Sort u2}{p q r s t u v:A->B->C->Prop}(a:A)(b:B)(c:C):p a b c->q a b c->r a b c->s a b c->t a b c->u a b c->v a b c->∃ a b c,p a b c/\q a b c/\r a b c/\s a b c/\t a b c/\u a b c/\v a b c:=λp q r s t u v=>⟨a,b,c,p,q,r,s,t,u,v⟩
theorem gS{A:Sort u0}{B:Sort u1}{C:Sort u2}{D:Sort u3}{p q:A->B->C->D->Prop}(a:A)(b:B)(c:C)(d:D):p a b c d->q a b c d->∃ a b c d,p a b c d/\q a b c d:=λp q=>⟨a,b,c,d,p,q⟩
theorem iE{A:Sort u0}{B:Sort u1}{C:Sort u2}{D:Sort u3}{p q r s:A->B->C->D->Prop}(a:A)(b:B)(c:C)(d:D):p a b c d->q a b c d->r a b c d->s a b c d->∃ a b c d,p a b c d/\q a b c d/\r a b c d/\s a b c d:=λp q r s=>⟨a,b,c,d,p,q,r,s⟩
theorem oW{A:Sort u0}{B:Sort u1}{C:Sort u2}{D:Sort u3}{p q r s t u v w:A->B->C->D->Prop}(a:A)(b:B)(c:C)(d:D):p a b c d->q a b c d->r a b c d->s a b c d->t a b c d->u a b c d->v a b c d->w a b c d->∃ a b c d,p a b c d/\q a b c d/\r a b c d/\s a b c d/\t a b c d/\u a b c d/\v a b c d/\w a b c d:=λp q r s t u v w=>⟨a,b,c,d,p,q,r,s,t,u,v,w⟩
theorem om{A:Sort u0}{B:Sort u1}{C:Sort u2}{D:Sort u3}{E:Sort u4}{p q:A->B->C->D->E->Prop}(a:A)(b:B)(c:C)(d:D)(e:E):p a b c d e->q a b c d e->∃ a b c d e,p a b c d e/\q a b c d e:=λp q=>⟨a,b,c,d,e,p,q⟩
theorem lJ{A:Sort u0}{B:Sort u1}{C:Sort u2}{D:Sort u3}{E:Sort u4}{p q r s:A->B->C->D->E->Prop}(a:A)(b:B)(c:C)(d:D)(e:E):p a b c d e->q a b c d e->r a b c d e->s a b c d e->∃ a b c d e,p a b c d e/\q a b c d e/\r a b c d e/\s a b c d e:=λp q r s=>⟨a,b,c,d,e,p,q,r,s⟩
theorem uI{A:Sort u0}{B:Sort u1}{C:Sort u2}{D:Sort u3}{E:Sort u4}{p q r s t:A->B->C->D->E->Prop}(a:A)(b:B)(c:C)(d:D)(e:E):p a b c d e->q a b c d e->r a b c d e->s a b c d e->t a b c d e->∃ a b c d e,p a b c d e/\q a b c d e/\r a b c d e/\s a b c d e/\t a b c d e:=λp q r s t=>⟨a,b,c,d,e,p,q,r,s,t⟩
theorem yj{A:Sort u0}{B:Sort u1}{C:Sort u2}{D:Sort u3}{E:Sort u4}{F:Sort u5}{p q:A->B->C->D->E->F->Prop}(a:A)(b:B)(c:C)(d:D)(e:E)(f:F):p a b c d e f->q a b c d e f->∃ a b c d e f,p a b c d e f/\q a b c d e f:=λp q=>⟨a,b,c,d,e,f,p,q⟩
theorem n8{A:Sort u0}{B:Sort u1}{C:Sort u2}{D:Sort u3}{E:Sort u4}{F:Sort u5}{H:Sort u6}{p q:A->B->C->D->E->F->H->Prop}(a:A)(b:B)(c:C)(d:D)(e:E)(f:F)(g:H):p a b c d e f g->q a b c d e f g->∃ a b c d e f g,p a b c d e f g/\q a b c d e f g:=λp q=>⟨a,b,c,d,e,f,g,p,q⟩
theorem CG{A:Sort u0}{B:Sort u1}{C:Sort u2}{D:Sort u3}{E:Sort u4}{F:Sort u5}{H:Sort u6}{p q r s t u v:A->B->C->D->E->F->H->Prop}(a:A)(b:B)(c:C)(d:D)(e:E)(f:F)(g:H):p a b c d e f g->q a b c d e f g->r a b c d e f g->s a b c d e f g->t a b c d e f g->u a b c d e f g->v a b c d e f g->∃ a b c d e f g,p a b c d e f g/\q a b c d e f g/\r a b c d e f g/\s a b c d e f g/\t a b c d e f g/\u a b c d e f g/\v a b c d e f g:=λp q r s t u v=>⟨a,b,c,d,e,f,g,p,q,r,s,t,u,v⟩
theorem jj{p q r s t u v w x y z R S T:A->B->C->D->E->F->H->I->Prop}(a:A)(b:B)(c:C)(d:D)(e:E)(f:F)(g:H)(i:I):p a b c d e f g i->q a b c d e f g i->r a b c d e f g i->s a b c d e f g i->t a b c d e f g i->u a b c d e f g i->v a b c d e f g i->w a b c d e f g i->x a b c d e f g i->y a b c d e f g i->z a b c d e f g i->R a b c d e f g i->S a b c d e f g i->T a b c d e f g i->∃ a b c d e f g i,p a b c d e f g i/\q a b c d e f g i/\r a b c d e f g i/\s a b c d e f g i/\t a b c d e f g i/\u a b c d e f g i/\v a b c d e f g i/\w a b c d e f g i/\x a b c d e f g i/\y a b c d e f g i/\z a b c d e f g i/\R a b c d e f g i/\S a b c d e f g i/\T a b c d e f g i:=λp q r s t u v w x y z R S T=>⟨a,b,c,d,e,f,g,i,p,q,r,s,t,u,v,w,x,y,z,R,S,T⟩
theorem qa{p q r s t u v w x y z R S T:A->B->C->D->E->F->H->I->J->Prop}(a:A)(b:B)(c:C)(d:D)(e:E)(f:F)(g:H)(i:I)(j:J):p a b c d e f g i j->q a b c d e f g i j->r a b c d e f g i j->s a b c d e f g i j->t a b c d e f g i j->u a b c d e f g i j->v a b c d e f g i j->w a b c d e f g i j->x a b c d e f g i j->y a b c d e f g i j->z a b c d e f g i j->R a b c d e f g i j->S a b c d e f g i j->T a b c d e f g i j->∃ a b c d e f g i j,p a b c d e f g i j/\q a b c d e f g i j/\r a b c d e f g i j/\s a b c d e f g i j/\t a b c d e f g i j/\u a b c d e f g i j/\v a b c d e f g i j/\w a b c d e f g i j/\x a b c d e f g i j/\y a b c d e f g i j/\z a b c d e f g i j/\R a b c d e f g i j/\S a b c d e f g i j/\T a b c d e f g i j:=λp q r s t u v w x y z R S T=>⟨a,b,c,d,e,f,g,i,j,p,q,r,s,t,u,v,w,x,y,z,R,S,T⟩
section
variable {G:Prop}
theorem ab (h:p0/\p1) (k:p0->p1->G):G:=by
 obtain ⟨h0,h1⟩:=h
 exact k h0 h1
theorem ah{A:Sort u0}{p:A->Prop}(h:∃ a,p a)(k:∀ a,p a->G):G:=by obtain ⟨a,p⟩:=h;exact k a p
theorem aI (h:p0/\p1/\p2) (k:p0->p1->p2->G):G:=by
 obtain ⟨h0,h1,h2⟩:=h
 exact k h0 h1 h2
theorem ae{A:Sort u0}{p q:A->Prop}(h:∃ a,p a/\q a)(k:∀ a,p a->q a->G):G:=by obtain ⟨a,p,q⟩:=h;exact k a p q
theorem aY{A:Sort u0}{B:Sort u1}{p:A->B->Prop}(h:∃ a b,p a b)(k:∀ a b,p a b->G):G:=by obtain ⟨a,b,p⟩:=h;exact k a b p
theorem cU (h:p0/\p1/\p2/\p3) (k:p0->p1->p2->p3->G):G:=by
 obtain ⟨h0,h1,h2,h3⟩:=h
 exact k h0 h1 h2 h3
theorem ao{A:Sort u0}{p q r:A->Prop}(h:∃ a,p a/\q a/\r a)(k:∀ a,p a->q a->r a->G):G:=by obtain ⟨a,p,q,r⟩:=h;exact k a p q r
theorem aq{A:Sort u0}{B:Sort u1}{p q:A->B->Prop}(h:∃ a b,p a b/\q a b)(k:∀ a b,p a b->q a b->G):G:=by obtain ⟨a,b,p,q⟩:=h;exact k a b p q
theorem Iu{A:Sort u0}{B:Sort u1}{C:Sort u2}{p:A->B->C->Prop}(h:∃ a b c,p a b c)(k:∀ a b c,p a b c->G):G:=by obtain ⟨a,b,c,p⟩:=h;exact k a b c p
theorem ca{A:Sort u0}{p q r s:A->Prop}(h:∃ a,p a/\q a/\r a/\s a)(k:∀ a,p a->q a->r a->s a->G):G:=by obtain ⟨a,p,q,r,s⟩:=h;exact k a p q r s
theorem aA{A:Sort u0}{B:Sort u1}{p q r:A->B->Prop}(h:∃ a b,p a b/\q a b/\r a b)(k:∀ a b,p a b->q a b->r a b->G):G:=by obtain ⟨a,b,p,q,r⟩:=h;exact k a b p q r
theorem bz{A:Sort u0}{B:Sort u1}{C:Sort u2}{p q:A->B->C->Prop}(h:∃ a b c,p a b c/\q a b c)(k:∀ a b c,p a b c->q a b c->G):G:=by obtain ⟨a,b,c,p,q⟩:=h;exact k a b c p q
theorem FF{A:Sort u0}{B:Sort u1}{C:Sort u2}{D:Sort u3}{p:A->B->C->D->Prop}(h:∃ a b c d,p a b c d)(k:∀ a b c d,p a b c d->G):G:=by obtain ⟨a,b,c,d,p⟩:=h;exact k a b c d p
theorem jT{A:Sort u0}{p q r s t:A->Prop}(h:∃ a,p a/\q a/\r a/\s a/\t a)(k:∀ a,p a->q a->r a->s a->t a->G):G:=by obtain ⟨a,p,q,r,s,t⟩:=h;exact k a p q r s t
theorem bl{A:Sort u0}{B:Sort u1}{p q r s:A->B->Prop}(h:∃ a b,p a b/\q a b/\r a b/\s a b)(k:∀ a b,p a b->q a b->r a b->s a b->G):G:=by obtain ⟨a,b,p,q,r,s⟩:=h;exact k a b p q r s
theorem aX{A:Sort u0}{B:Sort u1}{C:Sort u2}{p q r:A->B->C->Prop}(h:∃ a b c,p a b c/\q a b c/\r a b c)(k:∀ a b c,p a b c->q a b c->r a b c->G):G:=by obtain ⟨a,b,c,p,q,r⟩:=h;exact k a b c p q r
theorem dM{A:Sort u0}{B:Sort u1}{C:Sort u2}{D:Sort u3}{p q:A->B->C->D->Prop}(h:∃ a b c d,p a b c d/\q a b c d)(k:∀ a b c d,p a b c d->q a b c d->G):G:=by obtain ⟨a,b,c,d,p,q⟩:=h;exact k a b c d p q
theorem iM{A:Sort u0}{p q r s t u:A->Prop}(h:∃ a,p a/\q a/\r a/\s a/\t a/\u a)(k:∀ a,p a->q a->r a->s a->t a->u a->G):G:=by obtain ⟨a,p,q,r,s,t,u⟩:=h;exact k a p q r s t u
theorem lm{A:Sort u0}{B:Sort u1}{p q r s t:A->B->Prop}(h:∃ a b,p a b/\q a b/\r a b/\s a b/\t a b)(k:∀ a b,p a b->q a b->r a b->s a b->t a b->G):G:=by obtain ⟨a,b,p,q,r,s,t⟩:=h;exact k a b p q r s t
theorem fx{A:Sort u0}{B:Sort u1}{C:Sort u2}{p q r s:A->B->C->Prop}(h:∃ a b c,p a b c/\q a b c/\r a b c/\s a b c)(k:∀ a b c,p a b c->q a b c->r a b c->s a b c->G):G:=by obtain ⟨a,b,c,p,q,r,s⟩:=h;exact k a b c p q r s
theorem ol{A:Sort u0}{B:Sort u1}{C:Sort u2}{D:Sort u3}{p q r:A->B->C->D->Prop}(h:∃ a b c d,p a b c d/\q a b c d/\r a b c d)(k:∀ a b c d,p a b c d->q a b c d->r a b c d->G):G:=by obtain ⟨a,b,c,d,p,q,r⟩:=h;exact k a b c d p q r
theorem oB{A:Sort u0}{B:Sort u1}{C:Sort u2}{D:Sort u3}{E:Sort u4}{p q:A->B->C->D->E->Prop}(h:∃ a b c d e,p a b c d e/\q a b c d e)(k:∀ a b c d e,p a b c d e->q a b c d e->G):G:=by obtain ⟨a,b,c,d,e,p,q⟩:=h;exact k a b c d e p q
theorem y7{A:Sort u0}{p q r s t u v:A->Prop}(h:∃ a,p a/\q a/\r a/\s a/\t a/\u a/\v a)(k:∀ a,p a->q a->r a->s a->t a->u a->v a->G):G:=by obtain ⟨a,p,q,r,s,t,u,v⟩:=h;exact k a p q r s t u v
theorem zR{A:Sort u0}{B:Sort u1}{p q r s t u:A->B->Prop}(h:∃ a b,p a b/\q a b/\r a b/\s a b/\t a b/\u a b)(k:∀ a b,p a b->q a b->r a b->s a b->t a b->u a b->G):G:=by obtain ⟨a,b,p,q,r,s,t,u⟩:=h;exact k a b p q r s t u
theorem fP{A:Sort u0}{B:Sort u1}{C:Sort u2}{D:Sort u3}{p q r s:A->B->C->D->Prop}(h:∃ a b c d,p a b c d/\q a b c d/\r a b c d/\s a b c d)(k:∀ a b c d,p a b c d->q a b c d->r a b c d->s a b c d->G):G:=by obtain ⟨a,b,c,d,p,q,r,s⟩:=h;exact k a b c d p q r s
theorem sA{A:Sort u0}{B:Sort u1}{C:Sort u2}{D:Sort u3}{E:Sort u4}{F:Sort u5}{p q:A->B->C->D->E->F->Prop}(h:∃ a b c d e f,p a b c d e f/\q a b c d e f)(k:∀ a b c d e f,p a b c d e f->q a b c d e f->G):G:=by obtain ⟨a,b,c,d,e,f,p,q⟩:=h;exact k a b c d e f p q
theorem tx{A:Sort u0}{B:Sort u1}{p q r s t u v:A->B->Prop}(h:∃ a b,p a b/\q a b/\r a b/\s a b/\t a b/\u a b/\v a b)(k:∀ a b,p a b->q a b->r a b->s a b->t a b->u a b->v a b->G):G:=by obtain ⟨a,b,p,q,r,s,t,u,v⟩:=h;exact k a b p q r s t u v
theorem cF{A:Sort u0}{B:Sort u1}{C:Sort u2}{p q r s t u:A->B->C->Prop}(h:∃ a b c,p a b c/\q a b c/\r a b c/\s a b c/\t a b c/\u a b c)(k:∀ a b c,p a b c->q a b c->r a b c->s a b c->t a b c->u a b c->G):G:=by obtain ⟨a,b,c,p,q,r,s,t,u⟩:=h;exact k a b c p q r s t u
theorem HB{A:Sort u0}{B:Sort u1}{C:Sort u2}{D:Sort u3}{p q r s t:A->B->C->D->Prop}(h:∃ a b c d,p a b c d/\q a b c d/\r a b c d/\s a b c d/\t a b c d)(k:∀ a b c d,p a b c d->q a b c d->r a b c d->s a b c d->t a b c d->G):G:=by obtain ⟨a,b,c,d,p,q,r,s,t⟩:=h;exact k a b c d p q r s t
theorem oA{A:Sort u0}{B:Sort u1}{C:Sort u2}{D:Sort u3}{E:Sort u4}{p q r s:A->B->C->D->E->Prop}(h:∃ a b c d e,p a b c d e/\q a b c d e/\r a b c d e/\s a b c d e)(k:∀ a b c d e,p a b c d e->q a b c d e->r a b c d e->s a b c d e->G):G:=by obtain ⟨a,b,c,d,e,p,q,r,s⟩:=h;exact k a b c d e p q r s
theorem lS{A:Sort u0}{B:Sort u1}{C:Sort u2}{D:Sort u3}{E:Sort u4}{F:Sort u5}{H:Sort u6}{p q:A->B->C->D->E->F->H->Prop}(h:∃ a b c d e f g,p a b c d e f g/\q a b c d e f g)(k:∀ a b c d e f g,p a b c d e f g->q a b c d e f g->G):G:=by obtain ⟨a,b,c,d,e,f,g,p,q⟩:=h;exact k a b c d e f g p q
theorem t0{A:Sort u0}{B:Sort u1}{C:Sort u2}{p q r s t u v:A->B->C->Prop}(h:∃ a b c,p a b c/\q a b c/\r a b c/\s a b c/\t a b c/\u a b c/\v a b c)(k:∀ a b c,p a b c->q a b c->r a b c->s a b c->t a b c->u a b c->v a b c->G):G:=by obtain ⟨a,b,c,p,q,r,s,t,u,v⟩:=h;exact k a b c p q r s t u v
theorem vM{A:Sort u0}{B:Sort u1}{C:Sort u2}{D:Sort u3}{E:Sort u4}{p q r s t:A->B->C->D->E->Prop}(h:∃ a b c d e,p a b c d e/\q a b c d e/\r a b c d e/\s a b c d e/\t a b c d e)(k:∀ a b c d e,p a b c d e->q a b c d e->r a b c d e->s a b c d e->t a b c d e->G):G:=by obtain ⟨a,b,c,d,e,p,q,r,s,t⟩:=h;exact k a b c d e p q r s t
theorem BX{A:Sort u0}{B:Sort u1}{C:Sort u2}{D:Sort u3}{E:Sort u4}{p q r s t u:A->B->C->D->E->Prop}(h:∃ a b c d e,p a b c d e/\q a b c d e/\r a b c d e/\s a b c d e/\t a b c d e/\u a b c d e)(k:∀ a b c d e,p a b c d e->q a b c d e->r a b c d e->s a b c d e->t a b c d e->u a b c d e->G):G:=by obtain ⟨a,b,c,d,e,p,q,r,s,t,u⟩:=h;exact k a b c d e p q r s t u
theorem uW{p q r s t u v w x y:A->B->Prop}(h:∃ a b,p a b/\q a b/\r a b/\s a b/\t a b/\u a b/\v a b/\w a b/\x a b/\y a b)(k:∀ a b,p a b->q a b->r a b->s a b->t a b->u a b->v a b->w a b->x a b->y a b->G):G:=by obtain ⟨a,b,p,q,r,s,t,u,v,w,x,y⟩:=h;exact k a b p q r s t u v w x y
theorem uS{A:Sort u0}{B:Sort u1}{C:Sort u2}{D:Sort u3}{p q r s t u v w:A->B->C->D->Prop}(h:∃ a b c d,p a b c d/\q a b c d/\r a b c d/\s a b c d/\t a b c d/\u a b c d/\v a b c d/\w a b c d)(k:∀ a b c d,p a b c d->q a b c d->r a b c d->s a b c d->t a b c d->u a b c d->v a b c d->w a b c d->G):G:=by obtain ⟨a,b,c,d,p,q,r,s,t,u,v,w⟩:=h;exact k a b c d p q r s t u v w
theorem eO{A:Sort u0}{B:Sort u1}{C:Sort u2}{D:Sort u3}{E:Sort u4}{F:Sort u5}{H:Sort u6}{I:Sort u7}{J:Sort u8}{K:Sort u9}{L:Sort u10}{M:Sort u11}{p:A->B->C->D->E->F->H->I->J->K->L->M->Prop}(h:∃ a b c d e f g i j l m n,p a b c d e f g i j l m n)(k:∀ a b c d e f g i j l m n,p a b c d e f g i j l m n->G):G:=by obtain ⟨a,b,c,d,e,f,g,i,j,l,m,n,p⟩:=h;exact k a b c d e f g i j l m n p
theorem uv{p q r s t u v w x y:A->B->C->D->Prop}(h:∃ a b c d,p a b c d/\q a b c d/\r a b c d/\s a b c d/\t a b c d/\u a b c d/\v a b c d/\w a b c d/\x a b c d/\y a b c d)(k:∀ a b c d,p a b c d->q a b c d->r a b c d->s a b c d->t a b c d->u a b c d->v a b c d->w a b c d->x a b c d->y a b c d->G):G:=by obtain ⟨a,b,c,d,p,q,r,s,t,u,v,w,x,y⟩:=h;exact k a b c d p q r s t u v w x y
theorem vg{p q r s t u v w x y z R S:A->B->Prop}(h:∃ a b,p a b/\q a b/\r a b/\s a b/\t a b/\u a b/\v a b/\w a b/\x a b/\y a b/\z a b/\R a b/\S a b)(k:∀ a b,p a b->q a b->r a b->s a b->t a b->u a b->v a b->w a b->x a b->y a b->z a b->R a b->S a b->G):G:=by obtain ⟨a,b,p,q,r,s,t,u,v,w,x,y,z,R,S⟩:=h;exact k a b p q r s t u v w x y z R S
theorem uV{A:Sort u0}{B:Sort u1}{C:Sort u2}{D:Sort u3}{E:Sort u4}{F:Sort u5}{p q r s t u v w x:A->B->C->D->E->F->Prop}(h:∃ a b c d e f,p a b c d e f/\q a b c d e f/\r a b c d e f/\s a b c d e f/\t a b c d e f/\u a b c d e f/\v a b c d e f/\w a b c d e f/\x a b c d e f)(k:∀ a b c d e f,p a b c d e f->q a b c d e f->r a b c d e f->s a b c d e f->t a b c d e f->u a b c d e f->v a b c d e f->w a b c d e f->x a b c d e f->G):G:=by obtain ⟨a,b,c,d,e,f,p,q,r,s,t,u,v,w,x⟩:=h;exact k a b c d e f p q r s t u v w x
theorem um{A:Sort u0}{B:Sort u1}{C:Sort u2}{D:Sort u3}{E:Sort u4}{F:Sort u5}{H:Sort u6}{p q r s t u v w x:A->B->C->D->E->F->H->Prop}(h:∃ a b c d e f g,p a b c d e f g/\q a b c d e f g/\r a b c d e f g/\s a b c d e f g/\t a b c d e f g/\u a b c d e f g/\v a b c d e f g/\w a b c d e f g/\x a b c d e f g)(k:∀ a b c d e f g,p a b c d e f g->q a b c d e f g->r a b c d e f g->s a b c d e f g->t a b c d e f g->u a b c d e f g->v a b c d e f g->w a b c d e f g->x a b c d e f g->G):G:=by obtain ⟨a,b,c,d,e,f,g,p,q,r,s,t,u,v,w,x⟩:=h;exact k a b c d e f g p q r s t u v w x
theorem By{A:Sort u0}{B:Sort u1}{C:Sort u2}{D:Sort u3}{E:Sort u4}{F:Sort u5}{H:Sort u6}{I:Sort u7}{p q r s t u v w x:A->B->C->D->E->F->H->I->Prop}(h:∃ a b c d e f g i,p a b c d e f g i/\q a b c d e f g i/\r a b c d e f g i/\s a b c d e f g i/\t a b c d e f g i/\u a b c d e f g i/\v a b c d e f g i/\w a b c d e f g i/\x a b c d e f g i)(k:∀ a b c d e f g i,p a b c d e f g i->q a b c d e f g i->r a b c d e f g i->s a b c d e f g i->t a b c d e f g i->u a b c d e f g i->v a b c d e f g i->w a b c d e f g i->x a b c d e f g i->G):G:=by obtain ⟨a,b,c,d,e,f,g,i,p,q,r,s,t,u,v,w,x⟩:=h;exact k a b c d e f g i p q r s t u v w x
theorem Az{p q r s t u v w x y z:A->B->C->D->E->F->H->I->J->K->Prop}(h:∃ a b c d e f g i j l,p a b c d e f g i j l/\q a b c d e f g i j l/\r a b c d e f g i j l/\s a b c d e f g i j l/\t a b c d e f g i j l/\u a b c d e f g i j l/\v a b c d e f g i j l/\w a b c d e f g i j l/\x a b c d e f g i j l/\y a b c d e f g i j l/\z a b c d e f g i j l)(k:∀ a b c d e f g i j l,p a b c d e f g i j l->q a b c d e f g i j l->r a b c d e f g i j l->s a b c d e f g i j l->t a b c d e f g i j l->u a b c d e f g i j l->v a b c d e f g i j l->w a b c d e f g i j l->x a b c d e f g i j l->y a b c d e f g i j l->z a b c d e f g i j l->G):G:=by obtain ⟨a,b,c,d,e,f,g,i,j,l,p,q,r,s,t,u,v,w,x,y,z⟩:=h;exact k a b c d e f g i j l p q r s t u v w x y z
theorem ja{p q r s t u v w x y z R S T:A->B->C->D->E->F->H->I->Prop}(h:∃ a b c d e f g i,p a b c d e f g i/\q a b c d e f g i/\r a b c d e f g i/\s a b c d e f g i/\t a b c d e f g i/\u a b c d e f g i/\v a b c d e f g i/\w a b c d e f g i/\x a b c d e f g i/\y a b c d e f g i/\z a b c d e f g i/\R a b c d e f g i/\S a b c d e f g i/\T a b c d e f g i)(k:∀ a b c d e f g i,p a b c d e f g i->q a b c d e f g i->r a b c d e f g i->s a b c d e f g i->t a b c d e f g i->u a b c d e f g i->v a b c d e f g i->w a b c d e f g i->x a b c d e f g i->y a b c d e f g i->z a b c d e f g i->R a b c d e f g i->S a b c d e f g i->T a b c d e f g i->G):G:=by obtain ⟨a,b,c,d,e,f,g,i,p,q,r,s,t,u,v,w,x,y,z,R,S,T⟩:=h;exact k a b c d e f g i p q r s t u v w x y z R S T
theorem CA{p q r s t u v w x y z R S T:A->B->C->D->E->F->H->I->J->Prop}(h:∃ a b c d e f g i j,p a b c d e f g i j/\q a b c d e f g i j/\r a b c d e f g i j/\s a b c d e f g i j/\t a b c d e f g i j/\u a b c d e f g i j/\v a b c d e f g i j/\w a b c d e f g i j/\x a b c d e f g i j/\y a b c d e f g i j/\z a b c d e f g i j/\R a b c d e f g i j/\S a b c d e f g i j/\T a b c d e f g i j)(k:∀ a b c d e f g i j,p a b c d e f g i j->q a b c d e f g i j->r a b c d e f g i j->s a b c d e f g i j->t a b c d e f g i j->u a b c d e f g i j->v a b c d e f g i j->w a b c d e f g i j->x a b c d e f g i j->y a b c d e f g i j->z a b c d e f g i j->R a b c d e f g i j->S a b c d e f g i j->T a b c d e f g i j->G):G:=by obtain ⟨a,b,c,d,e,f,g,i,j,p,q,r,s,t,u,v,w,x,y,z,R,S,T⟩:=h;exact k a b c d e f g i j p q r s t u v w x y z R S T
theorem bA {a b:Bool}(h:(a&&b)=true):a=true/\b=true:=and_eq_true_iff.mp h
end
theorem aG {α β:Type}{f:α->β}{l:List α}{b:β}{G:Prop}(h:b∈l.map f) (k:∀ a,a∈l->f a=b->G):G:=ae (mem_map.mp h) k
theorem bj {α β:Type}{o:Option α}{f:α->Option β}{b:β}{G:Prop}(h:o.bind f=some b) (k:∀ a,o=some a->f a=some b->G):G:=ae (Option.bind_eq_some_iff.mp h) k
theorem bw {α β:Type}{o:Option α}{f:α->β}{b:β}{G:Prop}(h:o.map f=some b) (k:∀ a,o=some a->f a=b->G):G:=ae (map_eq_some_iff.mp h) k
theorem bK {α:Type}{o:Option α}{G:Prop}(h:o.isSome=true) (k:∀ a,o=some a->G):G:=ah (Option.isSome_iff_exists.mp h) k
theorem pN {α:Type}{p:α->Bool}{l:List α}{a:α}{G:Prop}(h:a∈l.filter p) (k:a∈l->p a=true->G):G:=ab (mem_filter.mp h) k
theorem eY {a b:Bool}{G:Prop}(h:(a&&b)=true) (k:a=true->b=true->G):G:=ab (and_eq_true_iff.mp h) k
open PySem
inductive Mode where
 | sh | top | deep
 deriving DecidableEq
inductive V where
 | d (x:PyData)
 | dic0
 | dicI (ks:List Int)
 | dicT (ks:List (List Int))
 | rule (c:Int) (d:PyData) (n:Int)
inductive Out (α:Type) where
 | ok (a:α)
 | exc (c:String)
 | bad
end Internal
local macro_rules
 |`(tactic|injection $h:ident)=>`(tactic|((first|have oc:=Option.some.inj $h|have oc:=Internal.Out.ok.inj $h);clear $h;subst oc))
namespace Internal
open PySem
namespace Out
noncomputable def bind:Out α->(α->Out β)->Out β
 | .ok a,f=>f a
 | .exc c,_=>.exc c
 | .bad,_=>.bad
@[simp] theorem ok_bind (a:α) (f:α->Out β):(Out.ok a).bind f=f a:=rfl
@[simp] theorem Lc (c:String) (f:α->Out β):(Out.exc c:Out α).bind f = .exc c:=rfl
@[simp] theorem bad_bind (f:α->Out β):(Out.bad:Out α).bind f = .bad:=rfl
noncomputable def calm:Out α->Out α
 | .ok a=>.ok a
 | _=>.bad
@[simp] theorem calm_ok (a:α):(Out.ok a).calm = .ok a:=rfl
theorem _root_.Internal.nB {α:Type}{a:α}{G:Prop}(h:(Out.bad:Out α) = .ok a):G:=by cases h
theorem _root_.Internal.nE {α:Type}{a:α}{c:String}{G:Prop}(h:(Out.exc c:Out α) = .ok a):G:=by cases h
theorem _root_.Internal.nN {α:Type}{a:α}{G:Prop}(h:(none:Option α)=some a):G:=by cases h
theorem _root_.Internal.nM {α:Type}{a:α}{G:Prop}(h:some a=(none:Option α)):G:=by cases h
theorem _root_.Internal.nF {G:Prop}(h:false=true):G:=by cases h
theorem _root_.Internal.nT {G:Prop}(h:true=false):G:=by cases h
theorem A9 {α β:Type}{o:Out α}{f:α->Out β}{b:β}(h:o.bind f = .ok b):∃ a,o = .ok a/\f a = .ok b:=by
 cases o with
 | ok a=>exact ⟨a,rfl,h⟩
 | exc c=>cases h
 | bad=>cases h
theorem bind_k {α β:Type}{o:Out α}{f:α->Out β}{b:β}{G:Prop}(h:o.bind f = .ok b) (k:∀ a,o = .ok a->f a = .ok b->G):G:=ae (A9 h) k
end Out
inductive BOp where
 | add | sub | mul | fdiv | mod | pow | xor
 deriving DecidableEq
inductive COp where
 | eq | ne | lt | gt | ge | isin | notin | isnot
 deriving DecidableEq
inductive B1 where
 | len | list | tuple | sorted | max
 deriving DecidableEq
inductive B2 where
mutual
inductive E where
 | name (x:String)
 | int (i:Int)
 | str (s:String)
 | bool (b:Bool)
 | none
 | bin (o:BOp) (a b:E)
 | neg (a:E)
 | not (a:E)
 | cmp (o:COp) (a b:E)
 | and (a b:E)
 | or (a b:E)
 | list (es:Es)
 | tup (es:Es)
 | edic
 | comp (elt:E) (x:String) (it:It)
 | compif (elt:E) (x:String) (it:It) (c:E)
 | sub (a i:E)
 | attr (a:E) (n:String)
 | bi1 (f:B1) (a:E)
 | isi (a:E) (t:String)
 | call (f:String) (es:Es)
 | meth (a:E) (m:String) (es:Es)
 | order (x t:String)
inductive Es where
 | nil
 | cons (e:E) (es:Es)
inductive It where
 | e (a:E)
 | r1 (n:E)
 | r2 (a b:E)
end
abbrev St:=String->Option (V×Mode)
abbrev Calls:=String->Option (List V->Out (V×Mode))
noncomputable def upd (σ:St) (x:String) (v:V×Mode):St:=λy=>if y=x then some v else σ y
noncomputable def isI:PyData->Bool
 | .int _=>true
 | _=>false
noncomputable def sx:PyData->Bool
 | .none | .bool _ | .int _ | .str _=>true
 | .tuple xs=>xs.all isI
 | .list _ | .dict _=>false
noncomputable def sM:V->Bool
 | .d x=>sx x
 | _=>false
noncomputable def mk (v:V):V×Mode:=(v,if sM v then .deep else .sh)
noncomputable def fresh (xs:List PyData):Mode:=if xs.all sx then .deep else .top
noncomputable def lim:Nat:=1000000
noncomputable def okc (d:PyData):Bool:=d.canLay0&&decide (d.depth<=64)
noncomputable def sI (i:Int):V×Mode:=(.d (.int i),.deep)
noncomputable def sB (b:Bool):V×Mode:=(.d (.bool b),.deep)
noncomputable def ei:PyData->Option Int
 | .int i=>some i
 | _=>none
noncomputable def aF:List PyData->Option (List Int)
 | []=>some []
 | .int i::r=>(aF r).map (i :: ·)
 | _::_=>none
noncomputable def dy:PyData->Option (List Int)
 | .tuple xs=>aF xs
 | _=>none
noncomputable def ml (d:PyData):Option (Int×Int):=(dy d).bind λl=>match l with
 | [a,b]=>some (a,b)
 | _=>none
noncomputable def am (o:Option α) (f:α->Out β):Out β:=match o with
 | some a=>f a
 | none=>.bad
theorem aQ (h:am o f = .ok r):∃ a,o=some a/\f a = .ok r:=by
 cases o with
 | some a=>exact ⟨a,rfl,h⟩
 | none=>cases h
theorem dE {α β:Type}{o:Option α}{f:α->Out β}{r:β}{G:Prop}(h:am o f = .ok r) (k:∀ a,o=some a->f a = .ok r->G):G:=ae (aQ h) k
def NE (o:Out α):Prop:=∀ c,o≠.exc c
theorem NE.ok:NE (Out.ok a):=λuu h=>by cases h
theorem NE.bad:NE (Out.bad:Out α):=λuu h=>by cases h
theorem NE.opt (h:∀ a,NE (f a)):NE (am o f):=by
 cases o with
 | some a=>exact h a
 | none=>exact .bad
theorem NE.ite [Decidable c] (ha:NE a) (hb:NE b):NE (if c then a else b):=by
 by_cases h:c
 ·rw[if_pos h]; exact ha
 ·rw[if_neg h]; exact hb
theorem NE.bind (ho:NE o) (h:∀ a,NE (f a)):NE (o.bind f):=by
 cases o with
 | ok a=>exact h a
 | exc c=>exact absurd rfl (ho c)
 | bad=>exact .bad
noncomputable def asL:PyData->Option (List PyData)
 | .list xs=>some xs
 | _=>none
noncomputable def asD:V->Option PyData
 | .d x=>some x
 | _=>none
noncomputable def isN:PyData->Bool
 | .none=>true
 | _=>false
theorem cV (h:ei x=some i):x = .int i:=by cases x<;>cases h; rfl
theorem cI (h:asL x=some i):x = .list i:=by cases x<;>cases h; rfl
theorem cR (h:asD x=some i):x = .d i:=by cases x<;>cases h; rfl
theorem Ag (h:isN x=true):x = .none:=by cases x<;>first | rfl | cases h
noncomputable def i2 (x y:PyData) (f:Int->Int->Out β):Out β:=am (ei x) λa=>am (ei y) λb=>f a b
theorem fy (h:i2 x y f = .ok r):∃ a b,x = .int a/\y = .int b/\f a b = .ok r:=by
 refine dE h λa i h=>?_
 refine dE h λb g h=>?_
 exact ⟨a,b,cV i,cV g,h⟩
noncomputable def d2 (x y:V) (f:PyData->PyData->Out β):Out β:=am (asD x) λa=>am (asD y) λb=>f a b
theorem iv (h:d2 x y f = .ok r):∃ a b,x = .d a/\y = .d b/\f a b = .ok r:=by
 refine dE h λa i h=>?_
 refine dE h λb g h=>?_
 exact ⟨a,b,cR i,cR g,h⟩
noncomputable def pD (x y:PyData):Out (V×Mode):=match asL x with
 | some a=>am (asL y) λb=>if a.length+b.length<=lim then .ok (.d (.list (a++b)),fresh (a++b)) else .bad
 | none=>i2 x y λa b=>.ok (sI (a+b))
noncomputable def dz (o:BOp) (x y:PyData):Out (V×Mode):=match o with
 | .add=>pD x y
 | .sub=>i2 x y λa b=>.ok (sI (a-b))
 | .mul=>i2 x y λa b=>if a.natAbs<2^63\/b.natAbs<2^63 then .ok (sI (a*b)) else .bad
 | .fdiv=>i2 x y λa b=>if b=0\/1000000000<=b.natAbs then .bad else .ok (sI (a.fdiv b))
 | .mod=>i2 x y λa b=>if b=0 then .bad else .ok (sI (a.fmod b))
 | .pow=>i2 x y λa b=>if 0<=b/\b<=1000/\a.natAbs<2^63 then .ok (sI (a^b.toNat)) else .bad
 | .xor=>i2 x y λa b=>.ok (sI (Builtin.bitXor a b))
theorem rt:NE (dz o x y):=by
 have h:∀ (f:Int->Int->Out (V×Mode)),(∀ a b,NE (f a b))->NE (i2 x y f):=λf hf=>.opt λa=>.opt λb=>hf a b
 cases o with
 | add=>
  show NE (pD x y)
  unfold pD
  cases asL x with
  | some a=>exact .opt λb=>.ite .ok .bad
  | none=>exact h _ λuu uu=>.ok
 | sub=>exact h _ λuu uu=>.ok
 | mul=>exact h _ λuu uu=>.ite .ok .bad
 | fdiv=>exact h _ λuu uu=>.ite .bad .ok
 | mod=>exact h _ λuu uu=>.ite .bad .ok
 | pow=>exact h _ λuu uu=>.ite .ok .bad
 | xor=>exact h _ λuu uu=>.ok
noncomputable def inV (k:PyData) (c:V):Out Bool:=match c with
 | .d x=>am (asL x) λg=>if okc k&&okc (.list g) then .ok (g.any λy=>PyData.eqv y k) else .bad
 | .dicI ks=>am (ei k) λi=>.ok (decide (i∈ks))
 | .dicT ks=>am (dy k) λi=>.ok (decide (i∈ks))
 | .dic0=>if (ei k).isSome||(dy k).isSome then .ok false else .bad
 | .rule _ _ _=>.bad
theorem uY:NE (inV k c):=by
 cases c with
 | d x=>exact .opt λuu=>.ite .ok .bad
 | dicI ks=>exact .opt λuu=>.ok
 | dicT ks=>exact .opt λuu=>.ok
 | dic0=>exact .ite .ok .bad
 | rule _ _ _=>exact .bad
noncomputable def b6 (o:COp) (x y:V):Out Bool:=match o with
 | .eq=>d2 x y λa b=>if okc a&&okc b then .ok (PyData.eqv a b) else .bad
 | .ne=>d2 x y λa b=>if okc a&&okc b then .ok (!PyData.eqv a b) else .bad
 | .lt=>d2 x y λa b=>i2 a b λa b=>.ok (decide (a<b))
 | .gt=>d2 x y λa b=>i2 a b λa b=>.ok (decide (b<a))
 | .ge=>d2 x y λa b=>i2 a b λa b=>.ok (decide (b<=a))
 | .isin=>am (asD x) λk=>inV k y
 | .notin=>d2 x y λk c=>(inV k (.d c)).bind λb=>.ok (!b)
 | .isnot=>d2 x y λa b=>if isN b then .ok (!isN a) else .bad
theorem rG:NE (b6 o x y):=by
 have h:∀ (f:PyData->PyData->Out Bool),(∀ a b,NE (f a b))->NE (d2 x y f):=λf hf=>.opt λa=>.opt λb=>hf a b
 cases o with
 | eq=>exact h _ λuu uu=>.ite .ok .bad
 | ne=>exact h _ λuu uu=>.ite .ok .bad
 | isin=>exact .opt λuu=>uY
 | notin=>exact h _ λuu uu=>.bind uY λuu=>.ok
 | isnot=>exact h _ λuu uu=>.ite .ok .bad
 | _=>exact h _ λuu uu=>.opt λuu=>.opt λuu=>.ok
noncomputable def bH (i:Int) (n:Nat):Option Nat:=if 0<=i then (if i<n then some i.toNat else none) else (if -(n:Int)<=i then some (i+n).toNat else none)
noncomputable def asT:PyData->Option (List PyData)
 | .tuple xs=>some xs
 | _=>none
theorem mf (h:asT x=some i):x = .tuple i:=by cases x<;>cases h; rfl
noncomputable def elem (x:PyData) (i:Int):Option PyData:=match asL x with
 | some xs=>(bH i xs.length).bind λk=>xs[k]?
 | none=>match asT x with
  | some xs=>(bH i xs.length).bind λk=>xs[k]?
  | none=>none
noncomputable def fg (x y:PyData):Out (V×Mode):=am (ei y) λi=>am (elem x i) λz=>.ok (mk (.d z))
theorem rH:NE (fg x y):=.opt λuu=>.opt λuu=>.ok
noncomputable def iZ:List PyData->Option (List (List Int))
 | []=>some []
 | .list xs::r=>(aF xs).bind λi=>(iZ r).map (i :: ·)
 | _::_=>none
noncomputable def aa (xs:List Int):PyData:=.list (xs.map .int)
noncomputable def aJ (xs:List Int):PyData:=.tuple (xs.map .int)
noncomputable def ad (t:List (List Int)):PyData:=.list (t.map aa)
noncomputable def ltL:List Int->List Int->Bool
 | [],[]=>false
 | [],_::_=>true
 | _::_,[]=>false
 | a::as,b::bs=>if a=b then ltL as bs else decide (a<b)
noncomputable def eA:List PyData->Option (List (List Int))
 | []=>some []
 | x::r=>(dy x).bind λk=>(eA r).map (k :: ·)
noncomputable def br (ks:List (List Int)):List (List Int):=ks.mergeSort λa b=>!ltL b a
noncomputable def fX (xs:List PyData):Out (V×Mode):=match eA xs with
 | some g=>if g.length<2\/[]∉g then .ok (.d (.list ((br g).map aJ)),fresh ((br g).map aJ)) else .bad
 | none=>am (iZ xs) λg=>.ok (.d (.list ((br g).map aa)),fresh ((br g).map aa))
theorem tH:NE (fX xs):=by
 unfold fX
 cases eA xs with
 | some ks=>exact .ite .ok .bad
 | none=>exact .opt λuu=>.ok
noncomputable def dY (xs:List PyData):Out (V×Mode) :=
 if xs.length<64 then (match aF xs with
  | some g=>.ok (.d (aa (g.mergeSort (λa b=>decide (a<=b)))),.deep)
  | none=>fX xs)
 else if xs.length<128 then am (aF xs) λg=>if ∀ i∈g,0<=i then .ok (.d (aa (g.mergeSort (λa b=>decide (a<=b)))),.deep) else .bad
 else .bad
noncomputable def eC:List Int->Option Int
 | []=>none
 | x::xs=>some (xs.foldl (λa b=>if a<b then b else a) x)
noncomputable def b1D (f:B1) (v:V):Out (V×Mode):=am (asD v) λx=>match f with
 | .len=>(match asT x with
  | some g=>.ok (sI g.length)
  | none=>am (asL x) λg=>.ok (sI g.length))
 | .list=>(match asT x with
  | some g=>.ok (.d (.list g),fresh g)
  | none=>am (asL x) λg=>.ok (.d (.list g),fresh g))
 | .tuple=>am (asL x) λg=>.ok (.d (.tuple g),if g.all sx then .deep else .sh)
 | .sorted=>am (asL x) λg=>dY g
 | .max=>am (asL x) λg=>am ((aF g).bind eC) λi=>.ok (sI i)
theorem BQ:NE (b1D f v):=.opt λx=>by
 cases f with
 | len=>
  show NE (match asT x with | some g=>Out.ok (sI g.length) | none=>am (asL x) λg=>.ok (sI g.length))
  cases asT x with
  | some g=>exact .ok
  | none=>exact .opt λuu=>.ok
 | list=>
  show NE (match asT x with | some g=>Out.ok (V.d (.list g),fresh g) | none=>am (asL x) λg=>.ok (V.d (.list g),fresh g))
  cases asT x with
  | some g=>exact .ok
  | none=>exact .opt λuu=>.ok
 | tuple=>exact .opt λuu=>.ok
 | sorted=>
  refine .opt λg=>.ite ?_ (.ite (.opt λuu=>.ite .ok .bad) .bad)
  cases aF g with
  | some ns=>exact .ok
  | none=>exact tH
 | max=>exact .opt λuu=>.opt λuu=>.ok
noncomputable def r7:V->Option (List (List Int))
 | .dicT ks=>some ks
 | _=>none
theorem xM (h:r7 v=some ks):v = .dicT ks:=by
 cases v<;>cases h
 rfl
noncomputable def od (f:B1) (ks:List (List Int)):Out (V×Mode):=if f = .list/\ks.length<=lim then .ok (.d (.list (ks.map aJ)),fresh (ks.map aJ)) else .bad
noncomputable def b1V (f:B1) (v:V):Out (V×Mode):=match r7 v with
 | some ks=>od f ks
 | none=>b1D f v
theorem vt:NE (b1V f v):=by
 unfold b1V
 cases r7 v with
 | some ks=>exact .ite .ok .bad
 | none=>exact BQ
noncomputable def qp:PyData->Nat
 | .none=>0
 | .bool _=>1
 | .int _=>2
 | .str _=>3
 | .list _=>4
 | .tuple _=>5
 | .dict _=>6
noncomputable def mz (t:String) (k:Nat):Option Bool :=
 if t = "int" then some (k==2||k==1) else if t = "bool" then some (k==1) else if t = "list" then some (k==4) else if t = "tuple" then some (k==5) else if t = "str" then some (k==3) else none
noncomputable def hV (v:V) (t:String):Out Bool:=am (asD v) λx=>am (mz t (qp x)) .ok
theorem oN {t:String}{k:Nat}{b:Bool}{G:Prop}(h:mz t k=some b) (c1:t = "int" -> (k==2||k==1)=b->G) (c2:t = "bool" -> (k==1)=b->G) (c3:t = "list" -> (k==4)=b->G) (c4:t = "tuple" -> (k==5)=b->G) (c5:t = "str" -> (k==3)=b->G):G:=by
 unfold mz at h
 by_cases q:t = "int"
 ·rw[if_pos q] at h; exact c1 q (Option.some.inj h)
 rw[if_neg q] at h
 by_cases q:t = "bool"
 ·rw[if_pos q] at h; exact c2 q (Option.some.inj h)
 rw[if_neg q] at h
 by_cases q:t = "list"
 ·rw[if_pos q] at h; exact c3 q (Option.some.inj h)
 rw[if_neg q] at h
 by_cases q:t = "tuple"
 ·rw[if_pos q] at h; exact c4 q (Option.some.inj h)
 rw[if_neg q] at h
 by_cases q:t = "str"
 ·rw[if_pos q] at h; exact c5 q (Option.some.inj h)
 rw[if_neg q] at h
 cases h
theorem xt (h:hV v t = .ok b):∃ x,v = .d x/\mz t (qp x)=some b:=by
 obtain ⟨x,i,h⟩:=aQ h
 obtain ⟨c,g,h⟩:=aQ h
 exact ⟨x,cR i,by rw[g,Out.ok.inj h]⟩
theorem rp:NE (hV v t):=.opt λuu=>.opt λuu=>.ok
noncomputable def al:V->Out Bool
 | .d (.bool b)=>.ok b
 | _=>.bad
noncomputable def et:V->Option (Int×PyData×Int)
 | .rule c d n=>some (c,d,n)
 | _=>none
theorem lL (h:et x=some q):x = .rule q.1 q.2.1 q.2.2:=by cases x<;>cases h; rfl
noncomputable def j5 (x:V) (n:String):Out (V×Mode):=am (et x) λq=>if n = "count" then .ok (sI q.1) else if n = "full" then .ok (mk (.d q.2.1)) else if n = "size" then .ok (sI q.2.2) else .bad
theorem oZ:NE (j5 x n):=.opt λuu=>.ite .ok (.ite .ok (.ite .ok .bad))
noncomputable def methNames:List String:=["together", "rank", "need_full", "outs", "exchanges"]
noncomputable def bV:List String:=["PickError", "NoChoice", "NoThing", "NoExchange", "NoWeights", "NoRule"]
noncomputable def fieldNames:List String:=["count", "full", "size"]
noncomputable def c6 (a b:Int):List PyData:=(List.range (b-a).toNat).map λ(k:Nat)=>.int (a+k)
noncomputable def bM (a b:Int):Out (List PyData×Mode) :=
 if (b-a).toNat<=lim/\-(2^60)<=a/\a<2^60/\-(2^60)<=b/\b<2^60 then .ok (c6 a b,.deep) else .bad
noncomputable def bE (f:PyData->Out (Option (V×Mode))):List PyData->Out (List PyData×Bool)
 | []=>.ok ([],true)
 | x::xs=>(f x).bind λr=>(bE f xs).bind λq=>match r with
  | none=>.ok q
  | some (.d y,m)=>.ok (y::q.1,decide (m = .deep)&&q.2)
  | some _=>.bad
noncomputable def bP:List (V×Mode)->Option (List PyData)
 | []=>some []
 | (.d x,_)::r=>(bP r).map (x :: ·)
 | _::_=>none
noncomputable def allDeep (l:List (V×Mode)):Bool:=l.all λp=>decide (p.2 = .deep)
noncomputable def hH:V->Option (List PyData)
 | .d (.list xs)=>some xs
 | _=>none
theorem jw (h:hH v=some xs):v = .d (.list xs):=by
 unfold hH at h
 split at h
 ·cases h; rfl
 ·cases h
noncomputable def itV (r:V×Mode):Out (List PyData×Mode):=match hH r.1 with
 | some xs=>.ok (xs,r.2)
 | none=>.bad
noncomputable def dA (ns:List Int) (i:Nat):List Int:=[-(ns.getD i 0),(i:Int)]
noncomputable def aR (ns:List Int):List Int:=(((List.range ns.length).map λi=>(dA ns i,i)).mergeSort λa b=>!ltL b.1 a.1).map λp=>(p.2:Int)
noncomputable def eX (p:Option (V×Mode)):Out (V×Mode):=am p λq=>am (asD q.1) λd=>am (asL d) λh=>am (aF h) λg=>if g.length<128 then .ok (.d (.list ((aR g).map .int)),.deep) else .bad
mutual
noncomputable def ev (C:Calls):E->St->Out (V×Mode)
 | .name x,σ=>match σ x with | some p=>.ok (mk p.1) | none=>.bad
 | .int i,_=>.ok (sI i)
 | .str s,_=>.ok (.d (.str (Str.ofString s)),.deep)
 | .bool b,_=>.ok (sB b)
 | .none,_=>.ok (.d .none,.deep)
 | .bin o a b,σ=>(ev C a σ).bind λx=>(ev C b σ).bind λy=>match x.1,y.1 with | .d x,.d y=>dz o x y | _,_=>.bad
 | .neg a,σ=>(ev C a σ).bind λx=>match x.1 with | .d (.int i)=>.ok (sI (-i)) | _=>.bad
 | .not a,σ=>(ev C a σ).bind λx=>(al x.1).bind λb=>.ok (sB (!b))
 | .cmp o a b,σ=>(ev C a σ).bind λx=>(ev C b σ).bind λy=>(b6 o x.1 y.1).bind λb=>.ok (sB b)
 | .and a b,σ=>(ev C a σ).bind λx=>(al x.1).bind λt=>if t then (ev C b σ).bind λy=>(al y.1).bind λu=>.ok (sB u) else .ok (sB false)
 | .or a b,σ=>(ev C a σ).bind λx=>(al x.1).bind λt=>if t then .ok (sB true) else (ev C b σ).bind λy=>(al y.1).bind λu=>.ok (sB u)
 | .list es,σ=>(evs C es σ).bind λl=>match bP l with
  | some xs=>.ok (.d (.list xs),if allDeep l then .deep else .top)
  | none=>.bad
 | .tup es,σ=>(evs C es σ).bind λl=>match bP l with
  | some xs=>.ok (.d (.tuple xs),if allDeep l then .deep else .sh)
  | none=>.bad
 | .edic,_=>.ok (.dic0,.deep)
 | .comp elt x it,σ=>(a0 C it σ).bind λq=>(bE (λy=>(ev C elt (upd σ x (mk (.d y)))).bind λr=>.ok (some r)) q.1).calm.bind λr=>.ok (.d (.list r.1),if r.2 then .deep else .top)
 | .compif elt x it c,σ=>(a0 C it σ).bind λq=>(bE (λy=>(ev C c (upd σ x (mk (.d y)))).bind λt=>(al t.1).bind λb=>if b then (ev C elt (upd σ x (mk (.d y)))).bind λr=>.ok (some r) else .ok none) q.1).calm.bind λr=>.ok (.d (.list r.1),if r.2 then .deep else .top)
 | .sub a i,σ=>(ev C a σ).bind λx=>(ev C i σ).bind λy=>match x.1,y.1 with | .d x,.d y=>fg x y | _,_=>.bad
 | .attr a n,σ=>am (C "Rule") λuu=>(ev C a σ).bind λx=>j5 x.1 n
 | .bi1 f a,σ=>(ev C a σ).bind λx=>b1V f x.1
 | .isi a t,σ=>(ev C a σ).bind λx=>(hV x.1 t).bind λb=>.ok (sB b)
 | .call f es,σ=>match C f with
  | some g=>(evs C es σ).bind λl=>g (l.map (·.1))
  | none=>.bad
 | .meth a m es,σ=>(ev C a σ).bind λx=>am (et x.1) λuu=>am (C m) λg=>(evs C es σ).bind λl=>g (x.1::l.map (·.1))
 | .order x _,σ=>am (C "law") λuu=>eX (σ x)
noncomputable def evs (C:Calls):Es->St->Out (List (V×Mode))
 | .nil,_=>.ok []
 | .cons e es,σ=>(ev C e σ).bind λx=>(evs C es σ).bind λl=>.ok (x::l)
noncomputable def a0 (C:Calls):It->St->Out (List PyData×Mode)
 | .e a,σ=>(ev C a σ).bind itV
 | .r1 n,σ=>(ev C n σ).bind λx=>match x.1 with | .d (.int n)=>bM 0 n | _=>.bad
 | .r2 a b,σ=>(ev C a σ).bind λx=>(ev C b σ).bind λy=>match x.1,y.1 with | .d (.int a),.d (.int b)=>bM a b | _,_=>.bad
end
theorem bW (C:Calls) (x:String) (σ:St):ev C (.name x) σ=(match σ x with | some p=>.ok (mk p.1) | none=>.bad):=rfl
theorem eP (C:Calls) (i:Int) (σ0:St):ev C (.int i) σ0=(.ok (sI i)):=rfl
theorem jQ (C:Calls) (s:String) (σ0:St):ev C (.str s) σ0=(.ok (.d (.str (Str.ofString s)),.deep)):=rfl
theorem gB (C:Calls) (b:Bool) (σ0:St):ev C (.bool b) σ0=(.ok (sB b)):=rfl
theorem gK (C:Calls) (σ0:St):ev C .none σ0=(.ok (.d .none,.deep)):=rfl
theorem fc (C:Calls) (o:BOp) (a:E) (b:E) (σ:St):ev C (.bin o a b) σ=((ev C a σ).bind λx=>(ev C b σ).bind λy=>match x.1,y.1 with | .d x,.d y=>dz o x y | _,_=>.bad):=rfl
theorem fk (C:Calls) (a:E) (σ:St):ev C (.neg a) σ=((ev C a σ).bind λx=>match x.1 with | .d (.int i)=>.ok (sI (-i)) | _=>.bad):=rfl
theorem dh (C:Calls) (a:E) (σ:St):ev C (.not a) σ=((ev C a σ).bind λx=>(al x.1).bind λb=>.ok (sB (!b))):=rfl
theorem db (C:Calls) (o:COp) (a:E) (b:E) (σ:St):ev C (.cmp o a b) σ=((ev C a σ).bind λx=>(ev C b σ).bind λy=>(b6 o x.1 y.1).bind λb=>.ok (sB b)):=rfl
theorem dm (C:Calls) (a:E) (b:E) (σ:St):ev C (.and a b) σ=((ev C a σ).bind λx=>(al x.1).bind λt=>if t then (ev C b σ).bind λy=>(al y.1).bind λu=>.ok (sB u) else .ok (sB false)):=rfl
theorem eF (C:Calls) (a:E) (b:E) (σ:St):ev C (.or a b) σ=((ev C a σ).bind λx=>(al x.1).bind λt=>if t then .ok (sB true) else (ev C b σ).bind λy=>(al y.1).bind λu=>.ok (sB u)):=rfl
theorem bp (C:Calls) (es:Es) (σ:St):ev C (.list es) σ=((evs C es σ).bind λl=>match bP l with
  | some xs=>.ok (.d (.list xs),if allDeep l then .deep else .top)
  | none=>.bad):=rfl
theorem di (C:Calls) (es:Es) (σ:St):ev C (.tup es) σ=((evs C es σ).bind λl=>match bP l with
  | some xs=>.ok (.d (.tuple xs),if allDeep l then .deep else .sh)
  | none=>.bad):=rfl
theorem gH (C:Calls) (σ0:St):ev C .edic σ0=(.ok (.dic0,.deep)):=rfl
theorem cX (C:Calls) (elt:E) (x:String) (it:It) (σ:St):ev C (.comp elt x it) σ=((a0 C it σ).bind λq=>(bE (λy=>(ev C elt (upd σ x (mk (.d y)))).bind λr=>.ok (some r)) q.1).calm.bind λr=>.ok (.d (.list r.1),if r.2 then .deep else .top)):=rfl
theorem cb (C:Calls) (elt:E) (x:String) (it:It) (c:E) (σ:St):ev C (.compif elt x it c) σ=((a0 C it σ).bind λq=>(bE (λy=>(ev C c (upd σ x (mk (.d y)))).bind λt=>(al t.1).bind λb=>if b then (ev C elt (upd σ x (mk (.d y)))).bind λr=>.ok (some r) else .ok none) q.1).calm.bind λr=>.ok (.d (.list r.1),if r.2 then .deep else .top)):=rfl
theorem d6 (C:Calls) (a:E) (i:E) (σ:St):ev C (.sub a i) σ=((ev C a σ).bind λx=>(ev C i σ).bind λy=>match x.1,y.1 with | .d x,.d y=>fg x y | _,_=>.bad):=rfl
theorem dU (C:Calls) (a:E) (n:String) (σ:St):ev C (.attr a n) σ=(am (C "Rule") λuu=>(ev C a σ).bind λx=>j5 x.1 n):=rfl
theorem ec (C:Calls) (f:B1) (a:E) (σ:St):ev C (.bi1 f a) σ=((ev C a σ).bind λx=>b1V f x.1):=rfl
theorem eT (C:Calls) (a:E) (t:String) (σ:St):ev C (.isi a t) σ=((ev C a σ).bind λx=>(hV x.1 t).bind λb=>.ok (sB b)):=rfl
theorem dW (C:Calls) (f:String) (es:Es) (σ:St):ev C (.call f es) σ=(match C f with
  | some g=>(evs C es σ).bind λl=>g (l.map (·.1))
  | none=>.bad):=rfl
theorem cN (C:Calls) (a:E) (m:String) (es:Es) (σ:St):ev C (.meth a m es) σ=((ev C a σ).bind λx=>am (et x.1) λuu=>am (C m) λg=>(evs C es σ).bind λl=>g (x.1::l.map (·.1))):=rfl
theorem d8 (C:Calls) (x:String) (z1:String) (σ:St):ev C (.order x z1) σ=(am (C "law") λuu=>eX (σ x)):=rfl
theorem aV (C:Calls) (σ0:St):evs C .nil σ0=(.ok []):=rfl
theorem aU (C:Calls) (e:E) (es:Es) (σ:St):evs C (.cons e es) σ=((ev C e σ).bind λx=>(evs C es σ).bind λl=>.ok (x::l)):=rfl
theorem f6 (C:Calls) (a:E) (σ:St):a0 C (.e a) σ=((ev C a σ).bind itV):=rfl
theorem eW (C:Calls) (n:E) (σ:St):a0 C (.r1 n) σ=((ev C n σ).bind λx=>match x.1 with | .d (.int n)=>bM 0 n | _=>.bad):=rfl
theorem eU (C:Calls) (a:E) (b:E) (σ:St):a0 C (.r2 a b) σ=((ev C a σ).bind λx=>(ev C b σ).bind λy=>match x.1,y.1 with | .d (.int a),.d (.int b)=>bM a b | _,_=>.bad):=rfl
mutual
noncomputable def fv:E->List String
 | .name x=>[x]
 | .int _ | .str _ | .bool _ | .none | .edic=>[]
 | .bin _ a b | .cmp _ a b | .and a b | .or a b | .sub a b=>fv a++fv b
 | .neg a | .not a | .attr a _ | .bi1 _ a | .isi a _=>fv a
 | .list es | .tup es | .call _ es=>fvs es
 | .comp elt _ it=>bQ it++fv elt
 | .compif elt _ it c=>bQ it++(fv c++fv elt)
 | .meth a _ es=>fv a++fvs es
 | .order x _=>[x]
noncomputable def fvs:Es->List String
 | .nil=>[]
 | .cons e es=>fv e++fvs es
noncomputable def bQ:It->List String
 | .e a=>fv a
 | .r1 n=>fv n
 | .r2 a b=>fv a++fv b
end
theorem dT (x:String):fv (.name x)=([x]):=rfl
theorem Ay (z0:Int):fv (.int z0)=([]):=rfl
theorem Lp (z0:String):fv (.str z0)=([]):=rfl
theorem JQ (z0:Bool):fv (.bool z0)=([]):=rfl
theorem Ko:fv .none=([]):=rfl
theorem Lf:fv .edic=([]):=rfl
theorem AQ (z0:BOp) (a:E) (b:E):fv (.bin z0 a b)=(fv a++fv b):=rfl
theorem Bm (z0:COp) (a:E) (b:E):fv (.cmp z0 a b)=(fv a++fv b):=rfl
theorem AD (a:E) (b:E):fv (.and a b)=(fv a++fv b):=rfl
theorem Cd (a:E) (b:E):fv (.or a b)=(fv a++fv b):=rfl
theorem rP (a:E) (b:E):fv (.sub a b)=(fv a++fv b):=rfl
theorem An (a:E):fv (.neg a)=(fv a):=rfl
theorem z8 (a:E):fv (.not a)=(fv a):=rfl
theorem vZ (a:E) (z1:String):fv (.attr a z1)=(fv a):=rfl
theorem Aw (z0:B1) (a:E):fv (.bi1 z0 a)=(fv a):=rfl
theorem Bg (a:E) (z1:String):fv (.isi a z1)=(fv a):=rfl
theorem xo (es:Es):fv (.list es)=(fvs es):=rfl
theorem A0 (es:Es):fv (.tup es)=(fvs es):=rfl
theorem kU (z0:String) (es:Es):fv (.call z0 es)=(fvs es):=rfl
theorem w6 (elt:E) (z1:String) (it:It):fv (.comp elt z1 it)=(bQ it++fv elt):=rfl
theorem tO (elt:E) (z1:String) (it:It) (c:E):fv (.compif elt z1 it c)=(bQ it++(fv c++fv elt)):=rfl
theorem v9 (a:E) (z1:String) (es:Es):fv (.meth a z1 es)=(fv a++fvs es):=rfl
theorem uQ (x:String) (z1:String):fv (.order x z1)=([x]):=rfl
theorem oL:fvs .nil=([]):=rfl
theorem ju (e:E) (es:Es):fvs (.cons e es)=(fv e++fvs es):=rfl
theorem e7 (a:E):bQ (.e a)=(fv a):=rfl
theorem xO (n:E):bQ (.r1 n)=(fv n):=rfl
theorem wX (a:E) (b:E):bQ (.r2 a b)=(fv a++fv b):=rfl
inductive H1 where
mutual
inductive S where
 | assign (x:String) (e:E)
 | setitem (x:String) (k:E)
 | append (x:String) (e:E)
 | pop (x:String) (i:E)
 | expr (e:E)
 | ret (e:E)
 | retn (x:String)
 | ite (c:E) (a b:Ss)
 | for1 (x:String) (it:It) (b:Ss)
 | for2 (x y:String) (it:It) (b:Ss)
 | bad
inductive Ss where
 | nil
 | cons (s:S) (r:Ss)
end
mutual
noncomputable def asg:S->List String
 | .assign x _ | .setitem x _ | .append x _ | .pop x _=>[x]
 | .expr _ | .ret _ | .retn _ | .bad=>[]
 | .ite _ a b=>gG a++gG b
 | .for1 x _ b=>x::gG b
 | .for2 x y _ b=>x::y::gG b
noncomputable def gG:Ss->List String
 | .nil=>[]
 | .cons s r=>asg s++gG r
end
inductive Flw where
 | next
 | ret (v:V×Mode)
noncomputable def demote (σ:St) (ns:List String):St:=λy=>if y∈ns then (σ y).map λp=>mk p.1 else σ y
noncomputable def consume (σ:St) (ns:List String) (m:Mode):St:=if m = .deep then σ else demote σ ns
noncomputable def bC (f:PyData->St->Out (St×Flw)):List PyData->St->Out (St×Flw)
 | [],σ=>.ok (σ,.next)
 | x::xs,σ=>(f x σ).bind λr=>match r.2 with
  | .next=>bC f xs r.1
  | .ret v=>.ok (r.1,.ret v)
noncomputable def jh (σ:St) (x:String) (ns:List String) (mx:Mode) (xs:List PyData) (m:Mode):Out (St×Flw) :=
 if xs.length<=lim then
  if m = .deep then .ok (upd σ x (.d (.list xs),mx),.next)
  else if x∈ns then .bad else .ok (upd (demote σ ns) x (.d (.list xs),.top),.next)
 else .bad
noncomputable def gO (σ:St) (x:String):V->PyData->Out (St×Flw)
 | .dic0,k=>match ei k with
  | some i=>.ok (upd σ x (.dicI [i],.deep),.next)
  | none=>match dy k with
   | some t=>.ok (upd σ x (.dicT [t],.deep),.next)
   | none=>.bad
 | .dicI ks,k=>match ei k with
  | some i=>if ks.length<=lim then .ok (upd σ x (.dicI (if i∈ks then ks else ks++[i]),.deep),.next) else .bad
  | none=>.bad
 | .dicT ks,k=>match dy k with
  | some i=>if ks.length<=lim then .ok (upd σ x (.dicT (if i∈ks then ks else ks++[i]),.deep),.next) else .bad
  | none=>.bad
 | _,_=>.bad
noncomputable def lQ:E->Bool
 | .comp _ _ _ | .compif _ _ _ _=>true
 | _=>false
noncomputable def evA (C:Calls) (e:E) (σ:St):Out (V×Mode):=if lQ e then (ev C e σ).calm else ev C e σ
theorem lh (h:ev C e σ = .ok r):evA C e σ = .ok r:=by
 unfold evA; rw[h]; split<;>rfl
theorem CE (h:evA C e σ = .ok r):ev C e σ = .ok r:=by
 unfold evA at h
 split at h
 ·cases q:ev C e σ with
  | ok a=>rw[q] at h; exact h
  | exc c=>rw[q] at h; cases h
  | bad=>rw[q] at h; cases h
 ·exact h
mutual
noncomputable def hOk:E->Bool
 | .name _ | .int _ | .bool _=>true
 | .bin _ a b | .cmp _ a b | .and a b | .or a b=>hOk a&&hOk b
 | .not a=>hOk a
 | .list es=>xf es
 | _=>false
noncomputable def xf:Es->Bool
 | .nil=>true
 | .cons e es=>hOk e&&xf es
end
mutual
noncomputable def ex (C:Calls):S->St->Out (St×Flw)
 | .assign x e,g=>(evA C e g).bind λr=>.ok (upd (consume g (fv e) r.2) x r,.next)
 | .setitem x k,g=>(ev C k g).calm.bind λr=>match r.1,g x with
  | .d k,some (v,.deep)=>gO g x v k
  | _,_=>.bad
 | .append x e,g=>(ev C e g).calm.bind λr=>match r.1,g x with
  | .d y,some (v,mx)=>(match hH v with
   | some xs=>if mx = .sh then .bad else jh g x (fv e) mx (xs++[y]) r.2
   | none=>.bad)
  | _,_=>.bad
 | .pop x i,g=>(ev C i g).calm.bind λq=>match q.1,g x with
  | .d (.int i),some (v,mx)=>(match hH v with
   | some xs=>if mx = .sh\/i<0\/(xs.length:Int)<=i then .bad else .ok (upd g x (.d (.list (xs.eraseIdx i.toNat)),.top),.next)
   | none=>.bad)
  | _,_=>.bad
 | .expr e,g=>(ev C e g).bind λr=>.ok (consume g (fv e) r.2,.next)
 | .retn x,g=>match g x with
  | some r=>.ok (g,.ret r)
  | none=>.bad
 | .ret e,g=>(ev C e g).bind λr=>.ok (g,.ret r)
 | .ite c a b,g=>(ev C c g).bind λr=>(al r.1).bind λt=>if t then exs C a g else exs C b g
 | .for1 x it b,g=>(a0 C it g).bind λq=>bC (λy g=>exs C b (upd g x (mk (.d y)))) q.1 (consume g (bQ it) q.2)
 | .for2 x y it b,g=>(a0 C it g).bind λq=>bC (λd g=>am ((ml d).map λp=>upd (upd g x (sI p.1)) y (sI p.2)) (exs C b)) q.1 (consume g (bQ it) q.2)
 | .bad,_=>.bad
noncomputable def exs (C:Calls):Ss->St->Out (St×Flw)
 | .nil,σ=>.ok (σ,.next)
 | .cons s r,σ=>(ex C s σ).bind λq=>match q.2 with
  | .next=>exs C r q.1
  | .ret v=>.ok (q.1,.ret v)
end
theorem ce (C:Calls) (x:String) (e:E) (σ:St):ex C (.assign x e) σ=((evA C e σ).bind λr=>.ok (upd (consume σ (fv e) r.2) x r,.next)):=rfl
theorem cQ (C:Calls) (x:String) (k:E) (σ:St):ex C (.setitem x k) σ=((ev C k σ).calm.bind λr=>match r.1,σ x with
  | .d k,some (v,.deep)=>gO σ x v k
  | _,_=>.bad):=rfl
theorem eI (C:Calls) (x:String) (e:E) (σ:St):ex C (.append x e) σ=((ev C e σ).calm.bind λr=>match r.1,σ x with
  | .d y,some (v,mx)=>(match hH v with
   | some xs=>if mx = .sh then .bad else jh σ x (fv e) mx (xs++[y]) r.2
   | none=>.bad)
  | _,_=>.bad):=rfl
theorem mw (C:Calls) (x:String) (i:E) (σ:St):ex C (.pop x i) σ=((ev C i σ).calm.bind λq=>match q.1,σ x with
  | .d (.int i),some (v,mx)=>(match hH v with
   | some xs=>if mx = .sh\/i<0\/(xs.length:Int)<=i then .bad else .ok (upd σ x (.d (.list (xs.eraseIdx i.toNat)),.top),.next)
   | none=>.bad)
  | _,_=>.bad):=rfl
theorem eZ (C:Calls) (e:E) (σ:St):ex C (.expr e) σ=((ev C e σ).bind λr=>.ok (consume σ (fv e) r.2,.next)):=rfl
theorem ky (C:Calls) (x:String) (σ:St):ex C (.retn x) σ=(match σ x with
  | some r=>.ok (σ,.ret r)
  | none=>.bad):=rfl
theorem im (C:Calls) (e:E) (σ:St):ex C (.ret e) σ=((ev C e σ).bind λr=>.ok (σ,.ret r)):=rfl
theorem eL (C:Calls) (c:E) (a:Ss) (b:Ss) (σ:St):ex C (.ite c a b) σ=((ev C c σ).bind λr=>(al r.1).bind λt=>if t then exs C a σ else exs C b σ):=rfl
theorem kQ (C:Calls) (x:String) (it:It) (b:Ss) (σ:St):ex C (.for1 x it b) σ=((a0 C it σ).bind λq=>bC (λy σ=>exs C b (upd σ x (mk (.d y)))) q.1 (consume σ (bQ it) q.2)):=rfl
theorem pL (C:Calls) (x y:String) (it:It) (b:Ss) (σ:St):ex C (.for2 x y it b) σ=((a0 C it σ).bind λq=>bC (λd σ=>am ((ml d).map λp=>upd (upd σ x (sI p.1)) y (sI p.2)) (exs C b)) q.1 (consume σ (bQ it) q.2)):=rfl
theorem jM (C:Calls) (σ0:St):ex C .bad σ0=(.bad):=rfl
theorem cO (C:Calls) (σ:St):exs C .nil σ=(.ok (σ,.next)):=rfl
theorem bg (C:Calls) (s:S) (r:Ss) (σ:St):exs C (.cons s r) σ=((ex C s σ).bind λq=>match q.2 with
  | .next=>exs C r q.1
  | .ret v=>.ok (q.1,.ret v)):=rfl
structure Fn where
 params:List String
 body:Ss
noncomputable def bB:List String->List V->Option St
 | [],[]=>some λuu=>none
 | p::ps,v::vs=>(bB ps vs).map λg=>upd g p (mk v)
 | _,_=>none
noncomputable def au (C:Calls) (f:Fn) (vs:List V):Out (V×Mode):=match bB f.params vs with
 | some σ=>(exs C f.body σ).bind λr=>match r.2 with
  | .ret v=>.ok v
  | .next=>.ok (.d .none,.deep)
 | none=>.bad
noncomputable def aw (C:Calls):Calls:=λf=>if f = "law" then none else C f
noncomputable def fA (σ:St):Out (V×Mode):=am (σ "count") λp=>am (asD p.1) λc=>am (ei c) λc=>am (σ "full") λq=>am (asD q.1) λd=>am (asL d) λg=>am (g[0]?) λx=>am (asL x) λh=>
 if q.2 = .deep then .ok (.rule c (.list g) h.length,.deep) else .bad
noncomputable def dv (C:Calls) (f:Fn) (vs:List V):Out (V×Mode):=match bB f.params vs with
 | some σ=>(exs C f.body σ).bind λr=>match r.2 with
  | .next=>fA r.1
  | .ret _=>.bad
 | none=>.bad
noncomputable def bL (f:String) (C:Calls) (fn:Fn) (vs:List V):Out (V×Mode):=if f = "Rule" then dv (aw C) fn vs else if f∈methNames then au (aw C) fn vs else au C fn vs
noncomputable def mkC (L:List (String×Fn)):Nat->Calls
 | 0=>λuu=>none
 | n+1=>λf=>(L.lookup f).map λh g=>bL f (mkC L n) h g
theorem NE.calm {α:Type}{o:Out α}:NE o.calm:=λc h=>by cases o<;>cases h
theorem e9:NE (al v):=by unfold al; split<;>first | exact .ok | exact .bad
theorem BA:NE (itV r):=by unfold itV; split<;>first | exact .ok | exact .bad
theorem nP:NE (bM a b):=by unfold bM; exact .ite .ok .bad
def NC (C:Calls):Prop:=∀ f g vs,C f=some g->NE (g vs)
mutual
theorem bn (hC:NC C):∀ (e:E) (σ:St),NE (ev C e σ)
 | .name x,σ=>by rw[bW]; split<;>first | exact .ok | exact .bad
 | .int _,_=>.ok
 | .str _,_=>.ok
 | .bool _,_=>.ok
 | .none,_=>.ok
 | .bin o a b,σ=>by rw[fc]; refine .bind (bn hC a σ) λx=>.bind (bn hC b σ) λy=>?_; split<;>first | exact rt | exact .bad
 | .neg a,σ=>by rw[fk]; refine .bind (bn hC a σ) λx=>?_; split<;>first | exact .ok | exact .bad
 | .not a,σ=>by rw[dh]; exact .bind (bn hC a σ) λx=>.bind e9 λ_=>.ok
 | .cmp o a b,σ=>by rw[db]; exact .bind (bn hC a σ) λx=>.bind (bn hC b σ) λy=>.bind rG λ_=>.ok
 | .and a b,σ=>by rw[dm]; exact .bind (bn hC a σ) λx=>.bind e9 λ_=>.ite (.bind (bn hC b σ) λ_=>.bind e9 λ_=>.ok) .ok
 | .or a b,σ=>by rw[eF]; exact .bind (bn hC a σ) λx=>.bind e9 λ_=>.ite .ok (.bind (bn hC b σ) λ_=>.bind e9 λ_=>.ok)
 | .list es,σ=>by rw[bp]; refine .bind (jB hC es σ) λl=>?_; split<;>first | exact .ok | exact .bad | (split<;>first | exact .ok | exact .bad)
 | .tup es,σ=>by rw[di]; refine .bind (jB hC es σ) λl=>?_; split<;>first | exact .ok | exact .bad | (split<;>first | exact .ok | exact .bad)
 | .edic,_=>.ok
 | .comp elt x it,σ=>by rw[cX]; exact .bind (jY hC it σ) λq=>.bind .calm λ_=>.ok
 | .compif elt x it c,σ=>by rw[cb]; exact .bind (jY hC it σ) λq=>.bind .calm λ_=>.ok
 | .sub a b,σ=>by rw[d6]; refine .bind (bn hC a σ) λx=>.bind (bn hC b σ) λy=>?_; split<;>first | exact rH | exact .bad
 | .attr a n,σ=>by rw[dU]; exact .opt λ_=>.bind (bn hC a σ) λx=>oZ
 | .bi1 f a,σ=>by rw[ec]; exact .bind (bn hC a σ) λx=>vt
 | .isi a t,σ=>by rw[eT]; exact .bind (bn hC a σ) λx=>.bind rp λ_=>.ok
 | .call f es,σ=>by
  rw[dW]
  cases h:C f with
  | none=>exact .bad
  | some g=>exact .bind (jB hC es σ) λl=>hC f g _ h
 | .meth a m es,σ=>by
  rw[cN]
  refine .bind (bn hC a σ) λx=>.opt λ_=>?_
  cases h:C m with
  | none=>exact .bad
  | some g=>exact .bind (jB hC es σ) λl=>hC m g _ h
 | .order x _,σ=>by rw[d8]; exact .opt λ_=>.opt λ_=>.opt λ_=>.opt λ_=>.opt λ_=>.ite .ok .bad
termination_by structural e=>e
theorem jB (hC:NC C):∀ (es:Es) (σ:St),NE (evs C es σ)
 | .nil,_=>.ok
 | .cons e es,σ=>by rw[aU]; exact .bind (bn hC e σ) λx=>.bind (jB hC es σ) λl=>.ok
termination_by structural es=>es
theorem jY (hC:NC C):∀ (it:It) (σ:St),NE (a0 C it σ)
 | .e a,σ=>by rw[f6]; exact .bind (bn hC a σ) λ_=>BA
 | .r1 a,σ=>by rw[eW]; refine .bind (bn hC a σ) λx=>?_; split<;>first | exact nP | exact .bad
 | .r2 a b,σ=>by rw[eU]; refine .bind (bn hC a σ) λx=>.bind (bn hC b σ) λy=>?_; split<;>first | exact nP | exact .bad
termination_by structural it=>it
end
theorem Bt (hC:NC C):NE (evA C e σ):=by unfold evA; exact .ite .calm (bn hC e σ)
theorem setV_ne':NE (gO σ x v k):=by
 unfold gO
 repeat (first | exact .ok | exact .bad | split)
theorem Bc:NE (jh σ x ns mx xs m):=by
 unfold jh
 exact .ite (.ite .ok (.ite .bad .ok)) .bad
theorem kP (h:∀ y σ,NE (f y σ)):∀ (l:List PyData) (σ:St),NE (bC f l σ)
 | [],σ=>.ok
 | y::l,σ=>by
  rw[bC]
  refine .bind (h y σ) λr=>?_
  split
  ·exact kP h l _
  ·exact .ok
mutual
theorem Ho (hC:NC C):∀ (s:S) (σ:St),NE (ex C s σ)
 | .assign x e,σ=>by rw[ce]; exact .bind (Bt hC) λ_=>.ok
 | .setitem x k,σ=>by rw[cQ]; refine .bind .calm λr=>?_; split<;>first | exact setV_ne' | exact .bad
 | .append x e,σ=>by
  rw[eI]
  refine .bind .calm λr=>?_
  split
  ·split
   ·exact .ite .bad Bc
   ·exact .bad
  ·exact .bad
 | .pop x i,σ=>by
  rw[mw]
  refine .bind .calm λq=>?_
  split
  ·split
   ·exact .ite .bad .ok
   ·exact .bad
  ·exact .bad
 | .expr e,σ=>by rw[eZ]; exact .bind (bn hC e σ) λ_=>.ok
 | .retn x,σ=>by rw[ky]; split<;>first | exact .ok | exact .bad
 | .ret e,σ=>by rw[im]; exact .bind (bn hC e σ) λ_=>.ok
 | .ite c a b,σ=>by rw[eL]; exact .bind (bn hC c σ) λ_=>.bind e9 λ_=>.ite (dD hC a σ) (dD hC b σ)
 | .for1 x it b,σ=>by rw[kQ]; exact .bind (jY hC it σ) λq=>kP (λy σ=>dD hC b _) _ _
 | .for2 x y it b,σ=>by rw[pL]; exact .bind (jY hC it σ) λq=>kP (λy σ=>.opt λ_=>dD hC b _) _ _
 | .bad,_=>.bad
termination_by structural s=>s
theorem dD (hC:NC C):∀ (b:Ss) (σ:St),NE (exs C b σ)
 | .nil,_=>.ok
 | .cons s r,σ=>by
  rw[bg]
  refine .bind (Ho hC s σ) λq=>?_
  split
  ·exact dD hC r _
  ·exact .ok
termination_by structural b=>b
end
theorem rR (hC:NC C) (f:Fn) (vs:List V):NE (au C f vs):=by
 unfold au
 split
 ·refine .bind (dD hC _ _) λr=>?_
  split<;>exact .ok
 ·exact .bad
theorem mY:NE (fA σ):=by
 unfold fA
 exact .opt λ_=>.opt λ_=>.opt λ_=>.opt λ_=>.opt λ_=>.opt λ_=>.opt λ_=>.opt λ_=>.ite .ok .bad
theorem A4 (hC:NC C) (f:Fn) (vs:List V):NE (dv C f vs):=by
 unfold dv
 split
 ·refine .bind (dD hC _ _) λr=>?_
  split
  ·exact mY
  ·exact .bad
 ·exact .bad
theorem iW (hC:NC C):NC (aw C):=λf g i h=>by
 unfold aw at h
 split at h
 ·cases h
 ·exact hC f g i h
theorem gD (L:List (String×Fn)):∀ n:Nat,NC (mkC L n)
 | 0=>λf g i h=>by cases h
 | n+1=>λf g i h=>by
  obtain ⟨j,_,rfl⟩:=map_eq_some_iff.mp (show (L.lookup f).map _=some g from h)
  show NE (bL f (mkC L n) j i)
  unfold bL
  exact .ite (A4 (iW (gD L n)) j i) (.ite (rR (iW (gD L n)) j i) (rR (gD L n) j i))
open PyProof.Rows
mutual
inductive R (h:Heap):Value->PyData->List Addr->Prop
 | none:R h .none .none []
 | bool (b:Bool):R h (.bool b) (.bool b) []
 | int (i:Int) (t:Tok):R h (.int i t) (.int i) []
 | str (x:Str) (t:Tok):R h (.str x t) (.str x) []
 | list {a:Addr}{n:Nat}{xs:List PyData}{as:List Addr}{vs:List Value}:h.get? a=some ⟨.type "list", Option.none,.seq vs.toArray n,#[]⟩->RA h vs xs as->R h (.ref a) (.list xs) (a::as)
 | tuple {a:Addr}{n:Nat}{xs:List PyData}{as:List Addr}{vs:List Value}:h.get? a=some ⟨.type "tuple", Option.none,.seq vs.toArray n,#[]⟩->RA h vs xs as->R h (.ref a) (.tuple xs) as
inductive RA (h:Heap):List Value->List PyData->List Addr->Prop
 | nil:RA h [] [] []
 | cons {v:Value}{vs:List Value}{d:PyData}{ds:List PyData}{as bs:List Addr}:R h v d as->RA h vs ds bs->RA h (v::vs) (d::ds) (as++bs)
end
theorem R.ind {h:Heap}{M:Value->PyData->List Addr->Prop}{N:List Value->List PyData->List Addr->Prop}(h1:M .none .none []) (h2:∀ b,M (.bool b) (.bool b) []) (h3:∀ i t,M (.int i t) (.int i) []) (h4:∀ x t,M (.str x t) (.str x) [])
  (h5:∀ {a:Addr}{n:Nat}{xs:List PyData}{as:List Addr}{vs:List Value},h.get? a=some ⟨.type "list", Option.none,.seq vs.toArray n,#[]⟩->RA h vs xs as->N vs xs as->M (.ref a) (.list xs) (a::as))
  (h6:∀ {a:Addr}{n:Nat}{xs:List PyData}{as:List Addr}{vs:List Value},h.get? a=some ⟨.type "tuple", Option.none,.seq vs.toArray n,#[]⟩->RA h vs xs as->N vs xs as->M (.ref a) (.tuple xs) as)
  (h7:N [] [] []) (h8:∀ {v:Value}{vs:List Value}{d:PyData}{ds:List PyData}{as bs:List Addr},R h v d as->RA h vs ds bs->M v d as->N vs ds bs->N (v::vs) (d::ds) (as++bs)) :
  (∀ {v:Value}{d:PyData}{as:List Addr},R h v d as->M v d as)/\(∀ {vs:List Value}{ds:List PyData}{as:List Addr},RA h vs ds as->N vs ds as) :=
 ⟨λr=>R.rec (motive_1:=λv d as _=>M v d as) (motive_2:=λvs ds as _=>N vs ds as) h1 h2 h3 h4 (λe r i=>h5 e r i) (λe r i=>h6 e r i) h7 (λx r i j=>h8 x r i j) r,
  λr=>RA.rec (motive_1:=λv d as _=>M v d as) (motive_2:=λvs ds as _=>N vs ds as) h1 h2 h3 h4 (λe r i=>h5 e r i) (λe r i=>h6 e r i) h7 (λx r i j=>h8 x r i j) r⟩
theorem RA.ind {h:Heap}{N:List Value->List PyData->List Addr->Prop}(h7:N [] [] []) (h8:∀ {v:Value}{vs:List Value}{d:PyData}{ds:List PyData}{as bs:List Addr},R h v d as->RA h vs ds bs->N vs ds bs->N (v::vs) (d::ds) (as++bs))
  {vs:List Value}{ds:List PyData}{as:List Addr}(r:RA h vs ds as):N vs ds as :=
 (R.ind (M:=λuu uu uu=>True) (N:=N) trivial (λuu=>trivial) (λuu uu=>trivial) (λuu uu=>trivial) (λuu uu uu=>trivial) (λuu uu uu=>trivial) h7 λx r _ j=>h8 x r j).2 r
noncomputable def Kps (h h':Heap) (as:List Addr):Prop:=∀ b o,(b∈as\/o.cls = .type "tuple")->(∃ vs n,o.data = .seq vs n)->h.get? b=some o->h'.get? b=some o
theorem R.onB:(∀ {v:Value}{d:PyData}{as:List Addr},R h v d as->Kps h h' as->R h' v d as)/\(∀ {vs:List Value}{ds:List PyData}{as:List Addr},RA h vs ds as->Kps h h' as->RA h' vs ds as) :=
 R.ind (M:=λv d as=>Kps h h' as->R h' v d as) (N:=λvs ds as=>Kps h h' as->RA h' vs ds as) (λuu=>.none) (λb _=>.bool b) (λi t _=>.int i t) (λx t _=>.str x t)
  (λe _ l k=>.list (k _ _ (.inl (.head _)) (bG _ _ rfl) e) (l λb o g=>k b o (g.imp (.tail _) id))) (λe _ l k=>.tuple (k _ _ (.inr rfl) (bG _ _ rfl) e) (l k))
  (λuu=>.nil) (λuu uu i j k=>.cons (i λb o g=>k b o (g.imp (mem_append_left _) id)) (j λb o g=>k b o (g.imp (mem_append_right _) id)))
section
theorem R.on2 (r:R h v d as) (k:∀ b o,(b∈as\/o.cls = .type "tuple")->(∃ vs n,o.data = .seq vs n)->h.get? b=some o->h'.get? b=some o):R h' v d as:=R.onB.1 r k
theorem RA.on2 (r:RA h vs ds as) (k:∀ b o,(b∈as\/o.cls = .type "tuple")->(∃ vs n,o.data = .seq vs n)->h.get? b=some o->h'.get? b=some o):RA h' vs ds as:=R.onB.2 r k
theorem R.on (r:R h v d as) (k:∀ b o,(b∈as\/o.cls = .type "tuple")->h.get? b=some o->h'.get? b=some o):R h' v d as:=r.on2 λb o q _=>k b o q
theorem RA.on (r:RA h vs ds as) (k:∀ b o,(b∈as\/o.cls = .type "tuple")->h.get? b=some o->h'.get? b=some o):RA h' vs ds as:=r.on2 λb o q _=>k b o q
end
noncomputable def Off (h:Heap) (as wr:List Addr):Prop:=∀ b∈wr,∀ o,h.get? b=some o->(∀ vs n,o.data≠.seq vs n)\/(o.cls≠.type "tuple" /\ b∉as)
theorem R.off (r:R h v d as) (hw:Off h as wr) (kp:∀ b o,b∉wr->h.get? b=some o->h'.get? b=some o):R h' v d as :=
 r.on2 λb o k ⟨i,n,e⟩ g=>kp b o (λj=>(hw b j o g).elim (λq=>q i n e) λq=>k.elim q.2 q.1) g
theorem RA.off (r:RA h vs ds as) (hw:Off h as wr) (kp:∀ b o,b∉wr->h.get? b=some o->h'.get? b=some o):RA h' vs ds as :=
 r.on2 λb o j ⟨vs,n,e⟩ g=>kp b o (λi=>(hw b i o g).elim (λq=>q vs n e) λq=>j.elim q.2 q.1) g
section
theorem R.keep (r:R h v d as) (k:∀ b o,h.get? b=some o->h'.get? b=some o):R h' v d as:=r.on λb o _=>k b o
theorem RA.keep (r:RA h vs ds as) (k:∀ b o,h.get? b=some o->h'.get? b=some o):RA h' vs ds as:=r.on λb o _=>k b o
end
theorem R.readsB:(∀ {v:Value}{d:PyData}{as:List Addr},R h v d as->Reads h v d as)/\(∀ {vs:List Value}{ds:List PyData}{as:List Addr},RA h vs ds as->ReadsAll h vs ds as) :=
 R.ind (M:=λv d as=>Reads h v d as) (N:=λvs ds as=>ReadsAll h vs ds as) .none (λb=>.bool b) (λi t=>.int i t) (λx t=>.str x t) (λe _ i=>.list e rfl rfl (by simpa using i)) (λe _ i=>.tuple e rfl rfl (by simpa using i)) .nil (λuu uu i j=>.cons i j)
theorem R.reads (r:R h v d as):Reads h v d as:=R.readsB.1 r
noncomputable def oJ (h:Heap) (as:List Addr):Prop:=∀ a∈as,∃ vs n,h.get? a=some ⟨.type "list", Option.none,.seq vs n,#[]⟩
theorem R.thereB:(∀ {v:Value}{d:PyData}{as:List Addr},R h v d as->oJ h as)/\(∀ {vs:List Value}{ds:List PyData}{as:List Addr},RA h vs ds as->oJ h as) :=
 R.ind (M:=λuu uu as=>oJ h as) (N:=λuu uu as=>oJ h as) (λuu g=>nomatch g) (λuu uu g=>nomatch g) (λuu uu uu g=>nomatch g) (λuu uu uu g=>nomatch g)
  (λe _ i a g=>(mem_cons.mp g).elim (λq=>q▸(bG _ _ e)) (i a)) (λuu uu i=>i) (λuu g=>nomatch g) (λuu uu i j a g=>(mem_append.mp g).elim (i a) (j a))
theorem R.there (r:R h v d as):∀ a∈as,∃ vs n,h.get? a=some ⟨.type "list", Option.none,.seq vs n,#[]⟩:=R.thereB.1 r
theorem RA.there (r:RA h vs ds as):∀ a∈as,∃ vs n,h.get? a=some ⟨.type "list", Option.none,.seq vs n,#[]⟩:=R.thereB.2 r
theorem R.isInt (r:R h v (.int i) as):∃ t,v = .int i t/\as=[]:=by
 cases r; exact (ag _ rfl rfl)
theorem R.isInt_k {h:Heap}{v:Value}{i:Int}{as:List Addr}{G:Prop}(r:R h v (.int i) as) (k:∀ t,v = .int i t->as=[]->G):G:=ae (R.isInt r) k
theorem R.isBool (r:R h v (.bool b) as):v = .bool b/\as=[]:=by
 cases r; exact ⟨rfl,rfl⟩
theorem R.isNone (r:R h v .none as):v = .none/\as=[]:=by
 cases r; exact ⟨rfl,rfl⟩
theorem R.isI_nil (r:R h v d as) (hs:isI d=true):as=[]:=by
 cases d with
 | int i=>exact R.isInt_k r λ_ _ e=>e
 | _=>exact nF hs
theorem RA.isI_nil (r:RA h vs ds as):ds.all isI=true->as=[] :=
 RA.ind (N:=λuu ds as=>ds.all isI=true->as=[]) (λuu=>rfl) (λx _ i g=>by
  refine eY (show (isI _&&List.all _ isI)=true from g) λk j=>?_
  rw[x.isI_nil k,i j]; rfl) r
theorem R.sx_nil (r:R h v d as) (hs:sx d=true):as=[]:=by
 cases r with
 | tuple e ra=>exact ra.isI_nil hs
 | list=>exact nF hs
 | _=>rfl
theorem RA.length (r:RA h vs ds as):vs.length=ds.length :=
 RA.ind (N:=λvs ds _=>vs.length=ds.length) rfl (λuu uu i=>congrArg (· + 1) i) r
theorem RA.append (r:RA h vs ds as) (q:RA h ws es bs):RA h (vs++ws) (ds++es) (as++bs) :=
 RA.ind (N:=λvs ds as=>RA h (vs++ws) (ds++es) (as++bs)) q (λx _ i=>by rw[append_assoc]; exact .cons x i) r
theorem RA.sx_nil (r:RA h vs ds as):ds.all sx=true->as=[] :=
 RA.ind (N:=λuu ds as=>ds.all sx=true->as=[]) (λuu=>rfl) (λx _ i g=>by
  refine eY (show (sx _&&List.all _ sx)=true from g) λk j=>?_
  rw[x.sx_nil k,i j]; rfl) r
theorem RA.get (r:RA h vs ds as):∀ {k:Nat}{d:PyData},ds[k]? = some d->∃ v bs,vs[k]? = some v/\R h v d bs/\∀ b∈bs,b∈as:=by
 have g:∀ (k:Nat) (d:PyData),ds[k]? = some d->∃ v bs,vs[k]? = some v/\R h v d bs/\∀ b∈bs,b∈as:=by
  refine RA.ind (N:=λvs ds as=>∀ (k:Nat) (d:PyData),ds[k]? = some d->∃ v bs,vs[k]? = some v/\R h v d bs/\∀ b∈bs,b∈as) (λk d hk=>by cases hk) (λx _ i k d hk=>?_) r
  cases k with
  | zero=>injection hk; exact (bJ _ _ rfl x (λb j=>mem_append_left _ j))
  | succ k=>
   refine aA (i k d hk) λv bs o n m=>?_
   exact (bJ v bs o n (λb j=>mem_append_right _ (m b j)))
 exact λ{k d}=>g k d
theorem RA.get' {h:Heap}{vs:List Value}{ds:List PyData}{as:List Addr}(r:RA h vs ds as) {k:Nat}{v:Value}(hk:vs[k]? = some v):∃ d bs,ds[k]? = some d/\R h v d bs/\∀ b∈bs,b∈as:=by
 have i:k<ds.length:=by rw[<- r.length]; exact (List.getElem?_eq_some_iff.mp hk).1
 refine aA (r.get (List.getElem?_eq_getElem i)) λn bs g m l=>?_
 rw[hk] at g; injection g
 exact (bJ _ bs (List.getElem?_eq_getElem i) m l)
theorem RA.ints (r:RA h vs ds as) (e:aF ds=some ns):IntsAre vs ns/\as=[]/\ds=ns.map .int:=by
 refine RA.ind (N:=λvs ds as=>∀ ns,aF ds=some ns->IntsAre vs ns/\as=[]/\ds=ns.map .int) (λns e=>?_) (λ{v vs d ds as p} x r i ns e=>?_) r ns e
 ·injection e; exact ⟨.nil,rfl,rfl⟩
 ·cases x with
  | int j t=>
   refine bw (show (aF ds).map (j :: ·)=some ns from e) λn o l=>?_
   (clear e; subst l)
   refine aI (i n o) λa k g=>?_
   (clear i r; subst k)
   subst g
   exact ⟨.cons j t a,rfl,rfl⟩
  | _=>exact nN e
theorem RA.of_ints (r:IntsAre vs ns):RA h vs (ns.map .int) []:=by
 induction r with
 | nil=>exact .nil
 | cons i t r ih=>exact .cons (as:=[]) (.int i t) ih
mutual
noncomputable def sz:PyData->Bool
 | .none | .bool _ | .int _=>true
 | .str x=>decide (x.length<=2^22)
 | .list xs | .tuple xs=>decide (xs.length<=2^22)&&szs xs
 | .dict _=>false
noncomputable def szs:List PyData->Bool
 | []=>true
 | x::xs=>sz x&&szs xs
end
theorem rx:szs xs=true↔∀ x∈xs,sz x=true:=by
 induction xs with
 | nil=>simp[szs]
 | cons x xs ih=>simp[szs,ih]
theorem sz_list:sz (.list xs)=true↔xs.length<=2^22/\∀ x∈xs,sz x=true:=by simp[sz,rx]
theorem sz_tuple:sz (.tuple xs)=true↔xs.length<=2^22/\∀ x∈xs,sz x=true:=by simp[sz,rx]
theorem gv (ns:List Int):∀ x∈ns.map PyData.int,sz x=true:=by
 intro x hx; obtain ⟨i,_,rfl⟩:=mem_map.mp hx; rfl
noncomputable def varK (ns:List (Str×NameKind)) (x:String):Bool:=!(Str.ofString x==Str.ofString ".0")&&(match ns.lookup (Str.ofString x) with
 | some .local | some .cell | some .free=>true
 | _=>false)
noncomputable def cw (ns:List (Str×NameKind)) (x:String):Bool:=ns.lookup (Str.ofString x)==some .globalImplicit
noncomputable def bf (x:String):Bool:=!(Str.ofString x==("__debug__" : Str)) && !(Str.ofString x==("__classdict__" : Str))
noncomputable def bOp:BOp->Operator
 | .add=>.Add | .sub=>.Sub | .mul=>.Mult | .fdiv=>.FloorDiv | .mod=>.Mod | .pow=>.Pow | .xor=>.BitXor
noncomputable def cOp:COp->CmpOp
 | .eq=>.Eq | .ne=>.NotEq | .lt=>.Lt | .gt=>.Gt | .ge=>.GtE | .isin=>.In | .notin=>.NotIn | .isnot=>.IsNot
noncomputable def opB (o:BOp) (p:Operator):Bool:=decide (p=bOp o)
noncomputable def opC (o:COp) (p:CmpOp):Bool:=decide (p=cOp o)
noncomputable def b1n:B1->String
 | .len => "len" | .list => "list" | .tuple => "tuple" | .sorted => "sorted" | .max => "max"
noncomputable def fH (outer inner:List (Str×NameKind)):List (Str×NameKind) :=
 inner.map λ(n,k)=>if k == .free&&outer.lookup n==some .cell then (n,.cell) else (n,k)
noncomputable def g8 (ns:List (Str×NameKind)) (sc:Scope) (x:String):Bool :=
 sc.kind == .function&&decide ((sc.names.map (·.1)).Nodup)&&(sc.names.lookup (Str.ofString x)==some .local||sc.names.lookup (Str.ofString x)==some .cell) &&
 sc.names.all λp=>(p.2 == .local&&(p.1==Str.ofString x||p.1==Str.ofString ".0"))||p.2 == .globalImplicit||(p.2 == .cell&&p.1==Str.ofString x)||(p.2 == .free&&(ns.lookup p.1==some .cell||ns.lookup p.1==some .free))
noncomputable def ak (o:Option α) (f:α->Bool):Bool:=match o with
 | some a=>f a
 | none=>false
theorem cy (h:ak o f=true):∃ a,o=some a/\f a=true:=by
 cases o with
 | none=>exact nF h
 | some a=>exact (ag a rfl h)
theorem ai {α:Type}{o:Option α}{f:α->Bool}{G:Prop}(h:ak o f=true) (k:∀ a,o=some a->f a=true->G):G:=ae (cy h) k
structure Pt where
 tag:Nat:=0
 e1:Expr:=default
 e2:Expr:=default
 es:List Expr:=[]
 st:Str:=default
 co:Const:=default
 n:Nat:=0
 op:Operator:=default
 un:UnaryOp:=default
 bo:BoolOp:=default
 cs:List CmpOp:=[]
 ks:List (Option Expr):=[]
 gs:List Comprehension:=[]
 sc:Scope:=default
 o1:Option Expr:=none
 o2:Option Expr:=none
 o3:Option Expr:=none
 kw:List Keyword:=[]
 pos:Pos:=default
noncomputable def pt:Expr->Pt
 | .Name x0 x1=>{tag:=1,st:=x0,pos:=x1 }
 | .Constant x0 x1 x2=>{tag:=2,co:=x0,n:=x1,pos:=x2 }
 | .BinOp x0 x1 x2 x3=>{tag:=3,e1:=x0,op:=x1,e2:=x2,pos:=x3 }
 | .UnaryOp x0 x1 x2=>{tag:=4,un:=x0,e1:=x1,pos:=x2 }
 | .Compare x0 x1 x2 x3=>{tag:=5,e1:=x0,cs:=x1,es:=x2,pos:=x3 }
 | .BoolOp x0 x1 x2=>{tag:=6,bo:=x0,es:=x1,pos:=x2 }
 | .List x0 x1=>{tag:=7,es:=x0,pos:=x1 }
 | .Tuple x0 x1 x2=>{tag:=8,es:=x0,n:=x1,pos:=x2 }
 | .Dict x0 x1 x2=>{tag:=9,ks:=x0,es:=x1,pos:=x2 }
 | .ListComp x0 x1 x2 x3=>{tag:=10,e1:=x0,gs:=x1,sc:=x2,pos:=x3 }
 | .Subscript x0 x1 x2=>{tag:=11,e1:=x0,e2:=x1,pos:=x2 }
 | .Slice x0 x1 x2 x3=>{tag:=12,o1:=x0,o2:=x1,o3:=x2,pos:=x3 }
 | .Call x0 x1 x2 x3=>{tag:=13,e1:=x0,es:=x1,kw:=x2,pos:=x3 }
 | .Attribute x0 x1 x2=>{tag:=14,e1:=x0,st:=x1,pos:=x2 }
 | _=>{}
noncomputable def ptB (n:Nat) (p:Pt):Expr:=match n with
 | 1=>.Name p.st p.pos
 | 2=>.Constant p.co p.n p.pos
 | 3=>.BinOp p.e1 p.op p.e2 p.pos
 | 4=>.UnaryOp p.un p.e1 p.pos
 | 5=>.Compare p.e1 p.cs p.es p.pos
 | 6=>.BoolOp p.bo p.es p.pos
 | 7=>.List p.es p.pos
 | 8=>.Tuple p.es p.n p.pos
 | 9=>.Dict p.ks p.es p.pos
 | 10=>.ListComp p.e1 p.gs p.sc p.pos
 | 11=>.Subscript p.e1 p.e2 p.pos
 | 12=>.Slice p.o1 p.o2 p.o3 p.pos
 | 13=>.Call p.e1 p.es p.kw p.pos
 | 14=>.Attribute p.e1 p.st p.pos
 | _=>default
theorem AS (e:Expr):(pt e).tag=0\/ptB (pt e).tag (pt e)=e:=by cases e<;>first | exact .inr rfl | exact .inl rfl
theorem cG (hn:n≠0) (h:(pt e).tag=n):e=ptB n (pt e):=by
 rcases AS e with q | q
 ·exact absurd (h.symm.trans q) hn
 ·rw[h] at q; exact q.symm
noncomputable def ifN (m n:Nat) (a:α):Option α:=if m=n then some a else none
theorem AT {α:Type}{m n:Nat}{a b:α}(h:ifN m n a=some b):m=n/\a=b:=by
 unfold ifN at h
 by_cases q:m=n
 ·rw[if_pos q] at h; exact ⟨q,Option.some.inj h⟩
 ·rw[if_neg q] at h; exact nN h
theorem bZ {α:Type}{m n:Nat}{a b:α}{G:Prop}(h:ifN m n a=some b) (k:m=n->a=b->G):G:=ab (AT h) k
noncomputable def cD (e:Expr):Option (Str×Pos):=ifN (pt e).tag 1 ((pt e).st,(pt e).pos)
noncomputable def il (e:Expr):Option (Const×Nat×Pos):=ifN (pt e).tag 2 ((pt e).co,(pt e).n,(pt e).pos)
noncomputable def Ce (e:Expr):Option (Expr×Operator×Expr×Pos):=ifN (pt e).tag 3 ((pt e).e1,(pt e).op,(pt e).e2,(pt e).pos)
noncomputable def dUn (e:Expr):Option (UnaryOp×Expr×Pos):=ifN (pt e).tag 4 ((pt e).un,(pt e).e1,(pt e).pos)
noncomputable def BH (e:Expr):Option (Expr×List CmpOp×List Expr×Pos):=ifN (pt e).tag 5 ((pt e).e1,(pt e).cs,(pt e).es,(pt e).pos)
noncomputable def tT (e:Expr):Option (BoolOp×List Expr×Pos):=ifN (pt e).tag 6 ((pt e).bo,(pt e).es,(pt e).pos)
noncomputable def yO (e:Expr):Option (List Expr×Pos):=ifN (pt e).tag 7 ((pt e).es,(pt e).pos)
noncomputable def si (e:Expr):Option (List Expr×Nat×Pos):=ifN (pt e).tag 8 ((pt e).es,(pt e).n,(pt e).pos)
noncomputable def yA (e:Expr):Option (List (Option Expr)×List Expr×Pos):=ifN (pt e).tag 9 ((pt e).ks,(pt e).es,(pt e).pos)
noncomputable def dLC (e:Expr):Option (Expr×List Comprehension×Scope×Pos):=ifN (pt e).tag 10 ((pt e).e1,(pt e).gs,(pt e).sc,(pt e).pos)
noncomputable def se (e:Expr):Option (Expr×Expr×Pos):=ifN (pt e).tag 11 ((pt e).e1,(pt e).e2,(pt e).pos)
noncomputable def jK (e:Expr):Option (Expr×List Expr×List Keyword×Pos):=ifN (pt e).tag 13 ((pt e).e1,(pt e).es,(pt e).kw,(pt e).pos)
noncomputable def ln (e:Expr):Option (Expr×Str×Pos):=ifN (pt e).tag 14 ((pt e).e1,(pt e).st,(pt e).pos)
noncomputable def B3:Const->Option Int
 | .int i=>some i
 | _=>none
noncomputable def Ca:Const->Option Str
 | .str i=>some i
 | _=>none
noncomputable def s9:Const->Option Bool
 | .bool i=>some i
 | _=>none
noncomputable def yx:Const->Option Unit
 | .none=>some ()
 | _=>none
noncomputable def bR:List α->Option α
 | [x]=>some x
 | _=>none
noncomputable def tL:List α->Option (α×α)
 | [x,y]=>some (x,y)
 | _=>none
noncomputable def eu:List α->Option Unit
 | []=>some ()
 | _=>none
noncomputable def fR:List α->Option (α×List α)
 | x::y=>some (x,y)
 | _=>none
section
variable {e:Expr}
theorem bi (h:cD e=some q):e = .Name q.1 q.2:=by
 refine bZ h λi g=>?_
 (clear h; subst g)
 exact cG (by decide) i
theorem eB (h:il e=some q):e = .Constant q.1 q.2.1 q.2.2:=by
 refine bZ h λi g=>?_
 (clear h; subst g)
 exact cG (by decide) i
theorem v4 (h:Ce e=some q):e = .BinOp q.1 q.2.1 q.2.2.1 q.2.2.2:=by
 refine bZ h λi g=>?_
 (clear h; subst g)
 exact cG (by decide) i
theorem rq (h:dUn e=some q):e = .UnaryOp q.1 q.2.1 q.2.2:=by
 refine bZ h λi g=>?_
 (clear h; subst g)
 exact cG (by decide) i
theorem xr (h:BH e=some q):e = .Compare q.1 q.2.1 q.2.2.1 q.2.2.2:=by
 refine bZ h λi g=>?_
 (clear h; subst g)
 exact cG (by decide) i
theorem mH (h:tT e=some q):e = .BoolOp q.1 q.2.1 q.2.2:=by
 refine bZ h λi g=>?_
 (clear h; subst g)
 exact cG (by decide) i
theorem vK (h:yO e=some q):e = .List q.1 q.2:=by
 refine bZ h λi g=>?_
 (clear h; subst g)
 exact cG (by decide) i
theorem pU (h:si e=some q):e = .Tuple q.1 q.2.1 q.2.2:=by
 refine bZ h λi g=>?_
 (clear h; subst g)
 exact cG (by decide) i
theorem uG (h:yA e=some q):e = .Dict q.1 q.2.1 q.2.2:=by
 refine bZ h λi g=>?_
 (clear h; subst g)
 exact cG (by decide) i
theorem Aj (h:dLC e=some q):e = .ListComp q.1 q.2.1 q.2.2.1 q.2.2.2:=by
 refine bZ h λi g=>?_
 (clear h; subst g)
 exact cG (by decide) i
theorem o7 (h:se e=some q):e = .Subscript q.1 q.2.1 q.2.2:=by
 refine bZ h λi g=>?_
 (clear h; subst g)
 exact cG (by decide) i
theorem ed (h:jK e=some q):e = .Call q.1 q.2.1 q.2.2.1 q.2.2.2:=by
 refine bZ h λi g=>?_
 (clear h; subst g)
 exact cG (by decide) i
theorem gZ (h:ln e=some q):e = .Attribute q.1 q.2.1 q.2.2:=by
 refine bZ h λi g=>?_
 (clear h; subst g)
 exact cG (by decide) i
theorem xY (h:B3 c=some q):c = .int q:=by cases c<;>cases h; rfl
theorem xI (h:Ca c=some q):c = .str q:=by cases c<;>cases h; rfl
theorem mP (h:s9 c=some q):c = .bool q:=by cases c<;>cases h; rfl
theorem vV (h:yx c=some q):c = .none:=by cases c<;>cases h; rfl
variable {α:Type}{l:List α}
theorem cA (h:eu l=some q):l=[]:=by
 cases l with
 | nil=>rfl
 | cons=>exact nN h
theorem eh {q:α×List α}(h:fR l=some q):l=q.1::q.2:=by
 cases l with
 | nil=>exact nN h
 | cons=>injection h; rfl
theorem be {q:α}(h:bR l=some q):l=[q]:=by
 cases l with
 | nil=>exact nN h
 | cons x l=>
  cases l with
  | nil=>injection h; rfl
  | cons=>exact nN h
theorem kL {q:α×α}(h:tL l=some q):l=[q.1,q.2]:=by
 cases l with
 | nil=>exact nN h
 | cons x l=>
  cases l with
  | nil=>exact nN h
  | cons y l=>
   cases l with
   | nil=>injection h; rfl
   | cons=>exact nN h
end
noncomputable def dFn (e:Expr):Option (Str×Pos×List Expr×Pos):=(jK e).bind λq=>(eu q.2.2.1).bind λuu=>(cD q.1).map λn=>(n.1,n.2,q.2.1,q.2.2.2)
theorem f0 (h:dFn e=some q):e = .Call (.Name q.1 q.2.1) q.2.2.1 [] q.2.2.2:=by
 refine bj h λc j h=>?_
 refine bj h λu i h=>?_
 refine bw h λn g h=>?_
 subst h
 rw[ed j,cA i,bi g]
noncomputable def tu (e:Expr):Option (Expr×Str×Pos×Expr×List Expr×Scope×Pos):=(dLC e).bind λq=>(bR q.2.1).bind λg=>(cD g.target).bind λn=>if g.is_async=0 then some (q.1,n.1,n.2,g.iter,g.ifs,q.2.2.1,q.2.2.2) else none
theorem mG (h:tu e=some q):e = .ListComp q.1 [⟨.Name q.2.1 q.2.2.1,q.2.2.2.1,q.2.2.2.2.1,0⟩] q.2.2.2.2.2.1 q.2.2.2.2.2.2:=by
 refine bj h λc m h=>?_
 refine bj h λg l h=>?_
 obtain ⟨o,p,r,t⟩:=g
 refine bj h λn i h=>?_
 dsimp only at h i
 split at h
 ·rename_i k
  injection h
  rw[Aj m,be l,bi i,k]
 ·exact nN h
noncomputable def BZ:Expr->Option (Arguments×Expr×Scope×Pos)
 | .Lambda a b s p=>some (a,b,s,p)
 | _=>none
theorem wO (h:BZ e=some q):e = .Lambda q.1 q.2.1 q.2.2.1 q.2.2.2:=by
 cases e<;>first | (cases h; rfl) | exact nN h
noncomputable def tJ (ns:List (Str×NameKind)) (x:String) (ex:Expr):Bool:=ak (cD ex) λq=>q.1==Str.ofString x&&varK ns x&&bf x
noncomputable def xX (ns:List (Str×NameKind)) (x:String) (ex:Expr):Bool:=ak (dFn ex) λq=>ak (bR q.2.2.1) λy=>q.1==Str.ofString (b1n .len)&&cw ns (b1n .len)&&tJ ns x y
noncomputable def BB (ns:List (Str×NameKind)) (x t:String) (ex:Expr):Bool:=ak (si ex) λq=>decide (q.1.length<1000)&&ak (fR q.1) λy=>(ak (dUn y.1) λu=>decide (u.1 = .USub)&&ak (se u.2.1) λz=>tJ ns x z.1&&tJ ns t z.2.1)&&ak (fR y.2) λv=>tJ ns t v.1&&(eu v.2).isSome
noncomputable def x7 (ns:List (Str×NameKind)) (x t:String) (a:Arguments) (sc:Scope):Bool :=
 a.posonlyargs.isEmpty&&decide (a.args.map (·.arg)=[Str.ofString t])&&a.vararg.isNone&&a.kwonlyargs.isEmpty&&a.kw_defaults.isEmpty&&a.kwarg.isNone&&a.defaults.isEmpty &&
 decide (sc.kind = .function) && !sc.isGenerator && !sc.isCoroutine&&decide (sc.names=[(Str.ofString t,.local),(Str.ofString x,.free)])&&decide (x≠t)&&decide (ns.lookup (Str.ofString x)=some .cell)
noncomputable def Cv (ns:List (Str×NameKind)) (x t:String) (ex:Expr):Bool:=ak (jK ex) λq=>ak (cD q.1) λf=>ak (bR q.2.1) λh=>ak (bR q.2.2.1) λg=>ak (dFn h) λr=>ak (bR r.2.2.1) λy=>ak (BZ g.value) λl=>
 f.1==Str.ofString "sorted" && cw ns "sorted" && decide (g.arg=some (Str.ofString "key"))&&r.1==Str.ofString "range" && cw ns "range" && xX ns x y&&x7 ns x t l.1 l.2.2.1&&BB l.2.2.1.names x t l.2.1
noncomputable def lB:E->Bool
 | .name _=>true
 | .call _ _=>true
 | _=>false
mutual
noncomputable def okE (ns:List (Str×NameKind)):E->Expr->Bool
 | .name x,ex=>ak (cD ex) λq=>q.1==Str.ofString x&&varK ns x&&bf x
 | .int i,ex=>ak (il ex) λq=>ak (B3 q.1) λj=>i==j
 | .str s,ex=>ak (il ex) λq=>ak (Ca q.1) λt=>Str.ofString s==t&&decide (t.length<=2^22)
 | .bool b,ex=>ak (il ex) λq=>ak (s9 q.1) λc=>b==c
 | .none,ex=>ak (il ex) λq=>(yx q.1).isSome
 | .bin o a b,ex=>ak (Ce ex) λq=>opB o q.2.1&&okE ns a q.1&&okE ns b q.2.2.1
 | .neg a,ex=>ak (dUn ex) λq=>decide (q.1 = .USub)&&okE ns a q.2.1
 | .not a,ex=>ak (dUn ex) λq=>decide (q.1 = .Not)&&okE ns a q.2.1
 | .cmp o a b,ex=>ak (BH ex) λq=>ak (bR q.2.1) λg=>ak (bR q.2.2.1) λr=>opC o g&&okE ns a q.1&&okE ns b r
 | .and a b,ex=>ak (tT ex) λq=>decide (q.1 = .And)&&ak (fR q.2.1) λv=>okE ns a v.1&&(match bR v.2 with | some u=>okE ns b u | none=>okA ns b v.2)
 | .or a b,ex=>ak (tT ex) λq=>decide (q.1 = .Or)&&ak (fR q.2.1) λv=>okE ns a v.1&&(match bR v.2 with | some u=>okE ns b u | none=>okO ns b v.2)
 | .list es,ex=>ak (yO ex) λq=>decide (q.1.length<1000)&&c8 ns es q.1
 | .tup es,ex=>ak (si ex) λq=>decide (q.1.length<1000)&&c8 ns es q.1
 | .edic,ex=>ak (yA ex) λq=>(eu q.1).isSome&&(eu q.2.1).isSome
 | .comp elt x it,ex=>ak (tu ex) λq=>ak (eu q.2.2.2.2.1) λuu=>q.2.1==Str.ofString x&&g8 ns q.2.2.2.2.2.1 x&&ez ns it q.2.2.2.1&&okE (fH ns q.2.2.2.2.2.1.names) elt q.1
 | .compif elt x it c,ex=>ak (tu ex) λq=>ak (bR q.2.2.2.2.1) λf=>q.2.1==Str.ofString x&&g8 ns q.2.2.2.2.2.1 x&&ez ns it q.2.2.2.1&&okE (fH ns q.2.2.2.2.2.1.names) c f&&okE (fH ns q.2.2.2.2.2.1.names) elt q.1
 | .sub a i,ex=>ak (se ex) λq=>okE ns a q.1&&okE ns i q.2.1
 | .attr a n,ex=>ak (ln ex) λq=>q.2.1==Str.ofString n&&decide (n∈fieldNames)&&lB a&&okE ns a q.1
 | .bi1 f a,ex=>ak (dFn ex) λq=>ak (bR q.2.2.1) λx=>q.1==Str.ofString (b1n f)&&cw ns (b1n f)&&okE ns a x
 | .isi a t,ex=>ak (dFn ex) λq=>ak (tL q.2.2.1) λx=>ak (cD x.2) λc=>q.1==Str.ofString "isinstance" && cw ns "isinstance" && okE ns a x.1&&c.1==Str.ofString t&&cw ns t&&bf t
 | .call f es,ex=>ak (dFn ex) λq=>q.1==Str.ofString f&&cw ns f&&bf f && !decide (f∈methNames) && !decide (f∈bV) && !q.2.2.1.isEmpty&&decide (q.2.2.1.length<20)&&c8 ns es q.2.2.1
 | .meth a m es,ex=>ak (jK ex) λq=>ak (eu q.2.2.1) λuu=>ak (ln q.1) λf=>f.2.1==Str.ofString m&&(f.2.2.endLine==q.2.2.2.line)&&decide (m∈methNames) && !q.2.1.isEmpty&&decide (q.2.1.length<20)&&lB a&&okE ns a f.1&&c8 ns es q.2.1
 | .order x t,ex=>Cv ns x t ex
termination_by structural e=>e
noncomputable def okA (ns:List (Str×NameKind)):E->List Expr->Bool
 | .and a b,ex=>ak (fR ex) λv=>okE ns a v.1&&(match bR v.2 with | some u=>okE ns b u | none=>okA ns b v.2)
 | _,_=>false
termination_by structural e=>e
noncomputable def okO (ns:List (Str×NameKind)):E->List Expr->Bool
 | .or a b,ex=>ak (fR ex) λv=>okE ns a v.1&&(match bR v.2 with | some u=>okE ns b u | none=>okO ns b v.2)
 | _,_=>false
termination_by structural e=>e
noncomputable def c8 (ns:List (Str×NameKind)):Es->List Expr->Bool
 | .nil,ex=>(eu ex).isSome
 | .cons e es,ex=>ak (fR ex) λq=>okE ns e q.1&&c8 ns es q.2
termination_by structural e=>e
noncomputable def ez (ns:List (Str×NameKind)):It->Expr->Bool
 | .e a,x=>okE ns a x
 | .r1 n,ex=>ak (dFn ex) λq=>ak (bR q.2.2.1) λx=>q.1==Str.ofString "range" && cw ns "range" && okE ns n x
 | .r2 a b,ex=>ak (dFn ex) λq=>ak (tL q.2.2.1) λx=>q.1==Str.ofString "range" && cw ns "range" && okE ns a x.1&&okE ns b x.2
termination_by structural e=>e
end
section
variable {ns:List (Str×NameKind)}{ex:Expr}{a b c:E}
theorem vO (h:okE ns (.name x) ex=true):(∃ id p,ex = .Name id p/\(id==Str.ofString x&&varK ns x&&bf x)=true)\/False:=by
 refine ai h λq e h=>?_
 exact .inl (ay q.1 q.2 (bi e) h)
theorem JB (h:okE ns (.int i) ex=true):(∃ j k p,ex = .Constant (.int j) k p/\(i==j)=true)\/False:=by
 refine ai h λq e h=>?_
 refine ai h λj g h=>?_
 exact .inl (cB j q.2.1 q.2.2 (by rw[eB e,xY g]) h)
theorem Gr (h:okE ns (.str s) ex=true):(∃ t k p,ex = .Constant (.str t) k p/\(Str.ofString s==t&&decide (t.length<=2^22))=true)\/False:=by
 refine ai h λq e h=>?_
 refine ai h λj g h=>?_
 exact .inl (cB j q.2.1 q.2.2 (by rw[eB e,xI g]) h)
theorem Bs (h:okE ns (.bool s) ex=true):(∃ t k p,ex = .Constant (.bool t) k p/\(s==t)=true)\/False:=by
 refine ai h λq e h=>?_
 refine ai h λj g h=>?_
 exact .inl (cB j q.2.1 q.2.2 (by rw[eB e,mP g]) h)
theorem B7 (h:okE ns .none ex=true):(∃ k p,ex = .Constant .none k p/\True)\/False:=by
 refine ai h λq e h=>?_
 refine bK h λj g=>?_
 exact .inl (ay q.2.1 q.2.2 (by rw[eB e,vV g]) trivial)
theorem Ez (h:okE ns (.bin o a b) ex=true):(∃ l op r p,ex = .BinOp l op r p/\(opB o op&&okE ns a l&&okE ns b r)=true)\/False:=by
 refine ai h λq e h=>?_
 exact .inl (gS _ _ _ _ (v4 e) h)
theorem zt (h:okE ns (.neg a) ex=true):(∃ x p,ex = .UnaryOp .USub x p/\okE ns a x=true)\/False:=by
 refine ai h λq e h=>?_
 refine eY h λi g=>?_
 exact .inl (ay _ _ (by rw[rq e,of_decide_eq_true i]) g)
theorem Gs (h:okE ns (.not a) ex=true):(∃ x p,ex = .UnaryOp .Not x p/\okE ns a x=true)\/False:=by
 refine ai h λq e h=>?_
 refine eY h λi g=>?_
 exact .inl (ay _ _ (by rw[rq e,of_decide_eq_true i]) g)
theorem HS (h:okE ns (.cmp o a b) ex=true):(∃ l op r p,ex = .Compare l [op] [r] p/\(opC o op&&okE ns a l&&okE ns b r)=true)\/False:=by
 refine ai h λq e h=>?_
 refine ai h λop i h=>?_
 refine ai h λr g h=>?_
 exact .inl (gS _ op r _ (by rw[xr e,be i,be g]) h)
noncomputable def okA' (ns:List (Str×NameKind)) (b:E) (vs:List Expr):Bool:=match bR vs with | some u=>okE ns b u | none=>okA ns b vs
noncomputable def okO' (ns:List (Str×NameKind)) (b:E) (vs:List Expr):Bool:=match bR vs with | some u=>okE ns b u | none=>okO ns b vs
theorem Gc (h:okE ns (.and a b) ex=true):(∃ v vs p,ex = .BoolOp .And (v::vs) p/\(okE ns a v&&okA' ns b vs)=true)\/False:=by
 refine ai h λq e h=>?_
 refine eY h λi g=>?_
 refine ai g λv j h=>?_
 exact .inl (cB _ _ _ (by rw[mH e,of_decide_eq_true i,eh j]) h)
theorem J2 (h:okE ns (.or a b) ex=true):(∃ v vs p,ex = .BoolOp .Or (v::vs) p/\(okE ns a v&&okO' ns b vs)=true)\/False:=by
 refine ai h λq e h=>?_
 refine eY h λi g=>?_
 refine ai g λv j h=>?_
 exact .inl (cB _ _ _ (by rw[mH e,of_decide_eq_true i,eh j]) h)
theorem i_A (h:okA ns (.and a b) xs=true):(∃ v vs,xs=v::vs/\(okE ns a v&&okA' ns b vs)=true)\/False:=by
 refine ai h λq e h=>?_
 exact .inl (ay _ _ (eh e) h)
theorem i_O (h:okO ns (.or a b) xs=true):(∃ v vs,xs=v::vs/\(okE ns a v&&okO' ns b vs)=true)\/False:=by
 refine ai h λq e h=>?_
 exact .inl (ay _ _ (eh e) h)
theorem B5 (h:okE ns (.list es) ex=true):(∃ xs p,ex = .List xs p/\(decide (xs.length<1000)&&c8 ns es xs)=true)\/False:=by
 refine ai h λq e h=>?_
 exact .inl (ay _ _ (vK e) h)
theorem DM (h:okE ns (.tup es) ex=true):(∃ xs k p,ex = .Tuple xs k p/\(decide (xs.length<1000)&&c8 ns es xs)=true)\/False:=by
 refine ai h λq e h=>?_
 exact .inl (cB _ _ _ (pU e) h)
theorem BV (h:okE ns .edic ex=true):(∃ p,ex = .Dict [] [] p/\True)\/False:=by
 refine ai h λq e h=>?_
 refine eY h λi g=>?_
 refine bK i λuu k=>?_
 refine bK g λuu j=>?_
 exact .inl (ag _ (by rw[uG e,cA k,cA j]) trivial)
theorem uB (h:okE ns (.comp a x it) ex=true):(∃ e t pt i sc p,ex = .ListComp e [⟨.Name t pt,i,[],0⟩] sc p/\(t==Str.ofString x&&g8 ns sc x&&ez ns it i&&okE (fH ns sc.names) a e)=true)\/False:=by
 refine ai h λq e h=>?_
 refine ai h λuu g h=>?_
 exact .inl (yj _ _ _ _ _ _ (by rw[mG e,cA g]) h)
theorem oP (h:okE ns (.compif a x it c) ex=true):(∃ e t pt i f sc p,ex = .ListComp e [⟨.Name t pt,i,[f],0⟩] sc p/\(t==Str.ofString x&&g8 ns sc x&&ez ns it i&&okE (fH ns sc.names) c f&&okE (fH ns sc.names) a e)=true)\/False:=by
 refine ai h λq e h=>?_
 refine ai h λuu g h=>?_
 exact .inl (n8 _ _ _ _ _ _ _ (by rw[mG e,be g]) h)
theorem Iv (h:okE ns (.sub a b) ex=true):(∃ v s p,ex = .Subscript v s p/\(okE ns a v&&okE ns b s)=true)\/False:=by
 refine ai h λq e h=>?_
 exact .inl (cB _ _ _ (o7 e) h)
theorem zE (h:okE ns (.bi1 f a) ex=true):(∃ id p x pos,ex = .Call (.Name id p) [x] [] pos/\(id==Str.ofString (b1n f)&&cw ns (b1n f)&&okE ns a x)=true)\/False:=by
 refine ai h λq e h=>?_
 refine ai h λx g h=>?_
 exact .inl (gS _ _ x _ (by rw[f0 e,be g]) h)
theorem Dw (h:okE ns (.isi a t) ex=true):(∃ id p x c pc pos,ex = .Call (.Name id p) [x,.Name c pc] [] pos/\(id==Str.ofString "isinstance" && cw ns "isinstance" && okE ns a x&&c==Str.ofString t&&cw ns t&&bf t)=true)\/False:=by
 refine ai h λq e h=>?_
 refine ai h λx i h=>?_
 refine ai h λc g h=>?_
 exact .inl (yj _ _ x.1 c.1 c.2 _ (by rw[f0 e,kL i,bi g]) h)
theorem tU (h:okE ns (.call f es) ex=true):(∃ id p xs pos,ex = .Call (.Name id p) xs [] pos/\(id==Str.ofString f&&cw ns f&&bf f && !decide (f∈methNames) && !decide (f∈bV) && !xs.isEmpty&&decide (xs.length<20)&&c8 ns es xs)=true)\/False:=by
 refine ai h λq e h=>?_
 exact .inl (gS _ _ _ _ (f0 e) h)
theorem CF (h:okE ns (.attr a n) ex=true):(∃ v p,ex = .Attribute v (Str.ofString n) p/\n∈fieldNames/\lB a=true/\okE ns a v=true)\/False:=by
 refine ai h λq e h=>?_
 simp only[and_eq_true,beq_iff_eq,decide_eq_true_eq] at h
 exact .inl (bO q.1 q.2.2 (by rw[gZ e,h.1.1.1]) h.1.1.2 h.1.2 h.2)
theorem BF (h:okE ns (.meth a m es) ex=true):(∃ v p xs pos,ex = .Call (.Attribute v (Str.ofString m) p) xs [] pos/\(p.endLine==pos.line)=true/\m∈methNames/\xs.isEmpty=false/\xs.length<20/\lB a=true/\okE ns a v=true/\c8 ns es xs=true)\/False:=by
 refine ai h λq e h=>?_
 refine ai h λuu e1 h=>?_
 refine ai h λf e2 h=>?_
 simp only[and_eq_true,beq_iff_eq,decide_eq_true_eq,Bool.not_eq_true'] at h
 refine ab (h) λn o=>?_
 clear h
 refine ab (n) λl r=>?_
 clear n
 refine ab (l) λk t=>?_
 clear l
 refine ab (k) λj u=>?_
 clear k
 refine ab (j) λi x=>?_
 clear j
 refine ab (i) λg y=>?_
 clear i
 refine ab (g) λh1 z=>?_
 clear g
 exact .inl (oW f.1 f.2.2 q.2.1 q.2.2.2 (by rw[ed e,cA e1,gZ e2,h1]) (beq_iff_eq.mpr z) y x u t r o)
noncomputable def lf (x t:String):E:=.tup (.cons (.neg (.sub (.name x) (.name t))) (.cons (.name t) .nil))
theorem AH (h:okE ns (.order x t) ex=true):(∃ id p jd p2 y p3 ar body sc p4 p5 pos,ex = .Call (.Name id p) [.Call (.Name jd p2) [y] [] p3] [⟨some (Str.ofString "key"),.Lambda ar body sc p4,p5⟩] pos /\
  (id==Str.ofString "sorted" && cw ns "sorted" && jd==Str.ofString "range" && cw ns "range" && xX ns x y&&x7 ns x t ar sc&&BB sc.names x t body)=true)\/False:=by
 refine ai (show Cv ns x t ex=true from h) λq e h=>?_
 refine ai h λf e1 h=>?_
 refine ai h λrg e2 h=>?_
 refine ai h λo e3 h=>?_
 obtain ⟨ka,kv,z⟩:=o
 refine ai h λr e4 h=>?_
 refine ai h λy e5 h=>?_
 refine ai h λl v h=>?_
 simp only[and_eq_true,decide_eq_true_eq,beq_iff_eq] at h
 refine ab (h) λn h8=>?_
 clear h
 refine ab (n) λm h7=>?_
 clear n
 refine ab (m) λk h6=>?_
 clear m
 refine ab (k) λj h5=>?_
 clear k
 refine ab (j) λi h4=>?_
 clear j
 refine ab (i) λg u=>?_
 clear i
 refine ab (g) λh1 h2=>?_
 clear g
 dsimp only at u v
 refine .inl ⟨f.1,f.2,r.1,r.2.1,y,r.2.2.2,l.1,l.2.1,l.2.2.1,l.2.2.2,z,q.2.2.2,?_,?_⟩
 ·rw[ed e,bi e1,be e2,be e3,f0 e4,be e5,wO v,u]
 ·simp only[and_eq_true,beq_iff_eq]
  exact ⟨⟨⟨⟨⟨⟨h1,h2⟩,h4⟩,h5⟩,h6⟩,h7⟩,h8⟩
theorem sV (h:c8 ns .nil xs=true):(xs=[]/\True)\/False:=by
 refine bK (show (eu xs).isSome=true from h) λuu e=>?_
 exact .inl ⟨cA e,trivial⟩
theorem o9 (h:c8 ns (.cons a es) xs=true):(∃ x ys,xs=x::ys/\(okE ns a x&&c8 ns es ys)=true)\/False:=by
 refine ai h λq e h=>?_
 exact .inl (ay _ _ (eh e) h)
theorem KU (h:ez ns (.r1 a) ex=true):(∃ id p x pos,ex = .Call (.Name id p) [x] [] pos/\(id==Str.ofString "range" && cw ns "range" && okE ns a x)=true)\/False:=by
 refine ai h λq e h=>?_
 refine ai h λx g h=>?_
 exact .inl (gS _ _ x _ (by rw[f0 e,be g]) h)
theorem J7 (h:ez ns (.r2 a b) ex=true):(∃ id p x y pos,ex = .Call (.Name id p) [x,y] [] pos/\(id==Str.ofString "range" && cw ns "range" && okE ns a x&&okE ns b y)=true)\/False:=by
 refine ai h λq e h=>?_
 refine ai h λx g h=>?_
 exact .inl (om _ _ x.1 x.2 _ (by rw[f0 e,kL g]) h)
end
noncomputable def bnames:List String:=["len", "list", "tuple", "sorted", "max", "min", "sum", "range", "isinstance", "int", "bool", "str"]
noncomputable def bt (ns:List (Str×NameKind)) (x:String):Bool:=varK ns x&&bf x&&(ns.lookup (Str.ofString x)==some .local||ns.lookup (Str.ofString x)==some .cell)
structure Ps where
 tag:Nat:=0
 e1:Expr:=default
 e2:Expr:=default
 es:List Expr:=[]
 o1:Option Expr:=none
 o2:Option Expr:=none
 s1:List Stmt:=[]
 s2:List Stmt:=[]
 s3:List Stmt:=[]
 hs:List ExceptHandler:=[]
 pos:Pos:=default
noncomputable def ps:Stmt->Ps
 | .Assign x0 x1 x2=>{tag:=1,es:=x0,e1:=x1,pos:=x2 }
 | .Expr x0 x1=>{tag:=2,e1:=x0,pos:=x1 }
 | .Return x0 x1=>{tag:=3,o1:=x0,pos:=x1 }
 | .If x0 x1 x2 x3=>{tag:=4,e1:=x0,s1:=x1,s2:=x2,pos:=x3 }
 | .For x0 x1 x2 x3 x4=>{tag:=5,e1:=x0,e2:=x1,s1:=x2,s2:=x3,pos:=x4 }
 | .While x0 x1 x2 x3=>{tag:=6,e1:=x0,s1:=x1,s2:=x2,pos:=x3 }
 | .Raise x0 x1 x2=>{tag:=7,o1:=x0,o2:=x1,pos:=x2 }
 | .Try x0 x1 x2 x3 x4=>{tag:=8,s1:=x0,hs:=x1,s2:=x2,s3:=x3,pos:=x4 }
 | _=>{}
noncomputable def psB (n:Nat) (p:Ps):Stmt:=match n with
 | 1=>.Assign p.es p.e1 p.pos
 | 2=>.Expr p.e1 p.pos
 | 3=>.Return p.o1 p.pos
 | 4=>.If p.e1 p.s1 p.s2 p.pos
 | 5=>.For p.e1 p.e2 p.s1 p.s2 p.pos
 | 6=>.While p.e1 p.s1 p.s2 p.pos
 | 7=>.Raise p.o1 p.o2 p.pos
 | 8=>.Try p.s1 p.hs p.s2 p.s3 p.pos
 | _=>default
theorem z5 (e:Stmt):(ps e).tag=0\/psB (ps e).tag (ps e)=e:=by cases e<;>first | exact .inr rfl | exact .inl rfl
theorem jn (hn:n≠0) (h:(ps e).tag=n):e=psB n (ps e):=by
 rcases z5 e with q | q
 ·exact absurd (h.symm.trans q) hn
 ·rw[h] at q; exact q.symm
noncomputable def n7:List α->Option (α×List α)
 | []=>none
 | a::l=>some (a,l)
theorem jC {α:Type}{l:List α}{q:α×List α}(h:n7 l=some q):l=q.1::q.2:=by
 cases l with
 | nil=>exact nN h
 | cons a l=>exact Option.some.inj h▸rfl
noncomputable def qf (s:Stmt):Option (List Expr×Expr×Pos):=ifN (ps s).tag 1 ((ps s).es,(ps s).e1,(ps s).pos)
noncomputable def w9 (s:Stmt):Option (Expr×Pos):=ifN (ps s).tag 2 ((ps s).e1,(ps s).pos)
noncomputable def xW (s:Stmt):Option (Option Expr×Pos):=ifN (ps s).tag 3 ((ps s).o1,(ps s).pos)
noncomputable def sIf (s:Stmt):Option (Expr×List Stmt×List Stmt×Pos):=ifN (ps s).tag 4 ((ps s).e1,(ps s).s1,(ps s).s2,(ps s).pos)
noncomputable def w2 (s:Stmt):Option (Expr×Expr×List Stmt×List Stmt×Pos):=ifN (ps s).tag 5 ((ps s).e1,(ps s).e2,(ps s).s1,(ps s).s2,(ps s).pos)
theorem kH (h:qf s=some q):s = .Assign q.1 q.2.1 q.2.2:=by
 refine bZ h λi g=>?_
 (clear h; subst g)
 exact jn (by decide) i
theorem pz (h:w9 s=some q):s = .Expr q.1 q.2:=by
 refine bZ h λi g=>?_
 (clear h; subst g)
 exact jn (by decide) i
theorem qz (h:xW s=some q):s = .Return q.1 q.2:=by
 refine bZ h λi g=>?_
 (clear h; subst g)
 exact jn (by decide) i
theorem Bd (h:sIf s=some q):s = .If q.1 q.2.1 q.2.2.1 q.2.2.2:=by
 refine bZ h λi g=>?_
 (clear h; subst g)
 exact jn (by decide) i
theorem qC (h:w2 s=some q):s = .For q.1 q.2.1 q.2.2.1 q.2.2.2.1 q.2.2.2.2:=by
 refine bZ h λi g=>?_
 (clear h; subst g)
 exact jn (by decide) i
noncomputable def xc (s:Stmt):Option (Expr×Str×Pos×List Expr×Pos×Pos):=(w9 s).bind λq=>(jK q.1).bind λc=>(eu c.2.2.1).bind λuu=>(ln c.1).map λa=>(a.1,a.2.1,a.2.2,c.2.1,c.2.2.2,q.2)
theorem pG (h:xc s=some q):s = .Expr (.Call (.Attribute q.1 q.2.1 q.2.2.1) q.2.2.2.1 [] q.2.2.2.2.1) q.2.2.2.2.2:=by
 refine bj h λc k h=>?_
 refine bj h λu j h=>?_
 refine bj h λuu i h=>?_
 refine bw h λn g h=>?_
 subst h
 rw[pz k,ed j,cA i,gZ g]
mutual
noncomputable def okS (ns:List (Str×NameKind)):S->Stmt->Bool
 | .assign x e,st=>ak (qf st) λq=>ak (bR q.1) λt=>ak (cD t) λn=>n.1==Str.ofString x&&bt ns x&&okE ns e q.2.1
 | .setitem x e,st=>ak (qf st) λq=>ak (bR q.1) λt=>ak (se t) λu=>ak (cD u.1) λn=>ak (il q.2.1) λc=>ak (s9 c.1) λb=>b&&(n.1==Str.ofString x&&bt ns x&&okE ns e u.2.1)
 | .append x e,st=>ak (xc st) λq=>ak (cD q.1) λn=>ak (bR q.2.2.2.1) λv=>q.2.1==Str.ofString "append" && (q.2.2.1.endLine==q.2.2.2.2.1.line)&&n.1==Str.ofString x&&bt ns x&&okE ns e v
 | .pop x i,st=>ak (xc st) λq=>ak (cD q.1) λn=>ak (bR q.2.2.2.1) λv=>q.2.1==Str.ofString "pop" && (q.2.2.1.endLine==q.2.2.2.2.1.line)&&n.1==Str.ofString x&&bt ns x&&okE ns i v
 | .expr e,st=>ak (w9 st) λq=>(jK q.1).isSome&&okE ns e q.1
 | .ret e,st=>ak (xW st) λq=>ak q.1 λv=>okE ns e v
 | .retn x,st=>ak (xW st) λq=>ak q.1 λv=>ak (cD v) λn=>n.1==Str.ofString x&&bt ns x
 | .ite c a b,st=>ak (sIf st) λq=>okE ns c q.1&&cz ns a q.2.1&&cz ns b q.2.2.1
 | .for1 x it b,st=>ak (w2 st) λq=>ak (eu q.2.2.2.1) λuu=>ak (cD q.1) λn=>n.1==Str.ofString x&&bt ns x&&ez ns it q.2.1&&cz ns b q.2.2.1
 | .for2 x y it b,st=>ak (w2 st) λq=>ak (eu q.2.2.2.1) λuu=>ak (si q.1) λt=>ak (tL t.1) λe=>ak (cD e.1) λn=>ak (cD e.2) λm=>n.1==Str.ofString x&&m.1==Str.ofString y&&bt ns x&&bt ns y&&ez ns it q.2.1&&cz ns b q.2.2.1
 | .bad,_=>true
termination_by structural s=>s
noncomputable def cz (ns:List (Str×NameKind)):Ss->List Stmt->Bool
 | .nil,st=>(eu st).isSome
 | .cons s r,st=>ak (fR st) λq=>okS ns s q.1&&cz ns r q.2
termination_by structural s=>s
end
section
variable {ns:List (Str×NameKind)}{st:Stmt}{x:String}{e i c:E}{a b:Ss}
theorem uT (h:okS ns (.assign x e) st=true):(∃ t pt v p,st = .Assign [.Name t pt] v p/\(t==Str.ofString x&&bt ns x&&okE ns e v)=true)\/False:=by
 refine ai h λq j h=>?_
 refine ai h λt i h=>?_
 refine ai h λn g h=>?_
 exact .inl (gS _ _ _ _ (by rw[kH j,be i,bi g]) h)
theorem sH (h:okS ns (.setitem x e) st=true):(∃ t pt i p1 k p2 p,st = .Assign [.Subscript (.Name t pt) i p1] (.Constant (.bool true) k p2) p/\(t==Str.ofString x&&bt ns x&&okE ns e i)=true)\/False:=by
 refine ai h λq v h=>?_
 refine ai h λt r h=>?_
 refine ai h λu o h=>?_
 refine ai h λn m h=>?_
 refine ai h λc l h=>?_
 refine ai h λb j h=>?_
 refine eY h λg h=>?_
 subst g
 exact .inl (n8 _ _ _ _ _ _ _ (by rw[kH v,be r,o7 o,bi m,eB l,mP j]) h)
theorem ui (h:okS ns (.append x e) st=true):(∃ t pt m ap v pos sp,st = .Expr (.Call (.Attribute (.Name t pt) m ap) [v] [] pos) sp/\(m==Str.ofString "append" && (ap.endLine==pos.line)&&t==Str.ofString x&&bt ns x&&okE ns e v)=true)\/False:=by
 refine ai h λq j h=>?_
 refine ai h λn i h=>?_
 refine ai h λv g h=>?_
 exact .inl (n8 _ _ _ _ v _ _ (by rw[pG j,bi i,be g]) h)
theorem Cs (h:okS ns (.pop x e) st=true):(∃ t pt m ap v pos sp,st = .Expr (.Call (.Attribute (.Name t pt) m ap) [v] [] pos) sp/\(m==Str.ofString "pop" && (ap.endLine==pos.line)&&t==Str.ofString x&&bt ns x&&okE ns e v)=true)\/False:=by
 refine ai h λq j h=>?_
 refine ai h λn i h=>?_
 refine ai h λv g h=>?_
 exact .inl (n8 _ _ _ _ v _ _ (by rw[pG j,bi i,be g]) h)
theorem As (h:okS ns (.expr e) st=true):(∃ f xs ks p sp,st = .Expr (.Call f xs ks p) sp/\okE ns e (.Call f xs ks p)=true)\/False:=by
 refine ai h λq k h=>?_
 refine eY h λj g=>?_
 refine bK j λc i=>?_
 rw[ed i] at g
 exact .inl (om _ _ _ _ _ (by rw[pz k,ed i]) g)
theorem BM (h:okS ns (.ret e) st=true):(∃ v p,st = .Return (some v) p/\okE ns e v=true)\/False:=by
 refine ai h λq i h=>?_
 refine ai h λv g h=>?_
 exact .inl (ay v _ (by rw[qz i,g]) h)
theorem A8 (h:okS ns (.retn x) st=true):(∃ t pt p,st = .Return (some (.Name t pt)) p/\(t==Str.ofString x&&bt ns x)=true)\/False:=by
 refine ai h λq j h=>?_
 refine ai h λv i h=>?_
 refine ai h λn g h=>?_
 exact .inl (cB _ _ _ (by rw[qz j,i,bi g]) h)
theorem BI (h:okS ns (.ite c a b) st=true):(∃ t u v p,st = .If t u v p/\(okE ns c t&&cz ns a u&&cz ns b v)=true)\/False:=by
 refine ai h λq g h=>?_
 exact .inl (gS _ _ _ _ (Bd g) h)
theorem AF (h:okS ns (.for1 x it b) st=true):(∃ t pt i u p,st = .For (.Name t pt) i u [] p/\(t==Str.ofString x&&bt ns x&&ez ns it i&&cz ns b u)=true)\/False:=by
 refine ai h λq k h=>?_
 refine ai h λuu j h=>?_
 refine ai h λn g h=>?_
 exact .inl (om _ _ _ _ _ (by rw[qC k,cA j,bi g]) h)
theorem AW (h:okS ns (.for2 x y it b) st=true):∃ px py kk tp i u p,st = .For (.Tuple [.Name (Str.ofString x) px,.Name (Str.ofString y) py] kk tp) i u [] p/\bt ns x=true/\bt ns y=true/\ez ns it i=true/\cz ns b u=true:=by
 obtain ⟨q,e,h⟩:=cy h
 obtain ⟨uu,e1,h⟩:=cy h
 obtain ⟨t,e2,h⟩:=cy h
 obtain ⟨r,e3,h⟩:=cy h
 obtain ⟨n,e4,h⟩:=cy h
 obtain ⟨m,z,h⟩:=cy h
 simp only[and_eq_true,beq_iff_eq] at h
 obtain ⟨⟨⟨⟨⟨v,o⟩,l⟩,k⟩,j⟩,g⟩:=h
 exact ⟨n.2,m.2,t.2.1,t.2.2,q.2.1,q.2.2.1,q.2.2.2.2,by rw[qC e,cA e1,pU e2,kL e3,bi e4,bi z,v,o],l,k,j,g⟩
theorem Cp (h:cz ns .nil l=true):(l=[]/\True)\/False:=by
 refine bK (show (eu l).isSome=true from h) λuu e=>?_
 exact .inl ⟨cA e,trivial⟩
theorem AJ (h:cz ns (.cons s a) l=true):(∃ t u,l=t::u/\(okS ns s t&&cz ns a u)=true)\/False:=by
 refine ai h λq g h=>?_
 exact .inl (ay _ _ (eh g) h)
end
structure FnT where
 params:List String
 body:List Stmt
 scope:Scope
 lam:Bool
noncomputable def okF (ft:FnT) (f:Fn):Bool:=decide (ft.params=f.params)&&f.params.all (bt ft.scope.names)&&decide f.params.Nodup&&cz ft.scope.names f.body ft.body&&ft.scope.names.all λp=>p.2 != .free
noncomputable def fh (ns:List (Str×NameKind)) (n:String) (e:E) (st:Stmt):Bool:=ak (qf st) λq=>ak (bR q.1) λt=>ak (ln t) λu=>ak (cD u.1) λm=>m.1==Str.ofString "self" && u.2.1==Str.ofString n&&okE ns e q.2.1
theorem kX {ns:List (Str×NameKind)}{n:String}{e:E}{st:Stmt}(h:fh ns n e st=true):∃ p1 p2 v p,st = .Assign [.Attribute (.Name (Str.ofString "self") p1) (Str.ofString n) p2] v p/\okE ns e v=true:=by
 refine ai h λq k h=>?_
 refine ai h λt j h=>?_
 refine ai h λu i h=>?_
 refine ai h λm g h=>?_
 simp only[and_eq_true,beq_iff_eq] at h
 refine (gS m.2 u.2.2 q.2.1 q.2.2 ?_ h.2)
 rw[kH k,be j,gZ i,bi g,h.1.1,h.1.2]
noncomputable def eQ:E:=.bi1 .len (.sub (.name "full") (.int 0))
noncomputable def ok3 (ns:List (Str×NameKind)) (l:List Stmt):Bool:=ak (n7 l) λp=>ak (n7 p.2) λq=>ak (n7 q.2) λr=>r.2.isEmpty&&(fh ns "count" (.name "count") p.1&&(fh ns "full" (.name "full") q.1&&fh ns "size" eQ r.1))
theorem AZ (h:ok3 ns l=true):∃ a b c,l=[a,b,c]/\fh ns "count" (.name "count") a=true/\fh ns "full" (.name "full") b=true/\fh ns "size" eQ c=true:=by
 obtain ⟨p,m,h⟩:=cy h
 obtain ⟨q,k,h⟩:=cy h
 obtain ⟨r,j,h⟩:=cy h
 have e:=bA h
 have i:=bA e.2
 have g:=bA i.2
 refine (gX p.1 q.1 r.1 ?_ i.1 g.1 g.2)
 rw[jC m,jC k,jC j,List.isEmpty_iff.mp e.1]
noncomputable def okI (ft:FnT) (f:Fn):Bool:=decide (ft.params = "self" :: f.params)&&ft.params.all (bt ft.scope.names)&&decide ft.params.Nodup&&cz ft.scope.names f.body (ft.body.take (ft.body.length-3))&&ok3 ft.scope.names (ft.body.drop (ft.body.length-3))&&decide ("self" ∉ gG f.body)&&(ft.scope.names.all λp=>p.2 != .free) && !ft.lam
structure Soft where
 tab:Addr->Prop
 rule:Addr
structure Gl where
 prog:Program
 w:World
 SF:Soft
noncomputable def pC (h:Heap):Bool:=h.isNs mainGlobals &&
 match h.clsAt mainGlobals "Rule" with
 | some x=>h.isNs x.2.2.ns&&fieldNames.all λn=>(h.nsMap x.2.2.ns (Str.ofString n)).isNone
 | none=>false
noncomputable def jV (h:Heap):Prop:=∃ mg,h.Ns mainGlobals mg/\∃ C o cd mN,mg "Rule" = some (.ref C)/\h.get? C=some o/\o.data = .cls cd/\h.Ns cd.ns mN/\∀ n∈fieldNames,mN (Str.ofString n)=none
set_option tactic.hygienic true in
theorem A5 (e:pC h=true):jV h:=by
 unfold pC at e
 simp only[and_eq_true] at e
 refine ab (e) λj g=>?_
 clear e
 refine ⟨h.nsMap mainGlobals,.of_isNs j,?_⟩
 split at g
 ·rename_i x i
  obtain ⟨C,o,n⟩:=x
  refine aI (Heap.clsAt_spec i) λm l k=>?_
  simp only[and_eq_true,all_eq_true,Option.isNone_iff_eq_none] at g
  exact ⟨C,o,n,_,m,l,k,.of_isNs g.1,g.2⟩
 ·exact nF g
noncomputable def KV:PySem.W.Hook:=⟨Bool,λs=>pC s.heap,λuu=>true,λuu h=>jV h,λuu uu e=>A5 e,λuu h t x k=>ae (x) λg j z=>HB (z) λC o l i r q p n m=>⟨g,j.keeps k,C,o,l,i,r,k _ _ q,p,n.keeps k,m⟩⟩
noncomputable def gJ (a:Arguments) (ps:List String):Bool:=a.posonlyargs.isEmpty&&(a.args.map (·.arg)==ps.map Str.ofString)&&a.vararg.isNone&&a.kwonlyargs.isEmpty&&a.kwarg.isNone
noncomputable def f8 (sc:Scope):Bool:=!sc.isCoroutine && !sc.isGenerator&&sc.kind == .function
noncomputable def f7 (p:Program) (loose:List Str):Option ClsRec:=(plainsOf p loose).find? λc=>c.name==Str.ofString "Rule"
noncomputable def dZ (p:Program) (loose:List Str) (m:String):Option MethRec:=(f7 p loose).bind λc=>c.meths.find? λr=>r.name==Str.ofString m
noncomputable def jD (p:Program) (loose:List Str) (f:String) (fn:Fn):Bool :=
 if f∈bV then true
 else if f = "Rule" then ak (dZ p loose "__init__") λr=>okI ⟨"self" :: fn.params,r.body,r.scope,false⟩ fn&&gJ r.params ("self" :: fn.params)&&f8 r.scope
 else if f∈methNames then ak (dZ p loose f) λr=>okF ⟨fn.params,r.body,r.scope,false⟩ fn&&gJ r.params fn.params&&f8 r.scope
 else ak ((recsOf p).find? λd=>d.name==Str.ofString f) λd=>okF ⟨fn.params,d.body,d.scope,true⟩ fn&&gJ d.params fn.params&&f8 d.scope
noncomputable def oF (p:Program) (loose:List Str) (L:List (String×Fn)):Bool:=L.all λq=>jD p loose q.1 q.2
noncomputable def wi (p:Program) (loose:List Str):Bool:=bnames.all λx=>!startupNames.contains (Str.ofString x) && !loose.contains (Str.ofString x) && !((recsOf p).map (·.name)).contains (Str.ofString x) && !((litsOf p).map (·.1)).contains (Str.ofString x) && !((clssOf p loose).map (·.name)).contains (Str.ofString x)
noncomputable def iw (v:Option Value):Option Addr:=match v with
 | some (.ref a)=>some a
 | _=>none
noncomputable def qx (mg:Str->Option Value) (h:Heap):Soft:=⟨λP=>∃ c,h.TableAt c P #[],(iw (mg "Rule")).getD 0⟩
noncomputable def pW (g:Gl):Prop:=∀ {p:Program}{loose:List Str}{mean:ExcName->Option Value}{mg mb:Str->Option Value}{L:List (String×Fn)}{s:Shared}{fn:Fn}{fa a:Addr}{n:Nat}{ns:List Int}{vs:List Value}{m:Mode}{Q:Value->Shared->Prop}{Er:Value->Shared->Prop},g.SF=qx mg s.heap ->
  Top p loose mean mg mb s.heap->TopE p loose mg s.heap->jV s.heap->oF p loose L=true->wi p loose=true->(f7 p loose).isSome=true->(L.lookup "Rule").isSome=true ->
  L.lookup "law" = some fn->mg (Str.ofString "law")=some (.ref fa)->n<=50->au (mkC L n) fn [.d (aa ns)] = .ok (.d (.bool true),m)->s.heap.get? a=some {cls:=.type "list", data:=.seq vs.toArray }->IntsAre vs ns->ns.length<=2^22 ->
  (∀ h' tk,OldK s.heap h'->Q (.bool true) {s with heap:=h',toks:=tk })->wpAny (model g.prog g.w) callerA (call (.ref fa) [.ref a]) Q Er s
noncomputable def gl0:Gl:=⟨default,⟨λ_ _=>0,{strHash:=λ_=>0,shareClass:=λ_=>0,mergeTok:=id,idOf:=λ_=>0,idOfShared:=λ_ _=>0,followText:=λ_=>false,idOfImm:=λ_=>0 }⟩,⟨λ_=>True,0⟩⟩
noncomputable def gl:Gl:=@Classical.epsilon Gl ⟨gl0⟩ λg=>¬ pW g
theorem Bu (h:pW gl) (g:Gl):pW g:=by
 apply Classical.byContradiction
 intro n
 exact @Classical.epsilon_spec Gl (λg=>¬ pW g) ⟨g,n⟩ h
noncomputable def prog:Program:=gl.prog
noncomputable def w:World:=gl.w
noncomputable def SF:Soft:=gl.SF
noncomputable def Room (hb:Bool) (k:Nat) (A:Around):Prop:=(hb=false->A.handled=none)/\A.depth+2*k+(if hb then 1 else 4)<recursionLimit/\A.units+100*k+(if hb then 200 else 300)<cLine
noncomputable def tabO (ps:Array Value):Obj:={cls:=.none,data:=.fields ps }
noncomputable def CodesG (h:Heap) (ps:Array Value):Prop:=TriplesOk ps.toList/\∀ pos cv,codeAmong pos ps.toList=some cv->∃ c o vs q t,cv = .ref c/\h.get? c=some o/\o.cls = .type "code" /\ o.data = .fields vs/\vs[1]? = some (.str q t)
noncomputable def Stay (o:Obj):Prop:=(o.cls = .type "code" /\ ∃ fs,o.data = .fields fs)\/(o.cls = .type "tuple" /\ ∃ vs n,o.data = .seq vs n)
section
inductive Like (h h':Heap) (b:Addr) (o o':Obj):Prop
 | same:o' = o->Like h h' b o o'
 | tab (ps more:Array Value):SF.tab b->o=tabO ps->o' = tabO (ps++more)->(CodesG h ps->CodesG h' (ps++more))->Like h h' b o o'
noncomputable def KG (G:Addr->Prop) (h h':Heap):Prop:=∀ b o,G b\/Stay o->h.get? b=some o->∃ o',h'.get? b=some o'/\Like h h' b o o'
noncomputable def hardB (o:Obj):Bool:=match o.cls with | .none=>false | .type n=>n != "frame" | _=>true
theorem Like.hard (l:Like h h' b o o') (hh:hardB o=true):o' = o:=by
 cases l with
 | same e=>exact e
 | tab ps more _ e _ _=>subst e; exact nF hh
theorem Like.exact (l:Like h h' b o o') (h1:∀ fs,o.data≠.fields fs) (h2:∀ es ep,o.data≠.dict es ep):o' = o:=by
 cases l with
 | same e=>exact e
 | tab ps more _ e _ _=>(clear h2; subst e); exact absurd rfl (h1 ps)
theorem Like.cls (l:Like h h' b o o'):o'.cls=o.cls:=by
 cases l with
 | same e=>rw[e]
 | tab ps more _ e e' _=>rw[e,e']; rfl
theorem Like.data (l:Like h h' b o o') (hn:∀ fs,o.data≠.fields fs):o'.data=o.data:=by
 cases l with
 | same e=>rw[e]
 | tab ps more _ e e' _=>exact absurd (by rw[e]; rfl) (hn ps)
theorem Stay.hard (x:Stay o):hardB o=true:=by
 unfold hardB
 rcases x with x | x
 ·rw[x.1]; decide
 ·rw[x.1]; decide
section
theorem KG.of (k:∀ b o,G b\/Stay o->h.get? b=some o->h'.get? b=some o):KG G h h':=λb o g e=>(ag o (k b o g e) (.same rfl))
theorem KG.refl:KG G h h:=.of λuu uu uu e=>e
theorem KG.hard (k:KG G h h') (hb:G b\/Stay o) (e:h.get? b=some o) (hh:hardB o=true):h'.get? b=some o:=by
 refine ae (k b o hb e) λi g l=>?_
 rw[g,l.hard hh]
theorem KG.stay (k:KG G h h') (e:h.get? b=some o) (x:Stay o):h'.get? b=some o:=k.hard (.inr x) e x.hard
theorem KG.codes (k:KG G h h') {ps:Array Value}(x:CodesG h ps):CodesG h' ps :=
 ⟨x.1,λg n m=>oA (x.2 g n m) λc o l q t r p j i=>(lJ c o l q t r (k.stay p (.inl (az j (b0 _ i.1)))) j i)⟩
theorem KG.trans (a:KG G h h') (b:KG G h' h''):KG G h h'':=λc o g e=>by
 refine ae (a c o g e) λm p l=>?_
 have j:G c\/Stay m:=g.imp id λx=>by rw[l.hard x.hard]; exact x
 refine ae (b c m j p) λi k n=>?_
 refine (ag i k ?_)
 cases l with
 | same e1=>
  (clear e g; subst e1)
  cases n with
  | same e2=>exact .same e2
  | tab ps more t1 t2 t3 t4=>exact .tab ps more t1 t2 t3 λx=>t4 (a.codes x)
 | tab ps more t1 t2 t3 t4=>
  (clear e g; subst t2 t3)
  cases n with
  | same e2=>exact .tab ps more t1 rfl e2 λx=>b.codes (t4 x)
  | tab ps' more' u1 u2 u3 u4=>
   have:ps' = ps++more:=by injection u2 with _ _ u; injection u with u; exact u.symm
   (clear u2; subst this)
   exact .tab ps (more++more') t1 rfl (by rw[u3,Array.append_assoc]) λx=>by rw[<- Array.append_assoc]; exact u4 (t4 x)
theorem KG.mono (k:KG G h h') (hg:∀ b,G' b->G b):KG G' h h':=λb o g e=>k b o (g.imp (hg b) id) e
end
theorem Stay.not_data (h1:∀ fs,o.data≠.fields fs) (h2:∀ vs n,o.data≠.seq vs n):¬ Stay o:=λx=>x.elim (λx=>let ⟨_,fs,e⟩:=x; h1 fs e) λx=>let ⟨_,vs,n,e⟩:=x; h2 vs n e
theorem Stay.not_list:¬ Stay ⟨.type "list", d,.seq vs n,x⟩:=λx=>x.elim (λx=>by simp at x) λx=>by simp at x
theorem Stay.not_dict (h:o.data = .dict es ep):¬ Stay o:=Stay.not_data (λuu q=>by rw[h] at q; cases q) λuu uu q=>by rw[h] at q; cases q
theorem Stay.not_cls (h1:o.cls≠.type "code") (h2:o.cls≠.type "tuple"):¬ Stay o:=λx=>x.elim (λx=>h1 x.1) λx=>h2 x.1
theorem KG.ofW {wr:List Addr}{h h':Heap}(k:∀ b o,b∉wr->h.get? b=some o->h'.get? b=some o) (n:∀ b∈wr,∀ o,h.get? b=some o->¬ Stay o):KG (λb=>b∉wr) h h' :=
 .of λb o i e=>k b o (λg=>i.elim (λx=>x g) (n b g o e)) e
theorem KG.same (hs:Heap.SameBut a h h') (hz:¬ G a) (hn:∀ o,h.get? a=some o->¬ Stay o):KG G h h' :=
 .of λb o g e=>hs.extBut b o (λq=>by (clear hs; subst q); exact g.elim hz (hn o e)) e
noncomputable abbrev K (h h':Heap):Prop:=KG (λuu=>True) h h'
section
theorem K.of (k:∀ b o,h.get? b=some o->h'.get? b=some o):K h h':=KG.of λb o _ e=>k b o e
theorem K.get (k:K h h') (e:h.get? b=some o) (hh:hardB o=true):h'.get? b=some o:=KG.hard k (.inl trivial) e hh
theorem K.step (a:K h h') (b:KG G h' h'') (hg:∀ b o,h.get? b=some o->G b):K h h'':=λc o _ e=>
 (KG.trans (KG.mono (G':=λb=>∃ o,h.get? b=some o) a λuu uu=>trivial) (KG.mono b λb ⟨o,e⟩=>hg b o e)) c o (.inl ⟨o,e⟩) e
theorem K.same (k:K h h') (hs:Heap.SameBut a h' h'') (ha:h.get? a=none) (hn:∀ o,h'.get? a=some o->¬ Stay o):K h h'' :=
 K.step k (G:=λb=>b≠a) (KG.same hs (λq=>q rfl) hn) λb o e q=>by rw[q,ha] at e; exact nN e
theorem K.there (k:K h h') (e:h.get? b=some o):∃ o',h'.get? b=some o':=ae (k b o (.inl trivial) e) λo' g uu=>⟨o',g⟩
theorem KG.dataG (k:KG G h h') (g:G b\/Stay o) (e:h.get? b=some o) (hn:∀ fs,o.data≠.fields fs):∃ o',h'.get? b=some o'/\o'.data=o.data/\o'.cls=o.cls :=
 ae (k b o g e) λo' i l=>(aL o' i (l.data hn) l.cls)
theorem K.data (k:K h h') (e:h.get? b=some o) (hn:∀ fs,o.data≠.fields fs):∃ o',h'.get? b=some o'/\o'.data=o.data/\o'.cls=o.cls:=KG.dataG k (.inl trivial) e hn
theorem K.exact (k:K h h') (e:h.get? b=some o) (h1:∀ fs,o.data≠.fields fs) (h2:∀ es ep,o.data≠.dict es ep):h'.get? b=some o :=
 ae (k b o (.inl trivial) e) λi g l=>(l.exact h1 h2)▸g
theorem Fc (k:KG G h h') (g:G a) (x:h.Ns a m):h'.Ns a m:=by
 refine aX (x) λo n p e j r=>?_
 clear x
 obtain ⟨l,t,i,_⟩:=k.dataG (.inl g) e λu q=>by rw[j] at q; cases q
 exact (cT l n p t (i.trans j) r)
theorem iy (x:h.Ns a m) (k:K h h'):h'.Ns a m:=Fc k trivial x
theorem Bp (k:KG G h h') (g:G c) (x:h.IsCell c v):h'.IsCell c v:=by
 refine ae (x) λo e j=>?_
 clear x
 obtain ⟨l,m,i,_⟩:=k.dataG (.inl g) e λn q=>by rw[j] at q; cases q
 exact (ag l m (i.trans j))
theorem ie (x:h.IsCell c v) (k:K h h'):h'.IsCell c v:=Bp k trivial x
theorem jN (x:h.NoLimit) (k:K h h'):h'.NoLimit:=ae (x) λg a b=>(ag g (iy a k) b)
theorem zB (k:KG G h h'):(∀ {v:Value}{d:PyData}{as:List Addr},R h v d as->(∀ a∈as,G a)->R h' v d as)/\(∀ {vs:List Value}{ds:List PyData}{as:List Addr},RA h vs ds as->(∀ a∈as,G a)->RA h' vs ds as) :=
 R.ind (M:=λv d as=>(∀ a∈as,G a)->R h' v d as) (N:=λvs ds as=>(∀ a∈as,G a)->RA h' vs ds as) (λuu=>.none) (λb _=>.bool b) (λi t _=>.int i t) (λx t _=>.str x t)
  (λe _ m g=>.list (k.hard (.inl (g _ (.head _))) e rfl) (m λb l=>g b (.tail _ l))) (λe _ m g=>.tuple (k.stay e (.inr (az rfl (bG _ _ rfl)))) (m g))
  (λuu=>.nil) (λuu uu i j g=>.cons (i λb l=>g b (mem_append_left _ l)) (j λb l=>g b (mem_append_right _ l)))
theorem R.onG (r:R h v d as) (k:KG G h h') (g:∀ a∈as,G a):R h' v d as:=(zB k).1 r g
theorem RA.onG (r:RA h vs ds as) (k:KG G h h') (g:∀ a∈as,G a):RA h' vs ds as:=(zB k).2 r g
theorem R.k (r:R h v d as) (k:K h h'):R h' v d as:=r.onG k λuu uu=>trivial
theorem RA.k (r:RA h vs ds as) (k:K h h'):RA h' vs ds as:=r.onG k λuu uu=>trivial
noncomputable def CodeOk (h:Heap) (cd:Value) (q:Str):Prop:=∃ c P ps,cd = .ref c/\h.CodeRec cd q/\h.IsCode c P ps/\h.TableAt c P ps/\CodesG h ps/\SF.tab P
theorem CodeOk.k (x:CodeOk h cd q) (k:K h h'):CodeOk h' cd q:=by
 refine cF (x) λc P ps LC p n m G sP=>?_
 clear x
 subst LC
 refine fP (p) λc' o' y t' e0 e1 e2 e3=>?_
 clear p
 refine Az (n) λo vs t tf g tg inF i tt op i1 i2 i3 i4 i5 i6 i7 i8 i9 i10 i11=>?_
 clear n
 refine ab (m) λj t5=>?_
 clear m
 refine bl (j) λoc vc t1 t2 z t4=>?_
 clear j
 cases e0
 rw[i1] at e1 t1
 rw[<- Option.some.inj e1] at e2
 rw[<- Option.some.inj t1] at t2 z
 have kc:h'.get? c=some o:=k.stay i1 (.inl (az t2 (b0 _ z)))
 refine ae (k P _ (.inl trivial) t5) λo' e' l=>?_
 have r:∃ v,h'.get? P=some {cls:=.none,data:=.fields v }/\CodesG h' v:=by
  cases l with
  | same e=>subst e; exact (ag ps e' (KG.codes k G))
  | tab ps' more u1 u2 u3 u4=>
   have:ps' = ps:=by injection u2 with _ _ u; injection u with u; exact u.symm
   (clear i10 i9 t5 u2; subst this)
   exact (ag _ (by rw[e',u3]; rfl) (u4 G))
 refine ae (r) λv eq Gq=>?_
 clear r
 exact (fW c P v rfl (iE c o y t' rfl kc e2 e3) ⟨o,vs,t,tf,g,tg,inF,i,tt,_,kc,i2,i3,i4,i5,i6,i7,eq,rfl,Gq.1,i11⟩ ⟨(bO o vc kc t2 z t4),eq⟩ Gq sP)
end
end
noncomputable def bval (x:String):Value:=if x∈["list", "tuple", "range", "int", "bool", "str"] then .type x else .builtin x
structure Fns where
 fn:String->Option (Addr×FnT)
 mth:String->Option (Addr×FnT)
 init:Option (Addr×FnT)
 lam:Bool
 hand:Bool
noncomputable def adr (fns:Fns) (f:String):Option Addr:=if f = "Rule" then fns.init.map λuu=>SF.rule else if f∈methNames then (fns.mth f).map (·.1) else (fns.fn f).map (·.1)
theorem vD (h1:f ≠ "Rule") (h2:f∉methNames):adr fns f=(fns.fn f).map (·.1):=by unfold adr; rw[if_neg h1,if_neg h2]
theorem rK (h1:f ≠ "Rule") (h2:f∈methNames):adr fns f=(fns.mth f).map (·.1):=by unfold adr; rw[if_neg h1,if_pos h2]
noncomputable def FnAt (h:Heap) (ft:FnT) (a:Addr):Prop:=∃ o fd,h.get? a=some o/\o.data = .func fd/\fd.body = .stmts ft.body/\fd.scope=ft.scope/\fd.globals=mainGlobals/\fd.closure=[]/\fd.builtins=builtinsNs/\h.CodeRec fd.code fd.qualname/\(ft.lam=true->CodeOk h fd.code fd.qualname) /\
 (∀ vals,vals.length=ft.params.length->bindArgs fd ⟨vals,[]⟩=pure ((ft.params.map Str.ofString).zip vals))/\fd.scope.isCoroutine=false/\fd.scope.isGenerator=false/\fd.scope.kind = .function
theorem uO (x:h.CodeRec cd q) (k:K h h'):h'.CodeRec cd q:=by
 refine fP (x) λc o j t g e m i=>?_
 clear x
 subst g
 refine ae (k c o (.inl trivial) e) λp n l=>?_
 cases l with
 | same q=>(clear e; subst q); exact (iE c _ j t rfl n m i)
 | tab ps more _ q1 q2 _=>
  (clear e; subst q1 q2)
  obtain rfl:=Data.fields.inj (show Data.fields ps=Data.fields j from m)
  exact (iE c _ (ps++more) t rfl n rfl (by rw[Array.getElem?_append_left (Array.getElem?_eq_some_iff.mp i).1]; exact i))
theorem FnAt.k (x:FnAt h ft a) (k:K h h'):FnAt h' ft a:=by
 refine uW (x) λo z y i v u t r p n m g=>?_
 clear x
 obtain ⟨j,e',l,_⟩:=K.data k y λfs q=>by rw[i] at q; cases q
 exact (qu j z e' (l.trans i) v u t r p (uO n k) (λq=>(m q).k k) g)
theorem rc (x:ClsAt h C N mN) (k:K h h'):ClsAt h' C N mN:=by
 obtain ⟨g,u⟩:=x
 refine eO (g) λm q y l i j v t r p o n e=>?_
 clear g
 exact ⟨⟨m,q,y,l,i,j,v,t,r,p,o,n,K.get k e rfl⟩,iy u k⟩
noncomputable def RuleAt (fns:Fns) (h:Heap):Prop:=∃ N mN,ClsAt h SF.rule N mN/\(∀ n∈["__setattr__", "__getattribute__", "__getattr__", "count", "full", "size"],mN (Str.ofString n)=none) /\
 (∃ p o,fns.init=some p/\mN "__init__" = some (.ref p.1)/\FnAt h p.2 p.1/\h.get? p.1=some o/\o.cls = .type "function") /\
 ∀ m p,fns.mth m=some p->∃ o,mN (Str.ofString m)=some (.ref p.1)/\FnAt h p.2 p.1/\h.get? p.1=some o/\o.cls = .type "function"
theorem rX (k:K h h') (e:h.get? a=some o) (c:o.cls = .type "function"):∃ o',h'.get? a=some o'/\o'.cls = .type "function" :=
 ae (k a o (.inl trivial) e) λo' g l=>(ag o' g (l.cls.trans c))
theorem RuleAt.k (x:RuleAt fns h) (k:K h h'):RuleAt fns h':=by
 refine bl (x) λN n h1 h2 g h4=>?_
 clear x
 refine lm (g) λp o i1 i2 z y v=>?_
 clear g
 refine ae (rX k y v) λi j l=>?_
 refine (bO N n (rc h1 k) h2 (bI p i i1 i2 (z.k k) j l) (λm p hp=>?_))
 refine ca (h4 m p hp) λo u t r q=>?_
 refine ae (rX k r q) λi j l=>?_
 exact (bD i u (t.k k) j l)
structure GE (fns:Fns) (h:Heap):Prop where
 glob:∃ mg,h.Ns mainGlobals mg/\(∀ f a,f∉methNames->adr fns f=some a->mg (Str.ofString f)=some (.ref a))/\∀ x∈bnames,mg (Str.ofString x)=none
 funs:∀ f p,fns.fn f=some p->FnAt h p.2 p.1
 cls:(∃ f p,fns.mth f=some p)\/fns.init.isSome=true->RuleAt fns h
 blt:∃ mb,h.Ns builtinsNs mb/\∀ x∈bnames,mb (Str.ofString x)=some (bval x)
 nolim:h.NoLimit
 bm:∃ mg bm ob,h.Ns mainGlobals mg/\mg "__builtins__" = some (.ref bm)/\bm≠builtinsNs/\h.get? bm=some ob/\ob.cls = .type "module" /\ ob.dict=some builtinsNs/\ob.data = .plain
theorem GE.k {fns:Fns}{h h':Heap}(G:GE fns h) (k:K h h'):GE fns h' where
 glob:=ae (G.glob) λi a b=>(ag i (iy a k) b)
 funs:=λf p e=>(G.funs f p e).k k
 cls:=λe=>(G.cls e).k k
 blt:=ae (G.blt) λl a b=>(ag l (iy a k) b)
 nolim:=jN G.nolim k
 bm:=t0 (G.bm) λi bm j a b c d e f g=>(BG i bm j (iy a k) b c (K.get k d (by unfold hardB; rw[e]; decide)) e f g)
theorem GE.flag (G:GE fns h) (a b:Bool):GE {fns with lam:=a,hand:=b } h:=⟨G.glob,G.funs,G.cls,G.blt,G.nolim,G.bm⟩
section
noncomputable def RV (h:Heap) (v:Value):V->List Addr->Prop
 | .d x,as=>R h v x as/\sz x=true
 | .dic0,as=>∃ a,v = .ref a/\as=[a]/\(a==sysModules)=false/\h.DictOf (intKind prog w) a []/\h.DictOfH (tupleKind (intKind prog w)) a []
 | .dicI ks,as=>∃ a,v = .ref a/\as=[a]/\(a==sysModules)=false/\h.DictOf (intKind prog w) a (ks.map λk=>(k,.bool true))
 | .dicT ks,as=>∃ a xs,v = .ref a/\as=[a]/\(a==sysModules)=false/\h.DictOfH (tupleKind (intKind prog w)) a xs/\xs.map (·.1)=ks/\(∀ k∈ks,k.length<=2^22)/\∀ x∈xs,R h (.ref x.2.1) (aJ x.1) []
 | .rule c d n,as=>∃ x D o vf bs t u mA,v = .ref x/\as=x::D::bs/\h.get? x=some o/\o.cls = .ref SF.rule/\(∀ c,o.data≠.cls c)/\o.dict=some D/\D≠x/\h.Ns1 D mA/\mA "count" = some (.int c t)/\mA "full" = some vf/\mA "size" = some (.int n u)/\(∀ m∈methNames,mA (Str.ofString m)=none)/\R h vf d bs/\sz d=true
inductive RVs (h:Heap):List V->List Value->List Addr->Prop
 | nil:RVs h [] [] []
 | cons {x:V}{xs:List V}{v:Value}{vs:List Value}{as bs:List Addr}:RV h v x as->RVs h xs vs bs->RVs h (x::xs) (v::vs) (as++bs)
end
inductive VarIs (h:Heap) (env:Env) (x:Str) (v:Value):Prop
 | loc (m:Str->Option Value):env.kindOf x=some .local->h.Ns env.locals m->m x=some v->VarIs h env x v
 | cell (c:Addr):env.kindOf x=some .cell\/env.kindOf x=some .free->env.cells.lookup x=some c->h.IsCell c (some v)->VarIs h env x v
structure EnvOk (env:Env):Prop where
 kind:env.scope.kind = .function
 glob:env.globals=mainGlobals
 blt:env.builtins=builtinsNs
 cells:∀ n,env.kindOf n=some .cell\/env.kindOf n=some .free->∃ c,env.cells.lookup n=some c
section
theorem KW (x:IsTupleKey (intKind prog w) h ks a) (k:KG G h h'):IsTupleKey (intKind prog w) h' ks a :=
 aX (x) λo j n l i g=>(cT o j n (k.stay l (.inr (az i (bG _ _ g.1)))) i g)
theorem iu (x:o.ExactDict):hardB o=true:=by unfold hardB; rw[x.1]; decide
theorem pJ (x:h.DictOf (intKind prog w) a kvs) (k:KG G h h') (g:G a):h'.DictOf (intKind prog w) a kvs :=
 bz (x) λo i j l r=>(cB o i j (k.hard (.inl g) l (iu r.1)) r)
theorem nQ (x:h.DictOfH (tupleKind (intKind prog w)) a xs) (k:KG G h h') (g:G a):h'.DictOfH (tupleKind (intKind prog w)) a xs :=
 cF (x) λo l m t i r q p n=>(fW o l m (k.hard (.inl g) t (iu i)) i r q (λy j=>KW (p y j) k) n)
theorem RV.onG (r:RV h v x as) (k:KG G h h') (g:∀ a∈as,G a):RV h' v x as:=by
 cases x with
 | d x=>exact ⟨r.1.onG k g,r.2⟩
 | dic0=>obtain ⟨a,m,rfl,l,j,p⟩:=r; exact (iS a m rfl l (pJ j k (g a (.head _))) (nQ p k (g a (.head _))))
 | dicI ks=>obtain ⟨a,m,rfl,l,j⟩:=r; exact (bD a m rfl l (pJ j k (g a (.head _))))
 | dicT ks=>obtain ⟨a,xs,m,rfl,l,j,p,h6,h7⟩:=r; exact (gQ a xs m rfl l (nQ j k (g a (.head _))) p h6 (λx hx=>(h7 x hx).onG k λuu h=>nomatch h))
 | rule c d n=>
  refine ja (r) λx D o vf bs t u mA m y l j p h6 h7 i h9 h10 h11 h12 h13 h14=>?_
  clear r
  subst y
  refine bz (i) λoD es ep e hd=>?_
  clear i
  obtain ⟨z,eD,q,_⟩:=k.dataG (.inl (g D (.tail _ (.head _)))) e λfs q=>by rw[hd.1] at q; cases q
  exact (jj x D o vf bs t u mA m rfl (k.hard (.inl (g x (.head _))) l (by unfold hardB; rw[j])) j p h6 h7 (cT z es ep eD (q.trans hd.1) hd.2) h9 h10 h11 h12 (h13.onG k λa ha=>g a (.tail _ (.tail _ ha))) h14)
theorem RV.k (r:RV h v x as) (k:K h h'):RV h' v x as:=r.onG k λuu uu=>trivial
theorem VarIs.k (r:VarIs h env x v) (k:K h h'):VarIs h' env x v:=by
 cases r with
 | loc m a b c=>exact .loc m a (iy b k) c
 | cell c a b d=>exact .cell c a b (ie d k)
theorem RV.keep (r:RV h v x as) (k:∀ b o,h.get? b=some o->h'.get? b=some o):RV h' v x as:=r.k (.of k)
noncomputable def Kp (s s':Shared):Prop:=∃ h' tk,s' = {s with heap:=h',toks:=tk }/\K s.heap h'
theorem Kp.refl (s:Shared):Kp s s:=(ay s.heap s.toks rfl KG.refl)
theorem Kp.trans (a:Kp s s₁) (b:Kp s₁ n):Kp s n:=by
 refine aq (a) λh t i k=>?_
 clear a
 subst i
 refine aq (b) λm j g l=>?_
 clear b
 subst g
 exact (ay m j rfl (KG.trans k l))
theorem Kp.k (a:Kp s s₁):K s.heap s₁.heap:=by
 obtain ⟨h,t,rfl,k⟩:=a; exact k
theorem Kp.of (k:∀ b o,s.heap.get? b=some o->h'.get? b=some o):Kp s {s with heap:=h',toks:=tk }:=(ay h' tk rfl (.of k))
theorem Kp.toks (s:Shared) (t:Nat):Kp s {s with toks:=t }:=.of (s:=s) λuu uu e=>e
theorem Kp.push (s:Shared) (o:Obj) (t:Nat):Kp s {s with heap:=s.heap.push o,toks:=t }:=.of λuu uu e=>Heap.get?_push_of_some _ e
theorem Kp.none (a:Kp s s₁) (e:s₁.heap.get? b=none):s.heap.get? b=none:=by
 cases q:s.heap.get? b with
 | none=>rfl
 | some o=>obtain ⟨h,g⟩:=a.k.there q; rw[g] at e; exact nM e
structure Cx (fns:Fns) (k:Nat) (A:Around) (P:Addr->Prop) (h:Heap) (env:Env) (σ:St):Prop where
 room:Room fns.hand k A
 eok:EnvOk env
 ge:GE fns h
 code:fns.lam=true->∃ q,CodeOk h env.code q
 vars:∀ x p,σ x=some p->varK env.scope.names x=true->∃ v as,VarIs h env (Str.ofString x) v/\RV h v p.1 as/\∀ a∈as,P a
inductive EP (P:Addr->Prop) (s:Shared) (r:V×Mode) (v:Value) (s':Shared):Prop
 | mk (kp:Kp s s') (as:List Addr) (rv:RV s'.heap v r.1 as) (own:∀ a∈as,P a\/s.heap.get? a=none) (top:r.2 = .top->∃ a bs,as=a::bs/\s.heap.get? a=none/\a∉bs) (deep:r.2 = .deep->(∀ a∈as,s.heap.get? a=none)/\as.Nodup):EP P s r v s'
inductive EPs (P:Addr->Prop) (s:Shared) (l:List (V×Mode)) (vs:List Value) (s':Shared):Prop
 | mk (kp:Kp s s') (as:List Addr) (rv:RVs s'.heap (l.map (·.1)) vs as) (own:∀ a∈as,P a\/s.heap.get? a=none) (deep:allDeep l=true->(∀ a∈as,s.heap.get? a=none)/\as.Nodup):EPs P s l vs s'
theorem EP.keeps (e:EP P s r v s'):Kp s s':=by cases e; assumption
theorem EPs.keeps (e:EPs P s l vs s'):Kp s s':=by cases e; assumption
theorem Cx.k {fns:Fns}{k:Nat}{A:Around}{P:Addr->Prop}{h h':Heap}{env:Env}{σ:St}(X:Cx fns k A P h env σ) (kp:K h h'):Cx fns k A P h' env σ where
 room:=X.room
 eok:=X.eok
 ge:=X.ge.k kp
 code:=λhk=>ah (X.code hk) λq c=>⟨q,c.k kp⟩
 vars:=λx p i g=>aA (X.vars x p i g) λv as a b c=>(bJ v as (a.k kp) (b.k kp) c)
theorem EP.scalar (k:Kp s s') (r:R s'.heap v x []) (z:sz x=true) (hm:m≠.top):EP P s (.d x,m) v s' :=
 ⟨k,[],⟨r,z⟩,λuu h=>(nomatch h),λh=>absurd h hm,λuu=>⟨λuu h=>(nomatch h),.nil⟩⟩
theorem EP.int (k:Kp s s'):EP P s (sI i) (.int i t) s':=.scalar k (.int i t) rfl (by simp)
theorem EP.bool (k:Kp s s'):EP P s (sB b) (.bool b) s':=.scalar k (.bool b) rfl (by simp)
theorem EP.after (k:Kp s s₁) (e:EP P s₁ r v s'):EP P s r v s':=by
 obtain ⟨i,as,a,b,c,d⟩:=e
 exact ⟨k.trans i,as,a,λx h=>(b x h).imp id k.none,λg=>aA (c g) λa n m l j=>(bJ a n m (k.none l) j),λg=>⟨λx h=>k.none ((d g).1 x h),(d g).2⟩⟩
end
section
variable (fns:Fns) (k:Nat) (C:Calls) (XP:String->Shared->Value->Shared->Prop)
noncomputable def SimE (e:E):Prop:=∀ {ex:Expr}{A:Around}{env:Env}{σ:St}{P:Addr->Prop}{s:Shared}{Q:Value->Shared->Prop}{Er:Value->Shared->Prop},
 okE env.scope.names e ex=true->Cx fns k A P s.heap env σ->ev C e σ≠.bad ->
 (∀ r,ev C e σ = .ok r->∀ v s',EP P s r v s'->Q v s')->(∀ c,ev C e σ = .exc c->∀ x s',XP c s x s'->Er x s') ->
 wpAny (model prog w) A (eval ex env) Q Er s
noncomputable def SimT (e:E):Prop:=∀ {ex:Expr}{A:Around}{env:Env}{σ:St}{P:Addr->Prop}{s:Shared}{Q:Bool->Shared->Prop}{Er:Value->Shared->Prop},
 okE env.scope.names e ex=true->Cx fns k A P s.heap env σ->((ev C e σ).bind λr=>al r.1)≠.bad ->
 (∀ b,((ev C e σ).bind λr=>al r.1) = .ok b->∀ s',Kp s s'->Q b s')->(∀ c,ev C e σ = .exc c->∀ x s',XP c s x s'->Er x s') ->
 wpAny (model prog w) A (isTrue ex env (eval ex env)) Q Er s
end
theorem bk {α β:Type}{o:Out α}{f:α->Out β}(h:o.bind f≠.bad):o≠.bad/\∀ a,o = .ok a->f a≠.bad:=by
 cases o with
 | ok a=>exact ⟨λe=>(by cases e),λuu e=>by injection e; exact h⟩
 | exc c=>exact ⟨λe=>(by cases e),λuu e=>by cases e⟩
 | bad=>exact absurd rfl h
theorem aM {α β:Type}{o:Out α}{f:α->Out β}{G:Prop}(h:o.bind f≠.bad) (k:o≠.bad->(∀ a,o = .ok a->f a≠.bad)->G):G:=ab (bk h) k
theorem pQ {α β:Type}{o:Out α}{f:α->Out β}{b:β}(h:o.calm.bind f = .ok b):∃ a,o = .ok a/\f a = .ok b:=by
 cases o with
 | ok a=>exact (ag a rfl h)
 | exc c=>exact nB h
 | bad=>exact nB h
theorem oT {α β:Type}{o:Out α}{f:α->Out β}{b:β}{G:Prop}(h:o.calm.bind f = .ok b) (k:∀ a,o = .ok a->f a = .ok b->G):G:=ae (pQ h) k
theorem k6 {α β:Type}{o:Out α}{f:α->Out β}{c:String}(h:o.bind f = .exc c):o = .exc c\/∃ a,o = .ok a/\f a = .exc c:=by
 cases o with
 | ok a=>exact .inr (ag a rfl h)
 | exc c=>cases h; exact .inl rfl
 | bad=>cases h
section
theorem Kr (hXP:∀ c s s₁ x s',Kp s s₁->XP c s₁ x s'->XP c s x s') {a b:E}(Sa:SimE fns k C XP a) (Sb:SimE fns k C XP b)
  {ea eb:Expr}{A:Around}{env:Env}{σ:St}{P:Addr->Prop}{s:Shared}{G:Value->Value->Shared->Prop}{Er:Value->Shared->Prop}
  (oa:okE env.scope.names a ea=true) (ob:okE env.scope.names b eb=true) (X:Cx fns k A P s.heap env σ)
  (na:ev C a σ≠.bad) (nb:∀ x,ev C a σ = .ok x->ev C b σ≠.bad)
  (hE:∀ c,(ev C a σ = .exc c\/∃ x,ev C a σ = .ok x/\ev C b σ = .exc c)->∀ x s',XP c s x s'->Er x s')
  (hG:∀ x y,ev C a σ = .ok x->ev C b σ = .ok y->∀ va vb s₁ l,EP P s x va s₁->EP P s₁ y vb l->G va vb l) :
  wpAny (model prog w) A (eval ea env) (λva s₁=>wpAny (model prog w) A (eval eb env) (λvb l=>G va vb l) Er s₁) Er s :=
 Sa oa X na (λx g va s₁ Ea=>Sb ob (X.k Ea.keeps.k) (nb x g) (λy j vb l Eb=>hG x y g j va vb s₁ l Ea Eb)
  λc h z s' i=>hE c (.inr (ag x g h)) z s' (hXP c s s₁ z s' Ea.keeps i)) λc h=>hE c (.inl h)
theorem pK {env:Env}{x:String}(h:varK env.scope.names x=true):env.kindOf (Str.ofString x)=some .local\/env.kindOf (Str.ofString x)=some .cell\/env.kindOf (Str.ofString x)=some .free:=by
 unfold varK at h
 unfold Env.kindOf
 replace h:=(and_eq_true_iff.mp h).2
 split at h<;>first | (rename_i e; exact .inl e) | (rename_i e; exact .inr (.inl e)) | (rename_i e; exact .inr (.inr e)) | exact nF h
theorem dK (hk:env.scope.kind = .function) (hd:bf x=true)
  (hv:VarIs s.heap env (Str.ofString x) v) (h:Q v s):wpAny (model prog w) A (eval (.Name (Str.ofString x) pos) env) Q Er s:=by
 unfold bf at hd
 simp only[and_eq_true,Bool.not_eq_true'] at hd
 cases hv with
 | loc m a b c=>exact wpAny_Name (wpAny_loadName_local hk a b c h) hd.1
 | cell c a b d=>
  rcases a with a | a
  ·exact wpAny_Name (wpAny_loadName_cell hk a b d h) hd.1
  ·exact wpAny_Name (wpAny_loadName_free hk a b d h hd.2) hd.1
theorem sQ (r:RV s.heap v x as) (h:∀ a∈as,P a):EP P s (mk x) v s:=by
 refine ⟨.refl s,as,r,λa j=>.inl (h a j),λg=>?_,λg=>?_⟩
 ·unfold mk at g; dsimp only at g; split at g<;>cases g
 ·cases x with
  | d x=>
   unfold mk at g; dsimp only at g
   split at g
   ·rename_i i
    have:as=[]:=r.1.sx_nil i
    (clear h r; subst this)
    exact ⟨λuu h=>(nomatch h),.nil⟩
   ·cases g
  | _=>simp[mk,sM] at g
theorem kG {ex:Expr}(h:okE ns (.name x) ex=true):∃ p,ex = .Name (Str.ofString x) p/\varK ns x=true/\bf x=true:=by
 replace h:=vO h
 revert h; refine λg=>Or.elim g (λi=>?_) (λh=>?_)
 ·clear g
  refine aq (i) λm l j h=>?_
  clear i
  subst j
  simp only[and_eq_true,beq_iff_eq] at h
  refine ab (h) λk o=>?_
  clear h
  refine ab (k) λn q=>?_
  clear k
  subst n
  exact (aL _ rfl q o)
 ·cases h
theorem dX (x:String):SimE fns k C XP (.name x):=by
 intro ex A u i P s Q Er h X j n y
 refine ao (kG h) λp g l m=>?_
 (clear h; subst g)
 cases hσ:i x with
 | none=>exact absurd (by simp[bW,hσ]) j
 | some q=>
  refine aA (X.vars x q hσ l) λv as t r o=>?_
  exact dK X.eok.kind m t (n (mk q.1) (by simp[bW,hσ]) v s (sQ r o))
theorem mn (i:Int):SimE fns k C XP (.int i):=by
 intro ex A q r P s Q Er j X t p u
 replace j:=JB j
 revert j; refine λg=>Or.elim g (λh=>?_) (λj=>?_)
 ·clear g
  refine bz (h) λo n m l j=>?_
  clear h
  subst l
  simp only[beq_iff_eq] at j
  subst j
  exact wpAny_Constant_int (p (sI i) rfl _ _ (.int (.toks s _)))
 ·cases j
theorem A7 (x:String):SimE fns k C XP (.str x):=by
 intro ex A r t P s Q Er g X u q v
 replace g:=Gr g
 revert g; refine λh=>Or.elim h (λi=>?_) (λg=>?_)
 ·clear h
  refine bz (i) λn m l j g=>?_
  clear i
  subst j
  simp only[and_eq_true,beq_iff_eq,decide_eq_true_eq] at g
  refine ab (g) λo p=>?_
  clear g
  subst o
  exact wpAny_Constant_str (q (.d (.str (Str.ofString x)),.deep) rfl _ _ (.scalar (.toks s _) (.str _ _) (by simpa [sz] using p) (by simp)))
 ·cases g
theorem oR (b:Bool):SimE fns k C XP (.bool b):=by
 intro ex A p q P s Q Er i X r o t
 replace i:=Bs i
 revert i; refine λg=>Or.elim g (λh=>?_) (λi=>?_)
 ·clear g
  refine bz (h) λn m l j i=>?_
  clear h
  subst j
  simp only[beq_iff_eq] at i
  subst i
  exact wpAny_Constant_bool (o (sB b) rfl _ _ (.bool (.refl s)))
 ·cases i
theorem wx:SimE fns k C XP .none:=by
 intro ex A o p P s Q Er j X q n r
 replace j:=B7 j
 revert j; refine λg=>Or.elim g (λh=>?_) (λj=>?_)
 ·clear g
  refine aq (h) λm l i j=>?_
  clear h
  subst i
  exact wpAny_Constant_none (n (.d .none,.deep) rfl _ _ (.scalar (.refl s) .none rfl (by simp)))
 ·cases j
theorem bv (h:Heap):h.get? h.objs.size=none:=Heap.get?_none_of_le (le_refl _)
theorem fj {h:Heap}{a:Addr}{o:Obj}(e:h.get? a=some o):a≠h.objs.size:=ne_of_lt (lt_size e)
theorem EP.newList (r:RA s.heap vs xs as) (hl:xs.length<=2^22) (hz:∀ x∈xs,sz x=true) (ha:∀ a∈as,P a) :
  EP P s (.d (.list xs),fresh xs) (.ref s.heap.objs.size) {s with heap:=s.heap.push {cls:=.type "list", data:=.seq vs.toArray },toks:=t }:=by
 refine ⟨.push s _ _,s.heap.objs.size::as,⟨.list (Heap.get?_push_size _ rfl) (r.keep λuu uu e=>Heap.get?_push_of_some _ e),sz_list.mpr ⟨hl,hz⟩⟩,?_,?_,?_⟩
 ·intro a h
  rcases mem_cons.mp h with rfl | h
  ·exact .inr (bv _)
  ·exact .inl (ha a h)
 ·intro _
  exact (bJ _ _ rfl (bv _) (λh=>aY (r.there _ h) λuu uu e=>fj e rfl))
 ·intro i
  have g:xs.all sx=true:=by
   unfold fresh at i; dsimp only at i; split at i
   ·assumption
   ·cases i
  rw[r.sx_nil g]
  refine ⟨λa h=>?_,by simp⟩
  rcases mem_cons.mp h with rfl | h
  ·exact bv _
  ·cases h
section
theorem x5 (ra:R s.heap va (.list xs) as) (za:sz (.list xs)=true) (rb:R s.heap vb (.list ys) bs) (zb:sz (.list ys)=true) (ha:∀ a∈as,P a) (hb:∀ a∈bs,P a) (hl:xs.length+ys.length<=lim)
  (hQ:∀ v s',EP P s (.d (.list (xs++ys)),fresh (xs++ys)) v s'->Q v s'):wpAny (model prog w) A (binaryOp .Add va vb) Q Er s:=by
 cases ra with
 | list ea ra=>
 cases rb with
 | list eb rb=>
 unfold lim at hl
 rw[sz_list] at za zb
 have j:=ra.length
 have i:=rb.length
 refine PySem.P.add_list ea eb ?_ ?_
 ·have:=EP.newList (P:=P) (t:=s.toks) (ra.append rb) (by rw[length_append]; exact Hf hl) (λz g=>(mem_append.mp g).elim (za.2 z) (zb.2 z)) λa h=>(mem_append.mp h).elim (λh=>ha a (.tail _ h)) λh=>hb a (.tail _ h)
  exact hQ _ _ (by simpa using this)
 ·rw[size_toArray,size_toArray,j,i]
  unfold sizeLine; exact Ji hl
theorem z7 (h:a.natAbs<2^63\/b.natAbs<2^63) (hQ:∀ v s',EP P s (sI (a*b)) v s'->Q v s'):wpAny (model prog w) A (binaryOp .Mult (.int a t) (.int b u)) Q Er s:=by
 refine mul_int (hQ _ _ (.int (.toks s _))) ?_
 rcases h with hl | hl
 ·exact IntMulOk.of_left (intBits_le_64 (by exact na1 ‹_›) (by exact na2 ‹_›))
 ·exact IntMulOk.of_right (intBits_le_64 (by exact na1 ‹_›) (by exact na2 ‹_›))
theorem xK (h:¬ (b=0\/1000000000<=b.natAbs)) (hQ:∀ v s',EP P s (sI (a.fdiv b)) v s'->Q v s'):wpAny (model prog w) A (binaryOp .FloorDiv (.int a t) (.int b u)) Q Er s :=
 floordiv_int (λe=>h (.inl e)) (hQ _ _ (.int (.toks s _))) (.inl (PyProof.noPylong_small (G0 h)))
theorem Aa (h:0<=b/\b<=1000/\a.natAbs<2^63) (hQ:∀ v s',EP P s (sI (a^b.toNat)) v s'->Q v s'):wpAny (model prog w) A (binaryOp .Pow (.int a t) (.int b u)) Q Er s :=
 pow_int_small h.1 (FE h) (Fl h) (hQ _ _ (.int (.toks s _)))
theorem wW
  (ho:opB o op=true) (he:dz o x y = .ok r) (ra:R s.heap va x as) (za:sz x=true) (rb:R s.heap vb y bs) (zb:sz y=true) (ha:∀ a∈as,P a) (hb:∀ a∈bs,P a)
  (hQ:∀ v s',EP P s r v s'->Q v s'):wpAny (model prog w) A (binaryOp op va vb) Q Er s:=by
 cases of_decide_eq_true ho
 cases o with
 | add=>
  replace he:pD x y = .ok r:=he
  unfold pD at he
  cases hx:asL x with
  | some xs=>
   rw[hx] at he
   replace he:=aQ he
   revert he; intro n
   refine ae (n) λys hy he=>?_
   clear n
   cases cI hx
   cases cI hy
   clear hx hy
   split at he<;>cases he
   exact x5 ra za rb zb ha hb ‹_› hQ
  | none=>
   rw[hx] at he
   replace he:=fy he
   revert he; intro m
   refine aA (m) λa b LA LH he=>?_
   clear m
   (clear hx za; subst LA)
   (clear zb; subst LH)
   injection he; obtain ⟨_,rfl,rfl⟩:=ra.isInt; obtain ⟨_,rfl,rfl⟩:=rb.isInt
   exact add_int (hQ _ _ (.int (.toks s _)))
 | sub=>
  replace he:=fy he
  revert he; intro l
  refine aA (l) λa b LJ LD he=>?_
  clear l
  (clear za; subst LJ)
  (clear zb; subst LD)
  injection he; obtain ⟨_,rfl,rfl⟩:=ra.isInt; obtain ⟨_,rfl,rfl⟩:=rb.isInt
  exact sub_int (hQ _ _ (.int (.toks s _)))
 | mul=>
  replace he:=fy he
  revert he; intro k
  refine aA (k) λa b LB LF he=>?_
  clear k
  (clear za; subst LB)
  (clear zb; subst LF)
  split at he<;>cases he
  obtain ⟨_,rfl,rfl⟩:=ra.isInt; obtain ⟨_,rfl,rfl⟩:=rb.isInt
  exact z7 ‹_› hQ
 | fdiv=>
  replace he:=fy he
  revert he; intro j
  refine aA (j) λa b LI LK he=>?_
  clear j
  (clear za; subst LI)
  (clear zb; subst LK)
  split at he<;>cases he
  obtain ⟨_,rfl,rfl⟩:=ra.isInt; obtain ⟨_,rfl,rfl⟩:=rb.isInt
  exact xK ‹_› hQ
 | mod=>
  replace he:=fy he
  revert he; intro i
  refine aA (i) λa b LL z he=>?_
  clear i
  (clear za; subst LL)
  (clear zb; subst z)
  split at he<;>cases he
  obtain ⟨_,rfl,rfl⟩:=ra.isInt; obtain ⟨_,rfl,rfl⟩:=rb.isInt
  exact mod_int' ‹_› (hQ _ _ (.int (.toks s _)))
 | pow=>
  replace he:=fy he
  revert he; intro h
  refine aA (h) λa b u t he=>?_
  clear h
  (clear za; subst u)
  (clear zb; subst t)
  split at he<;>cases he
  obtain ⟨_,rfl,rfl⟩:=ra.isInt; obtain ⟨_,rfl,rfl⟩:=rb.isInt
  exact Aa ‹_› hQ
 | xor=>
  replace he:=fy he
  revert he; intro g
  refine aA (g) λa b q p he=>?_
  clear g
  (clear za; subst q)
  (clear zb; subst p)
  injection he; obtain ⟨_,rfl,rfl⟩:=ra.isInt; obtain ⟨_,rfl,rfl⟩:=rb.isInt
  exact xor_int (hQ _ _ (.int (.toks s _)))
end
end
section
theorem Room.units (h:Room hb k A):A.units+200<cLine:=by
 revert h; intro g
 refine aI (g) λuu uu h=>?_
 clear g
 cases hb with
 | true=>rw[if_pos rfl] at h; exact EQ h
 | false=>rw[if_neg (by decide)] at h; exact Ig h
theorem Room.at (h:Room hb k A) (hf:hb=false):A.depth+2*k+4<recursionLimit/\A.units+100*k+300<cLine:=by
 subst hf; exact h.2
theorem jZ:okc d=true↔d.canLay0=true/\d.depth<=64:=by simp[okc]
theorem nY (h:IntsAre vs ns):ItemsAre (intKind prog w) ns vs:=by
 induction h with
 | nil=>exact .nil
 | cons n t _ ih=>exact .cons (intKind_is prog w n t) ih
theorem fr (r:R h v x as) (e:dy x=some ks):∃ a,v = .ref a/\IsTupleKey (intKind prog w) h ks a:=by
 cases r with
 | tuple ea ra=>
  refine aI (ra.ints e) λg _ _=>?_
  exact (ag _ rfl (gX _ _ _ ea rfl rfl (by simpa using nY g)))
 | _=>exact nN e
theorem rS (r:R h v x as) (e:dy x=some ks):R h v (aJ ks) []:=by
 cases r with
 | tuple ea ra=>
  refine aI (ra.ints e) λuu i g=>?_
  subst i
  (clear e; subst g)
  exact .tuple ea ra
 | _=>exact nN e
theorem jm {K:Type} [DecidableEq K] (xs:List (K×Addr×Value)) (k:K):(atKey xs k).isSome=decide (k∈xs.map (·.1)):=by
 unfold atKey
 rw[Option.isSome_map]
 induction xs with
 | nil=>rfl
 | cons x xs ih=>
  by_cases hk:x.1=k
  ·simp[hk]
  ·rw[List.find?_cons,show decide (x.1=k)=false from decide_eq_false hk]
   dsimp only
   rw[ih,map_cons]
   simp[mem_cons,Ne.symm hk]
theorem mB (ks:List Int) (k:Int):(valueAt (ks.map λk=>(k,Value.bool true)) k).isSome=decide (k∈ks):=by
 unfold valueAt
 rw[Option.isSome_map]
 induction ks with
 | nil=>rfl
 | cons x xs ih=>
  by_cases hk:x=k
  ·simp[hk]
  ·rw[map_cons,List.find?_cons]
   simp only[hk,decide_false,mem_cons,Ne.symm hk,false_or]
   exact ih
theorem Ba (hu:A.units+200<cLine) (he:inV x c = .ok b) (ra:R s.heap va x as) (rb:RV s.heap vb c bs)
  (hQ:∀ s',Kp s s'->Q (.bool b) s'):wpAny (model prog w) A (compareOp .In va vb) Q Er s:=by
 cases c with
 | d y=>
  replace he:=aQ he
  revert he; intro l
  refine ae (l) λxs hy he=>?_
  clear l
  cases cI hy
  split at he<;>cases he
  rename_i j
  simp only[and_eq_true,jZ] at j
  refine aI (j) λm b1 b2=>?_
  clear j
  refine ab (m) λa1 a2=>?_
  clear m
  simp only[PyData.canLay0,PyData.depth] at b1 b2
  exact SeqAt.in_list_reads rb.1.reads ra.reads b1 a1 (by have:=min_le_left (PyData.depthAll ‹_›) x.depth; exact zN hu b2) (hQ s (.refl s))
 | dicI ks=>
  replace he:=aQ he
  revert he; intro k
  refine ae (k) λi r he=>?_
  clear k
  injection he
  refine ca (rb) λa Lz _ h t=>?_
  clear rb
  subst Lz
  cases cV r
  refine ra.isInt_k λuu LA LH=>?_
  (clear ra; subst LA)
  subst LH
  refine wpAny_in_of (intKind_is prog w _ _) h t.mapOf ?_
  rw[mB]
  exact hQ _ (.toks s _)
 | dicT ks=>
  replace he:=aQ he
  revert he; intro g
  refine ae (g) λi r he=>?_
  clear g
  injection he
  refine zR (rb) λa xs z _ h t v _=>?_
  clear rb
  subst z
  subst v
  refine ae (fr ra r) λa' u hk=>?_
  (clear ra; subst u)
  refine wpAny_in_heap (tupleKind_room_in1 (yF hu)) hk h t ?_
  rw[jm]
  exact Eq.mp (congrArg (λb=>Q (.bool b) _) (decide_eq_decide.mpr Iff.rfl)) (hQ _ (.toks s _))
 | dic0=>
  replace he:(if (ei x).isSome||(dy x).isSome then Out.ok false else .bad) = .ok b:=he
  split at he<;>cases he
  rename_i j
  refine jT (rb) λa q _ h t hd'=>?_
  clear rb
  subst q
  cases h2:ei x with
  | some i=>
   cases cV h2
   refine ra.isInt_k λuu p o=>?_
   (clear ra; subst p)
   subst o
   exact wpAny_in_of (intKind_is prog w _ _) h t.mapOf (hQ _ (.toks s _))
  | none=>
   rw[h2] at j
   refine bK (by simpa using j) λi r=>?_
   refine ae (fr ra r) λa' n hk=>?_
   (clear ra; subst n)
   exact wpAny_in_heap (tupleKind_room_in1 (yF hu)) hk h hd' (hQ _ (.toks s _))
 | rule _ _ _=>exact nB he
theorem qo (hu:A.units+200<cLine) (ho:opC o op=true) (he:b6 o x y = .ok b) (ra:RV s.heap va x as) (rb:RV s.heap vb y bs)
  (hQ:∀ s',Kp s s'->Q (.bool b) s'):wpAny (model prog w) A (compareOp op va vb) Q Er s:=by
 cases of_decide_eq_true ho
 cases o with
 | eq=>
  replace he:=iv he
  revert he; intro z
  refine aA (z) λx y LN LO he=>?_
  clear z
  subst LN
  subst LO
  split at he<;>cases he
  rename_i g
  simp only[and_eq_true,jZ] at g
  refine aI (g) λLS b1 b2=>?_
  clear g
  refine ab (LS) λa1 a2=>?_
  clear LS
  exact SeqAt.compareEq_reads ra.1.reads rb.1.reads a1 b1 (by have:=min_le_left x.depth y.depth; exact zz hu a2) (hQ s (.refl s))
 | ne=>
  replace he:=iv he
  revert he; intro v
  refine aA (v) λx y LR LP he=>?_
  clear v
  subst LR
  subst LP
  split at he<;>cases he
  rename_i g
  simp only[and_eq_true,jZ] at g
  refine aI (g) λLQ b1 b2=>?_
  clear g
  refine ab (LQ) λa1 a2=>?_
  clear LQ
  exact SeqAt.compareNe_reads ra.1.reads rb.1.reads a1 b1 (by have:=min_le_left x.depth y.depth; exact zz hu a2) (hQ s (.refl s))
 | lt=>
  replace he:=iv he
  revert he; intro u
  refine aA (u) λx y LV LX he=>?_
  clear u
  subst LV
  subst LX
  replace he:=fy he
  revert he; intro t
  refine aA (t) λi j LY LW he=>?_
  clear t
  subst LY
  subst LW
  injection he; obtain ⟨_,rfl,rfl⟩:=ra.1.isInt; obtain ⟨_,rfl,rfl⟩:=rb.1.isInt
  exact lt_int (hQ s (.refl s))
 | gt=>
  replace he:=iv he
  revert he; intro r
  refine aA (r) λx y Me Mm he=>?_
  clear r
  subst Me
  subst Mm
  replace he:=fy he
  revert he; intro q
  refine aA (q) λi j Mp Mn he=>?_
  clear q
  subst Mp
  subst Mn
  injection he; obtain ⟨_,rfl,rfl⟩:=ra.1.isInt; obtain ⟨_,rfl,rfl⟩:=rb.1.isInt
  exact gt_int (hQ s (.refl s))
 | ge=>
  replace he:=iv he
  revert he; intro p
  refine aA (p) λx y Mh Mo he=>?_
  clear p
  subst Mh
  subst Mo
  replace he:=fy he
  revert he; intro n
  refine aA (n) λi j Mq Mi he=>?_
  clear n
  subst Mq
  subst Mi
  injection he; obtain ⟨_,rfl,rfl⟩:=ra.1.isInt; obtain ⟨_,rfl,rfl⟩:=rb.1.isInt
  exact ge_int (hQ s (.refl s))
 | isin=>
  replace he:=aQ he
  revert he; intro m
  refine ae (m) λx hx he=>?_
  clear m
  cases cR hx
  exact Ba hu he ra.1 rb hQ
 | notin=>
  replace he:=iv he
  revert he; intro l
  refine aA (l) λkx y L7 L8 he=>?_
  clear l
  subst L7
  subst L8
  refine Out.bind_k he λb' g h2=>?_
  (have oc:=Out.ok.inj h2; clear h2; (clear he; subst oc))
  replace g:=aQ g
  revert g; intro k
  refine ae (k) λxs hy g=>?_
  clear k
  cases cI hy
  split at g<;>cases g
  rename_i g
  simp only[and_eq_true,jZ] at g
  refine aI (g) λL1 b1 b2=>?_
  clear g
  refine ab (L1) λa1 a2=>?_
  clear L1
  simp only[PyData.canLay0,PyData.depth] at b1 b2
  exact SeqAt.notIn_list_reads rb.1.reads ra.1.reads b1 a1 (by have:=min_le_left (PyData.depthAll xs) kx.depth; exact zN hu b2) (hQ s (.refl s))
 | isnot=>
  replace he:=iv he
  revert he; intro h
  refine aA (h) λx y MT Ml he=>?_
  clear h
  subst MT
  subst Ml
  split at he<;>cases he
  cases Ag ‹_›
  obtain ⟨ra,_⟩:=ra; obtain ⟨rfl,rfl⟩:=rb.1.isNone
  refine isNot_none ?_
  cases ra<;>exact hQ s (.refl s)
end
section
theorem EP.shift (kp:Kp s o) (e:EP (λa=>P a\/s.heap.get? a=none) o r v sc):EP P s r v sc:=by
 obtain ⟨j,as,a,b,c,d⟩:=e
 refine ⟨kp.trans j,as,a,λx i=>?_,λg=>aA (c g) λa n m l k=>(bJ a n m (kp.none l) k),λg=>⟨λx i=>kp.none ((d g).1 x i),(d g).2⟩⟩
 rcases b x i with h | h
 ·exact h
 ·exact .inr (kp.none h)
theorem oH (hXP:∀ c s s₁ x s',Kp s s₁->XP c s₁ x s'->XP c s x s') {a b:E}(Sa:SimE fns k C XP a) (Sb:SimE fns k C XP b)
  {ea eb:Expr}{A:Around}{env:Env}{σ:St}{P:Addr->Prop}{s:Shared}{Er:Value->Shared->Prop}{G:Value->Value->Shared->Prop}{f:V->V->Out (V×Mode)}
  (oa:okE env.scope.names a ea=true) (ob:okE env.scope.names b eb=true) (X:Cx fns k A P s.heap env σ)
  (nb:((ev C a σ).bind λx=>(ev C b σ).bind λy=>f x.1 y.1)≠.bad)
  (hE:∀ c,((ev C a σ).bind λx=>(ev C b σ).bind λy=>f x.1 y.1) = .exc c->∀ x s',XP c s x s'->Er x s') (hf:∀ x y c,f x y≠.exc c)
  (hG:∀ x y r,((ev C a σ).bind λx=>(ev C b σ).bind λy=>f x.1 y.1) = .ok r->f x y = .ok r->∀ va vb s₂ as bs,Kp s s₂->RV s₂.heap va x as->RV s₂.heap vb y bs ->
   (∀ a∈as,P a\/s.heap.get? a=none)->(∀ a∈bs,P a\/s.heap.get? a=none)->G va vb s₂) :
  wpAny (model prog w) A (eval ea env) (λva s₁=>wpAny (model prog w) A (eval eb env) (λvb s₂=>G va vb s₂) Er s₁) Er s:=by
 refine aM nb λp i=>?_
 refine Kr hXP Sa Sb oa ob X p (λx g=>(bk (i x g)).1) (λc h=>hE c ?_) λx y g m va vb s₁ s₂ Ea Eb=>?_
 ·rcases h with h | ⟨x,g,h⟩
  ·rw[h]; rfl
  ·rw[g,Out.ok_bind,h]; rfl
 ·have v:=(bk (i x g)).2 y m
  cases hr:f x.1 y.1 with
  | bad=>exact absurd hr v
  | exc c=>exact absurd hr (hf _ _ _)
  | ok r=>
   obtain ⟨l,as,o,u,_⟩:=Ea
   obtain ⟨j,bs,n,t,_⟩:=Eb
   exact hG x.1 y.1 r (by rw[g,Out.ok_bind,m,Out.ok_bind]; exact hr) hr va vb s₂ as bs (l.trans j) (o.k j.k) n u λz q=>(t z q).imp id l.none
theorem wJ:dz o x y≠.exc c:=rt c
theorem qj:b6 o x y≠.exc c:=rG c
theorem AR {ex:Expr}(h:okE ns (.bin o a b) ex=true):∃ l op r p,ex = .BinOp l op r p/\opB o op=true/\okE ns a l=true/\okE ns b r=true:=by
 replace h:=Ez h
 revert h; refine λg=>Or.elim g (λi=>?_) (λh=>?_)
 ·clear g
  refine dM (i) λq n m k j h=>?_
  clear i
  subst j
  simp only[and_eq_true] at h
  exact (iE _ _ _ _ rfl h.1.1 h.1.2 h.2)
 ·cases h
theorem rN (hXP:∀ c s s₁ x s',Kp s s₁->XP c s₁ x s'->XP c s x s') {o:BOp}{a b:E}(Sa:SimE fns k C XP a) (Sb:SimE fns k C XP b):SimE fns k C XP (.bin o a b):=by
 intro ex A env σ P s Q Er m X n q t
 refine fP (AR m) λl op r p g ho z u=>?_
 (clear m; subst g)
 simp only[fc] at n q t
 refine wpAny_BinOp (oH hXP Sa Sb (f:=λx y=>match x,y with | .d x,.d y=>dz o x y | _,_=>.bad) z u X n t (λx y c=>?_) λx y r hr hf va vb h as bs kp j i ha hb=>?_)
 ·split
  ·exact wJ
  ·simp
 ·split at hf
  ·exact wW ho hf j.1 j.2 i.1 i.2 ha hb λv s' e=>q r hr v s' (.shift kp e)
  ·exact nB hf
theorem rh {ex:Expr}(h:okE ns (.cmp o a b) ex=true):∃ l op r p,ex = .Compare l [op] [r] p/\opC o op=true/\okE ns a l=true/\okE ns b r=true:=by
 replace h:=HS h
 revert h; refine λg=>Or.elim g (λi=>?_) (λh=>?_)
 ·clear g
  refine dM (i) λq n m k j h=>?_
  clear i
  subst j
  simp only[and_eq_true] at h
  exact (iE _ _ _ _ rfl h.1.1 h.1.2 h.2)
 ·cases h
theorem Ax:okE ns e (.Set es n p)=false:=by cases e<;>rfl
theorem pP (h:okE ns e x=true):behindInMarks op x=false:=by
 cases x<;>first | rfl | (rw[Ax] at h; cases h)
theorem rM (hXP:∀ c s s₁ x s',Kp s s₁->XP c s₁ x s'->XP c s x s') {o:COp}{a b:E}(Sa:SimE fns k C XP a) (Sb:SimE fns k C XP b):SimE fns k C XP (.cmp o a b):=by
 intro ex A env σ P s Q Er ok X m n q
 refine fP (rh ok) λl op r p g ho oa j=>?_
 (clear ok; subst g)
 simp only[db] at m n q
 refine wpAny_Compare1 (oH hXP Sa Sb (f:=λx y=>(b6 o x y).bind λb=>.ok (sB b)) oa j X m q (λx y c h=>?_) λx y r hr hf va vb i as bs kp z v ha hb=>?_) (pP j)
 ·rcases k6 h with h | ⟨_,_,h⟩
  ·exact qj h
  ·cases h
 ·refine Out.bind_k hf λt h1 u=>?_
  (have oc:=Out.ok.inj u; clear u; (clear hf; subst oc))
  exact qo X.room.units ho h1 z v λs' e=>n _ hr _ s' (.bool (kp.trans e))
theorem qr (hXP:∀ c s s₁ x s',Kp s s₁->XP c s₁ x s'->XP c s x s') {o:COp}{a b:E}(Sa:SimE fns k C XP a) (Sb:SimE fns k C XP b):SimT fns k C XP (.cmp o a b):=by
 intro ex A env z P s Q Er ok X nb hQ u
 refine fP (rh ok) λl op r p j ho oa q=>?_
 (clear ok; subst j)
 have g:=(bk nb).1
 have i:∀ r,ev C (.cmp o a b) z = .ok r->∀ b,al r.1 = .ok b->∀ s',Kp s s'->Q b s':=λr m t ht=>hQ t (by rw[m]; exact ht)
 simp only[db] at g i u
 refine wpAny_isTrue_Compare1 (oH hXP Sa Sb (f:=λx y=>(b6 o x y).bind λb=>.ok (sB b)) oa q X g u (λx y c h=>?_) λx y r m hf va vb n as bs kp ra rb ha hb=>?_) (pP q)
 ·rcases k6 h with h | ⟨_,_,h⟩
  ·exact qj h
  ·cases h
 ·refine Out.bind_k hf λt h1 v=>?_
  (have oc:=Out.ok.inj v; clear v; (clear hf; subst oc))
  exact qo X.room.units ho h1 ra rb λs' e=>wpAny_truthy_bool (i _ m _ rfl s' (kp.trans e))
theorem rL (Sa:SimE fns k C XP a):SimE fns k C XP (.neg a):=by
 intro ex A env σ P s Q Er j X u y z
 replace j:=zt j
 revert j; refine λg=>Or.elim g (λh=>?_) (λj=>?_)
 ·clear g
  refine aq (h) λo n i j=>?_
  clear h
  subst i
  simp only[fk] at u y z
  refine aM u λn1 n2=>?_
  refine wpAny_UnaryOp (Sa j X n1 (λx v va l Ea=>?_) λc hc=>z c (by rw[hc]; rfl))
  have t:=n2 x v
  obtain ⟨ka,as,p,_⟩:=Ea
  obtain ⟨x,m⟩:=x
  dsimp only at t p
  split at t
  ·refine p.1.isInt_k λuu r q=>?_
   (clear p; subst r)
   subst q
   exact neg_int (y _ (by rw[v]; rfl) _ _ (.int (ka.trans (.toks l _))))
  ·exact absurd rfl t
 ·cases j
theorem tG (S:SimE fns k C XP e) (hp:∀ ns ex env (t:Sem Value),okE ns e ex=true->isTrue ex env t=(do let v <- t; standAt ex.pos; holding [v] (truthy v))):SimT fns k C XP e:=by
 intro ex A env z P s Q Er n X o u y
 refine wpAny_isTrue_value (S n X (bk o).1 (λr p v s' E=>?_) y) (hp _ _ _ _ n)
 have h:=(bk o).2 r p
 obtain ⟨x,m⟩:=r
 dsimp only at h
 unfold al at h
 split at h
 ·obtain ⟨q,as,g,_⟩:=E
  refine ab (g) λl _=>?_
  clear g
  refine ab (l.isBool) λj i=>?_
  (clear l; subst j)
  subst i
  exact wpAny_truthy_bool (u _ (by rw[p]; rfl) _ q)
 ·exact absurd rfl h
theorem rT {ex:Expr}(h:okE ns (.not a) ex=true):∃ x p,ex = .UnaryOp .Not x p/\okE ns a x=true:=by
 replace h:=Gs h
 revert h; refine λg=>Or.elim g (λi=>?_) (λh=>?_)
 ·clear g
  refine aq (i) λl k j h=>?_
  clear i
  subst j
  exact (ay _ _ rfl h)
 ·cases h
theorem rQ (Sa:SimE fns k C XP a):SimE fns k C XP (.not a):=by
 intro ex A env σ P s Q Er o X q t u
 refine aq (rT o) λx p l v=>?_
 (clear o; subst l)
 simp only[dh] at q t u
 refine aM q λz y=>?_
 refine wpAny_UnaryOp (Sa v X z (λx r va n Ea=>?_) λc hc=>u c (by rw[hc]; rfl))
 have i:=(bk (y x r)).1
 obtain ⟨ka,as,j,_⟩:=Ea
 obtain ⟨x,m⟩:=x
 dsimp only at i j
 unfold al at i
 split at i
 ·refine ab (j.1.isBool) λh g=>?_
  (clear j; subst h)
  subst g
  exact not_value (wpAny_truthy_bool (t _ (by rw[r]; rfl) _ _ (.bool ka)))
 ·exact absurd rfl i
theorem pg (Sa:SimT fns k C XP a):SimT fns k C XP (.not a):=by
 intro ex A u h P s Q Er ok X i j t
 refine aq (rT ok) λx p g m=>?_
 (clear ok; subst g)
 have e:((ev C (.not a) h).bind λr=>al r.1)=((ev C a h).bind λr=>al r.1).bind λb=>.ok (!b):=by
  simp only[dh]
  cases ev C a h with
  | ok r=>simp only[Out.ok_bind]; cases al r.1<;>rfl
  | exc c=>rfl
  | bad=>rfl
 rw[e] at i j
 refine wpAny_isTrue_Not (Sa m X (bk i).1 (λb q l n=>j (!b) (by rw[q]; rfl) l n) λc o=>t c (by simp only[dh]; rw[o]; rfl))
end
section
variable (fns:Fns) (k:Nat) (C:Calls) (XP:String->Shared->Value->Shared->Prop)
noncomputable def SimA (e:E):Prop:=∀ {vs:List Expr}{pos:Pos}{A:Around}{env:Env}{σ:St}{P:Addr->Prop}{s:Shared}{Q:Value->Shared->Prop}{Er:Value->Shared->Prop},
 okA' env.scope.names e vs=true->Cx fns k A P s.heap env σ->((ev C e σ).bind λr=>al r.1)≠.bad ->
 (∀ b,((ev C e σ).bind λr=>al r.1) = .ok b->∀ s',Kp s s'->Q (.bool b) s')->(∀ c,ev C e σ = .exc c->∀ x s',XP c s x s'->Er x s') ->
 wpAny (model prog w) A (boolOp pos .And (evalEach vs env)) Q Er s
noncomputable def SimTA (e:E):Prop:=∀ {vs:List Expr}{A:Around}{env:Env}{σ:St}{P:Addr->Prop}{s:Shared}{Q:Bool->Shared->Prop}{Er:Value->Shared->Prop},
 okA' env.scope.names e vs=true->Cx fns k A P s.heap env σ->((ev C e σ).bind λr=>al r.1)≠.bad ->
 (∀ b,((ev C e σ).bind λr=>al r.1) = .ok b->∀ s',Kp s s'->Q b s')->(∀ c,ev C e σ = .exc c->∀ x s',XP c s x s'->Er x s') ->
 wpAny (model prog w) A (allTrue .And vs env) Q Er s
noncomputable def SimO (e:E):Prop:=∀ {vs:List Expr}{pos:Pos}{A:Around}{env:Env}{σ:St}{P:Addr->Prop}{s:Shared}{Q:Value->Shared->Prop}{Er:Value->Shared->Prop},
 okO' env.scope.names e vs=true->Cx fns k A P s.heap env σ->((ev C e σ).bind λr=>al r.1)≠.bad ->
 (∀ b,((ev C e σ).bind λr=>al r.1) = .ok b->∀ s',Kp s s'->Q (.bool b) s')->(∀ c,ev C e σ = .exc c->∀ x s',XP c s x s'->Er x s') ->
 wpAny (model prog w) A (boolOp pos .Or (evalEach vs env)) Q Er s
noncomputable def SimTO (e:E):Prop:=∀ {vs:List Expr}{A:Around}{env:Env}{σ:St}{P:Addr->Prop}{s:Shared}{Q:Bool->Shared->Prop}{Er:Value->Shared->Prop},
 okO' env.scope.names e vs=true->Cx fns k A P s.heap env σ->((ev C e σ).bind λr=>al r.1)≠.bad ->
 (∀ b,((ev C e σ).bind λr=>al r.1) = .ok b->∀ s',Kp s s'->Q b s')->(∀ c,ev C e σ = .exc c->∀ x s',XP c s x s'->Er x s') ->
 wpAny (model prog w) A (allTrue .Or vs env) Q Er s
end
section
variable {fns:Fns}{k:Nat}{C:Calls}{XP:String->Shared->Value->Shared->Prop}
theorem xq (E:EP P s r v s') (h:al r.1 = .ok t):v = .bool t/\Kp s s':=by
 obtain ⟨x,m⟩:=r
 dsimp only at h
 unfold al at h
 split at h
 ·injection h
  obtain ⟨k,as,g,_⟩:=E
  refine ab (g) λi _=>?_
  clear g
  cases i
  exact ⟨rfl,k⟩
 ·exact nB h
theorem mM:al v≠.exc c:=by unfold al; split<;>simp
theorem sT (S:SimE fns k C XP e) {ex:Expr}
  (ok:okE env.scope.names e ex=true) (X:Cx fns k A P s.heap env σ) (nb:((ev C e σ).bind λr=>al r.1)≠.bad)
  (hQ:∀ b,((ev C e σ).bind λr=>al r.1) = .ok b->∀ s',Kp s s'->Q (.bool b) s') (hE:∀ c,ev C e σ = .exc c->∀ x s',XP c s x s'->Er x s'):wpAny (model prog w) A (eval ex env) Q Er s:=by
 refine aM nb λj i=>?_
 refine S ok X j (λr h v s' E=>?_) hE
 cases ht:al r.1 with
 | bad=>exact absurd ht (i r h)
 | exc c=>exact absurd ht mM
 | ok t=>
  refine ab (xq E ht) λg l=>?_
  (clear E; subst g)
  exact hQ t (by rw[h]; exact ht) s' l
theorem k8 {M:Model}{A:Around}{pos:Pos}{op:BoolOp}{x:Sem Value}{Q:Value->Shared->Prop}{E:Value->Shared->Prop}{s:Shared}(h:wpAny M A x Q E s):wpAny M A (boolOp pos op [x]) Q E s:=h
theorem sa {M:Model}{A:Around}{pos:Pos}{x y:Sem Value}{r:List (Sem Value)}{Q:Value->Shared->Prop}{E:Value->Shared->Prop}{s:Shared}
  (h:wpAny M A x (λv s₁=>wpAny M A (truthy v) (λt j=>if t then wpAny M A (boolOp pos .And (y::r)) Q E j else Q v j) E s₁) E s):wpAny M A (boolOp pos .And (x::y::r)) Q E s:=by
 rw[boolOp]
 ·refine wpAny_bind (wpAny_mono h (λv s₁ i=>wpAny_bind (wpAny_standAt (wpAny_bind (wpAny_holding (wpAny_mono i (λt j g=>?_) λuu uu e=>e))))) λuu uu e=>e)
  cases t with
  | false=>exact wpAny_pure g
  | true=>exact g
 ·simp
theorem vq {M:Model}{A:Around}{pos:Pos}{x y:Sem Value}{r:List (Sem Value)}{Q:Value->Shared->Prop}{E:Value->Shared->Prop}{s:Shared}
  (h:wpAny M A x (λv s₁=>wpAny M A (truthy v) (λt j=>if t then Q v j else wpAny M A (boolOp pos .Or (y::r)) Q E j) E s₁) E s):wpAny M A (boolOp pos .Or (x::y::r)) Q E s:=by
 rw[boolOp]
 ·refine wpAny_bind (wpAny_mono h (λv s₁ i=>wpAny_bind (wpAny_standAt (wpAny_bind (wpAny_holding (wpAny_mono i (λt j g=>?_) λuu uu e=>e))))) λuu uu e=>e)
  cases t with
  | false=>exact g
  | true=>exact wpAny_pure g
 ·simp
theorem okA'_inv (h:okA' ns b vs=true):(∃ u,vs=[u]/\okE ns b u=true)\/okA ns b vs=true:=by
 unfold okA' at h
 cases e:bR vs with
 | some u=>rw[e] at h; exact .inl (ag u (be e) h)
 | none=>rw[e] at h; exact .inr h
theorem okA'_ne (h:okA' ns b vs=true):∃ y r,vs=y::r:=by
 cases vs with
 | nil=>cases b<;>exact Bool.noConfusion (show false=true from h)
 | cons y r=>exact (bG y r rfl)
theorem okO'_inv (h:okO' ns b vs=true):(∃ u,vs=[u]/\okE ns b u=true)\/okO ns b vs=true:=by
 unfold okO' at h
 cases e:bR vs with
 | some u=>rw[e] at h; exact .inl (ag u (be e) h)
 | none=>rw[e] at h; exact .inr h
theorem okO'_ne (h:okO' ns b vs=true):∃ y r,vs=y::r:=by
 cases vs with
 | nil=>cases b<;>exact Bool.noConfusion (show false=true from h)
 | cons y r=>exact (bG y r rfl)
theorem mZ (a b:E) (σ:St):((ev C (.and a b) σ).bind λr=>al r.1)=((ev C a σ).bind λr=>al r.1).bind λt=>if t then (ev C b σ).bind λr=>al r.1 else .ok false:=by
 simp only[dm]
 cases ev C a σ with
 | ok r=>
  simp only[Out.ok_bind]
  cases al r.1 with
  | ok t=>
   cases t with
   | false=>rfl
   | true=>
    simp only[Out.ok_bind,if_true]
    cases ev C b σ with
    | ok q=>simp only[Out.ok_bind]; cases al q.1<;>rfl
    | exc c=>rfl
    | bad=>rfl
  | exc c=>rfl
  | bad=>rfl
 | exc c=>rfl
 | bad=>rfl
theorem pR (a b:E) (σ:St):((ev C (.or a b) σ).bind λr=>al r.1)=((ev C a σ).bind λr=>al r.1).bind λt=>if t then .ok true else (ev C b σ).bind λr=>al r.1:=by
 simp only[eF]
 cases ev C a σ with
 | ok r=>
  simp only[Out.ok_bind]
  cases al r.1 with
  | ok t=>
   cases t with
   | true=>rfl
   | false=>
    simp only[Out.ok_bind,false_eq_true,if_false]
    cases ev C b σ with
    | ok q=>simp only[Out.ok_bind]; cases al q.1<;>rfl
    | exc c=>rfl
    | bad=>rfl
  | exc c=>rfl
  | bad=>rfl
 | exc c=>rfl
 | bad=>rfl
theorem rV (h:ev C (.and a b) σ = .ok r):∃ t,r=sB t:=by
 simp only[dm] at h
 refine Out.bind_k h λx _ h=>?_
 refine Out.bind_k h λt _ h=>?_
 cases t with
 | false=>exact ⟨false,by simpa using h.symm⟩
 | true=>
  simp only[if_true] at h
  refine Out.bind_k h λy _ h=>?_
  refine Out.bind_k h λu _ h=>?_
  injection h; exact ⟨u,rfl⟩
theorem uR (h:ev C (.or a b) σ = .ok r):∃ t,r=sB t:=by
 simp only[eF] at h
 refine Out.bind_k h λx _ h=>?_
 refine Out.bind_k h λt _ h=>?_
 cases t with
 | true=>exact ⟨true,by simpa using h.symm⟩
 | false=>
  simp only[false_eq_true,if_false] at h
  refine Out.bind_k h λy _ h=>?_
  refine Out.bind_k h λu _ h=>?_
  injection h; exact ⟨u,rfl⟩
theorem dl {o:Out (V×Mode)}{c:String}(h:(o.bind λr=>al r.1) = .exc c):o = .exc c:=by
 rcases k6 h with h | ⟨_,_,h⟩
 ·exact h
 ·exact absurd h mM
section
variable (hXP:∀ c s s₁ x s',Kp s s₁->XP c s₁ x s'->XP c s x s')
include hXP
theorem BW (Sa:SimE fns k C XP a) (Ab:SimA fns k C XP b)
  (oa:okE env.scope.names a v=true) (ob:okA' env.scope.names b vs=true) (X:Cx fns k A P s.heap env σ) (nb:((ev C (.and a b) σ).bind λr=>al r.1)≠.bad)
  (hQ:∀ t,((ev C (.and a b) σ).bind λr=>al r.1) = .ok t->∀ s',Kp s s'->Q (.bool t) s') (hE:∀ c,ev C (.and a b) σ = .exc c->∀ x s',XP c s x s'->Er x s') :
  wpAny (model prog w) A (boolOp pos .And (evalEach (v::vs) env)) Q Er s:=by
 refine aY (okA'_ne ob) λy r o=>?_
 subst o
 have j:∀ c,((ev C (.and a b) σ).bind λr=>al r.1) = .exc c->∀ x s',XP c s x s'->Er x s':=λc h=>hE c (dl h)
 rw[mZ] at nb hQ j
 refine aM nb λn1 z=>?_
 refine sa (sT Sa oa X n1 (λt n i g=>wpAny_truthy_bool ?_) λc q=>j c (by rw[q]; rfl))
 cases t with
 | false=>exact hQ false (by rw[n]; rfl) i g
 | true=>
  have u:=z true n
  simp only[if_true] at u ⊢
  refine Ab ob (X.k g.k) u (λt p l m=>hQ t (by rw[n]; simpa using p) l (g.trans m)) λc q x s' hx=>j c (by rw[n]; simp[q]) x s' (hXP c s i x s' g hx)
theorem orL (Sa:SimE fns k C XP a) (Ab:SimO fns k C XP b)
  (oa:okE env.scope.names a v=true) (ob:okO' env.scope.names b vs=true) (X:Cx fns k A P s.heap env σ) (nb:((ev C (.or a b) σ).bind λr=>al r.1)≠.bad)
  (hQ:∀ t,((ev C (.or a b) σ).bind λr=>al r.1) = .ok t->∀ s',Kp s s'->Q (.bool t) s') (hE:∀ c,ev C (.or a b) σ = .exc c->∀ x s',XP c s x s'->Er x s') :
  wpAny (model prog w) A (boolOp pos .Or (evalEach (v::vs) env)) Q Er s:=by
 refine aY (okO'_ne ob) λy r o=>?_
 subst o
 have j:∀ c,((ev C (.or a b) σ).bind λr=>al r.1) = .exc c->∀ x s',XP c s x s'->Er x s':=λc h=>hE c (dl h)
 rw[pR] at nb hQ j
 refine aM nb λn1 z=>?_
 refine vq (sT Sa oa X n1 (λt n i g=>wpAny_truthy_bool ?_) λc q=>j c (by rw[q]; rfl))
 cases t with
 | true=>exact hQ true (by rw[n]; rfl) i g
 | false=>
  have u:=z false n
  simp only[false_eq_true,if_false] at u ⊢
  refine Ab ob (X.k g.k) u (λt p l m=>hQ t (by rw[n]; simpa using p) l (g.trans m)) λc q x s' hx=>j c (by rw[n]; simp[q]) x s' (hXP c s i x s' g hx)
theorem yE (Sa:SimT fns k C XP a) (Ab:SimTA fns k C XP b)
  (oa:okE env.scope.names a v=true) (ob:okA' env.scope.names b vs=true) (X:Cx fns k A P s.heap env σ) (nb:((ev C (.and a b) σ).bind λr=>al r.1)≠.bad)
  (hQ:∀ t,((ev C (.and a b) σ).bind λr=>al r.1) = .ok t->∀ s',Kp s s'->Q t s') (hE:∀ c,ev C (.and a b) σ = .exc c->∀ x s',XP c s x s'->Er x s') :
  wpAny (model prog w) A (allTrue .And (v::vs) env) Q Er s:=by
 have j:∀ c,((ev C (.and a b) σ).bind λr=>al r.1) = .exc c->∀ x s',XP c s x s'->Er x s':=λc h=>hE c (dl h)
 rw[mZ] at nb hQ j
 refine aM nb λy u=>?_
 refine wpAny_allTrue_And_cons (Sa oa X y (λt n i g=>?_) λc p=>j c (by rw[p]; rfl))
 cases t with
 | false=>exact hQ false (by rw[n]; rfl) i g
 | true=>
  have q:=u true n
  simp only[if_true] at q ⊢
  refine Ab ob (X.k g.k) q (λt o l m=>hQ t (by rw[n]; simpa using o) l (g.trans m)) λc p x s' z=>j c (by rw[n]; simp[p]) x s' (hXP c s i x s' g z)
theorem Bw (Sa:SimT fns k C XP a) (Ab:SimTO fns k C XP b)
  (oa:okE env.scope.names a v=true) (ob:okO' env.scope.names b vs=true) (X:Cx fns k A P s.heap env σ) (nb:((ev C (.or a b) σ).bind λr=>al r.1)≠.bad)
  (hQ:∀ t,((ev C (.or a b) σ).bind λr=>al r.1) = .ok t->∀ s',Kp s s'->Q t s') (hE:∀ c,ev C (.or a b) σ = .exc c->∀ x s',XP c s x s'->Er x s') :
  wpAny (model prog w) A (allTrue .Or (v::vs) env) Q Er s:=by
 have j:∀ c,((ev C (.or a b) σ).bind λr=>al r.1) = .exc c->∀ x s',XP c s x s'->Er x s':=λc h=>hE c (dl h)
 rw[pR] at nb hQ j
 refine aM nb λy u=>?_
 refine wpAny_allTrue_Or_cons (Sa oa X y (λt n i g=>?_) λc p=>j c (by rw[p]; rfl))
 cases t with
 | true=>exact hQ true (by rw[n]; rfl) i g
 | false=>
  have q:=u false n
  simp only[false_eq_true,if_false] at q ⊢
  refine Ab ob (X.k g.k) q (λt o l m=>hQ t (by rw[n]; simpa using o) l (g.trans m)) λc p x s' z=>j c (by rw[n]; simp[p]) x s' (hXP c s i x s' g z)
theorem rB {ex:Expr}(h:okE ns (.and a b) ex=true):∃ v vs p,ex = .BoolOp .And (v::vs) p/\okE ns a v=true/\okA' ns b vs=true:=by
 replace h:=Gc h
 revert h; refine λg=>Or.elim g (λi=>?_) (λh=>?_)
 ·clear g
  refine bz (i) λm l k j h=>?_
  clear i
  subst j
  simp only[and_eq_true] at h
  exact (cT _ _ _ rfl h.1 h.2)
 ·cases h
theorem vP {ex:Expr}(h:okE ns (.or a b) ex=true):∃ v vs p,ex = .BoolOp .Or (v::vs) p/\okE ns a v=true/\okO' ns b vs=true:=by
 replace h:=J2 h
 revert h; refine λg=>Or.elim g (λi=>?_) (λh=>?_)
 ·clear g
  refine bz (i) λm l k j h=>?_
  clear i
  subst j
  simp only[and_eq_true] at h
  exact (cT _ _ _ rfl h.1 h.2)
 ·cases h
theorem A6 (Sa:SimE fns k C XP a) (Ab:SimA fns k C XP b):SimE fns k C XP (.and a b):=by
 intro ex A env m P s Q Er ok X y hQ hE
 refine aX (rB hXP ok) λv vs p j x q=>?_
 (clear ok; subst j)
 rw[arm_eval_BoolOp]
 refine BW hXP Sa Ab x q X (λh=>?_) (λt g n z=>?_) hE
 ·cases e:ev C (.and a b) m with
  | ok r=>rw[e] at h; obtain ⟨t,rfl⟩:=rV e; cases h
  | exc c=>rw[e] at h; cases h
  | bad=>exact y e
 ·refine Out.bind_k g λr l g=>?_
  refine ah (rV l) λu i=>?_
  subst i
  injection g
  exact hQ _ l _ n (.bool z)
theorem BR (Sa:SimE fns k C XP a) (Ab:SimO fns k C XP b):SimE fns k C XP (.or a b):=by
 intro ex A env m P s Q Er ok X y hQ hE
 refine aX (vP hXP ok) λv vs p j x q=>?_
 (clear ok; subst j)
 rw[arm_eval_BoolOp]
 refine orL hXP Sa Ab x q X (λh=>?_) (λt g n z=>?_) hE
 ·cases e:ev C (.or a b) m with
  | ok r=>rw[e] at h; obtain ⟨t,rfl⟩:=uR e; cases h
  | exc c=>rw[e] at h; cases h
  | bad=>exact y e
 ·refine Out.bind_k g λr l g=>?_
  refine ah (uR l) λu i=>?_
  subst i
  injection g
  exact hQ _ l _ n (.bool z)
theorem wE (Sa:SimT fns k C XP a) (Ab:SimTA fns k C XP b):SimT fns k C XP (.and a b):=by
 intro ex A o q P s Q Er h X l m n
 refine aX (rB hXP h) λv r p g j i=>?_
 (clear h; subst g)
 exact wpAny_isTrue_BoolOp (yE hXP Sa Ab j i X l m n)
theorem Ao (Sa:SimT fns k C XP a) (Ab:SimTO fns k C XP b):SimT fns k C XP (.or a b):=by
 intro ex A o q P s Q Er h X l m n
 refine aX (vP hXP h) λv r p g j i=>?_
 (clear h; subst g)
 exact wpAny_isTrue_BoolOp (Bw hXP Sa Ab j i X l m n)
end
theorem kK (S:SimE fns k C XP e) (h:∀ {vs:List Expr}{pos:Pos}{A:Around}{env:Env}{σ:St}{P:Addr->Prop}{s:Shared}{Q:Value->Shared->Prop}{Er:Value->Shared->Prop},
  okA env.scope.names e vs=true->Cx fns k A P s.heap env σ->((ev C e σ).bind λr=>al r.1)≠.bad ->
  (∀ b,((ev C e σ).bind λr=>al r.1) = .ok b->∀ s',Kp s s'->Q (.bool b) s')->(∀ c,ev C e σ = .exc c->∀ x s',XP c s x s'->Er x s')->wpAny (model prog w) A (boolOp pos .And (evalEach vs env)) Q Er s):SimA fns k C XP e:=by
 intro vs pos A env σ P s Q Er ok X m n o
 replace ok:=okA'_inv ok
 revert ok; refine λg=>Or.elim g (λi=>?_) (λok=>?_)
 ·clear g
  refine ae (i) λl j ok=>?_
  clear i
  subst j
  exact k8 (sT S ok X m n o)
 ·exact h ok X m n o
theorem kF (S:SimE fns k C XP e) (h:∀ {vs:List Expr}{pos:Pos}{A:Around}{env:Env}{σ:St}{P:Addr->Prop}{s:Shared}{Q:Value->Shared->Prop}{Er:Value->Shared->Prop},
  okO env.scope.names e vs=true->Cx fns k A P s.heap env σ->((ev C e σ).bind λr=>al r.1)≠.bad ->
  (∀ b,((ev C e σ).bind λr=>al r.1) = .ok b->∀ s',Kp s s'->Q (.bool b) s')->(∀ c,ev C e σ = .exc c->∀ x s',XP c s x s'->Er x s')->wpAny (model prog w) A (boolOp pos .Or (evalEach vs env)) Q Er s):SimO fns k C XP e:=by
 intro vs pos A env σ P s Q Er ok X m n o
 replace ok:=okO'_inv ok
 revert ok; refine λg=>Or.elim g (λi=>?_) (λok=>?_)
 ·clear g
  refine ae (i) λl j ok=>?_
  clear i
  subst j
  exact k8 (sT S ok X m n o)
 ·exact h ok X m n o
theorem jv (S:SimT fns k C XP e) (h:∀ {vs:List Expr}{A:Around}{env:Env}{σ:St}{P:Addr->Prop}{s:Shared}{Q:Bool->Shared->Prop}{Er:Value->Shared->Prop},
  okA env.scope.names e vs=true->Cx fns k A P s.heap env σ->((ev C e σ).bind λr=>al r.1)≠.bad ->
  (∀ b,((ev C e σ).bind λr=>al r.1) = .ok b->∀ s',Kp s s'->Q b s')->(∀ c,ev C e σ = .exc c->∀ x s',XP c s x s'->Er x s')->wpAny (model prog w) A (allTrue .And vs env) Q Er s):SimTA fns k C XP e:=by
 intro vs A env σ P s Q Er ok X n m q
 replace ok:=okA'_inv ok
 revert ok; refine λg=>Or.elim g (λi=>?_) (λok=>?_)
 ·clear g
  refine ae (i) λl j ok=>?_
  clear i
  subst j
  refine wpAny_allTrue_And_cons (S ok X n (λt p s' o=>?_) q)
  cases t with
  | false=>exact m _ p s' o
  | true=>exact wpAny_allTrue_And_nil (m _ p s' o)
 ·exact h ok X n m q
theorem ji (S:SimT fns k C XP e) (h:∀ {vs:List Expr}{A:Around}{env:Env}{σ:St}{P:Addr->Prop}{s:Shared}{Q:Bool->Shared->Prop}{Er:Value->Shared->Prop},
  okO env.scope.names e vs=true->Cx fns k A P s.heap env σ->((ev C e σ).bind λr=>al r.1)≠.bad ->
  (∀ b,((ev C e σ).bind λr=>al r.1) = .ok b->∀ s',Kp s s'->Q b s')->(∀ c,ev C e σ = .exc c->∀ x s',XP c s x s'->Er x s')->wpAny (model prog w) A (allTrue .Or vs env) Q Er s):SimTO fns k C XP e:=by
 intro vs A env σ P s Q Er ok X n m q
 replace ok:=okO'_inv ok
 revert ok; refine λg=>Or.elim g (λi=>?_) (λok=>?_)
 ·clear g
  refine ae (i) λl j ok=>?_
  clear i
  subst j
  refine wpAny_allTrue_Or_cons (S ok X n (λt p s' o=>?_) q)
  cases t with
  | false=>exact wpAny_allTrue_Or_nil (m _ p s' o)
  | true=>exact m _ p s' o
 ·exact h ok X n m q
end
section
theorem EP.aList (kp:Kp s s') (hn:s.heap.get? a=none)
  (ha:s'.heap.get? a=some ⟨.type "list", none,.seq vs.toArray n,#[]⟩) (r:RA s'.heap vs xs as) (hl:xs.length<=2^22) (hz:∀ x∈xs,sz x=true) (hP:∀ b∈as,P b/\b≠a) :
  EP P s (.d (.list xs),fresh xs) (.ref a) s':=by
 refine ⟨kp,a::as,⟨.list ha r,sz_list.mpr ⟨hl,hz⟩⟩,?_,?_,?_⟩
 ·intro b h
  rcases mem_cons.mp h with rfl | h
  ·exact .inr hn
  ·exact .inl (hP b h).1
 ·intro _
  exact (bJ _ _ rfl hn (λh=>(hP a h).2 rfl))
 ·intro i
  have g:xs.all sx=true:=by
   unfold fresh at i; dsimp only at i; split at i
   ·assumption
   ·cases i
  rw[r.sx_nil g]
  refine ⟨λb h=>?_,by simp⟩
  rcases mem_cons.mp h with rfl | h
  ·exact hn
  ·cases h
theorem R.isList (r:R h v (.list xs) as):∃ a vs n bs,v = .ref a/\h.get? a=some ⟨.type "list", Option.none,.seq vs.toArray n,#[]⟩/\RA h vs xs bs/\as=a::bs:=by
 cases r with
 | list e r=>exact (iE _ _ _ _ rfl e r rfl)
theorem R.isList_k {h:Heap}{v:Value}{xs:List PyData}{as:List Addr}{G:Prop}(r:R h v (.list xs) as) (k:∀ a vs n bs,v = .ref a->h.get? a=some ⟨.type "list", Option.none,.seq vs.toArray n,#[]⟩->RA h vs xs bs->as=a::bs->G):G:=fP (R.isList r) k
theorem R.isTup (r:R h v (.tuple xs) as):∃ a vs n,v = .ref a/\h.get? a=some ⟨.type "tuple", Option.none,.seq vs.toArray n,#[]⟩/\RA h vs xs as:=by
 cases r with
 | tuple e r=>exact (cT _ _ _ rfl e r)
theorem isL {h:Heap}{a:Addr}{vs:List Value}{n:Nat}(e:h.get? a=some ⟨.type "list", none,.seq vs.toArray n,#[]⟩):h.IsList a vs.toArray:=(aL _ e rfl (b0 n rfl))
theorem uf:okE ns e (.Slice a b c p)=false:=by cases e<;>rfl
theorem qW:okE ns e (.Starred a p)=false:=by cases e<;>rfl
theorem j7 (h:okE ns e x=true) (o i:Value):subscripted x false o i=operate [o,i] (getItem o i):=by
 cases x<;>first | rfl | (rw[uf] at h; cases h)
theorem aT (h:okE ns e x=true) (rest:List Expr) (env:Env):starEach (x::rest) env=(false,eval x env)::starEach rest env:=by
 cases x<;>first | rfl | (rw[qW] at h; cases h)
section
theorem Ed (r:R s.heap v y bs) (z:sz y=true) (h:∀ b∈bs,P b):EP P s (mk (.d y)) v s:=sQ (x:=.d y) ⟨r,z⟩ h
def Fh (h:Heap) (v:Value) (i:Int) (u:Value):Prop:=∃ (a:Addr) (T:String) (vs:List Value) (n k:Nat),v = .ref a/\h.get? a=some ⟨.type T,none,.seq vs.toArray n,#[]⟩/\bH i vs.length=some k/\vs[k]? = some u
theorem gf (h:bH i n=some k):(0<=i/\i<n/\k=i.toNat)\/(i<0/\-(n:Int)<=i/\k=(i+n).toNat):=by
 unfold bH at h
 by_cases h0:0<=i
 ·rw[if_pos h0] at h
  by_cases h1:i<n
  ·rw[if_pos h1] at h; exact .inl ⟨h0,h1,(Option.some.inj h).symm⟩
  ·rw[if_neg h1] at h; exact nN h
 ·rw[if_neg h0] at h
  by_cases h1:-(n:Int)<=i
  ·rw[if_pos h1] at h; exact .inr ⟨by exact GS h0,h1,(Option.some.inj h).symm⟩
  ·rw[if_neg h1] at h; exact nN h
theorem xZ {value slice:Expr}{a:Addr}{vs:List Value}{n k:Nat}{i:Int}{t:Tok}{v:Value}(hs:∀ o i,subscripted slice false o i=operate [o,i] (getItem o i)) (ea:s.heap.get? a=some ⟨.type "list", none,.seq vs.toArray n,#[]⟩) (hl:vs.length<=2^22)
  (hk:bH i vs.length=some k) (hv:vs[k]? = some v) (hQ:Q v s):wpAny (model prog w) A (subscriptTail value slice (.ref a) (.int i t)) Q Er s:=by
 rcases gf hk with ⟨h0,h1,rfl⟩ | ⟨h0,h1,rfl⟩
 ·exact tail_any (isL ea).typeIs slot_list_getitem.lookup (wpAny_getItem_list (isL ea) h0 (Ep hl h1) (by simpa using hv) hQ) (hs _ _)
 ·refine tail_any (isL ea).typeIs slot_list_getitem.lookup (wpAny_getItem_list_neg (isL ea) h0 (by rw[size_toArray]; exact h1) (Di hl h1) ?_ hQ) (hs _ _)
  rw[size_toArray]
  simpa using hv
theorem Au {value slice:Expr}{a:Addr}{vs:List Value}{n k:Nat}{i:Int}{t:Tok}{v:Value}(hs:∀ o i,subscripted slice false o i=operate [o,i] (getItem o i)) (ea:s.heap.get? a=some ⟨.type "tuple", none,.seq vs.toArray n,#[]⟩) (hl:vs.length<=2^22)
  (hk:bH i vs.length=some k) (hv:vs[k]? = some v) (hQ:Q v s):wpAny (model prog w) A (subscriptTail value slice (.ref a) (.int i t)) Q Er s:=by
 have h:seqIndex? i (vs.toArray).size=some k:=by
  rw[size_toArray]
  rcases gf hk with ⟨h0,h1,rfl⟩ | ⟨h0,h1,rfl⟩
  ·have j:¬ i<0:=by exact yN h0
   simp[seqIndex?,j,h0,h1]
  ·exact seqIndex_neg h0 h1
 have g:-(2^22)<=i/\i<2^22:=by rcases gf hk with ⟨h0,h1,_⟩ | ⟨h0,h1,_⟩<;>lia
 exact tail_any (ag _ ea rfl) slot_tuple_getitem.lookup (PySem.P.getItem_tuple ea (GK g) (Ev g) h (by simpa using hv) hQ) (hs _ _)
theorem wV (hs:∀ o i,subscripted slice false o i=operate [o,i] (getItem o i)) (he:elem x i=some y) (ra:R s.heap va x as) (za:sz x=true)
  (hQ:∀ v ds,Fh s.heap va i v->R s.heap v y ds->sz y=true->(∀ b∈ds,b∈as)->Q v s):wpAny (model prog w) A (subscriptTail value slice va (.int i t)) Q Er s:=by
 unfold elem at he
 cases hx:asL x with
 | some xs=>
  rw[hx] at he
  cases cI hx
  refine bj he λk hk j=>?_
  refine ra.isList_k λa p n cs z m g u=>?_
  (clear ra; subst z)
  subst u
  refine aA (g.get j) λv ds l q hd=>?_
  have h:=sz_list.mp za
  have hl:=g.length
  rw[<- hl] at hk h
  exact xZ hs m h.1 hk l (hQ v ds (lJ a _ p n k rfl m hk l) q (h.2 y (mem_of_getElem? j)) λb hb=>.tail _ (hd b hb))
 | none=>
  rw[hx] at he
  cases ht:asT x with
  | none=>rw[ht] at he; exact nN he
  | some xs=>
   rw[ht] at he
   cases mf ht
   refine bj he λk hk j=>?_
   refine aX (ra.isTup) λa p n r m g=>?_
   (clear ra; subst r)
   refine aA (g.get j) λv ds l q hd=>?_
   have h:=sz_tuple.mp za
   have hl:=g.length
   rw[<- hl] at hk h
   exact Au hs m h.1 hk l (hQ v ds (lJ a _ p n k rfl m hk l) q (h.2 y (mem_of_getElem? j)) hd)
theorem wj (hs:∀ o i,subscripted slice false o i=operate [o,i] (getItem o i)) (he:fg x i = .ok r) (ra:R s.heap va x as) (za:sz x=true) (rb:R s.heap vb i bs) (ha:∀ a∈as,P a)
  (hQ:∀ v s',EP P s r v s'->Q v s'):wpAny (model prog w) A (subscriptTail value slice va vb) Q Er s:=by
 refine dE he λk hk he=>?_
 refine dE he λy m he=>?_
 injection he
 cases cV hk
 refine rb.isInt_k λuu h g=>?_
 (clear rb; subst h)
 subst g
 exact wV hs m ra za λv q _ j z n=>hQ v s (Ed j z λb p=>ha b (n b p))
end
theorem wU:fg x y≠.exc c:=rH c
theorem l9 (hXP:∀ c s s₁ x s',Kp s s₁->XP c s₁ x s'->XP c s x s') {a b:E}(Sa:SimE fns k C XP a) (Sb:SimE fns k C XP b):SimE fns k C XP (.sub a b):=by
 intro ex A env σ P s Q Er g X q t u
 replace g:=Iv g
 revert g; refine λh=>Or.elim h (λi=>?_) (λg=>?_)
 ·clear h
  refine bz (i) λn m l j g=>?_
  clear i
  subst j
  simp only[and_eq_true] at g
  simp only[d6] at q t u
  refine Subscript_ (oH hXP Sa Sb (f:=λx y=>match x,y with | .d x,.d y=>fg x y | _,_=>.bad) g.1 g.2 X q u (λx y c=>?_) λx y r hr hf va vb o as bs kp p z ha hb=>?_)
  ·split
   ·exact wU
   ·simp
  ·split at hf
   ·exact wj (j7 g.2) hf p.1 p.2 z.1 ha λv s' e=>t r hr v s' (.shift kp e)
   ·exact nB hf
 ·cases g
section
end
end
section
variable (fns:Fns) (k:Nat) (C:Calls) (XP:String->Shared->Value->Shared->Prop)
noncomputable def eH (es:Es):Prop:=∀ {xs:List Expr}{pos:Pos}{A:Around}{env:Env}{σ:St}{P:Addr->Prop}{s:Shared}{Q:List Value->Shared->Prop}{Er:Value->Shared->Prop},
 c8 env.scope.names es xs=true->Cx fns k A P s.heap env σ->evs C es σ≠.bad ->
 (∀ l,evs C es σ = .ok l->∀ vs s',EPs P s l vs s'->Q vs s')->(∀ c,evs C es σ = .exc c->∀ x s',XP c s x s'->Er x s') ->
 wpAny (model prog w) A (spliced (backTo pos (starEach xs env))) Q Er s
end
section
variable {fns:Fns}{k:Nat}{C:Calls}{XP:String->Shared->Value->Shared->Prop}
theorem jr:eH fns k C XP .nil:=by
 intro q m A o p P s Q Er l X r n t
 replace l:=sV l
 revert l; refine λg=>Or.elim g (λi=>?_) (λl=>?_)
 ·clear g
  refine ab (i) λj l=>?_
  clear i
  subst j
  exact wpAny_items_nil (n [] rfl [] s ⟨.refl s,[],.nil,λuu h=>(nomatch h),λuu=>⟨λuu h=>(nomatch h),.nil⟩⟩)
 ·cases l
theorem RV.there (r:RV h v x as):∀ a∈as,∃ o,h.get? a=some o:=by
 intro a ha
 cases x with
 | d x=>obtain ⟨_,_,e⟩:=r.1.there a ha; exact ⟨_,e⟩
 | dic0=>obtain ⟨b,_,rfl,_,⟨o,_,_,e,_⟩,_⟩:=r; rw[mem_singleton.mp ha]; exact ⟨o,e⟩
 | dicI ks=>obtain ⟨b,_,rfl,_,⟨o,_,_,e,_⟩⟩:=r; rw[mem_singleton.mp ha]; exact ⟨o,e⟩
 | dicT ks=>obtain ⟨b,_,_,rfl,_,⟨o,_,_,e,_⟩,_⟩:=r; rw[mem_singleton.mp ha]; exact ⟨o,e⟩
 | rule c d n=>
  refine By (r) λx D o m bs t u p h1 i l h4 h5 z y g k=>?_
  clear r
  subst i
  refine bz (g) λj es ep e q=>?_
  clear g
  rcases mem_cons.mp ha with rfl | ha
  ·exact ⟨o,l⟩
  ·rcases mem_cons.mp ha with rfl | ha
   ·exact ⟨j,e⟩
   ·obtain ⟨_,_,e⟩:=k.2.2.2.2.1.there a ha; exact ⟨_,e⟩
theorem RVs.length (r:RVs h xs vs as):vs.length=xs.length:=by
 induction r with
 | nil=>rfl
 | cons a q ih=>exact congrArg (· + 1) ih
theorem fN (hXP:∀ c s s₁ x s',Kp s s₁->XP c s₁ x s'->XP c s x s') {e:E}{es:Es}(S:SimE fns k C XP e) (Ss:eH fns k C XP es):eH fns k C XP (.cons e es):=by
 intro xs pos A env σ P s Q Er g X nb hQ hE
 replace g:=o9 g
 revert g; refine λi=>Or.elim i (λj=>?_) (λg=>?_)
 ·clear i
  refine aq (j) λx xs m g=>?_
  clear j
  subst m
  simp only[and_eq_true] at g
  simp only[aU] at nb hQ hE
  refine aM nb λn1 n2=>?_
  refine wpAny_items_cons (S g.1 X n1 (λr q v s₁ Ea=>?_) λc y=>hE c (by rw[y]; rfl)) (aT g.1 xs env)
  refine aM (n2 r q) λn3 _=>?_
  refine Ss g.2 (X.k Ea.keeps.k) n3 (λl hl vs n Eb=>?_) λc y z s' hz=>hE c (by rw[q,Out.ok_bind,y]; rfl) z s' (hXP c s s₁ z s' Ea.keeps hz)
  obtain ⟨p,as,ra,ha,_,hd⟩:=Ea
  obtain ⟨kb,bs,rb,hb,u⟩:=Eb
  refine hQ (r::l) (by rw[q,Out.ok_bind,hl]; rfl) (v::vs) n ⟨p.trans kb,as++bs,.cons (ra.k kb.k) rb,λa h=>(mem_append.mp h).elim (ha a) λh=>(hb a h).imp id p.none,λt=>?_⟩
  simp only[allDeep,List.all_cons,and_eq_true,decide_eq_true_eq] at t
  have d1:=hd t.1
  have d2:=u t.2
  refine ⟨λa h=>(mem_append.mp h).elim (d1.1 a) λh=>p.none (d2.1 a h),nodup_append.mpr ⟨d1.2,d2.2,λa h1 b h2 e=>?_⟩⟩
  subst e
  refine ah (ra.there a h1) λo ho=>?_
  rw[d2.1 a h2] at ho; exact nN ho
 ·cases g
theorem pB:∀ {l:List (V×Mode)}{ds:List PyData}{vs:List Value}{as:List Addr},bP l=some ds->RVs h (l.map (·.1)) vs as->RA h vs ds as/\∀ x∈ds,sz x=true
 | [],ds,_,_,e,r=>by
  cases r; simp[bP] at e; subst e
  exact ⟨.nil,λuu h=>nomatch h⟩
 | (.d x,m)::l,ds,_,_,e,r=>by
  simp only[bP,map_eq_some_iff] at e
  revert e; intro g
  refine ae (g) λk e i=>?_
  clear g
  subst i
  cases r with
  | cons r q=>
   refine ab (pB e q) λa b=>?_
   exact ⟨.cons r.1 a,λy j=>(mem_cons.mp j).elim (λq=>q▸r.2) (b y)⟩
 | (.dic0,m)::l,ds,_,_,e,r=>by simp[bP] at e
 | (.dicI _,m)::l,ds,_,_,e,r=>by simp[bP] at e
 | (.dicT _,m)::l,ds,_,_,e,r=>by simp[bP] at e
 | (.rule _ _ _,m)::l,ds,_,_,e,r=>by simp[bP] at e
theorem g9:∀ {l:List (V×Mode)}{ds:List PyData},bP l=some ds->ds.length=l.length
 | [],ds,e=>by simp[bP] at e; subst e; rfl
 | (.d x,m)::l,ds,e=>by
  simp only[bP,map_eq_some_iff] at e
  revert e; intro g
  refine ae (g) λi e h=>?_
  clear g
  subst h
  rw[length_cons,length_cons,g9 e]
 | (.dic0,m)::l,ds,e=>by simp[bP] at e
 | (.dicI _,m)::l,ds,e=>by simp[bP] at e
 | (.dicT _,m)::l,ds,e=>by simp[bP] at e
 | (.rule _ _ _,m)::l,ds,e=>by simp[bP] at e
theorem iR:∀ {es:Es}{ns:List (Str×NameKind)}{xs:List Expr}{σ:St}{l:List (V×Mode)},c8 ns es xs=true->evs C es σ = .ok l->l.length=xs.length
 | .nil,ns,xs,σ,l,ok,e=>by
  replace ok:=sV ok
  revert ok; refine λh=>Or.elim h (λj=>?_) (λok=>?_)
  ·clear h
   refine ab (j) λm ok=>?_
   clear j
   subst m
   simp only[aV] at e; injection e; rfl
  ·cases ok
 | .cons a es,ns,xs,σ,l,ok,e=>by
  replace ok:=o9 ok
  revert ok; refine λg=>Or.elim g (λi=>?_) (λok=>?_)
  ·clear g
   refine aq (i) λo n k ok=>?_
   clear i
   subst k
   simp only[and_eq_true] at ok
   simp only[aU] at e
   refine Out.bind_k e λx _ e=>?_
   refine Out.bind_k e λr q e=>?_
   injection e
   rw[length_cons,length_cons,iR ok.2 q]
  ·cases ok
set_option tactic.hygienic true in
theorem pI {es:Es}(Ss:eH fns k C XP es):SimE fns k C XP (.list es):=by
 intro ex A env σ P s Q Er g X nb hQ hE
 replace g:=B5 g
 revert g; refine λj=>Or.elim j (λm=>?_) (λg=>?_)
 ·clear j
  refine aq (m) λu t o g=>?_
  clear m
  subst o
  simp only[and_eq_true,decide_eq_true_eq] at g
  simp only[bp] at nb hQ hE
  refine aM nb λn1 n2=>?_
  refine wpAny_List (Ss g.2 X n1 (λl x vs i Ea=>?_) λc hc=>hE c (by rw[hc]; rfl))
  have n3:=n2 l x
  split at n3
  ·rename_i ds p
   obtain ⟨q,as,y,ha,hd⟩:=Ea
   refine ab (pB p y) λr z=>?_
   have e1:=y.length
   rw[length_map] at e1
   have e2:=iR g.2 x
   have e3:=g9 p
   refine ⟨by unfold sizeLine; exact ym g e1 e2,hQ (.d (.list ds),if allDeep l then .deep else .top) (by rw[x,Out.ok_bind,p]) _ _ ⟨q.trans (.push i _ _),i.heap.objs.size::as,⟨.list (Heap.get?_push_size _ rfl) (r.keep λuu uu e=>Heap.get?_push_of_some _ e),sz_list.mpr ⟨by exact yu g e2 e3,z⟩⟩,?_,?_,?_⟩⟩
   ·intro a h
    rcases mem_cons.mp h with rfl | h
    ·exact .inr (q.none (bv _))
    ·exact ha a h
   ·intro _
    exact (bJ _ _ rfl (q.none (bv _)) (λh=>aY (r.there _ h) λuu uu e=>fj e rfl))
   ·intro v
    have n:allDeep l=true:=by
     dsimp only at v
     split at v
     ·assumption
     ·cases v
    refine ⟨λa h=>?_,nodup_cons.mpr ⟨λh=>aY (r.there _ h) λuu uu e=>fj e rfl,(hd n).2⟩⟩
    rcases mem_cons.mp h with rfl | h
    ·exact q.none (bv _)
    ·exact (hd n).1 a h
  ·exact absurd rfl n3
 ·cases g
set_option tactic.hygienic true in
theorem rY (Ss:eH fns k C XP es):SimE fns k C XP (.tup es):=by
 intro ex A env σ P s Q Er g X y hQ hE
 replace g:=DM g
 revert g; refine λh=>Or.elim h (λi=>?_) (λg=>?_)
 ·clear h
  refine bz (i) λu t q j g=>?_
  clear i
  subst j
  simp only[and_eq_true,decide_eq_true_eq] at g
  simp only[di] at y hQ hE
  refine aM y λn1 n2=>?_
  refine wpAny_Tuple (Ss g.2 X n1 (λl v vs o Ea=>?_) λc hc=>hE c (by rw[hc]; rfl))
  have n3:=n2 l v
  split at n3
  ·rename_i ds n
   obtain ⟨ka,as,x,ha,hd⟩:=Ea
   refine ab (pB n x) λr z=>?_
   have e1:=x.length
   rw[length_map] at e1
   have e2:=iR g.2 v
   have e3:=g9 n
   refine ⟨by unfold sizeLine; exact ym g e1 e2,hQ (.d (.tuple ds),if allDeep l then .deep else .sh) (by rw[v,Out.ok_bind,n]) _ _ ⟨ka.trans (.push o _ _),as,⟨.tuple (Heap.get?_push_size _ rfl) (r.keep λuu uu e=>Heap.get?_push_of_some _ e),sz_tuple.mpr ⟨by exact yu g e2 e3,z⟩⟩,ha,?_,?_⟩⟩
   ·intro m
    dsimp only at m
    split at m<;>cases m
   ·intro m
    have p:allDeep l=true:=by
     dsimp only at m
     split at m
     ·assumption
     ·cases m
    exact hd p
  ·exact absurd rfl n3
 ·cases g
theorem xT:SimE fns k C XP .edic:=by
 intro ex A p q P s Q Er l X r o t
 replace l:=BV l
 revert l; refine λg=>Or.elim g (λi=>?_) (λl=>?_)
 ·clear g
  refine ae (i) λm j l=>?_
  clear i
  subst j
  have n:=modules_low X.ge.nolim
  refine wpAny_Dict_empty (o (.dic0,.deep) rfl _ _ ⟨.push s _ _,[s.heap.objs.size],(iS _ rfl rfl (beq_eq_false_iff_ne.mpr (ne_of_gt n)) (Heap.DictOf.new _) ?_),λa h=>.inr ?_,λh=>(by cases h),λuu=>⟨λa h=>?_,by simp⟩⟩)
  ·exact (fW _ (#[]) 0 (Heap.get?_push_size _ rfl) ⟨rfl,rfl,rfl⟩ rfl rfl (λuu h=>(nomatch h)) .nil)
  ·rw[mem_singleton.mp h]; exact bv _
  ·rw[mem_singleton.mp h]; exact bv _
 ·cases l
end
theorem gL {α:Type}{r:α->α->Prop}(anti:∀ a b,r a b->r b a->a=b):∀ {l l':List α},l.Perm l'->l.Pairwise r->l'.Pairwise r->l=l'
 | [],l',p,_,_=>by rw[p.nil_eq]
 | a::l,[],p,_,_=>by cases p.eq_nil
 | a::l,b::l',p,h,h'=>by
  refine ab (pairwise_cons.mp h) λk j=>?_
  refine ab (pairwise_cons.mp h') λg i=>?_
  have e:a=b:=by
   rcases mem_cons.mp (p.mem_iff.mp (mem_cons_self (a:=a) (l:=l))) with e | e
   ·exact e
   ·rcases mem_cons.mp (p.mem_iff.mpr (mem_cons_self (a:=b) (l:=l'))) with e' | e'
    ·exact e'.symm
    ·exact anti a b (k b e') (g a e)
  (clear h' g; subst e)
  rw[gL anti ((List.perm_cons a).mp p) j i]
theorem hY (ns:List Int):(ns.mergeSort (λa b=>decide (a<=b))).Pairwise (·<=·):=by
 have:=List.pairwise_mergeSort (le:=λa b:Int=>decide (a<=b)) (λa b c h1 h2=>by simp at *; exact zU h1 h2) (λa b=>by simp; exact zX) ns
 exact this.imp (by intro a b h; simpa using h)
theorem mK:∀ {xs:List Int}{m:Int},eC xs=some m->m∈xs/\∀ x∈xs,x<=m
 | [],_,h=>by simp[eC] at h
 | x::xs,m,h=>by
  simp only[eC,Option.some.injEq] at h
  have key:∀ (l:List Int) (a:Int),(l.foldl (λa b=>if a<b then b else a) a=a\/l.foldl (λa b=>if a<b then b else a) a∈l)/\a<=l.foldl (λa b=>if a<b then b else a) a/\∀ y∈l,y<=l.foldl (λa b=>if a<b then b else a) a:=by
   intro l
   induction l with
   | nil=>intro a; simp
   | cons b l ih=>
    intro a
    rw[foldl_cons]
    refine aI (ih (if a<b then b else a)) λh1 h2 h3=>?_
    refine ⟨?_,?_,λy hy=>?_⟩
    ·rcases h1 with h1 | h1
     ·rw[h1]; split<;>simp
     ·exact .inr (.tail _ h1)
    ·split at h2<;>rename_i hc<;>simp only[hc,if_true,if_false]<;>lia
    ·rcases mem_cons.mp hy with rfl | hy
     ·split at h2<;>rename_i hc<;>simp only[hc,if_true,if_false]<;>lia
     ·exact h3 y hy
  refine aI (key xs x) λh1 h2 h3=>?_
  rw[h] at h1 h2 h3
  exact ⟨h1.elim (λe=>e▸.head _) (.tail _),λy hy=>(mem_cons.mp hy).elim (λe=>e▸h2) (h3 y)⟩
section
theorem iO {env:Env}{x:String}(h:cw env.scope.names x=true):env.kindOf (Str.ofString x)=some .globalImplicit:=by
 unfold cw at h
 exact beq_iff_eq.mp h
theorem nd (h:bf x=true):(Str.ofString x==("__debug__" : Str))=false:=by
 unfold bf at h
 simp only[and_eq_true,Bool.not_eq_true'] at h
 exact h.1
section
theorem gd {id:String}{args:List Expr}(eok:EnvOk env) (ge:GE fns s.heap) (hm:id∈bnames) (hg:cw env.scope.names id=true) (hd:(Str.ofString id==("__debug__" : Str))=false)
  (h:wpAny (model prog w) A (callWith pos (bval id) [] (backTo pos (starEach args env)) []) Q Er s):wpAny (model prog w) A (eval (.Call (.Name (Str.ofString id) p) args [] pos) env) Q Er s:=by
 refine ao (ge.glob) λl i _ g=>?_
 refine ae (ge.blt) λm k j=>?_
 exact wpAny_Call_NameR (Calls.Name_function_global eok.kind (iO hg) (Calls.loadGlobal_builtin (eok.glob▸i) (g id hm) (eok.blt▸k) (j id hm) h) hd)
theorem pq {id:String}{x:Expr}{xs:List Expr}{e:E}(ns:List (Str×NameKind)) (hx:okE ns e x=true) (ha:(backTo pos (starEach xs env)).any (·.1)=false)
  (h:wpAny (model prog w) A (spliced (backTo pos (starEach (x::xs) env))) (λvs s₁=>wpAny (model prog w) A (call (.builtin id) vs) Q Er s₁) Er s):wpAny (model prog w) A (callWith pos (.builtin id) [] (backTo pos (starEach (x::xs) env)) []) Q Er s:=by
 rw[aT hx] at h ⊢
 exact Calls.callWith_builtin ha (Calls.evalArgs_plain (wpAny_mono h (λvs s₁ g=>g) λuu uu e=>e))
theorem gw (ns:List (Str×NameKind)) (hx:okE ns e x=true) (ha:(backTo pos (starEach xs env)).any (·.1)=false)
  (h:wpAny (model prog w) A (spliced (backTo pos (starEach (x::xs) env))) (λvs s₁=>wpAny (model prog w) A (call (.type T) vs) Q Er s₁) Er s):wpAny (model prog w) A (callWith pos (.type T) [] (backTo pos (starEach (x::xs) env)) []) Q Er s:=by
 rw[aT hx] at h ⊢
 exact PySem.callWith_type ha (Calls.evalArgs_plain (wpAny_mono h (λvs s₁ g=>g) λuu uu e=>e))
theorem jq (ns:List (Str×NameKind)) (hx:okE ns e x=true) (h:wpAny (model prog w) A (eval x env) (λv s₁=>G [v] s₁) Er s):wpAny (model prog w) A (spliced (backTo pos (starEach [x] env))) G Er s :=
 wpAny_items_cons (wpAny_mono h (λuu uu g=>wpAny_items_nil g) λuu uu e=>e) (aT hx [] env)
end
section
theorem xp (he:b1D .len x = .ok r) (ra:RV s.heap va x as) (hQ:∀ v s',EP P s r v s'->Q v s'):wpAny (model prog w) A (call (.builtin "len") [va]) Q Er s:=by
 replace he:=aQ he
 revert he; intro i
 refine ae (i) λy z he=>?_
 clear i
 cases cR z
 cases ht:asT y with
 | none=>
  simp only[ht] at he
  replace he:=aQ he
  revert he; intro h
  refine ae (h) λt hx he=>?_
  clear h
  cases cI hx
  injection he
  refine ra.1.isList_k λa u n cs m q g l=>?_
  subst m
  subst l
  have j:=g.length
  have p:=(sz_list.mp ra.2).1
  refine Calls.call_len_list (isL q) (by rw[size_toArray]; exact EE j p) (hQ _ _ ?_)
  rw[size_toArray,j]
  exact .int (.toks s _)
 | some t=>
  simp only[ht] at he
  injection he
  cases mf ht
  refine aX (ra.1.isTup) λa u n k q g=>?_
  subst k
  have j:=g.length
  have p:=(sz_tuple.mp ra.2).1
  refine PySem.P.len_tuple q (by rw[size_toArray]; exact CR j p) (hQ _ _ ?_)
  rw[size_toArray,j]
  exact .int (.toks s _)
theorem mJ (hT:T = "list" \/ T = "tuple") (ea:s.heap.get? a=some ⟨.type T,none,.seq vs.toArray n,#[]⟩) (ra:RA s.heap vs xs cs) (hl:xs.length<=2^22)
  (hz:∀ x∈xs,sz x=true) (ha:∀ b∈cs,P b) (hQ:∀ v s',EP P s (.d (.list xs),fresh xs) v s'->Q v s'):wpAny (model prog w) A (call (.type "list") [.ref a]) Q Er s:=by
 have e:=ra.length
 refine call_list_seq a hT ea rfl rfl (λj l h k=>hQ _ _ ?_) (by rw[size_toArray]; unfold sizeLine; exact FX hl e)
 have g:Kp s {s with heap:=j }:=(ay j s.toks rfl (.of h))
 refine EP.aList g (bv _) k (ra.keep h) hl hz λb i=>⟨ha b i,?_⟩
 refine aY (ra.there b i) λuu uu e=>?_
 exact fj e
theorem xk (ra:R s.heap va (.list xs) as) (za:sz (.list xs)=true) (ha:∀ b∈as,P b) (hQ:∀ v s',EP P s (.d (.tuple xs),if xs.all sx then .deep else .sh) v s'->Q v s'):wpAny (model prog w) A (call (.type "tuple") [va]) Q Er s:=by
 refine ra.isList_k λa t n z l y g k=>?_
 (clear ra; subst l)
 subst k
 have e:=g.length
 have r:=sz_list.mp za
 refine call_tuple_list (isL y) (λx p=>hQ _ _ ?_) (by rw[size_toArray]; unfold sizeLine; exact Jw e r)
 have m:Kp s {s with heap:=x.push {cls:=.type "tuple", data:=.seq t.toArray } }:=(ay _ s.toks rfl (.of λb o q=>Heap.get?_push_of_some _ (p b o q)))
 refine ⟨m,z,⟨.tuple (Heap.get?_push_size _ rfl) ((g.keep p).keep λuu uu e=>Heap.get?_push_of_some _ e),sz_tuple.mpr r⟩,λb u=>.inl (ha b (.tail _ u)),λi=>?_,λi=>?_⟩
 ·dsimp only at i; split at i<;>cases i
 ·have j:xs.all sx=true:=by
   dsimp only at i
   split at i
   ·assumption
   ·cases i
  rw[g.sx_nil j]
  exact ⟨λuu h=>(nomatch h),.nil⟩
theorem tP (ra:R s.heap va (.list xs) as) (hi:aF xs=some ns) (h64:xs.length<64) (hQ:∀ v s',EP P s (.d (aa (ns.mergeSort (λa b=>decide (a<=b)))),.deep) v s'->Q v s') :
  wpAny (model prog w) A (call (.builtin "sorted") [va]) Q Er s:=by
 refine ra.isList_k λa vs n cs m ea i l=>?_
 (clear ra; subst m)
 subst l
 have e:=i.length
 refine aI (i.ints hi) λy k j=>?_
 subst k
 subst j
 rw[length_map] at e h64
 refine sorted_ints (isL ea) y (zc h64 e) λg o z r p=>hQ _ _ ?_
 have e':o=ns.mergeSort (λa b=>decide (a<=b)):=gL (λa b h h'=>Int.le_antisymm h h') (r.trans (mergeSort_perm ns _).symm) p (hY ns)
 (clear r p; subst e')
 refine ah (sortedAll_at s.heap vs g) λe x=>?_
 have u:=List.length_mergeSort (le:=λa b:Int=>decide (a<=b)) ns
 have t:EP P s (.d (.list ((ns.mergeSort (λa b=>decide (a<=b))).map .int)),fresh ((ns.mergeSort (λa b=>decide (a<=b))).map .int)) (.ref (s.heap.objs.size+1)) {s with heap:=sortedAll s.heap vs g } :=
  EP.aList (vs:=g.toList) (n:=e) (as:=[]) (ay _ s.toks rfl (.of λuu uu q=>sortedAll_old q)) (Heap.get?_none_of_le (le_succ _)) (by simpa [seqObj] using x) (RA.of_ints z) (by rw[length_map,u]; exact zM h64) (gv _) λuu h=>(nomatch h)
 have ef:fresh ((ns.mergeSort (λa b=>decide (a<=b))).map .int) = .deep:=by
  unfold fresh
  rw[if_pos]
  rw[all_map,all_eq_true]
  intro _ _; rfl
 rw[ef] at t
 exact t
end
end
section
noncomputable def noIt (c:Value):Bool:=match c with
 | .type n=>!(["code", "enumerate", "zip", "dict_itemiterator", "dict_reverseitemiterator", "odict_iterator", "itertools.zip_longest", "itertools.pairwise"].contains n)
 | _=>true
theorem noIt.code (h:noIt c=true) (e:c = .type "code"):False:=by subst e; revert h; decide
structure ItP (A:Around) (P:Addr->Prop) (s:Shared) (ds:List PyData) (m:Mode) (it:Value) (s':Shared):Prop where
 keeps:Kp s s'
 walk:∃ (I:Addr) (fp wr:List Addr) (Pw:Nat->Value->Prop) (St:Nat->Heap->Prop) (F:List Addr),(it = .ref I/\I∈wr)/\Walks prog w A I fp wr ds.length Pw St/\St 0 s'.heap /\
  (∀ b∈wr,s.heap.get? b=none/\b∉F/\∀ i h,St i h->∃ o,h.get? b=some o/\(hardB o=true/\noIt o.cls=true/\∀ C,o.cls≠.ref C)/\∃ fs,o.data = .fields fs)/\(∀ b∈fp,b∈wr\/b∈F)/\(∀ i v,Pw i v->∀ d,ds[i]? = some d->∃ bs,R s'.heap v d bs/\∀ b∈bs,b∈F) /\
  (∀ b∈F,∃ vs n,s'.heap.get? b=some ⟨.type "list", none,.seq vs n,#[]⟩)/\(∀ a∈F,P a\/s.heap.get? a=none)/\(m = .deep->∀ a∈F,s.heap.get? a=none)
 small:ds.length<=2^22/\∀ d∈ds,sz d=true
variable (fns:Fns) (k:Nat) (C:Calls) (XP:String->Shared->Value->Shared->Prop)
noncomputable def dR (it:It):Prop:=∀ {ex:Expr}{A:Around}{env:Env}{σ:St}{P:Addr->Prop}{s:Shared}{Q:Value->Shared->Prop}{Er:Value->Shared->Prop},
 ez env.scope.names it ex=true->Cx fns k A P s.heap env σ->a0 C it σ≠.bad ->
 (∀ q,a0 C it σ = .ok q->∀ i s',ItP A P s q.1 q.2 i s'->Q i s')->(∀ c,a0 C it σ = .exc c->∀ x s',XP c s x s'->Er x s') ->
 wpAny (model prog w) A (eval ex env) (λx g=>wpAny (model prog w) A (pyIter x) Q Er g) Er s
end
section
theorem vR (k₀:Kp s₀ s) (hh:A.handled=none) (ra:R s.heap va (.list xs) as) (za:sz (.list xs)=true)
  (ha:∀ a∈as,P a\/s₀.heap.get? a=none) (hm:m = .deep->∀ a∈as,s₀.heap.get? a=none) (hQ:∀ it s',ItP A P s₀ xs m it s'->Q it s'):wpAny (model prog w) A (pyIter va) Q Er s:=by
 refine ra.isList_k λa j n cs p x g l=>?_
 subst p
 subst l
 refine wpAny_pyIter_list (isL x) (hQ _ _ ⟨k₀.trans (.push s _ _),⟨s.heap.objs.size,[s.heap.objs.size,a],[s.heap.objs.size],(λi v=>j.toArray[i]? = some v),(λi h=>h.IsListIter s.heap.objs.size a i/\h.IsList a j.toArray),a::cs,⟨rfl,.head _⟩,?_,⟨(aL _ (Heap.get?_push_size _ rfl) rfl rfl),(isL x).push _⟩,?_,?_,?_,?_,ha,hm⟩,sz_list.mp za⟩)
 ·have:=Walks.list (prog:=prog) (w:=w) (A:=A) hh s.heap.objs.size a (fj x) j.toArray
  have e:j.toArray.size=xs.length:=by rw[size_toArray,g.length]
  rw[e] at this
  exact this
 ·intro b hb
  rw[mem_singleton.mp hb]
  refine ⟨k₀.none (bv _),λh=>?_,λi h r=>?_⟩
  ·refine aY (ra.there _ h) λuu uu e=>?_
   exact fj e rfl
  ·refine ao (r.1) λo e1 u e2=>?_
   exact (aL o e1 ⟨by unfold hardB; rw[u]; decide,by rw[u]; decide,λuu q=>by rw[u] at q; cases q⟩ (b0 _ e2))
 ·intro b hb
  rcases mem_cons.mp hb with rfl | hb
  ·exact .inl (.head _)
  ·rw[mem_singleton.mp hb]; exact .inr (.head _)
 ·intro i v hv d hd
  refine aA (g.get' (by simpa using hv)) λd' bs t h2 h3=>?_
  rw[hd] at t; injection t
  exact (ag bs (h2.keep λuu uu e=>Heap.get?_push_of_some _ e) (λb hb=>.tail _ (h3 b hb)))
 ·intro b hb
  refine aY (ra.there b hb) λk z e=>?_
  exact (bG k z (Heap.get?_push_of_some _ e))
theorem r6 {a b:Int}{i:Nat}{d:PyData}(h:(c6 a b)[i]? = some d):d = .int (a+i):=by
 unfold c6 at h
 rw[List.getElem?_map] at h
 refine bw h λj m g=>?_
 subst g
 have:j=i:=by
  have l:=(List.getElem?_eq_some_iff.mp m)
  refine ah (l) λn k=>?_
  clear l
  rw[List.getElem_range] at k
  exact k.symm
 rw[this]
theorem iX (a b:Int):(c6 a b).length=(b-a).toNat:=by simp[c6]
theorem uD (a b:Int):∀ d∈c6 a b,sz d=true:=by
 intro d h
 unfold c6 at h
 refine aG h λj _ g=>?_
 (clear h; subst g)
 rfl
theorem lq (o:Kp s₀ s) (hh:A.handled=none) (hr:IsRange s.heap r a b 1 t u v)
  (hn:(b-a).toNat<=lim) (ha:-(2^60)<=a/\a<2^60/\-(2^60)<=b/\b<2^60) (hQ:∀ it s',ItP A P s₀ (c6 a b) .deep it s'->Q it s'):wpAny (model prog w) A (pyIter (.ref r)) Q Er s:=by
 have g:Builtin.Range.rangeSize a b 1=((b-a).toNat:Int):=by rw[rangeSize_one]; split<;>lia
 refine wpAny_pyIter_range hr (small_one (GY ha) (El ha) (IJ ha) (EF ha)) (hQ _ _ ⟨o.trans (.push s _ _),⟨s.heap.objs.size,[s.heap.objs.size],[s.heap.objs.size],(λi v=>∃ t,v = .int (a+i*1) t),(λi h=>IsRangeIter h s.heap.objs.size (a+(i:Nat)*1) (((b-a).toNat:Int)-(i:Nat)) 1),[],⟨rfl,.head _⟩,?_,?_,?_,λb k=>.inl k,?_,λuu h=>(nomatch h),λuu h=>(nomatch h),λuu uu h=>(nomatch h)⟩,⟨by rw[iX]; unfold lim at hn; exact Hv hn,uD a b⟩⟩)
 ·have:=Walks.range (prog:=prog) (w:=w) (A:=A) hh s.heap.objs.size a 1 (b-a).toNat
  rw[iX]
  exact this
 ·have n:(a+((0:Nat):Int)*1)=a:=by simp
  have m:(((b-a).toNat:Int)-((0:Nat):Int))=Builtin.Range.rangeSize a b 1:=by rw[g]; simp
  show IsRangeIter _ _ (a+((0:Nat):Int)*1) (((b-a).toNat:Int)-((0:Nat):Int)) 1
  rw[n,m]
  exact Heap.get?_push_size _ rfl
 ·intro b k
  rw[mem_singleton.mp k]
  exact ⟨o.none (bv _),λh=>(nomatch h),λi h j=>(aL _ j ⟨rfl,rfl,by simp⟩ (b0 _ rfl))⟩
 ·rintro i v ⟨t,rfl⟩ d l
  rw[r6 l]
  exact (ag ([]) (by simpa using R.int (a+i) t) (λuu h=>(nomatch h)))
set_option tactic.hygienic true in
theorem z4 (hf:fns.hand=false) (Sa:SimE fns k C XP a):dR fns k C XP (.e a):=by
 intro ex A j σ P s Q Er i X n q t
 replace i:okE j.scope.names a ex=true:=i
 simp only[f6,eW,eU] at n q t
 refine aM n λn1 z=>?_
 refine Sa i X n1 (λr o v l Ea=>?_) λc hc=>t c (by rw[hc]; rfl)
 have g:=z r o
 obtain ⟨x,m⟩:=r
 obtain ⟨ka,as,h,ha,ht,p⟩:=Ea
 unfold itV at g
 dsimp only at g h p
 split at g
 ·rename_i u hx
  cases jw hx
  exact vR (m:=m) ka (X.room.1 hf) h.1 h.2 ha (λhm=>(p hm).1) λit y I=>q (u,m) (by rw[o]; rfl) it y I
 ·exact absurd rfl g
theorem nu (h:bM a b = .ok q):q=(c6 a b,.deep)/\(b-a).toNat<=lim/\-(2^60)<=a/\a<2^60/\-(2^60)<=b/\b<2^60:=by
 unfold bM at h
 split at h
 ·rename_i i; injection h; exact ⟨rfl,i⟩
 ·exact nB h
theorem lw:bM a b≠.exc c:=by unfold bM; split<;>simp
set_option tactic.hygienic true in
theorem xu (hf:fns.hand=false) (Sn:SimE fns k C XP n):dR fns k C XP (.r1 n):=by
 intro ex A env σ P s Q Er ok X nb hQ hE
 replace ok:=KU ok
 revert ok; refine λg=>Or.elim g (λh=>?_) (λok=>?_)
 ·clear g
  refine dM (h) λz y u t j ok=>?_
  clear h
  subst j
  simp only[and_eq_true,beq_iff_eq] at ok
  refine ab (ok) λo on=>?_
  clear ok
  refine ab (o) λLH hg=>?_
  clear o
  subst LH
  simp only[f6,eW,eU] at nb hQ hE
  refine aM nb λn1 n2=>?_
  refine gd X.eok X.ge (by decide) hg (by decide) (gw (T:="range") _ on rfl (jq _ on (Sn on X n1 (λr hr v l Ea=>?_) λc hc=>hE c (by rw[hc]; rfl))))
  have p:=n2 r hr
  obtain ⟨x,m⟩:=r
  obtain ⟨ka,as,ra,hx1,hx2,hx3⟩:=Ea
  clear hx1 hx2 hx3
  dsimp only at p ra
  split at p
  ·rename_i i
   cases hq:bM 0 i with
   | bad=>exact absurd hq p
   | exc c=>exact absurd hq lw
   | ok q=>
    refine aI (nu hq) λLJ h1 h2=>?_
    subst LJ
    refine ra.1.isInt_k λuu LD LB=>?_
    (clear ra; subst LD)
    subst LB
    exact call_range_1 (lq (ka.trans (.push l _ _)) (X.room.1 hf) (IsRange.new ..) h1 h2 λit s' I=>hQ _ (by rw[hr]; exact hq) it s' I)
  ·exact absurd rfl p
 ·cases ok
set_option tactic.hygienic true in
theorem xH (hf:fns.hand=false) (hXP:∀ c s s₁ x s',Kp s s₁->XP c s₁ x s'->XP c s x s') {a b:E}(Sa:SimE fns k C XP a) (Sb:SimE fns k C XP b):dR fns k C XP (.r2 a b):=by
 intro ex A env σ P s Q Er ok X nb hQ hE
 replace ok:=J7 ok
 revert ok; refine λl=>Or.elim l (λm=>?_) (λok=>?_)
 ·clear l
  refine oB (m) λMX M3 Mx MU M5 p ok=>?_
  clear m
  subst p
  simp only[and_eq_true,beq_iff_eq] at ok
  refine ab (ok) λo ob=>?_
  clear ok
  refine ab (o) λn oa=>?_
  clear o
  refine ab (n) λu hg=>?_
  clear n
  subst u
  simp only[f6,eW,eU] at nb hQ hE
  refine aM nb λn1 n2=>?_
  refine gd X.eok X.ge (by decide) hg (by decide) (gw (T:="range") _ oa (by rw[aT ob]; rfl) (wpAny_items_cons ?_ (aT oa _ env)))
  refine Sa oa X n1 (λx hx va s₁ Ea=>?_) λc hc=>hE c (by rw[hc]; rfl)
  refine aM (n2 x hx) λn3 n4=>?_
  refine jq _ ob (Sb ob (X.k Ea.keeps.k) n3 (λy hy vb r Eb=>?_) λc hc z s' hz=>hE c (by rw[hx,Out.ok_bind,hc]; rfl) z s' (hXP c s s₁ z s' Ea.keeps hz))
  have n5:=n4 y hy
  obtain ⟨x,mx⟩:=x
  obtain ⟨y,my⟩:=y
  obtain ⟨ka,as,ra,hx1,hx2,hx3⟩:=Ea
  obtain ⟨kb,bs,v,hx4,hx5,hx6⟩:=Eb
  clear hx1 hx2 hx3 hx4 hx5 hx6
  dsimp only at n5 ra v
  split at n5
  ·rename_i i j
   cases hq:bM i j with
   | bad=>exact absurd hq n5
   | exc c=>exact absurd hq lw
   | ok q=>
    refine aI (nu hq) λt h1 h2=>?_
    subst t
    revert ra; intro h
    refine ab (h) λra _=>?_
    clear h
    revert v; intro g
    refine ab (g) λv _=>?_
    clear g
    cases ra; cases v
    exact call_range_2 (lq ((ka.trans kb).trans (.push r _ _)) (X.room.1 hf) (IsRange.new ..) h1 h2 λit s' I=>hQ _ (by rw[hx,Out.ok_bind,hy]; exact hq) it s' I)
  ·exact absurd rfl n5
 ·cases ok
end
theorem bX (h:Str.ofString x=Str.ofString y):x=y:=by
 rw[Str.ofString_eq_toList,Str.ofString_eq_toList] at h
 have k:(x.toList.map Char.toNat).toArray=(y.toList.map Char.toNat).toArray:=by injection h
 have g:x.toList.map Char.toNat=y.toList.map Char.toNat:=by simpa using k
 have j:x.toList=y.toList:=by
  have i:∀ a b:Char,a.toNat=b.toNat->a=b:=λa b e=>Char.ext (UInt32.toNat_inj.mp e)
  generalize x.toList=l at g
  generalize y.toList=m at g
  induction l generalizing m with
  | nil=>cases m with
   | nil=>rfl
   | cons b m=>simp at g
  | cons a l ih=>cases m with
   | nil=>simp at g
   | cons b m=>
    simp only[map_cons,List.cons.injEq] at g
    rw[i a b g.1,ih m g.2]
 exact String.toList_inj.mp j
section
theorem ll (hf:∀ p∈scope.names,p.2 = .free->∃ c,env.cells.lookup p.1=some c) :
  ∃ cl,closureFor scope env=pure cl/\∀ n,(n,NameKind.free)∈scope.names->cl.lookup n=env.cells.lookup n:=by
 suffices H:∀ (names:List (Str×NameKind)) (g:List (Str×Addr)),(∀ p∈names,p.2 = .free->∃ c,env.cells.lookup p.1=some c)->(∀ n c,g.lookup n=some c->env.cells.lookup n=some c) ->
   ∃ cl,(forIn names g (λ(x:Str×NameKind) (z:List (Str×Addr))=>(if (x.2==NameKind.free)=true then (do let c <- cellOf env x.1; pure (ForInStep.yield ((x.1,c)::z))) else pure (ForInStep.yield z):Sem (ForInStep (List (Str×Addr))))))=pure cl /\
    (∀ n c,cl.lookup n=some c->env.cells.lookup n=some c)/\(∀ n,(n,NameKind.free)∈names\/(g.lookup n).isSome->(cl.lookup n).isSome) by
  refine ao (H scope.names [] hf (λn c h=>by simp at h)) λcl l k j=>?_
  refine (ag cl ?_ (λn v=>?_))
  ·unfold closureFor
   have e:(forIn scope.names ([]:List (Str×Addr)) λ(x:Str×NameKind) (r:List (Str×Addr))=>match x with
     | (name,kind)=>if (kind==NameKind.free)=true then (do let c <- cellOf env name; pure (ForInStep.yield ((name,c)::r))) else (pure (ForInStep.yield r):Sem (ForInStep (List (Str×Addr)))))=pure cl:=l
   exact congrArg (λt:Sem (List (Str×Addr))=>t>>=λq=>pure q) e
  ·refine bK (j n (.inl v)) λc i=>?_
   rw[i,k n c i]
 intro names
 induction names with
 | nil=>intro g _ o; exact (aL g rfl o (λn v=>v.elim (λh=>nomatch h) id))
 | cons p r ih=>
  intro g hf o
  obtain ⟨n,y⟩:=p
  by_cases hk:y = .free
  ·subst hk
   refine ah (hf (n,.free) (.head _) rfl) λc i=>?_
   obtain ⟨cl,l,k,j⟩:=ih ((n,c)::g) (λp u=>hf p (.tail _ u)) (λm d h=>by
    rw[lookup_cons] at h
    split at h
    ·rename_i e; injection h; rw[beq_iff_eq.mp e]; exact i
    ·exact o m d h)
   refine (aL cl ?_ k (λm hm=>j m ?_))
   ·rw[forIn_cons,<- l]
    simp only[beq_self_eq_true,if_true,cellOf,i]
    rfl
   ·rcases hm with hm | hm
    ·rcases mem_cons.mp hm with e | hm
     ·cases e; right; simp
     ·exact .inl hm
    ·right
     rw[lookup_cons]
     split
     ·rfl
     ·exact hm
  ·refine ao (ih g (λp u=>hf p (.tail _ u)) o) λcl l k j=>?_
   refine (aL cl ?_ k (λm hm=>j m (hm.imp (λhm=>?_) id)))
   ·rw[forIn_cons,<- l]
    have:(y==NameKind.free)=false:=by simpa using hk
    simp only[this,false_eq_true,if_false]
    rfl
   ·rcases mem_cons.mp hm with e | hm
    ·cases e; exact absurd rfl hk
    ·exact hm
theorem jH:∀ (names:List (Str×NameKind)) (h:Heap) (acc:List (Str×Addr)),(∀ p∈names,p.2 = .cell->p.1=X)->(names.map (·.1)).Nodup ->
  (∀ m,m≠X->(cellsFrom h.objs.size names acc).lookup m=acc.lookup m) /\
  (names.lookup X=some .cell->∃ c,(cellsFrom h.objs.size names acc).lookup X=some c/\(pushCells h names).IsCell c none/\h.objs.size<=c)/\(names.lookup X≠some .cell->cellsFrom h.objs.size names acc=acc)
 | [],h,acc,_,_=>⟨λuu uu=>rfl,λe=>(by cases e),λuu=>rfl⟩
 | (n,kd)::r,h,acc,hc,hn=>by
  rw[map_cons,nodup_cons] at hn
  unfold cellsFrom pushCells
  by_cases hk:kd = .cell
  ·subst hk
   have e:n=X:=hc (n,.cell) (.head _) rfl
   subst e
   have hr:∀ p∈r,p.2≠.cell:=λp hp e=>hn.1 (mem_map.mpr (ag p hp (hc p (.tail _ hp) e)))
   have hl:r.lookup n≠some .cell:=λe=>hr _ (mem_of_lookup e) rfl
   simp only[beq_self_eq_true,if_true]
   have ih:=jH (X:=n) r (h.push {cls:=.type "cell", data:=.cell none }) ((n,h.objs.size)::acc) (λp hp e=>absurd e (hr p hp)) hn.2
   rw[size_push] at ih
   rw[ih.2.2 hl]
   refine ⟨λm hm=>?_,λuu=>(aL h.objs.size (by simp) (ag _ (pushCells_keeps r _ _ _ (Heap.get?_push_size _ rfl)) rfl) (le_refl _)),λhh=>?_⟩
   ·rw[lookup_cons]
    have:(m==n)=false:=by simpa using hm
    rw[this]
   ·exact absurd (by simp) hh
  ·have hb:(kd==NameKind.cell)=false:=by simpa using hk
   simp only[hb,false_eq_true,if_false]
   refine aI (jH r h acc (λp hp=>hc p (.tail _ hp)) hn.2) λh1 h2 h3=>?_
   have e:((n,kd)::r).lookup X=some .cell↔r.lookup X=some .cell:=by
    rw[lookup_cons]
    by_cases hx:X=n
    ·(clear hc; subst hx)
     simp only[beq_self_eq_true]
     constructor
     ·intro e; injection e; exact absurd rfl hk
     ·intro e; exact absurd (mem_map.mpr (ag _ (mem_of_lookup e) rfl)) hn.1
    ·have:(X==n)=false:=by simpa using hx
     rw[this]
   exact ⟨h1,λq=>h2 (e.mp q),λq=>h3 λz=>q (e.mpr z)⟩
theorem Bk
  (h:∀ h',h' = pushCells (s.heap.push {cls:=.type "dict", data:=.dict #[] }) scope.names->Q {scope,locals:=s.heap.objs.size,globals:=env.globals,cells:=cellsFrom (s.heap.objs.size+1) scope.names cl,qual:=env.qual,func:=none,code:=env.code,frame:=env.frame,builtins:=env.builtins } {s with heap:=h' }) :
  wpAny (model prog w) A (newFunctionEnv scope env.globals cl [] env.qual none .none (some env)) Q Er s:=by
 simp only[newFunctionEnv,Option.isSome_some,if_true]
 refine wpAny_bind (wpAny_alloc ?_)
 refine wpAny_bind (wpAny_layCells _ (λi g cells=>by cases hkc:g==NameKind.cell<;>simp) _ _ _ _ ?_)
 rw[show ({s with heap:=s.heap.push {cls:=.type "dict", data:=.dict #[] } }:Shared).heap.objs.size=s.heap.objs.size+1 from size_push ..]
 exact wpAny_bind (wpAny_pure (wpAny_pure (h _ rfl)))
end
section
theorem iV (h:g8 ns sc x=true):sc.kind = .function/\(sc.names.map (·.1)).Nodup/\(sc.names.lookup (Str.ofString x)=some .local\/sc.names.lookup (Str.ofString x)=some .cell) /\
  ∀ p∈sc.names,(p.2 = .local/\(p.1=Str.ofString x\/p.1=Str.ofString ".0"))\/p.2 = .globalImplicit\/(p.2 = .cell/\p.1=Str.ofString x)\/(p.2 = .free/\(ns.lookup p.1=some .cell\/ns.lookup p.1=some .free)):=by
 unfold g8 at h
 simp only[and_eq_true,beq_iff_eq,decide_eq_true_eq,or_eq_true,all_eq_true] at h
 refine ab (h) λi k=>?_
 clear h
 refine ab (i) λg l=>?_
 clear i
 refine ab (g) λn m=>?_
 clear g
 refine (cE n m l (λp j=>?_))
 rcases k p j with ((h | h) | h) | h
 ·exact .inl h
 ·exact .inr (.inl h)
 ·exact .inr (.inr (.inl h))
 ·exact .inr (.inr (.inr h))
theorem iF {α:Type}{l:List (Str×α)}{n:Str}{c:α}(hn:(l.map (·.1)).Nodup) (h:(n,c)∈l):l.lookup n=some c:=by
 induction l with
 | nil=>cases h
 | cons p r ih=>
  rw[map_cons,nodup_cons] at hn
  rw[lookup_cons]
  rcases mem_cons.mp h with e | h
  ·(clear h; subst e); simp
  ·have:(n==p.1)=false:=beq_eq_false_iff_ne.mpr λe=>hn.1 (e▸mem_map.mpr (ag _ h rfl))
   rw[this]
   exact ih hn.2 h
theorem hM:∀ {inner:List (Str×NameKind)}{n:Str},(fH outer inner).lookup n=(inner.lookup n).map λkd=>if kd == .free&&outer.lookup n==some .cell then .cell else kd
 | [],n=>rfl
 | (m,kd)::r,n=>by
  have h:=@hM outer r n
  unfold fH at h ⊢
  rw[map_cons,lookup_cons,lookup_cons]
  by_cases e:n=m
  ·subst e
   by_cases hc:(kd==NameKind.free&&outer.lookup n==some .cell)=true
   ·rw[if_pos hc]; simp only[beq_self_eq_true,map_some]; rw[if_pos hc]
   ·rw[if_neg hc]; simp only[beq_self_eq_true,map_some]; rw[if_neg hc]
  ·have i:(n==m)=false:=by simpa using e
   have g:(n==(if (kd==NameKind.free&&outer.lookup m==some .cell)=true then (m,NameKind.cell) else (m,kd)).1)=false:=by split<;>exact i
   simp only[i,g]
   exact h
theorem fI (hk:env.scope.kind = .function):(relabel scope env).names=fH env.scope.names scope.names:=by
 unfold relabel fH Env.kindOf
 simp[hk]
theorem s7 (h:bE f (d::ds) = .ok q) :
  ∃ r q',f d = .ok r/\bE f ds = .ok q'/\((r=none/\q=q')\/∃ y m,r=some (.d y,m)/\q=(y::q'.1,decide (m = .deep)&&q'.2)):=by
 simp only[bE] at h
 refine Out.bind_k h λr j h=>?_
 refine Out.bind_k h λq' i h=>?_
 refine (bJ r q' j i ?_)
 split at h
 ·injection h; exact .inl ⟨rfl,rfl⟩
 ·injection h; exact .inr (ay _ _ rfl rfl)
 ·exact nB h
theorem AU
  (hsc:g8 env.scope.names sc x=true) (hN:cenv.scope.names=fH env.scope.names sc.names) (hk:cenv.scope.kind = .function) (hg:cenv.globals=env.globals) (hb:cenv.builtins=env.builtins)
  (hc:∀ n,(n,NameKind.free)∈sc.names->cenv.cells.lookup n=env.cells.lookup n) (hx:sc.names.lookup (Str.ofString x)=some .cell->∃ c,cenv.cells.lookup (Str.ofString x)=some c)
  (hcd:cenv.code=env.code) (X:Cx fns k A P h env σ) (kp:K h h') (hv:VarIs h' cenv (Str.ofString x) v) (hr:R h' v d as) (hz:sz d=true) (has:∀ a∈as,P' a) (hP:∀ a,P a->(∃ o,h.get? a=some o)->P' a) :
  Cx fns k A P' h' cenv (upd σ x (mk (.d d))):=by
 refine cU (iV hsc) λuu hnd htg g=>?_
 have u:∀ n,cenv.kindOf n=(sc.names.lookup n).map λkd=>if kd == .free&&env.scope.names.lookup n==some .cell then .cell else kd:=λn=>by
  show cenv.scope.names.lookup n=_
  rw[hN]; exact hM
 refine ⟨X.room,⟨hk,hg.trans X.eok.glob,hb.trans X.eok.blt,λn t=>?_⟩,X.ge.k kp,(λh1=>ah (X.code h1) λq c=>⟨q,hcd▸c.k kp⟩),λy p z j=>?_⟩
 ·rw[u] at t
  cases e:sc.names.lookup n with
  | none=>rw[e] at t; simp at t
  | some kd=>
   have hm:=mem_of_lookup e
   rcases g _ hm with h1 | h1 | h1 | h1
   ·rw[e,show kd=_ from h1.1] at t; simp at t
   ·dsimp only at h1; rw[e,h1] at t; simp at t
   ·revert h1; intro ML
    refine ab (ML) λh1 h2=>?_
    clear ML
    dsimp only at h1 h2
    (clear hm; subst h2)
    exact hx (by rw[e,h1])
   ·revert h1; intro Md
    refine ab (Md) λh1 h2=>?_
    clear Md
    dsimp only at h1 h2
    (clear e; subst h1)
    refine ah (X.eok.cells n h2) λc hcc=>?_
    exact ⟨c,by rw[hc n hm,hcc]⟩
 ·unfold upd at z
  by_cases hy:y=x
  ·(clear g hsc htg hx; subst hy)
   rw[if_pos rfl] at z
   injection z
   exact (bJ v as hv ⟨hr,hz⟩ has)
  ·rw[if_neg hy] at z
   have i:=pK j
   rw[u] at i
   have r:Str.ofString y≠Str.ofString ".0" := by
    unfold varK at j
    intro e
    rw[e] at j
    simp at j
   cases e:sc.names.lookup (Str.ofString y) with
   | none=>rw[e] at i; simp at i
   | some kd=>
    have hm:=mem_of_lookup e
    rcases g _ hm with h1 | h1 | h1 | h1
    ·exact absurd h1.2 (by
      rintro (h2 | h2)
      ·exact hy (bX h2)
      ·exact r h2)
    ·dsimp only at h1; rw[e,h1] at i; simp at i
    ·exact absurd (bX h1.2) hy
    ·revert h1; intro l
     refine ab (l) λh1 h2=>?_
     clear l
     dsimp only at h1 h2
     subst h1
     have hvo:varK env.scope.names y=true:=by
      unfold varK
      rw[and_eq_true]
      refine ⟨by simpa using r,?_⟩
      rcases h2 with h2 | h2<;>rw[h2]
     refine aA (X.vars y p z hvo) λv' as' a1 a2 a3=>?_
     refine (bJ v' as' ?_ (a2.k kp) (λa ha=>hP a (a3 a ha) (a2.there a ha)))
     cases a1 with
     | loc m b1 b2 b3=>exact absurd b1 (by unfold Env.kindOf; rcases h2 with h2 | h2<;>rw[h2]<;>simp)
     | cell c b1 b2 b3=>
      refine .cell c ?_ (by rw[hc _ hm,b2]) (ie b3 kp)
      rw[u,e]
      rcases h2 with h2 | h2<;>rw[h2]<;>simp
noncomputable def Tgt (cenv:Env) (X:Str) (T:Addr) (h:Heap):Prop :=
 (∃ m,h.Ns cenv.locals m)/\((cenv.kindOf X=some .local/\T=cenv.locals)\/(cenv.kindOf X=some .cell/\cenv.cells.lookup X=some T/\T≠cenv.locals/\∃ g,h.IsCell T g))
theorem Tgt.at (t:Tgt cenv X T h) (k1:∀ o,h.get? T=some o->h'.get? T=some o) (k2:∀ o,h.get? cenv.locals=some o->h'.get? cenv.locals=some o):Tgt cenv X T h':=by
 revert t; intro i
 refine ab (i) λk t=>?_
 clear i
 refine ah (k) λm l=>?_
 clear k
 refine ⟨⟨m,l.at' k2⟩,t.imp id λt=>?_⟩
 refine cU (t) λa b c g=>?_
 clear t
 refine aq (g) λj o e d=>?_
 clear g
 exact (cE a b c (ay j o (k1 _ e) d))
theorem Tgt.onK (t:Tgt cenv X T h) (k:K h h'):Tgt cenv X T h':=by
 revert t; intro i
 refine ab (i) λl t=>?_
 clear i
 refine ah (l) λm n=>?_
 clear l
 refine ⟨⟨m,iy n k⟩,t.imp id λt=>?_⟩
 refine cU (t) λa b c g=>?_
 clear t
 refine ah (g) λj d=>?_
 clear g
 exact (cE a b c (b0 j (ie d k)))
theorem Tgt.nostay (t:Tgt cenv X T h) (o:Obj) (e:h.get? T=some o):¬ Stay o:=by
 revert t; intro i
 refine ab (i) λj t=>?_
 clear i
 refine ol (j) λm x y z v r _=>?_
 clear j
 rcases t with t | t
 ·rw[t.2,v] at e; injection e; exact Stay.not_data (λuu q=>by rw[r] at q; cases q) λuu uu q=>by rw[r] at q; cases q
 ·refine cU (t) λuu uu uu g=>?_
  clear t
  refine aq (g) λp u n k=>?_
  clear g
  rw[n] at e; injection e; exact Stay.not_data (λuu q=>by rw[k] at q; cases q) λuu uu q=>by rw[k] at q; cases q
theorem Tgt.noseq (t:Tgt cenv X T h) (o:Obj) (e:h.get? T=some o) (vs:Array Value) (n:Nat):o.data≠.seq vs n:=by
 revert t; intro i
 refine ab (i) λj t=>?_
 clear i
 refine ol (j) λm y z ep x v _=>?_
 clear j
 intro q
 rcases t with t | t
 ·rw[t.2,x] at e; injection e; rw[v] at q; cases q
 ·refine cU (t) λuu uu uu g=>?_
  clear t
  refine aq (g) λr u p l=>?_
  clear g
  rw[p] at e; injection e; rw[l] at q; cases q
theorem uF (hk:cenv.scope.kind = .function) (t:Tgt cenv X T s.heap)
  (h:∀ h' tk,Heap.SameBut T s.heap h'->Tgt cenv X T h'->VarIs h' cenv X v->Q () {s with heap:=h',toks:=tk }):wpAny (model prog w) A (assign (.Name X px) cenv v) Q Er s:=by
 revert t; intro g
 refine ab (g) λi t=>?_
 clear g
 refine ah (i) λm l=>?_
 clear i
 rcases t with ⟨t1,rfl⟩ | ⟨t1,t2,t3,n,t4⟩
 ·exact wpAny_assign_Name (wpAny_storeName_local t1 l (λh' j k=>h h' _ k ⟨⟨_,j⟩,.inl ⟨t1,rfl⟩⟩ (.loc _ t1 j (by simp))) (by rw[hk]; rfl))
 ·exact wpAny_assign_Name (wpAny_storeName_cell hk t1 t2 t4 λh' j k=>h h' s.toks k ⟨⟨m,l.sameBut k (Ne.symm t3)⟩,.inr (cE t1 t2 t3 (b0 _ j))⟩ (.cell T (.inl t1) t2 j))
noncomputable def CI (f:PyData->Out (Option (V×Mode))) (x:String) (cenv:Env) (P:Addr->Prop) (s sc:Shared) (ds:List PyData) (res:List PyData×Bool) (D T:Addr) (wr:List Addr) (St:Nat->Heap->Prop) (n:Nat) (s':Shared):Prop :=
 ∃ (h:Heap) (tk:Nat) (j:Nat) (vs:List Value) (ys:List PyData) (as:List Addr) (zs:List PyData) (dp b':Bool),s' = {sc with heap:=h,toks:=tk }/\St j h/\j<=ds.length/\n=ds.length+1-j/\h.PlainList D vs.toArray/\RA h vs ys as/\(∀ y∈ys,sz y=true)/\ys.length<=j /\
   (∀ a∈as,a≠D/\(P a\/s.heap.get? a=none))/\(dp=true->(∀ a∈as,s.heap.get? a=none)/\as.Nodup)/\Tgt cenv (Str.ofString x) T h/\KG (λb=>b∉D::T::wr) sc.heap h /\
   bE f (ds.drop j) = .ok (zs,b')/\res=(ys++zs,dp&&b')
set_option maxHeartbeats 2000000 in
theorem tZ {f:PyData->Out (Option (V×Mode))}{x:String}{px:Pos}{elt iter:Expr}{ifs:List Expr}{sc:Scope}{pos:Pos}{A:Around}{cenv:Env}{P:Addr->Prop}{s s₃:Shared}{Rr:Result->Shared->Prop}
  {ds:List PyData}{res:List PyData×Bool}{I D T:Addr}{fp wr F:List Addr}{Pw:Nat->Value->Prop}{St:Nat->Heap->Prop}
  (W:Walks prog w A I fp wr ds.length Pw St) (hst:St 0 s₃.heap) (hk:cenv.scope.kind = .function) (ks:K s.heap s₃.heap)
  (hwr:∀ b∈wr,s.heap.get? b=none/\b∉F/\∀ i h,St i h->∃ o,h.get? b=some o/\(hardB o=true/\noIt o.cls=true/\∀ C,o.cls≠.ref C)/\∃ fs,o.data = .fields fs) (hFl:∀ b∈F,∃ vs n,s₃.heap.get? b=some ⟨.type "list", none,.seq vs n,#[]⟩) (hfp:∀ b∈fp,b∈wr\/b∈F)
  (hPw:∀ i v,Pw i v->∀ d,ds[i]? = some d->∃ bs,R s₃.heap v d bs/\∀ b∈bs,b∈F) (hFP:∀ a∈F,P a\/s.heap.get? a=none)
  (hFo:∀ b∈F,b≠D/\b≠T/\b≠cenv.locals) (hwo:∀ b∈wr,b≠D/\b≠T/\b≠cenv.locals) (hDT:D≠T) (hDL:D≠cenv.locals) (fD:s.heap.get? D=none) (fT:s.heap.get? T=none)
  (hsm:ds.length<=2^22/\∀ d∈ds,sz d=true) (hres:bE f ds = .ok res) (hD:s₃.heap.PlainList D #[]) (hT:Tgt cenv (Str.ofString x) T s₃.heap)
  (step:∀ d r,f d = .ok r->sz d=true->∀ {s₄:Shared}{Q₁:Shared->Prop}{Qb:Value->Shared->Prop}{Er':Value->Shared->Prop}(v:Value) (bs:List Addr),VarIs s₄.heap cenv (Str.ofString x) v->R s₄.heap v d bs->(∀ b∈bs,(P b\/s.heap.get? b=none)/\b≠D)->K s.heap s₄.heap ->
   (r=none->∀ s₅,Kp s₄ s₅->Q₁ s₅)->(∀ y,r=some y->∀ u s₅,EP (λb=>(P b\/s.heap.get? b=none)/\b≠D) s₄ y u s₅->Qb u s₅) ->
   wpAny (model prog w) A (forIn ifs true λc r=>if r=true then do let ok <- isTrue c cenv (eval c cenv); pure (ForInStep.yield ok) else pure (ForInStep.yield r)) (λok s₅=>if ok=true then wpAny (model prog w) A (eval elt cenv) Qb Er' s₅ else Q₁ s₅) Er' s₄)
  (hR:∀ h tk vs as,h.PlainList D vs.toArray->RA h vs res.1 as->(∀ y∈res.1,sz y=true)->res.1.length<=2^22->(∀ a∈as,a≠D/\(P a\/s.heap.get? a=none))->(res.2=true->(∀ a∈as,s.heap.get? a=none)/\as.Nodup)->(∃ m,h.Ns cenv.locals m) ->
   K s.heap h->Rr (.ok .next) {s₃ with heap:=h,toks:=tk }) :
  codeAny (model prog w) A (.compLoop (.ListComp elt [⟨.Name (Str.ofString x) px,iter,ifs,0⟩] sc pos) 0 (.ref I) (.ref D) cenv) Rr s₃:=by
 have offw:∀ i h as,St i h->Off h as wr:=λi h as hs b hb o e=>by
  refine ao ((hwr b hb).2.2 i h hs) λo' e' _ L0=>?_
  refine ah (L0) λfs q=>?_
  clear L0
  rw[e] at e'; injection e'; exact .inl λvs n q'=>by rw[q] at q'; cases q'
 have offT:∀ h as,Tgt cenv (Str.ofString x) T h->Off h as [T]:=λh as t b hb o e=>by
  rw[mem_singleton.mp hb] at e
  exact .inl (t.noseq o e)
 have offD:∀ h as vs,Heap.PlainList h D vs->(∀ a∈as,a≠D)->Off h as [D]:=λh as vs t hn b hb o e=>by
  rw[mem_singleton.mp hb] at e ⊢
  revert t; intro Mu
  refine ah (Mu) λn t=>?_
  clear Mu
  rw[t] at e; injection e
  exact .inr ⟨by simp,λhm=>hn D hm rfl⟩
 have notw:∀ i h,St i h->∀ b∈wr,∀ o,h.get? b=some o->¬ Stay o:=λi h hs b hb o e=>by
  refine ao ((hwr b hb).2.2 i h hs) λo' e' LD MM=>?_
  refine ah (MM) λfs q=>?_
  clear MM
  refine ab (LD) λuu hc=>?_
  clear LD
  rw[e] at e'; (have oc:=Option.some.inj e'; clear e'; (clear uu; subst oc))
  exact λx=>x.elim (λx=>noIt.code hc.1 x.1) λx=>let ⟨_,vs,n,e⟩:=x; by rw[q] at e; cases e
 have outs:∀ b o,s.heap.get? b=some o->b∉D::T::wr:=λb o e hb=>by
  rcases mem_cons.mp hb with rfl | hb
  ·rw[fD] at e; exact nN e
  rcases mem_cons.mp hb with rfl | hb
  ·rw[fT] at e; exact nN e
  ·rw[(hwr b hb).1] at e; exact nN e
 have fG:∀ b∈F,b∉D::T::wr:=λb hF hb=>by
  rcases mem_cons.mp hb with rfl | hb
  ·exact (hFo _ hF).1 rfl
  rcases mem_cons.mp hb with rfl | hb
  ·exact (hFo _ hF).2.1 rfl
  ·exact (hwr b hb).2.1 hF
 refine codeAny_compLoop_tests
  (CI f x cenv P s s₃ ds res D T wr St) ?_ (ds.length+1)
  (qa s₃.heap s₃.toks 0 ([]) ([]) ([]) res.1 true res.2 rfl hst (zero_le _) rfl hD .nil (λuu h=>(nomatch h)) (le_refl _) (λuu h=>(nomatch h)) (λuu=>⟨λuu h=>(nomatch h),.nil⟩) hT KG.refl (by simpa using hres) (by simp))
 intro n s' LB
 refine CA (LB) λh tk j vs ys as zs dp b' LF hst' hj LI hD' hra hys hyl has hdp hT' hkp hcl hrs=>?_
 clear LB
 subst LF
 subst LI
 have hDw:D∉wr:=λh=>(hwo D h).1 rfl
 have hTw:T∉wr:=λh=>(hwo T h).2.1 rfl
 have hLw:cenv.locals∉wr:=λh=>(hwo _ h).2.2 rfl
 have kps:K s.heap h:=ks.step hkp outs
 by_cases hlt:j<ds.length
 ·obtain ⟨d,hd⟩:∃ d,ds[j]? = some d:=⟨_,List.getElem?_eq_getElem hlt⟩
  have hdd:ds.drop j=d::ds.drop (j+1):=by
   rw[drop_eq_getElem_cons hlt]
   rw[List.getElem?_eq_getElem hlt] at hd
   injection hd; rfl
  rw[hdd] at hcl
  refine aA (s7 hcl) λr q' hf hq l=>?_
  refine W.item j _ _ _ hlt hst' λv h₁ tka hPv hsta hka=>?_
  have g:∀ b o,b∉wr->h.get? b=some o->h₁.get? b=some o:=hka
  refine uF hk (hT'.at (λo e=>g _ o hTw e) λo e=>g _ o hLw e) λh₂ tkb hsb hTb hvb=>?_
  have hsb':∀ b o,b∉[T]->h₁.get? b=some o->h₂.get? b=some o:=λb o hb e=>hsb.extBut b o (λq=>hb (by simp[q])) e
  have hstb:St (j+1) h₂:=W.frame _ _ _ hsta λb hb o e=>hsb' b o (λq=>by
   rw[mem_singleton.mp q] at hb
   rcases hfp _ hb with hb | hb
   ·exact hTw hb
   ·exact (hFo _ hb).2.1 rfl) e
  have hrab:RA h₂ vs ys as:=(hra.off (offw j h as hst') g).off (offT h₁ as (hT'.at (λo e=>g _ o hTw e) λo e=>g _ o hLw e)) hsb'
  have kT:KG (λb=>b∉[T]) h₁ h₂:=.ofW hsb' λb hb o e=>by
   rw[mem_singleton.mp hb] at e
   exact (hT'.at (λo e=>g _ o hTw e) λo e=>g _ o hLw e).nostay o e
  have hkpb:KG (λb=>b∉D::T::wr) s₃.heap h₂:=(hkp.trans ((KG.ofW g (notw j h hst')).mono λb hb q=>hb (by simp[q]))).trans (kT.mono λb hb q=>hb (by rw[mem_singleton.mp q]; simp))
  refine ae (hPw j v hPv d hd) λbs hrv hbs=>?_
  have hrvb:R h₂ v d bs:=hrv.onG hkpb λb hb=>fG b (hbs b hb)
  have kpsb:K s.heap h₂:=ks.step hkpb outs
  have hfpH:∀ b∈fp,∀ o,h₂.get? b=some o->hardB o=true:=λb hb o e=>by
   rcases hfp b hb with hb | hb
   ·refine ao ((hwr b hb).2.2 _ _ hstb) λo' e' LK _=>?_
    refine ab (LK) λhh _=>?_
    clear LK
    rw[e] at e'; injection e'; exact hh
   ·refine aY (hFl b hb) λvs' n' e'=>?_
    rw[hkpb.hard (.inl (fG b hb)) e' rfl] at e
    injection e; rfl
  have hDb:h₂.PlainList D vs.toArray:=(hD'.at λo e=>g _ o hDw e).at λo e=>hsb' _ o (by simpa using hDT) e
  have hzd:sz d=true:=hsm.2 d (mem_of_getElem? hd)
  refine step d r hf hzd (s₄:={s₃ with heap:=h₂,toks:=tkb }) v bs hvb hrvb (λb hb=>⟨hFP b (hbs b hb),(hFo b (hbs b hb)).1⟩) kpsb (λhr s₅ k₅=>?_) λy hy u s₅ E₅=>?_
  ·(clear hf; subst hr)
   refine aq (k₅) λhe tke LL p=>?_
   clear k₅
   subst LL
   rcases l with ⟨_,l⟩ | ⟨_,_,l,_⟩
   ·subst l
    refine (ag (ds.length+1-(j+1)) (sJ hlt) (qa he tke (j+1) vs ys as zs dp b' rfl (W.frame _ _ _ hstb λb hb o e=>p.get e (hfpH b hb o e)) hlt rfl (ah (hDb) λn e=>⟨n,p.get e rfl⟩) (hrab.k p) hys (by exact le_succ_of_le ‹_›) has hdp (hTb.onK p) (hkpb.trans (p.mono λuu uu=>trivial)) hq hrs))
   ·exact nN l
  ·obtain ⟨LN,bs',hrve,hb1,hb2,hb3⟩:=E₅
   refine aq (LN) λhe tke LO p=>?_
   clear LN
   subst LO
   dsimp only at p hrve hb1 hb2 hb3
   rcases l with ⟨l,_⟩ | ⟨z,m,l,hq2⟩
   ·rw[hy] at l; exact nM l
   ·rw[hy] at l; (have oc:=Option.some.inj l; clear l; (clear hb2 hy; subst oc))
    revert hrve; intro MN
    refine ab (MN) λhrve hze=>?_
    clear MN
    have hDe:he.PlainList D vs.toArray:=ah (hDb) λn e=>⟨n,p.get e rfl⟩
    have hbD:∀ a∈bs',a≠D:=λa ha q=>by
     rcases hb1 a ha with h | h
     ·exact h.2 q
     ·refine ah (hDb) λn e=>?_
      clear hDb
      rw[q,e] at h; exact nM h
    have hrae:=(hrab.k p).append (.cons hrve .nil)
    have hl:vs.length=ys.length:=hra.length
    refine wpAny_list_append_plain (hsz:=by rw[size_toArray,hl]; unfold sizeLine; exact Ht hsm hyl hlt) hDe λh₆ hlf hsf=>?_
    have hsf':∀ b o,b∉[D]->he.get? b=some o->h₆.get? b=some o:=λb o hb e=>hsf.extBut b o (λq=>hb (by simp[q])) e
    have hne:∀ a∈as++(bs'++[]),a≠D:=λa ha=>by
     rcases mem_append.mp ha with ha | ha
     ·exact (has a ha).1
     ·exact hbD a (by simpa using ha)
    cases hq2
    refine (ag (ds.length+1-(j+1)) (sJ hlt) (qa h₆ tke (j+1) (vs++[u]) (ys++[z]) (as++(bs'++[])) q'.1 (dp&&decide (m = .deep)) q'.2 rfl ?_ hlt rfl ?_ (hrae.off (offD he _ _ hDe hne) hsf') ?_ ?_ ?_ ?_ ?_ ?_ ?_ ?_))
    ·refine W.frame _ _ _ hstb λb hb o e=>hsf' b o (λq=>?_) (p.get e (hfpH b hb o e))
     rw[mem_singleton.mp q] at hb
     rcases hfp _ hb with hb | hb
     ·exact hDw hb
     ·exact (hFo _ hb).1 rfl
    ·simpa using hlf
    ·intro y hy'
     rcases mem_append.mp hy' with h | h
     ·exact hys y h
     ·rw[mem_singleton.mp h]; exact hze
    ·rw[length_append,length_singleton]; exact jX hyl
    ·intro a ha
     refine ⟨hne a ha,?_⟩
     rcases mem_append.mp ha with ha | ha
     ·exact (has a ha).2
     ·rcases hb1 a (by simpa using ha) with h | h
      ·exact h.1
      ·right
       cases e:s.heap.get? a with
       | none=>rfl
       | some o=>obtain ⟨_,e'⟩:=kpsb.there e; rw[e'] at h; exact nM h
    ·intro hdm
     simp only[and_eq_true,decide_eq_true_eq] at hdm
     refine ab (hdm) λhd1 hd2=>?_
     clear hdm
     refine ab (hdp hd1) λg1 g2=>?_
     refine ab (hb3 hd2) λg3 g4=>?_
     refine ⟨λa ha=>?_,?_⟩
     ·rcases mem_append.mp ha with ha | ha
      ·exact g1 a ha
      ·have h:=g3 a (by simpa using ha)
       cases e:s.heap.get? a with
       | none=>rfl
       | some o=>obtain ⟨_,e'⟩:=kpsb.there e; rw[e'] at h; exact nM h
     ·rw[append_nil,nodup_append]
      refine ⟨g2,g4,λa ha b hb q=>?_⟩
      subst q
      refine aY (hrab.there a ha) λuu uu e=>?_
      rw[g3 a hb] at e; exact nN e
    ·exact (hTb.onK p).at (λo e=>hsf' _ o (by simpa using Ne.symm hDT) e) λo e=>hsf' _ o (by simpa using Ne.symm hDL) e
    ·refine (hkpb.trans (p.mono λuu uu=>trivial)).trans ((KG.ofW hsf' λb hb o e=>?_).mono λb hb q=>hb (by rw[mem_singleton.mp q]; simp))
     refine ah (hDe) λn ee=>?_
     clear hDe
     rw[mem_singleton.mp hb,ee] at e
     injection e
     exact Stay.not_cls (by simp) (by simp)
    ·exact hq
    ·rw[hrs]; simp[Bool.and_assoc]
 ·have hjl:j=ds.length:=by exact yq hj hlt
  (clear hj hlt; subst hjl)
  rw[drop_length] at hcl
  cases hcl
  refine W.done _ _ _ hst' λh₁ tka hka=>?_
  have g:∀ b o,b∉wr->h.get? b=some o->h₁.get? b=some o:=hka
  have e1:res=(ys,dp):=by rw[hrs]; simp
  (clear hres hrs; subst e1)
  refine hR h₁ tka vs as (hD'.at λo e=>g _ o hDw e) (hra.off (offw _ h as hst') g) hys (le_trans hyl hsm.1) has hdp ((hT'.at (λo e=>g _ o hTw e) λo e=>g _ o hLw e).1) (kps.step (KG.ofW g (notw _ h hst')) λb o e q=>by rw[(hwr b q).1] at e; cases e)
end
section
theorem oK {ex:Expr}(ok:ez ns it ex=true) (env:Env) (v:Value):foldedSetIterable ex env v=pure v:=by
 cases ex with
 | Set es p=>
  cases it with
  | e a=>exfalso; cases a<;>exact Bool.noConfusion (show false=true from ok)
  | r1 n=>exact Bool.noConfusion (show false=true from ok)
  | r2 a b=>exact Bool.noConfusion (show false=true from ok)
 | _=>rfl
set_option maxHeartbeats 1000000 in
theorem fM {RR:Value->Addr->Result->Shared->Prop}{f:PyData->Out (Option (V×Mode))}{x:String}{px:Pos}{elt iter:Expr}{ifs:List Expr}{sc:Scope}{pos:Pos}{A:Around}{env:Env}{σ:St}{P:Addr->Prop}{s:Shared}{Er:Value->Shared->Prop}
  {ds:List PyData}{res:List PyData×Bool}(hsc:g8 env.scope.names sc x=true) (X:Cx fns k A P s.heap env σ) (hres:bE f ds = .ok res)
  (step:∀ d r,f d = .ok r->∀ {cenv:Env}{s₃:Shared}{P':Addr->Prop}{Q₁:Shared->Prop}{Qb:Value->Shared->Prop}{Er':Value->Shared->Prop},cenv.scope.names=fH env.scope.names sc.names->Cx fns k A P' s₃.heap cenv (upd σ x (mk (.d d))) ->
   (r=none->∀ s₄,Kp s₃ s₄->Q₁ s₄)->(∀ y,r=some y->∀ v s₄,EP P' s₃ y v s₄->Qb v s₄) ->
   wpAny (model prog w) A (forIn ifs true λc r=>if r=true then do let ok <- isTrue c cenv (eval c cenv); pure (ForInStep.yield ok) else pure (ForInStep.yield r)) (λok s₄=>if ok=true then wpAny (model prog w) A (eval elt cenv) Qb Er' s₄ else Q₁ s₄) Er' s₃)
  {m:Mode}{i:Value}{s₂:Shared}(I:ItP A P s ds m i s₂)
  (hR:∀ D C h tk m,EP P s (.d (.list res.1),if res.2 then .deep else .top) (.ref D) {s₂ with heap:=h,toks:=tk }->h.Ns C m->s.heap.get? C=none->RR (.ref D) C (.ok .next) {s₂ with heap:=h,toks:=tk }) {cl:List (Str×Addr)}(hcl:∀ n,(n,NameKind.free)∈sc.names->cl.lookup n=env.cells.lookup n) :
  wpAny (model prog w) A (newObj (.type "list") (.seq #[]) none) (λacc s₃=>
   wpAny (model prog w) A (newFunctionEnv sc env.globals cl [] env.qual none .none (some env)) (λcenv s₄=>
    codeAny (model prog w) A (.compStart (.ListComp elt [⟨.Name (Str.ofString x) px,iter,ifs,0⟩] sc pos) 0 i acc {cenv with scope:=relabel sc env }) (RR acc cenv.locals) s₄) Er s₃) Er s₂:=by
 refine cU (iV hsc) λhk hnd htg hnames=>?_
 obtain ⟨t,LC,hsm⟩:=I
 refine uV (LC) λI fp wr Pw St F Ly W hst hwr hfp hPw hF hFP _=>?_
 clear LC
 replace Ly:=Ly.1
 subst Ly
 refine wpAny_newObj_type (Bk λu j=>?_)
 have hsz:(s₂.heap.push {cls:=.type "list", data:=.seq #[] }).objs.size=s₂.heap.objs.size+1:=size_push ..
 dsimp only at j ⊢
 rw[hsz]
 generalize hD:s₂.heap.objs.size=D at *
 obtain ⟨c1,c2,c3⟩:=jH (X:=Str.ofString x) sc.names ((s₂.heap.push {cls:=.type "list", data:=.seq #[] }).push {cls:=.type "dict", data:=.dict #[] }) cl (λp hp e=>by
  rcases hnames p hp with h | h | h | h
  ·rw[h.1] at e; cases e
  ·rw[h] at e; cases e
  ·exact h.2
  ·rw[h.1] at e; cases e) hnd
 rw[size_push,hsz] at c1 c2 c3
 rw[<- j] at c2
 have l:∀ b o,s₂.heap.get? b=some o->u.get? b=some o:=λb o e=>by
  rw[j]; exact pushCells_keeps _ _ _ _ (Heap.get?_push_of_some _ (Heap.get?_push_of_some _ e))
 have hDc:u.PlainList D #[]:=⟨0,by rw[j]; exact pushCells_keeps _ _ _ _ (Heap.get?_push_of_some _ (hD▸Heap.get?_push_size _ rfl))⟩
 have z:u.Ns (D+1) (λuu=>none):=by
  have:=Heap.Ns.new (s₂.heap.push {cls:=.type "list", data:=.seq #[] }) (.type "dict")
  rw[hsz] at this
  rw[j]
  exact this.keeps (pushCells_keeps _ _)
 have old:∀ b,(∃ o,s₂.heap.get? b=some o)->b<D:=λb ⟨o,e⟩=>hD▸lt_size e
 have g:∀ b,D<=b->s.heap.get? b=none:=λb hb=>by
  cases e:s.heap.get? b with
  | none=>rfl
  | some o=>exact absurd (old b (t.k.there e)) (Nat.not_lt.mpr hb)
 obtain ⟨T,hT,hTD,hkc⟩:∃ T,Tgt {scope:=relabel sc env,locals:=D+1,globals:=env.globals,cells:=cellsFrom (D+1+1) sc.names cl,qual:=env.qual,func:=none,code:=env.code,frame:=env.frame,builtins:=env.builtins } (Str.ofString x) T u/\D+1<=T /\
   (sc.names.lookup (Str.ofString x)=some .cell->(cellsFrom (D+1+1) sc.names cl).lookup (Str.ofString x)=some T):=by
  have hkd:(relabel sc env).names.lookup (Str.ofString x)=(sc.names.lookup (Str.ofString x)).map λkd=>if kd == .free&&env.scope.names.lookup (Str.ofString x)==some .cell then .cell else kd:=by
   rw[fI X.eok.kind]; exact hM
  rcases htg with ht | ht
  ·refine (aL (D+1) ⟨⟨_,z⟩,.inl ⟨?_,rfl⟩⟩ (le_refl _) (λq=>?_))
   ·show (relabel sc env).names.lookup _=_
    rw[hkd,ht]; rfl
   ·rw[ht] at q; cases q
  ·refine ao (c2 ht) λc g1 g2 g3=>?_
   refine (aL c ⟨⟨_,z⟩,.inr (cE ?_ g1 ?_ (b0 _ g2))⟩ (le_of_succ_le g3) (λuu=>g1))
   ·show (relabel sc env).names.lookup _=_
    rw[hkd,ht]; rfl
   ·exact ne_of_gt g3
 have hstc:St 0 u:=W.frame _ _ _ hst λb _ o e=>l b o e
 refine codeAny_compStart_list ?_ ?_
 all_goals
  first
  | (refine W.self 0 _ _ _ hstc ?_)
  | skip
 all_goals
  refine tZ (s:=s) (P:=P) (T:=T) W hstc hk (KG.trans t.k (K.of l)) hwr (λb hb=>aY (hF b hb) λvs n e=>(bG vs n (l _ _ e))) hfp (λi v hv d hd=>ae (hPw i v hv d hd) λbs h1 h2=>(ag bs (h1.keep l) h2)) hFP (λb hb=>?_) (λb hb=>?_) (ne_of_lt hTD) (ne_of_lt (Nat.lt_succ_self D)) (g D (le_refl _)) (g T (le_of_succ_le hTD)) hsm hres hDc hT ?_ ?_
  ·refine aY (hF b hb) λuu uu e=>?_
   have:=old b ⟨_,e⟩
   exact ⟨ne_of_lt this,ne_of_lt (lt_of_lt_of_le this (le_of_succ_le hTD)),ne_of_lt (lt_succ_of_lt this)⟩
  ·refine ae ((hwr b hb).2.2 0 _ hst) λo e _=>?_
   have:=old b ⟨_,e⟩
   exact ⟨ne_of_lt this,ne_of_lt (lt_of_lt_of_le this (le_of_succ_le hTD)),ne_of_lt (lt_succ_of_lt this)⟩
  ·intro d r hf hz s₄ Q₁ Qb Er' v bs hv hr hbs kps h1 h2
   refine step d r hf (fI X.eok.kind) (AU hsc (fI X.eok.kind) hk rfl rfl (λn hn=>?_) (λq=>⟨T,hkc q⟩) rfl X kps hv hr hz hbs λa ha hex=>⟨.inl ha,λq=>?_⟩) h1 h2
   ·show (cellsFrom (D+1+1) sc.names cl).lookup n=_
    rw[c1 n λq=>?_,hcl n hn]
    subst q
    have:=iF hnd hn
    rw[this] at htg
    rcases htg with q | q<;>cases q
   ·(clear h2 hDc z hT hTD hbs hkc hsz hv old; subst q)
    refine ah (hex) λo e=>?_
    clear hex
    rw[g _ (le_refl _)] at e; exact nN e
  ·intro h tk vs as hp hra hys hyl has hdp hm hkp
   revert hm; intro Md
   refine ah (Md) λm' hm=>?_
   clear Md
   refine ah (hp) λn hpl=>?_
   clear hp
   refine hR D (D+1) h tk m' ?_ hm (g _ (le_succ D))
   refine aq (t) λhhb tkb LG hkkb=>?_
   clear t
   (clear j hF hPw hR l hst hsz old; subst LG)
   refine ⟨(ay h tk rfl hkp),D::as,⟨.list hpl hra,sz_list.mpr ⟨hyl,hys⟩⟩,?_,?_,?_⟩
   ·intro a ha
    rcases mem_cons.mp ha with rfl | ha
    ·exact .inr (g _ (le_refl _))
    ·exact (has a ha).2
   ·exact λuu=>(bJ D as rfl (g _ (le_refl _)) (λq=>(has D q).1 rfl))
   ·intro hm'
    dsimp only at hm'
    have hb:res.2=true:=by
     cases e:res.2 with
     | true=>rfl
     | false=>rw[e] at hm'; cases hm'
    refine ⟨λa ha=>?_,nodup_cons.mpr ⟨λq=>(has D q).1 rfl,(hdp hb).2⟩⟩
    rcases mem_cons.mp ha with rfl | ha
    ·exact g _ (le_refl _)
    ·exact (hdp hb).1 a ha
theorem R.sameBut {h h':Heap}{C:Addr}{m:Str->Option Value}{v:Value}{d:PyData}{as:List Addr}(r:R h v d as) (hm:h.Ns C m) (hs:Heap.SameBut C h h'):R h' v d as:=by
 refine r.off (wr:=[C]) (λb g o e=>?_) λb o g e=>hs.extBut b o (λq=>g (by simp[q])) e
 rw[mem_singleton.mp g] at e
 refine aX (hm) λp t u k j _=>?_
 clear hm
 rw[k] at e; injection e
 exact .inl λl n q=>by rw[j] at q; cases q
theorem EP.sameBut {P:Addr->Prop}{s s₂:Shared}{h h':Heap}{tk:Nat}{C:Addr}{m:Str->Option Value}{d:PyData}{md:Mode}{v:Value}(E:EP P s (.d d,md) v {s₂ with heap:=h,toks:=tk }) (hm:h.Ns C m) (hC:s.heap.get? C=none) (hs:Heap.SameBut C h h') :
  EP P s (.d d,md) v {s₂ with heap:=h',toks:=tk }:=by
 obtain ⟨i,as,g,t,p,n⟩:=E
 refine aq (i) λhh l e x=>?_
 clear i
 refine ab (g) λr z=>?_
 clear g
 cases s₂; cases s; cases e
 refine aX (id hm) λo' es ep y k _=>?_
 refine ⟨(ay h' tk rfl (K.step x (KG.ofW (wr:=[C]) (λb o j e=>hs.extBut b o (λq=>j (by simp[q])) e) λb j o e=>?_) λb o e q=>?_)),as,⟨R.sameBut r hm hs,z⟩,t,p,n⟩
 ·rw[mem_singleton.mp j,y] at e; injection e
  exact Stay.not_data (λuu q=>by rw[k] at q; cases q) λuu uu q=>by rw[k] at q; cases q
 ·rw[mem_singleton.mp q,hC] at e; exact nN e
theorem nr {elt iter:Expr}
  (hsc:g8 env.scope.names sc x=true) (X:Cx fns k A P h env σ) (hset:∀ v,foldedSetIterable iter env v=pure v)
  (h:∀ cl:List (Str×Addr),(∀ n,(n,NameKind.free)∈sc.names->cl.lookup n=env.cells.lookup n)->wpAny (model prog w) A (eval iter env) (λv s₁=>wpAny (model prog w) A (pyIter v) (λi t=>wpAny (model prog w) A (newObj (.type "list") (.seq #[]) none) (λacc u=>
   wpAny (model prog w) A (newFunctionEnv sc env.globals cl [] env.qual none .none (some env)) (λcenv s₄=>
    codeAny (model prog w) A (.compStart (.ListComp elt [⟨.Name (Str.ofString x) px,iter,ifs,0⟩] sc pos) 0 i acc {cenv with scope:=relabel sc env }) (compPost (model prog w) A Er none Q acc cenv.locals) s₄) Er u) Er t) Er s₁) Er s) :
  wpAny (model prog w) A (eval (.ListComp elt [⟨.Name (Str.ofString x) px,iter,ifs,0⟩] sc pos) env) Q Er s:=by
 refine cU (iV hsc) λhk l q g=>?_
 obtain ⟨cl,m,j⟩:=ll (scope:=sc) (env:=env) (λp r e=>by
  rcases g p r with h | h | h | h
  ·rw[h.1] at e; cases e
  ·rw[h] at e; cases e
  ·rw[h.1] at e; cases e
  ·exact X.eok.cells p.1 h.2)
 rw[eval_ListComp]
 exact wpAny_comprehension_free (use:=none) rfl hset m hk (λy o e=>by rw[<- e]; exact iF l o) (h cl j)
theorem fw {α:Type}{o:Out α}(h:o.calm≠.bad):∃ a,o = .ok a:=by
 cases o with
 | ok a=>exact ⟨a,rfl⟩
 | exc c=>exact absurd rfl h
 | bad=>exact absurd rfl h
theorem w8 {elt:E}(Si:dR fns k C XP it) (Se:SimE fns k C XP elt):SimE fns k C XP (.comp elt x it):=by
 intro ex A env σ P s Q Er ok X nb hQ hE
 replace ok:=uB ok
 revert ok; refine λg=>Or.elim g (λj=>?_) (λok=>?_)
 ·clear g
  refine sA (j) λMr M0 MZ M4 Nf z n ok=>?_
  clear j
  subst n
  simp only[and_eq_true,beq_iff_eq] at ok
  refine ab (ok) λp oe=>?_
  clear ok
  refine ab (p) λo oi=>?_
  clear p
  refine ab (o) λLD t=>?_
  clear o
  subst LD
  simp only[cX] at nb hQ hE
  refine aM nb λn1 n2=>?_
  refine nr t X (oK oi env) λcl hcl=>Si oi X n1 (λq hq i s₂ I=>?_) λc u=>hE c (by rw[u]; rfl)
  refine ah (fw (bk (n2 q hq)).1) λres l=>?_
  refine fM (RR:=λacc C=>compPost (model prog w) A Er none Q acc C) (ds:=q.1) t X l (λd r hf cenv sc P' Q₁ Qb Er' hN X' h1 h2=>wpAny_tests_nil ?_) I (λD C h tk m E hm hC=>(ag m hm (λh' hs=>hQ _ (by rw[hq,Out.ok_bind,l]; rfl) _ _ (E.sameBut hm hC hs)))) hcl
  rw[if_pos rfl]
  refine Out.bind_k hf λy hy e=>?_
  (have oc:=Out.ok.inj e; clear e; (clear h1 hf; subst oc))
  refine Se (hN▸oe) X' (by rw[hy]; simp) (λr hr v s' E=>h2 r (by rw[hy] at hr; (have oc:=Out.ok.inj hr; clear hr; (clear E; subst oc)); rfl) v s' E) λc u=>by rw[hy] at u; cases u
 ·cases ok
theorem sK {elt c:E}(Si:dR fns k C XP it) (Se:SimE fns k C XP elt) (Sc:SimT fns k C XP c):SimE fns k C XP (.compif elt x it c):=by
 intro ex A env σ P s Q Er ok X nb hQ hE
 replace ok:=oP ok
 revert ok; refine λl=>Or.elim l (λn=>?_) (λok=>?_)
 ·clear l
  refine lS (n) λMx MU M5 M7 Nd M9 M8 z ok=>?_
  clear n
  subst z
  simp only[and_eq_true,beq_iff_eq] at ok
  refine ab (ok) λLB oe=>?_
  clear ok
  refine ab (LB) λp j=>?_
  clear LB
  refine ab (p) λo oi=>?_
  clear p
  refine ab (o) λLK hsc=>?_
  clear o
  subst LK
  simp only[cb] at nb hQ hE
  refine aM nb λn1 n2=>?_
  refine nr hsc X (oK oi env) λcl hcl=>Si oi X n1 (λq hq i s₂ I=>?_) λc hc=>hE c (by rw[hc]; rfl)
  refine ah (fw (bk (n2 q hq)).1) λres u=>?_
  refine fM (RR:=λacc C=>compPost (model prog w) A Er none Q acc C) (ds:=q.1) hsc X u (λd r hf cenv sc P' Q₁ Qb Er' hN X' h1 h2=>wpAny_tests_one ?_) I (λD C h tk m E hm hC=>(ag m hm (λh' hs=>hQ _ (by rw[hq,Out.ok_bind,u]; rfl) _ _ (E.sameBut hm hC hs)))) hcl
  refine Out.bind_k hf λt ht hf=>?_
  refine Out.bind_k hf λb hb hf=>?_
  refine Sc (hN▸j) X' (by rw[ht,Out.ok_bind,hb]; simp) (λb' hb' s₄ g=>?_) λc hc=>by rw[ht] at hc; cases hc
  rw[ht,Out.ok_bind,hb] at hb'
  injection hb'
  cases b with
  | false=>(have j:=Out.ok.inj hf; clear hf; (clear h2; subst j)); simpa using h1 rfl s₄ g
  | true=>
   rw[if_pos rfl] at hf ⊢
   refine Out.bind_k hf λy hy e=>?_
   (have j:=Out.ok.inj e; clear e; (clear h1; subst j))
   exact Se (hN▸oe) (X'.k g.k) (by rw[hy]; simp) (λr hr v s' E=>h2 r (by rw[hy] at hr; (have j:=Out.ok.inj hr; clear hr; (clear E; subst j)); rfl) v s' (E.after g)) λc hc=>by rw[hy] at hc; cases hc
 ·cases ok
end
theorem jI (val:Nat->Int):∀ k,argBest (λi j=>decide (val i>val j)) k<=k/\∀ j,j<=k->val j<=val (argBest (λi j=>decide (val i>val j)) k)
 | 0=>⟨le_refl _,λj g=>by
  have:j=0:=by exact GP g
  (clear g; subst this)
  exact Int.le_refl _⟩
 | k+1=>by
  refine ab (jI val k) λl h=>?_
  unfold argBest
  by_cases hc:val (k+1)>val (argBest (λi j=>decide (val i>val j)) k)
  ·rw[if_pos (by simpa using hc)]
   refine ⟨le_refl _,λj g=>?_⟩
   by_cases e:j=k+1
   ·(clear g; subst e); exact Int.le_refl _
   ·have:=h j (yL g e); exact GR hc this
  ·rw[if_neg (by simpa using hc)]
   refine ⟨by exact le_succ_of_le ‹_›,λj g=>?_⟩
   by_cases e:j=k+1
   ·(clear g; subst e); exact Dx hc
   ·exact h j (yL g e)
theorem oQ (h:eC ns=some m):ns[argBest (λi j=>decide (ns[i]?.getD 0>ns[j]?.getD 0)) (ns.length-1)]?.getD 0=m:=by
 refine ab (jI (λi=>ns[i]?.getD 0) (ns.length-1)) λu t=>?_
 refine ab (mK h) λl o=>?_
 have r:0<ns.length:=List.length_pos_of_mem l
 generalize argBest (λi j=>decide (ns[i]?.getD 0>ns[j]?.getD 0)) (ns.length-1)=b at *
 have q:ns[b]? = some ns[b]:=List.getElem?_eq_getElem (Ff r u)
 rw[q]
 dsimp only [Option.getD_some]
 have n:=o ns[b] (List.getElem_mem _)
 refine ah (getElem_of_mem l) λj g=>?_
 refine ah (g) λp e=>?_
 clear g
 have k:=t j (sv p)
 rw[q,List.getElem?_eq_getElem p,e] at k
 simp only[Option.getD_some] at k
 exact yz n k
section
theorem z6 (h:IntsAre vs ns):∀ {i:Nat}{v:Value},vs[i]? = some v->∃ t,v = .int (ns[i]?.getD 0) t:=by
 induction h with
 | nil=>intro i v h; simp at h
 | cons n t _ ih=>
  intro i v h
  cases i with
  | zero=>simp at h; exact ⟨t,by simp[<- h]⟩
  | succ i=>simpa using ih (by simpa using h)
theorem vH (hh:A.handled=none) (ra:R s.heap va (.list xs) as) (hi:aF xs=some ns)
  (hG:∀ I fp wr Pw St y,Walks prog w A I fp wr ns.length Pw St->St 0 y.heap->(∀ b∈fp,b<y.heap.objs.size)->(∀ i v,Pw i v->∃ t,v = .int (ns[i]?.getD 0) t)->(∀ b∈wr,s.heap.get? b=none/\∀ o,y.heap.get? b=some o->¬ Stay o)->Kp s y->G (.ref I) y) :
  wpAny (model prog w) A (pyIter va) G Er s:=by
 refine ra.isList_k λa p n x m h g l=>?_
 (clear ra; subst m)
 subst l
 refine aI (g.ints hi) λu k j=>?_
 subst k
 subst j
 have e:p.toArray.size=ns.length:=by rw[size_toArray,g.length,length_map]
 have W:=Walks.list (prog:=prog) (w:=w) (A:=A) hh s.heap.objs.size a (fj h) p.toArray
 rw[e] at W
 refine wpAny_pyIter_list (isL h) (hG _ _ _ _ _ _ W ⟨(aL _ (Heap.get?_push_size _ rfl) rfl rfl),(isL h).push _⟩ ?_ ?_ ?_ (.push s _ _))
 ·intro b hb
  rw[show _=s.heap.objs.size+1 from size_push ..]
  rcases mem_cons.mp hb with rfl | hb
  ·exact Nat.lt_succ_self _
  ·rw[mem_singleton.mp hb]; exact lt_succ_of_lt (lt_size h)
 ·intro i v r
  exact z6 u (by simpa using r)
 ·intro b hb
  rw[mem_singleton.mp hb]
  refine ⟨bv _,λo e=>?_⟩
  rw[show _=some _ from Heap.get?_push_size _ rfl] at e
  injection e
  exact Stay.not_cls (by simp) (by simp)
theorem Kp.after {s j:Shared}{h':Heap}{tk:Nat}{wr:List Addr}(kp:Kp s j) (hwr:∀ b∈wr,s.heap.get? b=Option.none/\∀ o,j.heap.get? b=some o->¬ Stay o) (hk:∀ b o,b∉wr->j.heap.get? b=some o->h'.get? b=some o):Kp s {j with heap:=h',toks:=tk }:=by
 refine aq (kp) λh t g k=>?_
 clear kp
 subst g
 exact (ay h' tk rfl (K.step k (KG.ofW hk λb i=>(hwr b i).2) λb o e i=>by rw[(hwr b i).1] at e; cases e))
theorem xb (hh:A.handled=none) (ra:R s.heap va (.list xs) as) (hi:aF xs=some ns) (hm:eC ns=some m) (hQ:∀ v s',EP P s (sI m) v s'->Q v s'):wpAny (model prog w) A (call (.builtin "max") [va]) Q Er s:=by
 refine call_max_walk (vH (A:=A.in1) hh ra hi λI q o Pw St l W j k g i p=>(CG I q o _ Pw St _ rfl W j k (List.length_pos_of_mem (mK hm).1) (CmpOf.ints_gt _ g) (λv u r n hk=>?_)))
 refine ah (g _ _ n) λt h=>?_
 (clear n; subst h)
 rw[oQ hm]
 exact hQ _ _ (.int (p.after i hk))
noncomputable def Isi (s:Shared) (t:String) (v:Value) (b:Bool):Prop:=∀ (A:Around) (Q:Value->Shared->Prop) (Er:Value->Shared->Prop),(∀ s',Kp s s'->Q (.bool b) s')->wpAny (model prog w) A (call (.builtin "isinstance") [v,.type t]) Q Er s
theorem jo {t:String}{f:Nat->Bool}(h0:Isi s t .none (f 0)) (h1:∀ b,Isi s t (.bool b) (f 1)) (h2:∀ i u,Isi s t (.int i u) (f 2)) (h3:∀ x u,Isi s t (.str x u) (f 3))
  (h4:∀ {a:Addr}{n:Nat}{vs:List Value},s.heap.get? a=some ⟨.type "list", none,.seq vs.toArray n,#[]⟩->Isi s t (.ref a) (f 4)) (h5:∀ {a:Addr}{n:Nat}{vs:List Value},s.heap.get? a=some ⟨.type "tuple", none,.seq vs.toArray n,#[]⟩->Isi s t (.ref a) (f 5))
  {x:PyData}(ra:R s.heap va x as):Isi s t va (f (qp x)) :=
 (R.ind (M:=λv d _=>Isi s t v (f (qp d))) (N:=λuu uu uu=>True) h0 h1 h2 h3 (λe _ _=>h4 e) (λe _ _=>h5 e) trivial λuu uu uu uu=>trivial).1 ra
theorem xl (he:mz t (qp x)=some b) (ra:R s.heap va x as) (hQ:∀ s',Kp s s'->Q (.bool b) s'):wpAny (model prog w) A (call (.builtin "isinstance") [va,.type t]) Q Er s :=
 have l:=Kp.refl s
 have g:=Kp.toks s (s.toks+1)
 oN he (λq j=>q▸(jo (t:="int") (f:=λk=>(k==2||k==1)) (λA Q Er h=>IsiPair.NoneType_int (h _ g)) (λuu A Q Er h=>IsiPair.bool_int (h _ l)) (λuu i A Q Er h=>IsiPair.int_int (h _ l)) (λuu i A Q Er h=>IsiPair.str_int (h _ g)) (λe A Q Er h=>IsiPair.list_int e rfl (h _ g)) (λe A Q Er h=>IsiPair.tuple_int e rfl (h _ g)) ra) _ _ _ (j▸hQ))
  (λq j=>q▸(jo (t:="bool") (f:=λk=>(k==1)) (λA Q Er h=>IsiPair.NoneType_bool (h _ g)) (λuu A Q Er h=>IsiPair.bool_bool (h _ l)) (λuu i A Q Er h=>IsiPair.int_bool (h _ g)) (λuu i A Q Er h=>IsiPair.str_bool (h _ g)) (λe A Q Er h=>IsiPair.list_bool e rfl (h _ g)) (λe A Q Er h=>IsiPair.tuple_bool e rfl (h _ g)) ra) _ _ _ (j▸hQ))
  (λq j=>q▸(jo (t:="list") (f:=λk=>(k==4)) (λA Q Er h=>IsiPair.NoneType_list (h _ g)) (λuu A Q Er h=>IsiPair.bool_list (h _ g)) (λuu i A Q Er h=>IsiPair.int_list (h _ g)) (λuu i A Q Er h=>IsiPair.str_list (h _ g)) (λe A Q Er h=>IsiPair.list_list e rfl (h _ l)) (λe A Q Er h=>IsiPair.tuple_list e rfl (h _ g)) ra) _ _ _ (j▸hQ))
  (λq j=>q▸(jo (t:="tuple") (f:=λk=>(k==5)) (λA Q Er h=>IsiPair.NoneType_tuple (h _ g)) (λuu A Q Er h=>IsiPair.bool_tuple (h _ g)) (λuu i A Q Er h=>IsiPair.int_tuple (h _ g)) (λuu i A Q Er h=>IsiPair.str_tuple (h _ g)) (λe A Q Er h=>IsiPair.list_tuple e rfl (h _ g)) (λe A Q Er h=>IsiPair.tuple_tuple e rfl (h _ l)) ra) _ _ _ (j▸hQ))
  (λq j=>q▸(jo (t:="str") (f:=λk=>(k==3)) (λA Q Er h=>IsiPair.NoneType_str (h _ g)) (λuu A Q Er h=>IsiPair.bool_str (h _ g)) (λuu i A Q Er h=>IsiPair.int_str (h _ g)) (λuu i A Q Er h=>IsiPair.str_str (h _ l)) (λe A Q Er h=>IsiPair.list_str e rfl (h _ g)) (λe A Q Er h=>IsiPair.tuple_str e rfl (h _ g)) ra) _ _ _ (j▸hQ))
end
noncomputable def rkA (rk:Keyed->Nat) (arr:Array Keyed) (i:Nat):Nat:=match arr[i]? with
 | some p=>rk p
 | none=>0
noncomputable def aZ (M:Model) (A:Around) (E:Value->Shared->Prop) (s:Shared) (rk:Keyed->Nat) (ok:Keyed->Prop) (κ:SortKind):Prop :=
 ∀ {x y:Keyed}{st:SortSt}{Q:Option Bool->SortSt->Prop},ok x->ok y->kindOf st=κ->Q (some (decide (rk x<rk y))) st->wpS M A E s (lt' x y) Q st
noncomputable def Up (rk:Keyed->Nat) (l:List Keyed):Prop:=l.Pairwise λx y=>rk x<=rk y
structure Gd (rk:Keyed->Nat) (ok:Keyed->Prop) (κ:SortKind) (st:SortSt):Prop where
 ok:∀ p∈arrOf st,ok p
 kind:kindOf st=κ
noncomputable def SegUp (rk:Keyed->Nat) (arr:Array Keyed) (lo n:Nat):Prop:=∀ i j,lo<=i->i<=j->j<lo+n->rkA rk arr i<=rkA rk arr j
structure SG where
 A:Around
 E:Value->Shared->Prop
 s:Shared
 rk:Keyed->Nat
 ok:Keyed->Prop
 κ:SortKind
noncomputable def gM:Model:=model prog w
noncomputable def SP1 (x:SG):Prop:=aZ gM x.A x.E x.s x.rk x.ok x.κ->∀ {st:SortSt}{Q:Unit->SortSt->Prop},Gd x.rk x.ok x.κ st->2<=(arrOf st).size->(arrOf st).size<64->pendingOf st = #[]->failedOf st=none->(∀ st',(arrOf st').Perm (arrOf st)->Up x.rk (arrOf st').toList->failedOf st' = none->Q () st')->wpS gM x.A x.E x.s sortRuns' Q st
noncomputable def SP2 (x:SG):Prop:=aZ gM x.A x.E x.s x.rk x.ok x.κ->∀ {st:SortSt}{Q:Unit->SortSt->Prop},Gd x.rk x.ok x.κ st->2<=(arrOf st).size->(arrOf st).size<128->pendingOf st = #[]->failedOf st=none->SegUp x.rk (arrOf st) 0 (arrOf st).size->(∀ st',arrOf st' = arrOf st->failedOf st' = none->Q () st')->wpS gM x.A x.E x.s sortRuns' Q st
noncomputable def SP3 (x:SG):Prop:=aZ gM x.A x.E x.s x.rk x.ok x.κ->∀ {st:SortSt}{Q:Unit->SortSt->Prop},Gd x.rk x.ok x.κ st->2<=(arrOf st).size->(arrOf st).size<128->pendingOf st = #[]->failedOf st=none->(∀ st',(arrOf st').Perm (arrOf st)->Up x.rk (arrOf st').toList->failedOf st' = none->Q () st')->wpS gM x.A x.E x.s sortRuns' Q st
noncomputable def lW (x:SG):Prop:=SP1 x/\SP2 x/\SP3 x
noncomputable def sg:SG:=@Classical.epsilon SG ⟨⟨{},λ_ _=>True,{},λ_=>0,λ_=>True,oneType'⟩⟩ λx=>¬ lW x
theorem vL (h:lW sg):∀ x,lW x:=λx=>Classical.byContradiction λn=>@Classical.epsilon_spec SG (λx=>¬ lW x) ⟨x,n⟩ h
noncomputable def gA:Around:=sg.A
noncomputable def gE:Value->Shared->Prop:=sg.E
noncomputable def gs:Shared:=sg.s
noncomputable def gr:Keyed->Nat:=sg.rk
noncomputable def go:Keyed->Prop:=sg.ok
noncomputable def gk:SortKind:=sg.κ
noncomputable def gallop':Bool->Keyed->Array Keyed->Nat->Nat->Nat->StateT SortSt Sem (Option Nat):=sortPriv% PySem.Builtin.gallop
section
theorem aK {arr:Array Keyed}{i:Nat}{st:SortSt}{Q:Keyed->SortSt->Prop}(hi:i<arr.size) (h:Q arr[i] st):wpS gM gA gE gs (elem' arr i) Q st:=by
 rw[elem'_eq,Array.getElem?_eq_getElem hi]
 exact wpS_pure h
theorem fe (hi:i<arr.size):rkA gr arr i=gr arr[i]:=by unfold rkA; rw[Array.getElem?_eq_getElem hi]
theorem AC (hlt:aZ gM gA gE gs gr go gk) {left:Bool}{key:Keyed}{arr:Array Keyed}{i:Nat}{st:SortSt}{Q:Option Bool->SortSt->Prop}(hi:i<arr.size) (hok:∀ p∈arr,go p) (hkey:go key) (hk:kindOf st=gk)
  (h:Q (some (if left then decide (rkA gr arr i<gr key) else !decide (gr key<rkA gr arr i))) st):wpS gM gA gE gs (do let x <- elem' arr i; if left=true then lt' x key else do let r <- lt' key x; pure (r.map λb=>!b)) Q st:=by
 refine wpS_bind (aK hi ?_)
 rw[fe hi] at h
 have g:=hok arr[i] (getElem_mem hi)
 cases left with
 | true=>rw[if_pos rfl] at h ⊢; exact hlt g hkey hk h
 | false=>
  rw[if_neg (by decide)] at h ⊢
  exact wpS_bind (hlt hkey g hk (wpS_pure h))
theorem lV (hlt:aZ gM gA gE gs gr go gk) {left:Bool}{key:Keyed}{arr:Array Keyed}{base n hint:Nat}{st:SortSt}{Q:Option Nat->SortSt->Prop}(hn:base+n<=arr.size) (hh:hint<n) (hok:∀ p∈arr,go p) (hkey:go key) (hk:kindOf st=gk)
  (bey:Nat->Bool) (hb:∀ i,bey i=if left then decide (rkA gr arr (base+i)<gr key) else !decide (gr key<rkA gr arr (base+i))) (hm:∀ i j,i<=j->j<n->bey j=true->bey i=true)
  (h:∀ k,k<=n->(∀ i,i<k->bey i=true)->(∀ i,k<=i->i<n->bey i=false)->Q (some k) st):wpS gM gA gE gs (gallop' left key arr base n hint) Q st:=by
 unfold gallop'
 have look:∀ {i:Nat}{st:SortSt}{Q:Option Bool->SortSt->Prop},i<n->kindOf st=gk->Q (some (bey i)) st->wpS gM gA gE gs (do let x <- elem' arr (base+i); if left=true then lt' x key else do let r <- lt' key x; pure (r.map λb=>!b)) Q st:=λ{i st Q} m hk h=>AC hlt (zg hn m) hok hkey hk (by rw[<- hb]; exact h)
 have hm':∀ i j,i<=j->j<n->bey i=false->bey j=false:=λi j z y h3=>by
  cases q:bey j with
  | false=>rfl
  | true=>rw[hm i j z y q] at h3; cases h3
 have fin:∀ (g m:Nat) {R:Option (Option Nat)×Nat×Nat->SortSt->Prop}{f:Nat->Option (Option Nat)×Nat×Nat->StateT SortSt Sem (ForInStep (Option (Option Nat)×Nat×Nat))},g<=m->m<=n->(∀ i,i<g->bey i=true)->(∀ i,m<=i->i<n->bey i=false) ->
   (∀ x g m {Q:ForInStep (Option (Option Nat)×Nat×Nat)->SortSt->Prop} , g<m->m<=n->Q (.yield (none,if bey (g+(m-g)/2) then g+(m-g)/2+1 else g,if bey (g+(m-g)/2) then m else g+(m-g)/2)) st->wpS gM gA gE gs (f x (none,g,m)) Q st) ->
   (∀ x g {Q:ForInStep (Option (Option Nat)×Nat×Nat)->SortSt->Prop},Q (.done (none,g,g)) st->wpS gM gA gE gs (f x (none,g,g)) Q st) ->
   (∀ k,k<=n->(∀ i,i<k->bey i=true)->(∀ i,k<=i->i<n->bey i=false)->R (none,k,k) st)->wpS gM gA gE gs (forIn [0:n] (none,g,m) f) R st:=by
  intro g m R f z y h3 h4 hs hd hR
  refine wpS_forRange (I:=λx c o=>o=st/\∃ g m,c=(none,g,m)/\g<=m/\m<=n/\m-g<=n-x/\(∀ i,i<g->bey i=true)/\(∀ i,m<=i->i<n->bey i=false)) ?_ ?_ (az rfl (oG g m rfl z y (DY y) h3 h4))
  ·rintro x c o _ hx ⟨rfl,g,m,rfl,u,v,g3,g4,g5⟩
   by_cases e:g=m
   ·(clear u g3; subst e)
    exact hd x g (hR g v g4 g5)
   ·refine hs x g m (IE u e) v (az rfl (ay _ _ rfl ?_))
    cases q:bey (g+(m-g)/2) with
    | true=>
     simp only[if_true]
     exact (cr (Hi u e) v (I9 g3) (λi hi'=>hm i _ (De hi') (HH u v e) q) g5)
    | false=>
     simp only[false_eq_true,if_false]
     exact (cr FG (CM u v) (Fj g3) g4 (λi z y=>hm' _ i z y q))
  ·rintro c o ⟨rfl,g,m,rfl,u,v,g3,g4,g5⟩
   have:g=m:=by exact Dl u g3
   (clear u g3; subst this)
   exact hR g v g4 g5
 refine wpS_bind (look hh hk ?_)
 dsimp only
 cases hr:bey hint with
 | true=>
  rw[if_pos rfl]
  refine wpS_bind (wpS_mono (wpS_forRange (I:=λx c o=>o=st/\∃ t l,c=(none,t,l)/\t<l/\hint+t<n/\bey (hint+t)=true/\x+1<=l)
   (Q:=λc o=>o=st/\∃ t l,c=(none,t,l)/\t<l/\hint+t<n/\bey (hint+t)=true/\(n-hint<=l\/bey (hint+l)=false)) ?_ ?_ (az rfl (bI 0 1 rfl yd (Iq hh) hr yV))) ?_)
  ·rintro x c o _ hx ⟨rfl,t,l,rfl,u,v,g3,g4⟩
   dsimp only
   by_cases e:l≥n-hint
   ·rw[if_pos e]; exact wpS_pure (az rfl (bI t l rfl u v g3 (.inl e)))
   ·rw[if_neg e]
    refine wpS_bind (look (yI e) hk ?_)
    dsimp only
    cases q:bey (hint+l) with
    | false=>exact wpS_pure (az rfl (bI t l rfl u v g3 (.inr q)))
    | true=>exact wpS_pure (az rfl (bI l (2*l+1) rfl zJ (yI e) q (zi g4)))
  ·rintro c o ⟨rfl,t,l,rfl,u,v,g3,g4⟩
   exact (az rfl (bI t l rfl u v g3 (.inl (H4 g4))))
  ·rintro c o ⟨rfl,t,l,rfl,u,v,g3,g4⟩
   dsimp only
   refine wpS_bind (fin _ _ (G2 u v) (EY hh) (λi m=>hm i _ (Gi m) v g3) (λi z y=>?_) (λx g m Q z y hQ=>?_) (λx g Q hQ=>?_) λk z y h3=>wpS_pure (h k z y h3))
   ·rcases g4 with g4 | g4
    ·exact ID z y g4
    ·exact hm' _ i (G4 z y) y g4
   ·dsimp only
    rw[if_neg (zF z)]
    refine wpS_bind (look (zT z y) hk ?_)
    dsimp only
    cases q:bey (g+(m-g)/2) with
    | true=>rw[q] at hQ; exact wpS_pure hQ
    | false=>rw[q] at hQ; exact wpS_pure hQ
   ·dsimp only
    rw[if_pos (le_refl _)]
    exact wpS_pure hQ
 | false=>
  rw[if_neg (by decide)]
  refine wpS_bind (wpS_mono (wpS_forRange (I:=λx c o=>o=st/\∃ t l,c=(none,t,l)/\t<l/\t<=hint/\bey (hint-t)=false/\x+1<=l)
   (Q:=λc o=>o=st/\∃ t l,c=(none,t,l)/\t<l/\t<=hint/\bey (hint-t)=false/\(hint+1<=l\/(l<=hint/\bey (hint-l)=true))) ?_ ?_ (az rfl (bI 0 1 rfl yd Hz hr yV))) ?_)
  ·rintro x c o _ hx ⟨rfl,t,l,rfl,u,v,g3,g4⟩
   dsimp only
   by_cases e:l≥hint+1
   ·rw[if_pos e]; exact wpS_pure (az rfl (bI t l rfl u v g3 (.inl e)))
   ·rw[if_neg e]
    refine wpS_bind (look (yt hh) hk ?_)
    dsimp only
    cases q:bey (hint-l) with
    | true=>exact wpS_pure (az rfl (bI t l rfl u v g3 (.inr ⟨by exact zI e,q⟩)))
    | false=>exact wpS_pure (az rfl (bI l (2*l+1) rfl zJ (zI e) q (zi g4)))
  ·rintro c o ⟨rfl,t,l,rfl,u,v,g3,g4⟩
   exact (az rfl (bI t l rfl u v g3 (.inl (GO hh g4))))
  ·rintro c o ⟨rfl,t,l,rfl,u,v,g3,g4⟩
   dsimp only
   refine wpS_bind (fin _ _ ?_ (IW hh) (λi m=>?_) (λi z y=>hm' _ i z y g3) (λx g m Q z y hQ=>?_) (λx g Q hQ=>?_) λk z y h3=>wpS_pure (h k z y h3))
   ·rcases g4 with g4 | ⟨g4,g5⟩
    ·exact Jv g4
    ·exact Hn u
   ·rcases g4 with g4 | ⟨g4,g5⟩
    ·exact Hr m g4
    ·exact hm i (hint-l) (EG m) (yt hh) g5
   ·dsimp only
    rw[if_neg (zF z)]
    refine wpS_bind (look (zT z y) hk ?_)
    dsimp only
    cases q:bey (g+(m-g)/2) with
    | true=>rw[q] at hQ; exact wpS_pure hQ
    | false=>rw[q] at hQ; exact wpS_pure hQ
   ·dsimp only
    rw[if_pos (le_refl _)]
    exact wpS_pure hQ
end
noncomputable def mergeLo':Array Keyed->Array Keyed->StateT SortSt Sem (Array Keyed):=sortPriv% PySem.Builtin.mergeLo
theorem Up.le {gr:Keyed->Nat}(h:Up gr l) (hi:i<l.length):∀ y∈l.drop i,gr l[i]<=gr y:=by
 intro y hy
 rw[drop_eq_getElem_cons hi] at hy
 rcases mem_cons.mp hy with rfl | hy
 ·exact le_refl _
 ·have:=pairwise_append.mp (show (l.take (i+1)++l.drop (i+1)).Pairwise _ by rw[take_append_drop]; exact h)
  exact this.2.2 l[i] (by rw[List.take_succ_eq_append_getElem hi]; exact mem_append_right _ (.head _)) y hy
structure MI (gr:Keyed->Nat) (a b o:List Keyed) (i j:Nat):Prop where
 perm:o.Perm (a.take i++b.take j)
 sorted:Up gr o
 la:∀ x∈o,∀ y∈a.drop i,gr x<=gr y
 lb:∀ x∈o,∀ y∈b.drop j,gr x<=gr y
section
theorem take_add' (l:List α) (i k:Nat):l.take (i+k)=l.take i++(l.drop i).take k:=List.take_add ..
theorem MI.swap (h:MI gr a b o i j):MI gr b a o j i:=⟨h.perm.trans List.perm_append_comm,h.sorted,h.lb,h.la⟩
theorem MI.blockB (h:MI gr a b o i j) (ub:Up gr b) (k:Nat) (hlt:∀ x∈(b.drop j).take k,∀ y∈a.drop i,gr x<=gr y):MI gr a b (o++(b.drop j).take k) i (j+k) where
 perm:=by
  rw[take_add',<- append_assoc]
  exact h.perm.append_right _
 sorted:=pairwise_append.mpr ⟨h.sorted,(ub.sublist (List.drop_sublist j b)).sublist (List.take_sublist ..),λx l y g=>h.lb x l y (mem_of_mem_take g)⟩
 la:=λx l y g=>(mem_append.mp l).elim (λq=>h.la x q y g) λq=>hlt x q y g
 lb:=λx l y g=>(mem_append.mp l).elim (λq=>h.lb x q y (by rw[<- drop_drop] at g; exact List.mem_of_mem_drop g)) λq=>by
  have:=pairwise_append.mp (show ((b.drop j).take k++(b.drop j).drop k).Pairwise _ by rw[take_append_drop]; exact ub.sublist (List.drop_sublist j b))
  exact this.2.2 x q y (by rw[drop_drop]; exact g)
theorem MI.blockA (h:MI gr a b o i j) (ua:Up gr a) (k:Nat) (hlt:∀ x∈(a.drop i).take k,∀ y∈b.drop j,gr x<=gr y):MI gr a b (o++(a.drop i).take k) (i+k) j:=(h.swap.blockB ua k hlt).swap
theorem f9 {α:Type}{l:List α}{i:Nat}(hi:i<l.length):(l.drop i).take 1=[l[i]]:=by rw[drop_eq_getElem_cons hi]; rfl
theorem MI.pushB (h:MI gr a b o i j) (ub:Up gr b) (hj:j<b.length) (hlt:∀ y∈a.drop i,gr b[j]<=gr y):MI gr a b (o++[b[j]]) i (j+1):=by
 have:=h.blockB ub 1 (by rw[f9 hj]; intro x g; rw[mem_singleton.mp g]; exact hlt)
 rwa [f9 hj] at this
theorem MI.pushA (h:MI gr a b o i j) (ua:Up gr a) (hi:i<a.length) (hlt:∀ y∈b.drop j,gr a[i]<=gr y):MI gr a b (o++[a[i]]) (i+1) j:=(h.swap.pushB ua hi hlt).swap
def Mgd (gr:Keyed->Nat) (a b:List Keyed) (r:Array Keyed):Prop:=r.toList.Perm (a++b)/\Up gr r.toList
theorem MI.doneB (h:MI gr a b o i b.length) (ua:Up gr a):(o++a.drop i).Perm (a++b)/\Up gr (o++a.drop i):=by
 have:=h.blockA ua (a.length-i) (λx _ y g=>by rw[drop_length] at g; cases g)
 rw[take_of_length_le (by rw[length_drop]; exact le_refl _)] at this
 refine ⟨this.perm.trans ?_,this.sorted⟩
 rw[List.take_length,take_of_length_le (show a.length<=i+(a.length-i) by exact GQ)]
theorem MI.doneA (h:MI gr a b o a.length j) (ub:Up gr b):(o++b.drop j).Perm (a++b)/\Up gr (o++b.drop j):=by
 obtain ⟨i,g⟩:=h.swap.doneB ub
 exact ⟨i.trans List.perm_append_comm,g⟩
theorem MI.last (h:MI gr a b o i j) (ua:Up gr a) (ub:Up gr b) (hi:i+1=a.length) (ht:∀ x∈b,∀ y∈a.drop i,gr x<=gr y):(o++b.drop j++a.drop i).Perm (a++b)/\Up gr (o++b.drop j++a.drop i):=by
 have:=h.blockB ub (b.length-j) (λx k y g=>ht x (List.mem_of_mem_drop (mem_of_mem_take k)) y g)
 rw[take_of_length_le (show (b.drop j).length<=b.length-j by rw[length_drop]; exact le_refl _)] at this
 by_cases hj:j<=b.length
 ·rw[show j+(b.length-j)=b.length by exact j6 hj] at this
  exact this.doneB ua
 ·have e:b.drop j=[]:=List.drop_eq_nil_iff.mpr (yk hj)
  have l:MI gr a b o i b.length:=⟨h.perm.trans (by rw[take_of_length_le (show b.length<=j by exact yk hj),List.take_length]),h.sorted,h.la,λx _ y g=>by rw[drop_length] at g; cases g⟩
  rw[e,append_nil]
  exact l.doneB ua
end
section
def Sm (st st':SortSt):Prop:=kindOf st' = kindOf st/\arrOf st' = arrOf st/\pendingOf st' = pendingOf st/\failedOf st' = failedOf st
theorem Sm.refl (st:SortSt):Sm st st:=⟨rfl,rfl,rfl,rfl⟩
theorem Sm.trans (h:Sm x y) (g:Sm y z):Sm x z:=⟨g.1.trans h.1,g.2.1.trans h.2.1,g.2.2.1.trans h.2.2.1,g.2.2.2.trans h.2.2.2⟩
theorem cW {x:String}{st:SortSt}{Q:Unit->SortSt->Prop}(h:Q () st):wpS gM gA gE gs (liftM (rule x):StateT SortSt Sem Unit) Q st:=wpS_pure (M:=gM) (E:=gE) h
noncomputable def setMin':Nat->StateT SortSt Sem Unit:=sortPriv% PySem.Builtin.setMinGallop
theorem fV {g:Nat}{st:SortSt}{Q:Unit->SortSt->Prop}(h:∀ st',Sm st st'->Q () st'):wpS gM gA gE gs (setMin' g) Q st:=wpS_modify (h _ ⟨rfl,rfl,rfl,rfl⟩)
theorem gj {l:List Keyed}{i n:Nat}{P:Keyed->Prop}(h:∀ q (hq:i+q<l.length),q<n->P l[i+q]):∀ x∈(l.drop i).take n,P x:=by
 intro x g
 obtain ⟨q,hq,rfl⟩:=getElem_of_mem g
 rw[length_take,length_drop] at hq
 rw[getElem_take,getElem_drop]
 exact h q (sw hq) (Dd hq)
theorem drop_mem' {l:List Keyed}{i:Nat}{P:Keyed->Prop}(h:∀ q (hq:i+q<l.length),P l[i+q]):∀ x∈l.drop i,P x:=by
 intro x g
 obtain ⟨q,hq,rfl⟩:=getElem_of_mem g
 rw[length_drop] at hq
 rw[getElem_drop]
 exact h q (oC hq)
theorem cj (hi:i<arr.toList.length):rkA gr arr i=gr arr.toList[i]:=by rw[length_toList] at hi; rw[fe hi]; rfl
theorem bS (a:Array Keyed) (i j:Nat):(a.extract i j).toList=(a.toList.drop i).take (j-i):=by
 rw[Array.toList_extract,List.extract_eq_take_drop]
theorem eS (a:Array Keyed) (i:Nat):(a.extract i a.size).toList=a.toList.drop i:=by
 rw[bS,take_of_length_le (by rw[length_drop,length_toList]; exact le_refl _)]
theorem dQ (hlt:aZ gM gA gE gs gr go gk) {left:Bool}{key:Keyed}{arr:Array Keyed}{base n hint:Nat}{st:SortSt}{Q:Option Nat->SortSt->Prop}(hn:base+n<=arr.size) (hh:hint<n) (hok:∀ p∈arr,go p) (hkey:go key) (hk:kindOf st=gk) (up:Up gr arr.toList)
  (h:∀ k,k<=n->(∀ q (hq:base+q<arr.toList.length),q<k->if left then gr arr.toList[base+q]<gr key else gr arr.toList[base+q]<=gr key)->(∀ q (hq:base+q<arr.toList.length),k<=q->q<n->if left then gr key<=gr arr.toList[base+q] else gr key<gr arr.toList[base+q])->Q (some k) st) :
  wpS gM gA gE gs (gallop' left key arr base n hint) Q st:=by
 refine lV hlt hn hh hok hkey hk (λi=>if left then decide (rkA gr arr (base+i)<gr key) else !decide (gr key<rkA gr arr (base+i))) (λ_=>rfl) (λi j o u l=>?_) λk o u l=>h k o (λq hq g=>?_) λq hq g r=>?_
 ·have t:base+j<arr.toList.length:=by rw[length_toList]; exact zg hn u
  have v:base+i<arr.toList.length:=by exact Dc o t
  have m:rkA gr arr (base+i)<=rkA gr arr (base+j):=by
   rw[cj v,cj t]
   exact up.le v _ (by
    have e:arr.toList[base+j]=(arr.toList.drop (base+i))[j-i]'(by rw[length_drop]; exact GW o t):=by
     rw[getElem_drop]; congr 1; exact HV o
    rw[e]; exact List.getElem_mem _)
  cases left with
  | true=>simp at l ⊢; exact yn m l
  | false=>simp at l ⊢; exact yr m l
 ·have:=u q g
  rw[cj hq] at this
  cases left with
  | true=>simpa using this
  | false=>simpa using this
 ·have:=l q g r
  rw[cj hq] at this
  cases left with
  | true=>simpa using this
  | false=>simpa using this
end
noncomputable def elem':Array Keyed->Nat->StateT SortSt Sem Keyed:=sortPriv% PySem.Builtin.elem
noncomputable def lt':Keyed->Keyed->StateT SortSt Sem (Option Bool):=sortPriv% PySem.Builtin.lt
abbrev G5:Type:=Option (Array Keyed)×Array Keyed×Nat×Nat×Nat
abbrev G6:Type:=Option (Array Keyed)×Array Keyed×Nat×Nat×Nat×Nat
abbrev G7:Type:=Option (Array Keyed)×Array Keyed×Nat×Nat×Nat×Nat×Nat
abbrev SM (α:Type):Type:=StateT SortSt Sem α
noncomputable def loD (a b out:Array Keyed) (ia ib:Nat):Array Keyed:=out++a.extract ia a.size++b.extract ib b.size
noncomputable def loL (a b out:Array Keyed) (ia ib:Nat):Array Keyed:=out++b.extract ib b.size++a.extract ia a.size
noncomputable def yo (a b:Array Keyed) (mg:Nat) (out:Array Keyed) (ia ib bc:Nat):SM (ForInStep G6) :=
 if (ib==b.size)=true then pure (.done (some (loD a b out ia ib),out,ia,ib,0,bc)) else if bc≥mg then pure (.done (none,out,ia,ib,0,bc)) else pure (.yield (none,out,ia,ib,0,bc))
noncomputable def yR (a b:Array Keyed) (mg:Nat) (out:Array Keyed) (ia ib ac:Nat):SM (ForInStep G6) :=
 if (ia+1==a.size)=true then pure (.done (some (loL a b out ia ib),out,ia,ib,ac,0)) else if ac≥mg then pure (.done (none,out,ia,ib,ac,0)) else pure (.yield (none,out,ia,ib,ac,0))
noncomputable def Cz (a b:Array Keyed) (mg:Nat) (out:Array Keyed) (ia ib ac bc:Nat) (w:Bool):SM (ForInStep G6) :=
 if w=true then elem' b ib>>=λx=>yo a b mg (out.push x) ia (ib+1) (bc+1) else elem' a ia>>=λx=>yR a b mg (out.push x) (ia+1) ib (ac+1)
noncomputable def JN (a b:Array Keyed) (mg:Nat) (out:Array Keyed) (ia ib ac bc:Nat):Option Bool->SM (ForInStep G6)
 | some w=>Cz a b mg out ia ib ac bc w
 | _=>pure (.done (some (loD a b out ia ib),out,ia,ib,ac,bc))
noncomputable def loW (a b:Array Keyed) (mg:Nat) (c:G6):SM (ForInStep G6) :=
 elem' b c.2.2.2.1>>=λp=>elem' a c.2.2.1>>=λq=>lt' p q>>=JN a b mg c.2.1 c.2.2.1 c.2.2.2.1 c.2.2.2.2.1 c.2.2.2.2.2
noncomputable def loT4' (a b:Array Keyed) (mg k l:Nat) (out:Array Keyed) (ia ib:Nat):SM (ForInStep G7) :=
 if (ia+1==a.size)=true then pure (.done (some (loL a b out ia ib),out,ia,ib,mg,k,l))
 else if (decide (k<7)&&decide (l<7))=true then pure (.done (none,out,ia,ib,mg,k,l)) else pure (.yield (none,out,ia,ib,mg,k,l))
noncomputable def xa (a b:Array Keyed) (mg k l:Nat) (out:Array Keyed) (ia ib:Nat):SM (ForInStep G7):=elem' a ia>>=λx=>loT4' a b mg k l (out.push x) (ia+1) ib
noncomputable def loT3' (a b:Array Keyed) (mg k l:Nat) (out:Array Keyed) (ia ib:Nat):SM (ForInStep G7) :=
 if (ib==b.size)=true then pure (.done (some (loD a b out ia ib),out,ia,ib,mg,k,l)) else xa a b mg k l out ia ib
noncomputable def Cc (a b:Array Keyed) (mg k l:Nat) (out:Array Keyed) (ia ib:Nat):SM (ForInStep G7) :=
 if l>0 then loT3' a b mg k l (out++b.extract ib (ib+l)) ia (ib+l) else xa a b mg k l out ia ib
noncomputable def Hk (a b:Array Keyed) (mg k bc:Nat) (out:Array Keyed) (ia ib:Nat):Option Nat->SM (ForInStep G7)
 | some l=>Cc a b mg k l out ia ib
 | _=>pure (.done (some (loD a b out ia ib),out,ia,ib,mg,k,bc))
noncomputable def loT2' (a b:Array Keyed) (mg k bc:Nat) (out:Array Keyed) (ia ib:Nat):SM (ForInStep G7) :=
 if (ib==b.size)=true then pure (.done (some (loD a b out ia ib),out,ia,ib,mg,k,bc)) else elem' a ia>>=λy=>gallop' true y b ib (b.size-ib) 0>>=Hk a b mg k bc out ia ib
noncomputable def sG (a b:Array Keyed) (mg k bc:Nat) (out:Array Keyed) (ia ib:Nat):SM (ForInStep G7):=elem' b ib>>=λx=>loT2' a b mg k bc (out.push x) ia (ib+1)
noncomputable def loT1' (a b:Array Keyed) (mg k bc:Nat) (out:Array Keyed) (ia ib:Nat):SM (ForInStep G7) :=
 if (ia+1==a.size)=true then pure (.done (some (loL a b out ia ib),out,ia,ib,mg,k,bc))
 else if (ia==a.size)=true then pure (.done (some (loD a b out ia ib),out,ia,ib,mg,k,bc)) else sG a b mg k bc out ia ib
noncomputable def EO (a b:Array Keyed) (mg ac bc:Nat) (out:Array Keyed) (ia ib:Nat):Option Nat->SM (ForInStep G7)
 | some k=>if k>0 then loT1' a b mg k bc (out++a.extract ia (ia+k)) (ia+k) ib else sG a b mg k bc out ia ib
 | _=>pure (.done (some (loD a b out ia ib),out,ia,ib,mg,ac,bc))
noncomputable def wS (a b:Array Keyed) (ac bc:Nat) (out:Array Keyed) (ia ib mg:Nat):SM (ForInStep G7) :=
 setMin' mg>>=λ_=>elem' b ib>>=λx=>gallop' false x a ia (a.size-ia) 0>>=EO a b mg ac bc out ia ib
noncomputable def loG (a b:Array Keyed) (c:G7):SM (ForInStep G7) :=
 if c.2.2.2.2.1>1 then wS a b c.2.2.2.2.2.1 c.2.2.2.2.2.2 c.2.1 c.2.2.1 c.2.2.2.1 (c.2.2.2.2.1-1) else wS a b c.2.2.2.2.2.1 c.2.2.2.2.2.2 c.2.1 c.2.2.1 c.2.2.2.1 c.2.2.2.2.1
noncomputable def Lh (c:G7):Option (Array Keyed)->SM (ForInStep G5)
 | some r=>pure (.done (some r,c.2.1,c.2.2.1,c.2.2.2.1,c.2.2.2.2.1))
 | none=>setMin' (c.2.2.2.2.1+1)>>=λ_=>pure (.yield (none,c.2.1,c.2.2.1,c.2.2.2.1,c.2.2.2.2.1+1))
noncomputable def Kw (a b:Array Keyed) (mg:Nat) (c:G6):Option (Array Keyed)->SM (ForInStep G5)
 | some r=>pure (.done (some r,c.2.1,c.2.2.1,c.2.2.2.1,mg))
 | none=>(liftM (rule "list.sort.gallop"):SM Unit)>>=λ_=>forIn [:a.size+b.size] ((none,c.2.1,c.2.2.1,c.2.2.2.1,mg+1,c.2.2.2.2.1,c.2.2.2.2.2):G7) (λ_ c=>loG a b c)>>=λd=>Lh d d.1
noncomputable def loB (a b:Array Keyed) (c:G5):SM (ForInStep G5) :=
 forIn [:a.size+b.size] ((none,c.2.1,c.2.2.1,c.2.2.2.1,0,0):G6) (λ_ d=>loW a b c.2.2.2.2 d)>>=λd=>Kw a b c.2.2.2.2 d d.1
noncomputable def loE (c:Option (Array Keyed)):SM (Array Keyed):=match c with
 | some r=>pure r
 | none=>liftM (unsupported "internal:list.sort.merge-bound" : Sem (Array Keyed))
noncomputable def BC:SortSt->Nat:=sortPriv% PySem.Builtin.SortState.minGallop
noncomputable def loM (a b:Array Keyed) (x:Keyed):SM (Array Keyed) :=
 if (1==b.size)=true then pure (loD a b #[x] 0 1) else if (0+1==a.size)=true then pure (loL a b #[x] 0 1) else (get:SM SortSt)>>=λg=>forIn [:a.size+b.size] ((none,#[x],0,1,BC g):G5) (λ_ c=>loB a b c)>>=λc=>loE c.1
noncomputable def GX (a b:Array Keyed):SM (Array Keyed):=(liftM (rule "list.sort.merge-lo"):SM Unit)>>=λ_=>elem' b 0>>=loM a b
theorem tE (a b:Array Keyed):mergeLo' a b=GX a b:=by kernel_rfl
section
theorem aC {σ α:Type}{c:Prop} [Decidable c] {x y:StateT σ Sem α}{Q:α->σ->Prop}{st:σ}(h1:c->wpS gM gA gE gs x Q st) (h2:¬ c->wpS gM gA gE gs y Q st):wpS gM gA gE gs (if c then x else y) Q st:=by
 by_cases h:c
 ·rw[if_pos h]; exact h1 h
 ·rw[if_neg h]; exact h2 h
structure Two (gr:Keyed->Nat) (go:Keyed->Prop) (a b:Array Keyed):Prop where
 ha:1<=a.size
 hb:1<=b.size
 oa:∀ p∈a,go p
 ob:∀ p∈b,go p
 ua:Up gr a.toList
 ub:Up gr b.toList
 h0:∀ y∈a.toList,gr (b[0]'hb)<=gr y
 h1:∀ x∈b.toList,gr x<=gr (a[a.size-1]'(Nat.sub_one_lt_of_lt ha))
structure LoS (gr:Keyed->Nat) (a b:Array Keyed) (st:SortSt) (n:Nat) (out:Array Keyed) (ia ib:Nat) (st':SortSt):Prop where
 sm:Sm st st'
 mi:MI gr a.toList b.toList out.toList ia ib
 ga:ia+1<a.size
 gb:ib<b.size
 gn:n<=ia+ib
def LoR (gr:Keyed->Nat) (a b:Array Keyed) (st:SortSt) (r:Array Keyed) (st':SortSt):Prop:=Sm st st'/\Mgd gr a.toList b.toList r
def Lo6 (gr:Keyed->Nat) (a b:Array Keyed) (st:SortSt) (n:Nat) (c:G6) (st':SortSt):Prop:=c.1=none/\LoS gr a b st n c.2.1 c.2.2.1 c.2.2.2.1 st'
def Lo7 (gr:Keyed->Nat) (a b:Array Keyed) (st:SortSt) (n:Nat) (c:G7) (st':SortSt):Prop:=c.1=none/\LoS gr a b st n c.2.1 c.2.2.1 c.2.2.2.1 st'
def En (I:Nat->Option (Array Keyed)×α->SortSt->Prop) (n:Nat) (R:Array Keyed->SortSt->Prop) (c:Option (Array Keyed)×α) (st':SortSt):Prop:=(∃ r,c.1=some r/\R r st')\/I n c st'
def Po (I:Nat->Option (Array Keyed)×α->SortSt->Prop) (n m:Nat) (R:Array Keyed->SortSt->Prop) (r:ForInStep (Option (Array Keyed)×α)) (st':SortSt):Prop:=match r with
 | .done c=>En I n R c st'
 | .yield c=>I m c st'
theorem LoS.less {a b out:Array Keyed}{st st':SortSt}{n m ia ib:Nat}(h:LoS gr a b st n out ia ib st') (hm:m<=n):LoS gr a b st m out ia ib st':=⟨h.sm,h.mi,h.ga,h.gb,le_trans hm h.gn⟩
section
variable {a b:Array Keyed}{st st':SortSt}{out:Array Keyed}{ia ib n m x mg k l ac bc:Nat}
theorem jR (T:Two gr go a b) (sm:Sm st st') (mi:MI gr a.toList b.toList out.toList ia ib) (e:(ib==b.size)=true):LoR gr a b st (loD a b out ia ib) st':=by
 have e:ib=b.toList.length:=by rw[length_toList]; exact beq_iff_eq.mp e
 subst e
 have:=mi.doneB T.ua
 refine ⟨sm,?_⟩
 unfold Mgd loD
 rw[toList_append,toList_append,eS,eS,drop_length,append_nil]
 exact this
theorem AX (T:Two gr go a b) (sm:Sm st st') (mi:MI gr a.toList b.toList out.toList ia ib) (e:(ia==a.size)=true):LoR gr a b st (loD a b out ia ib) st':=by
 have e:ia=a.toList.length:=by rw[length_toList]; exact beq_iff_eq.mp e
 subst e
 have:=mi.doneA T.ub
 refine ⟨sm,?_⟩
 unfold Mgd loD
 rw[toList_append,toList_append,eS,eS,drop_length,append_nil]
 exact this
theorem jO (T:Two gr go a b) (sm:Sm st st') (mi:MI gr a.toList b.toList out.toList ia ib) (e:(ia+1==a.size)=true):LoR gr a b st (loL a b out ia ib) st':=by
 have e:ia+1=a.toList.length:=by rw[length_toList]; exact beq_iff_eq.mp e
 have h:a.toList.length=a.size:=length_toList ..
 have:=mi.last T.ua T.ub e (λx i y g=>by
  have j:a.toList.drop ia=[a[a.size-1]'(Nat.sub_one_lt_of_lt T.ha)]:=by
   rw[drop_eq_getElem_cons (H0 e),List.drop_eq_nil_iff.mpr (Im e)]
   congr 1
   rw[Array.getElem_toList]; congr 1; exact E3 e h
  rw[j] at g
  rw[mem_singleton.mp g]
  exact T.h1 x i)
 refine ⟨sm,?_⟩
 unfold Mgd loL
 rw[toList_append,toList_append,eS,eS]
 exact this
theorem aN (h:¬ (x==y)=true):x≠y:=λe=>h (beq_iff_eq.mpr e)
theorem vu (T:Two gr go a b) (hn:x<=m) (sm:Sm st st') (mi:MI gr a.toList b.toList out.toList ia ib) (ga:ia+1<a.size) (gb:ib<=b.size) (gn:m<=ia+ib):wpS gM gA gE gs (yo a b mg out ia ib bc) (Po (Lo6 gr a b st) x m (LoR gr a b st)) st' :=
 aC (λc=>wpS_pure (.inl ⟨_,rfl,jR T sm mi c⟩)) λc=>by
  have S:LoS gr a b st m out ia ib st':=⟨sm,mi,ga,by have:=aN c; exact yY gb this,gn⟩
  exact aC (λ_=>wpS_pure (.inr ⟨rfl,S.less hn⟩)) λ_=>wpS_pure ⟨rfl,S⟩
theorem vN (T:Two gr go a b) (hn:x<=m) (sm:Sm st st') (mi:MI gr a.toList b.toList out.toList ia ib) (ga:ia<a.size) (gb:ib<b.size) (gn:m<=ia+ib):wpS gM gA gE gs (yR a b mg out ia ib ac) (Po (Lo6 gr a b st) x m (LoR gr a b st)) st' :=
 aC (λc=>wpS_pure (.inl ⟨_,rfl,jO T sm mi c⟩)) λc=>by
  have S:LoS gr a b st m out ia ib st':=⟨sm,mi,by have:=aN c; exact zo ga this,gb,gn⟩
  exact aC (λ_=>wpS_pure (.inr ⟨rfl,S.less hn⟩)) λ_=>wpS_pure ⟨rfl,S⟩
theorem Bn (hlt:aZ gM gA gE gs gr go gk) (T:Two gr go a b) (hk:kindOf st=gk) (hn:x<=n+1) (S:Lo6 gr a b st n c st'):wpS gM gA gE gs (loW a b mg c) (Po (Lo6 gr a b st) x (n+1) (LoR gr a b st)) st':=by
 obtain ⟨z,l,i,o,v,u⟩:=c
 obtain ⟨t,k,m,j,h,r⟩:=S
 dsimp only at t m j h r
 have g:i<a.size:=Nat.lt_of_succ_lt j
 refine wpS_bind (aK h (wpS_bind (aK g (wpS_bind (hlt (T.ob _ (getElem_mem _)) (T.oa _ (getElem_mem _)) (k.1.trans hk) ?_)))))
 show wpS gM gA gE gs (Cz a b mg l i o v u (decide (gr b[o]<gr a[i]))) _ st'
 refine aC (λw=>wpS_bind (aK h ?_)) λw=>wpS_bind (aK g ?_)
 ·replace w:=of_decide_eq_true w
  refine vu T hn k ?_ j h (HD r)
  rw[toList_push]
  exact m.pushB T.ub (by rw[length_toList]; exact h) (λy p=>le_trans (le_of_lt w) (T.ua.le (by rw[length_toList]; exact g) y p))
 ·replace w:¬ gr b[o]<gr a[i]:=λq=>w (decide_eq_true q)
  refine vN T hn k ?_ j h (ye r)
  rw[toList_push]
  exact m.pushA T.ua (by rw[length_toList]; exact g) (λy p=>le_trans (le_of_not_lt w) (T.ub.le (by rw[length_toList]; exact h) y p))
theorem pF (T:Two gr go a b) (hn:x<=n+1) (S:LoS gr a b st n out ia ib st') (kA:∀ y∈b.toList.drop ib,∀ h:ia<a.size,gr a[ia]<=gr y):wpS gM gA gE gs (xa a b mg k l out ia ib) (Po (Lo7 gr a b st) x (n+1) (LoR gr a b st)) st':=by
 obtain ⟨j,o,m,r,q⟩:=S
 have g:ia<a.size:=Nat.lt_of_succ_lt m
 refine wpS_bind (aK g ?_)
 have i:MI gr a.toList b.toList (out.push a[ia]).toList (ia+1) ib:=by
  rw[toList_push]
  exact o.pushA T.ua (by rw[length_toList]; exact g) λy p=>kA y p g
 refine aC (λc=>wpS_pure (.inl ⟨_,rfl,jO T j i c⟩)) λc=>?_
 have S:LoS gr a b st (n+1) (out.push a[ia]) (ia+1) ib st':=⟨j,i,by have:=aN c; exact Df m this,r,by exact ye q⟩
 exact aC (λ_=>wpS_pure (.inr ⟨rfl,S.less hn⟩)) λ_=>wpS_pure ⟨rfl,S⟩
theorem pf (hlt:aZ gM gA gE gs gr go gk) (T:Two gr go a b) (hk:kindOf st=gk) (hn:x<=n+1) (S:LoS gr a b st n out ia ib st') (kB:∀ y∈a.toList.drop ia,∀ h:ib<b.size,gr b[ib]<=gr y):wpS gM gA gE gs (sG a b mg k bc out ia ib) (Po (Lo7 gr a b st) x (n+1) (LoR gr a b st)) st':=by
 obtain ⟨r,mi,ga,t,gn⟩:=S
 have o:ia<a.size:=Nat.lt_of_succ_lt ga
 refine wpS_bind (aK t ?_)
 have g:MI gr a.toList b.toList (out.push b[ib]).toList ia (ib+1):=by
  rw[toList_push]
  exact mi.pushB T.ub (by rw[length_toList]; exact t) λy i=>kB y i t
 generalize out.push b[ib]=out2 at g ⊢
 refine aC (λc=>wpS_pure (.inl ⟨_,rfl,jR T r g c⟩)) λc=>?_
 have m:ib+1<b.size:=by have:=aN c; exact zo t this
 clear c mi
 refine wpS_bind (aK o (wpS_bind (dQ hlt (Hh m) (Go m) T.ob (T.oa _ (getElem_mem _)) (r.1.trans hk) T.ub λl l1 v l3=>?_)))
 simp only[if_true] at v l3
 have z:∀ y∈b.toList.drop (ib+1+l),∀ h:ia<a.size,gr a[ia]<=gr y:=λy i _=>drop_mem' (P:=λy=>gr a[ia]<=gr y) (λq p=>by
  have lb:b.toList.length=b.size:=length_toList ..
  have:=l3 (l+q) (FN p) yi (DZ p lb)
  simp only[<- add_assoc] at this
  exact this) y i
 show wpS gM gA gE gs (Cc a b mg k l out2 ia (ib+1)) _ st'
 refine aC (λu=>aC (λc=>wpS_pure (.inl ⟨_,rfl,jR T r ?_ c⟩)) λc=>pF T hn ⟨r,?_,ga,by have:=aN c; exact FV l1 u this,by exact HC gn⟩ z) λu=>pF T hn ⟨r,g,ga,m,by exact Jl gn⟩ ?_
 ·rw[toList_append,bS,add_sub_cancel_left]
  exact g.blockB T.ub l (gj λq p j y i=>le_trans (le_of_lt (v q p j)) (T.ua.le (by rw[length_toList]; exact o) y i))
 ·rw[toList_append,bS,add_sub_cancel_left]
  exact g.blockB T.ub l (gj λq p j y i=>le_trans (le_of_lt (v q p j)) (T.ua.le (by rw[length_toList]; exact o) y i))
 ·have e0:l=0:=Nat.eq_zero_of_not_pos u
  rw[e0,add_zero] at z
  exact z
theorem oM (hlt:aZ gM gA gE gs gr go gk) (T:Two gr go a b) (hk:kindOf st=gk) (hn:x<=n+1) (S:LoS gr a b st n out ia ib st'):wpS gM gA gE gs (wS a b ac bc out ia ib mg) (Po (Lo7 gr a b st) x (n+1) (LoR gr a b st)) st':=by
 obtain ⟨i,mi,v,m,gn⟩:=S
 refine wpS_bind (fV λg o=>?_)
 replace i:=i.trans o
 refine wpS_bind (aK m (wpS_bind (dQ hlt (FC v) (Fu v) T.oa (T.ob _ (getElem_mem _)) (i.1.trans hk) T.ua λk k1 k2 k3=>?_)))
 simp only[false_eq_true,if_false] at k2 k3
 have p:∀ y∈a.toList.drop (ia+k),∀ h:ib<b.size,gr b[ib]<=gr y:=λy t _=>drop_mem' (P:=λy=>gr b[ib]<=gr y) (λq l=>by
  have la:a.toList.length=a.size:=length_toList ..
  have:=k3 (k+q) (Hj l) yi (Dj l la)
  simp only[<- add_assoc] at this
  exact le_of_lt this) y t
 show wpS gM gA gE gs (if k>0 then loT1' a b mg k bc (out++a.extract ia (ia+k)) (ia+k) ib else sG a b mg k bc out ia ib) _ g
 refine aC (λr=>?_) λr=>pf hlt T hk hn ⟨i,mi,v,m,gn⟩ ?_
 ·have j:MI gr a.toList b.toList (out++a.extract ia (ia+k)).toList (ia+k) ib:=by
   rw[toList_append,bS,add_sub_cancel_left]
   exact mi.blockA T.ua k (gj λq l u y t=>le_trans (k2 q l u) (T.ub.le (by rw[length_toList]; exact m) y t))
  exact aC (λc=>wpS_pure (.inl ⟨_,rfl,jO T i j c⟩)) λc=>aC (λz=>wpS_pure (.inl ⟨_,rfl,AX T i j z⟩)) λz=>pf hlt T hk hn ⟨i,j,by have:=aN c; have:=aN z; exact FB k1 r ‹_› this,m,by exact Ge gn⟩ p
 ·have e0:k=0:=Nat.eq_zero_of_not_pos r
  rw[e0,add_zero] at p
  exact p
theorem Af (hlt:aZ gM gA gE gs gr go gk) (T:Two gr go a b) (hk:kindOf st=gk) (hn:x<=n+1) (S:Lo7 gr a b st n c st'):wpS gM gA gE gs (loG a b c) (Po (Lo7 gr a b st) x (n+1) (LoR gr a b st)) st' :=
 aC (λ_=>oM hlt T hk hn S.2) λ_=>oM hlt T hk hn S.2
theorem d9 {α:Type}{I:Nat->Option (Array Keyed)×α->SortSt->Prop}{R:Array Keyed->SortSt->Prop}{t n z:Nat}{f:Option (Array Keyed)×α->SM (ForInStep (Option (Array Keyed)×α))}{c:Option (Array Keyed)×α}(h0:I n c st') (hend:∀ c st',¬ I (n+t) c st')
  (hs:∀ y c st',y<t->I (n+y) c st'->wpS gM gA gE gs (f c) (Po I z (n+y+1) R) st'):wpS gM gA gE gs (forIn [:t] c λ_ c=>f c) (En I z R) st' :=
 wpS_forRange (λy c st'=>I (n+y) c st') (λy c st' _ g i=>wpS_mono (hs y c st' g i) λr st' h=>by cases r<;>exact h) (λc st' h=>absurd (by rwa [Nat.max_eq_right (zero_le t)] at h) (hend c st')) h0
def Lo5 (gr:Keyed->Nat) (a b:Array Keyed) (st:SortSt) (n:Nat) (c:G5) (st':SortSt):Prop:=c.1=none/\LoS gr a b st n c.2.1 c.2.2.1 c.2.2.2.1 st'
theorem LoS.over (S:LoS gr a b st n out ia ib st') (h:a.size+b.size<=n+1):False:=by have:=S.ga; have:=S.gb; have:=S.gn; exact HL h ‹_› ‹_› this
theorem A3 (hlt:aZ gM gA gE gs gr go gk) (T:Two gr go a b) (hk:kindOf st=gk) (z:Nat) (S:Lo5 gr a b st (n+1) c st'):wpS gM gA gE gs (loB a b c) (Po (Lo5 gr a b st) z (n+2) (LoR gr a b st)) st':=by
 refine wpS_bind (wpS_mono (d9 (I:=Lo6 gr a b st) (n:=n+1) (z:=n+2) (R:=LoR gr a b st) ⟨rfl,S.2⟩ (λc st' h=>h.2.over CT) λy c st' k h=>Bn hlt T hk zf h) λd g h=>?_)
 rcases h with ⟨r,e,h⟩ | ⟨e,S⟩
 ·rw[e]; exact wpS_pure (.inl ⟨r,rfl,h⟩)
 ·rw[e]
  refine wpS_bind (cW (wpS_bind (wpS_mono (d9 (I:=Lo7 gr a b st) (n:=n+2) (z:=n+2) (R:=LoR gr a b st) ⟨rfl,S⟩ (λc st' h=>h.2.over II) λy c st' k h=>Af hlt T hk ya h) λd g h=>?_)))
  rcases h with ⟨r,e,h⟩ | ⟨e,S⟩
  ·rw[e]; exact wpS_pure (.inl ⟨r,rfl,h⟩)
  ·rw[e]
   exact wpS_bind (fV λi j=>wpS_pure ⟨rfl,S.sm.trans j,S.mi,S.ga,S.gb,S.gn⟩)
end
theorem qD (hlt:aZ gM gA gE gs gr go gk) {a b:Array Keyed}{st:SortSt}{Q:Array Keyed->SortSt->Prop}(ha:1<=a.size) (hb:1<=b.size) (oa:∀ p∈a,go p) (ob:∀ p∈b,go p) (hk:kindOf st=gk) (ua:Up gr a.toList) (ub:Up gr b.toList)
  (h0:∀ y∈a.toList,gr (b[0]'hb)<=gr y) (h1:∀ x∈b.toList,gr x<=gr (a[a.size-1]'(by exact sS ha))) (h:∀ r st',Sm st st'->Mgd gr a.toList b.toList r->Q r st'):wpS gM gA gE gs (mergeLo' a b) Q st:=by
 have T:Two gr go a b:=⟨ha,hb,oa,ob,ua,ub,h0,h1⟩
 rw[tE]
 refine wpS_bind (cW (wpS_bind (aK hb ?_)))
 have j:MI gr a.toList b.toList (#[b[0]'hb]:Array Keyed).toList 0 1:=by
  have l:MI gr a.toList b.toList [] 0 0:=⟨.nil,.nil,λ_ h=>(nomatch h),λ_ h=>(nomatch h)⟩
  exact l.pushB ub (by rw[length_toList]; exact hb) (by rw[drop_zero]; exact h0)
 have g:∀ r st',LoR gr a b st r st'->Q r st':=λr st' q=>h r st' q.1 q.2
 refine aC (λc=>wpS_pure (g _ _ (jR T (.refl st) j c))) λc=>aC (λk=>wpS_pure (g _ _ (jO T (.refl st) j k))) λk=>?_
 refine wpS_bind (wpS_get (wpS_bind (wpS_mono (d9 (I:=Lo5 gr a b st) (n:=1) (z:=a.size+b.size+1) (R:=LoR gr a b st) ⟨rfl,.refl st,j,by have:=aN k; lia,by have:=aN c; lia,le_refl _⟩ (λc st' h=>h.2.over GG) λy c st' m h=>?_) λd i h=>?_)))
 ·rw[add_comm 1 y] at h ⊢
  exact A3 hlt T hk _ h
 ·rcases h with ⟨r,e,h⟩ | ⟨e,S⟩
  ·rw[e]; exact wpS_pure (g _ _ h)
  ·exact (S.over IB).elim
end
noncomputable def mergeHi':Array Keyed->Array Keyed->StateT SortSt Sem (Array Keyed):=sortPriv% PySem.Builtin.mergeHi
theorem Up.ge {gr:Keyed->Nat}(h:Up gr l) (hi:i<l.length):∀ y∈l.take (i+1),gr y<=gr l[i]:=by
 intro y hy
 rw[List.take_succ_eq_append_getElem hi] at hy
 rcases mem_append.mp hy with hy | hy
 ·have:=pairwise_append.mp (show (l.take i++l.drop i).Pairwise _ by rw[take_append_drop]; exact h)
  exact this.2.2 y hy l[i] (by rw[drop_eq_getElem_cons hi]; exact .head _)
 ·rw[mem_singleton.mp hy]; exact le_refl _
structure MH (gr:Keyed->Nat) (a b o:List Keyed) (i j:Nat):Prop where
 perm:o.Perm (a.drop i++b.drop j)
 sorted:Up gr o.reverse
 la:∀ x∈a.take i,∀ y∈o,gr x<=gr y
 lb:∀ x∈b.take j,∀ y∈o,gr x<=gr y
section
theorem MH.swap (h:MH gr a b o i j):MH gr b a o j i:=⟨h.perm.trans List.perm_append_comm,h.sorted,h.lb,h.la⟩
theorem pS {α:Type}{l:List α}{c i:Nat}(hc:c<=i):l.take i=l.take c++(l.drop c).take (i-c):=by
 have:=take_add' l c (i-c)
 rwa [show c+(i-c)=i by exact j6 hc] at this
theorem xS {α:Type}{l:List α}{c i:Nat}(hc:c<=i):l.drop c=(l.drop c).take (i-c)++l.drop i:=by
 have:=(take_append_drop (i-c) (l.drop c)).symm
 rwa [drop_drop,show c+(i-c)=i by exact j6 hc] at this
theorem MH.blockA (h:MH gr a b o i j) (ua:Up gr a) (c:Nat) (hc:c<=i) (hlt:∀ x∈(a.drop c).take (i-c),∀ y∈b.take j,gr y<=gr x):MH gr a b (o++((a.drop c).take (i-c)).reverse) c j where
 perm:=by
  have e:a.drop c++b.drop j=(a.drop c).take (i-c)++(a.drop i++b.drop j):=by
   rw[<- append_assoc]
   exact congrArg (· ++ b.drop j) (xS hc)
  rw[e]
  exact (h.perm.append (List.reverse_perm _)).trans List.perm_append_comm
 sorted:=by
  rw[List.reverse_append,List.reverse_reverse]
  refine pairwise_append.mpr ⟨(ua.sublist (List.drop_sublist c a)).sublist (List.take_sublist ..),h.sorted,λx hx y hy=>h.la x ?_ y (List.mem_reverse.mp hy)⟩
  rw[pS hc]; exact mem_append_right _ hx
 la:=λx hx y hy=>(mem_append.mp hy).elim (λq=>h.la x (by rw[pS hc]; exact mem_append_left _ hx) y q) λq=>by
  have:=pairwise_append.mp (show (a.take c++a.drop c).Pairwise _ by rw[take_append_drop]; exact ua)
  exact this.2.2 x hx y (mem_of_mem_take (List.mem_reverse.mp q))
 lb:=λx hx y hy=>(mem_append.mp hy).elim (λq=>h.lb x hx y q) λq=>hlt y (List.mem_reverse.mp q) x hx
theorem MH.blockB (h:MH gr a b o i j) (ub:Up gr b) (c:Nat) (hc:c<=j) (hlt:∀ x∈(b.drop c).take (j-c),∀ y∈a.take i,gr y<=gr x):MH gr a b (o++((b.drop c).take (j-c)).reverse) i c:=(h.swap.blockA ub c hc hlt).swap
theorem MH.pushA (h:MH gr a b o (i+1) j) (ua:Up gr a) (hi:i<a.length) (hlt:∀ y∈b.take j,gr y<=gr a[i]):MH gr a b (o++[a[i]]) i j:=by
 have:=h.blockA ua i Hb (by rw[show i+1-i=1 by exact x9,f9 hi]; intro x g; rw[mem_singleton.mp g]; exact hlt)
 rwa [show i+1-i=1 by exact x9,f9 hi] at this
theorem MH.pushA' (h:MH gr a b o i j) (ua:Up gr a) (h0:0<i) (hi:i-1<a.length) (hlt:∀ y∈b.take j,gr y<=gr a[i-1]):MH gr a b (o++[a[i-1]]) (i-1) j :=
 MH.pushA (by rw[sub_add_cancel h0]; exact h) ua hi hlt
theorem MH.pushB' (h:MH gr a b o i j) (ub:Up gr b) (h0:0<j) (hj:j-1<b.length) (hlt:∀ y∈a.take i,gr y<=gr b[j-1]):MH gr a b (o++[b[j-1]]) i (j-1):=(h.swap.pushA' ub h0 hj hlt).swap
theorem MH.doneA (h:MH gr a b o 0 j) (ub:Up gr b):(b.take j++o.reverse).Perm (a++b)/\Up gr (b.take j++o.reverse):=by
 have:=h.blockB ub 0 (zero_le _) (λx _ y g=>by rw[List.take_zero] at g; cases g)
 rw[drop_zero,Nat.sub_zero] at this
 have e:(o++(b.take j).reverse).reverse=b.take j++o.reverse:=by rw[List.reverse_append,List.reverse_reverse]
 rw[<- e]
 exact ⟨(List.reverse_perm _).trans (by have:=this.perm; rwa [drop_zero] at this),this.sorted⟩
theorem MH.doneB (h:MH gr a b o i 0) (ua:Up gr a):(a.take i++o.reverse).Perm (a++b)/\Up gr (a.take i++o.reverse):=by
 obtain ⟨j,g⟩:=h.swap.doneA ua
 exact ⟨j.trans List.perm_append_comm,g⟩
theorem MH.first (h:MH gr a b o i 1) (ua:Up gr a) (ub:Up gr b) (ht:∀ x∈b.take 1,∀ y∈a,gr x<=gr y):(b.take 1++a.take i++o.reverse).Perm (a++b)/\Up gr (b.take 1++a.take i++o.reverse):=by
 have:=h.blockA ua 0 (zero_le _) (λx j y g=>ht y g x (mem_of_mem_take j))
 rw[drop_zero,Nat.sub_zero] at this
 have:=this.doneA ub
 rwa [List.reverse_append,List.reverse_reverse,<- append_assoc] at this
end
section
theorem d0 (a:Array Keyed) (i:Nat):(a.extract 0 i).toList=a.toList.take i:=by rw[bS,drop_zero,Nat.sub_zero]
theorem pj {l:List Keyed}{n:Nat}{P:Keyed->Prop}(h:∀ q (hq:q<l.length),q<n->P l[q]):∀ x∈l.take n,P x:=by
 intro x g
 obtain ⟨q,hq,rfl⟩:=getElem_of_mem g
 rw[length_take] at hq
 rw[getElem_take]
 exact h q (JF hq) (Iw hq)
abbrev H5:Type:=Option (Array Keyed)×Nat×Nat×Array Keyed×Nat
abbrev H6:Type:=Option (Array Keyed)×Nat×Nat×Array Keyed×Nat×Nat
abbrev H7:Type:=Option (Array Keyed)×Nat×Nat×Array Keyed×Nat×Nat×Nat
noncomputable def hiD (a b out:Array Keyed) (na nb:Nat):Array Keyed:=a.extract 0 na++b.extract 0 nb++out.reverse
noncomputable def hiF (a b out:Array Keyed) (na nb:Nat):Array Keyed:=b.extract 0 nb++a.extract 0 na++out.reverse
noncomputable def zL (a b:Array Keyed) (mg na nb:Nat) (out:Array Keyed) (ac:Nat):SM (ForInStep H6) :=
 if (na==0)=true then pure (.done (some (hiD a b out na nb),na,nb,out,ac,0)) else if ac≥mg then pure (.done (none,na,nb,out,ac,0)) else pure (.yield (none,na,nb,out,ac,0))
noncomputable def zj (a b:Array Keyed) (mg na nb:Nat) (out:Array Keyed) (bc:Nat):SM (ForInStep H6) :=
 if (nb==1)=true then pure (.done (some (hiF a b out na nb),na,nb,out,0,bc)) else if bc≥mg then pure (.done (none,na,nb,out,0,bc)) else pure (.yield (none,na,nb,out,0,bc))
noncomputable def Bv (a b:Array Keyed) (mg na nb:Nat) (out:Array Keyed) (ac bc:Nat) (w:Bool):SM (ForInStep H6) :=
 if w=true then elem' a (na-1)>>=λx=>zL a b mg (na-1) nb (out.push x) (ac+1) else elem' b (nb-1)>>=λx=>zj a b mg na (nb-1) (out.push x) (bc+1)
noncomputable def KC (a b:Array Keyed) (mg na nb:Nat) (out:Array Keyed) (ac bc:Nat):Option Bool->SM (ForInStep H6)
 | some w=>Bv a b mg na nb out ac bc w
 | _=>pure (.done (some (hiD a b out na nb),na,nb,out,ac,bc))
noncomputable def hiW (a b:Array Keyed) (mg:Nat) (c:H6):SM (ForInStep H6) :=
 elem' b (c.2.2.1-1)>>=λp=>elem' a (c.2.1-1)>>=λq=>lt' p q>>=KC a b mg c.2.1 c.2.2.1 c.2.2.2.1 c.2.2.2.2.1 c.2.2.2.2.2
noncomputable def hiT4' (a b:Array Keyed) (mg k l na nb:Nat) (out:Array Keyed):SM (ForInStep H7) :=
 if (na==0)=true then pure (.done (some (hiD a b out na nb),na,nb,out,mg,k,l))
 else if (decide (k<7)&&decide (l<7))=true then pure (.done (none,na,nb,out,mg,k,l)) else pure (.yield (none,na,nb,out,mg,k,l))
noncomputable def tw (a b:Array Keyed) (mg k l na nb:Nat) (out:Array Keyed):SM (ForInStep H7):=elem' a (na-1)>>=λx=>hiT4' a b mg k l (na-1) nb (out.push x)
noncomputable def hiT3' (a b:Array Keyed) (mg k l na nb:Nat) (out:Array Keyed):SM (ForInStep H7) :=
 if (nb==1)=true then pure (.done (some (hiF a b out na nb),na,nb,out,mg,k,l)) else if (nb==0)=true then pure (.done (some (hiD a b out na nb),na,nb,out,mg,k,l)) else tw a b mg k l na nb out
noncomputable def IV (a b:Array Keyed) (mg k bc na nb:Nat) (out:Array Keyed):Option Nat->SM (ForInStep H7)
 | some l=>if nb-l>0 then hiT3' a b mg k (nb-l) na l (out++(b.extract l nb).reverse) else tw a b mg k (nb-l) na nb out
 | _=>pure (.done (some (hiD a b out na nb),na,nb,out,mg,k,bc))
noncomputable def hiT2' (a b:Array Keyed) (mg k bc na nb:Nat) (out:Array Keyed):SM (ForInStep H7) :=
 if (nb==1)=true then pure (.done (some (hiF a b out na nb),na,nb,out,mg,k,bc)) else elem' a (na-1)>>=λy=>gallop' true y b 0 nb (nb-1)>>=IV a b mg k bc na nb out
noncomputable def tj (a b:Array Keyed) (mg k bc na nb:Nat) (out:Array Keyed):SM (ForInStep H7):=elem' b (nb-1)>>=λx=>hiT2' a b mg k bc na (nb-1) (out.push x)
noncomputable def hiT1' (a b:Array Keyed) (mg k bc na nb:Nat) (out:Array Keyed):SM (ForInStep H7) :=
 if (na==0)=true then pure (.done (some (hiD a b out na nb),na,nb,out,mg,k,bc)) else tj a b mg k bc na nb out
noncomputable def F4 (a b:Array Keyed) (mg ac bc na nb:Nat) (out:Array Keyed):Option Nat->SM (ForInStep H7)
 | some k=>if na-k>0 then hiT1' a b mg (na-k) bc k nb (out++(a.extract k na).reverse) else tj a b mg (na-k) bc na nb out
 | _=>pure (.done (some (hiD a b out na nb),na,nb,out,mg,ac,bc))
noncomputable def v5 (a b:Array Keyed) (ac bc na nb:Nat) (out:Array Keyed) (mg:Nat):SM (ForInStep H7) :=
 setMin' mg>>=λ_=>elem' b (nb-1)>>=λx=>gallop' false x a 0 na (na-1)>>=F4 a b mg ac bc na nb out
noncomputable def hiG (a b:Array Keyed) (c:H7):SM (ForInStep H7) :=
 if c.2.2.2.2.1>1 then v5 a b c.2.2.2.2.2.1 c.2.2.2.2.2.2 c.2.1 c.2.2.1 c.2.2.2.1 (c.2.2.2.2.1-1) else v5 a b c.2.2.2.2.2.1 c.2.2.2.2.2.2 c.2.1 c.2.2.1 c.2.2.2.1 c.2.2.2.2.1
noncomputable def KD (c:H7):Option (Array Keyed)->SM (ForInStep H5)
 | some r=>pure (.done (some r,c.2.1,c.2.2.1,c.2.2.2.1,c.2.2.2.2.1))
 | none=>setMin' (c.2.2.2.2.1+1)>>=λ_=>pure (.yield (none,c.2.1,c.2.2.1,c.2.2.2.1,c.2.2.2.2.1+1))
noncomputable def Kg (a b:Array Keyed) (mg:Nat) (c:H6):Option (Array Keyed)->SM (ForInStep H5)
 | some r=>pure (.done (some r,c.2.1,c.2.2.1,c.2.2.2.1,mg))
 | none=>(liftM (rule "list.sort.gallop"):SM Unit)>>=λ_=>forIn [:a.size+b.size] ((none,c.2.1,c.2.2.1,c.2.2.2.1,mg+1,c.2.2.2.2.1,c.2.2.2.2.2):H7) (λ_ c=>hiG a b c)>>=λd=>KD d d.1
noncomputable def hiB (a b:Array Keyed) (c:H5):SM (ForInStep H5) :=
 forIn [:a.size+b.size] ((none,c.2.1,c.2.2.1,c.2.2.2.1,0,0):H6) (λ_ d=>hiW a b c.2.2.2.2 d)>>=λd=>Kg a b c.2.2.2.2 d d.1
noncomputable def hiM (a b:Array Keyed) (x:Keyed):SM (Array Keyed) :=
 if (a.size-1==0)=true then pure (hiD a b #[x] (a.size-1) b.size) else if (b.size==1)=true then pure (hiF a b #[x] (a.size-1) b.size) else (get:SM SortSt)>>=λg=>forIn [:a.size+b.size] ((none,a.size-1,b.size,#[x],BC g):H5) (λ_ c=>hiB a b c)>>=λc=>loE c.1
noncomputable def Gw (a b:Array Keyed):SM (Array Keyed):=(liftM (rule "list.sort.merge-hi"):SM Unit)>>=λ_=>elem' a (a.size-1)>>=hiM a b
theorem tm (a b:Array Keyed):mergeHi' a b=Gw a b:=by kernel_rfl
structure HiS (gr:Keyed->Nat) (a b:Array Keyed) (st:SortSt) (n na nb:Nat) (out:Array Keyed) (st':SortSt):Prop where
 sm:Sm st st'
 mi:MH gr a.toList b.toList out.toList na nb
 ga:0<na
 ga':na<=a.size
 gb:1<nb
 gb':nb<=b.size
 gn:n+na+nb<=a.size+b.size
def Hi5 (gr:Keyed->Nat) (a b:Array Keyed) (st:SortSt) (n:Nat) (c:H5) (st':SortSt):Prop:=c.1=none/\HiS gr a b st n c.2.1 c.2.2.1 c.2.2.2.1 st'
def Hi6 (gr:Keyed->Nat) (a b:Array Keyed) (st:SortSt) (n:Nat) (c:H6) (st':SortSt):Prop:=c.1=none/\HiS gr a b st n c.2.1 c.2.2.1 c.2.2.2.1 st'
def Hi7 (gr:Keyed->Nat) (a b:Array Keyed) (st:SortSt) (n:Nat) (c:H7) (st':SortSt):Prop:=c.1=none/\HiS gr a b st n c.2.1 c.2.2.1 c.2.2.2.1 st'
section
variable {a b:Array Keyed}{st st':SortSt}{out:Array Keyed}{na nb n m x mg k l ac bc:Nat}
theorem HiS.less (h:HiS gr a b st n na nb out st') (hm:m<=n):HiS gr a b st m na nb out st':=⟨h.sm,h.mi,h.ga,h.ga',h.gb,h.gb',by have:=h.gn; exact HY hm this⟩
theorem HiS.over (S:HiS gr a b st n na nb out st') (h:a.size+b.size<=n):False:=by have:=S.ga; have:=S.gb; have:=S.gn; exact DF h ‹_› this
theorem jW (T:Two gr go a b) (sm:Sm st st') (m:MH gr a.toList b.toList out.toList na nb) (e:(na==0)=true):LoR gr a b st (hiD a b out na nb) st':=by
 cases beq_iff_eq.mp e
 have:=m.doneA T.ub
 refine ⟨sm,?_⟩
 unfold Mgd hiD
 rw[toList_append,toList_append,d0,d0,List.take_zero,nil_append,toList_reverse]
 exact this
theorem zY (T:Two gr go a b) (sm:Sm st st') (m:MH gr a.toList b.toList out.toList na nb) (e:(nb==0)=true):LoR gr a b st (hiD a b out na nb) st':=by
 cases beq_iff_eq.mp e
 have:=m.doneB T.ua
 refine ⟨sm,?_⟩
 unfold Mgd hiD
 rw[toList_append,toList_append,d0,d0,List.take_zero,append_nil,toList_reverse]
 exact this
theorem jU (T:Two gr go a b) (sm:Sm st st') (m:MH gr a.toList b.toList out.toList na nb) (e:(nb==1)=true):LoR gr a b st (hiF a b out na nb) st':=by
 cases beq_iff_eq.mp e
 have:=m.first T.ua T.ub (λx g y h=>by
  have j:b.toList.take 1=[b[0]'T.hb]:=by
   have:=f9 (l:=b.toList) (i:=0) (by rw[length_toList]; exact T.hb)
   rw[drop_zero] at this
   rw[this]; rfl
  rw[j] at g
  rw[mem_singleton.mp g]
  exact T.h0 y h)
 refine ⟨sm,?_⟩
 unfold Mgd hiF
 rw[toList_append,toList_append,d0,d0,toList_reverse]
 exact this
theorem jL {c:Array Keyed}(u:Up gr c.toList) {i:Nat}(h0:0<i) (hi:i-1<c.size):∀ y∈c.toList.take i,gr y<=gr c[i-1]:=λy g=>u.ge (i:=i-1) (by rw[length_toList]; exact hi) y (by rwa [sub_add_cancel h0])
theorem vp (T:Two gr go a b) (hn:x<=m) (sm:Sm st st') (mi:MH gr a.toList b.toList out.toList na nb) (ga':na<=a.size) (gb:1<nb) (gb':nb<=b.size) (gn:m+na+nb<=a.size+b.size):wpS gM gA gE gs (zL a b mg na nb out ac) (Po (Hi6 gr a b st) x m (LoR gr a b st)) st' :=
 aC (λc=>wpS_pure (.inl ⟨_,rfl,jW T sm mi c⟩)) λc=>by
  have S:HiS gr a b st m na nb out st':=⟨sm,mi,by have:=aN c; exact sj this,ga',gb,gb',gn⟩
  exact aC (λ_=>wpS_pure (.inr ⟨rfl,S.less hn⟩)) λ_=>wpS_pure ⟨rfl,S⟩
theorem vB (T:Two gr go a b) (hn:x<=m) (sm:Sm st st') (mi:MH gr a.toList b.toList out.toList na nb) (ga:0<na) (ga':na<=a.size) (gb:0<nb) (gb':nb<=b.size) (gn:m+na+nb<=a.size+b.size):wpS gM gA gE gs (zj a b mg na nb out bc) (Po (Hi6 gr a b st) x m (LoR gr a b st)) st' :=
 aC (λc=>wpS_pure (.inl ⟨_,rfl,jU T sm mi c⟩)) λc=>by
  have S:HiS gr a b st m na nb out st':=⟨sm,mi,ga,ga',by have:=aN c; exact C4 gb this,gb',gn⟩
  exact aC (λ_=>wpS_pure (.inr ⟨rfl,S.less hn⟩)) λ_=>wpS_pure ⟨rfl,S⟩
theorem AV (hlt:aZ gM gA gE gs gr go gk) (T:Two gr go a b) (hk:kindOf st=gk) (hn:x<=n+1) (S:Hi6 gr a b st n c st'):wpS gM gA gE gs (hiW a b mg c) (Po (Hi6 gr a b st) x (n+1) (LoR gr a b st)) st':=by
 obtain ⟨c0,m,l,p,ac,z⟩:=c
 obtain ⟨v,o,r,j,i,h,g,u⟩:=S
 dsimp only at v r j i h g u
 have k:m-1<a.size:=by exact tB j i
 have pb:l-1<b.size:=by exact sC h g
 refine wpS_bind (aK pb (wpS_bind (aK k (wpS_bind (hlt (T.ob _ (getElem_mem _)) (T.oa _ (getElem_mem _)) (o.1.trans hk) ?_)))))
 show wpS gM gA gE gs (Bv a b mg m l p ac z (decide (gr b[l-1]<gr a[m-1]))) _ st'
 refine aC (λw=>wpS_bind (aK k ?_)) λw=>wpS_bind (aK pb ?_)
 ·replace w:=of_decide_eq_true w
  refine vp T hn o ?_ (ot k) h g (yM j u)
  rw[toList_push]
  exact r.pushA' T.ua j (by rw[length_toList]; exact k) (λy t=>le_trans (jL T.ub (oE h) pb y t) (le_of_lt w))
 ·replace w:¬ gr b[l-1]<gr a[m-1]:=λq=>w (decide_eq_true q)
  refine vB T hn o ?_ j i (JH h) (ot pb) (C0 h u)
  rw[toList_push]
  exact r.pushB' T.ub (oE h) (by rw[length_toList]; exact pb) (λy t=>le_trans (jL T.ua j k y t) (le_of_not_lt w))
theorem qc (T:Two gr go a b) (hn:x<=n+1) (S:HiS gr a b st n na nb out st') (kA:∀ y∈b.toList.take nb,∀ h:na-1<a.size,gr y<=gr a[na-1]):wpS gM gA gE gs (tw a b mg k l na nb out) (Po (Hi7 gr a b st) x (n+1) (LoR gr a b st)) st':=by
 obtain ⟨p,q,o,m,u,j,t⟩:=S
 have i:na-1<a.size:=by exact tB o m
 refine wpS_bind (aK i ?_)
 have g:MH gr a.toList b.toList (out.push a[na-1]).toList (na-1) nb:=by
  rw[toList_push]
  exact q.pushA' T.ua o (by rw[length_toList]; exact i) λy r=>kA y r i
 refine aC (λc=>wpS_pure (.inl ⟨_,rfl,jW T p g c⟩)) λc=>?_
 have S:HiS gr a b st (n+1) (na-1) nb (out.push a[na-1]) st':=⟨p,g,by have:=aN c; exact Jr this,by exact ot i,u,j,by exact yM o t⟩
 exact aC (λ_=>wpS_pure (.inr ⟨rfl,S.less hn⟩)) λ_=>wpS_pure ⟨rfl,S⟩
theorem oV (hlt:aZ gM gA gE gs gr go gk) (T:Two gr go a b) (hk:kindOf st=gk) (hn:x<=n+1) (S:HiS gr a b st n na nb out st') (kB:∀ y∈a.toList.take na,∀ h:nb-1<b.size,gr y<=gr b[nb-1]):wpS gM gA gE gs (tj a b mg k bc na nb out) (Po (Hi7 gr a b st) x (n+1) (LoR gr a b st)) st':=by
 obtain ⟨o,mi,t,m,gb,gb',gn⟩:=S
 have pa:na-1<a.size:=by exact tB t m
 have pb:nb-1<b.size:=by exact sC gb gb'
 refine wpS_bind (aK pb ?_)
 have g:MH gr a.toList b.toList (out.push b[nb-1]).toList na (nb-1):=by
  rw[toList_push]
  exact mi.pushB' T.ub (oE gb) (by rw[length_toList]; exact pb) λy p=>kB y p pb
 generalize out.push b[nb-1]=out2 at g ⊢
 refine aC (λc=>wpS_pure (.inl ⟨_,rfl,jU T o g c⟩)) λc=>?_
 have r:1<nb-1:=by have:=aN c; exact CX gb this
 clear c mi kB
 refine wpS_bind (aK pa (wpS_bind (dQ hlt (Fi pb) (F0 r) T.ob (T.oa _ (getElem_mem _)) (o.1.trans hk) T.ub λl v l2 l3=>?_)))
 simp only[if_true,zero_add] at l2 l3
 have z:∀ y∈b.toList.take l,∀ h:na-1<a.size,gr y<=gr a[na-1]:=λy p _=>pj (P:=λy=>gr y<=gr a[na-1]) (λq hq j=>le_of_lt (l2 q hq j)) y p
 show wpS gM gA gE gs (if nb-1-l>0 then hiT3' a b mg k (nb-1-l) na l (out2++(b.extract l (nb-1)).reverse) else tw a b mg k (nb-1-l) na (nb-1) out2) _ st'
 refine aC (λu=>?_) λu=>qc T hn ⟨o,g,t,m,r,by exact ot pb,by exact EI gn⟩ ?_
 ·have i:MH gr a.toList b.toList (out2++(b.extract l (nb-1)).reverse).toList na l:=by
   rw[toList_append,toList_reverse,bS]
   exact g.blockB T.ub l v (gj λq hq j y p=>le_trans (jL T.ua t pa y p) (l3 (l+q) hq (le_add_right l q) (Fo j)))
  exact aC (λc=>wpS_pure (.inl ⟨_,rfl,jU T o i c⟩)) λc=>aC (λc'=>wpS_pure (.inl ⟨_,rfl,zY T o i c'⟩)) λc'=>qc T hn ⟨o,i,t,m,by have:=aN c; have:=aN c'; exact Iz ‹_› this,by exact FS pb v,by exact Dv gn u⟩ z
 ·have e0:l=nb-1:=by exact HO v u
  rw[e0] at z
  exact z
theorem o8 (hlt:aZ gM gA gE gs gr go gk) (T:Two gr go a b) (hk:kindOf st=gk) (hn:x<=n+1) (S:HiS gr a b st n na nb out st'):wpS gM gA gE gs (v5 a b ac bc na nb out mg) (Po (Hi7 gr a b st) x (n+1) (LoR gr a b st)) st':=by
 obtain ⟨m,mi,ga,l,r,j,gn⟩:=S
 have pb:nb-1<b.size:=by exact sC r j
 refine wpS_bind (fV λg t=>?_)
 replace m:=m.trans t
 refine wpS_bind (aK pb (wpS_bind (dQ hlt (JG l) (GZ ga) T.oa (T.ob _ (getElem_mem _)) (m.1.trans hk) T.ua λk p k2 k3=>?_)))
 simp only[false_eq_true,if_false,zero_add] at k2 k3
 have u:∀ y∈a.toList.take k,∀ h:nb-1<b.size,gr y<=gr b[nb-1]:=λy v _=>pj (P:=λy=>gr y<=gr b[nb-1]) (λq z i=>k2 q z i) y v
 show wpS gM gA gE gs (if na-k>0 then hiT1' a b mg (na-k) bc k nb (out++(a.extract k na).reverse) else tj a b mg (na-k) bc na nb out) _ g
 refine aC (λk0=>?_) λk0=>oV hlt T hk hn ⟨m,mi,ga,l,r,j,gn⟩ ?_
 ·have o:MH gr a.toList b.toList (out++(a.extract k na).reverse).toList k nb:=by
   rw[toList_append,toList_reverse,bS]
   exact mi.blockA T.ua k p (gj λq z i y v=>le_trans (jL T.ub (oE r) pb y v) (le_of_lt (k3 (k+q) z (le_add_right k q) (oC i))))
  exact aC (λc=>wpS_pure (.inl ⟨_,rfl,jW T m o c⟩)) λc=>oV hlt T hk hn ⟨m,o,by have:=aN c; exact sj this,by exact Fz l p,r,j,by exact DH gn p⟩ u
 ·have e0:k=na:=by exact HR p k0
  rw[e0] at u
  exact u
theorem z9 (hlt:aZ gM gA gE gs gr go gk) (T:Two gr go a b) (hk:kindOf st=gk) (hn:x<=n+1) (S:Hi7 gr a b st n c st'):wpS gM gA gE gs (hiG a b c) (Po (Hi7 gr a b st) x (n+1) (LoR gr a b st)) st' :=
 aC (λ_=>o8 hlt T hk hn S.2) λ_=>o8 hlt T hk hn S.2
theorem Bq (hlt:aZ gM gA gE gs gr go gk) (T:Two gr go a b) (hk:kindOf st=gk) (z:Nat) (S:Hi5 gr a b st (n+1) c st'):wpS gM gA gE gs (hiB a b c) (Po (Hi5 gr a b st) z (n+2) (LoR gr a b st)) st':=by
 refine wpS_bind (wpS_mono (d9 (I:=Hi6 gr a b st) (n:=n+1) (z:=n+2) (R:=LoR gr a b st) ⟨rfl,S.2⟩ (λc st' h=>h.2.over Do) λy c st' k h=>AV hlt T hk zf h) λd g h=>?_)
 rcases h with ⟨r,e,h⟩ | ⟨e,S⟩
 ·rw[e]; exact wpS_pure (.inl ⟨r,rfl,h⟩)
 ·rw[e]
  refine wpS_bind (cW (wpS_bind (wpS_mono (d9 (I:=Hi7 gr a b st) (n:=n+2) (z:=n+2) (R:=LoR gr a b st) ⟨rfl,S⟩ (λc st' h=>h.2.over Je) λy c st' k h=>z9 hlt T hk ya h) λd g h=>?_)))
  rcases h with ⟨r,e,h⟩ | ⟨e,S⟩
  ·rw[e]; exact wpS_pure (.inl ⟨r,rfl,h⟩)
  ·rw[e]
   exact wpS_bind (fV λi j=>wpS_pure ⟨rfl,S.sm.trans j,S.mi,S.ga,S.ga',S.gb,S.gb',S.gn⟩)
end
theorem qF (hlt:aZ gM gA gE gs gr go gk) {a b:Array Keyed}{st:SortSt}{Q:Array Keyed->SortSt->Prop}(ha:1<=a.size) (hb:1<=b.size) (oa:∀ p∈a,go p) (ob:∀ p∈b,go p) (hk:kindOf st=gk) (ua:Up gr a.toList) (ub:Up gr b.toList)
  (h0:∀ y∈a.toList,gr (b[0]'hb)<=gr y) (h1:∀ x∈b.toList,gr x<=gr (a[a.size-1]'(by exact sS ha))) (h:∀ r st',Sm st st'->Mgd gr a.toList b.toList r->Q r st'):wpS gM gA gE gs (mergeHi' a b) Q st:=by
 have T:Two gr go a b:=⟨ha,hb,oa,ob,ua,ub,h0,h1⟩
 rw[tm]
 have i:a.size-1<a.size:=Nat.sub_one_lt_of_lt ha
 refine wpS_bind (cW (wpS_bind (aK i ?_)))
 have k:MH gr a.toList b.toList (#[a[a.size-1]]:Array Keyed).toList (a.size-1) b.size:=by
  have o:MH gr a.toList b.toList [] a.size b.size:=⟨by rw[<- length_toList,<- length_toList,drop_length,drop_length]; exact .nil,.nil,λ_ _ _ h=>(nomatch h),λ_ _ _ h=>(nomatch h)⟩
  exact o.pushA' ua ha (by rw[length_toList]; exact i) (λy m=>h1 y (mem_of_mem_take m))
 have g:∀ r st',LoR gr a b st r st'->Q r st':=λr st' q=>h r st' q.1 q.2
 refine aC (λc=>wpS_pure (g _ _ (jW T (.refl st) k c))) λc=>aC (λl=>wpS_pure (g _ _ (jU T (.refl st) k l))) λl=>?_
 refine wpS_bind (wpS_get (wpS_bind (wpS_mono (d9 (I:=Hi5 gr a b st) (n:=1) (z:=a.size+b.size+1) (R:=LoR gr a b st) ⟨rfl,.refl st,k,by have:=aN c; lia,by lia,by have:=aN l; lia,le_refl _,by lia⟩ (λc st' h=>h.2.over F6) λy c st' m h=>?_) λd j h=>?_)))
 ·rw[add_comm 1 y] at h ⊢
  exact Bq hlt T hk _ h
 ·rcases h with ⟨r,e,h⟩ | ⟨e,S⟩
  ·rw[e]; exact wpS_pure (g _ _ h)
  ·exact (S.over CV).elim
end
section
structure Wn (lo hi:Nat) (st st':SortSt):Prop where
 kind:kindOf st' = kindOf st
 pend:pendingOf st' = pendingOf st
 fail:failedOf st' = failedOf st
 perm:(arrOf st').Perm (arrOf st)
 out:∀ k,(k<lo\/hi<=k)->(arrOf st')[k]? = (arrOf st)[k]?
theorem Wn.refl (lo hi:Nat) (st:SortSt):Wn lo hi st st:=⟨rfl,rfl,rfl,.refl _,λuu uu=>rfl⟩
theorem Wn.trans {lo hi:Nat}{x y z:SortSt}(h:Wn lo hi x y) (g:Wn lo hi y z):Wn lo hi x z:=⟨g.kind.trans h.kind,g.pend.trans h.pend,g.fail.trans h.fail,g.perm.trans h.perm,λk hk=>(g.out k hk).trans (h.out k hk)⟩
theorem Gd.of {lo hi:Nat}{st st':SortSt}(g:Gd gr go gk st) (h:Wn lo hi st st'):Gd gr go gk st':=⟨λp i=>g.ok p (h.perm.mem_iff.mp i),h.kind.trans g.kind⟩
theorem Wn.size {lo hi:Nat}{st st':SortSt}(h:Wn lo hi st st'):(arrOf st').size=(arrOf st).size:=h.perm.size_eq
theorem cf (h:xs[i]? = ys[j]?):rkA gr xs i=rkA gr ys j:=by unfold rkA; rw[h]
theorem gz (hlt:aZ gM gA gE gs gr go gk) {st:SortSt}{i j:Nat}{Q:Option Bool->SortSt->Prop}(g:Gd gr go gk st) (hi:i<(arrOf st).size) (hj:j<(arrOf st).size) (h:Q (some (decide (rkA gr (arrOf st) i<rkA gr (arrOf st) j))) st):wpS gM gA gE gs (ltAt' i j) Q st:=by
 rw[ltAt'_eq]
 refine wpS_bind (wpS_get (wpS_bind (aK hi (wpS_bind (aK hj (hlt (g.ok _ (getElem_mem _)) (g.ok _ (getElem_mem _)) g.kind ?_))))))
 rw[fe hi,fe hj] at h
 exact h
def SegDn (gr:Keyed->Nat) (arr:Array Keyed) (lo n:Nat):Prop:=∀ i j,lo<=i->i<=j->j<lo+n->rkA gr arr j<=rkA gr arr i
theorem SegUp.succ {arr:Array Keyed}{lo n:Nat}(h:SegUp gr arr lo n) (h1:1<=n) (hn:rkA gr arr (lo+n-1)<=rkA gr arr (lo+n)):SegUp gr arr lo (n+1):=by
 intro i j k g l
 by_cases e:j=lo+n
 ·(clear l; subst e)
  by_cases e':i=lo+n
  ·(clear k g; subst e'); exact le_refl _
  ·exact le_trans (h i (lo+n-1) k (yv g e') (s6 h1)) hn
 ·exact h i j k g (zO l e)
theorem SegDn.succ {arr:Array Keyed}{lo n:Nat}(h:SegDn gr arr lo n) (h1:1<=n) (hn:rkA gr arr (lo+n)<=rkA gr arr (lo+n-1)):SegDn gr arr lo (n+1):=by
 intro i j k g l
 by_cases e:j=lo+n
 ·(clear l; subst e)
  by_cases e':i=lo+n
  ·(clear k g; subst e'); exact le_refl _
  ·exact le_trans hn (h i (lo+n-1) k (yv g e') (s6 h1))
 ·exact h i j k g (zO l e)
theorem jS {i j:Nat}{st:SortSt}{Q:Unit->SortSt->Prop}(h:Q () (setArr st (mirror (arrOf st) i j ((j-i)/2)))):wpS gM gA gE gs (reverseSlice' i j) Q st:=by
 rw[reverseSlice'_eq]; exact wpS_modify h
noncomputable def t6 (lo nrem n:Nat):StateT SortSt Sem (Option Nat):=do
 let mut n:=n
 reverseSlice' lo (lo+n)
 for _ in [n:nrem] do
  let some smaller <- ltAt' (lo+n) (lo+n-1) | return none
  if smaller then break
  n:=n+1
 return some n
noncomputable def uz (lo nrem n:Nat):StateT SortSt Sem (Option Nat):=do
 let mut n:=n
 rule "list.sort.descending-run"
 n:=n+1
 let mut neq:=0
 for _ in [n:nrem] do
  let some smaller <- ltAt' (lo+n) (lo+n-1) | return none
  if smaller then
   if neq>0 then reverseSlice' (lo+n-(neq+1)) (lo+n)
   neq:=0
  else
   let some larger <- ltAt' (lo+n-1) (lo+n) | return none
   if larger then break
   neq:=neq+1
  n:=n+1
 if neq>0 then reverseSlice' (lo+n-(neq+1)) (lo+n)
 reverseSlice' lo (lo+n)
 for _ in [n:nrem] do
  let some smaller <- ltAt' (lo+n) (lo+n-1) | return none
  if smaller then break
  n:=n+1
 return some n
theorem iK (hj:j<=xs.size) (he:∀ k,i<=k->k<j->rkA gr xs k=rkA gr xs (j-1)) (k:Nat):rkA gr (mirror xs i j ((j-i)/2)) k=rkA gr xs k:=by
 by_cases c:i<=k/\k<j
 ·rw[cf (j:=i+j-1-k) (ys:=xs) (by rw[getElem?_mirror_all hj,if_pos c]),he (i+j-1-k) (D8 c) (Hl c),he k c.1 c.2]
 ·exact cf (by rw[getElem?_mirror_all hj,if_neg c])
theorem g6 {lo hi i j:Nat}{st:SortSt}(hj:j<=(arrOf st).size) (h1:lo<=i) (h2:j<=hi):Wn lo hi st (setArr st (mirror (arrOf st) i j ((j-i)/2))):=⟨rfl,rfl,rfl,mirror_perm _ _ _ _,λk hk=>by
 show (mirror _ _ _ _)[k]? = _
 rw[getElem?_mirror_all hj,if_neg (Io h1 h2 hk)]⟩
theorem lU (hlt:aZ gM gA gE gs gr go gk) {lo nrem n:Nat}{st:SortSt}{Q:Option Nat->SortSt->Prop}(g:Gd gr go gk st) (hn:lo+nrem<=(arrOf st).size) (h1:1<=n) (h2:n<=nrem) (dn:SegDn gr (arrOf st) lo n)
  (h:∀ n st',1<=n->n<=nrem->Wn lo (lo+nrem) st st'->SegUp gr (arrOf st') lo n->Q (some n) st'):wpS gM gA gE gs (t6 lo nrem n) Q st:=by
 unfold t6
 refine wpS_bind (jS ?_)
 have m:lo+n<=(arrOf st).size:=by exact Hw hn h2
 have o:Wn lo (lo+nrem) st (setArr st (mirror (arrOf st) lo (lo+n) ((lo+n-lo)/2))):=g6 m (le_refl _) (by exact add_le_add_left ‹_› _)
 have k:SegUp gr (mirror (arrOf st) lo (lo+n) ((lo+n-lo)/2)) lo n:=by
  intro i j hi hij hj
  rw[cf (j:=lo+(lo+n)-1-i) (ys:=arrOf st) (by rw[getElem?_mirror_all m,if_pos ⟨hi,by exact lt_of_le_of_lt ‹_› ‹_›⟩]),cf (i:=j) (j:=lo+(lo+n)-1-j) (ys:=arrOf st) (by rw[getElem?_mirror_all m,if_pos ⟨by exact le_trans ‹_› ‹_›,hj⟩])]
  exact dn _ _ (Hc hj) (GJ hij) (Jf h1 hi)
 generalize hst:setArr st (mirror (arrOf st) lo (lo+n) ((lo+n-lo)/2))=st2 at o ⊢
 have k:SegUp gr (arrOf st2) lo n:=by rw[<- hst]; exact k
 have g2:=g.of o
 have l:=o.size
 refine wpS_bind (wpS_mono (wpS_forRange (I:=λx c st'=>st' = st2/\c=(none,x)/\x<=nrem/\SegUp gr (arrOf st2) lo x)
  (Q:=λc st'=>st' = st2/\∃ n,c=(none,n)/\1<=n/\n<=nrem/\SegUp gr (arrOf st2) lo n) ?_ ?_ (cE rfl rfl h2 k)) ?_)
 ·intro x c st' hx1 r q
  refine cU (q) λLy LG gx t=>?_
  clear q
  (clear k o; subst Ly)
  subst LG
  refine wpS_bind (gz hlt g2 (adl r (le_trans hn (le_of_eq l.symm))) (mF (adl r (le_trans hn (le_of_eq l.symm)))) ?_)
  dsimp only
  by_cases w:rkA gr (arrOf st') (lo+x)<rkA gr (arrOf st') (lo+x-1)
  ·rw[decide_eq_true w,if_pos rfl]
   exact wpS_pure (az rfl (bD x rfl (by exact lt_of_lt_of_le ‹_› ‹_›) gx t))
  ·rw[decide_eq_false w,if_neg (by decide)]
   exact wpS_pure (cE rfl rfl ‹_› (t.succ (by exact lt_of_lt_of_le ‹_› ‹_›) (le_of_not_lt w)))
 ·intro c st' p
  refine cU (p) λLA LH gx t=>?_
  clear p
  (clear g2 l k o; subst LA)
  subst LH
  rw[show max n nrem=nrem by exact CN gx] at *
  exact (az rfl (bD nrem rfl (by exact lt_of_lt_of_le ‹_› ‹_›) (le_refl _) t))
 ·intro c st' z
  obtain ⟨y,n',v,p1,p2,u⟩:=z
  (clear g2 l k; subst y)
  subst v
  exact wpS_pure (h n' st' p1 p2 o u)
theorem SegDn.congr {xs ys:Array Keyed}{lo n:Nat}(h:SegDn gr xs lo n) (e:∀ k,rkA gr ys k=rkA gr xs k):SegDn gr ys lo n:=λi j a b c=>by rw[e,e]; exact h i j a b c
theorem lg (hlt:aZ gM gA gE gs gr go gk) {lo nrem n:Nat}{st:SortSt}{Q:Option Nat->SortSt->Prop}(g:Gd gr go gk st) (hn:lo+nrem<=(arrOf st).size) (h1:1<=n) (h2:n<nrem) (dn:SegDn gr (arrOf st) lo (n+1))
  (h:∀ n st',1<=n->n<=nrem->Wn lo (lo+nrem) st st'->SegUp gr (arrOf st') lo n->Q (some n) st'):wpS gM gA gE gs (uz lo nrem n) Q st:=by
 unfold uz
 refine wpS_bind (cW ?_)
 refine wpS_bind (wpS_mono (wpS_forRange (I:=λx c m=>∃ l,c=(none,x,l)/\Wn lo (lo+nrem) st m/\(∀ k,rkA gr (arrOf m) k=rkA gr (arrOf st) k)/\x<=nrem/\l+1<=x/\SegDn gr (arrOf st) lo x/\∀ k,x-(l+1)<=k->k<x->rkA gr (arrOf st) (lo+k)=rkA gr (arrOf st) (lo+x-1))
  (Q:=λc m=>∃ x l,c=(none,x,l)/\Wn lo (lo+nrem) st m/\(∀ k,rkA gr (arrOf m) k=rkA gr (arrOf st) k)/\x<=nrem/\l+1<=x/\SegDn gr (arrOf st) lo x/\∀ k,x-(l+1)<=k->k<x->rkA gr (arrOf st) (lo+k)=rkA gr (arrOf st) (lo+x-1)) ?_ ?_ (tC 0 rfl (.refl ..) (λuu=>rfl) ‹_› (succ_pos _) dn (λk v z=>by rw[show lo+k=lo+(n+1)-1 by exact yQ v z]))) ?_)
 ·intro x c m hx1 r LF
  refine y7 (LF) λl LI p e gx y dn eq=>?_
  clear LF
  subst LI
  have g':=g.of p
  have o:=p.size
  dsimp only
  refine wpS_bind (gz hlt g' (oz hn r o) (zv hn r o) ?_)
  dsimp only
  rw[e,e]
  by_cases w:rkA gr (arrOf st) (lo+x)<rkA gr (arrOf st) (lo+x-1)
  ·rw[decide_eq_true w,if_pos rfl]
   have fin:∀ t,Wn lo (lo+nrem) st t->(∀ k,rkA gr (arrOf t) k=rkA gr (arrOf st) k)->∃ neq',((none:Option (Option Nat)),x+1,0)=(none,x+1,neq')/\Wn lo (lo+nrem) st t/\(∀ k,rkA gr (arrOf t) k=rkA gr (arrOf st) k)/\x+1<=nrem/\neq'+1<=x+1/\SegDn gr (arrOf st) lo (x+1)/\∀ k,x+1-(neq'+1)<=k->k<x+1->rkA gr (arrOf st) (lo+k)=rkA gr (arrOf st) (lo+(x+1)-1) :=
    λt w3 e3=>(tC 0 rfl w3 e3 ‹_› (succ_pos _) (dn.succ (by exact lt_trans ‹_› ‹_›) (le_of_lt w)) (λk v z=>by rw[show lo+k=lo+(x+1)-1 by exact yQ v z]))
   by_cases c1:l>0
   ·rw[if_pos c1]
    refine wpS_bind (jS (wpS_pure (fin _ (p.trans (g6 (zn hn r o) (zh y) (by exact add_le_add_left ‹_› _))) λk=>?_)))
    show rkA gr (mirror _ _ _ _) k=_
    rw[iK (zn hn r o) λk v z=>by rw[e,e]; have:=eq (k-lo) (y2 v) (zQ hx1 z); rwa [show lo+(k-lo)=k by exact yg y v] at this]
    exact e k
   ·rw[if_neg c1]
    exact wpS_pure (fin _ p e)
  ·rw[decide_eq_false w,if_neg (by decide)]
   refine wpS_bind (gz hlt g' (zv hn r o) (oz hn r o) ?_)
   dsimp only
   rw[e,e]
   by_cases w':rkA gr (arrOf st) (lo+x-1)<rkA gr (arrOf st) (lo+x)
   ·rw[decide_eq_true w',if_pos rfl]
    exact wpS_pure (gQ x l rfl p e gx y dn eq)
   ·rw[decide_eq_false w',if_neg (by decide)]
    refine wpS_pure (tC (l+1) rfl p e ‹_› (by exact lt_succ_of_le ‹_›) (dn.succ (by exact lt_trans ‹_› ‹_›) (le_of_not_lt w')) (λk v z=>?_))
    have q:rkA gr (arrOf st) (lo+x-1)=rkA gr (arrOf st) (lo+x):=by exact IQ w w'
    rw[show lo+(x+1)-1=lo+x by exact Fy]
    by_cases e':k=x
    ·rw[e']
    ·rw[<- q]; exact eq k (F1 v) (Jb z e')
 ·intro c m LK
  refine y7 (LK) λl LL p e gx y dn eq=>?_
  clear LK
  subst LL
  rw[show max (n+1) nrem=nrem by exact CW gx] at *
  exact (gQ nrem l rfl p e gx y dn eq)
 ·intro c m LN
  refine tx (LN) λx l LO p e gx y dn eq=>?_
  clear LN
  subst LO
  have g':=g.of p
  have o:=p.size
  dsimp only
  by_cases c1:l>0
  ·rw[if_pos c1]
   have w3:=p.trans (g6 (lo:=lo) (hi:=lo+nrem) (i:=lo+x-(l+1)) (j:=lo+x) (st:=m) (y9 hn gx o) (zh y) (by exact add_le_add_left ‹_› _))
   refine wpS_bind (jS ?_)
   refine lU hlt (g.of w3) (by have:=w3.size; exact tn hn this) (by exact lt_trans ‹_› ‹_›) gx (dn.congr λk=>?_) λn st' a b w4 u=>h n st' a b (w3.trans w4) u
   show rkA gr (mirror _ _ _ _) k=_
   rw[iK (y9 hn gx o) λk v z=>by rw[e,e]; have:=eq (k-lo) (y2 v) (zQ y z); rwa [show lo+(k-lo)=k by exact yg y v] at this]
   exact e k
  ·rw[if_neg c1]
   exact lU hlt g' (tn hn o) (Ii y) gx (dn.congr e) λn st' a b w4 u=>h n st' a b (p.trans w4) u
theorem hO (hlt:aZ gM gA gE gs gr go gk) {lo nrem:Nat}{st:SortSt}{Q:Option Nat->SortSt->Prop}(g:Gd gr go gk st) (hn:lo+nrem<=(arrOf st).size) (h1:1<=nrem)
  (h:∀ n st',1<=n->n<=nrem->Wn lo (lo+nrem) st st'->SegUp gr (arrOf st') lo n->Q (some n) st'):wpS gM gA gE gs (countRun' lo nrem) Q st:=by
 rw[countRun'_eq]
 refine wpS_bind (wpS_mono (wpS_forRange (I:=λx c st'=>st' = st/\c=(none,x)/\x<=nrem/\SegUp gr (arrOf st) lo x)
  (Q:=λc st'=>st' = st/\∃ n,c=(none,n)/\1<=n/\n<=nrem/\SegUp gr (arrOf st) lo n/\(n=nrem\/rkA gr (arrOf st) (lo+n)<rkA gr (arrOf st) (lo+n-1))) ?_ ?_ (cE rfl rfl h1 (λi j _ _ _=>by rw[show i=j by exact zD ‹_› ‹_› ‹_›]; exact le_refl _))) ?_)
 ·intro x c st' hx1 hx2 o
  refine cU (o) λLR LP gx l=>?_
  clear o
  (clear h; subst LR)
  subst LP
  refine wpS_bind (gz hlt g (by exact adl hx2 ‹_›) (by exact mF (adl hx2 ‹_›)) ?_)
  dsimp only
  by_cases w:rkA gr (arrOf st') (lo+x)<rkA gr (arrOf st') (lo+x-1)
  ·rw[decide_eq_true w,if_pos rfl]
   exact wpS_pure (az rfl (iS x rfl hx1 gx l (.inr w)))
  ·rw[decide_eq_false w,if_neg (by decide)]
   exact wpS_pure (cE rfl rfl ‹_› (l.succ hx1 (le_of_not_lt w)))
 ·intro c st' m
  refine cU (m) λLV z gx l=>?_
  clear m
  (clear g h hn; subst LV)
  subst z
  rw[show max 1 nrem=nrem by exact zl gx] at *
  exact (az rfl (iS nrem rfl h1 (le_refl _) l (.inl rfl)))
 ·intro c st' y
  obtain ⟨v,n,t,p,r,l,q⟩:=y
  subst v
  subst t
  dsimp only
  by_cases c1:(n==nrem)=true
  ·rw[if_pos c1]
   exact wpS_pure (h n st' p r (.refl ..) l)
  rw[if_neg c1]
  have hn3:n<nrem:=by have:n≠nrem:=λe=>c1 (beq_iff_eq.mpr e); exact yY r this
  have hdn:=q.resolve_left (by exact ne_of_lt ‹_›)
  by_cases c2:n>1
  ·rw[if_pos c2]
   refine wpS_bind (gz hlt g (Jn h1 hn) (DT p r hn) ?_)
   dsimp only
   by_cases w:rkA gr (arrOf st') lo<rkA gr (arrOf st') (lo+n-1)
   ·rw[decide_eq_true w,if_pos rfl]
    exact wpS_pure (h n st' p r (.refl ..) l)
   rw[decide_eq_false w,if_neg (by decide)]
   have eq:∀ k,lo<=k->k<lo+n->rkA gr (arrOf st') k=rkA gr (arrOf st') (lo+n-1):=λk k1 k2=>by
    have a:=l lo k (le_refl _) k1 k2
    have b:=l k (lo+n-1) k1 (IA k2) (s6 p)
    exact CY w a b
   have w3:Wn lo (lo+nrem) st' (setArr st' (mirror (arrOf st') lo (lo+n) ((lo+n-lo)/2))):=g6 (zx r hn) (le_refl _) (by exact add_le_add_left ‹_› _)
   have e3:∀ k,rkA gr (mirror (arrOf st') lo (lo+n) ((lo+n-lo)/2)) k=rkA gr (arrOf st') k:=iK (zx r hn) eq
   refine wpS_bind (jS ?_)
   refine lg hlt (g.of w3) (by have:=w3.size; exact tn hn this) p hn3 ?_ λn st' a b w4 u=>h n st' a b (w3.trans w4) u
   have d1:SegDn gr (arrOf st') lo n:=λi j a b c=>by rw[eq i a (by exact lt_of_le_of_lt ‹_› ‹_›),eq j (by exact le_trans ‹_› ‹_›) c]; exact le_refl _
   exact (d1.succ p (le_of_lt hdn)).congr e3
  rw[if_neg c2]
  have e1:n=1:=by exact GH p c2
  (clear c1 c2 q r l; subst e1)
  refine lg hlt g hn p hn3 ?_ h
  have d1:SegDn gr (arrOf st') lo 1:=λi j _ _ _=>by rw[show i=j by exact zD ‹_› ‹_› ‹_›]; exact le_refl _
  exact d1.succ (le_refl _) (le_of_lt hdn)
theorem xy {src dst:Nat}{st:SortSt}{Q:Unit->SortSt->Prop}(h:Q () (setArr st (bubble (arrOf st) src (src-dst)))):wpS gM gA gE gs (moveDown' src dst) Q st:=by
 rw[moveDown'_eq]; exact wpS_modify h
theorem B9 (h:l<r):l<=(l+r)/2/\(l+r)/2<r:=by exact Fx h
theorem jx (hlt:aZ gM gA gE gs gr go gk) {lo n oo:Nat}{st:SortSt}{Q:Bool->SortSt->Prop}(g:Gd gr go gk st) (hn:lo+n<=(arrOf st).size) (hok:oo<=n) (hs:SegUp gr (arrOf st) lo oo)
  (h:∀ st',Wn lo (lo+n) st st'->SegUp gr (arrOf st') lo n->Q true st'):wpS gM gA gE gs (binarySort' lo n oo) Q st:=by
 rw[binarySort'_eq]
 refine wpS_bind (wpS_mono (wpS_forRange (I:=λk c st'=>c=(none,())/\Wn lo (lo+n) st st'/\SegUp gr (arrOf st') lo (min k n))
  (Q:=λc st'=>c=(none,())/\Wn lo (lo+n) st st'/\SegUp gr (arrOf st') lo n) ?_ ?_ ⟨rfl,.refl ..,?_⟩) ?_)
 ·intro k c st' hk1 q LZ
  refine aI (LZ) λL5 z y=>?_
  clear LZ
  subst L5
  have g':=g.of z
  have hsz:=z.size
  rw[show min k n=k by exact Fw q] at y
  refine wpS_bind (wpS_mono (wpS_forRange (I:=λx c o=>o=st'/\∃ l r,c=(none,l,r)/\l<=r/\r<=k/\r-l<=k-x/\(∀ i,i<l->rkA gr (arrOf st') (lo+i)<=rkA gr (arrOf st') (lo+k))/\(∀ i,r<=i->i<k->rkA gr (arrOf st') (lo+k)<rkA gr (arrOf st') (lo+i)))
   (Q:=λc o=>o=st'/\∃ l r,c=(none,l,r)/\l<=k/\(∀ i,i<l->rkA gr (arrOf st') (lo+i)<=rkA gr (arrOf st') (lo+k))/\(∀ i,l<=i->i<k->rkA gr (arrOf st') (lo+k)<rkA gr (arrOf st') (lo+i))) ?_ ?_ (az rfl (oG 0 k rfl (zero_le _) (le_refl _) (le_refl _) (λi hi=>by exact F2 hi) (λi h1 h2=>by exact Dt h1 h2)))) ?_)
  ·intro x c o _ hx Ma
   obtain ⟨Me,l,r,Mm,lr,rk',pr,t,v⟩:=Ma
   (clear z; subst Me)
   subst Mm
   dsimp only
   by_cases c1:l≥r
   ·rw[if_pos c1]
    exact wpS_pure (az rfl (bO l r rfl (by exact le_trans ‹_› ‹_›) t (λi h1 h2=>v i (by exact le_trans ‹_› ‹_›) h2)))
   rw[if_neg c1]
   refine ab (B9 (lt_of_not_le c1)) λm1 m2=>?_
   generalize (l+r)/2=m at m1 m2 ⊢
   refine wpS_bind (gz hlt g' (oz hn q hsz) (G8 hn q rk' hsz m2) ?_)
   dsimp only
   by_cases w:rkA gr (arrOf o) (lo+k)<rkA gr (arrOf o) (lo+m)
   ·rw[decide_eq_true w,if_pos rfl]
    exact wpS_pure (az rfl (oG _ _ rfl ‹_› (D0 rk' m2) (HQ pr m2) t (λi h1 h2=>lt_of_lt_of_le w (y _ _ (le_add_right _ _) (by exact add_le_add_left ‹_› _) (by exact add_le_add_left ‹_› _)))))
   ·rw[decide_eq_false w,if_neg (by decide)]
    exact wpS_pure (az rfl (oG _ _ rfl ‹_› ‹_› (E6 pr m1) (λi h1=>le_trans (y _ (lo+m) (le_add_right _ _) (GF h1) (C6 rk' m2)) (le_of_not_lt w)) v))
  ·intro c o Mp
   obtain ⟨Mn,l,r,Mh,lr,rk',pr,t,v⟩:=Mp
   (clear g' hsz z; subst Mn)
   subst Mh
   exact (az rfl (bO l r rfl (by exact le_trans ‹_› ‹_›) t (λi h1 h2=>v i (GN pr h1) h2)))
  ·intro c o Mo
   obtain ⟨Mq,l,r,Mi,lk,t,v⟩:=Mo
   (clear g'; subst Mq)
   subst Mi
   dsimp only
   have hsrc:lo+k<(arrOf o).size:=by exact oz hn q hsz
   refine wpS_bind (xy (wpS_pure ⟨rfl,z.trans ⟨rfl,rfl,rfl,bubble_perm _ _ _,λj u=>?_⟩,?_⟩))
   ·show (bubble _ _ _)[j]? = _
    rw[getElem?_bubble hsrc _ (sub_le _ _),if_neg (Gm q u),if_neg (DJ q u)]
   ·rw[show min (k+1) n=k+1 by exact HZ q]
    show SegUp gr (bubble (arrOf o) (lo+k) (lo+k-(lo+l))) lo (k+1)
    have at':∀ j,rkA gr (bubble (arrOf o) (lo+k) (lo+k-(lo+l))) j=if j=lo+l then rkA gr (arrOf o) (lo+k) else if lo+l<j/\j<=lo+k then rkA gr (arrOf o) (j-1) else rkA gr (arrOf o) j:=λj=>by
     have:=getElem?_bubble hsrc (lo+k-(lo+l)) (sub_le _ _) j
     rw[show lo+k-(lo+k-(lo+l))=lo+l by exact DX lk] at this
     by_cases e1:j=lo+l
     ·rw[if_pos e1] at this ⊢; exact cf this
     ·rw[if_neg e1] at this ⊢
      by_cases e2:lo+l<j/\j<=lo+k
      ·rw[if_pos e2] at this ⊢; exact cf this
      ·rw[if_neg e2] at this ⊢; exact cf this
    intro i j hi p u
    rw[at',at']
    by_cases e1:i=lo+l
    ·rw[if_pos e1]
     by_cases e2:j=lo+l
     ·rw[if_pos e2]; exact le_refl _
     ·rw[if_neg e2,if_pos (Iy p u e1 e2)]
      have:=v (j-1-lo) (I7 p e1 e2) (Ib p u e1 e2)
      rw[show lo+(j-1-lo)=j-1 by exact FW p e1 e2] at this
      exact le_of_lt this
    ·rw[if_neg e1]
     by_cases e2:j=lo+l
     ·rw[if_pos e2,if_neg (Jm p e2)]
      have:=t (i-lo) (EJ hi p e1 e2)
      rwa [show lo+(i-lo)=i by exact j6 hi] at this
     ·rw[if_neg e2]
      by_cases e3:lo+l<i
      ·rw[if_pos (Is p u e3),if_pos (EM p u e3)]
       exact y _ _ (Fk e3) (Gp p) (IF p u e3)
      ·rw[if_neg (zy e3)]
       by_cases e4:lo+l<j
       ·rw[if_pos (HG u e4)]
        exact y _ _ ‹_› (C3 e3 e4) (Jp u e4)
       ·rw[if_neg (zy e4)]
        exact y _ _ ‹_› ‹_› (C9 lk e2 e4)
 ·intro c st' L7
  refine aI (L7) λL8 z y=>?_
  clear L7
  subst L8
  rw[show min (max (max oo 1) n) n=n by exact E1] at y
  exact ⟨rfl,z,y⟩
 ·intro i j hi p u
  by_cases e:oo=0
  ·rw[show i=j by exact Js hi p u e]; exact le_refl _
  ·exact hs i j hi p (GL u e)
 ·intro c st' L1
  refine aI (L1) λMg z y=>?_
  clear L1
  subst Mg
  exact wpS_pure (h st' z y)
end
section
theorem qd (base:Nat) (hf:∀ a p j,f a (p,j)=a.setIfInBounds (base+j) p):∀ (r:List Keyed) (off:Nat) (arr:Array Keyed),base+off+r.length<=arr.size ->
  ((r.zipIdx off).foldl f arr).toList=arr.toList.take (base+off)++r++arr.toList.drop (base+off+r.length)
 | [],off,arr,_=>by rw[List.zipIdx_nil,List.foldl_nil,append_nil,List.length_nil,add_zero,take_append_drop]
 | p::r,off,arr,h=>by
  rw[length_cons] at h
  have g:base+off<arr.toList.length:=by rw[length_toList]; exact IL h
  rw[List.zipIdx_cons,foldl_cons,hf,qd base hf r (off+1) _ (by rw[Array.size_setIfInBounds]; exact DV h),Array.toList_setIfInBounds,List.set_eq_take_append_cons_drop,if_pos g]
  have k:(arr.toList.take (base+off)++p::arr.toList.drop (base+off+1)).take (base+(off+1))=arr.toList.take (base+off)++[p]:=by
   rw[List.take_append,length_take,min_eq_left (le_of_lt g),show base+(off+1)-(base+off)=1 by exact Jg,take_of_length_le (by rw[length_take]; exact Dz)]
   rfl
  have i:(arr.toList.take (base+off)++p::arr.toList.drop (base+off+1)).drop (base+(off+1)+r.length)=arr.toList.drop (base+off+(p::r).length):=by
   rw[List.drop_append,length_take,min_eq_left (le_of_lt g),List.drop_eq_nil_iff.mpr (by rw[length_take]; exact HT),nil_append,show base+(off+1)+r.length-(base+off)=r.length+1 by exact Ew,List.drop_succ_cons,drop_drop]
   congr 1
   rw[length_cons]; exact Ic
  rw[k,i,append_assoc,append_assoc,append_assoc]
  rfl
theorem gy {arr:Array Keyed}{lo n:Nat}(h:SegUp gr arr lo n) (hn:lo+n<=arr.size):Up gr ((arr.toList.drop lo).take n):=by
 unfold Up
 rw[List.pairwise_iff_getElem]
 intro i j l g k
 rw[length_take,length_drop,length_toList] at l g
 rw[getElem_take,getElem_take,getElem_drop,getElem_drop]
 have:=h (lo+i) (lo+j) (le_add_right _ _) (add_le_add_left (le_of_lt k) lo) (add_lt_add_left (lt_of_lt_of_le g (min_le_left _ _)) lo)
 rwa [cj (by rw[length_toList]; exact lt_of_lt_of_le (add_lt_add_left (lt_of_lt_of_le l (min_le_left _ _)) lo) hn),cj (by rw[length_toList]; exact lt_of_lt_of_le (add_lt_add_left (lt_of_lt_of_le g (min_le_left _ _)) lo) hn)] at this
theorem io (hlt:aZ gM gA gE gs gr go gk) {left:Bool}{key:Keyed}{arr:Array Keyed}{base n hint:Nat}{st:SortSt}{Q:Option Nat->SortSt->Prop}(hn:base+n<=arr.size) (hh:hint<n) (hok:∀ p∈arr,go p) (hkey:go key) (hk:kindOf st=gk) (up:SegUp gr arr base n)
  (h:∀ k,k<=n->(∀ q,q<k->if left then rkA gr arr (base+q)<gr key else rkA gr arr (base+q)<=gr key)->(∀ q,k<=q->q<n->if left then gr key<=rkA gr arr (base+q) else gr key<rkA gr arr (base+q))->Q (some k) st) :
  wpS gM gA gE gs (gallop' left key arr base n hint) Q st:=by
 refine lV hlt hn hh hok hkey hk (λi=>if left then decide (rkA gr arr (base+i)<gr key) else !decide (gr key<rkA gr arr (base+i))) (λuu=>rfl) (λi j t r l=>?_) λk t r l=>h k t (λq g=>?_) λq g o=>?_
 ·have m:=up (base+i) (base+j) (le_add_right _ _) (by exact add_le_add_left ‹_› _) (by exact add_le_add_left ‹_› _)
  cases left with
  | true=>simp at l ⊢; exact yn m l
  | false=>simp at l ⊢; exact yr m l
 ·have:=r q g
  cases left with
  | true=>simpa using this
  | false=>simpa using this
 ·have:=l q g o
  cases left with
  | true=>simpa using this
  | false=>simpa using this
theorem ir {arr:Array Keyed}{lo n:Nat}{x:Keyed}(hx:x∈(arr.toList.drop lo).take n):∃ i,lo<=i/\i<lo+n/\i<arr.size/\gr x=rkA gr arr i:=by
 obtain ⟨q,g,h⟩:=getElem_of_mem hx
 subst h
 rw[length_take,length_drop,length_toList] at g
 refine ⟨lo+q,by exact le_add_right _ _,by exact JE g,by exact sw g,?_⟩
 rw[cj (by rw[length_toList]; exact sw g),getElem_take,getElem_drop]
theorem nG (hx:x∈arr.toList.take n):∃ i,i<n/\i<arr.size/\gr x=rkA gr arr i:=by
 obtain ⟨i,_,j,h,g⟩:=ir (lo:=0) (n:=n) (by rw[drop_zero]; exact hx)
 exact ⟨i,by exact sR j,h,g⟩
theorem v0 (hx:x∈arr.toList.drop n):∃ i,n<=i/\i<arr.size/\gr x=rkA gr arr i:=by
 obtain ⟨q,h,g⟩:=getElem_of_mem hx
 subst g
 rw[length_drop,length_toList] at h
 refine ⟨n+q,by exact le_add_right _ _,by exact oC h,?_⟩
 rw[cj (by rw[length_toList]; exact oC h),getElem_drop]
theorem AB {st st':SortSt}{Q:PUnit->SortSt->Prop}(h:Q ⟨⟩ st'):wpS gM gA gE gs (set st':StateT SortSt Sem PUnit) Q st:=by
 unfold wpS; rw[StateT.run_set]; exact wpAny_pure ⟨rfl,h⟩
theorem wpS_set' {st x:SortSt}{Q:PUnit->SortSt->Prop}(h:∀ st',kindOf st' = kindOf x->arrOf st' = arrOf x->pendingOf st' = pendingOf x->failedOf st' = failedOf x->Q ⟨⟩ st'):wpS gM gA gE gs (set x:StateT SortSt Sem PUnit) Q st:=AB (h x rfl rfl rfl rfl)
theorem BE (hsz:n1+n2=arr.size) (u1:SegUp gr arr 0 n1) (u2:SegUp gr arr n1 n2) (h:∀ i j,i<n1->n1<=j->j<arr.size->rkA gr arr i<=rkA gr arr j):Up gr arr.toList:=by
 have l:SegUp gr arr 0 arr.size:=by
  intro i j _ g k
  by_cases e1:j<n1
  ·exact u1 i j (zero_le _) g (yD e1)
  ·by_cases e2:i<n1
   ·exact h i j e2 (by exact le_of_not_lt ‹_›) (sR k)
   ·exact u2 i j (by exact le_of_not_lt ‹_›) g (Fv hsz k)
 have:=gy l Fp
 rwa [drop_zero,take_of_length_le (by rw[length_toList]; exact le_refl _)] at this
theorem qV (hlt:aZ gM gA gE gs gr go gk) {st:SortSt}{n1 n2 p1 p2:Nat}{Q:Bool->SortSt->Prop}(g:Gd gr go gk st) (hp:pendingOf st = #[(0,n1,p1),(n1,n2,p2)]) (hsz:n1+n2=(arrOf st).size) (h1:1<=n1) (h2:1<=n2) (u1:SegUp gr (arrOf st) 0 n1) (u2:SegUp gr (arrOf st) n1 n2) (hf:failedOf st=none)
  (h:∀ st',(arrOf st').Perm (arrOf st)->Up gr (arrOf st').toList->(pendingOf st').size=1->failedOf st' = none->kindOf st' = gk->Q true st'):wpS gM gA gE gs (mergeAt' 0) Q st:=by
 unfold mergeAt'
 refine wpS_bind (wpS_get ?_)
 have q0:(pendingOf st)[0]? = some (0,n1,p1):=by rw[hp]; rfl
 have q1:(pendingOf st)[0+1]? = some (n1,n2,p2):=by rw[hp]; rfl
 rw[q0,q1]
 dsimp only
 refine wpS_bind (wpS_set' λst1 f1 f2 f3 f4=>?_)
 have a1:arrOf st1=arrOf st:=f2
 have a2:kindOf st1=gk:=f1.trans g.kind
 have a3:(pendingOf st1).size=1:=by
  rw[f3]
  show (((pendingOf st).setIfInBounds 0 (0,n1+n2,p1)).eraseIdxIfInBounds (0+1)).size=1
  rw[hp]; simp[Array.eraseIdxIfInBounds]
 have a4:failedOf st1=none:=f4.trans hf
 clear f1 f2 f3 f4 q0 q1 hp
 have hn1:n1<(arrOf st).size:=by exact EL hsz h2
 refine wpS_bind (aK hn1 (wpS_bind (io (arr:=arrOf st) hlt (Ee hsz) ‹_› g.ok (g.ok _ (getElem_mem _)) a2 u1 λk k1 k2 k3=>?_)))
 dsimp only
 simp only[false_eq_true,if_false,zero_add] at k2 k3
 have eb:gr (arrOf st)[n1]=rkA gr (arrOf st) n1:=(fe hn1).symm
 rw[eb] at k2 k3
 have plain:∀ (_:∀ i j,i<n1->n1<=j->j<(arrOf st).size->rkA gr (arrOf st) i<=rkA gr (arrOf st) j),Q true st1:=λhh=>h st1 (by rw[a1]) (by rw[a1]; exact BE hsz u1 u2 hh) a3 a4 a2
 by_cases c1:(n1-k==0)=true
 ·rw[if_pos c1]
  have e:k=n1:=by have:=beq_iff_eq.mp c1; exact Hu k1 this
  subst e
  exact wpS_pure (plain λi j hi v u=>le_trans (k2 i hi) (u2 _ _ (le_refl _) v (tS hsz u)))
 rw[if_neg c1]
 have o:k<n1:=by have:n1-k≠0:=λe=>c1 (beq_iff_eq.mpr e); exact Gz this
 have hla:0+k+(n1-k)-1<(arrOf st).size:=by exact DE hn1 o
 have t:0+k+(n1-k)-1=n1-1:=by exact G3 o
 refine wpS_bind (aK hla (wpS_bind (io (arr:=arrOf st) hlt (HJ hsz) (sS h2) g.ok (g.ok _ (getElem_mem _)) a2 u2 λl l1 l2 l3=>?_)))
 dsimp only
 simp only[if_true] at l2 l3
 have el:gr (arrOf st)[0+k+(n1-k)-1]=rkA gr (arrOf st) (n1-1):=(fe hla).symm.trans (by rw[t])
 rw[el] at l2 l3
 by_cases c2:(l==0)=true
 ·rw[if_pos c2]
  have e:=beq_iff_eq.mp c2
  subst e
  refine wpS_pure (plain λi j hi v u=>le_trans (u1 i (n1-1) (zero_le _) (sv hi) (yh h1)) ?_)
  have:=l3 (j-n1) (zero_le _) (y4 hsz h2 u)
  rwa [show n1+(j-n1)=j by exact j6 v] at this
 rw[if_neg c2]
 have hl0:0<l:=by have:l≠0:=λe=>c2 (beq_iff_eq.mpr e); exact sj this
 rw[zero_add]
 have lx:((arrOf st).extract k n1).toList=((arrOf st).toList.drop k).take (n1-k):=bS ..
 have ly:((arrOf st).extract n1 (n1+l)).toList=((arrOf st).toList.drop n1).take l:=by rw[bS,add_sub_cancel_left]
 have sx:((arrOf st).extract k n1).size=n1-k:=by rw[Array.size_extract]; exact Ik hsz
 have sy:((arrOf st).extract n1 (n1+l)).size=l:=by rw[Array.size_extract]; exact IX hsz l1
 have ux:Up gr ((arrOf st).extract k n1).toList:=by
  rw[lx]
  exact gy (λi j hi hij v=>u1 i j (zero_le _) hij (EV h1 t v)) (EH hsz o)
 have uy:Up gr ((arrOf st).extract n1 (n1+l)).toList:=by
  rw[ly]
  exact gy (λi j hi hij v=>u2 i j hi hij (IZ l1 v)) (DI hsz l1)
 have ox:∀ p∈(arrOf st).extract k n1,go p:=λp hp=>g.ok p (by
  have:p∈((arrOf st).extract k n1).toList:=mem_toList_iff.mpr hp
  rw[lx] at this
  exact mem_toList_iff.mp (List.mem_of_mem_drop (mem_of_mem_take this)))
 have oy:∀ p∈(arrOf st).extract n1 (n1+l),go p:=λp hp=>g.ok p (by
  have:p∈((arrOf st).extract n1 (n1+l)).toList:=mem_toList_iff.mpr hp
  rw[ly] at this
  exact mem_toList_iff.mp (List.mem_of_mem_drop (mem_of_mem_take this)))
 have hy0:gr (((arrOf st).extract n1 (n1+l))[0]'(zw hl0 sy))=rkA gr (arrOf st) n1:=by rw[Array.getElem_extract,<- eb]; rfl
 have hx1:gr (((arrOf st).extract k n1)[((arrOf st).extract k n1).size-1]'(yS o sx))=rkA gr (arrOf st) (n1-1):=by
  rw[Array.getElem_extract,<- fe (arr:=arrOf st) (i:=k+(((arrOf st).extract k n1).size-1)) (DQ hsz h1 h2 t sx)]
  congr 1
  exact Jt o sx
 have p0:∀ y∈((arrOf st).extract k n1).toList,gr (((arrOf st).extract n1 (n1+l))[0]'(zw hl0 sy))<=gr y:=λy hy=>by
  rw[lx] at hy
  refine ca (ir hy) λi i1 i2 i3 i4=>?_
  rw[hy0,i4]
  exact le_of_lt (k3 i i1 (GM h1 t i2))
 have p1:∀ x∈((arrOf st).extract n1 (n1+l)).toList,gr x<=gr (((arrOf st).extract k n1)[((arrOf st).extract k n1).size-1]'(yS o sx)):=λx hx=>by
  rw[ly] at hx
  refine ca (ir hx) λi i1 i2 i3 i4=>?_
  rw[hx1,i4]
  have:=l2 (i-n1) (E2 i1 i2)
  rw[show n1+(i-n1)=i by exact j6 i1] at this
  exact le_of_lt this
 have fin:∀ (r:Array Keyed) (z:SortSt) (f:Array Keyed->Keyed×Nat->Array Keyed),(∀ a p j,f a (p,j)=a.setIfInBounds (k+j) p)->Mgd gr ((arrOf st).extract k n1).toList ((arrOf st).extract n1 (n1+l)).toList r->arrOf z=List.foldl f (arrOf st) r.toList.zipIdx->(pendingOf z).size=1->failedOf z=none->kindOf z=gk->Q true z:=λr z f hf' hm e1 e2 e3 e4=>by
  have hlen:r.toList.length=n1-k+l:=by
   have:=hm.1.length_eq
   simp only[length_append,length_toList,sx,sy] at this
   rw[length_toList]; exact this
  have hto:=qd k hf' r.toList 0 (arrOf st) (by rw[hlen]; exact Eo hsz h1 t l1)
  rw[<- e1,add_zero,hlen,show k+(n1-k+l)=n1+l by exact yJ h1 t] at hto
  have hL:(arrOf st).toList=(arrOf st).toList.take k++(((arrOf st).toList.drop k).take (n1-k)++((arrOf st).toList.drop n1).take l)++(arrOf st).toList.drop (n1+l):=by
   have e5:((arrOf st).toList.drop k).take (n1-k)++((arrOf st).toList.drop n1).take l=((arrOf st).toList.drop k).take (n1-k+l):=by
    rw[take_add' ((arrOf st).toList.drop k) (n1-k) l,drop_drop,show k+(n1-k)=n1 by exact FO h1 t]
   rw[e5,<- take_add',show k+(n1-k+l)=n1+l by exact yJ h1 t,take_append_drop]
  refine h z ?_ ?_ e2 e3 e4
  ·refine perm_iff_toList_perm.mpr ?_
   rw[hto]
   have:=hm.1
   rw[lx,ly] at this
   refine List.Perm.trans ?_ (List.Perm.of_eq hL.symm)
   exact (this.append_left _).append_right _
  ·rw[hto]
   have inXY:∀ x∈r.toList,∃ i,k<=i/\i<n1+l/\gr x=rkA gr (arrOf st) i:=λx hx=>by
    have:=hm.1.mem_iff.mp hx
    rw[lx,ly] at this
    rcases mem_append.mp this with q | q
    ·refine ca (ir q) λi i1 i2 _ i4=>?_
     exact ⟨i,i1,by exact H8 h1 t i2,i4⟩
    ·refine ca (ir q) λi i1 i2 _ i4=>?_
     exact ⟨i,by exact le_trans ‹_› ‹_›,by assumption,i4⟩
   have lowXY:∀ i j,i<k->k<=j->j<(arrOf st).size->rkA gr (arrOf st) i<=rkA gr (arrOf st) j:=λi j hi v u=>by
    by_cases e:j<n1
    ·exact u1 i j (zero_le _) (GC hi v) (yD e)
    ·exact le_trans (k2 i hi) (u2 _ _ (le_refl _) (by exact le_of_not_lt ‹_›) (tS hsz u))
   have highXY:∀ i j,i<n1+l->n1+l<=j->j<(arrOf st).size->rkA gr (arrOf st) i<=rkA gr (arrOf st) j:=λi j hi v u=>by
    by_cases e:i<n1
    ·refine le_trans (u1 i (n1-1) (zero_le _) (sv e) (yh h1)) ?_
     have:=l3 (j-n1) (CZ v) (y4 hsz h2 u)
     rwa [show n1+(j-n1)=j by exact GD v] at this
    ·exact u2 i j (by exact le_of_not_lt ‹_›) (IN hi v) (tS hsz u)
   refine pairwise_append.mpr ⟨pairwise_append.mpr ⟨?_,hm.2,λx hx y hy=>?_⟩,?_,λx hx y hy=>?_⟩
   ·have:=gy (arr:=arrOf st) (lo:=0) (n:=k) (λi j hi hij v=>u1 i j hi hij (Dm o v)) (FZ hsz o)
    rwa [drop_zero] at this
   ·refine ao (nG hx) λi i1 i2 i3=>?_
    refine ao (inXY y hy) λj j1 j2 j3=>?_
    rw[i3,j3]
    exact lowXY i j i1 j1 (Jq hsz l1 j2)
   ·have:=gy (arr:=arrOf st) (lo:=n1+l) (n:=n2-l) (λi j hi hij v=>u2 i j (FQ hi) hij (DD l1 v)) (FT hsz l1)
    rwa [take_of_length_le (by rw[length_drop,length_toList]; exact FJ hsz)] at this
   ·refine ao (v0 hy) λj j1 j2 j3=>?_
    rw[j3]
    rcases mem_append.mp hx with hx | hx
    ·refine ao (nG hx) λi i1 i2 i3=>?_
     rw[i3]
     exact lowXY i j i1 (Gn o j1) j2
    ·refine ao (inXY x hx) λi i1 i2 i3=>?_
     rw[i3]
     exact highXY i j i2 j1 j2
 by_cases c3:n1-k<=l
 all_goals first
  | (
   rw[if_pos c3]
   refine wpS_bind (qD (a:=(arrOf st).extract k n1) (b:=(arrOf st).extract n1 (n1+l)) hlt (by rw[sx]; exact IT o) (by rw[sy]; exact yb hl0) ox oy a2 ux uy p0 p1 λr m sm hm=>?_))
  | (
   rw[if_neg c3]
   refine wpS_bind (qF (a:=(arrOf st).extract k n1) (b:=(arrOf st).extract n1 (n1+l)) hlt (by rw[sx]; exact EX c3) (by rw[sy]; exact yb hl0) ox oy a2 ux uy p0 p1 λr m sm hm=>?_))
 all_goals
  refine wpS_bind (wpS_modify (wpS_bind (wpS_get ?_)))
  have ef:failedOf m=none:=sm.2.2.2.trans a4
  have key:=fin r (SortSt.mk' (kindOf m) (List.foldl (λa x=>match x with | (p,j)=>a.setIfInBounds (k+j) p) (arrOf m) r.toList.zipIdx) (pendingOf m) (gallopOf m) (failedOf m)) (λa x=>match x with | (p,j)=>a.setIfInBounds (k+j) p) (λuu uu uu=>rfl) hm (by show List.foldl _ (arrOf m) _=_; rw[sm.2.1,a1]) (by show (pendingOf m).size=1; rw[sm.2.2.1]; exact a3) ef (sm.1.trans a2)
  refine wpS_pure ?_
  show Q (failedOf m).isNone _
  rw[show (failedOf m).isNone=true by rw[ef]; rfl]
  exact key
end
section
theorem qP (h2:2<=n) (h:n<128):1<=minRun' n n 0/\minRun' n n 0<=n/\n<=2*minRun' n n 0:=by
 obtain ⟨f,rfl⟩:∃ f,n=f+1:=⟨n-1,by exact yw h2⟩
 rw[minRun'_succ]
 by_cases c:f+1<64
 ·rw[if_pos c]; exact Ip
 ·rw[if_neg c]
  obtain ⟨e,rfl⟩:∃ e,f=e+1:=⟨f-1,by exact GI h2⟩
  rw[minRun'_succ,if_pos (Jo h)]
  exact DC
structure Ph1 (gr:Keyed->Nat) (st st':SortSt) (n1:Nat):Prop where
 perm:(arrOf st').Perm (arrOf st)
 kind:kindOf st' = kindOf st
 fail:failedOf st' = none
 pend:pendingOf st' = #[(0,n1,0)]
 up:SegUp gr (arrOf st') 0 n1
structure Ph2 (gr:Keyed->Nat) (st st':SortSt):Prop where
 perm:(arrOf st').Perm (arrOf st)
 kind:kindOf st' = kindOf st
 fail:failedOf st' = none
 runs:∃ n1 n2 pw,pendingOf st' = #[(0,n1,pw),(n1,n2,0)]/\1<=n1/\1<=n2/\n1+n2=(arrOf st).size/\SegUp gr (arrOf st') 0 n1/\SegUp gr (arrOf st') n1 n2
structure Dn (gr:Keyed->Nat) (st st':SortSt):Prop where
 perm:(arrOf st').Perm (arrOf st)
 fail:failedOf st' = none
 pend:(pendingOf st').size=1
 up:Up gr (arrOf st').toList
theorem Gd.perm {st st':SortSt}(g:Gd gr go gk st) (hp:(arrOf st').Perm (arrOf st)) (hk:kindOf st' = kindOf st):Gd gr go gk st':=⟨λp h=>g.ok p (hp.mem_iff.mp h),hk.trans g.kind⟩
theorem Co {α:Type}{c:Prop}{dc:Decidable c}{A:StateT SortSt Sem α}{jp:Nat->StateT SortSt Sem α}{n:Nat}(m:Nat) (P:SortSt->Prop) {st:SortSt}{Q:α->SortSt->Prop}(h1:c->(∀ st2,P st2->wpS gM gA gE gs (jp m) Q st2)->wpS gM gA gE gs A Q st) (h2:¬ c->n=m/\P st) (J:∀ st2,P st2->wpS gM gA gE gs (jp m) Q st2) :
  wpS gM gA gE gs (@ite _ c dc A (jp n)) Q st:=by
 by_cases q:c
 ·rw[if_pos q]
  exact h1 q J
 ·rw[if_neg q,(h2 q).1]
  exact J st (h2 q).2
theorem sr (hlt:aZ gM gA gE gs gr go gk) {st:SortSt}{Q:Unit->SortSt->Prop}(g:Gd gr go gk st) (h2:2<=(arrOf st).size) (h128:(arrOf st).size<128) (hp:pendingOf st = #[]) (hf:failedOf st=none)
  (h:∀ st',(arrOf st').Perm (arrOf st)->Up gr (arrOf st').toList->failedOf st' = none->Q () st'):wpS gM gA gE gs sortRuns' Q st:=by
 rw[sortRuns'_eq]
 refine wpS_bind (wpS_get ?_)
 refine aI (qP h2 h128) λm1 m2 m3=>?_
 dsimp only
 generalize hN:(arrOf st).size=N at *
 generalize minRun' N N 0=mr at *
 refine wpS_bind (wpS_mono (wpS_forRange (I:=λx c st'=>(x=0/\c=(none,0)/\st' = st)\/(∃ l,c=(none,l)/\Ph1 gr st st' l/\mr<=l/\l<=N/\(x=1\/l=N))\/(c=(none,N)/\Ph2 gr st st'))
  (Q:=λc st'=>c=(none,N)/\(Ph1 gr st st' N\/Ph2 gr st st')) ?_ ?_ (.inl ⟨rfl,rfl,rfl⟩)) ?_)
 ·rintro x c st' _ hx (⟨rfl,rfl,rfl⟩ | ⟨l,rfl,p,q1,q2,q3⟩ | ⟨rfl,p2⟩)
  ·dsimp only
   rw[if_neg (by exact not_le_of_lt ‹_›)]
   refine wpS_bind (hO hlt g (sq hN) ‹_› λn o l n2 t up=>?_)
   dsimp only
   by_cases c:n<mr
   ·rw[if_pos c]
    refine wpS_bind (cW (wpS_bind (jx hlt (g.of t) (by rw[t.size]; exact Ek hN) (Du m2 c) up λk r u=>?_)))
    rw[if_neg (by decide)]
    refine wpS_bind (wpS_get ?_)
    have ep:pendingOf k = #[]:=by rw[r.pend,t.pend,hp]
    have em:min (N-0) mr=mr:=by exact I8 m2
    rw[em] at u ⊢
    rw[show (pendingOf k).back? = none by rw[ep]; rfl]
    refine wpS_bind (wpS_modify (wpS_pure (.inr (.inl ⟨mr,by rw[zero_add],⟨r.perm.trans t.perm,r.kind.trans t.kind,r.fail.trans (t.fail.trans hf),?_,u⟩,le_refl _,m2,.inl rfl⟩))))
    show (pendingOf k).push (0,mr,0)=_
    rw[ep]; rfl
   ·rw[if_neg c]
    refine wpS_bind (wpS_get ?_)
    have ep:pendingOf o = #[]:=by rw[t.pend,hp]
    rw[show (pendingOf o).back? = none by rw[ep]; rfl]
    refine wpS_bind (wpS_modify (wpS_pure (.inr (.inl ⟨n,by rw[zero_add],⟨t.perm,t.kind,t.fail.trans hf,?_,up⟩,by exact le_of_not_lt ‹_›,by assumption,.inl rfl⟩))))
    show (pendingOf o).push (0,n,0)=_
    rw[ep]; rfl
  ·dsimp only
   by_cases c0:l≥N
   ·rw[if_pos c0]
    have e:l=N:=by exact HI q2 c0
    subst e
    exact wpS_pure ⟨rfl,.inl p⟩
   rw[if_neg c0]
   have g1:=g.perm p.perm p.kind
   have v:(arrOf st').size=N:=by rw[p.perm.size_eq,hN]
   refine wpS_bind (hO hlt g1 (FM c0 v) (Da c0) λn o k1 k2 t up=>?_)
   dsimp only
   have fin:∀ (k:SortSt) (pw:Nat),Wn l (l+(N-l)) st' k->SegUp gr (arrOf k) l (N-l)->Ph2 gr st (setPending (setPending k ((pendingOf k).modify ((pendingOf k).size-1) λx=>(x.1,x.2.1,pw))) (((pendingOf k).modify ((pendingOf k).size-1) λx=>(x.1,x.2.1,pw)).push (l,N-l,0))):=λk pw z u2=>by
    refine ⟨z.perm.trans p.perm,z.kind.trans p.kind,z.fail.trans p.fail,l,N-l,pw,?_,by exact Eg m1 q1,by exact lt_of_lt_of_le ‹_› ‹_›,by exact I6 hN k1 k2,?_,u2⟩
    ·show ((pendingOf k).modify ((pendingOf k).size-1) λx=>(x.1,x.2.1,pw)).push (l,N-l,0)=_
     rw[z.pend,p.pend]
     apply Array.toList_inj.mp
     rw[toList_push,Array.toList_modify]
     rfl
    ·intro i j hi hij hj
     show rkA gr (arrOf k) i<=rkA gr (arrOf k) j
     rw[cf (z.out i (.inl (Eu hij hj))),cf (z.out j (.inl (sR hj)))]
     exact p.up i j hi hij hj
   apply Co (n:=n) (N-l) (λk=>Wn l (l+(N-l)) st' k/\SegUp gr (arrOf k) l (N-l))
   ·intro c J
    refine wpS_bind (cW (wpS_bind (jx hlt (g1.of t) (by rw[t.size]; exact Jz v k1 k2) (Ec m3 q1 k2) up λk r u=>?_)))
    rw[if_neg (by decide)]
    have em:min (N-l) mr=N-l:=E5 m3 q1
    rw[em] at r u ⊢
    exact J k ⟨t.trans r,u⟩
   ·intro c
    have em:n=N-l:=Ej m3 q1 k2 c
    clear fin
    refine ⟨em,t,?_⟩
    rw[em] at up
    exact up
   ·intro k hI
    refine ab hI λz u=>?_
    clear hI
    refine wpS_bind (wpS_get ?_)
    have ep:pendingOf k = #[(0,l,0)]:=by rw[z.pend,p.pend]
    rw[show (pendingOf k).back? = some (0,l,0) by rw[ep]; rfl]
    dsimp only
    refine wpS_bind (wpS_mono (wpS_forRange (I:=λx c m=>m=k/\c=(none,())) (Q:=λc m=>m=k/\c=(none,())) ?_ ?_ ⟨rfl,rfl⟩) ?_)
    ·intro x c m _ _ LC
     refine ab (LC) λLy LG=>?_
     clear LC
     subst Ly
     subst LG
     refine wpS_bind (wpS_get ?_)
     rw[if_neg (λq=>by rw[ep] at q; exact absurd q (lt_irrefl 1))]
     exact wpS_pure ⟨rfl,rfl⟩
    ·rintro c m h; exact h
    ·intro c m Lz
     refine ab (Lz) λLA LH=>?_
     clear Lz
     subst LA
     subst LH
     dsimp only
     refine wpS_bind (wpS_modify (wpS_bind (wpS_modify (wpS_pure (.inr (.inr ⟨by rw[show l+(N-l)=N by lia],fin m _ z u⟩))))))
  ·dsimp only
   rw[if_pos (le_refl _)]
   exact wpS_pure ⟨rfl,.inr p2⟩
 ·rintro c st' (⟨e,_⟩ | ⟨l,rfl,p,q1,q2,q3⟩ | ⟨rfl,p2⟩)
  ·exact HA h2 e
  ·have e:l=N:=by exact FD h2 q3
   subst e
   exact ⟨rfl,.inl p⟩
  ·exact ⟨rfl,.inr p2⟩
 ·intro c st' LJ
  refine ab (LJ) λLD hph=>?_
  clear LJ
  subst LD
  dsimp only
  refine wpS_bind (wpS_mono (wpS_forRange (I:=λx c st'=>c=(none,())/\(Dn gr st st'\/(x=0/\Ph2 gr st st'))) (Q:=λc st'=>c=(none,())/\Dn gr st st') ?_ ?_ ⟨rfl,?_⟩) ?_)
  ·intro x c o _ hx LB
   refine ab (LB) λLF y=>?_
   clear LB
   subst LF
   refine wpS_bind (wpS_get ?_)
   rcases y with y | ⟨rfl,p2⟩
   ·rw[if_pos (by rw[y.pend]; exact le_refl _)]
    exact wpS_pure ⟨rfl,y⟩
   ·refine cF (p2.runs) λl n2 pw e1 e2 e3 e4 e5 e6=>?_
    have es:(pendingOf o).size=2:=by rw[e1]; rfl
    rw[if_neg (Id es),es]
    have v:(arrOf o).size=N:=by rw[p2.perm.size_eq,hN]
    refine wpS_bind (qV hlt (g.perm p2.perm p2.kind) e1 (JA hN e4 v) e2 e3 e5 e6 p2.fail λk f1 f2 f3 f4 f5=>?_)
    exact wpS_pure ⟨rfl,.inl ⟨f1.trans p2.perm,f4,f3,f2⟩⟩
  ·intro c o LI
   refine ab (LI) λLK y=>?_
   clear LI
   subst LK
   refine ⟨rfl,y.resolve_right λq=>?_⟩
   have:=q.1
   exact Ja h2 q
  ·rcases hph with p | p2
   ·left
    refine ⟨p.perm,p.fail,by rw[p.pend]; rfl,?_⟩
    have v:(arrOf st').size=N:=by rw[p.perm.size_eq,hN]
    have:=gy p.up (zK v)
    rwa [drop_zero,take_of_length_le (by rw[length_toList]; exact yl v)] at this
   ·exact .inr ⟨rfl,p2⟩
  ·intro c o LL
   refine ab (LL) λLN y=>?_
   clear LL
   subst LN
   exact wpS_pure (h o y.perm y.up y.fail)
end
theorem iq:∀ a:List Int,ltL a a=false
 | []=>rfl
 | a::as=>by simp[ltL,iq as]
theorem cJ:∀ {a b c:List Int},ltL a b=true->ltL b c=true->ltL a c=true
 | [],[],_,h,_=>by simp[ltL] at h
 | [],_::_,[],_,h=>by simp[ltL] at h
 | [],_::_,_::_,_,_=>rfl
 | _::_,[],_,h,_=>by simp[ltL] at h
 | _::_,_::_,[],_,h=>by simp[ltL] at h
 | a::as,b::bs,c::cs,h1,h2=>by
  unfold ltL at h1 h2 ⊢
  by_cases e1:a=b
  ·subst e1
   rw[if_pos rfl] at h1
   by_cases e2:a=c
   ·rw[if_pos e2] at h2 ⊢; exact cJ h1 h2
   ·rw[if_neg e2] at h2 ⊢; exact h2
  ·rw[if_neg e1] at h1
   by_cases e2:b=c
   ·subst e2; rw[if_neg e1]; exact h1
   ·rw[if_neg e2] at h2
    simp only[decide_eq_true_eq] at h1 h2
    rw[if_neg (F9 h1 h2)]
    simp only[decide_eq_true_eq]; exact Dk h1 h2
theorem e8:∀ {a b:List Int},ltL a b=false->ltL b a=false->a=b
 | [],[],_,_=>rfl
 | [],_::_,h,_=>by simp[ltL] at h
 | _::_,[],_,h=>by simp[ltL] at h
 | a::as,b::bs,h1,h2=>by
  unfold ltL at h1 h2
  by_cases e:a=b
  ·subst e
   rw[if_pos rfl] at h1 h2
   rw[e8 h1 h2]
  ·rw[if_neg e] at h1
   rw[if_neg (Ne.symm e)] at h2
   simp only[decide_eq_false_iff_not] at h1 h2
   exact HK e h1 h2
noncomputable def rkL (ks:List (List Int)) (k:List Int):Nat:=ks.countP λx=>ltL x k
theorem nJ:∀ {l:List α},(∀ x∈l,p x=true->q x=true)->l.countP p<=l.countP q
 | [],_=>le_refl _
 | x::l,h=>by
  have g:=nJ λy i=>h y (.tail _ i)
  rw[List.countP_cons,List.countP_cons]
  cases hp:p x with
  | true=>rw[h x (.head _) hp]; simp; exact g
  | false=>simp; exact Gy g
theorem nO:∀ {l:List α}{y:α},(∀ x∈l,p x=true->q x=true)->y∈l->p y=false->q y=true->l.countP p<l.countP q
 | x::l,y,h,hy,h1,h2=>by
  rw[List.countP_cons,List.countP_cons]
  rcases mem_cons.mp hy with rfl | hy
  ·rw[h1,h2]
   have:=nJ λz g=>h z (.tail _ g)
   simp; exact yK this
  ·have i:=nO (λz g=>h z (.tail _ g)) hy h1 h2
   cases hp:p x with
   | true=>rw[h x (.head _) hp]; simp; exact i
   | false=>simp; exact JD i
theorem lp (ha:a∈ks) (hb:b∈ks):ltL a b=decide (rkL ks a<rkL ks b):=by
 have g:∀ {a b:List Int},a∈ks->ltL a b=true->rkL ks a<rkL ks b:=λ{a b} ha h=>nO (λx _ i=>cJ i h) ha (iq a) h
 cases h:ltL a b with
 | true=>rw[decide_eq_true (g ha h)]
 | false=>
  refine (decide_eq_false λq=>?_).symm
  cases h':ltL b a with
  | true=>have:=g hb h'; exact EK q this
  | false=>rw[e8 h h'] at q; exact lt_irrefl _ q
theorem xP (ks:List (List Int)):(br ks).Pairwise λa b=>ltL b a=false:=by
 have:=List.pairwise_mergeSort (le:=λa b:List Int=>!ltL b a) (λa b c g i=>by
  simp only[Bool.not_eq_true'] at g i ⊢
  cases q:ltL c a with
  | false=>rfl
  | true=>
   cases q2:ltL b c with
   | true=>rw[cJ q2 q] at g; exact nT g
   | false=>rw[e8 i q2,g] at q; cases q) (λa b=>by
  cases q:ltL b a with
  | false=>rfl
  | true=>
   cases q2:ltL a b with
   | false=>rfl
   | true=>have:=cJ q q2; rw[iq] at this; cases this) ks
 exact this.imp λh=>by simpa using h
noncomputable def iN:List Int->List Int->Option Bool
 | a::as,b::bs=>if a=b then iN as bs else some (decide (a<b))
 | _,_=>none
theorem pu:∀ a b:List Int,ltL a b=(iN a b).getD (decide (a.length<b.length))
 | [],[]=>rfl
 | [],_::_=>by simp[ltL,iN]
 | _::_,[]=>by simp[ltL,iN]
 | a::as,b::bs=>by
  unfold ltL iN
  by_cases e:a=b
  ·rw[if_pos e,if_pos e,pu as bs]; simp
  ·rw[if_neg e,if_neg e]; rfl
noncomputable def KeyOf (h:Heap) (v:Value) (k:List Int):Prop:=∃ a vs n,v = .ref a/\h.get? a=some ⟨.type "tuple", none,.seq vs.toArray n,#[]⟩/\IntsAre vs k
noncomputable def jt (v:Value):Int:=match v with
 | .int i _=>i
 | _=>0
theorem IntsAre.read (h:IntsAre vs k):k=vs.map jt:=by
 induction h with
 | nil=>rfl
 | cons n t r ih=>exact congrArg (n :: ·) ih
theorem IntsAre.fn (a:IntsAre vs k) (b:IntsAre vs k'):k=k':=(IntsAre.read a).trans (IntsAre.read b).symm
theorem KeyOf.fn (a:KeyOf h v k) (b:KeyOf h v k'):k=k':=by
 refine aX (a) λx m n j e i=>?_
 clear a
 subst j
 refine aX (b) λuu g p q l o=>?_
 clear b
 cases q
 rw[e] at l
 have:m=g:=by cases l; rfl
 subst this
 exact IntsAre.fn i o
theorem KeyOf.ofR (r:R h v (.tuple (k.map .int)) as):KeyOf h v k:=by
 cases r with
 | @tuple a n xs as vs e ra=>
  have g:aF (k.map PyData.int)=some k:=by
   clear ra e
   induction k with
   | nil=>rfl
   | cons x k ih=>show (aF (k.map PyData.int)).map (x :: ·)=_; rw[ih]; rfl
  exact (cT a vs n rfl e ((ra.ints g).1))
theorem KeyOf.stays (x:KeyOf h v k) (g:KG G h h'):KeyOf h' v k :=
 aX (x) λa j n e l i=>(cT a j n e (g.stay l (.inr (az rfl (bG _ _ rfl)))) i)
open Classical in
noncomputable def cH (h:Heap) (v:Value):List Int:=if q:∃ k,KeyOf h v k then q.choose else []
theorem ej (x:KeyOf h v k):cH h v=k:=by
 unfold cH
 have q:∃ k,KeyOf h v k:=⟨k,x⟩
 rw[dif_pos q]
 exact q.choose_spec.fn x
section
variable {A:Around}{E:Value->Shared->Prop}{s:Shared}
theorem l4 (c:Bool) (h:Q (decide (a<b)) s):wpAny (model prog w) A (oneLt' c (.int a t) (.int b u)) Q E s:=by
 cases c with
 | true=>exact oneLt_int h
 | false=>
  rw[oneLt'_eq]
  simp only[false_eq_true,if_false]
  exact wpAny_bind (wpAny_lt_int (wpAny_truthy_bool h))
theorem qb (c:Bool) (x y:Value):keyLt' (tuples' c) x y=(do
  let xs <- Builtin.List.listItems x; let ys <- Builtin.List.listItems y
  for ((p,q),i) in (xs.toList.zip ys.toList).zipIdx do
   if !(<- eqBool p q) then return <- oneLt' (c&&i==0) p q
  return xs.size<ys.size):=rfl
theorem wA {body:(Value×Value)×Nat->Option Bool×Unit->Sem (ForInStep (Option Bool×Unit))}{R:Option Bool×Unit->Shared->Prop}
  (hb:∀ (a b:Int) (t u:Tok) (i:Nat) (R':ForInStep (Option Bool×Unit)->Shared->Prop),R' (if a=b then .yield (none,()) else .done (some (decide (a<b)),())) s->wpAny (model prog w) A (body ((.int a t,.int b u),i) (none,())) R' E s)
  {vs:List Value}{k:List Int}(ia:IntsAre vs k):∀ {us:List Value}{k':List Int}(i:Nat),IntsAre us k'->R (iN k k',()) s->wpAny (model prog w) A (forIn ((vs.zip us).zipIdx i) (none,()) body) R E s:=by
 induction ia with
 | nil=>
  intro us k' i g h
  rw[List.zip_nil_left,List.zipIdx_nil,forIn_nil]
  exact wpAny_pure h
 | cons a t r ih=>
  intro us k' i g h
  induction g with
  | nil=>
   rw[List.zip_nil_right,List.zipIdx_nil,forIn_nil]
   exact wpAny_pure h
  | cons b u q ih'=>
   rw[zip_cons_cons,List.zipIdx_cons,forIn_cons]
   refine wpAny_bind (hb a b t u i _ ?_)
   by_cases e:a=b
   ·rw[if_pos e]
    exact ih (i+1) q (by rw[iN,if_pos e] at h; exact h)
   ·rw[if_neg e]
    exact wpAny_pure (by rw[iN,if_neg e] at h; exact h)
theorem nI (c:Bool) (hx:KeyOf s.heap x k) (hy:KeyOf s.heap y k') (h:Q (ltL k k') s):wpAny (model prog w) A (keyLt' (tuples' c) x y) Q E s:=by
 refine aX (hx) λa vs n l ea v=>?_
 clear hx
 subst l
 refine aX (hy) λb us m j eb o=>?_
 clear hy
 subst j
 rw[qb]
 refine wpAny_bind (listItems_at ea rfl (wpAny_bind (listItems_at eb rfl ?_)))
 simp only[List.toList_toArray]
 refine wpAny_bind (wA (λp q t u i R' g=>?_) v 0 o ?_)
 ·dsimp only
  refine wpAny_bind (wpAny_eqBool_int ?_)
  by_cases e:p=q
  ·subst e
   rw[if_pos rfl] at g
   rw[if_neg (by simp)]
   exact wpAny_pure g
  ·rw[if_neg e] at g
   rw[if_pos (by simpa using e)]
   exact wpAny_bind (l4 _ (wpAny_pure g))
 ·rw[pu] at h
  have l1:=v.length
  have z:=o.length
  cases e:iN k k' with
  | none=>
   rw[e] at h
   refine wpAny_pure ?_
   simp only[size_toArray]
   rw[<- l1,<- z] at h
   exact h
  | some r=>rw[e] at h; exact wpAny_pure h
theorem vC (c:Bool) (ks:List (List Int)):aZ (model prog w) A E s (λp=>rkL ks (cH s.heap p.1)) (λp=>∃ k∈ks,KeyOf s.heap p.1 k) (tuples' c):=by
 intro x y q Q l j hk h
 revert l; intro i
 refine ae (i) λk o l=>?_
 clear i
 revert j; intro g
 refine ae (g) λn m j=>?_
 clear g
 have e:(some (decide ((λp:Keyed=>rkL ks (cH s.heap p.1)) x<(λp:Keyed=>rkL ks (cH s.heap p.1)) y)))=some (ltL k n):=by
  rw[lp o m,<- ej l,<- ej j]
 rw[e] at h
 rw[lt'_eq]
 refine wpS_bind (wpS_get ?_)
 rw[hk]
 refine wpS_bind (wpS_lift (wpAny_attempt (nI c l j ⟨rfl,?_⟩)))
 exact wpS_pure h
theorem pY (v:Value):firstOfTuple' v=(do
  if (<- typeOf v) != .type "tuple" then return none
  return (<- Builtin.List.listItems v)[0]?):=rfl
theorem ki:∀ {ks:List (List Int)}{vs:List Value},vs.length=ks.length->(∀ (i:Nat) (v:Value) (k:List Int),vs[i]? = some v->ks[i]? = some k->KeyOf s.heap v k/\k≠[])->(∀ fs:List Value,fs.length=vs.length->(∀ f∈fs,∃ a t,f = .int a t)->Q (fs.map some) s)->wpAny (model prog w) A (vs.mapM firstOfTuple') Q E s
 | [],[],_,_,h=>by rw[mapM_nil]; exact wpAny_pure (h [] rfl λuu q=>nomatch q)
 | [],_::_,hl,_,_=>by simp at hl
 | _::_,[],hl,_,_=>by simp at hl
 | k::ks,v::vs,hl,hk,h=>by
  refine ab (hk 0 v k rfl rfl) λg l=>?_
  refine aX (g) λa us n j p u=>?_
  clear g
  subst j
  rw[mapM_cons]
  refine wpAny_bind ?_
  rw[pY]
  refine wpAny_bind (wpAny_typeOf (T:="tuple") (ag _ p rfl) ?_)
  rw[if_neg (by decide)]
  refine wpAny_bind (listItems_at p rfl (wpAny_pure ?_))
  cases u with
  | nil=>exact absurd rfl l
  | cons x t r=>
   refine wpAny_bind (ki (ks:=ks) (vs:=vs) (by simpa using hl) (λi v k z y=>hk (i+1) v k (by simpa using z) (by simpa using y)) λfs o m=>wpAny_pure ?_)
   have:=h (.int x t::fs) (by simp[o]) (λf hf=>(mem_cons.mp hf).elim (λe=>(bG x t e)) (m f))
   simpa using this
theorem mQ:∀ {fs:List Value},(∀ f∈fs,∃ a t,f = .int a t)->Q (fs.map λuu=>.type "int") s->wpAny (model prog w) A (fs.mapM typeOf) Q E s
 | [],_,h=>by rw[mapM_nil]; exact wpAny_pure h
 | f::fs,hf,h=>by
  refine aY (hf f (.head _)) λa t g=>?_
  subst g
  rw[mapM_cons]
  refine wpAny_bind (wpAny_pure (wpAny_bind (mQ (fs:=fs) (λf h=>hf f (.tail _ h)) (wpAny_pure h))))
theorem nC {ks:List (List Int)}{vs:List Value}{Q:SortKind->Shared->Prop}(hl:vs.length=ks.length) (h1:1<=vs.length) (hk:∀ (i:Nat) (v:Value) (k:List Int),vs[i]? = some v->ks[i]? = some k->KeyOf s.heap v k/\k≠[]) (h:Q (tuples' true) s):wpAny (model prog w) A (keyKind' vs.toArray) Q E s:=by
 rw[keyKind'_eq,List.mapM_toArray,map_eq_pure_bind]
 refine wpAny_bind (wpAny_bind (ki hl hk λo m p=>wpAny_pure ?_))
 have n:((o.map some).toArray.all λx=>x.isSome)=true:=by simp
 rw[if_pos n]
 refine wpAny_bind (wpAny_rule ?_)
 have q:((o.map some).toArray.filterMap id)=o.toArray:=by simp
 rw[q,oneTypeOnly'_eq,List.mapM_toArray,map_eq_pure_bind]
 refine wpAny_bind (wpAny_bind (wpAny_bind (mQ p (wpAny_pure ?_))))
 obtain ⟨g,l,rfl⟩:∃ g l,o=g::l:=by
  cases o with
  | nil=>simp at m; exact EW h1 m
  | cons g l=>exact (bG g l rfl)
 have j:((List.map (λuu=>Value.type "int") (g::l)).toArray.all λx=>x==Value.type "int")=true:=by
  simp only[List.all_toArray,all_map,all_eq_true]
  intro _ _
  rfl
 have r:(List.map (λuu=>Value.type "int") (g::l)).toArray[0]? = some (Value.type "int"):=by simp
 rw[r]
 simp only[j,if_true]
 exact wpAny_pure (wpAny_pure h)
end
section
theorem wf (hlt:aZ gM gA gE gs gr go gk) {st:SortSt}{Q:Unit->SortSt->Prop}(g:Gd gr go gk st) (h2:2<=(arrOf st).size) (h64:(arrOf st).size<64) (hp:pendingOf st = #[]) (hf:failedOf st=none)
  (h:∀ st',(arrOf st').Perm (arrOf st)->Up gr (arrOf st').toList->failedOf st' = none->Q () st'):wpS gM gA gE gs sortRuns' Q st:=by
 rw[sortRuns'_eq]
 refine wpS_bind (wpS_get ?_)
 dsimp only
 generalize hN:(arrOf st).size=N at *
 have hm:minRun' N N 0=N:=by
  obtain ⟨f,rfl⟩:∃ f,N=f+1:=⟨N-1,by exact yw h2⟩
  rw[minRun'_succ,if_pos h64]
 rw[hm]
 refine wpS_bind (wpS_mono (wpS_forRange (I:=λx c st'=>(x=0/\c=(none,0)/\st' = st)\/(c=(none,N)/\Ph1 gr st st' N)) (Q:=λc st'=>c=(none,N)/\Ph1 gr st st' N) ?_ ?_ (.inl ⟨rfl,rfl,rfl⟩)) ?_)
 ·rintro x c st' _ hx (⟨rfl,rfl,rfl⟩ | ⟨rfl,p⟩)
  ·dsimp only
   rw[if_neg (by exact not_le_of_lt ‹_›)]
   refine wpS_bind (hO hlt g (sq hN) ‹_› λn i n1 n2 k up=>?_)
   dsimp only
   by_cases c:n<N
   ·rw[if_pos c]
    refine wpS_bind (cW (wpS_bind (jx hlt (g.of k) (by rw[k.size]; exact ED hN) (JI c) up λo l r=>?_)))
    rw[if_neg (by decide)]
    refine wpS_bind (wpS_get ?_)
    have z:pendingOf o = #[]:=by rw[l.pend,k.pend,hp]
    have em:min (N-0) N=N:=by exact IG
    rw[em] at r ⊢
    rw[show (pendingOf o).back? = none by rw[z]; rfl]
    refine wpS_bind (wpS_modify (wpS_pure (.inr ⟨by rw[zero_add],⟨l.perm.trans k.perm,l.kind.trans k.kind,l.fail.trans (k.fail.trans hf),?_,r⟩⟩)))
    show (pendingOf o).push (0,N,0)=_
    rw[z]; rfl
   ·rw[if_neg c]
    obtain rfl:n=N:=by exact CU n2 c
    refine wpS_bind (wpS_get ?_)
    have z:pendingOf i = #[]:=by rw[k.pend,hp]
    rw[show (pendingOf i).back? = none by rw[z]; rfl]
    refine wpS_bind (wpS_modify (wpS_pure (.inr ⟨by rw[zero_add],⟨k.perm,k.kind,k.fail.trans hf,?_,up⟩⟩)))
    show (pendingOf i).push (0,n,0)=_
    rw[z]; rfl
  ·dsimp only
   rw[if_pos (le_refl _)]
   exact wpS_pure ⟨rfl,p⟩
 ·rintro c st' (⟨e,_⟩ | q)
  ·exact HX h2 e
  ·exact q
 ·intro c st' y
  refine ab (y) λLy p=>?_
  clear y
  subst Ly
  dsimp only
  have m:(arrOf st').size=N:=by rw[p.perm.size_eq,hN]
  have t:Up gr (arrOf st').toList:=by
   have:=gy p.up (zK m)
   rwa [drop_zero,take_of_length_le (by rw[length_toList]; exact yl m)] at this
  refine wpS_bind (wpS_mono (wpS_forRange (I:=λx c j=>c=(none,())/\j=st') (Q:=λc j=>c=(none,())/\j=st') ?_ ?_ ⟨rfl,rfl⟩) ?_)
  ·intro x c i _ hx v
   refine ab (v) λLz LA=>?_
   clear v
   subst Lz
   (clear m t; subst LA)
   refine wpS_bind (wpS_get ?_)
   rw[if_pos (by rw[p.pend]; exact le_refl _)]
   exact wpS_pure ⟨rfl,rfl⟩
  ·rintro c i q; exact q
  ·intro c i u
   refine ab (u) λLJ LD=>?_
   clear u
   subst LJ
   (clear m; subst LD)
   exact wpS_pure (h _ p.perm t p.fail)
theorem qL (hlt:aZ gM gA gE gs gr go gk) {lo nrem:Nat}{st:SortSt}{Q:Option Nat->SortSt->Prop}(g:Gd gr go gk st) (hn:lo+nrem<=(arrOf st).size) (h1:1<=nrem) (up:SegUp gr (arrOf st) lo nrem) (h:Q (some nrem) st):wpS gM gA gE gs (countRun' lo nrem) Q st:=by
 rw[countRun'_eq]
 refine wpS_bind (wpS_mono (wpS_forRange (I:=λx c i=>i=st/\c=(none,x)/\x<=nrem) (Q:=λc i=>i=st/\c=(none,nrem)) ?_ ?_ ⟨rfl,rfl,h1⟩) ?_)
 ·intro x c i u t l
  refine aI (l) λr q v=>?_
  clear l
  (clear h; subst r)
  subst q
  refine wpS_bind (gz hlt g (by exact adl t ‹_›) (by exact mF (adl t ‹_›)) ?_)
  dsimp only
  have w:¬ rkA gr (arrOf i) (lo+x)<rkA gr (arrOf i) (lo+x-1):=Nat.not_lt.mpr (up (lo+x-1) (lo+x) (DG u) (sub_le _ _) (by exact add_lt_add_left ‹_› _))
  rw[decide_eq_false w,if_neg (by decide)]
  exact wpS_pure ⟨rfl,rfl,by assumption⟩
 ·intro c i k
  refine aI (k) λp o v=>?_
  clear k
  (clear g h hn up; subst p)
  subst o
  rw[show max 1 nrem=nrem by exact zl v] at *
  exact ⟨rfl,rfl⟩
 ·intro c i j
  refine ab (j) λn m=>?_
  clear j
  (clear g hn up; subst n)
  subst m
  dsimp only
  rw[if_pos (by simp)]
  exact wpS_pure h
theorem ue:∀ n,n<128->minRun' n n 0<=n:=by decide +kernel
theorem wb (hlt:aZ gM gA gE gs gr go gk) {st:SortSt}{Q:Unit->SortSt->Prop}(g:Gd gr go gk st) (h2:2<=(arrOf st).size) (h128:(arrOf st).size<128) (hp:pendingOf st = #[]) (hf:failedOf st=none) (up:SegUp gr (arrOf st) 0 (arrOf st).size)
  (h:∀ st',arrOf st' = arrOf st->failedOf st' = none->Q () st'):wpS gM gA gE gs sortRuns' Q st:=by
 rw[sortRuns'_eq]
 refine wpS_bind (wpS_get ?_)
 have m2:=ue _ h128
 dsimp only
 generalize hN:(arrOf st).size=N at *
 generalize minRun' N N 0=mr at *
 refine wpS_bind (wpS_mono (wpS_forRange (I:=λx c st'=>(x=0/\c=(none,0)/\st' = st)\/(c=(none,N)/\arrOf st' = arrOf st/\failedOf st' = none/\(pendingOf st').size=1)) (Q:=λc st'=>c=(none,N)/\arrOf st' = arrOf st/\failedOf st' = none/\(pendingOf st').size=1) ?_ ?_ (.inl ⟨rfl,rfl,rfl⟩)) ?_)
 ·rintro x c st' _ hx (⟨rfl,rfl,rfl⟩ | ⟨rfl,p1⟩)
  ·dsimp only
   rw[if_neg (by exact not_le_of_lt ‹_›)]
   refine wpS_bind (qL hlt g (sq hN) ‹_› up ?_)
   dsimp only
   rw[if_neg (by exact not_lt_of_le ‹_›)]
   refine wpS_bind (wpS_get ?_)
   rw[show (pendingOf st').back? = none by rw[hp]; rfl]
   refine wpS_bind (wpS_modify (wpS_pure (.inr (cE (by rw[zero_add]; rfl) rfl hf ?_))))
   show ((pendingOf st').push (0,_,0)).size=1
   rw[hp]; rfl
  ·dsimp only
   rw[if_pos (le_refl _)]
   exact wpS_pure ⟨rfl,p1⟩
 ·rintro c st' (⟨e,_⟩ | q)
  ·exact F8 h2 e
  ·exact q
 ·intro c st' LP
  refine cU (LP) λLQ p1 p2 p3=>?_
  clear LP
  subst LQ
  dsimp only
  refine wpS_bind (wpS_mono (wpS_forRange (I:=λx c st''=>c=(none,())/\st'' = st') (Q:=λc st''=>c=(none,())/\st'' = st') ?_ ?_ ⟨rfl,rfl⟩) ?_)
  ·intro x c st1 _ hx LV
   refine ab (LV) λLX LY=>?_
   clear LV
   subst LX
   (clear p1 p2; subst LY)
   refine wpS_bind (wpS_get ?_)
   rw[if_pos (by rw[p3]; exact le_refl _)]
   exact wpS_pure ⟨rfl,rfl⟩
  ·rintro c st1 q; exact q
  ·intro c st1 LW
   refine ab (LW) λL9 LZ=>?_
   clear LW
   subst L9
   (clear p3; subst LZ)
   exact wpS_pure (h _ p1 p2)
end
theorem ro:lW sg:=⟨λi _ _ g l m k hf h=>wf i g l m k hf h,λi _ _ g l j k hf n h=>wb i g l j k hf n h,λi _ _ g l j k hf h=>sr i g l j k hf h⟩
section
variable {A:Around}{E:Value->Shared->Prop}{s:Shared}{rk:Keyed->Nat}{ok:Keyed->Prop}{κ:SortKind}
theorem sO (hlt:aZ (model prog w) A E s rk ok κ) {st:SortSt}{Q:Unit->SortSt->Prop}(g:Gd rk ok κ st) (h2:2<=(arrOf st).size) (h64:(arrOf st).size<64) (hp:pendingOf st = #[]) (hf:failedOf st=none)
  (h:∀ st',(arrOf st').Perm (arrOf st)->Up rk (arrOf st').toList->failedOf st' = none->Q () st'):wpS (model prog w) A E s sortRuns' Q st:=(vL ro ⟨A,E,s,rk,ok,κ⟩).1 hlt g h2 h64 hp hf h
theorem jE (hlt:aZ (model prog w) A E s rk ok κ) {st:SortSt}{Q:Unit->SortSt->Prop}(g:Gd rk ok κ st) (h2:2<=(arrOf st).size) (h128:(arrOf st).size<128) (hp:pendingOf st = #[]) (hf:failedOf st=none)
  (h:∀ st',(arrOf st').Perm (arrOf st)->Up rk (arrOf st').toList->failedOf st' = none->Q () st'):wpS (model prog w) A E s sortRuns' Q st:=(vL ro ⟨A,E,s,rk,ok,κ⟩).2.2 hlt g h2 h128 hp hf h
end
section
variable {A:Around}{E:Value->Shared->Prop}{s:Shared}
noncomputable def mt (v:Value):Nat:=match v with
 | .int i _=>i.toNat
 | _=>0
theorem vG (x y:Value):keyLt' oneType' x y=oneLt' true x y:=rfl
theorem vI:aZ (model prog w) A E s (λp=>mt p.1) (λp=>∃ i t,p.1 = .int i t/\0<=i) oneType':=by
 intro x y n Q k g hk h
 refine aq (k) λi t ex m=>?_
 clear k
 refine aq (g) λj u l o=>?_
 clear g
 have e:(some (decide (mt x.1<mt y.1)))=some (decide (i<j)):=by
  rw[ex,l]
  show some (decide (i.toNat<j.toNat))=_
  rw[decide_eq_decide.mpr (show i.toNat<j.toNat↔i<j by exact Jx m)]
 dsimp only at h
 rw[e] at h
 rw[lt'_eq]
 refine wpS_bind (wpS_get ?_)
 rw[hk,ex,l,vG]
 refine wpS_bind (wpS_lift (wpAny_attempt (l4 true ⟨rfl,?_⟩)))
 exact wpS_pure h
end
theorem qJ (q a:Addr):Builtin.«list.sort» ⟨[.ref a],[(Str.ofString "key", .ref q)]⟩=(do
  let items <- Builtin.List.listItems (.ref a)
  Builtin.List.listUpdate (.ref a) λuu=>#[]
  let before <- seqEpoch a
  let held <- newTuple items.toList
  let store <- newList []
  holding [held,store] (do
   rule "list.sort.key"
   for x in items do
    match <- (call (.ref q) [x]).attempt with
    | .ok k=>Builtin.List.listUpdate store (·.push k)
    | .error e=>
     rule "list.sort.key-raised"
     let made <- Builtin.List.listItems store
     Builtin.List.listUpdate store λuu=>#[]
     letGo made.toList.reverse [e]
     Builtin.List.listUpdate (.ref a) λuu=>items; throw e
   let keys <- Builtin.List.listItems store
   let kind <- if items.size<2 then pure general' else keyKind' keys
   let ((),s) <- (if items.size<2 then pure () else sortRuns').run (SortSt.mk' kind (keys.zip items) #[] 7 none)
   let sorted:=(arrOf s).map (·.2)
   Builtin.List.listUpdate store λuu=>#[]
   letGo ((arrOf s).map (·.1)).toList (failedOf s).toList
   let touched:=(<- seqEpoch a) != before
   Builtin.List.listUpdate (.ref a) λuu=>sorted
   if let some e:=failedOf s then rule "list.sort.comparison-raised"; throw e
   if touched then rule "list.sort.modified"; raiseError "ValueError" "list modified during sort"
   ret .none)):=rfl
theorem pH {M:Model}{A:Around}{E:Value->Shared->Prop}{body:Value->PUnit->Sem (ForInStep PUnit)}{Q:PUnit->Shared->Prop}(I:Nat->Shared->Prop):∀ (vs:List Value) (i:Nat) (s:Shared),I i s ->
  (∀ (j:Nat) (x:Value) (s':Shared),vs[j]? = some x->I (i+j) s'->wpAny M A (body x ⟨⟩) (λr s''=>r = .yield ⟨⟩/\I (i+j+1) s'') E s')->(∀ s',I (i+vs.length) s'->Q ⟨⟩ s')->wpAny M A (forIn vs PUnit.unit body) Q E s
 | [],i,s,h,_,fin=>by
  rw[forIn_nil]; exact wpAny_pure (fin s h)
 | x::vs,i,s,h,step,fin=>by
  rw[forIn_cons]
  refine wpAny_bind (wpAny_mono (step 0 x s rfl h) (λr s' l=>?_) λuu uu e=>e)
  refine ab (l) λk n=>?_
  clear l
  subst k
  refine pH I vs (i+1) s' n (λj y s'' m g=>?_) λs'' g=>fin s'' ?_
  ·have e:i+1+j=i+(j+1):=by exact DW
   rw[e] at g ⊢
   exact step (j+1) y s'' (by simpa using m) g
  ·have e:i+(x::vs).length=i+1+vs.length:=by rw[length_cons]; exact IU
   rw[e]; exact g
section
variable {A:Around}{E:Value->Shared->Prop}
theorem Kp.wr (k:Kp s0 s) (e:s.heap.get? a=some (seqObj "list" xs n)) (h0:s0.heap.get? a=Option.none) (hs:Heap.SameBut a s.heap h'):Kp s0 {s with heap:=h' }:=by
 revert k; intro g
 refine aq (g) λh j i k=>?_
 clear g
 subst i
 refine ⟨h',j,rfl,K.same k hs h0 λo q=>?_⟩
 rw[e] at q; injection q; exact Stay.not_list
theorem o4 {α:Type}{R:α->α->Prop}{l:List α}(h:l.length<=1):l.Pairwise R:=by
 rcases l with _ | ⟨x,_ | ⟨y,l⟩⟩
 ·exact .nil
 ·exact List.pairwise_singleton ..
 ·cases h with
  | step h=>cases h
theorem cu (a:Array α) (b:List β):(a.zip b.toArray).toList=a.toList.zip b:=by
 first
  | simp
  | (cases a; simp)
theorem ic {α β:Type}{a:List α}{b:List β}{i:Nat}{x:α}{y:β}(h1:a[i]? = some x) (h2:b[i]? = some y):(a.zip b)[i]? = some (x,y):=List.getElem?_zip_eq_some.mpr ⟨h1,h2⟩
set_option maxHeartbeats 4000000 in
theorem rE {s0 s:Shared}{D kS:Addr}{vs keys:List Value}{ks:List (List Int)}{e e1:Nat}{st:SortSt}{P:PySem.Fin->Shared->Prop}(k0:Kp s0 s) (hk:s.heap.get? kS=some (seqObj "list" keys.toArray e)) (hD:s.heap.get? D=some (seqObj "list" #[] e1)) (f1:s0.heap.get? kS=none) (f2:s0.heap.get? D=none) (hne:kS≠D)
  (hl:vs.length=ks.length) (hlk:keys.length=ks.length) (h128:vs.length<128) (hkey:∀ (i:Nat) (v:Value) (k:List Int),keys[i]? = some v->ks[i]? = some k->KeyOf s.heap v k)
  (hp:(arrOf st).Perm (keys.toArray.zip vs.toArray)) (hu:(arrOf st).toList.Pairwise λx y=>ltL (cH s.heap y.1) (cH s.heap x.1)=false) (hf:failedOf st=none)
  (h:∀ s' out c,Kp s0 s'->s'.heap.get? D=some (seqObj "list" out c)->(∃ ps:List (List Int×Value),ps.Perm (ks.zip vs)/\out.toList=ps.map (·.2)/\ps.Pairwise λx y=>ltL y.1 x.1=false)->P (.done (.ret .none)) s') :
  wpAny (model prog w) A (do
   let sorted:=(arrOf st).map (·.2)
   Builtin.List.listUpdate (.ref kS) λuu=>#[]
   letGo ((arrOf st).map (·.1)).toList (failedOf st).toList
   let touched:=(<- seqEpoch D) != e1
   Builtin.List.listUpdate (.ref D) λuu=>sorted
   if let some e:=failedOf st then rule "list.sort.comparison-raised"; throw e
   if touched then rule "list.sort.modified"; raiseError "ValueError" "list modified during sort"
   ret .none) P E s:=by
 have o:=Heap.SameBut.update s.heap kS (Obj.mapSeq λuu=>(#[]:Array Value))
 have g:(s.heap.update kS (Obj.mapSeq λuu=>(#[]:Array Value))).get? D=some (seqObj "list" #[] e1):=(o.2 D hne.symm).trans hD
 have u:=Heap.SameBut.update (s.heap.update kS (Obj.mapSeq λuu=>(#[]:Array Value))) D (Obj.mapSeq λuu=>(arrOf st).map (·.2))
 obtain ⟨n,m⟩:∃ n,((s.heap.update kS (Obj.mapSeq λuu=>(#[]:Array Value))).update D (Obj.mapSeq λuu=>(arrOf st).map (·.2))).get? D=some (seqObj "list" ((arrOf st).map (·.2)) n):=⟨_,get?_update_seq g λuu=>(arrOf st).map (·.2)⟩
 have j:(arrOf st).size=vs.length:=by rw[hp.size_eq,size_zip]; simp; exact Hg hl hlk
 have k1:=Kp.wr k0 hk f1 o
 have z:=Kp.wr (s:={s with heap:=s.heap.update kS (Obj.mapSeq λuu=>(#[]:Array Value)) }) k1 g f2 u
 dsimp only
 refine wpAny_bind (listUpdate_at hk rfl ?_ (by rw[size_toArray,sizeLine_eq]; exact Dy hl hlk h128) (zero_le _))
 refine wpAny_bind (wpAny_letGo ?_)
 refine wpAny_bind (seqEpoch_at g rfl ?_)
 refine wpAny_bind (listUpdate_at g rfl ?_ (zero_le _) (by rw[Array.size_map,j,sizeLine_eq]; exact x8 h128))
 rw[hf]
 simp only[bne_self_eq_false,false_eq_true,if_false]
 refine wpAny_pure (h _ _ n z m ⟨(arrOf st).toList.map λp=>(cH s.heap p.1,p.2),?_,?_,?_⟩)
 ·have l:(arrOf st).toList.Perm (keys.zip vs):=by
   have:=perm_iff_toList_perm.mp hp
   rwa [cu] at this
  refine (l.map _).trans (List.Perm.of_eq ?_)
  apply List.ext_getElem?
  intro i
  rw[List.getElem?_map]
  by_cases hi:i<ks.length
  ·have t:keys[i]? = some keys[i]:=List.getElem?_eq_getElem (ov hlk hi)
   have r:ks[i]? = some ks[i]:=List.getElem?_eq_getElem hi
   have q:vs[i]? = some vs[i]:=List.getElem?_eq_getElem (ov hl hi)
   rw[ic t q,ic r q]
   simp only[map_some]
   rw[ej (hkey i _ _ t r)]
  ·rw[List.getElem?_eq_none (by rw[length_zip]; exact GB hlk hi),List.getElem?_eq_none (by rw[length_zip]; exact zG hi)]
   rfl
 ·rw[Array.toList_map,map_map]; rfl
 ·rw[pairwise_map]; exact hu
set_option maxHeartbeats 4000000 in
theorem wL {s0 s:Shared}{D q:Addr}{vs:List Value}{ks:List (List Int)}{n:Nat}{P:PySem.Fin->Shared->Prop}(ho:s.heap.get? D=some (seqObj "list" vs.toArray n)) (f2:s0.heap.get? D=none) (k0:Kp s0 s)
  (hl:vs.length=ks.length) (h128:vs.length<128) (hne:∀ k∈ks,k≠[])
  (hcall:∀ (i:Nat) (x:Value) (k:List Int) (s':Shared) (Q:Value->Shared->Prop) (Er:Value->Shared->Prop),vs[i]? = some x->ks[i]? = some k->Kp s0 s'->(∀ v s'',Kp s' s''->KeyOf s''.heap v k->Q v s'')->wpAny (model prog w) A (call (.ref q) [x]) Q Er s')
  (h:∀ s' out c,Kp s0 s'->s'.heap.get? D=some (seqObj "list" out c)->(∃ ps:List (List Int×Value),ps.Perm (ks.zip vs)/\out.toList=ps.map (·.2)/\ps.Pairwise λx y=>ltL y.1 x.1=false)->P (.done (.ret .none)) s') :
  wpAny (model prog w) A (Builtin.«list.sort» ⟨[.ref D],[(Str.ofString "key", .ref q)]⟩) P E s:=by
 rw[qJ]
 have s1:=Heap.SameBut.update s.heap D (Obj.mapSeq λuu=>(#[]:Array Value))
 obtain ⟨e1,ho1⟩:∃ e1,(s.heap.update D (Obj.mapSeq λuu=>(#[]:Array Value))).get? D=some (seqObj "list" #[] e1):=⟨_,get?_update_seq ho λuu=>#[]⟩
 have k1:=Kp.wr k0 ho f2 s1
 refine wpAny_bind (listItems_at ho rfl ?_)
 refine wpAny_bind (listUpdate_at ho rfl ?_ (by rw[size_toArray,sizeLine_eq]; exact oj h128) (zero_le _))
 refine wpAny_bind (seqEpoch_at ho1 rfl ?_)
 refine wpAny_bind (wpAny_newTuple ?_ (by show vs.length<=_; rw[sizeLine_eq]; exact oj h128))
 refine wpAny_bind (wpAny_newList ?_ (zero_le _))
 refine wpAny_holding ?_
 generalize hkS:((s.heap.update D (Obj.mapSeq λuu=>(#[]:Array Value))).push (seqObj "tuple" vs.toArray 0)).objs.size=kS
 have k3:Kp s0 {s with heap:=((s.heap.update D (Obj.mapSeq λuu=>(#[]:Array Value))).push (seqObj "tuple" vs.toArray 0)).push (seqObj "list" #[] 0) }:=(k1.trans (.push _ _ s.toks)).trans (.push _ _ s.toks)
 have hD3:(((s.heap.update D (Obj.mapSeq λuu=>(#[]:Array Value))).push (seqObj "tuple" vs.toArray 0)).push (seqObj "list" #[] 0)).get? D=some (seqObj "list" #[] e1):=Heap.get?_push_of_some _ (Heap.get?_push_of_some _ ho1)
 have hK3:(((s.heap.update D (Obj.mapSeq λuu=>(#[]:Array Value))).push (seqObj "tuple" vs.toArray 0)).push (seqObj "list" #[] 0)).get? kS=some (seqObj "list" #[] 0):=by rw[<- hkS]; exact Heap.get?_push_size _ rfl
 have hDk:kS≠D:=by
  rw[<- hkS]
  exact ne_of_gt (lt_size (Heap.get?_push_of_some _ ho1))
 have f1:s0.heap.get? kS=none:=by
  refine (k1.trans (.push _ (seqObj "tuple" vs.toArray 0) s.toks)).none ?_
  rw[<- hkS]
  exact Heap.get?_none_of_le (le_refl _)
 refine wpAny_bind (wpAny_rule ?_)
 first
  | rw[List.forIn_toArray]
  | (rw[<- Array.forIn_toList]; simp only[List.toList_toArray])
  | rw[<- Array.forIn_toList]
 refine wpAny_bind (pH (λi s'=>Kp s0 s'/\s'.heap.get? D=some (seqObj "list" #[] e1)/\∃ (g:List Value) (e:Nat),g.length=i/\s'.heap.get? kS=some (seqObj "list" g.toArray e)/\∀ (j:Nat) (v:Value) (k:List Int),g[j]? = some v->ks[j]? = some k->KeyOf s'.heap v k) vs 0 _ ⟨k3,hD3,[],0,rfl,hK3,λj v k hj=>by simp at hj⟩ (λj x s' hj hI=>?_) λs' hI=>?_)
 ·obtain ⟨kp,hD',g,e,m,t,l⟩:=hI
  have hjl:j<ks.length:=by rw[<- hl]; exact (List.getElem?_eq_some_iff.mp hj).1
  have hkj:ks[j]? = some ks[j]:=List.getElem?_eq_getElem hjl
  refine wpAny_bind (wpAny_attempt (hcall j x _ s' _ _ hj hkj kp λv s'' k'' kv=>?_))
  have z:=k''.k.get t rfl
  have hD'':=k''.k.get hD' rfl
  have sk:=Heap.SameBut.update s''.heap kS (Obj.mapSeq (·.push v))
  have ea:g.toArray.push v=(g++[v]).toArray:=by simp
  obtain ⟨c2,hc2⟩:∃ c2,(s''.heap.update kS (Obj.mapSeq (·.push v))).get? kS=some (seqObj "list" (g++[v]).toArray c2):=⟨_,by rw[<- ea]; exact get?_update_seq z (·.push v)⟩
  have kg:KG (λb=>b≠kS) s''.heap (s''.heap.update kS (Obj.mapSeq (·.push v))):=KG.same sk (λq=>q rfl) λo q=>by rw[z] at q; injection q; exact Stay.not_list
  dsimp only
  refine wpAny_bind (listUpdate_at z rfl ?_ (by rw[size_toArray,sizeLine_eq]; exact Fm hl h128 m hjl) (le_trans (le_of_eq (Array.size_push ..)) (by rw[size_toArray,sizeLine_eq]; exact Ha hl h128 m hjl)))
  refine wpAny_pure ⟨rfl,Kp.wr (kp.trans k'') z f1 sk,(sk.2 D hDk.symm).trans hD'',g++[v],c2,by rw[length_append,length_singleton,m],hc2,λi u k hi r=>?_⟩
  by_cases hik:i<g.length
  ·rw[List.getElem?_append_left hik] at hi
   exact ((l i u k hi r).stays k''.k).stays kg
  ·rw[List.getElem?_append_right (lv hik)] at hi
   have:i-g.length=0:=by
    have:=(List.getElem?_eq_some_iff.mp hi).1
    simp at this; exact EN this
   rw[this] at hi
   simp at hi
   subst hi
   have hij:i=j:=by exact D9 m hik this
   subst hij
   rw[hkj] at r; injection r
   exact kv.stays kg
 ·obtain ⟨kp,hD',g,e,m,t,l⟩:=hI
  have hlk:g.length=ks.length:=by rw[m,<- hl]; exact Jj
  refine wpAny_bind (listItems_at t rfl ?_)
  by_cases h2:vs.toArray.size<2
  ·rw[if_pos h2,if_pos h2]
   refine wpAny_bind (wpAny_pure ?_)
   dsimp only
   rw[StateT.run_pure]
   refine wpAny_bind (wpAny_pure ?_)
   dsimp only
   refine rE (st:=SortSt.mk' general' (g.toArray.zip vs.toArray) #[] 7 none) kp t hD' f1 f2 hDk hl hlk h128 l (Array.Perm.refl _) ?_ rfl h
   have hz:(g.toArray.zip vs.toArray).toList.length<=1:=by
    rw[cu,length_zip]; rw[size_toArray] at h2; exact Fb h2
   show ((g.toArray.zip vs.toArray).toList).Pairwise _
   exact o4 hz
  ·rw[if_neg h2,if_neg h2]
   rw[size_toArray] at h2
   refine wpAny_bind (nC (ks:=ks) hlk (Gf m h2) (λi v k hi r=>⟨l i v k hi r,hne k (mem_of_getElem? r)⟩) ?_)
   have hzs:(g.toArray.zip vs.toArray).size=vs.length:=by rw[size_zip]; simp; exact Ie m
   have mem:∀ p∈g.zip vs,∃ k∈ks,KeyOf s'.heap p.1 k:=λp hp=>by
    refine ah (List.getElem?_of_mem hp) λi hi=>?_
    refine ab (List.getElem?_zip_eq_some.mp hi) λq1 q2=>?_
    have hil:i<ks.length:=by rw[<- hlk]; exact (List.getElem?_eq_some_iff.mp q1).1
    exact ⟨ks[i],List.getElem_mem hil,l i _ _ q1 (List.getElem?_eq_getElem hil)⟩
   refine wpAny_bind (wpAny_mono (jE (vC (E:=E) (s:=s') true ks) (st:=SortSt.mk' (tuples' true) (g.toArray.zip vs.toArray) #[] 7 none)
    (Q:=λuu st'=>(arrOf st').Perm (g.toArray.zip vs.toArray)/\failedOf st' = none/\Up (λp=>rkL ks (cH s'.heap p.1)) (arrOf st').toList) ⟨λp hp=>?_,rfl⟩ (by show 2<=(g.toArray.zip vs.toArray).size; rw[hzs]; exact y8 h2) (by show (g.toArray.zip vs.toArray).size<128; rw[hzs]; exact h128) rfl rfl λst' a1 a2 a3=>⟨a1,a3,a2⟩) ?_ λuu uu e=>e)
   ·have hp':p∈(g.toArray.zip vs.toArray).toList:=mem_def.mp hp
    rw[cu] at hp'
    exact mem p hp'
   ·rintro ⟨⟨⟩,st'⟩ s'' ⟨rfl,hp,hf,hu⟩
    dsimp only
    refine rE kp t hD' f1 f2 hDk hl hlk h128 l hp ?_ hf h
    have hm:∀ p∈(arrOf st').toList,∃ k∈ks,KeyOf s''.heap p.1 k:=λp hp'=>by
     have:=(perm_iff_toList_perm.mp hp).mem_iff.mp hp'
     rw[cu] at this
     exact mem p this
    refine List.Pairwise.imp_of_mem (λ{a b} ha hb hab=>?_) hu
    refine ae (hm a ha) λk hk x=>?_
    refine ae (hm b hb) λk' t y=>?_
    have hab':rkL ks (cH s''.heap a.1)<=rkL ks (cH s''.heap b.1):=hab
    rw[ej x,ej y] at hab' ⊢
    rw[lp t hk]
    exact decide_eq_false (yW hab')
end
section
variable {A:Around}{E:Value->Shared->Prop}{s:Shared}
theorem qB {R:Result->Shared->Prop}{r:Addr}{n:Nat}{t u v:Tok}(hh:A.handled=none) (hr:IsRange s.heap r 0 n 1 t u v) (hsmall:Builtin.Range.small 0 n 1=true) (hn:Builtin.Range.rangeSize 0 n 1=n) (hlen:n<=2^24)
  (h:∀ h' tk acc' c',(∀ b o,s.heap.get? b=some o->h'.get? b=some o)->h'.get? s.heap.objs.size=some {cls:=.type "list", dict:=none,data:=.seq acc' c',slots:=#[] }->ItemsOf (λi v=>∃ t,v = .int (0+i*1) t) acc' n->R (.ok (.ret (.ref s.heap.objs.size))) {s with heap:=h',toks:=tk }) :
  codeAny (model prog w) A (.builtin "proto.collect" ⟨[.ref r],[]⟩) R s:=by
 refine codeAny_builtin entry_proto_collect' ?_
 show wpAny _ _ (do again (.builtin "list.__iadd__" ⟨[<- newList [],.ref r],[]⟩)) _ _ s
 refine wpAny_bind (wpAny_newList (wpAny_pure ⟨Code.quiet_builtin _ (by decide +kernel),codeAny_builtin entry_list_iadd' ?_⟩))
 show wpAny _ _ (Builtin.List.listExtendWith (.ref s.heap.objs.size) (.ref r) (.ref s.heap.objs.size)) _ _ {s with heap:=s.heap.push (seqObj "list" #[] 0) }
 rw[Around.under_plainId (by decide +kernel)]
 exact wpAny_extend_range (A:=A) (s:={s with heap:=s.heap.push (seqObj "list" #[] 0) }) (R:=R) hh (Heap.get?_push_of_some _ hr) hsmall hn hlen s.heap.objs.size (.ref s.heap.objs.size) 0 (Heap.get?_push_size _ rfl) λh' tk acc' c' hk j g=>
  h h' tk acc' c' (λb o e=>hk b o (ne_of_lt (lt_size e)) (Heap.get?_push_of_some _ e)) j g
theorem n6 {r:Addr}{n:Nat}{t u v:Tok}{Q:List Value->Shared->Prop}(hh:A.handled=none) (hr:IsRange s.heap r 0 n 1 t u v) (hsmall:Builtin.Range.small 0 n 1=true) (hn:Builtin.Range.rangeSize 0 n 1=n) (hlen:n<=2^24)
  (h:∀ h' tk (vs:List Value),(∀ b o,s.heap.get? b=some o->h'.get? b=some o)->vs.length=n->(∀ (j:Nat) (v:Value),vs[j]? = some v->∃ t,v = .int j t)->Q vs {s with heap:=h',toks:=tk }):wpAny (model prog w) A (collect (.ref r)) Q E s:=by
 unfold collect
 refine wpAny_bind (wpAny_runValue (qB hh hr hsmall hn hlen λh' tk acc' c' hk hS hacc=>?_))
 show wpAny (model prog w) A (do
   let o <- load s.heap.objs.size
   match o.data with
   | .seq xs _=>pure xs.toList
   | _=>unsupported "internal:collect") Q E {s with heap:=h',toks:=tk }
 refine wpAny_bind (wpAny_load hS ?_)
 refine wpAny_pure (h h' tk acc'.toList hk (by rw[length_toList]; exact hacc.1) λj v hj=>?_)
 refine ah (hacc.2 j v (by simpa using hj)) λt e=>?_
 have q:(0+(j:Int)*1)=j:=by exact E7
 exact ⟨t,by rw[e,q]⟩
noncomputable def te:Value->Nat
 | .int i _=>i.toNat
 | _=>0
theorem rJ:∀ (l:List (List Int×Value)),(∀ p∈l,∃ (i:Nat) (t:Tok),p.2 = .int i t)->IntsAre (l.map (·.2)) ((l.map λp=>(p.1,te p.2)).map λp=>(p.2:Int))
 | [],_=>.nil
 | p::l,h=>by
  refine aY (h p (.head _)) λi t e=>?_
  simp only[map_cons]
  rw[e]
  exact .cons _ t (rJ l λq g=>h q (.tail _ g))
theorem qk (a v:Value):argsOk "sorted" ⟨[a],[(Str.ofString "key", v)]⟩:=by unfold argsOk; kernel_rfl
theorem tR (a v:Value):argsOk "list.sort" ⟨[a],[(Str.ofString "key", v)]⟩:=by unfold argsOk; kernel_rfl
theorem kC {r q:Addr}{n:Nat}{t u v:Tok}{ks:List (List Int)}{Q:Value->Shared->Prop}(hh:A.handled=none) (hr:IsRange s.heap r 0 n 1 t u v) (hsmall:Builtin.Range.small 0 n 1=true) (hn:Builtin.Range.rangeSize 0 n 1=n)
  (hl:ks.length=n) (h128:n<128) (hne:∀ k∈ks,k≠[])
  (hcall:∀ (i:Nat) (x:Value) (k:List Int) (s':Shared) (Q:Value->Shared->Prop) (Er:Value->Shared->Prop),(∃ t,x = .int i t)->ks[i]? = some k->Kp s s'->(∀ v s'',Kp s' s''->KeyOf s''.heap v k->Q v s'')->wpAny (model prog w) A.in1.in1 (call (.ref q) [x]) Q Er s')
  (h:∀ (D:Addr) (s':Shared) (vs:List Value) (c:Nat) (ns:List Int),Kp s s'->s.heap.get? D=none->s'.heap.get? D=some (seqObj "list" vs.toArray c)->IntsAre vs ns->(∃ ps:List (List Int×Nat),ps.Perm (ks.zip (List.range n))/\ns=ps.map (λp=>(p.2:Int))/\ps.Pairwise λx y=>ltL y.1 x.1=false)->Q (.ref D) s') :
  wpAny (model prog w) A (call (.builtin "sorted") [.ref r] [(Str.ofString "key", .ref q)]) Q E s:=by
 refine call_function_entry_kw kind_sorted plain_sorted entry_sorted (qk _ _) ?_
 unfold Builtin.«sorted»
 refine wpAny_bind (m:=checkCount "sorted" 1 1 _) (wpAny_pure ?_)
 refine wpAny_bind (n6 (A:=A.in1) hh hr hsmall hn (by exact Hx h128) λh1 tk1 vs kp hvl hvs=>?_)
 refine wpAny_bind (wpAny_newList ?_ (by rw[sizeLine_eq]; exact sX h128 hvl))
 have hoL:(h1.push (seqObj "list" vs.toArray 0)).get? h1.objs.size=some (seqObj "list" vs.toArray 0):=Heap.get?_push_size _ rfl
 have k1:Kp s {s with heap:=h1,toks:=tk1 }:=.of kp
 have k2:Kp s {s with heap:=h1.push (seqObj "list" vs.toArray 0),toks:=tk1 }:=k1.trans (.push _ _ _)
 have f2:s.heap.get? h1.objs.size=none:=k1.none (Heap.get?_none_of_le (le_refl _))
 refine wpAny_bind (wpAny_holding (wpAny_call_entry_kw slot_list_sort ⟨_,hoL,rfl⟩ entry_list_sort ?body (tR _ _)))
 case body=>
  refine wL (s0:=s) (ks:=ks) hoL f2 k2 (by exact H9 hl hvl) (by exact zp h128 hvl) hne (λi x k s' Q Er hx hk kp' hQ=>hcall i x k s' Q Er (hvs i x hx) hk kp' hQ) λs' out c kp' ho hps=>⟨_,rfl,wpAny_pure ⟨_,rfl,?_⟩⟩
  refine ao (hps) λps p1 p2 p3=>?_
  clear hps
  have hm:∀ p∈ps,∃ (i:Nat) (t:Tok),p.2 = .int i t:=λp hp=>by
   have hp':=p1.mem_iff.mp hp
   refine ah (List.getElem?_of_mem (of_mem_zip hp').2) λi hi=>?_
   refine ah (hvs i _ hi) λt e=>?_
   exact ⟨i,t,e⟩
  have hmap:vs.map te=List.range n:=by
   apply List.ext_getElem?
   intro i
   rw[List.getElem?_map]
   by_cases hi:i<n
   ·have q:vs[i]? = some vs[i]:=List.getElem?_eq_getElem (by exact ov hvl hi)
    refine ah (hvs i _ q) λt e=>?_
    rw[q,List.getElem?_range hi]
    simp only[map_some]
    rw[e]; rfl
   ·rw[List.getElem?_eq_none (by exact Dp hvl hi),List.getElem?_eq_none (by simp; exact lv hi)]; rfl
  have ho':s'.heap.get? h1.objs.size=some (seqObj "list" out.toList.toArray c):=by rw[Array.toArray_toList]; exact ho
  refine h h1.objs.size s' out.toList c _ kp' f2 ho' (by rw[p2]; exact rJ ps hm) ⟨ps.map λp=>(p.1,te p.2),?_,rfl,?_⟩
  ·refine (p1.map _).trans (List.Perm.of_eq ?_)
   rw[<- hmap,List.zip_map_right]
   exact List.map_congr_left λ⟨x,y⟩ _=>rfl
  ·rw[pairwise_map]; exact p3
end
theorem g7:∀ {ns:List Str}{vs:List α}{n:Str},vs.length=ns.length->n∈ns->((ns.zip vs).lookup n).isNone=false
 | [],_,_,_,h=>nomatch h
 | m::ns,[],_,h,_=>by simp at h
 | m::ns,v::vs,n,hl,h=>by
  rw[zip_cons_cons,lookup_cons]
  by_cases e:n=m
  ·(clear h hl; subst e); simp
  ·have g:(n==m)=false:=by simpa using e
   rw[g]
   exact g7 (by simpa using hl) ((mem_cons.mp h).resolve_left e)
theorem iY:∀ {ns:List Str}{vs:List Value},ns.Nodup->vs.length=ns.length->(ns.filterMap λn=>((ns.zip vs).lookup n).map (n,·))=ns.zip vs
 | [],_,_,_=>rfl
 | m::ns,[],_,h=>by simp at h
 | m::ns,v::vs,hn,hl=>by
  rw[nodup_cons] at hn
  rw[List.filterMap_cons]
  simp only[zip_cons_cons,lookup_cons,beq_self_eq_true,map_some]
  congr 1
  have k:=iY hn.2 (vs:=vs) (by simpa using hl)
  have i:∀ (l:List Str),(∀ n∈l,n≠m)->(l.filterMap λn=>(match n==m with | true=>some v | false=>(ns.zip vs).lookup n).map (n,·))=l.filterMap λn=>((ns.zip vs).lookup n).map (n,·):=by
   intro l g
   induction l with
   | nil=>rfl
   | cons n l ihl=>
    have p:(n==m)=false:=beq_eq_false_iff_ne.mpr (g n (.head _))
    rw[List.filterMap_cons,List.filterMap_cons,ihl λx o=>g x (.tail _ o)]
    simp only[p]
  exact (i ns λn j e=>hn.1 (e▸j)).trans k
theorem pb (a:α) (f:α->Sem β):((pure a:Sem α)>>=f)=f a:=rfl
theorem Cy {α β γ:Type}{l:List α}{i:β}{f:α->β->Sem (ForInStep β)}{k:β->Sem γ}{z:Sem γ}(h:l=[]) (e:k i=z):(forIn l i f>>=k)=z:=by subst h; exact e
theorem vJ [Decidable c] (h:¬ c) (e:y=z):(if c then x else y)=z:=(if_neg h).trans e
theorem k9 {ps:List Str}(h1:fd.params.posonlyargs=[]) (h2:fd.params.args.map (·.arg)=ps) (h3:fd.params.vararg=none) (h4:fd.params.kwonlyargs=[]) (h5:fd.params.kwarg=none) (h6:fd.defaults = .none)
  (hn:ps.Nodup) (hl:vals.length=ps.length):bindArgs fd ⟨vals,[]⟩=pure (ps.zip vals):=by
 obtain ⟨v,r,⟨t,g,p,z,kd,y,df⟩,bd,q,gl,cl,de,j,o,u,an,cd,ct,bu⟩:=fd
 dsimp only at h1 h2 h3 h4 h5 h6
 subst h1 h3 h4 h5 h6
 have m:(ps.take ps.length).filter (λn=>((ps.zip vals).lookup n).isNone)=[]:=by
  rw[List.take_length,List.filter_eq_nil_iff]
  intro n h
  rw[g7 hl h]
  simp
 have k:(ps++[]).filterMap (λn=>((ps.zip vals).lookup n).map λx=>(n,x))=ps.zip vals:=by rw[append_nil]; exact iY hn hl
 subst h2
 refine vJ (c:=(decide (vals.length>(g.map (·.arg)).length)&&true)=true) (by rw[hl]; simp) ?_
 have i:List.drop (0-(g.map (·.arg)).length) ([]:List Value)=[]:=List.drop_nil
 refine vJ (c:=(!(((g.map (·.arg)).take ((g.map (·.arg)).length-(List.drop (0-(g.map (·.arg)).length) ([]:List Value)).length)).filter λn=>(((g.map (·.arg)).zip vals).lookup n).isNone).isEmpty)=true) (by rw[i]; show ¬ (!(((g.map (·.arg)).take (g.map (·.arg)).length).filter λn=>(((g.map (·.arg)).zip vals).lookup n).isNone).isEmpty)=true; rw[m]; simp) ?_
 refine Cy (l:=((g.map (·.arg)).drop ((g.map (·.arg)).length-(List.drop (0-(g.map (·.arg)).length) ([]:List Value)).length)).zip (List.drop (0-(g.map (·.arg)).length) ([]:List Value))) (by rw[i]; exact List.zip_nil_right) ?_
 exact congrArg (λx=>(pure x:Sem _)) k
noncomputable def CodeV (h:Heap) (cv:Value):Prop:=∃ c o vs q t,cv = .ref c/\h.get? c=some o/\o.cls = .type "code" /\ o.data = .fields vs/\vs[1]? = some (.str q t)
theorem CodeV.onG (x:CodeV h cv) (k:KG G h h'):CodeV h' cv :=
 oA (x) λc o j q t m l i g=>(lJ c o j q t m (k.stay l (.inl (az i (b0 _ g.1)))) i g)
theorem tA {pos p:Pos}{c x:Value}(l:List Value) (h:TriplesOk l) (hx:codeAmong p (l++[rawInt pos.line,rawInt pos.col,c])=some x):codeAmong p l=some x\/x=c:=by
 fun_induction TriplesOk l with
 | case1=>
  simp only[nil_append,codeAmong,rawInt] at hx
  split at hx
  ·injection hx; exact .inr rfl
  ·exact nN hx
 | case2 a t b u y rest ih=>
  simp only[List.cons_append,codeAmong] at hx ⊢
  split at hx
  ·rename_i hc; rw[if_pos hc]; exact .inl hx
  ·rename_i hc; rw[if_neg hc]; exact ih h hx
 | case3 l h1 h2=>exact h.elim
section
variable {M:Model}{A:Around}{E:Value->Shared->Prop}{s:Shared}
theorem At (X:CodeOk s.heap env.code q)
  (h:∀ cv h' tk,K s.heap h'->CodeV h' cv->Q cv {s with heap:=h',toks:=tk }):wpAny M A (functionCode env pos firstLine name qualname p scope body) Q E s:=by
 refine cF (X) λc P ps hc _ hI hT hG hP=>?_
 clear X
 cases hf:codeAmong pos ps.toList with
 | some cv=>
  refine oB (hG.2 pos cv hf) λm o vs q' t LC r=>?_
  subst LC
  exact wpAny_functionCode_hit hc hI hf (h _ s.heap s.toks KG.refl (om m o vs q' t rfl r))
 | none=>
  refine wpAny_functionCodeX hc hI hT hf λm h' tk hx hge hlt hI' j hT' k=>?_
  have g:=hT.2
  have hcv:CodeV h' (.ref m):=by
   refine ao (k) λuu uu uu x=>?_
   clear k
   refine ab (x) λv _=>?_
   clear x
   refine bl (v) λy vc hoc hcc hdc _=>?_
   clear v
   refine fP (j) λc₂ ob n u eb i d₂ z=>?_
   clear j
   cases eb
   rw[hoc] at i; injection i
   exact (uI _ y n _ u rfl hoc hcc d₂ z)
  refine h _ h' tk (λb o _ e=>?_) hcv
  by_cases hb:b=P
  ·(clear hI hI' hT; subst hb)
   rw[g] at e
   have eo:=Option.some.inj e
   refine (ag _ hT'.2 (.tab ps #[rawInt pos.line,rawInt pos.col,.ref m] hP eo.symm rfl λG=>⟨?_,λp cv l=>?_⟩))
   ·have hl:(ps ++ #[rawInt pos.line,rawInt pos.col,Value.ref m]).toList=ps.toList++[rawInt pos.line,rawInt pos.col,.ref m]:=by simp
    rw[hl]; exact TriplesOk_snoc _ _ _ _ G.1
   ·have hl:(ps ++ #[rawInt pos.line,rawInt pos.col,Value.ref m]).toList=ps.toList++[rawInt pos.line,rawInt pos.col,.ref m]:=by simp
    rw[hl] at l
    rcases tA _ G.1 l with hh | hh
    ·refine oA (G.2 p cv hh) λc1 o1 vs1 q1 t1 a1 a2 a3 a4=>?_
     refine (lJ c1 o1 vs1 q1 t1 a1 (hx c1 o1 (λq=>?_) a2) a3 a4)
     rw[q,g] at a2; (have y:=Option.some.inj a2; clear a2; (clear a4; subst y)); cases a3
    ·subst hh; exact hcv
  ·exact (ag o (hx b o hb e) (.same rfl))
noncomputable def LamAt (h:Heap) (f:Addr) (params:Arguments) (body:Expr) (scope:Scope) (clos:List (Str×Addr)):Prop :=
 ∃ o fd,h.get? f=some o/\o.data = .func fd/\fd.params=params/\fd.body = .expr body/\fd.scope=scope/\fd.closure=clos/\fd.globals=mainGlobals/\fd.builtins=builtinsNs/\fd.defaults = .none/\CodeV h fd.code
theorem LamAt.k (x:LamAt h f params body scope clos) (k:K h h'):LamAt h' f params body scope clos :=
 let ⟨o,fd,a1,a2,a3,a4,a5,a6,a7,a8,a9,a10⟩:=x
 (qu o fd (K.exact k a1 (λuu q=>by rw[a2] at q; cases q) (λuu uu q=>by rw[a2] at q; cases q)) a2 a3 a4 a5 a6 a7 a8 a9 (a10.onG k))
theorem wl (G:GE fns s.heap) (X:CodeOk s.heap env.code q) (hg:env.globals=mainGlobals)
  (hd:defaultsOf params env=([],[])) (hcl:closureFor scope env=pure [(x,c)])
  (h:∀ f s',Kp s s'->LamAt s'.heap f params body scope [(x,c)]->Q (.ref f) s'):wpAny M A (eval (.Lambda params body scope pos) env) Q E s:=by
 rw[arm_eval_Lambda,hd]
 refine wpAny_bind (wpAny_pure (wpAny_bind (wpAny_holding (wpAny_pure ?_))))
 rw[makeFunction_eq]
 simp only[List.zip_nil_right,List.filterMap_nil,List.isEmpty_nil,if_true,pure_bind]
 unfold makeTail
 rw[hcl,hg]
 refine wpAny_bind (wpAny_pure ?_)
 simp only[List.isEmpty_cons,false_eq_true,if_false]
 refine wpAny_bind (wpAny_newTextTuple ?_)
 have m:∀ o:Obj,Kp s {s with heap:=s.heap.push o }:=λo=>.push s o s.toks
 refine wpAny_bind (At (X.k (m _).k) λcv n j r l=>?_)
 have g:=(m _).trans (ay n j rfl r)
 refine t0 (G.bm) λmg bm ob b1 z y v p u t=>?_
 have i:=iy b1 g.k
 refine wpAny_bind (wpAny_builtinsFor i z y (g.k.get v (by unfold hardB; rw[p]; decide)) p u t ?_)
 refine wpAny_bind (wpAny_nsGet i ?_)
 refine wpAny_bind (wpAny_pure (wpAny_newObj_type (h _ _ (g.trans (.push _ _ j)) ?_) (by size_fits)))
 exact (qu _ _ (Heap.get?_push_size _ rfl) rfl rfl rfl rfl rfl rfl rfl rfl (l.onG (Kp.push {s with heap:=n,toks:=j } _ j).k))
end
section
theorem vy {R:Result->Shared->Prop}{e:Expr}{env:Env}
  (h:wpAny (model prog w) (A.deeper env) (eval e env) (λv s'=>R (.ok (.ret v)) s') (λuu uu=>False) s):codeAny (model prog w) A (.expr e env) R s:=by
 refine codeAny_of_tree ?_
 show wpAny _ (A.deeper env) (do point; ret (<- (eval e env).onRaise (leaving env))) _ _ s
 exact wpAny_bind (wpAny_point (wpAny_bind (wpAny_onRaise (wpAny_mono h (λv s' g=>wpAny_pure g) λuu uu g=>g.elim))))
theorem wa (hroom:A.depth<recursionLimit) (nl:s.heap.NoLimit) (L:LamAt s.heap f params body scope [(x,c)])
  (h1:params.posonlyargs=[]) (h2:params.args.map (·.arg)=[t]) (h3:params.vararg=none) (h4:params.kwonlyargs=[]) (h5:params.kwarg=none)
  (hk:scope.kind = .function) (hg:scope.isGenerator=false) (hc:scope.isCoroutine=false) (hn:scope.names=[(t,.local),(x,.free)]) (hxt:x≠t)
  (h:∀ env s',Kp s s'->env.scope=scope->env.globals=mainGlobals->env.builtins=builtinsNs->env.cells=[(x,c)]->s'.heap.Ns env.locals (λy=>[(t,v)].reverse.lookup y)->CodeV s'.heap env.code ->
   wpAny (model prog w) (A.deeper env) (eval body env) Q (λuu uu=>False) s'):wpAny (model prog w) A (call (.ref f) [v]) Q Er s:=by
 refine uW (L) λo j ho hd n p2 l p4 p5 p6 p7 p8=>?_
 clear L
 have hb:bindArgs j ⟨[v],[]⟩=pure ([t].zip [v]):=k9 (by rw[n]; exact h1) (by rw[n]; exact h2) (by rw[n]; exact h3) (by rw[n]; exact h4) (by rw[n]; exact h5) p7 (by simp) rfl
 refine wpAny_call (codeAny_of_tree ?_)
 show wpAny _ A.in1 (callAny (.ref f) ⟨[v],[]⟩) _ _ s
 simp only[callAny]
 refine wpAny_bind (wpAny_load ho ?_)
 refine vM (p8) λc' oc vs q tq hc' p u i hq=>?_
 clear p8
 have r:j.scope.isGenerator=false:=by rw[l]; exact hg
 have hco:j.scope.isCoroutine=false:=by rw[l]; exact hc
 simp only[hd,callFunction,hco,r,p2,hc']
 refine wpAny_bind (m:=field (.ref c') 1) (wpAny_field p i hq (wpAny_bind (wpAny_pure ?_)))
 rw[hb]
 refine wpAny_bind (wpAny_pure (wpAny_bind (wpAny_newFunctionEnv (λy hy=>?_) (λy hy=>?_) (λg hns hsb=>?_) (by rw[l]; exact hk))))
 ·rw[l,hn] at hy
  rcases mem_cons.mp hy with rfl | hy
  ·exact λq=>by cases q
  ·rw[mem_singleton.mp hy]; exact λq=>by cases q
 ·rw[l,hn]
  have:y=(t,v):=by simpa using hy
  rw[this]; simp
 ·have z:Kp s {s with heap:=g,toks:=s.toks+([t].zip [v]).length }:=(ay g _ rfl (.of λb o e=>hsb.extBut b o (ne_of_lt (lt_size e)) (Heap.get?_push_of_some _ e)))
  refine wpAny_bind (wpAny_enterFrame (jN nl z.k) hroom (wpAny_pure ⟨rfl,vy ?_⟩))
  exact h (newEnv j.scope s.heap.objs.size j.globals j.closure (q ++ ".<locals>.") (some f) (.ref c') none j.builtins) _ z l p5 p6 p4 hns (uI c' oc vs q tq rfl (z.k.stay p (.inl (az u (b0 _ i)))) u i hq)
end
theorem xD (h:dA ns i=dA ns j):i=j:=by
 unfold dA at h
 simp at h
 have:=h.2
 exact Fs h
theorem sd {ps:List (List Int×Nat)}(hp:ps.Perm (((List.range ns.length).map (dA ns)).zip (List.range ns.length))) (hu:ps.Pairwise λx y=>ltL y.1 x.1=false):(ps.map λp=>(p.2:Int))=aR ns:=by
 have o:((List.range ns.length).map (dA ns)).zip (List.range ns.length)=(List.range ns.length).map λi=>(dA ns i,i):=by
  apply List.ext_getElem?
  intro i
  by_cases hi:i<ns.length
  ·rw[ic (x:=dA ns i) (y:=i) (by simp[hi]) (by simp[hi])]
   simp[hi]
  ·rw[List.getElem?_eq_none (by simp; exact lv hi),List.getElem?_eq_none (by simp; exact lv hi)]
 rw[o] at hp
 unfold aR
 congr 1
 have n:=mergeSort_perm ((List.range ns.length).map λi=>(dA ns i,i)) (λa b=>!ltL b.1 a.1)
 have t:=List.pairwise_mergeSort (le:=λ(a b:List Int×Nat)=>!ltL b.1 a.1) (λa b c k g=>by
  simp only[Bool.not_eq_true'] at k g ⊢
  cases q:ltL c.1 a.1 with
  | false=>rfl
  | true=>
   cases r:ltL a.1 b.1 with
   | true=>rw[cJ q r] at g; exact nT g
   | false=>rw[<- e8 r k,q] at g; cases g) (λa b=>by
  cases q:ltL b.1 a.1 with
  | false=>simp
  | true=>
   cases r:ltL a.1 b.1 with
   | true=>have:=cJ q r; rw[iq] at this; exact nF this
   | false=>simp) ((List.range ns.length).map λi=>(dA ns i,i))
 refine List.Perm.eq_of_pairwise (le:=λa b=>ltL b.1 a.1=false) (λa b v u k g=>?_) hu (t.imp λh=>by simpa using h) (hp.trans n.symm)
 have e:=e8 g k
 refine aG (hp.mem_iff.mp v) λi _ m=>?_
 subst m
 refine aG (n.mem_iff.mp u) λj _ l=>?_
 subst l
 have:=xD e
 subst this
 rfl
theorem wp (ns:List Int):(aR ns).length=ns.length:=by
 unfold aR
 rw[length_map,(mergeSort_perm _ _).length_eq,length_map,List.length_range]
theorem vW (h:aF xs=some ns):xs=ns.map .int:=by
 induction xs generalizing ns with
 | nil=>injection h; rfl
 | cons x xs ih=>
  cases x with
  | int j=>
   refine bw (show (aF xs).map (j :: ·)=some ns from h) λl k g=>?_
   subst g
   rw[ih k]; rfl
  | _=>exact nN h
noncomputable def pM (x t:String) (xs:List PyData) (i:Nat):St:=λy=>if y=x then some (.d (.list xs),.sh) else if y=t then some (mk (.d (.int i))) else none
theorem Bh (hxt:x≠t) (hi:i<ns.length):∃ m,ev (λ_=>none) (lf x t) (pM x t (ns.map .int) i) = .ok (.d (.tuple ((dA ns i).map .int)),m):=by
 have h:pM x t (ns.map .int) i x=some (.d (.list (ns.map .int)),.sh):=if_pos rfl
 have g:pM x t (ns.map .int) i t=some (mk (.d (.int i))):=(if_neg (Ne.symm hxt)).trans (if_pos rfl)
 have j:fg (.list (ns.map .int)) (.int i) = .ok (mk (.d (.int (ns.getD i 0)))):=by
  have:elem (.list (ns.map .int)) i=some (.int (ns.getD i 0)):=by
   show (bH (i:Int) (ns.map PyData.int).length).bind (λk=>(ns.map PyData.int)[k]?)=_
   unfold bH
   rw[if_pos Hm,if_pos (by rw[length_map]; exact BS hi)]
   simp[hi]
  show am (ei (.int (i:Int))) _=_
  show am (elem (.list (ns.map .int)) i) _=_
  rw[this]; rfl
 refine ⟨.deep,?_⟩
 unfold lf
 simp only[bW,eP,jQ,gB,gK,fc,fk,dh,db,dm,eF,bp,di,gH,cX,cb,d6,dU,ec,eT,dW,cN,d8,aV,aU,h,g,Out.ok_bind,mk,j]
 rfl
section
theorem uC {id:String}{args:List Expr}{kws:List Keyword}{A:Around}{env:Env}{p pos:Pos}{s:Shared}{Q:Value->Shared->Prop}{Er:Value->Shared->Prop}(eok:EnvOk env) (ge:GE fns s.heap) (hm:id∈bnames) (hg:cw env.scope.names id=true) (hd:(Str.ofString id==("__debug__" : Str))=false)
  (h:wpAny (model prog w) A (callWith pos (bval id) [] (backTo pos (starEach args env)) (backToKw pos (keywordEach kws env))) Q Er s):wpAny (model prog w) A (eval (.Call (.Name (Str.ofString id) p) args kws pos) env) Q Er s:=by
 refine ao (ge.glob) λl i _ g=>?_
 refine ae (ge.blt) λm k j=>?_
 show wpAny _ A (do callWith pos (<- eval (.Name (Str.ofString id) p) env) [] (backTo pos (starEach args env)) (backToKw pos (keywordEach kws env))) Q Er s
 exact wpAny_bind (Calls.Name_function_global eok.kind (iO hg) (Calls.loadGlobal_builtin (eok.glob▸i) (g id hm) (eok.blt▸k) (j id hm) h) hd)
theorem xA (hn:sc.names=[(t,.local),(x,.free)]) (hc:env.cells.lookup x=some c):closureFor sc env=pure [(x,c)]:=by
 unfold closureFor
 rw[hn]
 simp only[forIn_cons,forIn_nil]
 have e:cellOf env x=pure c:=by unfold cellOf; rw[hc]
 rw[e]
 rfl
theorem star_call' (ys:List Expr) (env:Env):starEach (.Call f xs ks p::ys) env=(false,eval (.Call f xs ks p) env)::starEach ys env:=rfl
set_option maxHeartbeats 1000000 in
theorem uj (hf:fns.hand=false) (hk1:∀ g,C "law" = some g->fns.lam=true) (Sl:SimE fns k C XP (.bi1 .len (.name x))) (Sb:SimE {fns with lam:=false,hand:=true } 0 (λ_=>none) (λ_ _ _ _=>False) (lf x t)):SimE fns k C XP (.order x t):=by
 intro ex A env σ P s Q Er ok X nb hQ hE
 replace ok:=AH ok
 rcases ok with ⟨id,p,jd,p2,y,p3,ar,body,sc,p4,p5,pos,rfl,ok⟩ | ok
 ·simp only[and_eq_true,beq_iff_eq] at ok
  refine ab (ok) λLz obd=>?_
  clear ok
  refine ab (Lz) λLA olm=>?_
  clear Lz
  refine ab (LA) λLH o=>?_
  clear LA
  refine ab (LH) λLJ hg'=>?_
  clear LH
  refine ab (LJ) λLD LB=>?_
  clear LJ
  refine ab (LD) λLF hg=>?_
  clear LD
  subst LF
  subst LB
  unfold x7 at olm
  simp only[and_eq_true,decide_eq_true_eq,Bool.not_eq_true',List.isEmpty_iff,Option.isNone_iff_eq_none] at olm
  refine ab (olm) λLI hcl=>?_
  clear olm
  refine ab (LI) λLK hxt=>?_
  clear LI
  refine ab (LK) λLL b4=>?_
  clear LK
  refine ab (LL) λLN b3=>?_
  clear LL
  refine ab (LN) λLO b2=>?_
  clear LN
  refine ab (LO) λLS b1=>?_
  clear LO
  refine ab (LS) λLR a7=>?_
  clear LS
  refine ab (LR) λLP a6=>?_
  clear LR
  refine ab (LP) λLQ a5=>?_
  clear LP
  refine ab (LQ) λLV a4=>?_
  clear LQ
  refine ab (LV) λLX a3=>?_
  clear LV
  refine ab (LX) λa1 a2=>?_
  clear LX
  simp only[bW,eP,jQ,gB,gK,fc,fk,dh,db,dm,eF,bp,di,gH,cX,cb,d6,dU,ec,eT,dW,cN,d8] at nb hQ hE
  cases hCl:C "law" with
  | none=>rw[hCl] at nb; exact absurd rfl nb
  | some g=>
   rw[hCl] at nb hQ
   have hk:=hk1 g hCl
   clear hE
   have nb':eX (σ x)≠.bad:=nb
   cases hσ:σ x with
   | none=>rw[hσ] at nb'; exact absurd rfl nb'
   | some q=>
    obtain ⟨V,m⟩:=q
    have hov:∃ l:List Int,V = .d (.list (l.map .int))/\l.length<128/\eX (σ x) = .ok (.d (.list ((aR l).map .int)),.deep):=by
     rw[hσ] at nb' ⊢
     cases hd:asD V with
     | none=>exact absurd (show eX (some (V,m)) = .bad by unfold eX; show am (asD V) _=_; rw[hd]; rfl) nb'
     | some d=>
      cases hl:asL d with
      | none=>exact absurd (show eX (some (V,m)) = .bad by unfold eX; show am (asD V) _=_; rw[hd]; show am (asL d) _=_; rw[hl]; rfl) nb'
      | some xs=>
       cases hi:aF xs with
       | none=>exact absurd (show eX (some (V,m)) = .bad by unfold eX; show am (asD V) _=_; rw[hd]; show am (asL d) _=_; rw[hl]; show am (aF xs) _=_; rw[hi]; rfl) nb'
       | some l=>
        have e:eX (some (V,m))=if l.length<128 then .ok (.d (.list ((aR l).map .int)),.deep) else .bad:=by
         unfold eX; show am (asD V) _=_; rw[hd]; show am (asL d) _=_; rw[hl]; show am (aF xs) _=_; rw[hi]; rfl
        by_cases u:l.length<128
        ·rw[if_pos u] at e
         refine ⟨l,?_,u,e⟩
         rw[cR hd,cI hl,vW hi]
        ·rw[e,if_neg u] at nb'; exact absurd rfl nb'
    revert hov; intro MC
    refine ao (MC) λl LY u hov=>?_
    clear MC
    subst LY
    have hvk:varK env.scope.names x=true:=by
     unfold xX at o
     refine ai o λ_ _ o=>?_
     refine ai o λ_ _ o=>?_
     simp only[and_eq_true] at o
     refine ai o.2 λ_ _ o=>?_
     simp only[and_eq_true] at o
     exact o.1.2
    refine aA (X.vars x _ hσ hvk) λva as hvi LW _=>?_
    refine ab (LW) λhra hza=>?_
    clear LW
    have hcell:∃ c,env.cells.lookup (Str.ofString x)=some c/\s.heap.IsCell c (some va):=by
     cases hvi with
     | loc m b c d=>exact absurd b (by unfold Env.kindOf; rw[hcl]; simp)
     | cell c b d e=>exact ⟨c,d,e⟩
    refine ae (hcell) λc hcl1 hcl2=>?_
    clear hcell
    have he:ev C (.bi1 .len (.name x)) σ = .ok (sI l.length):=by
     simp only[bW,eP,jQ,gB,gK,fc,fk,dh,db,dm,eF,bp,di,gH,cX,cb,d6,dU,ec,eT,dW,cN,d8]
     rw[hσ]
     show Out.bind (.ok (mk (.d (.list (l.map .int))))) _=_
     rw[Out.ok_bind]
     show Out.ok (sI ((l.map PyData.int).length:Int))=_
     rw[length_map]
    have on:okE env.scope.names (.bi1 .len (.name x)) y=true:=o
    refine uC X.eok X.ge (id:="sorted") (by decide) hg (by decide) ?_
    refine callWith_kw ?_
    refine wpAny_items_cons ?_ (star_call' [] env)
    refine gd X.eok X.ge (id:="range") (by decide) hg' (by decide) (gw (T:="range") _ on rfl (jq _ on (Sl on X (by rw[he]; simp) (λr hr v j Ea=>?_) λc hc=>by rw[he] at hc; cases hc)))
    rw[he] at hr
    injection hr
    obtain ⟨ka,as',ra,_,_,_⟩:=Ea
    refine ra.1.isInt_k λtk L9 _=>?_
    subst L9
    refine call_range_1 (wpAny_items_nil ?_)
    have k2:Kp s {j with heap:=j.heap.push {cls:=.type "range", data:=.fields #[.int 0 j.toks,.int (l.length:Int) tk,.int 1 (j.toks+1)] },toks:=j.toks+1+1 }:=ka.trans (.push _ _ _)
    generalize hs2:{j with heap:=j.heap.push {cls:=.type "range", data:=.fields #[.int 0 j.toks,.int (l.length:Int) tk,.int 1 (j.toks+1)] },toks:=j.toks+1+1 }=s₂ at k2 ⊢
    have hr2:IsRange s₂.heap j.heap.objs.size 0 l.length 1 j.toks tk (j.toks+1):=by rw[<- hs2]; exact IsRange.new ..
    clear hs2
    refine kws_cons ?_
    refine ah (X.code hk) λqn hcode=>?_
    have hdef:defaultsOf ar env=([],[]):=by
     cases ar
     dsimp only at a5 a7
     subst a5 a7
     rfl
    refine wl (X.ge.k k2.k) (hcode.k k2.k) X.eok.glob hdef (xA b4 hcl1) λf s₃ k3 L=>kws_nil ?_
    have k23:=k2.trans k3
    have hsz:Builtin.Range.rangeSize 0 l.length 1=(l.length:Int):=by rw[rangeSize_one]; split<;>lia
    have hr3:IsRange s₃.heap j.heap.objs.size 0 l.length 1 j.toks tk (j.toks+1):=k3.k.get hr2 rfl
    show wpAny (model prog w) A (call (.builtin "sorted") [.ref j.heap.objs.size] [(Str.ofString "key", .ref f)]) Q Er s₃
    refine kC (ks:=(List.range l.length).map (dA l)) (X.room.1 hf) hr3 (small_one EA IY Ir (Fq u)) hsz (by simp) u (λk hk=>?_) (λi xv kk s' Q' Er' hx hkk kp' hQ'=>?_) λD s' vs cc ns' kp' fD hD hI hps=>?_
    ·refine aG hk λi _ LZ=>?_
     subst LZ
     simp[dA]
    ·refine ah (hx) λti L5=>?_
     clear hx
     subst L5
     have hil:i<l.length:=by
      have:=(List.getElem?_eq_some_iff.mp hkk).1
      simpa using this
     have hkk':kk=dA l i:=by
      rw[List.getElem?_map,List.getElem?_range hil] at hkk
      injection hkk; rfl
     subst hkk'
     refine ab (X.room.at hf) λr1 r2=>?_
     have ks':=k23.trans kp'
     refine wa (show A.depth<recursionLimit by exact Et r1) (jN X.ge.nolim ks'.k) (L.k kp'.k) a1 a2 a3 a4 a6 b1 b2 b3 b4 (λq=>hxt (bX q)) λenv' s'' kp'' e1 e2 e3 e4 hns hcv=>?_
     have kall:=ks'.trans kp''
     have hkd:∀ n,env'.kindOf n=[(Str.ofString t,NameKind.local),(Str.ofString x,NameKind.free)].lookup n:=λn=>by unfold Env.kindOf; rw[e1,b4]
     have hxn:(Str.ofString x==Str.ofString t)=false:=beq_eq_false_iff_ne.mpr λq=>hxt (bX q)
     have cx:Cx {fns with lam:=false,hand:=true } 0 (A.in1.in1.deeper env') (λ_=>True) s''.heap env' (pM x t (l.map .int) i):=by
      refine ⟨⟨λq=>(by cases q),by show A.depth+1+2*0+1<recursionLimit; exact IC r1,by show A.units+1+1+3+100*0+200<cLine; exact Em r2⟩,⟨by rw[e1]; exact b1,e2,e3,λn hn=>?_⟩,(X.ge.k kall.k).flag false true,(λh=>by cases h),λy' p' z _=>?_⟩
      ·rw[hkd] at hn
       refine ⟨c,?_⟩
       rw[e4]
       simp only[lookup_cons,List.lookup_nil] at hn ⊢
       cases q1:n==Str.ofString t with
       | true=>rw[q1] at hn; simp at hn
       | false=>
        rw[q1] at hn
        cases q2:n==Str.ofString x with
        | true=>rfl
        | false=>rw[q2] at hn; simp at hn
      ·unfold pM at z
       by_cases hyx:y' = x
       ·subst hyx
        rw[if_pos rfl] at z; injection z
        refine ⟨va,as,.cell c (.inr ?_) ?_ (ie hcl2 kall.k),⟨hra.k kall.k,hza⟩,λ_ _=>trivial⟩
        ·rw[hkd]; simp only[lookup_cons,hxn]; simp
        ·rw[e4]; simp
       ·rw[if_neg hyx] at z
        by_cases hyt:y' = t
        ·subst hyt
         rw[if_pos rfl] at z; injection z
         refine ⟨.int i ti,[],.loc _ ?_ hns ?_,⟨.int i ti,rfl⟩,λ_ _=>trivial⟩
         ·rw[hkd]; simp
         ·simp
        ·rw[if_neg hyt] at z; exact nN z
     refine ah (Bh (x:=x) (t:=t) hxt hil) λmm hev=>?_
     have obd':okE env'.scope.names (lf x t) body=true:=by rw[e1]; exact obd
     refine Sb obd' cx (by rw[hev]; simp) (λr hr v s4 E4=>?_) λ_ _ _ _ h=>h
     rw[hev] at hr
     injection hr
     obtain ⟨k4,as4,Ma,_⟩:=E4
     refine ab (Ma) λr4 _=>?_
     clear Ma
     exact hQ' v s4 (kp''.trans k4) (KeyOf.ofR r4)
    ·refine ao (hps) λps p1 p2 p3=>?_
     clear hps
     have e:=sd p1 p3
     rw[<- p2] at e
     subst e
     refine hQ _ hov _ _ ?_
     have ef:fresh ((aR l).map PyData.int) = .deep:=by
      unfold fresh
      rw[if_pos]
      rw[all_map,all_eq_true]
      intro _ _; rfl
     rw[<- ef]
     exact EP.aList (as:=[]) (k23.trans kp') (k23.none fD) hD (RA.of_ints hI) (by rw[length_map,wp]; exact zq u) (gv _) λ_ h=>(nomatch h)
 ·cases ok
end
def RawD (h:Heap) (d:Addr) (es:Array DictEntry) (ep:Nat):Prop:=∃ o,h.get? d=some o/\o.cls = .type "dict" /\ o.data = .dict es ep
theorem RawD.typ {s:Shared}{d:Addr}{es:Array DictEntry}{ep:Nat}(x:RawD s.heap d es ep):s.TypeIs (.ref d) "dict" := ao (x) λo h g uu=>(ag o h g)
theorem RawD.at (x:RawD h d es ep) (k:∀ o,h.get? d=some o->h'.get? d=some o):RawD h' d es ep:=ae (x) λo g r=>(ag o (k o g) r)
section
variable {A:Around}{E:Value->Shared->Prop}{s:Shared}{d it:Addr}{es:Array DictEntry}{ep i:Nat}
theorem w7 {Q:Value->Shared->Prop}(hd:(d==sysModules)=false) (hm:RawD s.heap d es ep)
  (hQ:Q (.ref s.heap.objs.size) {s with heap:=s.heap.push {cls:=.type "dict_keyiterator", data:=.fields #[.ref d,.int 0 0,.int es.size 0,.int ep 0] } }) :
  wpAny (model prog w) A (pyIter (.ref d)) Q E s:=by
 have h:=hm.typ
 refine ao (hm) λo i j g=>?_
 clear hm
 refine wpAny_pyIter_slot h F.slot_dict_iter (wpAny_call_entry F.slot_dict_iter h F.entry_dict_iter ?_ (F.args_dict_iter_1 _))
 unfold Builtin.«dict.__iter__»
 refine wpAny_bind ?_
 unfold Builtin.Dict.dictSlotNone
 refine wpAny_bind (wpAny_notOrdered_dict h (wpAny_pure ?_))
 show wpAny _ _ (Builtin.Dict.showsAll d>>=_) _ _ s
 unfold Builtin.Dict.showsAll
 rw[if_neg (by rw[hd]; exact Bool.false_ne_true)]
 refine wpAny_bind (wpAny_pure (wpAny_bind (wpAny_dictEntries i g (wpAny_bind (wpAny_dictEpoch i g ?_)))))
 refine wpAny_bind (wpAny_newObj_type (wpAny_pure (ag _ rfl (bJ ("dict_keyiterator") _ (ag _ (Heap.get?_push_size _ rfl) rfl) F.slot_dict_keyiterator_next.lookup ?_))))
 simpa [rawInt] using hQ
theorem ph (hh:A.handled=none) (hit:s.heap.IsKeyIter it d i es.size ep) (hm:RawD s.heap d es ep)
  (hQ:∀ (hi:i<es.size) h',h'.IsKeyIter it d (i+1) es.size ep->Heap.SameBut it s.heap h'->Q (some es[i].key) {s with heap:=h' })
  (hE:es.size<=i->∀ h',Heap.ExtBut it s.heap h'->Q none {s with heap:=h' }):wpAny (model prog w) A (pyNext (.ref it)) Q E s:=by
 refine ao (id hit) λo p r n=>?_
 refine ao (hm) λt j q l=>?_
 clear hm
 unfold pyNext
 refine wpAny_bind (wpAny_attempt (wpAny_callSpecial?_slot (name:=Str.ofString "__next__") hit.typeIs F.slot_dict_keyiterator_next
  (wpAny_call_entry F.slot_dict_keyiterator_next hit.typeIs F.entry_dict_keyiterator_next ?_ (F.args_dict_keyiterator_next_1 _))))
 refine wpAny_bind (wpAny_pure (wpAny_bind (wpAny_bind ?_)))
 first | refine wpAny_bind (wpAny_typeNameOfWhole_keyiter hit.typeIs (wpAny_pure ?_)) | refine wpAny_bind (wpAny_typeNameOf_keyiter hit.typeIs (wpAny_pure ?_))
 refine wpAny_bind (wpAny_fieldsOf p n ?_)
 have h:Builtin.Dict_items.ownsTuple "dict_keyiterator" = false:=by decide
 rw[h,if_neg Bool.false_ne_true]
 show wpAny _ _ (if (Value.ref d==Value.none)=true then _ else _) _ _ s
 rw[if_neg (show ¬ ((Value.ref d==Value.none)=true) from Bool.false_ne_true)]
 refine wpAny_bind (wpAny_pure (wpAny_bind (wpAny_dictEntries j l ?_)))
 rw[if_neg (by simp)]
 refine wpAny_bind (wpAny_pure (wpAny_bind (wpAny_dictEpoch j l ?_)))
 rw[if_neg (by simp)]
 refine wpAny_pure ?_
 by_cases hi:i<es.size
 ·dsimp only
  rw[if_neg (show ¬ ((i:Int)<0) from by exact zS),Int.toNat_natCast,Array.getElem?_eq_getElem hi]
  dsimp only
  refine wpAny_bind ?_
  first | refine wpAny_bind (wpAny_typeNameOfWhole_keyiter hit.typeIs (wpAny_pure ?_)) | refine wpAny_bind (wpAny_typeNameOf_keyiter hit.typeIs (wpAny_pure ?_))
  refine wpAny_bind (wpAny_isOneOf_keyiter hit.typeIs ?_)
  show wpAny _ _ (setField (.ref it) 1 (rawInt ((i:Int)+1))>>=_) _ _ s
  refine wpAny_bind (wpAny_setField p n (by simp) ?_)
  have g:(s.heap.update it (Obj.mapFields (·.setIfInBounds 1 (rawInt ((i:Int)+1))))).IsKeyIter it d (i+1) es.size ep :=
   (aL _ (Heap.get?_update_self _ p (Obj.isFreed_of_fields (Obj.data_mapFields n _))) ((Obj.cls_mapFields ..).trans r) (by rw[Obj.data_mapFields n]; simp[rawInt]))
  refine wpAny_bind (wpAny_holding (wpAny_bind (wpAny_isOneOf_keyiter (s:={s with heap:=s.heap.update it (Obj.mapFields (·.setIfInBounds 1 (rawInt ((i:Int)+1)))) }) g.typeIs ?_)))
  show wpAny _ _ (pure es[i].key) _ _ _
  exact wpAny_pure (wpAny_pure (ag _ rfl (wpAny_pure (hQ hi _ g (Heap.SameBut.update ..)))))
 ·have k:es.size<=i:=by exact lv hi
  dsimp only
  rw[if_neg (show ¬ ((i:Int)<0) from by exact zS),Int.toNat_natCast,Array.getElem?_eq_none k]
  dsimp only
  refine wpAny_bind ?_
  first | refine wpAny_bind (wpAny_typeNameOfWhole_keyiter hit.typeIs (wpAny_pure ?_)) | refine wpAny_bind (wpAny_typeNameOf_keyiter hit.typeIs (wpAny_pure ?_))
  show wpAny _ _ (setField (.ref it) 0 .none>>=_) _ _ s
  refine wpAny_bind (wpAny_setField p n (by simp) ?_)
  show wpAny _ _ (newExc (.type "StopIteration") []>>=_) _ _ _
  refine wpAny_bind ?_
  simp only[newExc,newTuple]
  refine wpAny_bind (wpAny_newObj_type ?_ (by size_fits))
  refine wpAny_bind (m:=firstArgMember _ _) (wpAny_of_eq (a:=Value.none) (by first | rfl | (simp only[firstArgMember]; rfl)) ?_)
  refine wpAny_newObj_type ?_ (by size_fits)
  simp only[raiseNew]
  refine wpAny_bind (wpAny_handled ?_)
  rw[show A.in1.handled=none from hh]
  refine wpAny_bind (wpAny_pure (wpAny_throw ?_))
  refine wpAny_bind (wpAny_isInstance (T:="StopIteration") (b:=true) (ag _ (Heap.get?_push_size _ rfl) rfl) isSubtype_stop ?_)
  exact wpAny_pure (hE k _ (((Heap.SameBut.update ..).extBut.push _).push _))
end
theorem vE {A:Around}(hh:A.handled=none) (I d:Addr) (hne:d≠I) (es:Array DictEntry) (ep:Nat) :
  Walks prog w A I [I,d] [I] es.size (λi v=>∃ hi:i<es.size,v=es[i].key) (λi h=>h.IsKeyIter I d i es.size ep/\RawD h d es ep) where
 sub:=λb j=>by simp at j; simp[j]
 frame:=λuu uu uu g hk=>⟨g.1.at λo e=>hk I (by simp) o e,g.2.at λo e=>hk d (by simp) o e⟩
 item:=λi s Q E hi g m=>ph hh g.1 g.2 (λn r l k=>m _ r s.toks ⟨n,rfl⟩ ⟨l,g.2.at λo e=>k.extBut d o hne e⟩ λb o j e=>k.extBut b o (λh=>j (by simp[h])) e) λp=>absurd hi (Nat.not_lt.mpr p)
 done:=λs Q E g m=>ph hh g.1 g.2 (λhi=>absurd hi (lt_irrefl _)) λuu r q=>m r s.toks λb o j e=>q b o (λh=>j (by simp[h])) e
 self:=λuu uu uu uu g m=>wpAny_pyIter_keyiter g.1 m
section
variable {A:Around}{E:Value->Shared->Prop}{s:Shared}{d S:Addr}{es:Array DictEntry}{ep:Nat}
theorem uJ (hT:s.TypeIs (.ref d) "dict") (h:Q false s):wpAny (model prog w) A (Builtin.List.listLengthHint (.ref d)) Q E s:=by
 unfold Builtin.List.listLengthHint
 refine wpAny_bind (wpAny_specialOf hT PySem.F.slot_dict_len.lookup ?_)
 generalize g:("dict.__len__" : String)=id0
 wp_delta
 rw[show splitId id0=some ("dict", "__len__") from by subst g; decide +kernel]
 subst g
 refine wpAny_bind (wpAny_isInstance (T:="dict") (b:=true) hT (by rw[isSubtype_type]; kernel_rfl) ?_)
 refine wpAny_ite_split (λq=>absurd q (by decide)) λuu=>wpAny_ite_split (λuu=>wpAny_bind (wpAny_typeOf hT (wpAny_pure h))) λq=>absurd (by decide +kernel) q
theorem tQ {R:Result->Shared->Prop}(lo:(d==sysModules)=false) (hh:A.handled=none) (hm:RawD s.heap d es ep) (hn:es.size<=sizeLine) (hSd:S≠d) {co:Nat}(hS:s.heap.get? S=some {cls:=.type "list", data:=.seq #[] co })
  (hR:∀ h' tk acc' c',(∀ b o,b≠S->s.heap.get? b=some o->h'.get? b=some o)->h'.get? S=some {cls:=.type "list", dict:=none,data:=.seq acc' c',slots:=#[] }->ItemsOf (λi v=>∃ hi:i<es.size,v=es[i].key) acc' es.size->R (.ok (.ret .none)) {s with heap:=h',toks:=tk }) :
  wpAny (model prog w) A.in1 (Builtin.List.listExtendWith (.ref S) (.ref d) .none)
   (λfin s'=>match fin with | .done f=>R (.ok f) s' | .again c'=>c'.quiet=true/\codeAny (model prog w) A c' R s') (λe s'=>R (.error e) s') s:=by
 have z:S≠s.heap.objs.size:=ne_of_lt (lt_size hS)
 have y:d≠s.heap.objs.size:=ae (hm) λuu e uu=>ne_of_lt (lt_size e)
 have t:S∉[s.heap.objs.size,d]:=by simp only[mem_cons,not_mem_nil,or_false,not_or]; exact ⟨z,hSd⟩
 have W:=vE (A:=A.in1) hh s.heap.objs.size d y es ep
 have l:∀ (h:Heap) (k tk:Nat),(h.IsKeyIter s.heap.objs.size d 0 es.size ep/\RawD h d es ep)->(∀ b o,b≠S->s.heap.get? b=some o->h.get? b=some o) ->
   h.get? S=some {cls:=.type "list", data:=.seq #[] k }->codeAny (model prog w) A (.builtin "list.extend.loop" ⟨[.ref S,.ref s.heap.objs.size,.none],[]⟩) R {s with heap:=h,toks:=tk }:=λh k tk x hk g=>by
  refine codeAny_extend_loopS W.toS hn S t .none es.size 0 _ #[] k rfl (zero_le _) x g (ItemsOf.nil _) λs' acc' c' p hS' r=>?_
  rw[Moved.eq_with p]
  refine hR s'.heap s'.toks acc' c' (λb o m e=>p.heap b o (λhmem=>?_) (hk b o m e)) hS' r
  rcases mem_cons.mp hmem with e' | hmem
  ·exact m e'
  ·exact absurd (lt_size e) (by rw[mem_singleton.mp hmem]; exact lt_irrefl _)
 unfold Builtin.List.listExtendWith
 refine wpAny_bind (wpAny_typeOf (T:="dict") hm.typ ?_)
 have h1:Builtin.List.listSameRef (.ref S) (.ref d)=false:=by simp[Builtin.List.listSameRef,hSd]
 simp only[h1,show (Value.type "dict" == Value.type "list")=false by decide,show (Value.type "dict" == Value.type "tuple")=false by decide,Bool.or_false,false_eq_true,if_false]
 refine wpAny_bind (w7 lo hm ?_)
 have g:=Heap.get?_push_of_some {cls:=.type "dict_keyiterator", data:=.fields #[.ref d,.int 0 0,.int es.size 0,.int ep 0] } hS
 have u:(s.heap.push {cls:=.type "dict_keyiterator", data:=.fields #[.ref d,.int 0 0,.int es.size 0,.int ep 0] }).IsKeyIter s.heap.objs.size d 0 es.size ep/\RawD (s.heap.push {cls:=.type "dict_keyiterator", data:=.fields #[.ref d,.int 0 0,.int es.size 0,.int ep 0] }) d es ep:=⟨(aL _ (Heap.get?_push_size _ rfl) rfl rfl),hm.at λo e=>Heap.get?_push_of_some _ e⟩
 refine wpAny_bind (wpAny_holding (uJ u.2.typ ?_))
 refine wpAny_ite_split (λuu=>?_) (λuu=>wpAny_pure ⟨plainId_quiet PySem.F.plain_extend_loop _,l _ co _ u (λb o _ e=>Heap.get?_push_of_some _ e) g⟩)
 refine wpAny_bind (wpAny_rule (wpAny_bind ?_))
 show wpAny _ _ (updateSeq S (·.push .none)>>=λuu=>updateSeq S (·.pop)) _ _ _
 refine wpAny_bind (wpAny_updateSeq g rfl ?_)
 have j:=Heap.get?_update_self (Obj.mapSeq (·.push Value.none)) g rfl
 refine wpAny_updateSeq (hz:=by seq_fits) j rfl ?_
 have n:=Heap.get?_update_self (Obj.mapSeq (·.pop)) j rfl
 refine wpAny_pure ⟨plainId_quiet PySem.F.plain_extend_loop _,l _ _ _ ?_ (λb o m e=>?_) n⟩
 ·refine W.frame 0 _ _ u λb m o e=>?_
  have q:b≠S:=λh=>t (h▸m)
  exact (Heap.get?_update_other _ _ (Ne.symm q)).trans ((Heap.get?_update_other _ _ (Ne.symm q)).trans e)
 ·exact (Heap.get?_update_other _ _ (Ne.symm m)).trans ((Heap.get?_update_other _ _ (Ne.symm m)).trans (Heap.get?_push_of_some _ e))
theorem wq (lo:(d==sysModules)=false) (hh:A.handled=none) (hm:RawD s.heap d es ep) (hn:es.size<=sizeLine)
  (hQ:∀ h' tk acc' c',(∀ b o,s.heap.get? b=some o->h'.get? b=some o)->h'.get? s.heap.objs.size=some {cls:=.type "list", dict:=none,data:=.seq acc' c',slots:=#[] }->ItemsOf (λi v=>∃ hi:i<es.size,v=es[i].key) acc' es.size->Q (.ref s.heap.objs.size) {s with heap:=h',toks:=tk }) :
  wpAny (model prog w) A (call (.type "list") [.ref d]) Q E s:=by
 refine callType_codes (Q₁:=λl g=>l = .ref s.heap.objs.size/\g = {s with heap:=s.heap.push {cls:=.type "list", data:=.seq #[] } }) PySem.F.called_list (PySem.F.typeCall_list_1 _) PySem.F.entry_list_init
  (code_list_new _ ⟨rfl,rfl⟩) λl g h=>?_
 refine ab (h) λr q=>?_
 clear h
 subst r
 subst q
 have p:(s.heap.push {cls:=.type "list", data:=.seq #[] }).get? s.heap.objs.size=some {cls:=.type "list", data:=.seq #[] }:=Heap.get?_push_size _ rfl
 have m:s.heap.objs.size≠d:=ae (hm) λuu e uu=>ne_of_gt (lt_size e)
 refine ⟨(ag _ p rfl),PySem.F.args_list_init_2 _ _,?_⟩
 show wpAny _ _ (do let old <- Builtin.List.listItems (.ref s.heap.objs.size); Builtin.List.listUpdate (.ref s.heap.objs.size) (λuu=>#[]); letGo old.toList.reverse; Builtin.List.listExtendWith (.ref s.heap.objs.size) (.ref d) .none) _ _ _
 refine wpAny_bind ?_
 unfold Builtin.List.listItems
 refine wpAny_bind (wpAny_seqItems p rfl (wpAny_pure ?_))
 show wpAny _ _ (updateSeq s.heap.objs.size (λuu=>#[])>>=λuu=>letGo (#[]:Array Value).toList.reverse>>=λuu=>Builtin.List.listExtendWith (.ref s.heap.objs.size) (.ref d) .none) _ _ _
 refine wpAny_bind (wpAny_updateSeq p rfl ?_)
 have j:=Heap.get?_update_self (Obj.mapSeq (λuu=>(#[]:Array Value))) p rfl
 have k:∀ b o,b≠s.heap.objs.size->s.heap.get? b=some o->((s.heap.push {cls:=.type "list", data:=.seq #[] }).update s.heap.objs.size (Obj.mapSeq (λuu=>(#[]:Array Value)))).get? b=some o :=
  λb o u e=>(Heap.get?_update_other _ _ (Ne.symm u)).trans (Heap.get?_push_of_some _ e)
 refine wpAny_bind (wpAny_letGo ?_)
 refine tQ (A:=A.in1) (S:=s.heap.objs.size) (s:={s with heap:=(s.heap.push {cls:=.type "list", data:=.seq #[] }).update s.heap.objs.size (Obj.mapSeq (λuu=>(#[]:Array Value))) }) lo hh (hm.at λo e=>k d o m.symm e) hn m j λh' tk acc' c' hk t n=>?_
 exact ⟨rfl,hQ h' tk acc' c' (λb o e=>hk b o (ne_of_lt (lt_size e)) (k b o (ne_of_lt (lt_size e)) e)) t n⟩
end
section
variable {A:Around}{E:Value->Shared->Prop}
theorem xg {rd:Value->List Int}{vs:List Value}{ks:List (List Int)}(hl:vs.length=ks.length) (hkey:∀ (i:Nat) (v:Value) (k:List Int),vs[i]? = some v->ks[i]? = some k->rd v=k):(vs.zip vs).map (λp=>(rd p.1,p.2))=ks.zip vs:=by
 apply List.ext_getElem?
 intro i
 rw[List.getElem?_map]
 by_cases hi:i<ks.length
 ·have h:ks[i]? = some ks[i]:=List.getElem?_eq_getElem hi
  have g:vs[i]? = some vs[i]:=List.getElem?_eq_getElem (ov hl hi)
  rw[ic g g,ic h g]
  simp only[map_some]
  rw[hkey i _ _ g h]
 ·rw[List.getElem?_eq_none (by rw[length_zip]; exact Ga hl hi),List.getElem?_eq_none (by rw[length_zip]; exact zG hi)]
  rfl
theorem qg {s0 s:Shared}{D:Addr}{vs:List Value}{ks:List (List Int)}{e1:Nat}{st:SortSt}{rd:Value->List Int}{P:PySem.Fin->Shared->Prop}(k0:Kp s0 s) (hD:s.heap.get? D=some (seqObj "list" #[] e1)) (f2:s0.heap.get? D=none)
  (hl:vs.length=ks.length) (h64:vs.length<64) (hkey:∀ (i:Nat) (v:Value) (k:List Int),vs[i]? = some v->ks[i]? = some k->rd v=k)
  (hp:(arrOf st).Perm (vs.toArray.zip vs.toArray)) (hu:(arrOf st).toList.Pairwise λx y=>ltL (rd y.1) (rd x.1)=false) (hf:failedOf st=none)
  (h:∀ s' out c,Kp s0 s'->s'.heap.get? D=some (seqObj "list" out c)->(∃ ps:List (List Int×Value),ps.Perm (ks.zip vs)/\out.toList=ps.map (·.2)/\ps.Pairwise λx y=>ltL y.1 x.1=false)->P (.done (.ret .none)) s') :
  wpAny (model prog w) A (do
   let sorted:=(arrOf st).map (·.2)
   let touched:=(<- seqEpoch D) != e1
   Builtin.List.listUpdate (.ref D) λuu=>sorted
   if let some e:=failedOf st then rule "list.sort.comparison-raised"; throw e
   if touched then rule "list.sort.modified"; raiseError "ValueError" "list modified during sort"
   ret .none) P E s:=by
 have n:=Heap.SameBut.update s.heap D (Obj.mapSeq λuu=>(arrOf st).map (·.2))
 obtain ⟨m,l⟩:∃ m,(s.heap.update D (Obj.mapSeq λuu=>(arrOf st).map (·.2))).get? D=some (seqObj "list" ((arrOf st).map (·.2)) m):=⟨_,get?_update_seq hD λuu=>(arrOf st).map (·.2)⟩
 have g:(arrOf st).size=vs.length:=by rw[hp.size_eq,size_zip]; simp
 have o:=Kp.wr k0 hD f2 n
 dsimp only
 refine wpAny_bind (seqEpoch_at hD rfl ?_)
 refine wpAny_bind (listUpdate_at hD rfl ?_ (zero_le _) (by rw[Array.size_map,g,sizeLine_eq]; exact Db h64))
 rw[hf]
 simp only[bne_self_eq_false,false_eq_true,if_false]
 refine wpAny_pure (h _ _ m o l (aL ((arrOf st).toList.map λp=>(rd p.1,p.2)) ?_ ?_ ?_))
 ·have j:(arrOf st).toList.Perm (vs.zip vs):=by
   have:=perm_iff_toList_perm.mp hp
   rwa [cu] at this
  exact (j.map _).trans (List.Perm.of_eq (xg hl hkey))
 ·rw[Array.toList_map,map_map]; rfl
 ·rw[pairwise_map]; exact hu
structure Keys (κ:SortKind) (Kd:Heap->Value->List Int->Prop) (ne:Prop):Prop where
 fn:∀ {h:Heap}{v:Value}{k k':List Int},Kd h v k->Kd h v k'->k=k'
 kind:∀ {A:Around}{E:Value->Shared->Prop}{s:Shared}{ks:List (List Int)}{vs:List Value}{Q:SortKind->Shared->Prop},vs.length=ks.length->1<=vs.length->(ne->[]∉ks)->(∀ (i:Nat) (v:Value) (k:List Int),vs[i]? = some v->ks[i]? = some k->Kd s.heap v k)->Q κ s->wpAny (model prog w) A (keyKind' vs.toArray) Q E s
 lt:∀ {A:Around}{E:Value->Shared->Prop}{s:Shared}{x y:Value}{k k':List Int}{Q:Bool->Shared->Prop},A.units<cLine->Kd s.heap x k->Kd s.heap y k'->Q (ltL k k') s->wpAny (model prog w) A (keyLt' κ x y) Q E s
section
variable {κ:SortKind}{Kd:Heap->Value->List Int->Prop}{ne:Prop}
open Classical in
noncomputable def eG (Kd:Heap->Value->List Int->Prop) (h:Heap) (v:Value):List Int:=if q:∃ k,Kd h v k then q.choose else []
theorem Keys.read (K:Keys κ Kd ne) (x:Kd h v k):eG Kd h v=k:=by
 unfold eG
 have q:∃ k,Kd h v k:=⟨k,x⟩
 rw[dif_pos q]
 exact K.fn q.choose_spec x
theorem Keys.ltOk (K:Keys κ Kd ne) (hu:A.units<cLine) (ks:List (List Int)):aZ (model prog w) A E s (λp=>rkL ks (eG Kd s.heap p.1)) (λp=>∃ k∈ks,Kd s.heap p.1 k) κ:=by
 intro x y q Q l j hk h
 revert l; intro i
 refine ae (i) λk o l=>?_
 clear i
 revert j; intro g
 refine ae (g) λn m j=>?_
 clear g
 have e:(some (decide ((λp:Keyed=>rkL ks (eG Kd s.heap p.1)) x<(λp:Keyed=>rkL ks (eG Kd s.heap p.1)) y)))=some (ltL k n):=by
  rw[lp o m,<- K.read l,<- K.read j]
 rw[e] at h
 rw[lt'_eq]
 refine wpS_bind (wpS_get ?_)
 rw[hk]
 refine wpS_bind (wpS_lift (wpAny_attempt (K.lt hu l j ⟨rfl,?_⟩)))
 exact wpS_pure h
set_option maxHeartbeats 4000000 in
theorem mu (K:Keys κ Kd ne) {s0 s:Shared}{D:Addr}{vs:List Value}{ks:List (List Int)}{n:Nat}{P:PySem.Fin->Shared->Prop}(hun:A.units<cLine) (ho:s.heap.get? D=some (seqObj "list" vs.toArray n)) (f2:s0.heap.get? D=none) (k0:Kp s0 s)
  (hl:vs.length=ks.length) (h64:vs.length<64) (hne:ks.length<2\/(ne->[]∉ks)) (hkey:∀ H,KG (λb=>b≠D) s.heap H->∀ (i:Nat) (v:Value) (k:List Int),vs[i]? = some v->ks[i]? = some k->Kd H v k)
  (h:∀ s' out c,Kp s0 s'->s'.heap.get? D=some (seqObj "list" out c)->(∃ ps:List (List Int×Value),ps.Perm (ks.zip vs)/\out.toList=ps.map (·.2)/\ps.Pairwise λx y=>ltL y.1 x.1=false)->P (.done (.ret .none)) s') :
  wpAny (model prog w) A (Builtin.«list.sort» ⟨[.ref D],[]⟩) P E s:=by
 rw[list_sort_plain]
 have s1:=Heap.SameBut.update s.heap D (Obj.mapSeq λuu=>(#[]:Array Value))
 obtain ⟨e1,ho1⟩:∃ e1,(s.heap.update D (Obj.mapSeq λuu=>(#[]:Array Value))).get? D=some (seqObj "list" #[] e1):=⟨_,get?_update_seq ho λuu=>#[]⟩
 have k1:=Kp.wr k0 ho f2 s1
 refine wpAny_bind (listItems_at ho rfl ?_)
 refine wpAny_bind (listUpdate_at ho rfl ?_ (by rw[size_toArray,sizeLine_eq]; exact zr h64) (zero_le _))
 refine wpAny_bind (seqEpoch_at ho1 rfl ?_)
 refine wpAny_bind (wpAny_newTuple ?_ (by show vs.length<=_; rw[sizeLine_eq]; exact zr h64))
 refine wpAny_bind (wpAny_newList ?_ (zero_le _))
 refine wpAny_holding ?_
 have k3:Kp s0 {s with heap:=((s.heap.update D (Obj.mapSeq λuu=>(#[]:Array Value))).push (seqObj "tuple" vs.toArray 0)).push (seqObj "list" #[] 0) }:=(k1.trans (.push _ _ s.toks)).trans (.push _ _ s.toks)
 have r:(((s.heap.update D (Obj.mapSeq λuu=>(#[]:Array Value))).push (seqObj "tuple" vs.toArray 0)).push (seqObj "list" #[] 0)).get? D=some (seqObj "list" #[] e1):=Heap.get?_push_of_some _ (Heap.get?_push_of_some _ ho1)
 have kg:KG (λb=>b≠D) s.heap (((s.heap.update D (Obj.mapSeq λuu=>(#[]:Array Value))).push (seqObj "tuple" vs.toArray 0)).push (seqObj "list" #[] 0)) :=
  (KG.same s1 (λq=>q rfl) λo q=>by rw[ho] at q; injection q; exact Stay.not_list).trans (.of λb o _ e=>Heap.get?_push_of_some _ (Heap.get?_push_of_some _ e))
 generalize ((s.heap.update D (Obj.mapSeq λuu=>(#[]:Array Value))).push (seqObj "tuple" vs.toArray 0)).push (seqObj "list" #[] 0)=H at k3 r kg
 have g:=hkey H kg
 have hrd:∀ (i:Nat) (v:Value) (k:List Int),vs[i]? = some v->ks[i]? = some k->eG Kd H v=k:=λi v k a b=>K.read (g i v k a b)
 show wpAny (model prog w) A _ P E {s with heap:=H }
 by_cases h2:vs.toArray.size<2
 ·rw[if_pos h2,if_pos h2]
  refine wpAny_bind (wpAny_pure ?_)
  dsimp only
  rw[StateT.run_pure]
  refine wpAny_bind (wpAny_pure ?_)
  dsimp only
  refine qg (s:={s with heap:=H }) (st:=SortSt.mk' general' (vs.toArray.zip vs.toArray) #[] 7 none) k3 r f2 hl h64 hrd (Array.Perm.refl _) ?_ rfl h
  have hz:(vs.toArray.zip vs.toArray).toList.length<=1:=by
   rw[cu,length_zip]; rw[size_toArray] at h2; simp; exact ES h2
  show ((vs.toArray.zip vs.toArray).toList).Pairwise _
  exact o4 hz
 ·rw[if_neg h2,if_neg h2]
  rw[size_toArray] at h2
  refine wpAny_bind (K.kind (s:={s with heap:=H }) (ks:=ks) hl (Dh h2) (hne.resolve_left (FU hl h2)) g ?_)
  have z:(vs.toArray.zip vs.toArray).size=vs.length:=by rw[size_zip]; simp
  have u:∀ p∈vs.zip vs,∃ k∈ks,Kd H p.1 k:=λp t=>by
   refine ah (List.getElem?_of_mem t) λi hi=>?_
   refine ab (List.getElem?_zip_eq_some.mp hi) λq1 q2=>?_
   have hil:i<ks.length:=by rw[<- hl]; exact (List.getElem?_eq_some_iff.mp q1).1
   exact (ag (ks[i]) (List.getElem_mem hil) (g i _ _ q1 (List.getElem?_eq_getElem hil)))
  refine wpAny_bind (wpAny_mono (sO (K.ltOk (E:=E) (s:={s with heap:=H }) hun ks) (st:=SortSt.mk' κ (vs.toArray.zip vs.toArray) #[] 7 none)
   (Q:=λuu j=>(arrOf j).Perm (vs.toArray.zip vs.toArray)/\failedOf j=none/\Up (λp=>rkL ks (eG Kd H p.1)) (arrOf j).toList) ⟨λp t=>?_,rfl⟩ (by show 2<=(vs.toArray.zip vs.toArray).size; rw[z]; exact y8 h2) (by show (vs.toArray.zip vs.toArray).size<64; rw[z]; exact h64) rfl rfl λj a1 a2 a3=>⟨a1,a3,a2⟩) ?_ λuu uu e=>e)
  ·have l:p∈(vs.toArray.zip vs.toArray).toList:=mem_def.mp t
   rw[cu] at l
   exact u p l
  ·rintro ⟨⟨⟩,j⟩ s'' ⟨rfl,t,hf,hu⟩
   dsimp only
   refine qg (s:={s with heap:=H }) k3 r f2 hl h64 hrd t ?_ hf h
   have hm:∀ p∈(arrOf j).toList,∃ k∈ks,Kd H p.1 k:=λp l=>by
    have:=(perm_iff_toList_perm.mp t).mem_iff.mp l
    rw[cu] at this
    exact u p this
   refine List.Pairwise.imp_of_mem (λ{a b} ha hb hab=>?_) hu
   refine ae (hm a ha) λk hk x=>?_
   refine ae (hm b hb) λk' hk' y=>?_
   have m:rkL ks (eG Kd H a.1)<=rkL ks (eG Kd H b.1):=hab
   rw[K.read x,K.read y] at m ⊢
   rw[lp hk' hk]
   exact decide_eq_false (yW m)
end
theorem wB:Keys (tuples' true) KeyOf True where
 fn:=KeyOf.fn
 kind hl h1 hne hk h:=nC hl h1 (λi v k a b=>⟨hk i v k a b,λq=>hne trivial (q▸mem_of_getElem? b)⟩) h
 lt _ hx hy h:=nI true hx hy h
theorem RA.ofSub {h:Heap}{G:Addr->Prop}:∀ {vs:List Value}{ds:List PyData},vs.length=ds.length->(∀ (i:Nat) (v:Value) (d:PyData),vs[i]? = some v->ds[i]? = some d->∃ bs,R h v d bs/\∀ b∈bs,G b)->∃ cs,RA h vs ds cs/\∀ b∈cs,G b
 | [],[],_,_=>(ag ([]) .nil (λuu q=>nomatch q))
 | v::vs,d::ds,hl,hr=>by
  refine ae (hr 0 v d rfl rfl) λbs r k=>?_
  refine ae (RA.ofSub (vs:=vs) (ds:=ds) (by simpa using hl) λi u e m l=>hr (i+1) u e m l) λcs g j=>?_
  exact (ag _ (.cons r g) (λb q=>(mem_append.mp q).elim (k b) (j b)))
 | [],_::_,hl,_=>by cases hl
 | _::_,[],hl,_=>by cases hl
theorem RA.eachSub (r:RA h vs ds as):∀ (i:Nat) (v:Value) (d:PyData),vs[i]? = some v->ds[i]? = some d->∃ bs,R h v d bs/\∀ b∈bs,b∈as :=
 RA.ind (N:=λvs ds as=>∀ (i:Nat) (v:Value) (d:PyData),vs[i]? = some v->ds[i]? = some d->∃ bs,R h v d bs/\∀ b∈bs,b∈as) (λi v d g uu=>by simp at g) (λ{v vs d ds as bs} r o l i u e g j=>by
  cases i with
  | zero=>exact (ag as (Option.some.inj g▸Option.some.inj j▸r) (λb q=>mem_append_left _ q))
  | succ i=>
   refine ae (l i u e g j) λn k m=>?_
   exact (ag n k (λb q=>mem_append_right _ (m b q)))) r
theorem RA.ofEach:∀ {vs:List Value}{ds:List PyData},vs.length=ds.length->(∀ (i:Nat) (v:Value) (d:PyData),vs[i]? = some v->ds[i]? = some d->R h v d [])->RA h vs ds []
 | [],[],_,_=>.nil
 | v::vs,d::ds,hl,hr=>RA.cons (as:=[]) (bs:=[]) (hr 0 v d rfl rfl) (RA.ofEach (by simpa using hl) λi u e j g=>hr (i+1) u e j g)
 | [],_::_,hl,_=>by cases hl
 | _::_,[],hl,_=>by cases hl
theorem Al (k:List Int):dy (aJ k)=some k:=by
 show aF (k.map PyData.int)=some k
 induction k with
 | nil=>rfl
 | cons a k ih=>simp only[map_cons,aF,ih,map_some]
theorem kR (h:dy x=some k):x=aJ k:=by
 cases x with
 | tuple g=>
  have l:∀ {g:List PyData}{k:List Int},aF g=some k->g=k.map .int:=λ{g}=>by
   induction g with
   | nil=>intro k h; injection h; rfl
   | cons y g ih=>
    intro k h
    cases y with
    | int i=>
     simp only[aF,map_eq_some_iff] at h
     refine ae (h) λo n j=>?_
     clear h
     subst j
     rw[ih n]; rfl
    | _=>exact nN h
  show PyData.tuple g = .tuple (k.map .int)
  rw[l h]
 | _=>exact nN h
theorem l5:∀ {xs:List PyData}{ks:List (List Int)},eA xs=some ks->xs=ks.map aJ
 | [],ks,h=>by injection h; rfl
 | x::xs,ks,h=>by
  simp only[eA] at h
  refine bj h λk hk h=>?_
  refine bw h λj l g=>?_
  (clear h; subst g)
  rw[map_cons,<- l5 l,kR hk]
theorem Cf (h:k.length<=2^22):sz (aJ k)=true:=sz_tuple.mpr ⟨by rw[length_map]; exact h,gv k⟩
theorem uo (hh:A.handled=none) (ra:RV s.heap va (.dicT ks) as) (hk:ks.length<=lim) (hQ:∀ v s',EP P s (.d (.list (ks.map aJ)),fresh (ks.map aJ)) v s'->Q v s'):wpAny (model prog w) A (call (bval (b1n .list)) [va]) Q Er s:=by
 refine tx (ra) λa xs LG _ lo l z hks htu=>?_
 clear ra
 subst LG
 refine cF (l) λo es ep e t hd he _ _=>?_
 clear l
 subst z
 have u:RawD s.heap a es ep:=(aL o e t.1 hd)
 have p:es.size=xs.length:=size_of_entries he
 rw[length_map] at hk
 unfold lim at hk
 refine wq lo hh u (by rw[p,sizeLine_eq]; exact Ju hk) λh' tk r c' q hS g=>hQ _ _ ?_
 refine EP.aList (vs:=r.toList) (n:=c') (as:=[]) (ay h' tk rfl (.of q)) (Heap.get?_none_of_le (le_refl _)) (by simpa using hS) (RA.ofEach ?_ λi v d hi j=>?_) (by rw[length_map,length_map]; exact zC hk) (λx t=>?_) λuu h=>nomatch h
 ·rw[length_toList,length_map,length_map,g.1,p]
 ·obtain ⟨hi',rfl⟩:=g.2 i v (by rw[<- Array.getElem?_toList]; exact hi)
  have ee:=entry_at he i
  rw[Array.getElem?_eq_getElem hi'] at ee
  refine bw ee.symm λx m hxe=>?_
  have ek:es[i].key = .ref x.2.1:=by rw[<- hxe]; rfl
  rw[List.getElem?_map,List.getElem?_map,m] at j
  injection j
  rw[ek]
  exact (htu x (mem_of_getElem? m)).keep q
 ·refine aG t λk hk' y=>?_
  (clear t; subst y)
  exact Cf (hks k hk')
theorem lG (K:Keys κ Kd ne) (hkd:∀ {h:Heap}{v:Value}{k:List Int}{bs:List Addr},R h v (g k) bs->Kd h v k) (hu:A.units+200<cLine) (ra:R s.heap va (.list (ks.map g)) as) (ha:∀ b∈as,P b) (hz:sz (.list (ks.map g))=true) (h64:ks.length<64) (hne:ks.length<2\/(ne->[]∉ks)) (hQ:∀ v s',EP P s (.d (.list ((br ks).map g)),fresh ((br ks).map g)) v s'->Q v s') :
  wpAny (model prog w) A (call (.builtin "sorted") [va]) Q Er s:=by
 refine ra.isList_k λa vs n cs LJ ea z LD=>?_
 (clear ra; subst LJ)
 subst LD
 have hl:vs.length=ks.length:=by have:=z.length; rw[length_map] at this; exact Dq this
 have y:∀ (i:Nat) (v:Value) (k:List Int),vs[i]? = some v->ks[i]? = some k->∃ bs,R s.heap v (g k) bs/\∀ b∈bs,b∈cs:=λi v k p t=>z.eachSub i v (g k) p (by rw[List.getElem?_map,t]; rfl)
 have old:∀ b∈cs,∃ o,s.heap.get? b=some o:=λb u=>aY (z.there b u) λuu uu e=>⟨_,e⟩
 refine Calls.call_function_entry kind_sorted plain_sorted entry_sorted (args_sorted1 _) ?_
 unfold Builtin.«sorted»
 refine wpAny_bind (m:=checkCount "sorted" 1 1 _) (wpAny_pure ?_)
 refine wpAny_bind (collect_list (isL ea) ?_ (by rw[sizeLine_eq]; exact zH h64 hl))
 refine wpAny_bind (wpAny_newList ?_ (by rw[sizeLine_eq]; exact zH h64 hl))
 have hsz:((s.heap.push (seqObj "list" #[] 0)).update s.heap.objs.size (Obj.mapSeq (· ++ vs.toArray))).objs.size=s.heap.objs.size+1:=by
  rw[Heap.size_update,size_push']
 have hoL:(((s.heap.push (seqObj "list" #[] 0)).update s.heap.objs.size (Obj.mapSeq (· ++ vs.toArray))).push (seqObj "list" vs.toArray 0)).get? (s.heap.objs.size+1)=some (seqObj "list" vs.toArray 0):=by
  rw[<- hsz]; exact Heap.get?_push_size _ rfl
 have keep:∀ b o,s.heap.get? b=some o->(((s.heap.push (seqObj "list" #[] 0)).update s.heap.objs.size (Obj.mapSeq (· ++ vs.toArray))).push (seqObj "list" vs.toArray 0)).get? b=some o:=λb o q=>by
  have hlt:b<s.heap.objs.size:=lt_size q
  rw[Heap.get?_push_ne _ _ _ (by rw[hsz]; exact ne_of_lt (lt_succ_of_lt hlt)),Heap.get?_update_ne _ _ _ _ (ne_of_lt hlt),Heap.get?_push_ne _ _ _ (ne_of_lt hlt)]
  exact q
 have l:s.heap.get? (s.heap.objs.size+1)=none:=Heap.get?_none_of_le (le_succ _)
 show wpAny _ _ _ _ _ {s with heap:=((s.heap.push (seqObj "list" #[] 0)).update s.heap.objs.size (Obj.mapSeq (· ++ vs.toArray))).push (seqObj "list" vs.toArray 0) }
 rw[hsz]
 refine wpAny_bind (wpAny_holding (wpAny_call_entry slot_list_sort (ag _ hoL rfl) entry_list_sort ?body (args_list_sort _)))
 case body=>
  refine mu K (s0:=s) (s:={s with heap:=((s.heap.push (seqObj "list" #[] 0)).update s.heap.objs.size (Obj.mapSeq (· ++ vs.toArray))).push (seqObj "list" vs.toArray 0) }) (by show A.units+1+1<cLine; exact CS hu) hoL l (.of keep) hl (zc h64 hl) hne (λH kg i v k p t=>?_) λs' out c kp hD hps=>(ag _ rfl (wpAny_pure (ag _ rfl ?_)))
  ·refine ae (y i v k p t) λbs r u=>?_
   refine hkd ((r.keep keep).onG kg λb q e=>?_)
   refine ah (old b (u b q)) λo eo=>?_
   rw[e,l] at eo; exact nN eo
  refine ao (hps) λps p1 p2 p3=>?_
  clear hps
  have q1:(ps.map (·.1)).Perm ks:=by
   have:=p1.map (·.1)
   rwa [List.map_fst_zip (yC hl)] at this
  have q2:ps.map (·.1)=br ks:=gL (r:=λa b=>ltL b a=false) (λa b p t=>e8 t p) (q1.trans (mergeSort_perm ks _).symm) (pairwise_map.mpr p3) (xP ks)
  have hlen:ps.length=ks.length:=by rw[<- q1.length_eq,length_map]
  obtain ⟨cs',rs,hcs⟩:=RA.ofSub (h:=s'.heap) (G:=λb=>b∈cs) (vs:=out.toList) (ds:=(br ks).map g) (by rw[p2,length_map,length_map,<- q2,length_map]) λi v d p t=>by
   rw[<- q2,map_map,List.getElem?_map] at t
   rw[p2,List.getElem?_map] at p
   cases hp:ps[i]? with
   | none=>rw[hp] at p; exact nN p
   | some q=>
    rw[hp] at p t
    injection p; injection t
    refine ah (List.getElem?_of_mem (p1.mem_iff.mp (mem_of_getElem? hp))) λj hj=>?_
    refine ab (List.getElem?_zip_eq_some.mp hj) λj1 j2=>?_
    refine ae (y j _ _ j2 j1) λbs r u=>?_
    exact (ag bs (r.k kp.k) u)
  refine hQ _ _ (EP.aList (vs:=out.toList) (n:=c) (as:=cs') kp l (by simpa [seqObj] using hD) rs ?_ (λx hx=>?_) λb u=>⟨ha b (.tail _ (hcs b u)),λe=>?_⟩)
  ·rw[length_map,<- q2,length_map,hlen]; exact zM h64
  ·refine aG hx λk hk' LB=>?_
   (clear hx; subst LB)
   refine (sz_list.mp hz).2 _ (mem_map.mpr (ag k ?_ rfl))
   exact (mergeSort_perm ks _).mem_iff.mp hk'
  ·refine ah (old b (hcs b u)) λo eo=>?_
   rw[e,l] at eo; exact nN eo
theorem tr (hu:A.units+200<cLine) (ra:R s.heap va (.list xs) as) (ha:∀ b∈as,P b) (hz:sz (.list xs)=true) (hk:eA xs=some ks) (h64:xs.length<64) (hne:ks.length<2\/[]∉ks) (hQ:∀ v s',EP P s (.d (.list ((br ks).map aJ)),fresh ((br ks).map aJ)) v s'->Q v s') :
  wpAny (model prog w) A (call (.builtin "sorted") [va]) Q Er s:=by
 cases l5 hk
 rw[length_map] at h64
 exact lG wB (λr=>KeyOf.ofR r) hu ra ha hz h64 (hne.imp id λh _=>h) hQ
end
section
variable {A:Around}{E:Value->Shared->Prop}
theorem rO (h:IntsAre vs ns):(∀ i∈ns,0<=i)->∀ p∈vs.zip vs,∃ i t,p.1 = .int i t/\0<=i:=by
 induction h with
 | nil=>exact λuu p hp=>nomatch hp
 | cons n t r ih=>
  intro g p hp
  rcases mem_cons.mp (show p∈(Value.int n t,Value.int n t)::_ from hp) with rfl | hp
  ·exact (ay n t rfl (g n (.head _)))
  ·exact ih (λi j=>g i (.tail _ j)) p hp
theorem lF:∀ (vs:List Value),(∀ v∈vs,∃ i t,v = .int i t)->IntsAre vs (vs.map jt)
 | [],_=>.nil
 | v::vs,h=>by
  obtain ⟨i,t,rfl⟩:=h v (.head _)
  exact .cons i t (lF vs λu g=>h u (.tail _ g))
theorem wh {vs:List Value}{p:Value×Value}(h:p∈vs.zip vs):p.1=p.2/\p.2∈vs:=by
 induction vs with
 | nil=>exact nomatch h
 | cons v vs ih=>
  rcases mem_cons.mp (show p∈(v,v)::_ from h) with rfl | h
  ·exact ⟨rfl,.head _⟩
  ·exact ⟨(ih h).1,.tail _ (ih h).2⟩
theorem qK {ps:List (Value×Value)}(hI:IntsAre vs ns) (h0:∀ i∈ns,0<=i) (hp:ps.Perm (vs.zip vs)) (hu:ps.Pairwise λx y=>mt x.1<=mt y.1):IntsAre (ps.map (·.2)) (ns.mergeSort λa b=>decide (a<=b)):=by
 have n:∀ p∈ps,∃ i t,p.1 = .int i t/\0<=i/\p.2 = .int i t:=λp l=>by
  have g:=hp.mem_iff.mp l
  refine aq (rO hI h0 p g) λi t e hi=>?_
  exact ⟨i,t,e,hi,by rw[<- (wh g).1]; exact e⟩
 have hA:=lF (ps.map (·.2)) λv hv=>aG hv λp l e=>by
  obtain ⟨i,t,_,_,o⟩:=n p l
  exact ⟨i,t,e▸o⟩
 have z:((vs.zip vs).map (·.2))=vs:=List.map_snd_zip (le_refl _)
 have pr:((ps.map (·.2)).map jt).Perm ns:=by
  have:=(hp.map (·.2)).map jt
  rw[z,<- IntsAre.read hI] at this
  exact this
 have r:((ps.map (·.2)).map jt).Pairwise (·<=·):=by
  rw[map_map,pairwise_map]
  refine List.Pairwise.imp_of_mem (λ{p q} m k h=>?_) hu
  obtain ⟨i,t,e1,i0,o⟩:=n p m
  obtain ⟨j,u,e3,j0,e4⟩:=n q k
  rw[e1,e3] at h
  show jt p.2<=jt q.2
  rw[o,e4]
  replace h:i.toNat<=j.toNat:=h
  show i<=j
  exact Hs j0 h
 have eq:(ps.map (·.2)).map jt=ns.mergeSort λa b=>decide (a<=b):=by
  exact (pr.trans (mergeSort_perm ns _).symm).eq_of_pairwise (λa b _ _ g h2=>Int.le_antisymm g h2) r (hY ns)
 rw[<- eq]; exact hA
set_option maxHeartbeats 4000000 in
theorem mq (ho:s.heap.get? D=some (seqObj "list" vs.toArray n)) (f2:s0.heap.get? D=none) (k0:Kp s0 s)
  (hI:IntsAre vs ns) (h2:2<=vs.length) (h128:vs.length<128) (h0:∀ i∈ns,0<=i)
  (h:∀ s' c vs',Kp s0 s'->IntsAre vs' (ns.mergeSort λa b=>decide (a<=b))->s'.heap.get? D=some (seqObj "list" vs'.toArray c)->P (.done (.ret .none)) s') :
  wpAny (model prog w) A (Builtin.«list.sort» ⟨[.ref D],[]⟩) P E s:=by
 rw[list_sort_plain]
 have s1:=Heap.SameBut.update s.heap D (Obj.mapSeq λuu=>(#[]:Array Value))
 obtain ⟨e1,q⟩:∃ e1,(s.heap.update D (Obj.mapSeq λuu=>(#[]:Array Value))).get? D=some (seqObj "list" #[] e1):=⟨_,get?_update_seq ho λuu=>#[]⟩
 have k1:=Kp.wr k0 ho f2 s1
 refine wpAny_bind (listItems_at ho rfl ?_)
 refine wpAny_bind (listUpdate_at ho rfl ?_ (by rw[size_toArray,sizeLine_eq]; exact oj h128) (zero_le _))
 refine wpAny_bind (seqEpoch_at q rfl ?_)
 refine wpAny_bind (wpAny_newTuple ?_ (by show vs.length<=_; rw[sizeLine_eq]; exact oj h128))
 refine wpAny_bind (wpAny_newList ?_ (zero_le _))
 refine wpAny_holding ?_
 have k3:Kp s0 {s with heap:=((s.heap.update D (Obj.mapSeq λuu=>(#[]:Array Value))).push (seqObj "tuple" vs.toArray 0)).push (seqObj "list" #[] 0) }:=(k1.trans (.push _ _ s.toks)).trans (.push _ _ s.toks)
 have j:(((s.heap.update D (Obj.mapSeq λuu=>(#[]:Array Value))).push (seqObj "tuple" vs.toArray 0)).push (seqObj "list" #[] 0)).get? D=some (seqObj "list" #[] e1):=Heap.get?_push_of_some _ (Heap.get?_push_of_some _ q)
 generalize ((s.heap.update D (Obj.mapSeq λuu=>(#[]:Array Value))).push (seqObj "tuple" vs.toArray 0)).push (seqObj "list" #[] 0)=H at k3 j
 show wpAny (model prog w) A _ P E {s with heap:=H }
 have r:¬ vs.toArray.size<2:=by rw[size_toArray]; exact Ef h2
 rw[if_neg r,if_neg r]
 have y:keyKind' vs.toArray=pure oneType':=by
  rcases vs with _ | ⟨a,_ | ⟨b,vs⟩⟩
  ·simp at h2
  ·simp at h2
  ·exact keyKind_ints hI
 rw[y]
 refine wpAny_bind (wpAny_pure ?_)
 have l:(vs.toArray.zip vs.toArray).size=vs.length:=by rw[size_zip]; simp
 refine wpAny_bind (wpAny_mono (jE (vI (A:=A) (E:=E) (s:={s with heap:=H })) (st:=SortSt.mk' oneType' (vs.toArray.zip vs.toArray) #[] 7 none)
   (Q:=λuu g=>(arrOf g).Perm (vs.toArray.zip vs.toArray)/\Up (λp=>mt p.1) (arrOf g).toList/\failedOf g=none) ⟨λp hp=>?_,rfl⟩ (by show 2<=(vs.toArray.zip vs.toArray).size; rw[l]; exact Ft h2) (by show (vs.toArray.zip vs.toArray).size<128; rw[l]; exact h128) rfl rfl λg a1 a2 a3=>⟨a1,a2,a3⟩) ?_ λuu uu e=>e)
 ·have o:p∈(vs.toArray.zip vs.toArray).toList:=mem_def.mp hp
  rw[cu] at o
  exact rO hI h0 p o
 ·rintro ⟨⟨⟩,g⟩ s'' ⟨rfl,ha,hu,hf⟩
  dsimp only
  have m:(arrOf g).toList.Perm (vs.zip vs):=by
   have:=perm_iff_toList_perm.mp ha
   rwa [cu] at this
  have u:=qK hI h0 m hu
  have t:((arrOf g).toList.map (·.2)).length=vs.length:=by rw[length_map,m.length_eq,length_zip,Nat.min_self]
  obtain ⟨k,eus,v⟩:∃ k:List Value,(arrOf g).map (·.2)=k.toArray/\k=(arrOf g).toList.map (·.2):=⟨_,by apply Array.toList_inj.mp; rw[Array.toList_map],rfl⟩
  rw[<- v] at u t
  have s2:=Heap.SameBut.update H D (Obj.mapSeq λuu=>k.toArray)
  obtain ⟨c2,z⟩:∃ c2,(H.update D (Obj.mapSeq λuu=>k.toArray)).get? D=some (seqObj "list" k.toArray c2):=⟨_,get?_update_seq j λuu=>k.toArray⟩
  have k4:=Kp.wr (s:={s with heap:=H }) k3 j f2 s2
  refine wpAny_bind (seqEpoch_at (s:={s with heap:=H }) j rfl ?_)
  rw[show (arrOf g).map (λx=>x.2)=k.toArray from eus]
  refine wpAny_bind (listUpdate_at (s:={s with heap:=H }) j rfl ?_ (zero_le _) (by rw[size_toArray,t,sizeLine_eq]; exact x8 h128))
  rw[show failedOf g=none from hf]
  simp only[bne_self_eq_false,false_eq_true,if_false]
  exact wpAny_pure (h _ c2 k k4 u z)
theorem tD (ra:R s.heap va (.list xs) as) (hi:aF xs=some ns) (h64:¬ xs.length<64) (h128:xs.length<128) (h0:∀ i∈ns,0<=i) (hQ:∀ v s',EP P s (.d (aa (ns.mergeSort λa b=>decide (a<=b))),.deep) v s'->Q v s') :
  wpAny (model prog w) A (call (.builtin "sorted") [va]) Q Er s:=by
 refine ra.isList_k λa vs n cs y ea k x=>?_
 (clear ra; subst y)
 subst x
 have r:=k.length
 refine aI (k.ints hi) λhI u t=>?_
 subst u
 subst t
 rw[length_map] at r h64 h128
 refine Calls.call_function_entry kind_sorted plain_sorted entry_sorted (args_sorted1 _) ?_
 unfold Builtin.«sorted»
 refine wpAny_bind (m:=checkCount "sorted" 1 1 _) (wpAny_pure ?_)
 refine wpAny_bind (collect_list (isL ea) ?_ (by rw[sizeLine_eq]; exact sX h128 r))
 refine wpAny_bind (wpAny_newList ?_ (by rw[sizeLine_eq]; exact sX h128 r))
 have g:((s.heap.push (seqObj "list" #[] 0)).update s.heap.objs.size (Obj.mapSeq (· ++ vs.toArray))).objs.size=s.heap.objs.size+1:=by
  rw[Heap.size_update,size_push']
 have p:(((s.heap.push (seqObj "list" #[] 0)).update s.heap.objs.size (Obj.mapSeq (· ++ vs.toArray))).push (seqObj "list" vs.toArray 0)).get? (s.heap.objs.size+1)=some (seqObj "list" vs.toArray 0):=by
  rw[<- g]; exact Heap.get?_push_size _ rfl
 have l:∀ b o,s.heap.get? b=some o->(((s.heap.push (seqObj "list" #[] 0)).update s.heap.objs.size (Obj.mapSeq (· ++ vs.toArray))).push (seqObj "list" vs.toArray 0)).get? b=some o:=λb o q=>by
  have j:b<s.heap.objs.size:=lt_size q
  rw[Heap.get?_push_ne _ _ _ (by rw[g]; exact ne_of_lt (lt_succ_of_lt j)),Heap.get?_update_ne _ _ _ _ (ne_of_lt j),Heap.get?_push_ne _ _ _ (ne_of_lt j)]
  exact q
 show wpAny _ _ _ _ _ {s with heap:=((s.heap.push (seqObj "list" #[] 0)).update s.heap.objs.size (Obj.mapSeq (· ++ vs.toArray))).push (seqObj "list" vs.toArray 0) }
 rw[g]
 refine wpAny_bind (wpAny_holding (wpAny_call_entry slot_list_sort (ag _ p rfl) entry_list_sort ?body (args_list_sort _)))
 case body=>
  refine mq (s0:=s) (s:={s with heap:=((s.heap.push (seqObj "list" #[] 0)).update s.heap.objs.size (Obj.mapSeq (· ++ vs.toArray))).push (seqObj "list" vs.toArray 0) }) p (Heap.get?_none_of_le (le_succ _)) (.of l) hI (C7 h64 r) (zp h128 r) h0 λs' c us kp z hD=>(ag _ rfl (wpAny_pure (ag _ rfl (hQ _ _ ?_))))
  have ep:EP P s (.d (.list ((ns.mergeSort λa b=>decide (a<=b)).map .int)),fresh ((ns.mergeSort λa b=>decide (a<=b)).map .int)) (.ref (s.heap.objs.size+1)) s' :=
   EP.aList (vs:=us) (n:=c) (as:=[]) kp (Heap.get?_none_of_le (le_succ _)) (by simpa [seqObj] using hD) (RA.of_ints z) (by rw[length_map,(mergeSort_perm ns _).length_eq]; exact zq h128) (gv _) λuu h=>(nomatch h)
  have ef:fresh ((ns.mergeSort λa b=>decide (a<=b)).map .int) = .deep:=by
   unfold fresh
   rw[if_pos]
   rw[all_map,all_eq_true]
   intro _ _; rfl
  rw[ef] at ep
  exact ep
end
section
open AutoSeq1 (wpAny_loadPart')
open MeetsSeq MeetsSeq2 MeetsSeq3
theorem tV (h:IntsAre vs ns):∀ {i:Nat}{v:Value},vs[i]? = some v->∃ x t,v = .int x t/\ns[i]? = some x:=by
 induction h with
 | nil=>intro i v q; simp at q
 | cons x t _ ih=>
  intro i v q
  cases i with
  | zero=>simp only[List.getElem?_cons_zero,Option.some.injEq] at q; exact ⟨x,t,q.symm,rfl⟩
  | succ i=>exact ih (by simpa using q)
theorem tW (l b:Addr) (vs us:List Value) (n m:Nat) (ks js:List Int) (ia:IntsAre vs ks) (ib:IntsAre us js) (k:Nat) :
  ∀ i:Nat,vs.length-i=k->i<=vs.length->i<=us.length->Meets (Builtin.«list.__eq__.loop» ⟨[.ref l,.ref b,rawInt i,rawInt 0],[]⟩)
   (λA R s=>s.heap.get? l=some ⟨.type "list", none,.seq vs.toArray n,#[]⟩/\s.heap.get? b=some ⟨.type "list", none,.seq us.toArray m,#[]⟩/\R (.ok (.ret (.bool (ltL (ks.drop i) (js.drop i))))) s):=by
 have l1:=ia.length
 have l2:=ib.length
 induction k with
 | zero=>
  intro i hk h1 h2 prog w A R s h
  obtain ⟨hp,g,d,tk,os⟩:=s; obtain ⟨p,v,h⟩:=h
  wp_walk using wpAny_loadPart' p,wpAny_loadPart' v
  have o:vs.toArray[((i:Nat):Int).toNat]? = none:=by simp; omega
  rw[o]
  wp_walk using wpAny_loadPart' p,wpAny_loadPart' v
  show R (.ok (.ret (.bool (decide (vs.toArray.size<us.toArray.size))))) _
  have e:ltL (ks.drop i) (js.drop i)=decide (vs.toArray.size<us.toArray.size):=by
   rw[size_toArray,size_toArray,List.drop_eq_nil_of_le (as:=ks) (by lia)]
   cases q:js.drop i with
   | nil=>
    have:=congrArg List.length q
    rw[length_drop,List.length_nil] at this
    exact (decide_eq_false (by lia)).symm
   | cons y r=>
    have:=congrArg List.length q
    rw[length_drop,length_cons] at this
    exact (decide_eq_true (by lia)).symm
  rwa [e] at h
 | succ k ih=>
  intro i hk h1 h2 prog w A R s h
  obtain ⟨hp,g,d,tk,os⟩:=s; obtain ⟨p,v,h⟩:=h
  wp_walk using wpAny_loadPart' p,wpAny_loadPart' v
  have z:i<vs.length:=by omega
  have o:vs.toArray[((i:Nat):Int).toNat]? = some vs[i]:=by simp[z]
  refine aq (tV ia (List.getElem?_eq_getElem z)) λx t ex kx=>?_
  have dk:ks.drop i=x::ks.drop (i+1):=by
   refine ah (List.getElem?_eq_some_iff.mp kx) λhi e=>?_
   rw[drop_eq_getElem_cons hi,e]
  rw[o]
  by_cases hlt2:i<us.length
  ·have j:us.toArray[((i:Nat):Int).toNat]? = some us[i]:=by simp[hlt2]
   refine aq (tV ib (List.getElem?_eq_getElem hlt2)) λy u ey jy=>?_
   have dj:js.drop i=y::js.drop (i+1):=by
    refine ah (List.getElem?_eq_some_iff.mp jy) λhi e=>?_
    rw[drop_eq_getElem_cons hi,e]
   have hc:((i:Int)+1)=((i+1:Nat):Int):=by push_cast; rfl
   rw[j,ex,ey]
   rw[dk,dj] at h
   refine wpAny_bind (wpAny_eqBool_int ?_)
   by_cases e:x=y
   ·subst e
    rw[show (x==x)=true from beq_self_eq_true x]
    wp_walk
    rw[hc]
    exact ⟨plainId_quiet plain_eq_loop _,codeAny_builtin entry_eq_loop (by
     rw[Around.under_plainId plain_eq_loop _]
     exact ih (i+1) (by omega) (by omega) (by omega) prog w A R _ ⟨p,v,by simpa [ltL] using h⟩)⟩
   ·rw[show (x==y)=false from beq_eq_false_iff_ne.mpr e]
    wp_walk using wpAny_loadPart' p,wpAny_loadPart' v
    rw[o,j,ex,ey]
    have e2:ltL (x::ks.drop (i+1)) (y::js.drop (i+1))=decide (x<y):=by unfold ltL; rw[if_neg e]
    rw[e2] at h
    exact wpAny_bind (wpAny_lt_int (wpAny_pure h))
  ·have j:us.toArray[((i:Nat):Int).toNat]? = none:=by simp; omega
   rw[j]
   wp_walk using wpAny_loadPart' p,wpAny_loadPart' v
   show R (.ok (.ret (.bool (decide (vs.toArray.size<us.toArray.size))))) _
   have e:ltL (ks.drop i) (js.drop i)=decide (vs.toArray.size<us.toArray.size):=by
    rw[size_toArray,size_toArray,dk,List.drop_eq_nil_of_le (as:=js) (by lia)]
    exact (decide_eq_false (by lia)).symm
   rwa [e] at h
theorem t7 (l b:Addr) (vs us:List Value) (n m:Nat) (ks js:List Int) (ia:IntsAre vs ks) (ib:IntsAre us js) :
  Meets (Builtin.«list.__lt__» ⟨[.ref l,.ref b],[]⟩)
   (λA R s=>s.heap.get? l=some ⟨.type "list", none,.seq vs.toArray n,#[]⟩/\s.heap.get? b=some ⟨.type "list", none,.seq us.toArray m,#[]⟩/\R (.ok (.ret (.bool (ltL ks js)))) s):=by
 intro prog w A R s h
 obtain ⟨p,g,d,k,o⟩:=s; obtain ⟨i,j,h⟩:=h
 have q:=AutoSeq1.sub_list_list
 wp_walk using wpAny_loadPart' i,wpAny_loadPart' j
 exact ⟨plainId_quiet plain_eq_loop _,codeAny_builtin entry_eq_loop (by
  rw[Around.under_plainId plain_eq_loop _]
  exact tW l b vs us n m ks js ia ib _ 0 rfl (zero_le _) (zero_le _) prog w A R _ ⟨i,j,by simpa using h⟩)⟩
end
noncomputable def RowOf (h:Heap) (v:Value) (k:List Int):Prop:=∃ a vs n,v = .ref a/\h.get? a=some ⟨.type "list", none,.seq vs.toArray n,#[]⟩/\IntsAre vs k
theorem RowOf.fn (a:RowOf h v k) (b:RowOf h v k'):k=k':=by
 refine aX (a) λx m n j e i=>?_
 clear a
 subst j
 refine aX (b) λuu g p q l o=>?_
 clear b
 cases q
 rw[e] at l
 have:m=g:=by cases l; rfl
 subst this
 exact IntsAre.fn i o
section
variable {A:Around}{E:Value->Shared->Prop}{s:Shared}
theorem t9 (hu:A.units<cLine) (hx:RowOf s.heap x k) (hy:RowOf s.heap y k') (h:Q (ltL k k') s):wpAny (model prog w) A (oneLt' true x y) Q E s:=by
 refine aX (hx) λa l n i j q=>?_
 clear hx
 subst i
 refine aX (hy) λb o m g r p=>?_
 clear hy
 subst g
 rw[oneLt'_eq]
 simp only[if_true]
 refine wpAny_bind (wpAny_cRoomFor hu ?_)
 refine wpAny_bind (wpAny_callSpecialIfBound?_slot ⟨_,j,rfl⟩ F.slot_list_lt (call_meets F.slot_list_lt ⟨_,j,rfl⟩ F.entry_list_lt (F.args_list_lt_2 _ _) (t7 a b l o n m k k' q p) ⟨j,r,?_⟩))
 exact wpAny_truthy_bool h
theorem ko:∀ {vs:List Value},(∀ v∈vs,∃ k,RowOf s.heap v k)->Q (vs.map λuu=>none) s->wpAny (model prog w) A (vs.mapM firstOfTuple') Q E s
 | [],_,h=>by rw[mapM_nil]; exact wpAny_pure h
 | v::vs,hk,h=>by
  refine ol (hk v (.head _)) λk a l n g j m=>?_
  subst g
  rw[mapM_cons]
  refine wpAny_bind ?_
  rw[pY]
  refine wpAny_bind (wpAny_typeOf (T:="list") ⟨_,j,rfl⟩ ?_)
  rw[if_pos (by decide)]
  exact wpAny_pure (wpAny_bind (ko (vs:=vs) (λv i=>hk v (.tail _ i)) (wpAny_pure h)))
theorem lz:∀ {vs:List Value},(∀ v∈vs,∃ k,RowOf s.heap v k)->Q (vs.map λuu=>.type "list") s->wpAny (model prog w) A (vs.mapM typeOf) Q E s
 | [],_,h=>by rw[mapM_nil]; exact wpAny_pure h
 | v::vs,hk,h=>by
  refine ol (hk v (.head _)) λk a j n g i l=>?_
  subst g
  rw[mapM_cons]
  exact wpAny_bind (wpAny_typeOf (T:="list") ⟨_,i,rfl⟩ (wpAny_bind (lz (vs:=vs) (λf h=>hk f (.tail _ h)) (wpAny_pure h))))
theorem vS {vs:List Value}{Q:SortKind->Shared->Prop}(h1:1<=vs.length) (hk:∀ v∈vs,∃ k,RowOf s.heap v k) (h:Q oneType' s):wpAny (model prog w) A (keyKind' vs.toArray) Q E s:=by
 rw[keyKind'_eq,List.mapM_toArray,map_eq_pure_bind]
 refine wpAny_bind (wpAny_bind (ko hk (wpAny_pure ?_)))
 obtain ⟨g,j,rfl⟩:∃ g j,vs=g::j:=by
  cases vs with
  | nil=>simp at h1
  | cons g j=>exact ⟨g,j,rfl⟩
 rw[if_neg (by simp),if_neg (by simp)]
 rw[oneTypeOnly'_eq,List.mapM_toArray,map_eq_pure_bind]
 refine wpAny_bind (wpAny_bind (wpAny_bind (lz hk (wpAny_pure ?_))))
 have i:((List.map (λuu=>Value.type "list") (g::j)).toArray.all λx=>x==Value.type "list")=true:=by
  simp only[List.all_toArray,all_map,all_eq_true]
  intro _ _
  rfl
 have l:(List.map (λuu=>Value.type "list") (g::j)).toArray[0]? = some (Value.type "list"):=by simp
 rw[l]
 simp only[i,if_true]
 exact wpAny_pure (wpAny_pure h)
theorem wu:Keys oneType' RowOf False where
 fn:=RowOf.fn
 kind hl h1 _ hk h:=vS h1 (λv k=>by
  refine ah (List.getElem?_of_mem k) λi j=>?_
  have g:=(List.getElem?_eq_some_iff.mp j).1
  rw[hl] at g
  exact ⟨_,hk i v _ j (List.getElem?_eq_getElem g)⟩) h
 lt hu hx hy h:=t9 hu hx hy h
end
section
theorem lX:∀ {xs:List PyData}{ks:List (List Int)},iZ xs=some ks->xs=ks.map aa
 | [],ks,h=>by injection h; rfl
 | x::xs,ks,h=>by
  cases x with
  | list ys=>
   simp only[iZ] at h
   refine bj h λk hk h=>?_
   refine bw h λj l g=>?_
   subst g
   rw[map_cons,<- lX l]
   have:=kR (x:=.tuple ys) (k:=k) hk
   unfold aJ at this
   injection this with e
   rw[e]; rfl
  | _=>exact nN h
theorem RowOf.ofR (r:R h v (aa k) bs):RowOf h v k:=by
 refine R.isList_k r λa i n m g l j _=>?_
 subst g
 exact ⟨a,i,n,rfl,l,(j.ints (Al k)).1⟩
theorem sL (hu:A.units+200<cLine) (ra:R s.heap va (.list xs) as) (ha:∀ b∈as,P b) (hz:sz (.list xs)=true) (hk:iZ xs=some ks) (h64:xs.length<64) (hQ:∀ v s',EP P s (.d (.list ((br ks).map aa)),fresh ((br ks).map aa)) v s'->Q v s') :
  wpAny (model prog w) A (call (.builtin "sorted") [va]) Q Er s:=by
 cases lX hk
 rw[length_map] at h64
 exact lG wu (λr=>RowOf.ofR r) hu ra ha hz h64 (.inr λq=>q.elim) hQ
end
section
variable (fns:Fns) (k:Nat) (C:Calls) (XP:String->Shared->Value->Shared->Prop)
noncomputable def dI:Prop:=∀ f g,C f=some g->1<=k/\(f = "law" -> fns.lam=true)/\(f∉bV->∃ a,adr fns f=some a/\∀ {A:Around}{P:Addr->Prop}{s:Shared}{Q:Value->Shared->Prop}{Er:Value->Shared->Prop}{xs:List V}{vals:List Value}{as:List Addr},
 Room fns.hand k A->GE fns s.heap->RVs s.heap xs vals as->(∀ a∈as,P a)->g xs≠.bad->(∀ r,g xs = .ok r->∀ v s',EP P s r v s'->Q v s')->(∀ c,g xs = .exc c->∀ x s',XP c s x s'->Er x s') ->
 wpAny (model prog w) A (call (.ref a) vals []) Q Er s)
end
section
theorem nk (hs:lB a=true) (ok:okE ns a v=true):attributeBase v n env (eval v env)=eval v env:=by
 cases a with
 | name x=>
  refine Or.elim (vO ok) (λi=>?_) (λq=>?_)
  ·refine aq (i) λt r k p=>?_
   clear i
   (clear ok; subst k)
   rfl
  ·cases q
 | call f es=>
  refine Or.elim (tU ok) (λg=>?_) (λq=>?_)
  ·refine dM (g) λo m u l j h=>?_
   clear g
   (clear ok; subst j)
   simp only[and_eq_true,Bool.not_eq_true'] at h
   cases u with
   | nil=>have:=h.1.1.2; exact nT this
   | cons x u=>rfl
  ·cases q
 | _=>exact nF hs
theorem m0 (r:RV h v (.rule c d n) as):∃ x D vf bs t u mA,v = .ref x/\as=x::D::bs/\h.Inst x SF.rule mA/\mA "count" = some (.int c t)/\mA "full" = some vf/\mA "size" = some (.int n u)/\(∀ m∈methNames,mA (Str.ofString m)=none)/\R h vf d bs/\sz d=true:=by
 refine ja (r) λx D o vf bs t u mA h1 h2 h3 h4 h5 z y q p l k j i g=>?_
 clear r
 exact ⟨x,D,vf,bs,t,u,mA,h1,h2,(bD o h3 h4 h5 (.inr (aL D z y q))),p,l,k,j,i,g⟩
theorem lI:typeLookup (.type "object") "count" = pure none:=by rw[typeLookup_type,builtinLookup_eq_fast]; kernel_rfl
theorem nU:typeLookup (.type "object") "full" = pure none:=by rw[typeLookup_type,builtinLookup_eq_fast]; kernel_rfl
theorem nW:typeLookup (.type "object") "size" = pure none:=by rw[typeLookup_type,builtinLookup_eq_fast]; kernel_rfl
theorem ur (hm:m∈methNames):typeLookup (.type "object") (Str.ofString m)=pure none:=by
 simp only[methNames,mem_cons,not_mem_nil,or_false] at hm
 rcases hm with rfl | rfl | rfl | rfl | rfl<;>(rw[typeLookup_type,builtinLookup_eq_fast]; kernel_rfl)
theorem uE (ge:GE fns s.heap) (hi:fns.init.isSome=true) (he:j5 x n = .ok r) (ra:RV s.heap va x as) (ha:∀ a∈as,P a)
  (hQ:∀ v s',EP P s r v s'->Q v s'):wpAny (model prog w) A (getAttr va (Str.ofString n) expr) Q Er s:=by
 replace he:=aQ he
 revert he; intro j
 refine ae (j) λz hq he=>?_
 clear j
 obtain ⟨c,d,sz'⟩:=z
 cases lL hq
 dsimp only at he ra
 refine um (m0 ra) λy D vf bs t u mA p o I f1 f2 f3 f4 rd zd=>?_
 subst p
 subst o
 refine aA (ge.cls (.inr hi)) λN mN m i _=>?_
 obtain ⟨k,hn⟩:=m
 refine eO (k) λnm q bs' sn sub col dd k0 k1 k2 k3 k5 hC=>?_
 clear k
 obtain ⟨hh,g,dr,tk,os⟩:=s
 have ga:=i "__getattribute__" (by simp)
 by_cases e1:n = "count"
 ·subst e1
  rw[if_pos rfl] at he; injection he
  exact load_attr hC hn ga (i "count" (by simp)) lI I f1 rfl (hQ _ _ (.int (.toks _ _)))
 rw[if_neg e1] at he
 by_cases e2:n = "full"
 ·(clear e1; subst e2)
  rw[if_pos rfl] at he; injection he
  have hf:handedOut vf=pure vf:=by cases rd<;>rfl
  refine load_attr hC hn ga (i "full" (by simp)) nU I f2 hf (hQ _ _ ?_)
  exact .after (.toks ⟨hh,g,dr,tk,os⟩ _) (sQ (s:=⟨hh,g,dr,tk+1,os⟩) (x:=.d d) ⟨rd,zd⟩ λa h=>ha a (.tail _ (.tail _ h)))
 rw[if_neg e2] at he
 by_cases e3:n = "size"
 ·(clear e1 e2; subst e3)
  rw[if_pos rfl] at he; injection he
  exact load_attr hC hn ga (i "size" (by simp)) nW I f3 rfl (hQ _ _ (.int (.toks _ _)))
 rw[if_neg e3] at he
 exact nB he
theorem wF (hC:dI fns k C XP) (Sa:SimE fns k C XP a):SimE fns k C XP (.attr a n):=by
 intro ex A env σ P s Q Er ok X o p t
 replace ok:=CF ok
 revert ok; refine λi=>Or.elim i (λj=>?_) (λok=>?_)
 ·clear i
  refine bl (j) λy u l hn hs oa=>?_
  clear j
  subst l
  simp only[dU] at o p t
  cases hR:C "Rule" with
  | none=>rw[hR] at o; exact absurd rfl o
  | some g=>
  have hi:fns.init.isSome=true:=by
   refine ae ((hC "Rule" g hR).2.2 (by decide)) λfa m _=>?_
   unfold adr at m
   rw[if_pos rfl] at m
   refine bw m λuu q _=>?_
   rw[q]; rfl
  rw[hR] at o p t
  simp only[am] at o p t
  refine aM o λn1 n2=>?_
  rw[arm_eval_Attribute,nk hs oa]
  refine wpAny_bind (Sa oa X n1 (λx hx va z Ea=>?_) λc hc=>t c (by rw[hc]; rfl))
  obtain ⟨ka,as,ra,ha,_⟩:=Ea
  have:∃ r,j5 x.1 n = .ok r:=by
   cases h:j5 x.1 n with
   | ok r=>exact ⟨r,rfl⟩
   | exc c=>exact absurd h (oZ c)
   | bad=>exact absurd h (n2 x hx)
  refine ah (this) λr hr=>?_
  clear this
  refine wpAny_bind (wpAny_standAt (wpAny_bind (wpAny_holding (uE (P:=λa=>P a\/s.heap.get? a=none) (X.ge.k ka.k) hi hr ra ha λv s' E=>?_))))
  exact wpAny_bind (wpAny_letTemporaryGo (wpAny_pure (p r (by rw[hx]; exact hr) v s' (E.shift ka))))
 ·cases ok
theorem kN:∀ {es:Es}{xs:List Expr},c8 ns es xs=true->∀ pos:Pos,(backTo pos (starEach xs env)).any (·.1)=false/\(backTo pos (starEach xs env)).all (λx=>!x.1)=true
 | .nil,xs,h,pos=>by
  refine Or.elim (sV h) (λi=>?_) (λq=>?_)
  ·refine ab (i) λk l=>?_
   clear i
   (clear h; subst k)
   exact ⟨rfl,rfl⟩
  ·cases q
 | .cons e es,xs,h,pos=>by
  refine Or.elim (o9 h) (λg=>?_) (λq=>?_)
  ·refine aq (g) λx m j h=>?_
   clear g
   subst j
   refine eY h λo n=>?_
   refine ab (kN (env:=env) n pos) λa b=>?_
   rw[aT o]
   constructor
   ·show (false||(backTo pos (starEach m env)).any (·.1))=false
    rw[a]; rfl
   ·show (!false&&(backTo pos (starEach m env)).all (λx=>!x.1))=true
    rw[b]; rfl
  ·cases q
theorem nX {A:Around}{env:Env}{pos:Pos}{e:Expr}{rest:List Expr}{Q:Value->Shared->Prop}{E:Value->Shared->Prop}{s:Shared}{Cl N:Addr}{mN:Str->Option Value}(he:starEach (e::rest) env=(false,eval e env)::starEach rest env) (hp:(backTo pos (starEach rest env)).any (·.1)=false)
  (h:wpAny (model prog w) A (spliced (backTo pos (starEach (e::rest) env))) (λvs s₁=>ClsAt s₁.heap Cl N mN/\wpAny (model prog w) A (call (.ref Cl) vs) Q E s₁) E s) :
  wpAny (model prog w) A (callWith pos (.ref Cl) [] (backTo pos (starEach (e::rest) env)) []) Q E s:=by
 rw[he] at h ⊢
 have m:((backTo pos ((false,eval e env)::starEach rest env)).any (λx=>x.fst)||([]:List (Option Str×Sem Value)).any λx=>x.fst.isNone)=false:=by
  show ((false||(backTo pos (starEach rest env)).any (·.1))||false)=false
  rw[hp]; rfl
 unfold callWith
 refine wpAny_bind (wpAny_holding (Calls.evalArgs_plain (wpAny_mono h (λvs s₁ i=>?_) λuu uu x=>x)))
 obtain ⟨v,g,d,t,p⟩:=s₁
 revert i; intro j
 refine ab (j) λl i=>?_
 clear j
 obtain ⟨k,_⟩:=l
 refine eO (k) λnm q bs z o y dd k0 k1 k2 k3 k5 n=>?_
 clear k
 have f1:=tc_lookup
 have hT:(⟨v,g,d,t,p⟩:Shared).TypeIs (.ref Cl) "type" := (ag _ n rfl)
 refine wpAny_bind (wpAny_standAt ?_)
 show wpAny _ _ (keeperOf (.ref Cl)>>=_) _ _ _
 unfold keeperOf specialOf
 repeat (any_goals (first | assumption | with_reducible refine wpAny_loadPart_at n ?_ | with_reducible refine wpAny_load' n ?_ | wp_step))
 rw[if_pos (by rfl),m]
 show wpAny _ _ (call (.ref Cl) vs []>>=λr=>do holding [r] point; pure r) _ _ _
 exact wpAny_bind (wpAny_mono i (λr s' u=>wpAny_bind (wpAny_holding (wpAny_point (wpAny_pure u)))) λuu uu x=>x)
theorem wn (hf:fns.hand=false) (hC:dI fns k C XP) (hXP:∀ c s s₁ x s',Kp s s₁->XP c s₁ x s'->XP c s x s') {a:E}{m:String}{es:Es}(Sa:SimE fns k C XP a) (Ss:eH fns k C XP es):SimE fns k C XP (.meth a m es):=by
 intro ex A env σ P s Q Er ok X nb hQ hE
 replace ok:=BF ok
 revert ok; refine λMw=>Or.elim Mw (λME=>?_) (λok=>?_)
 ·clear Mw
  refine uS (ME) λv p xs pos M6 hl hm hne hlt hs oa oes=>?_
  clear ME
  subst M6
  simp only[cN] at nb hQ hE
  refine aM nb λn1 n2=>?_
  rw[arm_eval_Call,nk hs oa]
  refine wpAny_bind (Sa oa X n1 (λx hx va s₁ Ea=>?_) λc hc=>hE c (by rw[hc]; rfl))
  replace n2:=n2 x hx
  rw[hx] at hQ hE
  simp only[Out.ok_bind] at hQ hE
  obtain ⟨ka,as,ra,ha,_⟩:=Ea
  refine wpAny_bind (wpAny_standAt ?_)
  have Xa:=X.k ka.k
  by_cases hq:∃ q g,et x.1=some q/\C m=some g
  ·revert hq; intro MQ
   refine aq (MQ) λLD g hq hg=>?_
   clear MQ
   obtain ⟨c,d,n⟩:=LD
   have hx1:=lL hq
   rw[hx1] at ra
   rw[hq,hg] at n2 hQ hE
   simp only[am] at n2 hQ hE
   refine aM n2 λn3 n4=>?_
   obtain ⟨fa,hfa,hcall⟩:=(hC m g hg).2.2 (by
    simp only[methNames,mem_cons,not_mem_nil,or_false] at hm
    rcases hm with rfl | rfl | rfl | rfl | rfl<;>decide)
   have hmR:m ≠ "Rule" := by
    rintro rfl
    simp[methNames] at hm
   rw[rK hmR hm] at hfa
   refine bw hfa λpm hpm LB=>?_
   subst LB
   refine um (m0 ra) λy D vf bs t u mA LF LI I f1 f2 f3 f4 rd zd=>?_
   subst LF
   (clear deep top; subst LI)
   refine bl (Xa.ge.cls (.inl (bG m pm hpm))) λN mN LK j _ hmth=>?_
   obtain ⟨LL,hn⟩:=LK
   refine eO (LL) λnm q bs' sn sub col dd k0 k1 k2 k3 k5 hCl=>?_
   clear LL
   refine ca (hmth m pm hpm) λof g1 g2 g3 g4=>?_
   have hform:methodCallForm (xs.length+([]:List Keyword).length) (backTo pos (starEach xs env)) (backToKw pos (keywordEach [] env))=true:=by
    unfold methodCallForm
    rw[(kN (env:=env) oes pos).2]
    show (true&&true&&decide (xs.length+0+0<30))=true
    simp; exact Fe hlt
   have hpos:methodCallPos true v env p pos=pure pos:=by unfold methodCallPos; simp[hl]
   unfold methodCall
   rw[hform]
   obtain ⟨hh,gg,dr,tk,os⟩:=s₁
   refine wpAny_bind (wpAny_holding (method_of hCl hn (j "__getattribute__" (by simp)) (j "__getattr__" (by simp)) g1 g3 g4 (ur hm) I (f4 m hm) ?_))
   refine wpAny_bind (wpAny_of_eq hpos ?_)
   refine aA (g2) λo fd ho hfd _=>?_
   clear g2
   refine Calls.callWith_function (o:=o) (fd:=fd) ?_
   cases xs with
   | nil=>simp at hne
   | cons y' ys=>
    cases es with
    | nil=>exact Bool.noConfusion (show false=true from oes)
    | cons e es=>
     have oy:okE env.scope.names e y' = true:=(and_eq_true_iff.mp (show (okE env.scope.names e y'&&c8 env.scope.names es ys)=true from oes)).1
     have hS:=Ss (pos:=pos) (A:=A) (P:=P) (s:=⟨hh,gg,dr,tk,os⟩) (Er:=Er) (Q:=λvs i=>(i.heap.get? pm.1=some o/\o.data = .func fd)/\wpAny (model prog w) A (call (.ref pm.1) ([.ref y]++vs) []) Q Er i) oes Xa n3 (λl hl vs i Es=>?_) λc hc z s' hz=>hE c (by rw[hc]; rfl) z s' (hXP c s _ z s' ka hz)
     ·rw[aT oy] at hS ⊢
      exact Calls.evalArgs_plain hS
     ·obtain ⟨ks,bsb,rs,hb,_⟩:=Es
      refine ⟨⟨ks.k.exact ho (λuu q=>by rw[hfd] at q; cases q) λuu uu q=>(by rw[hfd] at q; cases q),hfd⟩,?_⟩
      have hnb':=n4 l hl
      rw[hl] at hQ hE
      simp only[Out.ok_bind] at hQ hE
      rw[hx1] at hQ hE hnb'
      have kall:=ka.trans ks
      refine hcall (P:=λa=>P a\/s.heap.get? a=none) X.room (X.ge.k kall.k) (.cons (ra.k ks.k) rs) (λb h=>?_) hnb' (λr hr v s' E=>hQ r hr v s' (E.shift kall)) λc hc z s' hz=>hE c hc z s' (hXP c s _ z s' kall hz)
      rcases mem_append.mp h with h | h
      ·exact ha b h
      ·exact (hb b h).imp id ka.none
  ·exfalso
   cases h1:et x.1 with
   | none=>rw[h1] at n2; exact n2 rfl
   | some q=>
    cases h2:C m with
    | none=>rw[h1,h2] at n2; exact n2 rfl
    | some g=>exact hq (ay q g h1 h2)
 ·cases ok
end
section
theorem AL:b1V f x≠.exc c:=vt c
theorem b1_list' (h:(am (asD v) λx=>am (asL x) f) = .ok r):∃ xs,v = .d (.list xs)/\f xs = .ok r:=by
 refine dE h λx i h=>?_
 refine dE h λxs g h=>?_
 exact (ag xs (by rw[cR i,cI g]) h)
set_option tactic.hygienic true in
theorem zZ (hh:A.handled=none) (hu:A.units+200<cLine) (he:b1V f x = .ok r) (ra:RV s.heap va x as) (ha:∀ a∈as,P a)
  (hQ:∀ v s',EP P s r v s'->Q v s'):wpAny (model prog w) A (call (bval (b1n f)) [va]) Q Er s:=by
 unfold b1V at he
 cases hd:r7 x with
 | some ks=>
  rw[hd] at he
  cases xM hd
  simp only[od] at he
  split at he
  ·rename_i hk
   revert hk; intro u
   refine ab (u) λLC hk=>?_
   clear u
   subst LC
   injection he
   exact uo hh ra hk hQ
  ·exact nB he
 | none=>
 rw[hd] at he
 dsimp only at he
 cases f with
 | len=>exact xp he ra hQ
 | list=>
  replace he:=aQ he
  revert he; intro t
  refine ae (t) λy hy he=>?_
  clear t
  cases cR hy
  cases ht:asT y with
  | none=>
   simp only[ht] at he
   replace he:=aQ he
   revert he; intro q
   refine ae (q) λm hx he=>?_
   clear q
   cases cI hx
   injection he
   refine ra.1.isList_k λa vs n cs Ly ea l LG=>?_
   subst Ly
   subst LG
   have z:=sz_list.mp ra.2
   exact mJ (.inl rfl) ea l z.1 z.2 (λb hb=>ha b (.tail _ hb)) hQ
  | some m=>
   simp only[ht] at he
   injection he
   cases mf ht
   refine aX (ra.1.isTup) λa vs n Lz ea l=>?_
   subst Lz
   have z:=sz_tuple.mp ra.2
   exact mJ (.inr rfl) ea l z.1 z.2 ha hQ
 | tuple=>
  replace he:=b1_list' he
  revert he; intro p
  refine ae (p) λm LA he=>?_
  clear p
  (clear hd; subst LA)
  injection he
  exact xk ra.1 ra.2 ha hQ
 | sorted=>
  replace he:=b1_list' he
  revert he; intro o
  refine ae (o) λm LH he=>?_
  clear o
  (clear hd; subst LH)
  unfold dY at he
  split at he
  ·rename_i h
   split at he
   ·rename_i ns hn
    injection he
    exact tP ra.1 hn h hQ
   ·unfold fX at he
    cases ht:eA m with
    | some ks=>
     rw[ht] at he
     dsimp only at he
     split at he
     ·rename_i hc
      injection he
      exact tr hu ra.1 ha ra.2 ht h hc hQ
     ·exact nB he
    | none=>
     rw[ht] at he
     dsimp only at he
     refine dE he λks hk he=>?_
     injection he
     exact sL hu ra.1 ha ra.2 hk h hQ
  ·rename_i h
   split at he
   ·rename_i h128
    refine dE he λns hn he=>?_
    split at he
    ·rename_i hc
     injection he
     exact tD ra.1 hn h h128 hc hQ
    ·exact nB he
   ·exact nB he
 | max=>
  replace he:=b1_list' he
  revert he; intro k
  refine ae (k) λm LJ he=>?_
  clear k
  (clear hd; subst LJ)
  replace he:=aQ he
  revert he; intro j
  refine ae (j) λi hi he=>?_
  clear j
  refine bj hi λns hi1 hi2=>?_
  injection he
  exact xb hh ra.1 hi1 hi2 hQ
theorem BU (f:B1):b1n f∈bnames:=by cases f<;>decide
theorem Dg (f:B1):(Str.ofString (b1n f)==("__debug__" : Str))=false:=by cases f<;>decide
theorem l8 (hf:fns.hand=false) (Sa:SimE fns k C XP a):SimE fns k C XP (.bi1 f a):=by
 intro ex A env σ P s Q Er ok X nb hQ hE
 replace ok:=zE ok
 revert ok; refine λi=>Or.elim i (λj=>?_) (λok=>?_)
 ·clear i
  refine dM (j) λz y x u l ok=>?_
  clear j
  subst l
  simp only[and_eq_true,beq_iff_eq] at ok
  refine ab (ok) λo t=>?_
  clear ok
  refine ab (o) λp hg=>?_
  clear o
  subst p
  simp only[ec] at nb hQ hE
  refine aM nb λn1 n2=>?_
  have m:∀ {B:Value},B=bval (b1n f)->∀ {n:Pos},wpAny (model prog w) A (spliced (backTo n (starEach [_] env))) (λvs g=>wpAny (model prog w) A (call B vs) Q Er g) Er s:=λ{B} hB {n}=>by
   subst hB
   refine jq _ t (Sa t X n1 (λr hr v g Ea=>?_) λc hc=>hE c (by rw[hc]; rfl))
   have n3:=n2 r hr
   cases h:b1V f r.1 with
   | bad=>exact absurd h n3
   | exc c=>exact absurd h AL
   | ok q=>
    obtain ⟨ka,as,ra,ha,_⟩:=Ea
    exact zZ (P:=λa=>P a\/s.heap.get? a=none) (X.room.1 hf) X.room.units h ra ha λv s' E=>hQ q (by rw[hr]; exact h) v s' (E.shift ka)
  refine gd X.eok X.ge (BU f) hg (Dg f) ?_
  cases f with
  | list=>exact gw (T:="list") _ t rfl (m rfl)
  | tuple=>exact gw (T:="tuple") _ t rfl (m rfl)
  | _=>exact pq _ t rfl (m rfl)
 ·cases ok
theorem wv:hV x t≠.exc c:=rp c
theorem xB (h:mz t k=some b):t∈bnames/\bval t = .type t :=
 oN h (λe uu=>e▸⟨by decide,rfl⟩) (λe uu=>e▸⟨by decide,rfl⟩) (λe uu=>e▸⟨by decide,rfl⟩) (λe uu=>e▸⟨by decide,rfl⟩) λe uu=>e▸⟨by decide,rfl⟩
theorem uq {id:Str}{p:Pos}(xs:List Expr) (env:Env):starEach (.Name id p::xs) env=(false,eval (.Name id p) env)::starEach xs env:=rfl
theorem Ar (Sa:SimE fns k C XP a):SimE fns k C XP (.isi a t):=by
 intro ex A r σ P s Q Er ok X nb hQ hE
 replace ok:=Dw ok
 revert ok; refine λg=>Or.elim g (λi=>?_) (λok=>?_)
 ·clear g
  refine sA (i) λNc Na z y v u o ok=>?_
  clear i
  subst o
  simp only[and_eq_true,beq_iff_eq] at ok
  refine ab (ok) λn hdt=>?_
  clear ok
  refine ab (n) λm hgt=>?_
  clear n
  refine ab (m) λl q=>?_
  clear m
  refine ab (l) λj oa=>?_
  clear l
  refine ab (j) λp hg=>?_
  clear j
  subst p
  subst q
  simp only[eT] at nb hQ hE
  refine aM nb λn1 n2=>?_
  refine gd X.eok X.ge (id:="isinstance") (by decide) hg (by decide) (pq (id:="isinstance") _ oa rfl (wpAny_items_cons ?_ (aT oa _ r)))
  refine Sa oa X n1 (λx hx va s₁ Ea=>?_) λc hc=>hE c (by rw[hc]; rfl)
  cases h:hV x.1 t with
  | bad=>exact absurd h (bk (n2 x hx)).1
  | exc c=>exact absurd h wv
  | ok b=>
   refine ae (xt h) λxd hxd hi=>?_
   refine ab (xB hi) λhm hb=>?_
   have ge:=X.ge.k Ea.keeps.k
   refine ao (ge.glob) λmg g1 _ g3=>?_
   refine ae (ge.blt) λmb b1 b2=>?_
   refine wpAny_items_cons ?_ (uq [] r)
   refine Calls.Name_function_global X.eok.kind (iO hgt) (Calls.loadGlobal_builtin (X.eok.glob▸g1) (g3 t hm) (X.eok.blt▸b1) (b2 t hm) ?_) (nd hdt)
   refine wpAny_items_nil ?_
   obtain ⟨ka,as,ra,ha,_⟩:=Ea
   rw[hxd] at ra
   rw[hb]
   exact xl hi ra.1 λs' kp=>hQ (sB b) (by rw[hx,Out.ok_bind,h]; rfl) _ _ (.bool (ka.trans kp))
 ·cases ok
set_option tactic.hygienic true in
theorem xi (hf:fns.hand=false) (hC:dI fns k C XP) (hXP:∀ c s s₁ x s',Kp s s₁->XP c s₁ x s'->XP c s x s') {f:String}{es:Es}(Ss:eH fns k C XP es):SimE fns k C XP (.call f es):=by
 intro ex A env σ P s Q Er ok X nb hQ hE
 replace ok:=tU ok
 revert ok; refine λn=>Or.elim n (λt=>?_) (λok=>?_)
 ·clear n
  refine dM (t) λNb p xs pos MV ok=>?_
  clear t
  subst MV
  simp only[and_eq_true,beq_iff_eq,Bool.not_eq_true',decide_eq_false_iff_not] at ok
  refine ab (ok) λL7 m=>?_
  clear ok
  refine ab (L7) λL8 hl=>?_
  clear L7
  refine ab (L8) λL1 hne=>?_
  clear L8
  refine ab (L1) λMg hx=>?_
  clear L1
  refine ab (Mg) λMP hm=>?_
  clear Mg
  refine ab (MP) λu hd=>?_
  clear MP
  refine ab (u) λMl hg=>?_
  clear u
  subst Ml
  simp only[dW] at nb hQ hE
  split at nb
  ·rename_i g hCf
   rw[hCf] at hQ hE
   dsimp only at hQ hE
   refine aM nb λn1 n2=>?_
   refine ae ((hC f g hCf).2.2 hx) λfa h i=>?_
   refine ao (X.ge.glob) λmg g1 g2 _=>?_
   refine wpAny_Call_NameR (Calls.Name_function_global X.eok.kind (iO hg) (Calls.loadGlobal_global (X.eok.glob▸g1) (g2 f fa hm h) ?_) (nd hd))
   cases xs with
   | nil=>simp at hne
   | cons y ys=>
    cases es with
    | nil=>exact Bool.noConfusion (show false=true from m)
    | cons e es=>
     refine eY (show (okE env.scope.names e y&&c8 env.scope.names es ys)=true from m) λoy oys=>?_
     have fin:∀ l,evs C (.cons e es) σ = .ok l->∀ j s₁,EPs P s l j s₁->wpAny (model prog w) A (call (.ref fa) j []) Q Er s₁:=λl hl j s₁ Es=>by
      obtain ⟨ks,as,rs,ha,_⟩:=Es
      exact i (P:=λa=>P a\/s.heap.get? a=none) X.room (X.ge.k ks.k) rs ha (n2 l hl) (λr hr v s' E=>hQ r (by rw[hl]; exact hr) v s' (E.shift ks)) λc hc z s' hz=>hE c (by rw[hl]; exact hc) z s' (hXP c s s₁ z s' ks hz)
     by_cases hR:f = "Rule"
     ·have hi:fns.init.isSome=true:=by
       unfold adr at h
       rw[if_pos hR] at h
       refine bw h λuu q _=>?_
       rw[q]; rfl
      have hfr:fa=SF.rule:=by
       unfold adr at h
       rw[if_pos hR] at h
       refine bw h λuu uu q=>?_
       exact q.symm
      refine aq (X.ge.cls (.inr hi)) λN mN hcl _=>?_
      rw[<- hfr] at hcl
      exact nX (aT oy _ env) (kN oys pos).1 (Ss (pos:=pos) m X n1 (λl hl j s₁ Es=>⟨rc hcl Es.keeps.k,fin l hl j s₁ Es⟩) λc hc=>hE c (by rw[hc]; rfl))
     ·rw[vD hR hm] at h
      refine bw h λq hq M2=>?_
      (clear i; subst M2)
      refine aA (X.ge.funs f q hq) λo fd ho hfd _=>?_
      refine Calls.callWith_function (o:=o) (fd:=fd) ?_
      have hS:=Ss (pos:=pos) (A:=A) (P:=P) (s:=s) (Er:=Er) (Q:=λj s₁=>(s₁.heap.get? q.1=some o/\o.data = .func fd)/\wpAny (model prog w) A (call (.ref q.1) ([]++j) []) Q Er s₁) m X n1 (λl hl j s₁ Es=>?_) λc hc=>hE c (by rw[hc]; rfl)
      ·rw[aT oy] at hS ⊢
       exact Calls.evalArgs_plain hS
      ·refine ⟨⟨Es.keeps.k.exact ho (λuu q=>by rw[hfd] at q; cases q) λuu uu q=>(by rw[hfd] at q; cases q),hfd⟩,?_⟩
       rw[nil_append]
       exact fin l hl j s₁ Es
  ·exact absurd rfl nb
 ·cases ok
noncomputable def uN:Expr->Bool
 | .UnaryOp .Not _ _=>false
 | .BoolOp _ _ _=>false
 | .IfExp _ _ _ _=>false
 | .Compare _ _ _ _=>false
 | _=>true
theorem pd {ex:Expr}(h:uN ex=true) (env:Env) (t:Sem Value):isTrue ex env t=(do let v <- t; standAt ex.pos; holding [v] (truthy v)):=by
 cases ex with
 | UnaryOp op x p=>cases op<;>first | rfl | exact nF h
 | _=>first | rfl | exact nF h
noncomputable def vr:E->Bool
 | .not _ | .cmp _ _ _ | .and _ _ | .or _ _=>false
 | _=>true
theorem ww {ex:Expr}(hp:vr e=true) (h:okE ns e ex=true):uN ex=true:=by
 cases ex with
 | UnaryOp op x p=>
  cases e with
  | not _=>exact nF hp
  | neg a=>
   refine Or.elim (zt h) (λg=>?_) (λq=>?_)
   ·refine aq (g) λk j q i=>?_
    clear g
    cases q; rfl
   ·cases q
  | _=>exact Bool.noConfusion (show false=true from h)
 | BoolOp _ _ _=>
  cases e with
  | and _ _=>exact nF hp
  | or _ _=>exact nF hp
  | _=>exact Bool.noConfusion (show false=true from h)
 | Compare _ _ _ _=>
  cases e with
  | cmp _ _ _=>exact nF hp
  | _=>exact Bool.noConfusion (show false=true from h)
 | IfExp _ _ _ _=>cases e<;>exact Bool.noConfusion (show false=true from h)
 | _=>rfl
variable (fns k C XP)
structure SimAll (ee:E):Prop where
 e:SimE fns k C XP ee
 t:SimT fns k C XP ee
 a:SimA fns k C XP ee
 o:SimO fns k C XP ee
 ta:SimTA fns k C XP ee
 to:SimTO fns k C XP ee
variable {fns k C XP}
noncomputable def pZ:E->Bool
 | .and _ _=>false
 | _=>true
noncomputable def tv:E->Bool
 | .or _ _=>false
 | _=>true
theorem gY (h:pZ e=true):okA ns e vs=false:=by cases e<;>first | rfl | exact nF h
theorem gV (h:tv e=true):okO ns e vs=false:=by cases e<;>first | rfl | exact nF h
theorem SimAll.ofET {e:E}(S:SimE fns k C XP e) (T:SimT fns k C XP e) (ha:pZ e=true) (ho:tv e=true):SimAll fns k C XP e where
 e:=S
 t:=T
 a:=kK S λg=>by rw[gY ha] at g; exact nF g
 o:=kF S λg=>by rw[gV ho] at g; exact nF g
 ta:=jv T λg=>by rw[gY ha] at g; exact nF g
 to:=ji T λg=>by rw[gV ho] at g; exact nF g
theorem SimAll.ofE {e:E}(S:SimE fns k C XP e) (hp:vr e=true) (ha:pZ e=true) (ho:tv e=true):SimAll fns k C XP e :=
 .ofET S (tG S λuu uu g t h=>pd (ww hp h) g t) ha ho
theorem xe (h:∀ c s s₁ x s',Kp s s₁->XP c s₁ x s'->XP c s x s'):SimE fns 0 (λuu=>none) XP (lf x t):=by
 have S1:SimE fns 0 (λuu=>none) XP (.neg (.sub (.name x) (.name t))):=rL (l9 h (dX x) (dX t))
 have S2:eH fns 0 (λuu=>none) XP (.cons (.name t) .nil):=fN h (dX t) jr
 have S3:eH fns 0 (λuu=>none) XP (.cons (.neg (.sub (.name x) (.name t))) (.cons (.name t) .nil)):=fN h S1 S2
 show SimE fns 0 (λuu=>none) XP (.tup (.cons (.neg (.sub (.name x) (.name t))) (.cons (.name t) .nil)))
 exact rY S3
section
variable (hf:fns.hand=false) (hC:dI fns k C XP) (hXP:∀ c s s₁ x s',Kp s s₁->XP c s₁ x s'->XP c s x s')
include hXP
theorem lC (Sa:SimAll fns k C XP a) (Sb:SimAll fns k C XP b):SimAll fns k C XP (.and a b) :=
  have S:SimE fns k C XP (.and a b):=A6 hXP Sa.e Sb.a
  have T:SimT fns k C XP (.and a b):=wE hXP Sa.t Sb.ta
  {e:=S,t:=T,o:=kF S λg=>(by rw[gV rfl] at g; cases g),to:=ji T λg=>(by rw[gV rfl] at g; cases g),
   a:=kK S λ{z} _ _ _ _ _ _ _ _ g X v x y=>(by
    replace g:=i_A g
    revert g; refine λi=>Or.elim i (λl=>?_) (λg=>?_)
    ·clear i
     refine aq (l) λu r n g=>?_
     clear l
     subst n
     simp only[and_eq_true] at g
     exact BW hXP Sa.e Sb.a g.1 g.2 X v x y
    ·cases g),
   ta:=jv T λ{z} _ _ _ _ _ _ _ g X v x y=>(by
    replace g:=i_A g
    revert g; refine λh=>Or.elim h (λj=>?_) (λg=>?_)
    ·clear h
     refine aq (j) λq p m g=>?_
     clear j
     subst m
     simp only[and_eq_true] at g
     exact yE hXP Sa.t Sb.ta g.1 g.2 X v x y
    ·cases g) }
theorem np (Sa:SimAll fns k C XP a) (Sb:SimAll fns k C XP b):SimAll fns k C XP (.or a b) :=
  have S:SimE fns k C XP (.or a b):=BR hXP Sa.e Sb.o
  have T:SimT fns k C XP (.or a b):=Ao hXP Sa.t Sb.to
  {e:=S,t:=T,a:=kK S λg=>(by rw[gY rfl] at g; cases g),ta:=jv T λg=>(by rw[gY rfl] at g; cases g),
   o:=kF S λ{z} _ _ _ _ _ _ _ _ g X v x y=>(by
    replace g:=i_O g
    revert g; refine λj=>Or.elim j (λl=>?_) (λg=>?_)
    ·clear j
     refine aq (l) λu r n g=>?_
     clear l
     subst n
     simp only[and_eq_true] at g
     exact orL hXP Sa.e Sb.o g.1 g.2 X v x y
    ·cases g),
   to:=ji T λ{z} _ _ _ _ _ _ _ g X v x y=>(by
    replace g:=i_O g
    revert g; refine λh=>Or.elim h (λi=>?_) (λg=>?_)
    ·clear h
     refine aq (i) λq p m g=>?_
     clear i
     subst m
     simp only[and_eq_true] at g
     exact Bw hXP Sa.t Sb.to g.1 g.2 X v x y
    ·cases g) }
mutual
theorem fb:∀ e:E,hOk e=true->SimAll fns k C XP e
 | .name x,_=>.ofE (dX x) rfl rfl rfl
 | .int i,_=>.ofE (mn i) rfl rfl rfl
 | .bool b,_=>.ofE (oR b) rfl rfl rfl
 | .bin o a b,h=>.ofE (rN hXP (fb a (and_eq_true_iff.mp h).1).e (fb b (and_eq_true_iff.mp h).2).e) rfl rfl rfl
 | .not a,h=>.ofET (rQ (fb a h).e) (pg (fb a h).t) rfl rfl
 | .cmp o a b,h=>.ofET (rM hXP (fb a (and_eq_true_iff.mp h).1).e (fb b (and_eq_true_iff.mp h).2).e) (qr hXP (fb a (and_eq_true_iff.mp h).1).e (fb b (and_eq_true_iff.mp h).2).e) rfl rfl
 | .and a b,h=>lC hXP (fb a (and_eq_true_iff.mp h).1) (fb b (and_eq_true_iff.mp h).2)
 | .or a b,h=>np hXP (fb a (and_eq_true_iff.mp h).1) (fb b (and_eq_true_iff.mp h).2)
 | .list es,h=>.ofE (pI (zP es h)) rfl rfl rfl
 | .str _,h | .none,h | .neg _,h | .tup _,h | .edic,h | .comp _ _ _,h | .compif _ _ _ _,h | .sub _ _,h | .attr _ _,h | .bi1 _ _,h | .isi _ _,h | .call _ _,h | .meth _ _ _,h | .order _ _,h=>Bool.noConfusion h
termination_by structural e=>e
theorem zP:∀ es:Es,xf es=true->eH fns k C XP es
 | .nil,_=>jr
 | .cons e es,h=>fN hXP (fb e (and_eq_true_iff.mp h).1).e (zP es (and_eq_true_iff.mp h).2)
termination_by structural es=>es
end
include hf hC
mutual
theorem aD:∀ e:E,SimAll fns k C XP e
 | .name x=>.ofE (dX x) rfl rfl rfl
 | .int i=>.ofE (mn i) rfl rfl rfl
 | .str s=>.ofE (A7 s) rfl rfl rfl
 | .bool b=>.ofE (oR b) rfl rfl rfl
 | .none=>.ofE wx rfl rfl rfl
 | .bin o a b=>.ofE (rN hXP (aD a).e (aD b).e) rfl rfl rfl
 | .neg a=>.ofE (rL (aD a).e) rfl rfl rfl
 | .not a=>.ofET (rQ (aD a).e) (pg (aD a).t) rfl rfl
 | .cmp o a b=>.ofET (rM hXP (aD a).e (aD b).e) (qr hXP (aD a).e (aD b).e) rfl rfl
 | .and a b=>lC hXP (aD a) (aD b)
 | .or a b=>np hXP (aD a) (aD b)
 | .list es=>.ofE (pI (ij es)) rfl rfl rfl
 | .tup es=>.ofE (rY (ij es)) rfl rfl rfl
 | .edic=>.ofE xT rfl rfl rfl
 | .comp elt x it=>.ofE (w8 (eN it) (aD elt).e) rfl rfl rfl
 | .compif elt x it c=>.ofE (sK (eN it) (aD elt).e (aD c).t) rfl rfl rfl
 | .sub a i=>.ofE (l9 hXP (aD a).e (aD i).e) rfl rfl rfl
 | .attr a n=>.ofE (wF hC (aD a).e) rfl rfl rfl
 | .bi1 f a=>.ofE (l8 hf (aD a).e) rfl rfl rfl
 | .isi a t=>.ofE (Ar (aD a).e) rfl rfl rfl
 | .call f es=>.ofE (xi hf hC hXP (ij es)) rfl rfl rfl
 | .meth a m es=>.ofE (wn hf hC hXP (aD a).e (ij es)) rfl rfl rfl
 | .order x t=>.ofE (uj hf (λg j=>(hC "law" g j).2.1 rfl) (l8 hf (dX x)) (xe (XP:=λuu uu uu uu=>False) λuu uu uu uu uu uu h=>h)) rfl rfl rfl
termination_by structural e=>e
theorem ij:∀ es:Es,eH fns k C XP es
 | .nil=>jr
 | .cons e es=>fN hXP (aD e).e (ij es)
termination_by structural es=>es
theorem eN:∀ it:It,dR fns k C XP it
 | .e a=>z4 hf (aD a).e
 | .r1 n=>xu hf (aD n).e
 | .r2 a b=>xH hf hXP (aD a).e (aD b).e
termination_by structural it=>it
end
end
end
theorem jb {σ τ:St}{x:String}{v:V×Mode}{ns:List String}(h:∀ y∈ns,σ y=τ y):∀ y∈ns,upd σ x v y=upd τ x v y:=by
 intro y g
 unfold upd
 split
 ·rfl
 ·exact h y g
mutual
theorem aB (C:Calls):∀ (e:E) (σ τ:St),(∀ y∈fv e,σ y=τ y)->ev C e σ=ev C e τ
 | .name x,σ,τ,h=>by simp only[bW]; rw[h x (by simp[dT])]
 | .int _,_,_,_=>by simp only[eP]
 | .str _,_,_,_=>by simp only[jQ]
 | .bool _,_,_,_=>by simp only[gB]
 | .none,_,_,_=>by simp only[gK]
 | .bin o a b,σ,τ,h=>by
  simp only[AQ,mem_append] at h
  simp only[fc]; rw[aB C a σ τ λy g=>h y (.inl g),aB C b σ τ λy g=>h y (.inr g)]
 | .neg a,σ,τ,h=>by simp only[An] at h; simp only[fk]; rw[aB C a σ τ h]
 | .not a,σ,τ,h=>by simp only[z8] at h; simp only[dh]; rw[aB C a σ τ h]
 | .cmp o a b,σ,τ,h=>by
  simp only[Bm,mem_append] at h
  simp only[db]; rw[aB C a σ τ λy g=>h y (.inl g),aB C b σ τ λy g=>h y (.inr g)]
 | .and a b,σ,τ,h=>by
  simp only[AD,mem_append] at h
  simp only[dm]; rw[aB C a σ τ λy g=>h y (.inl g),aB C b σ τ λy g=>h y (.inr g)]
 | .or a b,σ,τ,h=>by
  simp only[Cd,mem_append] at h
  simp only[eF]; rw[aB C a σ τ λy g=>h y (.inl g),aB C b σ τ λy g=>h y (.inr g)]
 | .list es,σ,τ,h=>by simp only[xo] at h; simp only[bp]; rw[fB C es σ τ h]
 | .tup es,σ,τ,h=>by simp only[A0] at h; simp only[di]; rw[fB C es σ τ h]
 | .edic,_,_,_=>by simp only[gH]
 | .comp elt x it,σ,τ,h=>by
  simp only[w6,mem_append] at h
  simp only[cX]
  rw[iJ C it σ τ λy g=>h y (.inl g)]
  have e:∀ d,(ev C elt (upd σ x (mk (.d d))))=ev C elt (upd τ x (mk (.d d))):=λd=>aB C elt _ _ (jb λy g=>h y (.inr g))
  simp only[e]
 | .compif elt x it c,σ,τ,h=>by
  simp only[tO,mem_append] at h
  simp only[cb]
  rw[iJ C it σ τ λy g=>h y (.inl g)]
  have e:∀ d,(ev C elt (upd σ x (mk (.d d))))=ev C elt (upd τ x (mk (.d d))):=λd=>aB C elt _ _ (jb λy g=>h y (.inr (.inr g)))
  have i:∀ d,(ev C c (upd σ x (mk (.d d))))=ev C c (upd τ x (mk (.d d))):=λd=>aB C c _ _ (jb λy g=>h y (.inr (.inl g)))
  simp only[e,i]
 | .sub a b,σ,τ,h=>by
  simp only[rP,mem_append] at h
  simp only[d6]; rw[aB C a σ τ λy g=>h y (.inl g),aB C b σ τ λy g=>h y (.inr g)]
 | .attr a n,σ,τ,h=>by simp only[vZ] at h; simp only[dU]; rw[aB C a σ τ h]
 | .bi1 f a,σ,τ,h=>by simp only[Aw] at h; simp only[ec]; rw[aB C a σ τ h]
 | .isi a t,σ,τ,h=>by simp only[Bg] at h; simp only[eT]; rw[aB C a σ τ h]
 | .call f es,σ,τ,h=>by simp only[kU] at h; simp only[dW]; rw[fB C es σ τ h]
 | .meth a m es,σ,τ,h=>by
  simp only[v9,mem_append] at h
  simp only[cN]; rw[aB C a σ τ λy g=>h y (.inl g),fB C es σ τ λy g=>h y (.inr g)]
 | .order x _,σ,τ,h=>by simp only[d8]; rw[h x (by simp[uQ])]
termination_by structural e=>e
theorem fB (C:Calls):∀ (es:Es) (σ τ:St),(∀ y∈fvs es,σ y=τ y)->evs C es σ=evs C es τ
 | .nil,_,_,_=>by simp only[aV]
 | .cons e es,σ,τ,h=>by
  simp only[ju,mem_append] at h
  simp only[aU]; rw[aB C e σ τ λy g=>h y (.inl g),fB C es σ τ λy g=>h y (.inr g)]
termination_by structural es=>es
theorem iJ (C:Calls):∀ (it:It) (σ τ:St),(∀ y∈bQ it,σ y=τ y)->a0 C it σ=a0 C it τ
 | .e a,σ,τ,h=>by simp only[e7] at h; simp only[f6]; rw[aB C a σ τ h]
 | .r1 a,σ,τ,h=>by simp only[xO] at h; simp only[eW]; rw[aB C a σ τ h]
 | .r2 a b,σ,τ,h=>by
  simp only[wX,mem_append] at h
  simp only[eU]; rw[aB C a σ τ λy g=>h y (.inl g),aB C b σ τ λy g=>h y (.inr g)]
termination_by structural it=>it
end
noncomputable def dB (σ:St) (ns:List String):St:=λx=>if x∈ns then σ x else none
theorem fE (σ:St) (ns:List String):∀ y∈ns,dB σ ns y=σ y:=λy g=>by unfold dB; rw[if_pos g]
theorem nS {M:Model}{A:Around}{E:Value->Shared->Prop}{s:Shared}{a:Addr}{m:Str->Option Value}{name:Str}{v:Value}{T:Value}{Q:Unit->Shared->Prop}(hn:s.heap.Ns a m) (hc:∃ o,s.heap.get? a=some o/\o.cls=T)
  (h:∀ h',h'.Ns a (λx=>if x=name then some v else m x)->Heap.SameBut a s.heap h'->(∃ o,h'.get? a=some o/\o.cls=T)->Q () {s with heap:=h',toks:=s.toks+1 }):wpAny M A (nsSet a name v) Q E s:=by
 refine fx (hn) λo es ep ho hd hk hm=>?_
 clear hn
 refine ae (hc) λo' ho' hT=>?_
 clear hc
 rw[ho] at ho'
 obtain rfl:=Option.some.inj ho'
 have hany:es.any (·.refKey)=false:=by
  rw[Array.any_eq_false']; intro e he; obtain ⟨n,t,h⟩:=hk e he; simp[DictEntry.refKey,h]
 intro Γ p _
 simp only[nsSet,strHash,Sem.wp_bind',Sem.wp_cmd_ask,Sem.wp_pure',Sem.wp_cmd_mkText]
 rw[Sem.wp_loadPart_of M Γ _ p {s with toks:=s.toks+1 } (o:=o) _ ho]
 simp only[hd,aRefKeyMayBeTheName_eq,aRefKeyMayBeTheNameByArray,hany,Bool.and_false,false_eq_true,if_false,Sem.wp_cmd_updatePart]
 refine ⟨by rw[ho]; rfl,h _ ?_ (Heap.SameBut.update ..) ?_⟩
 ·obtain ⟨c,d,dt,sl⟩:=o
  (clear hT ho'; subst hd)
  cases hi:es.findIdx? (·.key.isStr name) with
  | some i=>
   refine (gX _ _ ep (Heap.get?_update_self _ ho (by simp only[Obj.putName_eq,Obj.putNameByArray,hi]; rfl)) (by simp only[Obj.putName_eq,Obj.putNameByArray,hi]; rfl) (hk.modify _ _) (λx=>?_))
   show _=if x=name then some v else m x
   rw[<- hm]; exact findBy_modify (λn v=>v.isStr n) Value.isStr_inj es name x v i hi
  | none=>
   refine (gX _ _ (ep+1) (Heap.get?_update_self _ ho (by simp only[Obj.putName_eq,Obj.putNameByArray,hi]; rfl)) (by simp only[Obj.putName_eq,Obj.putNameByArray,hi]; rfl) (hk.push _ _ _ _) (λx=>?_))
   show _=if x=name then some v else m x
   rw[<- hm]
   exact findBy_push (λn v=>v.isStr n) es name x _ _ v (λy=>by
    show (name==y)=decide (y=name)
    by_cases h:y=name
    ·(clear hi; subst h); simp
    ·have:¬ name=y:=λe=>h e.symm
     simp[h,this]) hi
 ·obtain ⟨c,d,dt,sl⟩:=o
  (clear ho'; subst hd)
  cases hi:es.findIdx? (·.key.isStr name) with
  | some i=>exact (ag _ (Heap.get?_update_self _ ho (by simp only[Obj.putName_eq,Obj.putNameByArray,hi]; rfl)) (by simp only[Obj.putName_eq,Obj.putNameByArray,hi]; exact hT))
  | none=>exact (ag _ (Heap.get?_update_self _ ho (by simp only[Obj.putName_eq,Obj.putNameByArray,hi]; rfl)) (by simp only[Obj.putName_eq,Obj.putNameByArray,hi]; exact hT))
structure Loc (env:Env) (Z:Addr->Prop) (h:Heap) (vals:String->Option Value):Prop where
 cls:∃ o,h.get? env.locals=some o/\o.cls = .type "frame"
 ns:∃ m,h.Ns env.locals m/\∀ x v,vals x=some v->env.kindOf (Str.ofString x)=some .local->m (Str.ofString x)=some v
 nz:¬ Z env.locals
 cell:∀ n c,env.kindOf n=some .cell->env.cells.lookup n=some c->c≠env.locals/\¬ Z c/\∃ v,h.IsCell c v
 cval:∀ x v c,vals x=some v->env.kindOf (Str.ofString x)=some .cell->env.cells.lookup (Str.ofString x)=some c->h.IsCell c (some v)
 apart:∀ n n' c,env.cells.lookup n=some c->env.cells.lookup n' = some c->n=n'
 kinds:∀ x v,vals x=some v->env.kindOf (Str.ofString x)=some .local\/env.kindOf (Str.ofString x)=some .cell
noncomputable def fF (vals:String->Option Value) (x:String) (v:Value):String->Option Value:=λy=>if y=x then some v else vals y
noncomputable def xm (T:Addr) (h h':Heap):Prop:=(∃ v,h.IsCell T v)->∀ o,h.get? T=some o->∃ o',h'.get? T=some o'/\o'.cls=o.cls/\o'.dict=o.dict/\∀ c,o'.data≠.cls c
theorem xQ {M:Model}{A:Around}{E:Value->Shared->Prop}{s:Shared}{env:Env}{name:Str}{c:Addr}{l:Option Value}{v:Value}{Q:Unit->Shared->Prop}(hk:env.scope.kind = .function) (hl:env.kindOf name=some .cell) (hc:env.cells.lookup name=some c) (hv:s.heap.IsCell c l)
  (h:∀ h',h'.IsCell c (some v)->Heap.SameBut c s.heap h'->xm c s.heap h'->Q () {s with heap:=h' }):wpAny M A (storeName env name v) Q E s:=by
 unfold storeName
 simp only[hl,hk]
 refine wpAny_bind (wpAny_cellOf hc ?_)
 refine ae (hv) λo g j=>?_
 clear hv
 unfold cellSet
 refine wpAny_bind (wpAny_load g ?_)
 rw[j]
 refine wpAny_update g (h _ (ag ({o with data:=.cell (some v) }) (Heap.get?_update_self _ g rfl) rfl) (.update ..) λuu k e=>?_)
 rw[g] at e; injection e
 exact (bD ({o with data:=.cell (some v) }) (Heap.get?_update_self _ g rfl) rfl rfl (λuu q=>by cases q))
noncomputable def Spot (env:Env) (h:Heap) (T:Addr):Prop:=(T=env.locals/\∃ m,h.Ns T m)\/∃ v,h.IsCell T v
theorem Spot.noseq (t:Spot env h T) (o:Obj) (e:h.get? T=some o) (vs:Array Value) (n:Nat):o.data≠.seq vs n:=by
 intro q
 rcases t with ⟨_,m,o',es,ep,e',hd,_⟩ | ⟨v,o',e',hd⟩
 ·rw[e'] at e; injection e; rw[hd] at q; cases q
 ·rw[e'] at e; injection e; rw[hd] at q; cases q
theorem Spot.nostay (t:Spot env h T) (o:Obj) (e:h.get? T=some o):¬ Stay o:=by
 rcases t with ⟨_,m,o',es,ep,e',hd,_⟩ | ⟨v,o',e',hd⟩
 ·rw[e'] at e; injection e; exact Stay.not_dict hd
 ·rw[e'] at e; injection e; exact Stay.not_data (λuu q=>by rw[hd] at q; cases q) λuu uu q=>by rw[hd] at q; cases q
section
theorem Loc.onK {env:Env}{Z:Addr->Prop}{h h':Heap}{vals:String->Option Value}(L:Loc env Z h vals) (kp:K h h'):Loc env Z h' vals where
 cls:=ae (L.cls) λo e c=>ae (kp _ o (.inl trivial) e) λg i l=>(ag g i (l.cls.trans c))
 ns:=ae (L.ns) λm a b=>(ag m (iy a kp) b)
 nz:=L.nz
 cell:=λn c a b=>let ⟨h1,h2,v,h3⟩:=L.cell n c a b; (fS h1 h2 (b0 v (ie h3 kp)))
 cval:=λx v c a b d=>ie (L.cval x v c a b d) kp
 apart:=L.apart
 kinds:=L.kinds
theorem Loc.var (L:Loc env Z h vals) (eok:EnvOk env) (hv:vals x=some v):VarIs h env (Str.ofString x) v:=by
 rcases L.kinds x v hv with hk | hk
 ·refine ae (L.ns) λm a b=>?_
  exact .loc m hk a (b x v hv hk)
 ·refine ah (eok.cells _ (.inl hk)) λc g=>?_
  exact .cell c (.inl hk) g (L.cval x v c hv hk g)
theorem Loc.store (L:Loc env Z s.heap vals) (eok:EnvOk env)
  (hx:env.kindOf (Str.ofString x)=some .local\/env.kindOf (Str.ofString x)=some .cell)
  (hQ:∀ T h' tk,Heap.SameBut T s.heap h'->Spot env s.heap T->xm T s.heap h'->¬ Z T->Loc env Z h' (fF vals x v)->Q () {s with heap:=h',toks:=tk }):wpAny (model prog w) A (storeName env (Str.ofString x) v) Q Er s:=by
 have inj:∀ y,Str.ofString y=Str.ofString x->y=x:=λy e=>bX e
 have kinds':∀ y u,fF vals x v y=some u->env.kindOf (Str.ofString y)=some .local\/env.kindOf (Str.ofString y)=some .cell:=λy u hu=>by
  unfold fF at hu
  split at hu
  ·rename_i e; (clear hQ inj; subst e); exact hx
  ·exact L.kinds y u hu
 refine ae (L.ns) λm hm hmv=>?_
 rcases hx with hk | hk
 ·rw[storeName_local hk (by rw[eok.kind]; rfl)]
  refine nS hm L.cls (λh' hn hs hcl=>hQ env.locals h' _ hs (.inl (az rfl (b0 m hm))) (λ⟨u,o,e,q⟩=>by obtain ⟨o',es,ep,e',q',_⟩:=hm; rw[e] at e'; injection e'; rw[q] at q'; cases q') L.nz ?_)
  refine ⟨hcl,(ag _ hn (λy u hu hky=>?_)),L.nz,λn c hkn hc=>?_,λy u c hu hky hc=>?_,L.apart,kinds'⟩
  ·unfold fF at hu
   split at hu
   ·rename_i e; (clear hQ hk hn inj kinds'; subst e); injection hu; simp
   ·rename_i e
    rw[if_neg λq=>e (inj y q)]
    exact hmv y u hu hky
  ·refine aI (L.cell n c hkn hc) λh1 h2 MO=>?_
   refine aq (MO) λu o h3 h4=>?_
   clear MO
   exact (fS h1 h2 (ay u o (hs.extBut c o h1 h3) h4))
  ·unfold fF at hu
   split at hu
   ·rename_i e; (clear hQ hn inj kinds'; subst e); rw[hk] at hky; cases hky
   ·refine ab (L.cell _ c hky hc) λh1 _=>?_
    refine ae (L.cval y u c hu hky hc) λo h3 h4=>?_
    exact (ag o (hs.extBut c o h1 h3) h4)
 ·refine ah (eok.cells _ (.inl hk)) λco hco=>?_
  refine aI (L.cell _ co hk hco) λh1 h2 MA=>?_
  refine ah (MA) λg h3=>?_
  clear MA
  refine xQ eok.kind hk hco h3 λh' hn hs hkp=>hQ co h' s.toks hs (.inr ⟨g,h3⟩) hkp h2 ?_
  refine ⟨(ae (L.cls) λo e c=>(ag o (hs.extBut _ o (Ne.symm h1) e) c)),(ag m (hm.sameBut hs (Ne.symm h1)) (λy u hu hky=>?_)),L.nz,λn c hkn hc=>?_,λy u c hu hky hc=>?_,L.apart,kinds'⟩
  ·unfold fF at hu
   split at hu
   ·rename_i e; (clear hQ hco inj kinds'; subst e); rw[hk] at hky; cases hky
   ·exact hmv y u hu hky
  ·refine aI (L.cell n c hkn hc) λg1 g2 L0=>?_
   refine aq (L0) λu o g3 g4=>?_
   clear L0
   by_cases e:c=co
   ·(clear h1 h2 h3 hco hkp hs; subst e); exact (fS g1 g2 (b0 _ hn))
   ·exact (fS g1 g2 (ay u o (hs.extBut c o e g3) g4))
  ·unfold fF at hu
   split at hu
   ·rename_i e; (clear hQ hk inj kinds'; subst e); injection hu
    rw[hco] at hc; injection hc
    exact hn
   ·rename_i e
    refine ae (L.cval y u c hu hky hc) λo g3 g4=>?_
    refine (ag o (hs.extBut c o (λq=>?_) g3) g4)
    (clear h1 h2 h3 hkp hn hs; subst q)
    exact e (inj y (L.apart _ _ c hc hco))
theorem RV.spot (r:RV h v x as) (tt:Spot env h T) (hkp:xm T h h') (hL:∀ a∈as,a≠env.locals) (hs:Heap.SameBut T h h'):RV h' v x as:=by
 have i:∀ b o,b≠T->h.get? b=some o->h'.get? b=some o:=λb o k e=>hs.extBut b o k e
 have l:∀ a∈as,∀ o p z,h.get? a=some o->o.data = .dict p z->a≠T:=λa ha o p z e m q=>by
  (clear hkp hs i; subst q)
  rcases tt with ⟨t,_⟩ | ⟨v,g,e',hd'⟩
  ·exact hL a ha t
  ·rw[e'] at e; injection e; rw[hd'] at m; cases m
 have key:∀ ks a,IsTupleKey (intKind prog w) h ks a->IsTupleKey (intKind prog w) h' ks a:=λks a hk=>by
  refine aX (hk) λo it n a1 a2 a3=>?_
  clear hk
  refine (cT o it n (i a o (λq=>?_) a1) a2 a3)
  (clear l hkp hs i; subst q)
  exact tt.noseq o a1 _ _ a3.1
 cases x with
 | d x=>exact ⟨r.1.off (wr:=[T]) (λb k o e=>.inl (by rw[mem_singleton.mp k] at e; exact tt.noseq o e)) λb o k e=>i b o (λq=>k (by simp[q])) e,r.2⟩
 | dic0=>
  refine jT (r) λa h1 h2 h3 LC Ly=>?_
  clear r
  refine fx (LC) λo p z e hx m hr=>?_
  clear LC
  refine cF (Ly) λg es' ep' e' h4 h5 h6 h7 h8=>?_
  clear Ly
  (clear hL; subst h2)
  have j:=l a (.head _) o p z e m
  exact (iS a h1 rfl h3 (gX o p z (i a o j e) hx m hr) (fW g es' ep' (i a g j e') h4 h5 h6 (λy hy=>key _ _ (h7 y hy)) h8))
 | dicI ks=>
  refine ca (r) λa h1 h2 h3 LG=>?_
  clear r
  refine fx (LG) λo p z e hx m hr=>?_
  clear LG
  (clear hL; subst h2)
  have j:=l a (.head _) o p z e m
  exact (bD a h1 rfl h3 (gX o p z (i a o j e) hx m hr))
 | dicT ks=>
  refine lm (r) λa xs h1 h2 h3 Lz h9=>?_
  clear r
  refine cF (Lz) λg es' ep' e' h4 h5 h6 h7 h8=>?_
  clear Lz
  (clear hL; subst h2)
  have j:=l a (.head _) g es' ep' e' h5
  exact (gQ a xs h1 rfl h3 (fW g es' ep' (i a g j e') h4 h5 h6 (λy hy=>key _ _ (h7 y hy)) h8) h9.1 h9.2.1 (λx hx=>(h9.2.2 x hx).off (wr:=[T]) (λb k o e=>.inl (by rw[mem_singleton.mp k] at e; exact tt.noseq o e)) λb o k e=>i b o (λq=>k (by simp[q])) e))
 | rule c d n=>
  refine ja (r) λx D o vf bs t u mA h1 h2 h3 h4 h5 h6 h7 LA h9 h10 h11 h12 h13 h14=>?_
  clear r
  refine bz (LA) λoD p z e m=>?_
  clear LA
  subst h2
  have hneD:D≠T:=l D (.tail _ (.head _)) oD p z e m.1
  have hx:∃ g,h'.get? x=some g/\g.cls = .ref SF.rule/\g.dict=some D/\∀ c,g.data≠.cls c:=by
   by_cases q:x=T
   ·(clear l hneD hs i; subst q)
    revert tt; refine λL6=>Or.elim L6 (λLM=>?_) (λtt=>?_)
    ·clear L6
     refine ab (LM) λtt Mr=>?_
     clear LM
     exact absurd tt (hL x (.head _))
    ·refine ca (hkp tt o h3) λg k1 k2 k3 k4=>?_
     exact (bD g k1 (k2.trans h4) (k3.trans h6) k4)
   ·exact (bD o (i x o q h3) h4 h6 h5)
  refine ca (hx) λg x1 x2 x3 x4=>?_
  clear hx
  exact (jj x D g vf bs t u mA h1 rfl x1 x2 x4 x3 h7 (cB oD p z (i D oD hneD e) m) h9 h10 h11 h12 (h13.off (wr:=[T]) (λb k o e=>.inl (by rw[mem_singleton.mp k] at e; exact tt.noseq o e)) λb o k e=>i b o (λq=>k (by simp[q])) e) h14)
end
section
variable (fns:Fns) (k:Nat)
structure SOK (h0:Heap) (P Z:Addr->Prop) (A:Around) (env:Env) (h:Heap) (σ:St) (vals:String->Option Value) (fp:String->List Addr):Prop where
 room:Room fns.hand k A
 eok:EnvOk env
 ge:GE fns h0
 z0:∀ b o,h0.get? b=some o->Z b
 kp0:K h0 h
 code:fns.lam=true->∃ q,CodeOk h0 env.code q
 zdom:∀ b,Z b->∃ o,h.get? b=some o
 loc:Loc env Z h vals
 val:∀ x p,σ x=some p->varK env.scope.names x=true/\∃ v,vals x=some v/\RV h v p.1 (fp x)/\∀ a∈fp x,a≠env.locals/\(P a\/h0.get? a=none)
 top:∀ x p,σ x=some p->p.2 = .top->∃ a bs,fp x=a::bs/\¬ Z a/\a∉bs/\∀ y q,y≠x->σ y=some q->a∉fp y
 deep:∀ x p,σ x=some p->p.2 = .deep->(∀ a∈fp x,¬ Z a/\∀ y q,y≠x->σ y=some q->a∉fp y)/\(fp x).Nodup
noncomputable def Stp (Z:Addr->Prop) (s s':Shared):Prop:=∃ h' tk,s' = {s with heap:=h',toks:=tk }/\KG Z s.heap h'
noncomputable def oO (h0:Heap) (P:Addr->Prop) (r:V×Mode) (v:Value) (s':Shared):Prop :=
 ∃ as,RV s'.heap v r.1 as/\(∀ a∈as,P a\/h0.get? a=none)/\(r.2 = .top->∃ a bs,as=a::bs/\h0.get? a=none/\a∉bs)/\(r.2 = .deep->(∀ a∈as,h0.get? a=none)/\as.Nodup)
end
theorem Stp.refl (Z:Addr->Prop) (s:Shared):Stp Z s s:=(ay s.heap s.toks rfl KG.refl)
theorem Stp.trans (a:Stp Z s s₁) (b:Stp Z s₁ n):Stp Z s n:=by
 refine aq (a) λh t i k=>?_
 clear a
 subst i
 refine aq (b) λm j g l=>?_
 clear b
 subst g
 exact (ay m j rfl (k.trans l))
theorem Kp.stp (a:Kp s s₁):Stp Z s s₁:=by
 refine aq (a) λh t g k=>?_
 clear a
 subst g
 exact (ay h t rfl (k.mono λuu uu=>trivial))
theorem Stp.mono (a:Stp Z' s s₁) (h:∀ b,Z b->Z' b):Stp Z s s₁:=by
 refine aq (a) λi t g k=>?_
 clear a
 subst g
 exact (ay i t rfl (k.mono h))
theorem Stp.same (st:Stp Z s s₁) (hs:Heap.SameBut a s₁.heap h') (hz:¬ Z a) (hn:∀ o,s₁.heap.get? a=some o->¬ Stay o):Stp Z s {s₁ with heap:=h',toks:=tk }:=by
 refine aq (st) λh t g k=>?_
 clear st
 subst g
 exact (ay h' tk rfl (k.trans (KG.same hs hz hn)))
section
theorem SOK.onK (K:SOK fns k h0 P Z A env h σ vals fp) (kp:KG (λuu=>True) h h'):SOK fns k h0 P Z A env h' σ vals fp where
 room:=K.room
 eok:=K.eok
 ge:=K.ge
 z0:=K.z0
 kp0:=KG.trans K.kp0 kp
 code:=K.code
 zdom:=λb i=>ah (K.zdom b i) λuu e=>Internal.K.there kp e
 loc:=K.loc.onK kp
 val:=λx p g=>let ⟨a,v,b,c,d⟩:=K.val x p g; (az a (aL v b (c.k kp) d))
 top:=K.top
 deep:=K.deep
theorem SOK.h0n (K:SOK fns k h0 P Z A env h σ vals fp) (ha:¬ Z a):h0.get? a=none:=by
 cases q:h0.get? a with
 | none=>rfl
 | some o=>exact absurd (K.z0 a o q) ha
theorem fZ (h:(mk v).2 = .deep):sM v=true:=by
 unfold mk at h; dsimp only at h
 split at h
 ·assumption
 ·cases h
theorem ip:(mk v).2≠.top:=by
 unfold mk; dsimp only; split<;>simp
theorem RV.scal_nil (r:RV h v x as) (hs:sM x=true):as=[]:=by
 cases x with
 | d x=>exact r.1.sx_nil hs
 | _=>exact nF hs
theorem bU (h:demote σ ns x=some p):∃ q,σ x=some q/\p.1=q.1/\((x∈ns/\p=mk q.1)\/(x∉ns/\p=q)):=by
 unfold demote at h
 split at h
 ·refine bw h λq i g=>?_
  subst g
  exact (aL q i rfl (.inl ⟨by assumption,rfl⟩))
 ·exact (aL p h rfl (.inr ⟨by assumption,rfl⟩))
theorem eV {σ:St}{ns:List String}{x:String}{p:V×Mode}{G:Prop}(h:demote σ ns x=some p) (k:∀ q,σ x=some q->p.1=q.1->((x∈ns/\p=mk q.1)\/(x∉ns/\p=q))->G):G:=ao (bU h) k
theorem SOK.demote (K:SOK fns k h0 P Z A env h σ vals fp) (ns:List String):SOK fns k h0 P Z A env h (demote σ ns) vals fp where
 room:=K.room
 eok:=K.eok
 ge:=K.ge
 z0:=K.z0
 kp0:=K.kp0
 code:=K.code
 zdom:=K.zdom
 loc:=K.loc
 val:=λx p m=>by
  refine eV m λq j e _=>?_
  rw[e]
  exact K.val x q j
 top:=λx p m ht=>by
  refine eV m λq j e u=>?_
  rcases u with ⟨_,rfl⟩ | ⟨_,rfl⟩
  ·exact absurd ht ip
  ·refine bl (K.top x p j ht) λa bs n z h3 h4=>?_
   refine (bO a bs n z h3 (λy r t l=>?_))
   refine ae (bU l) λo i _=>?_
   exact h4 y o t i
 deep:=λx p m hd=>by
  refine eV m λq j e u=>?_
  rcases u with ⟨_,rfl⟩ | ⟨_,rfl⟩
  ·refine ab (K.val x q j) λuu g=>?_
   refine ao (g) λv _ l _=>?_
   clear g
   rw[l.scal_nil (fZ hd)]
   exact ⟨λuu h=>(nomatch h),.nil⟩
  ·refine ab (K.deep x p j hd) λn z=>?_
   refine ⟨λa ha=>⟨(n a ha).1,λy r t l=>?_⟩,z⟩
   refine ae (bU l) λo i _=>?_
   exact (n a ha).2 y o t i
theorem SOK.consume (K:SOK fns k h0 P Z A env h σ vals fp) (ns:List String) (m:Mode):SOK fns k h0 P Z A env h (consume σ ns m) vals fp:=by
 unfold Internal.consume
 split
 ·exact K
 ·exact K.demote ns
noncomputable def Own (σ:St) (fp:String->List Addr) (ns:List String) (a:Addr):Prop:=∃ y q,y∈ns/\σ y=some q/\a∈fp y
theorem SOK.cx {s:Shared}(K:SOK fns k h0 P Z A env s.heap σ vals fp) (ns:List String):Cx fns k A (Own σ fp ns) s.heap env (dB σ ns) where
 room:=K.room
 eok:=K.eok
 ge:=K.ge.k K.kp0
 code:=λe=>ah (K.code e) λq c=>⟨q,c.k K.kp0⟩
 vars:=λx p h _=>by
  unfold dB at h
  split at h
  ·refine ab (K.val x p h) λuu g=>?_
   refine ao (g) λv i j _=>?_
   clear g
   exact (bJ v (fp x) (K.loc.var K.eok i) j (λa l=>(bJ x p ‹_› h l)))
  ·exact nN h
theorem SOK.eval (K:SOK fns k h0 P Z A env s.heap σ vals fp) (S:SimE fns k C XP e) (ok:okE env.scope.names e exx=true) (he:ev C e σ = .ok r)
  (hQ:∀ v s',EP (Own σ fp (fv e)) s r v s'->Q v s'):wpAny (model prog w) A (eval exx env) Q Er s:=by
 have h:ev C e (dB σ (fv e)) = .ok r:=by rw[aB C e _ σ (fE σ (fv e))]; exact he
 exact S ok (K.cx (fv e)) (by rw[h]; simp) (λl g v s' E=>by rw[h] at g; injection g; exact hQ v s' E) λc i=>by rw[h] at i; cases i
theorem SOK.evalT (K:SOK fns k h0 P Z A env s.heap σ vals fp) (S:SimT fns k C XP e) (ok:okE env.scope.names e exx=true) (he:((ev C e σ).bind λr=>al r.1) = .ok b)
  (hQ:∀ s',Kp s s'->Q b s'):wpAny (model prog w) A (isTrue exx env (PySem.eval exx env)) Q Er s:=by
 have h:ev C e (dB σ (fv e))=ev C e σ:=aB C e _ σ (fE σ (fv e))
 refine S ok (K.cx (fv e)) (by rw[h,he]; simp) (λm g s' l=>by rw[h,he] at g; injection g; exact hQ s' l) λc i=>?_
 rw[h] at i; rw[i] at he; exact nE he
theorem SOK.own (K:SOK fns k h0 P Z A env h σ vals fp) (ha:Own σ fp ns a):(∃ o,h.get? a=some o)/\a≠env.locals/\(P a\/h0.get? a=none):=by
 refine aA (ha) λy q _ l i=>?_
 clear ha
 refine ab (K.val y q l) λuu g=>?_
 refine ao (g) λv _ j m=>?_
 clear g
 exact ⟨j.there a i,m a i⟩
noncomputable def Frm (Z:Addr->Prop) (xs:List String) (σ:St) (vals:String->Option Value) (fp:String->List Addr) (σ':St) (vals':String->Option Value) (fp':String->List Addr):Prop :=
 (∀ y,y∉xs->vals' y=vals y/\fp' y=fp y)/\∀ b,Z b->(∀ z q,σ z=some q->b∉fp z)->∀ z q,σ' z=some q->b∉fp' z
section
theorem Frm.id (h:∀ z q,σa z=some q->∃ q',σ z=some q'):Frm Z xs σ vals fp σa vals fp :=
 ⟨λuu uu=>⟨rfl,rfl⟩,λb _ j z q i=>ah (h z q i) λq' g=>j z q' g⟩
theorem Frm.more (f:Frm Z xs σ vals fp σa valsa fpa) (h:∀ y∈xs,y∈ys):Frm Z ys σ vals fp σa valsa fpa:=⟨λy g=>f.1 y λq=>g (h y q),f.2⟩
theorem Frm.trans (f:Frm Z xs σ vals fp σa valsa fpa) (g:Frm Z ys σa valsa fpa σb valsb fpb):Frm Z (xs++ys) σ vals fp σb valsb fpb :=
 ⟨λy i=>let a:=f.1 y λq=>i (mem_append_left _ q); let b:=g.1 y λq=>i (mem_append_right _ q); ⟨b.1.trans a.1,b.2.trans a.2⟩,λb h j=>g.2 b h (f.2 b h j)⟩
theorem Frm.less (f:Frm Z' xs σ vals fp σa valsa fpa) (h:∀ b,Z b->Z' b):Frm Z xs σ vals fp σa valsa fpa:=⟨f.1,λb g=>f.2 b (h b g)⟩
theorem Frm.one (hv:∀ y,y≠x->valsa y=vals y) (h:∀ z q,σa z=some q->∃ q',σ z=some q') (ha:∀ b∈as,Z b->∃ z q,σ z=some q/\b∈fp z) :
  Frm Z [x] σ vals fp (upd σa x r) valsa (λy=>if y=x then as else fp y):=by
 refine ⟨λy l=>⟨hv y λq=>l (by simp[q]),if_neg λq=>l (by simp[q])⟩,λb o m z q j g=>?_⟩
 unfold upd at j
 dsimp only at g
 by_cases e:z=x
 ·have k:b∈as:=by rwa [if_pos e] at g
  refine aq (ha b k o) λn q' t p=>?_
  exact m n q' t p
 ·rw[if_neg e] at j g
  refine ah (h z q j) λq' i=>?_
  exact m z q' i g
end
theorem eE (hq:Internal.consume σ ns m y=some q):∃ q',σ y=some q':=by
 unfold Internal.consume at hq
 split at hq
 ·exact ⟨q,hq⟩
 ·obtain ⟨q',g,_⟩:=bU hq; exact ⟨q',g⟩
theorem SOK.put (K:SOK fns k h0 P Z A env s.heap σ vals fp)
  (hvk:varK env.scope.names x=true) (hk:env.kindOf (Str.ofString x)=some .local\/env.kindOf (Str.ofString x)=some .cell)
  (rv:RV s.heap v r.1 as) (ha:∀ a∈as,a≠env.locals/\(P a\/h0.get? a=none))
  (ht:r.2 = .top->∃ a bs,as=a::bs/\¬ Z a/\a∉bs/\∀ y q,y≠x->σ y=some q->a∉fp y) (hd:r.2 = .deep->(∀ a∈as,¬ Z a/\∀ y q,y≠x->σ y=some q->a∉fp y)/\as.Nodup)
  (hdis:∀ y q,y≠x->σ y=some q->(q.2 = .top->∀ a bs,fp y=a::bs->a∉as)/\(q.2 = .deep->∀ a∈fp y,a∉as))
  (hQ:∀ s',Stp Z s s'->(∀ b o,b≠env.locals->(∀ u,o.data≠.cell u)->s.heap.get? b=some o->s'.heap.get? b=some o)->SOK fns k h0 P Z A env s'.heap (upd σ x r) (fF vals x v) (λy=>if y=x then as else fp y)->Q () s'):wpAny (model prog w) A (storeName env (Str.ofString x) v) Q Er s:=by
 refine K.loc.store K.eok hk λT h' tk hs hT hKp hZ L=>hQ _ ((Stp.refl Z s).same hs hZ hT.nostay) (λb o hb hc e=>hs.extBut b o (λq=>?_) e) ?_
 ·rcases hT with ⟨hT,_⟩ | ⟨u,o',e',hd'⟩
  ·exact hb (q.trans hT)
  ·(clear hKp hZ hs; subst q)
   rw[e'] at e; injection e
   exact hc u hd'
 have h0n:∀ a,¬ Z a->h0.get? a=none:=λa ha=>by
  cases q:h0.get? a with
  | none=>rfl
  | some o=>exact absurd (K.z0 a o q) ha
 have kz:∀ b o,Z b->s.heap.get? b=some o->h'.get? b=some o:=λb o hb e=>hs.extBut b o (λq=>hZ (q▸hb)) e
 refine ⟨K.room,K.eok,K.ge,K.z0,Internal.K.same K.kp0 hs (h0n _ hZ) hT.nostay,K.code,λb hb=>ah (K.zdom b hb) λo e=>⟨o,kz b o hb e⟩,L,λy p g=>?_,λy p g htp=>?_,λy p g hdp=>?_⟩
 ·unfold upd at g
  by_cases hy:y=x
  ·(clear L hQ hd hdis hk ht; subst hy)
   rw[if_pos rfl] at g; injection g
   refine (az hvk (aL v (by simp[fF]) ?_ ?_))
   ·rw[if_pos rfl]; exact rv.spot hT hKp (λa h=>(ha a h).1) hs
   ·rw[if_pos rfl]; exact ha
  ·rw[if_neg hy] at g
   refine ab (K.val y p g) λj l=>?_
   refine ao (l) λu n h3 h4=>?_
   clear l
   refine (az j (aL u (by simpa [fF,hy] using n) ?_ ?_))
   ·rw[if_neg hy]; exact h3.spot hT hKp (λa h=>(h4 a h).1) hs
   ·rw[if_neg hy]; exact h4
 ·unfold upd at g
  by_cases hy:y=x
  ·(clear L hQ hd hdis hk hvk; subst hy)
   rw[if_pos rfl] at g; injection g
   refine bl (ht htp) λa bs j n h3 h4=>?_
   refine (bO a bs (by rw[if_pos rfl]; exact j) n h3 (λz q m i=>?_))
   unfold upd at i
   rw[if_neg m] at i ⊢
   exact h4 z q m i
  ·rw[if_neg hy] at g
   refine bl (K.top y p g htp) λa bs j n h3 h4=>?_
   refine (bO a bs (by rw[if_neg hy]; exact j) n h3 (λz q m i=>?_))
   unfold upd at i
   by_cases hzx:z=x
   ·rw[if_pos hzx]
    exact (hdis y p hy g).1 htp a bs j
   ·rw[if_neg hzx] at i ⊢
    exact h4 z q m i
 ·unfold upd at g
  by_cases hy:y=x
  ·(clear L hQ hdis hk ht hvk; subst hy)
   rw[if_pos rfl] at g; injection g
   refine ab (hd hdp) λj n=>?_
   rw[if_pos rfl]
   refine ⟨λa h=>⟨(j a h).1,λz q m i=>?_⟩,n⟩
   unfold upd at i
   rw[if_neg m] at i ⊢
   exact (j a h).2 z q m i
  ·rw[if_neg hy] at g ⊢
   refine ab (K.deep y p g hdp) λj n=>?_
   refine ⟨λa h=>⟨(j a h).1,λz q m i=>?_⟩,n⟩
   unfold upd at i
   by_cases hzx:z=x
   ·rw[if_pos hzx]
    exact (hdis y p hy g).2 hdp a h
   ·rw[if_neg hzx] at i ⊢
    exact (j a h).2 z q m i
theorem SOK.put_ep (K:SOK fns k h0 P Z A env s.heap σ vals fp)
  (hvk:varK env.scope.names x=true) (hk:env.kindOf (Str.ofString x)=some .local\/env.kindOf (Str.ofString x)=some .cell) (E:EP (Own σ fp ns) s r v s₁)
  (hQ:∀ s' as,RV s₁.heap v r.1 as->Stp Z s₁ s'->(∀ b o,b≠env.locals->(∀ u,o.data≠.cell u)->s₁.heap.get? b=some o->s'.heap.get? b=some o)->SOK fns k h0 P Z A env s'.heap (upd (Internal.consume σ ns r.2) x r) (fF vals x v) (λy=>if y=x then as else fp y)->Frm Z [x] σ vals fp (upd (Internal.consume σ ns r.2) x r) (fF vals x v) (λy=>if y=x then as else fp y)->Q () s'):wpAny (model prog w) A (storeName env (Str.ofString x) v) Q Er s₁:=by
 obtain ⟨kp,as,rv,ha,ht,hd⟩:=E
 have K₁:=(K.onK kp.k).consume ns r.2
 have nz:∀ a,s.heap.get? a=none->¬ Z a:=λa e hz=>by
  refine ah (K.zdom a hz) λo t=>?_
  rw[e] at t; exact nN t
 have nf:∀ a,s.heap.get? a=none->∀ y q,σ y=some q->a∉fp y:=λa e y q i hm=>by
  refine ab (K.val y q i) λuu n=>?_
  refine ao (n) λu _ hr _=>?_
  clear n
  refine ah (hr.there a hm) λo t=>?_
  rw[e] at t; exact nN t
 have cs:∀ y q,Internal.consume σ ns r.2 y=some q->∃ l,σ y=some l:=λy q i=>by
  unfold Internal.consume at i
  split at i
  ·exact ⟨q,i⟩
  ·obtain ⟨l,g,_⟩:=bU i; exact ⟨l,g⟩
 refine ae (K.loc.ns) λmL hmL _=>?_
 refine K₁.put hvk hk rv (λa h=>?_) (λhtop=>?_) (λhdeep=>?_) (λy q hy i=>?_) (λs' st kk K'=>hQ s' as rv st kk K' (.one (λy hy=>if_neg hy) (λz q i=>eE i) λb hb hz=>(ha b hb).elim (λ⟨y,q,_,h1,h2⟩=>(ay y q h1 h2)) λe=>absurd hz (nz b e)))
 ·rcases ha a h with h1 | h1
  ·exact (K.own h1).2
  ·refine ⟨λq=>?_,.inr ?_⟩
   ·refine bz (hmL) λo _ _ e _=>?_
    clear hmL
    rw[<- q] at e
    rw[h1] at e; exact nN e
   ·cases e:h0.get? a with
    | none=>rfl
    | some o=>obtain ⟨_,t⟩:=Internal.K.there K.kp0 e; rw[t] at h1; exact nM h1
 ·refine aA (ht htop) λa bs h1 h2 h3=>?_
  exact (bO a bs h1 (nz a h2) h3 (λy q _ i=>ah (cs y q i) λl g=>nf a h2 y l g))
 ·refine ab (hd hdeep) λh1 h2=>?_
  exact ⟨λa h=>⟨nz a (h1 a h),λy q _ i=>ah (cs y q i) λl g=>nf a (h1 a h) y l g⟩,h2⟩
 ·have main:∀ a,(a∈as)->(∀ y' l,σ y' = some l->a∈fp y'->y'≠y\/(y'∈ns/\r.2≠.deep))\/True:=λuu uu=>.inr trivial
  clear main
  by_cases hdp:r.2 = .deep
  ·have h1:=(hd hdp).1
   refine ah (cs y q i) λl g=>?_
   exact ⟨λuu a bs e hm=>nf a (h1 a hm) y l g (by rw[e]; exact .head _),λuu a j hm=>nf a (h1 a hm) y l g j⟩
  ·have hq2:Internal.demote σ ns y=some q:=by unfold Internal.consume at i; rwa [if_neg hdp] at i
   refine eV hq2 λl g e1 hc=>?_
   rcases hc with ⟨_,rfl⟩ | ⟨hn,rfl⟩
   ·refine ⟨λh=>absurd h ip,λh a j=>?_⟩
    refine ab (K.val y l g) λuu m=>?_
    refine ao (m) λu _ hr _=>?_
    clear m
    rw[hr.scal_nil (fZ h)] at j
    cases j
   ·refine ⟨λh a bs e hm=>?_,λh a j hm=>?_⟩
    ·refine Or.elim (ha a hm) (λLM=>?_) (λh1=>?_)
     ·refine aA (LM) λz p hz hp hf=>?_
      clear LM
      refine bl (K.top y q g h) λa' bs' t _ _ h4=>?_
      rw[e] at t; cases t
      exact h4 z p (λq=>hn (q▸hz)) hp hf
     ·exact nf a h1 y q g (by rw[e]; exact .head _)
    ·refine Or.elim (ha a hm) (λLU=>?_) (λh1=>?_)
     ·refine aA (LU) λz p hz hp hf=>?_
      clear LU
      exact ((K.deep y q g h).1 a j).2 z p (λq=>hn (q▸hz)) hp hf
     ·exact nf a h1 y q g j
theorem SOK.freeze (K:SOK fns k h0 P Z A env h σ vals fp) {G:Addr->Prop}(hdom:∀ b,G b->∃ o,h.get? b=some o) (hL:¬ G env.locals) (hc:∀ n c,env.kindOf n=some .cell->env.cells.lookup n=some c->¬ G c)
  (ht:∀ x p,σ x=some p->p.2 = .top->∀ a bs,fp x=a::bs->¬ G a) (hd:∀ x p,σ x=some p->p.2 = .deep->∀ a∈fp x,¬ G a):SOK fns k h0 P (λb=>Z b\/G b) A env h σ vals fp where
 room:=K.room
 eok:=K.eok
 ge:=K.ge
 z0:=λb o e=>.inl (K.z0 b o e)
 kp0:=K.kp0
 code:=K.code
 zdom:=λb y=>y.elim (K.zdom b) (hdom b)
 loc:={K.loc with
  nz:=λq=>q.elim K.loc.nz hL
  cell:=λn c a b=>by
   refine aI (K.loc.cell n c a b) λi m g=>?_
   refine aq (g) λv o u t=>?_
   clear g
   exact (fS i (λq=>q.elim m (hc n c a b)) (ay v o u t)) }
 val:=K.val
 top:=λx p l j=>by
  refine bl (K.top x p l j) λa bs i m u t=>?_
  exact (bO a bs i (λq=>q.elim m (ht x p l j a bs i)) u t)
 deep:=λx p l j=>by
  refine ab (K.deep x p l j) λi m=>?_
  exact ⟨λa r=>⟨λq=>q.elim (i a r).1 (hd x p l j a r),(i a r).2⟩,m⟩
theorem SOK.thaw {Z':Addr->Prop}(K:SOK fns k h0 P Z' A env h σ vals fp) (hz:∀ b,Z b->Z' b) (h0z:∀ b o,h0.get? b=some o->Z b):SOK fns k h0 P Z A env h σ vals fp where
 room:=K.room
 eok:=K.eok
 ge:=K.ge
 z0:=h0z
 kp0:=K.kp0
 code:=K.code
 zdom:=λb t=>K.zdom b (hz b t)
 loc:={K.loc with
  nz:=λq=>K.loc.nz (hz _ q)
  cell:=λn c a b=>by
   refine aI (K.loc.cell n c a b) λg i m=>?_
   exact ⟨g,λq=>i (hz _ q),m⟩ }
 val:=K.val
 top:=λx p l j=>by
  refine bl (K.top x p l j) λa v g i m u=>?_
  exact (bO a v g (λq=>i (hz _ q)) m u)
 deep:=λx p l j=>by
  refine ab (K.deep x p l j) λg i=>?_
  exact ⟨λa r=>⟨λq=>(g a r).1 (hz _ q),(g a r).2⟩,i⟩
end
section
theorem RV.offA (r:RV h v x as) (ho:h.get? a=some o) (hc:o.cls≠.type "tuple") (hn:a∉as) (hs:Heap.SameBut a h h'):RV h' v x as:=by
 have k:∀ b o,b≠a->h.get? b=some o->h'.get? b=some o:=λb o i e=>hs.extBut b o i e
 have key:∀ ks b,IsTupleKey (intKind prog w) h ks b->IsTupleKey (intKind prog w) h' ks b:=λks b hk=>by
  refine aX (hk) λj it n a1 a2 a3=>?_
  clear hk
  refine (cT j it n (k b j (λq=>?_) a1) a2 a3)
  (clear hn hs k; subst q)
  rw[ho] at a1; (have l:=Option.some.inj a1; clear a1; (clear a3; subst l))
  exact hc a2
 cases x with
 | d x=>exact ⟨r.1.off (wr:=[a]) (λb i j e=>.inr (by
   rw[mem_singleton.mp i] at e ⊢
   rw[ho] at e; injection e
   exact ⟨hc,hn⟩)) λb o i e=>k b o (λq=>i (by simp[q])) e,r.2⟩
 | dic0=>
  refine jT (r) λb z p m LC Ly=>?_
  clear r
  refine bz (LC) λo es ep e hr=>?_
  clear LC
  refine cF (Ly) λj es' ep' e' h4 h5 h6 h7 h8=>?_
  clear Ly
  subst p
  have g:b≠a:=λq=>hn (by simp[q])
  exact (iS b z rfl m (cB o es ep (k b o g e) hr) (fW j es' ep' (k b j g e') h4 h5 h6 (λy hy=>key _ _ (h7 y hy)) h8))
 | dicI ks=>
  refine ca (r) λb z p m LG=>?_
  clear r
  refine bz (LG) λo es ep e hr=>?_
  clear LG
  subst p
  have g:b≠a:=λq=>hn (by simp[q])
  exact (bD b z rfl m (cB o es ep (k b o g e) hr))
 | dicT ks=>
  refine lm (r) λb xs z p m Lz h9=>?_
  clear r
  refine cF (Lz) λj es' ep' e' h4 h5 h6 h7 h8=>?_
  clear Lz
  subst p
  have g:b≠a:=λq=>hn (by simp[q])
  exact (gQ b xs z rfl m (fW j es' ep' (k b j g e') h4 h5 h6 (λy hy=>key _ _ (h7 y hy)) h8) h9.1 h9.2.1 (λx hx=>(h9.2.2 x hx).off (wr:=[a]) (λb i j e=>.inr (by
   rw[mem_singleton.mp i] at e ⊢
   rw[ho] at e; injection e
   exact ⟨hc,λq=>nomatch q⟩)) λb o i e=>k b o (λq=>i (by simp[q])) e))
 | rule c d n=>
  refine ja (r) λy D oy vf bs t u mA z p m h4 h5 h6 h7 LA h9 h10 h11 h12 h13 h14=>?_
  clear r
  refine bz (LA) λoD es ep e hd=>?_
  clear LA
  subst p
  have n1:y≠a:=λq=>hn (by simp[q])
  have n2:D≠a:=λq=>hn (by simp[q])
  exact (jj y D oy vf bs t u mA z rfl (k y oy n1 m) h4 h5 h6 h7 (cB oD es ep (k D oD n2 e) hd) h9 h10 h11 h12 (h13.off (wr:=[a]) (λb i j e=>.inr (by
   rw[mem_singleton.mp i] at e ⊢
   rw[ho] at e; injection e
   exact ⟨hc,λq=>hn (.tail _ (.tail _ q))⟩)) λb o i e=>k b o (λq=>i (by simp[q])) e) h14)
theorem Loc.offA {a:Addr}{o:Obj}(L:Loc env Z h vals) (ho:h.get? a=some o) (hc:∀ v,o.data≠.cell v) (hL:a≠env.locals) (hs:Heap.SameBut a h h'):Loc env Z h' vals where
 cls:=ae (L.cls) λo e c=>(ag o (hs.extBut _ o (Ne.symm hL) e) c)
 ns:=ae (L.ns) λm x y=>(ag m (x.sameBut hs (Ne.symm hL)) y)
 nz:=L.nz
 cell:=λn c x y=>by
  refine aI (L.cell n c x y) λu t g=>?_
  refine aq (g) λv j i k=>?_
  clear g
  refine (fS u t (ay v j (hs.extBut c j (λq=>?_) i) k))
  (clear hL hs; subst q)
  rw[ho] at i; injection i
  exact hc v k
 cval:=λx v c p q r=>by
  refine ae (L.cval x v c p q r) λj i k=>?_
  refine (ag j (hs.extBut c j (λq=>?_) i) k)
  (clear hL hs; subst q)
  rw[ho] at i; injection i
  exact hc _ k
 apart:=L.apart
 kinds:=L.kinds
theorem SOK.write (K:SOK fns k h0 P Z A env h σ vals fp) (hp:σ x=some p) (hval:vals x=some (.ref a)) (ho:h.get? a=some o) (hoc:o.cls≠.type "tuple") (hst:¬ Stay o) (hod:∀ v,o.data≠.cell v)
  (hnz:¬ Z a) (hne:∀ y q,y≠x->σ y=some q->a∉fp y) (haL:a≠env.locals/\(P a\/h0.get? a=none)) (hs:Heap.SameBut a h h') (rv:RV h' (.ref a) v' (a::bs')) (hb:∀ b∈bs',b≠env.locals/\(P b\/h0.get? b=none))
  (ht:m' = .top->a∉bs') (hd:m' = .deep->(∀ b∈bs',¬ Z b/\∀ y q,y≠x->σ y=some q->b∉fp y)/\(a::bs').Nodup)
  (hdis:∀ y q,y≠x->σ y=some q->(q.2 = .top->∀ b cs,fp y=b::cs->b∉bs')/\(q.2 = .deep->∀ b∈fp y,b∉bs')) :
  SOK fns k h0 P Z A env h' (upd σ x (v',m')) vals (λy=>if y=x then a::bs' else fp y):=by
 have h0n:h0.get? a=none:=by
  cases q:h0.get? a with
  | none=>rfl
  | some o=>exact absurd (K.z0 a o q) hnz
 have kz:∀ b o,Z b->h.get? b=some o->h'.get? b=some o:=λb o hb e=>hs.extBut b o (λq=>hnz (q▸hb)) e
 refine ⟨K.room,K.eok,K.ge,K.z0,Internal.K.same K.kp0 hs h0n (λo' e=>by rw[ho] at e; injection e; exact hst),K.code,λb hb=>ah (K.zdom b hb) λo e=>⟨o,kz b o hb e⟩,K.loc.offA ho hod haL.1 hs,λy q i=>?_,λy q i htp=>?_,λy q i hdp=>?_⟩
 ·unfold upd at i
  by_cases hy:y=x
  ·(clear hd hdis hne; subst hy)
   rw[if_pos rfl] at i; injection i
   rw[if_pos rfl]
   refine (az ((K.val y p hp).1) (aL (.ref a) hval rv (λb g=>?_)))
   rcases mem_cons.mp g with rfl | g
   ·exact haL
   ·exact hb b g
  ·rw[if_neg hy] at i ⊢
   refine ab (K.val y q i) λn m=>?_
   refine ao (m) λu h2 h3 h4=>?_
   clear m
   exact (az n (aL u h2 (h3.offA ho hoc (hne y q hy i) hs) h4))
 ·unfold upd at i
  by_cases hy:y=x
  ·(clear hd hdis hp hval; subst hy)
   rw[if_pos rfl] at i; injection i
   rw[if_pos rfl]
   refine (bO a bs' rfl hnz (ht htp) (λz r l j=>?_))
   unfold upd at j
   rw[if_neg l] at j ⊢
   exact hne z r l j
  ·rw[if_neg hy] at i ⊢
   refine bl (K.top y q i htp) λb cs n h2 h3 h4=>?_
   refine (bO b cs n h2 h3 (λz r l j=>?_))
   unfold upd at j
   by_cases hzx:z=x
   ·rw[if_pos hzx]
    intro hm
    rcases mem_cons.mp hm with e | hm
    ·exact hne y q hy i (by rw[n,e]; exact .head _)
    ·exact (hdis y q hy i).1 htp b cs n hm
   ·rw[if_neg hzx] at j ⊢
    exact h4 z r l j
 ·unfold upd at i
  by_cases hy:y=x
  ·(clear hdis hp hval; subst hy)
   rw[if_pos rfl] at i; injection i
   rw[if_pos rfl]
   refine ab (hd hdp) λn h2=>?_
   refine ⟨λb g=>?_,h2⟩
   rcases mem_cons.mp g with rfl | g
   ·refine ⟨hnz,λz r l j=>?_⟩
    unfold upd at j
    rw[if_neg l] at j ⊢
    exact hne z r l j
   ·refine ⟨(n b g).1,λz r l j=>?_⟩
    unfold upd at j
    rw[if_neg l] at j ⊢
    exact (n b g).2 z r l j
  ·rw[if_neg hy] at i ⊢
   refine ab (K.deep y q i hdp) λn h2=>?_
   refine ⟨λb g=>⟨(n b g).1,λz r l j=>?_⟩,h2⟩
   unfold upd at j
   by_cases hzx:z=x
   ·rw[if_pos hzx]
    intro hm
    rcases mem_cons.mp hm with e | hm
    ·exact hne y q hy i (e▸g)
    ·exact (hdis y q hy i).2 hdp b g hm
   ·rw[if_neg hzx] at j ⊢
    exact (n b g).2 z r l j
theorem SOK.head (K:SOK fns k h0 P Z A env h σ vals fp) (hp:σ x=some (.d (.list xs),m)) (hm:m≠.sh) :
  ∃ a vs n bs,vals x=some (.ref a)/\h.get? a=some ⟨.type "list", none,.seq vs.toArray n,#[]⟩/\RA h vs xs bs/\fp x=a::bs/\sz (.list xs)=true/\¬ Z a/\a∉bs/\(∀ y q,y≠x->σ y=some q->a∉fp y)/\(∀ b∈a::bs,b≠env.locals/\(P b\/h0.get? b=none)) /\
   (m = .deep->(∀ b∈bs,¬ Z b/\∀ y q,y≠x->σ y=some q->b∉fp y)/\bs.Nodup):=by
 refine ab (K.val x _ hp) λuu g=>?_
 refine ao (g) λv hv l o=>?_
 clear g
 refine ab (l) λr z=>?_
 clear l
 refine r.isList_k λa vs n bs p ea u e=>?_
 (clear r; subst p)
 refine ⟨a,vs,n,bs,hv,ea,u,e,z,?_⟩
 rw[e] at o
 cases m with
 | sh=>exact absurd rfl hm
 | top=>
  refine bl (K.top x _ hp rfl) λa' bs' t j i h3=>?_
  rw[e] at t; cases t
  exact (cr j i h3 o (λh=>(by cases h)))
 | deep=>
  refine ab (K.deep x _ hp rfl) λj i=>?_
  rw[e] at j i
  rw[nodup_cons] at i
  exact (cr ((j a (.head _)).1) i.1 ((j a (.head _)).2) o (λuu=>⟨λb o=>j b (.tail _ o),i.2⟩))
end
section
variable (fns:Fns) (k:Nat) (C:Calls)
noncomputable def fK (st:S):Prop:=∀ {stmt:Stmt}{h0:Heap}{P Z:Addr->Prop}{A:Around}{env:Env}{σ:St}{vals:String->Option Value}{fp:String->List Addr}{s:Shared}{Q:Flow->Shared->Prop}{Er:Value->Shared->Prop}{σ':St}{fl:Flw},
 okS env.scope.names st stmt=true->SOK fns k h0 P Z A env s.heap σ vals fp->ex C st σ = .ok (σ',fl) ->
 (fl = .next->∀ s' vals' fp',Stp Z s s'->SOK fns k h0 P Z A env s'.heap σ' vals' fp'->Frm Z (asg st) σ vals fp σ' vals' fp'->Q .next s')->(∀ r,fl = .ret r->∀ v s',Stp Z s s'->oO h0 P r v s'->Q (.ret v) s') ->
 wpAny (model prog w) A (exec stmt env) Q Er s
noncomputable def fo (st:Ss):Prop:=∀ {stmts:List Stmt}{h0:Heap}{P Z:Addr->Prop}{A:Around}{env:Env}{σ:St}{vals:String->Option Value}{fp:String->List Addr}{s:Shared}{Q:Flow->Shared->Prop}{Er:Value->Shared->Prop}{σ':St}{fl:Flw},
 cz env.scope.names st stmts=true->SOK fns k h0 P Z A env s.heap σ vals fp->exs C st σ = .ok (σ',fl) ->
 (fl = .next->∀ s' vals' fp',Stp Z s s'->SOK fns k h0 P Z A env s'.heap σ' vals' fp'->Frm Z (gG st) σ vals fp σ' vals' fp'->Q .next s')->(∀ r,fl = .ret r->∀ v s',Stp Z s s'->oO h0 P r v s'->Q (.ret v) s') ->
 wpAny (model prog w) A (execs stmts env) Q Er s
end
section
theorem bnd {env:Env}{x:String}(h:bt env.scope.names x=true):varK env.scope.names x=true/\bf x=true/\(env.kindOf (Str.ofString x)=some .local\/env.kindOf (Str.ofString x)=some .cell):=by
 unfold bt at h
 simp only[and_eq_true,or_eq_true,beq_iff_eq] at h
 exact ⟨h.1.1,h.1.2,h.2⟩
theorem fQ {env:Env}{x:String}{G:Prop}(h:bt env.scope.names x=true) (k:varK env.scope.names x=true->bf x=true->(env.kindOf (Str.ofString x)=some .local\/env.kindOf (Str.ofString x)=some .cell)->G):G:=aI (bnd h) k
theorem AP (K:SOK fns k h0 P Z A env s.heap σ vals fp) (E:EP (Own σ fp ns) s r v s') :
  oO h0 P r v s':=by
 obtain ⟨y,as,j,m,l,i⟩:=E
 have g:∀ a,s.heap.get? a=none->h0.get? a=none:=λa e=>by
  cases q:h0.get? a with
  | none=>rfl
  | some o=>obtain ⟨_,u⟩:=Internal.K.there K.kp0 q; rw[u] at e; exact nM e
 exact (bD as j (λa h=>(m a h).elim (λq=>(K.own q).2.2) λq=>.inr (g a q)) (λq=>aA (l q) λa x t p n=>(bJ a x t (g a p) n)) (λq=>⟨λa h=>g a ((i q).1 a h),(i q).2⟩))
theorem lE {σa σ':St}{fl:Flw}{l:List String}{h0:Heap}{P Z:Addr->Prop}{A:Around}{env:Env}{σ:St}{vals:String->Option Value}{fp:String->List Addr}{s:Shared}{Q:Flow->Shared->Prop}(he:(Out.ok (σa,Flw.next):Out (St×Flw)) = .ok (σ',fl))
  (hN:fl = .next->∀ s' vals' fp',Stp Z s s'->SOK fns k h0 P Z A env s'.heap σ' vals' fp'->Frm Z l σ vals fp σ' vals' fp'->Q .next s'):∀ s' vals' fp',Stp Z s s'->SOK fns k h0 P Z A env s'.heap σa vals' fp'->Frm Z l σ vals fp σa vals' fp'->Q .next s':=by
 cases he
 exact hN rfl
theorem IK {σa σ':St}{fl:Flw}{r:V×Mode}{N:V×Mode->Prop}(he:(Out.ok (σa,Flw.ret r):Out (St×Flw)) = .ok (σ',fl)) (hN:∀ r,fl = .ret r->N r):N r:=by
 cases he
 exact hN r rfl
theorem wQ (S:SimE fns k C XP e):fK fns k C (.ret e):=by
 intro p h0 P Z A y z o fp s Q Er q fl j K l hN x
 replace j:=BM j
 revert j; refine λg=>Or.elim g (λh=>?_) (λj=>?_)
 ·clear g
  refine aq (h) λn m i j=>?_
  clear h
  subst i
  simp only[im] at l
  refine Out.bind_k l λr u l=>?_
  exact wpAny_Return_some (K.eval S j u λv t E=>IK l x v t E.keeps.stp (AP K E))
 ·cases j
set_option tactic.hygienic true in
theorem vz:fK fns k C (.retn x):=by
 intro stmt h0 P Z A env σ vals fp s Q Er σ' fl i K n hN hR
 replace i:=A8 i
 revert i; refine λj=>Or.elim j (λl=>?_) (λi=>?_)
 ·clear j
  refine bz (l) λu t p m i=>?_
  clear l
  subst m
  simp only[and_eq_true,beq_iff_eq] at i
  refine ab (i) λy hb=>?_
  clear i
  subst y
  refine fQ hb λh1 h2 h3=>?_
  simp only[ky] at n
  split at n
  ·rename_i r hr
   cases n
   refine ab (K.val x r hr) λuu g=>?_
   refine ao (g) λv hv z hd=>?_
   clear g
   have nh:∀ a,¬ Z a->h0.get? a=none:=λa e=>by
    cases q:h0.get? a with
    | none=>rfl
    | some o=>exact absurd (K.z0 a o q) e
   refine wpAny_Return_some (dK K.eok.kind h2 (K.loc.var K.eok hv) (hR r rfl v s (.refl Z s) (bD (fp x) z (λa h=>(hd a h).2) (λq=>?_) (λq=>?_))))
   ·refine bl (K.top x r hr q) λa bs e1 e2 e3 _=>?_
    exact (bJ a bs e1 (nh a e2) e3)
   ·refine ab (K.deep x r hr q) λe1 e2=>?_
    exact ⟨λa h=>nh a (e1 a h).1,e2⟩
  ·exact nB n
 ·cases i
theorem xh (T:SimT fns k C XP c) (Sa:fo fns k C a) (Sb:fo fns k C b):fK fns k C (.ite c a b):=by
 intro stmt h0 P Z A env σ vals fp s Q Er σ' fl h K i hN hR
 replace h:=BI h
 revert h; refine λj=>Or.elim j (λl=>?_) (λh=>?_)
 ·clear j
  refine dM (l) λMx z x u o h=>?_
  clear l
  subst o
  simp only[and_eq_true] at h
  simp only[eL] at i
  refine Out.bind_k i λr hr i=>?_
  refine Out.bind_k i λt ht i=>?_
  refine wpAny_If (K.evalT T h.1.1 (b:=t) (by rw[hr]; exact ht) λs₁ q=>?_)
  have K₁:=K.onK q.k
  cases t with
  | true=>
   rw[if_pos rfl] at i ⊢
   exact Sa h.1.2 K₁ i (λe n g p m K' F=>hN e n g p (q.stp.trans m) K' (F.more λy hy=>mem_append_left _ hy)) λr e v n m R=>hR r e v n (q.stp.trans m) R
  | false=>
   simp only[false_eq_true,if_false] at i ⊢
   exact Sb h.2 K₁ i (λe n g p m K' F=>hN e n g p (q.stp.trans m) K' (F.more λy hy=>mem_append_right _ hy)) λr e v n m R=>hR r e v n (q.stp.trans m) R
 ·cases h
theorem ve:fo fns k C .nil:=by
 intro n y P Z A u v m t s Q Er p fl l K o r x
 replace l:=Cp l
 revert l; refine λg=>Or.elim g (λi=>?_) (λl=>?_)
 ·clear g
  refine ab (i) λj l=>?_
  clear i
  subst j
  simp only[cO] at o
  cases o
  exact wpAny_execs_nil (r rfl s m t (.refl Z s) K (.id λz q h=>⟨q,h⟩))
 ·cases l
theorem sE {st:S}{r:Ss}(S:fK fns k C st) (T:fo fns k C r):fo fns k C (.cons st r):=by
 intro z h0 P Z A env σ vals fp s Q Er σ' fl h K o hN hR
 replace h:=AJ h
 revert h; refine λi=>Or.elim i (λj=>?_) (λh=>?_)
 ·clear i
  refine aq (j) λx u n h=>?_
  clear j
  subst n
  simp only[and_eq_true] at h
  simp only[bg] at o
  refine Out.bind_k o λLB h1 o=>?_
  obtain ⟨t,fla⟩:=LB
  dsimp only at o
  refine wpAny_execs_cons (S h.1 K h1 (λe s' y fp' st K' F=>?_) λq e v s' st R=>?_)
  ·(clear h1; subst e)
   dsimp only at o ⊢
   exact T h.2 K' o (λe m g p l K'' F'=>hN e m g p (st.trans l) K'' (F.trans F')) λr e v m l R=>hR r e v m (st.trans l) R
  ·(clear h1; subst e)
   cases o
   exact hR q rfl v s' st R
 ·cases h
theorem vo (S:SimE fns k C XP e):fK fns k C (.expr e):=by
 intro stmt h0 P Z A env σ m fp s Q Er σ' fl l K n y hR
 replace l:=As l
 revert l; refine λg=>Or.elim g (λi=>?_) (λl=>?_)
 ·clear g
  refine oB (i) λx u t p o j l=>?_
  clear i
  subst j
  simp only[eZ] at n
  refine Out.bind_k n λr hr n=>?_
  replace y:=lE n y
  clear n hR
  have hi:interactive env=false:=by unfold interactive; rw[K.eok.kind]; rfl
  exact wpAny_Expr_any (K.eval S l hr λv s' E=>y s' m fp E.keeps.stp ((K.onK E.keeps.k).consume _ _) (.id λz q h=>eE h)) hi
 ·cases l
theorem SOK.same (K:SOK fns k h0 P Z A env h σ vals fp) (hm:h.Ns D m) (hZ:¬ Z D) (hL:D≠env.locals) (hf:∀ y q,σ y=some q->D∉fp y)
  (hs:Heap.SameBut D h h'):SOK fns k h0 P Z A env h' σ vals fp:=by
 have kz:∀ b o,Z b->h.get? b=some o->h'.get? b=some o:=λb o j e=>hs.extBut b o (λq=>hZ (q▸j)) e
 have i:=hm
 refine aX (i) λo es ep t x _=>?_
 clear i
 refine ⟨K.room,K.eok,K.ge,K.z0,Internal.K.same K.kp0 hs (K.h0n hZ) (λz e=>by rw[t] at e; injection e; exact Stay.not_dict x),K.code,λb j=>ah (K.zdom b j) λo e=>⟨o,kz b o j e⟩,K.loc.offA t (λv q=>by rw[x] at q; cases q) hL hs,λy q r=>?_,K.top,K.deep⟩
 refine ab (K.val y q r) λh1 g=>?_
 refine ao (g) λu h2 h3 h4=>?_
 clear g
 exact (az h1 (aL u h2 (h3.spot (env:={env with locals:=D }) (.inl (az rfl (b0 m hm))) (λ⟨u,o,e,q⟩=>by obtain ⟨z,es,ep,n,p,_⟩:=hm; rw[e] at n; injection n; rw[q] at p; cases p) (λa ha (e:a=D)=>hf y q r (e▸ha)) hs) h4))
end
noncomputable def XPc (c:String) (s:Shared) (x:Value) (s':Shared):Prop:=False
theorem dS:∀ (c:String) (s s₁:Shared) (x:Value) (s':Shared),Kp s s₁->XPc c s₁ x s'->XPc c s x s':=λuu uu uu uu uu _ h=>h
section
noncomputable def ug:Expr->Bool
 | .ListComp .. | .SetComp .. | .DictComp ..=>false
 | _=>true
theorem qS (h:ug v=true) (t:Option Expr) (l:Nat) (env:Env):swapsWith v t l env=pure false:=by
 cases v<;>first | rfl | exact nF h
theorem lR {gs:List Comprehension}:swapsWith (.ListComp e gs sc p) (some (.Name t q)) l env=pure true\/swapsWith (.ListComp e gs sc p) (some (.Name t q)) l env=pure false:=by
 have g:swapsWith (.ListComp e gs sc p) (some (.Name t q)) l env=pure (env.blockKind == .function&&env.kindOf t==some .local&&q.line==(Expr.ListComp e gs sc p).pos.line && !(sc.names.any λ(n,k)=>n==t&&(k == .local||k == .cell))):=rfl
 rw[g]
 generalize (env.blockKind == .function&&env.kindOf t==some .local&&q.line==(Expr.ListComp e gs sc p).pos.line && !(sc.names.any λ(n,k)=>n==t&&(k == .local||k == .cell)))=b
 cases b
 ·exact .inr rfl
 ·exact .inl rfl
theorem tX {ex:Expr}(hp:lQ e=false) (h:okE ns e ex=true):ug ex=true:=by
 cases ex with
 | ListComp _ _ _ _=>
  cases e with
  | comp _ _ _=>exact nT hp
  | compif _ _ _ _=>exact nT hp
  | _=>exact Bool.noConfusion (show false=true from h)
 | _=>first | rfl | (cases e<;>exact Bool.noConfusion (show false=true from h))
theorem lZ {px pt:Pos}{elt iter:Expr}
  (hsc:g8 env.scope.names sc x=true) (X:Cx fns k A P h env σ) (hset:∀ v,foldedSetIterable iter env v=pure v) (hsw:swapsWith (.ListComp elt [⟨.Name (Str.ofString x) px,iter,ifs,0⟩] sc pos) (some (.Name (Str.ofString t) pt)) spos.line env=pure true)
  (h:∀ cl:List (Str×Addr),(∀ n,(n,NameKind.free)∈sc.names->cl.lookup n=env.cells.lookup n)->wpAny (model prog w) A (eval iter env) (λv s₁=>wpAny (model prog w) A (pyIter v) (λi z=>wpAny (model prog w) A (newObj (.type "list") (.seq #[]) none) (λacc s₃=>
   wpAny (model prog w) A (newFunctionEnv sc env.globals cl [] env.qual none .none (some env)) (λcenv s₄=>
    codeAny (model prog w) A (.compStart (.ListComp elt [⟨.Name (Str.ofString x) px,iter,ifs,0⟩] sc pos) 0 i acc {cenv with scope:=relabel sc env }) (compPost (model prog w) A Er (some (assign (.Name (Str.ofString t) pt) env)) (λuu s'=>Q .next s') acc cenv.locals) s₄) Er s₃) Er z) Er s₁) Er s) :
  wpAny (model prog w) A (exec (.Assign [.Name (Str.ofString t) pt] (.ListComp elt [⟨.Name (Str.ofString x) px,iter,ifs,0⟩] sc pos) spos) env) Q Er s:=by
 refine cU (iV hsc) λhk l q g=>?_
 obtain ⟨cl,m,j⟩:=ll (scope:=sc) (env:=env) (λp u e=>by
  rcases g p u with h | h | h | h
  ·rw[h.1] at e; cases e
  ·rw[h] at e; cases e
  ·rw[h.1] at e; cases e
  ·exact X.eok.cells p.1 h.2)
 rw[exec_Assign_Name_used _ _ _ _ hsw]
 refine wpAny_bind (wpAny_standAt (wpAny_bind ?_))
 show wpAny _ A (do let _ <- comprehension (.ListComp elt [⟨.Name (Str.ofString x) px,iter,ifs,0⟩] sc pos) sc env _ (newList []) false (eval iter env) (some (assign (.Name (Str.ofString t) pt) env))) _ _ s
 exact wpAny_bind (wpAny_mono (wpAny_comprehension_free (use:=some (assign (.Name (Str.ofString t) pt) env)) (Q:=λuu s'=>Q .next s') rfl hset m hk (λy o e=>by rw[<- e]; exact iF l o) (h cl j)) (λuu s' r=>wpAny_pure (wpAny_pure r)) λuu uu e=>e)
theorem pV {h0:Heap}{P Z:Addr->Prop}{A:Around}{env:Env}{σ:St}{vals:String->Option Value}{fp:String->List Addr}{s s₂:Shared}{Q:Flow->Shared->Prop}{Er:Value->Shared->Prop}{x:String}{px:Pos}{ns:List String}{d:PyData}{md:Mode}{v:Value}{h:Heap}{tk:Nat}{D:Addr}{m:Str->Option Value}
  (K:SOK fns k h0 P Z A env s.heap σ vals fp) (hb:bt env.scope.names x=true) (E:EP (Own σ fp ns) s (.d d,md) v {s₂ with heap:=h,toks:=tk }) (hm:h.Ns D m) (hD:s.heap.get? D=none)
  (hN:∀ s' vals' fp',Stp Z s s'->SOK fns k h0 P Z A env s'.heap (upd (consume σ ns md) x (.d d,md)) vals' fp'->Frm Z [x] σ vals fp (upd (consume σ ns md) x (.d d,md)) vals' fp'->Q .next s') :
  compPost (model prog w) A Er (some (assign (.Name (Str.ofString x) px) env)) (λuu s'=>Q .next s') v D (.ok .next) {s₂ with heap:=h,toks:=tk }:=by
 refine fQ hb λh1 h2 h3=>?_
 show wpAny _ A (assign (.Name (Str.ofString x) px) env v) _ _ _
 refine wpAny_assign_Name (K.put_ep h1 h3 E λs' as rv st kk K' F=>?_)
 have dL:D≠env.locals:=λq=>by
  refine ae (K.loc.ns) λm' p _=>?_
  refine bz (p) λo _ _ e _=>?_
  clear p
  rw[<- q] at e
  rw[hD] at e; exact nN e
 have r:=hm
 refine aX (r) λo es ep ho z hr=>?_
 clear r
 have j:=kk D o dL (λu q=>by rw[z] at q; cases q) ho
 have t:s'.heap.Ns D m:=(cT o es ep j z hr)
 refine (ag m t (λh' hs=>hN _ _ _ ?_ (K'.same t (λhz=>?_) dL (λy q l hf=>?_) hs) F))
 ·refine (E.keeps.stp.trans st).same hs (λhz=>?_) λo' e=>by rw[j] at e; injection e; exact Stay.not_dict z
  refine ah (K.zdom D hz) λo e=>?_
  rw[hD] at e; exact nN e
 ·refine ah (K.zdom D hz) λo e=>?_
  rw[hD] at e; exact nN e
 ·split at hf
  ·refine aY (rv.1.there D hf) λuu uu e=>?_
   rw[ho] at e; (have oc:=Option.some.inj e; clear e; (clear ho j; subst oc)); cases z
  ·rename_i hy
   unfold upd at l
   rw[if_neg hy] at l
   have:∃ n,σ y=some n:=by
    unfold consume at l
    split at l
    ·exact ⟨q,l⟩
    ·obtain ⟨n,i,_⟩:=bU l; exact ⟨n,i⟩
   refine ah (this) λn i=>?_
   clear this
   refine ab (K.val y n i) λuu g=>?_
   refine ao (g) λu _ hr _=>?_
   clear g
   refine ah (hr.there D hf) λo e=>?_
   rw[hD] at e; exact nN e
theorem tz (h:lQ e=true):(∃ elt y it,e = .comp elt y it)\/∃ elt y it c,e = .compif elt y it c:=by
 cases e with
 | comp elt y it=>exact .inl ⟨_,_,_,rfl⟩
 | compif elt y it c=>exact .inr ⟨_,_,_,_,rfl⟩
 | _=>exact nF h
theorem qX (S:SimE fns k C XP e) (Sc:(∀ elt y it,e = .comp elt y it->dR fns k C XP it/\SimE fns k C XP elt)/\∀ elt y it c,e = .compif elt y it c->dR fns k C XP it/\SimE fns k C XP elt/\SimT fns k C XP c):fK fns k C (.assign x e):=by
 intro stmt h0 P Z A env σ vals fp s Q Er σ' fl ok K he hN hR
 replace ok:=uT ok
 revert ok; refine λL6=>Or.elim L6 (λLM=>?_) (λok=>?_)
 ·clear L6
  refine dM (LM) λt pt v spos Mj ok=>?_
  clear LM
  subst Mj
  simp only[and_eq_true,beq_iff_eq] at ok
  refine ab (ok) λLy oe=>?_
  clear ok
  refine ab (Ly) λLG hb=>?_
  clear Ly
  subst LG
  refine fQ hb λh1 h2 h3=>?_
  simp only[ce] at he
  refine Out.bind_k he λr hr he=>?_
  replace hr:=CE hr
  replace hN:=lE he hN
  clear he hR
  have n:swapsWith v (some (.Name (Str.ofString x) pt)) spos.line env=pure false->wpAny (model prog w) A (exec (.Assign [.Name (Str.ofString x) pt] v spos) env) Q Er s:=λhsw=>by
   refine wpAny_Assign_Name (K.eval S oe hr λu s' E=>?_) hsw
   exact K.put_ep h1 h3 E λs'' as rv st kk K' F=>hN s'' _ _ (E.keeps.stp.trans st) K' F
  cases hc:lQ e with
  | false=>exact n (qS (tX hc oe) _ _ _)
  | true=>
   refine Or.elim (tz hc) (λq0=>?_) (λq0=>?_)
   ·refine Iu (q0) λelt y it e0=>?_
    clear q0
    refine ab (Sc.1 elt y it e0) λSi Se=>?_
    clear Sc S hc
    subst e0
    replace oe:=uB oe
    revert oe; refine λMb=>Or.elim Mb (λLU=>?_) (λoe=>?_)
    ·clear Mb
     refine sA (LU) λee ty py iter sc pos M1 oe=>?_
     clear LU
     subst M1
     rcases lR (e:=ee) (gs:=[⟨.Name ty py,iter,[],0⟩]) (sc:=sc) (p:=pos) (t:=Str.ofString x) (q:=pt) (l:=spos.line) (env:=env) with hsw | hsw
     ·simp only[and_eq_true,beq_iff_eq] at oe
      revert oe; intro MK
      refine ab (MK) λLz oe=>?_
      clear MK
      refine ab (Lz) λLA oi=>?_
      clear Lz
      refine ab (LA) λLH hsc=>?_
      clear LA
      (clear n; subst LH)
      have X:=K.cx (fv (.comp elt y it))
      have e1:ev C (.comp elt y it) (dB σ (fv (.comp elt y it))) = .ok r:=by rw[aB C _ _ σ (fE σ _)]; exact hr
      simp only[cX] at e1
      refine Out.bind_k e1 λq hq e1=>?_
      refine Out.bind_k e1 λres g e1=>?_
      (have j:=Out.ok.inj e1; clear e1; (clear hr; subst j))
      refine lZ hsc X (oK oi env) hsw λcl hcl=>Si oi X (by rw[hq]; simp) (λq' hq' i s₂ I=>?_) λc hc=>by rw[hq] at hc; cases hc
      rw[hq] at hq'; injection hq'
      obtain ⟨res',o⟩:=fw (by rw[g]; simp:(bE _ q.1).calm≠.bad)
      rw[o] at g; injection g
      refine fM (RR:=λacc C=>compPost (model prog w) A Er (some (assign (.Name (Str.ofString x) pt) env)) (λuu s'=>Q .next s') acc C) (ds:=q.1) hsc X o (λd r hf cenv s₃ P' Q₁ Qb Er' hNm X' g1 g2=>wpAny_tests_nil ?_) I (λD C h tk m E hm hC=>pV K hb E hm hC λs' vals' fp' st K' F=>hN s' vals' fp' st K' F) hcl
      rw[if_pos rfl]
      refine Out.bind_k hf λz hz e=>?_
      (have j:=Out.ok.inj e; clear e; (clear g1 hf; subst j))
      exact Se (hNm▸oe) X' (by rw[hz]; simp) (λr hr v s' E=>g2 r (by rw[hz] at hr; (have j:=Out.ok.inj hr; clear hr; (clear E; subst j)); rfl) v s' E) λc hc=>by rw[hz] at hc; cases hc
     ·exact n hsw
    ·cases oe
   ·refine FF (q0) λelt y it c e0=>?_
    clear q0
    refine aI (Sc.2 elt y it c e0) λSi Se Sc'=>?_
    clear Sc S hc
    subst e0
    replace oe:=oP oe
    revert oe; refine λMD=>Or.elim MD (λMf=>?_) (λoe=>?_)
    ·clear MD
     refine lS (Mf) λee ty py iter ff sc pos MS oe=>?_
     clear Mf
     subst MS
     rcases lR (e:=ee) (gs:=[⟨.Name ty py,iter,[ff],0⟩]) (sc:=sc) (p:=pos) (t:=Str.ofString x) (q:=pt) (l:=spos.line) (env:=env) with hsw | hsw
     ·simp only[and_eq_true,beq_iff_eq] at oe
      revert oe; intro MR
      refine ab (MR) λLJ oe=>?_
      clear MR
      refine ab (LJ) λLD j=>?_
      clear LJ
      refine ab (LD) λLB oi=>?_
      clear LD
      refine ab (LB) λLF hsc=>?_
      clear LB
      (clear n; subst LF)
      have X:=K.cx (fv (.compif elt y it c))
      have e1:ev C (.compif elt y it c) (dB σ (fv (.compif elt y it c))) = .ok r:=by rw[aB C _ _ σ (fE σ _)]; exact hr
      simp only[cb] at e1
      refine Out.bind_k e1 λq hq e1=>?_
      refine Out.bind_k e1 λres g e1=>?_
      (have j:=Out.ok.inj e1; clear e1; (clear hr; subst j))
      refine lZ hsc X (oK oi env) hsw λcl hcl=>Si oi X (by rw[hq]; simp) (λq' hq' i s₂ I=>?_) λc hc=>by rw[hq] at hc; cases hc
      rw[hq] at hq'; injection hq'
      obtain ⟨res',o⟩:=fw (by rw[g]; simp:(bE _ q.1).calm≠.bad)
      rw[o] at g; injection g
      refine fM (RR:=λacc C=>compPost (model prog w) A Er (some (assign (.Name (Str.ofString x) pt) env)) (λuu s'=>Q .next s') acc C) (ds:=q.1) hsc X o (λd r hf cenv s₃ P' Q₁ Qb Er' hNm X' g1 g2=>wpAny_tests_one ?_) I (λD C h tk m E hm hC=>pV K hb E hm hC λs' vals' fp' st K' F=>hN s' vals' fp' st K' F) hcl
      refine Out.bind_k hf λt ht hf=>?_
      refine Out.bind_k hf λb hb' hf=>?_
      refine Sc' (hNm▸j) X' (by rw[ht,Out.ok_bind,hb']; simp) (λb'' hb'' s₄ kd=>?_) λc hc=>by rw[ht] at hc; cases hc
      rw[ht,Out.ok_bind,hb'] at hb''
      injection hb''
      cases b with
      | false=>(have j:=Out.ok.inj hf; clear hf; (clear g2; subst j)); simpa using g1 rfl s₄ kd
      | true=>
       rw[if_pos rfl] at hf ⊢
       refine Out.bind_k hf λz hz e=>?_
       (have j:=Out.ok.inj e; clear e; (clear g1; subst j))
       exact Se (hNm▸oe) (X'.k kd.k) (by rw[hz]; simp) (λr hr v s' E=>g2 r (by rw[hz] at hr; (have j:=Out.ok.inj hr; clear hr; (clear E; subst j)); rfl) v s' (E.after kd)) λc hc=>by rw[hz] at hc; cases hc
     ·exact n hsw
    ·cases oe
 ·cases ok
end
section
variable {fns:Fns}{k:Nat}{C:Calls}{XP:String->Shared->Value->Shared->Prop}
variable {h0:Heap}{P Z:Addr->Prop}{A:Around}{env:Env}{σ:St}{vals:String->Option Value}{fp:String->List Addr}
theorem SOK.putl {s s₂:Shared}{h':Heap}{ns:List String}{x:String}{xs zs:List PyData}{mx m:Mode}{as:List Addr}{σ':St}{fl:Flw}{a:Addr}{vs vs':List Value}{n n':Nat}{bs bs':List Addr}
  (K:SOK fns k h0 P Z A env s.heap σ vals fp) (kp:Kp s s₂) (ha:∀ b∈as,Own σ fp ns b\/s.heap.get? b=none) (hdp:m = .deep->(∀ b∈as,s.heap.get? b=none)/\as.Nodup)
  (hx:σ x=some (.d (.list xs),mx)) (hput:jh σ x ns mx zs m = .ok (σ',fl)) (hm:mx≠.sh)
  (hv:vals x=some (.ref a)) (ea:s.heap.get? a=some ⟨.type "list", none,.seq vs.toArray n,#[]⟩) (hfp:fp x=a::bs) (hZ:¬ Z a) (hab:a∉bs) (hne:∀ y q,y≠x->σ y=some q->a∉fp y) (hP:∀ b∈a::bs,b≠env.locals/\(P b\/h0.get? b=none))
  (hdx:mx = .deep->(∀ b∈bs,¬ Z b/\∀ y q,y≠x->σ y=some q->b∉fp y)/\bs.Nodup)
  (hs:Heap.SameBut a s₂.heap h') (ea':h'.get? a=some ⟨.type "list", none,.seq vs'.toArray n',#[]⟩) (rr:RA s₂.heap vs' zs bs') (hz:∀ z∈zs,sz z=true) (hbs:∀ b∈bs',b∈bs\/b∈as) (hnd:(bs++as).Nodup->bs'.Nodup) :
  fl = .next/\∃ fp',SOK fns k h0 P Z A env h' σ' vals fp'/\Frm Z [x] σ vals fp σ' vals fp':=by
 have nz:∀ a,s.heap.get? a=none->¬ Z a:=λa e hz=>by
  refine ah (K.zdom a hz) λo e'=>?_
  rw[e] at e'; exact nN e'
 have nf:∀ a,s.heap.get? a=none->∀ y q,σ y=some q->a∉fp y:=λa e y q r hm=>by
  refine ab (K.val y q r) λuu MJ=>?_
  refine ao (MJ) λu _ hr _=>?_
  clear MJ
  refine ah (hr.there a hm) λo e'=>?_
  rw[e] at e'; exact nN e'
 unfold jh at hput
 split at hput
 ·rename_i hlen
  have l:=kp.k.get ea rfl
  have main:∀ (g:m = .deep\/x∉ns),a∉as:=λg hm=>by
   refine Or.elim (ha a hm) (λLM=>?_) (λh1=>?_)
   ·refine aA (LM) λz q hz r hf=>?_
    clear LM
    rcases g with hc | hc
    ·have:=(hdp hc).1 a hm
     rw[ea] at this; exact nM this
    ·exact hne z q (λe=>hc (e▸hz)) r hf
   ·rw[ea] at h1; exact nM h1
  have rv':(g:m = .deep\/x∉ns)->RV h' (.ref a) (.d (.list zs)) (a::bs'):=λg=>by
   refine ⟨.list ea' (rr.off (wr:=[a]) (λb hb o e=>.inr ?_) λb o hb e=>hs.extBut b o (λq=>hb (by simp[q])) e),sz_list.mpr ⟨?_,hz⟩⟩
   ·rw[mem_singleton.mp hb] at e ⊢
    rw[l] at e; injection e
    exact ⟨by simp,λhm=>(hbs a hm).elim hab (main g)⟩
   ·unfold lim at hlen; exact zC hlen
  have pb:∀ b∈bs',b≠env.locals/\(P b\/h0.get? b=none):=λb hb=>by
   rcases hbs b hb with h1 | h1
   ·exact hP b (.tail _ h1)
   ·rcases ha b h1 with h2 | h2
    ·exact (K.own h2).2
    ·refine ⟨λq=>?_,.inr ?_⟩
     ·refine ae (K.loc.ns) λm' LC _=>?_
      refine bz (LC) λo _ _ e _=>?_
      clear LC
      rw[<- q] at e
      rw[h2] at e; exact nN e
     ·cases e:h0.get? b with
      | none=>rfl
      | some o=>obtain ⟨_,e'⟩:=Internal.K.there K.kp0 e; rw[e'] at h2; exact nM h2
  have abs:(g:m = .deep\/x∉ns)->a∉bs':=λg hm=>(hbs a hm).elim hab (main g)
  have org:∀ b∈a::bs',Z b->∃ z q,σ z=some q/\b∈fp z:=λb hb hz=>by
   rcases mem_cons.mp hb with rfl | hb
   ·exact absurd hz hZ
   ·rcases hbs b hb with hb | hb
    ·exact (ay x _ hx (by rw[hfp]; exact .tail _ hb))
    ·refine Or.elim (ha b hb) (λLU=>?_) (λh1=>?_)
     ·refine aA (LU) λy q Mr h1 h2=>?_
      clear LU
      exact (ay y q h1 h2)
     ·exact absurd hz (nz b h1)
  split at hput
  ·rename_i v
   cases hput
   refine (az rfl (ag _ ?_ (.one (λuu uu=>rfl) (λz q h=>⟨q,h⟩) org)))
   refine ((K.onK kp.k).write hx hv l (by simp) Stay.not_list (λuu q=>by cases q) hZ hne (hP a (.head _)) hs (rv' (.inl v)) pb (λuu=>abs (.inl v)) (λj=>?_) λt q hy r=>?_)
   ·refine ab (hdx j) λg1 g2=>?_
    refine ab (hdp v) λg3 g4=>?_
    refine ⟨λb hb=>?_,nodup_cons.mpr ⟨abs (.inl v),hnd (nodup_append.mpr ⟨g2,g4,λb hb c hc q=>?_⟩)⟩⟩
    ·rcases hbs b hb with h1 | h1
     ·exact g1 b h1
     ·exact ⟨nz b (g3 b h1),λy q _ r=>nf b (g3 b h1) y q r⟩
    ·subst q
     exact nf b (g3 b hc) x _ hx (by rw[hfp]; exact .tail _ hb)
   ·have g3:=(hdp v).1
    refine ⟨λht b cs e hm=>?_,λhd b hb hm=>?_⟩
    ·refine bl (K.top t q r ht) λb' cs' e' _ _ h4=>?_
     rw[e] at e'; cases e'
     rcases hbs b hm with h1 | h1
     ·exact h4 x _ (Ne.symm hy) hx (by rw[hfp]; exact .tail _ h1)
     ·exact nf b (g3 b h1) t q r (by rw[e]; exact .head _)
    ·rcases hbs b hm with h1 | h1
     ·exact ((K.deep t q r hd).1 b hb).2 x _ (Ne.symm hy) hx (by rw[hfp]; exact .tail _ h1)
     ·exact nf b (g3 b h1) t q r hb
  ·split at hput
   ·exact nB hput
   ·rename_i v hxn
    cases hput
    have hx':Internal.demote σ ns x=some (V.d (.list xs),mx):=by unfold Internal.demote; rw[if_neg hxn]; exact hx
    refine (az rfl (ag _ ?_ (.one (λuu uu=>rfl) (λz q h=>ae (bU h) λq' h' uu=>⟨q',h'⟩) org)))
    refine (((K.onK kp.k).demote ns).write hx' hv l (by simp) Stay.not_list (λuu q=>by cases q) hZ (λt q hy r=>?_) (hP a (.head _)) hs (rv' (.inr hxn)) pb (λuu=>abs (.inr hxn)) (λj=>by cases j) λt q hy r=>?_)
    ·refine ae (bU r) λq' i _=>?_
     exact hne t q' hy i
    ·refine eV r λq' i e1 hc=>?_
     rcases hc with ⟨_,rfl⟩ | ⟨hn,rfl⟩
     ·refine ⟨λh=>absurd h ip,λh b hb=>?_⟩
      refine ab (K.val t q' i) λuu My=>?_
      refine ao (My) λu _ hr _=>?_
      clear My
      rw[hr.scal_nil (fZ h)] at hb
      cases hb
     ·refine ⟨λht b cs e hm=>?_,λhd b hb hm=>?_⟩
      ·refine bl (K.top t q i ht) λb' cs' e' _ _ h4=>?_
       rw[e] at e'; cases e'
       rcases hbs b hm with h1 | h1
       ·exact h4 x _ (Ne.symm hy) hx (by rw[hfp]; exact .tail _ h1)
       ·refine Or.elim (ha b h1) (λMf=>?_) (λh2=>?_)
        ·refine aA (Mf) λz p hz hp hf=>?_
         clear Mf
         exact h4 z p (λq=>hn (q▸hz)) hp hf
        ·exact nf b h2 t q i (by rw[e]; exact .head _)
      ·rcases hbs b hm with h1 | h1
       ·exact ((K.deep t q i hd).1 b hb).2 x _ (Ne.symm hy) hx (by rw[hfp]; exact .tail _ h1)
       ·refine Or.elim (ha b h1) (λMc=>?_) (λh2=>?_)
        ·refine aA (Mc) λz p hz hp hf=>?_
         clear Mc
         exact ((K.deep t q i hd).1 b hb).2 z p (λq=>hn (q▸hz)) hp hf
        ·exact nf b h2 t q i hb
 ·exact nB hput
theorem yZ (eok:EnvOk env):interactive env=false:=by unfold interactive; rw[eok.kind]; rfl
set_option tactic.hygienic true in
theorem qQ (S:SimE fns k C XP e):fK fns k C (.append x e):=by
 intro stmt h0 P Z A env σ vals fp s Q Er σ' fl j K i hN hR
 replace j:=ui j
 revert j; refine λl=>Or.elim l (λp=>?_) (λj=>?_)
 ·clear l
  refine lS (p) λt pt mm ap v pos spos q j=>?_
  clear p
  subst q
  simp only[and_eq_true,beq_iff_eq] at j
  refine ab (j) λLy oe=>?_
  clear j
  refine ab (Ly) λLG hb=>?_
  clear Ly
  refine ab (LG) λLz LA=>?_
  clear LG
  refine ab (Lz) λLH hl=>?_
  clear Lz
  subst LH
  subst LA
  refine fQ hb λh1 h2 h3=>?_
  simp only[eI] at i
  refine oT i λr hr i=>?_
  obtain ⟨ry,m⟩:=r
  dsimp only at i
  split at i
  ·rename_i y vv mx hx0
   split at i
   rotate_left
   ·exact nB i
   rename_i xs hxx
   cases jw hxx
   have hx:=hx0
   split at i
   ·exact nB i
   ·rename_i hmx
    refine uv (K.head hx hmx) λa vs n bs hv ea ra hfp hz hZ hab hne hP hdx=>?_
    refine wpAny_Expr_any (wpAny_Call_append rfl (by rw[aT oe]; rfl) (by simpa using hl) (by rw[aT oe]; rfl) ?_) (yZ K.eok)
    refine dK K.eok.kind h2 (K.loc.var K.eok hv) (bJ a vs.toArray rfl (bO _ n ea rfl rfl rfl) (K.eval S oe hr λu s₂ E=>?_))
    obtain ⟨kp,as,LJ,ha,ht,hd⟩:=E
    refine ab (LJ) λru zu=>?_
    clear LJ
    have hlen:=ra.length
    have hzl:=(sz_list.mp hz)
    refine wpAny_list_append_plain (hsz:=by rw[size_toArray,hlen]; unfold sizeLine; exact ze hzl) ⟨n,kp.k.get ea rfl⟩ λh' hp hs=>?_
    refine ah (hp) λn' ep=>?_
    clear hp
    have:=K.putl kp ha hd hx i hmx hv ea hfp hZ hab hne hP hdx hs (vs':=vs++[u]) (by simpa using ep) ((ra.k kp.k).append (.cons ru .nil)) (λz hz'=>by
     rcases mem_append.mp hz' with h | h
     ·exact hzl.2 z h
     ·rw[mem_singleton.mp h]; exact zu) (λb hb=>by
     rcases mem_append.mp hb with h | h
     ·exact .inl h
     ·exact .inr (by simpa using h)) (λh=>by simpa using h)
    refine ab (this) λhfl g=>?_
    clear this
    refine ae (g) λfp' K' F'=>?_
    clear g
    exact hN hfl _ vals fp' (kp.stp.same hs hZ λo e=>by rw[kp.k.get ea rfl] at e; injection e; exact Stay.not_list) K' F'
  ·exact nB i
 ·cases j
end
section
theorem RA.erase (i:Nat) (r:RA h vs xs bs):∃ bs',RA h (vs.eraseIdx i) (xs.eraseIdx i) bs'/\∀ b∈bs',b∈bs :=
 RA.ind (N:=λvs xs bs=>∀ i,∃ bs',RA h (vs.eraseIdx i) (xs.eraseIdx i) bs'/\∀ b∈bs',b∈bs) (λuu=>(ag ([]) RA.nil (λuu h=>(nomatch h)))) (λx r j i=>by
  cases i with
  | zero=>exact (ag _ r (λb g=>mem_append_right _ g))
  | succ i=>
   refine ae (j i) λbs' q k=>?_
   exact (ag _ (RA.cons x q) (λb g=>(mem_append.mp g).elim (mem_append_left _) λh=>mem_append_right _ (k b h)))) r i
theorem xV (l:List Value) (i:Nat):l.toArray.eraseIdxIfInBounds i=(l.eraseIdx i).toArray:=by
 apply Array.toList_inj.mp
 unfold Array.eraseIdxIfInBounds
 split
 ·simp
 ·rename_i h
  simp at h
  simp[List.eraseIdx_of_length_le h]
set_option tactic.hygienic true in
theorem wM (Si:SimE fns k C XP i):fK fns k C (.pop x i):=by
 intro stmt h0 P Z A env σ vals fp s Q Er σ' fl v K he hN hR
 replace v:=Cs v
 revert v; refine λL6=>Or.elim L6 (λLM=>?_) (λv=>?_)
 ·clear L6
  refine lS (LM) λt pt mm ap vi pos spos MW v=>?_
  clear LM
  subst MW
  simp only[and_eq_true,beq_iff_eq] at v
  refine ab (v) λLC oi=>?_
  clear v
  refine ab (LC) λLy l=>?_
  clear LC
  refine ab (Ly) λLG Lz=>?_
  clear Ly
  refine ab (LG) λLA hl=>?_
  clear LG
  subst LA
  subst Lz
  refine fQ l λh1 h2 h3=>?_
  simp only[mw] at he
  refine oT he λq hq g=>?_
  clear he
  obtain ⟨ri,mi⟩:=q
  dsimp only at g
  split at g
  ·rename_i j vv mx hx0
   split at g
   rotate_left
   ·exact nB g
   rename_i u hxx
   cases jw hxx
   have hx:=hx0
   split at g
   ·exact nB g
   ·rename_i p
    replace hN:=lE g hN
    clear g hR
    have hmx':mx≠.sh:=λq=>p (.inl q)
    have hj0:0<=j:=not_lt.mp λq=>p (.inr (.inl q))
    have hjl:j<u.length:=not_le.mp λq=>p (.inr (.inr q))
    refine uv (K.head hx hmx') λa vs n bs hv ea ra hfp hz hZ hab hne hP hdx=>?_
    have r:=ra.length
    have hzl:=(sz_list.mp hz)
    refine wpAny_Expr_any (wpAny_Call_method (T:="list") (id:="list.pop") rfl (by rw[aT oi]; rfl) (by simpa using hl) F.plainAttrs_list F.slot_list_pop F.type_list_pop ?_) (yZ K.eok)
    refine dK K.eok.kind h2 (K.loc.var K.eok hv) ⟨(ag _ ea rfl),λb l=>?_,?_⟩
    ·cases l; exact (ag _ ea rfl)
    have fin:wpAny (model prog w) A (spliced (backTo pos (starEach [vi] env))) (λws s₁=>wpAny (model prog w) A (call (.builtin "list.pop") ([.ref a]++ws)) (λuu=>Q .next) Er s₁) Er s:=by
     refine jq _ oi (K.eval Si oi hq λvj m Ei=>?_)
     obtain ⟨y,is,LH,_⟩:=Ei
     refine ab (LH) λrj _=>?_
     clear LH
     cases rj
     have hlt:j.toNat<vs.length:=by exact Dr p r
     refine call_meets F.slot_list_pop (ag _ (y.k.get ea rfl) rfl) F.entry_list_pop (F.args_list_pop_2 _ _) (PySem.MeetsSeq.list_pop_at a vs.toArray n j _ j.toNat vs[j.toNat] ?_ ?_ ?_ ?_) ⟨y.k.get ea rfl,?_⟩
     ·unfold Builtin.List.listFitsIndex
      simp
      exact F3 p hzl
     ·unfold seqIndex?
      rw[size_toArray,r]
      simp only[if_neg (not_lt.mpr hj0)]
      simp[hj0,hjl]
     ·simp[hlt]
     ·rw[size_toArray,r]; unfold sizeLine; exact ze hzl
     ·refine ae ((ra.k y.k).erase j.toNat) λbs' q1 q2=>?_
      obtain ⟨n',hup⟩:∃ n',IsL (m.heap.update a (Obj.mapSeq λu=>u.eraseIdxIfInBounds j.toNat)) a (vs.eraseIdx j.toNat).toArray n':=by
       have:=IsL.update (y.k.get ea rfl) (λu:Array Value=>u.eraseIdxIfInBounds j.toNat)
       rw[xV] at this
       exact ⟨_,this⟩
      have hs:Heap.SameBut a m.heap (m.heap.update a (Obj.mapSeq λu=>u.eraseIdxIfInBounds j.toNat)):=Heap.SameBut.update ..
      have hab':a∉bs':=λh=>hab (q2 a h)
      have rv:RV (m.heap.update a (Obj.mapSeq λu=>u.eraseIdxIfInBounds j.toNat)) (.ref a) (.d (.list (u.eraseIdx j.toNat))) (a::bs'):=by
       refine ⟨.list hup (q1.off (wr:=[a]) (λb l o e=>.inr ?_) λb o l e=>hs.extBut b o (λq=>l (by simp[q])) e),sz_list.mpr ⟨le_trans (List.length_eraseIdx_le ..) hzl.1,λz hz=>hzl.2 z (List.mem_of_mem_eraseIdx hz)⟩⟩
       rw[mem_singleton.mp l] at e ⊢
       rw[y.k.get ea rfl] at e; injection e
       exact ⟨by simp,hab'⟩
      have K':=(K.onK y.k).write (m':=.top) hx hv (y.k.get ea rfl) (by simp) Stay.not_list (λuu q=>by cases q) hZ hne (hP a (.head _)) hs rv (λb l=>hP b (.tail _ (q2 b l))) (λuu=>hab') (λh=>by cases h) λy' q hy hq=>⟨λht b cs e hm=>by
       refine bl (K.top y' q hq ht) λb' cs' e' _ _ h4=>?_
       rw[e] at e'; cases e'
       exact h4 x _ (Ne.symm hy) hx (by rw[hfp]; exact .tail _ (q2 b hm)),λhd b l hm=>((K.deep y' q hq hd).1 b l).2 x _ (Ne.symm hy) hx (by rw[hfp]; exact .tail _ (q2 b hm))⟩
      exact hN _ vals _ (y.stp.same hs hZ λo e=>by rw[y.k.get ea rfl] at e; injection e; exact Stay.not_list) K' (.one (λuu uu=>rfl) (λz q h=>⟨q,h⟩) λb l hz=>(mem_cons.mp l).elim (λq=>absurd hz (q▸hZ)) λl=>(ay x _ hx (by rw[hfp]; exact .tail _ (q2 b l))))
    rw[aT oi] at fin ⊢
    exact Calls.callWith_builtin rfl (Calls.evalArgs_plain (wpAny_mono fin (λvs s₁ ha=>ha) λuu uu e=>e))
  ·exact nB g
 ·cases v
theorem SOK.dict (K:SOK fns k h0 P Z A env h σ vals fp) (hx:σ x=some (v,.deep)) (hfp:fp x=[a]) :
  ¬ Z a/\(∀ y q,y≠x->σ y=some q->a∉fp y)/\a≠env.locals/\(P a\/h0.get? a=none):=by
 refine ab (K.deep x _ hx rfl) λj _=>?_
 refine ab (K.val x _ hx) λuu g=>?_
 refine ao (g) λu _ _ l=>?_
 clear g
 have i:a∈fp x:=by rw[hfp]; exact .head _
 exact ⟨(j a i).1,(j a i).2,l a i⟩
theorem qG (ks:List Int) (i:Int):stored (ks.map λk=>(k,Value.bool true)) i (.bool true)=(if i∈ks then ks else ks++[i]).map λk=>(k,.bool true):=by
 unfold stored
 by_cases hi:i∈ks
 ·rw[if_pos (by simpa using hi),if_pos hi,map_map]
  apply List.map_congr_left
  intro a _
  simp only[Function.comp]
  split<;>rfl
 ·rw[if_neg (by simpa using hi),if_neg hi,map_append]
  rfl
theorem qA (ho:h.get? a=some o) (hd:o.data = .dict es ep) (hs:Heap.SameBut a h h') (r:R h (.ref a') (aJ t) []) (hx:∀ x∈xs,R h (.ref x.2.1) (aJ x.1) []):∀ x∈storedH xs t a' v,R h' (.ref x.2.1) (aJ x.1) []:=by
 have off:∀ {v:Value}{d:PyData},R h v d []->R h' v d []:=λr=>r.off (wr:=[a]) (λb g l e=>.inl λk n q=>by rw[mem_singleton.mp g,ho] at e; injection e; rw[hd] at q; cases q) λb o g e=>hs.extBut b o (λq=>g (by simp[q])) e
 intro x j
 rcases mem_storedH j with ⟨y,hy,e1,e2⟩ | ⟨e1,e2⟩
 ·rw[e1,e2]; exact off (hx y hy)
 ·rw[e1,e2]; exact off r
theorem jz (xs:List (List Int×Addr×Value)) (t:List Int) (a:Addr) (v:Value):(storedH xs t a v).map (·.1)=if t∈xs.map (·.1) then xs.map (·.1) else xs.map (·.1)++[t]:=by
 unfold storedH
 rw[jm]
 by_cases hi:t∈xs.map (·.1)
 ·rw[if_pos (by simpa using hi),if_pos hi,map_map]
  apply List.map_congr_left
  intro y _
  simp only[Function.comp,putAt]
  split<;>rfl
 ·rw[if_neg (by simpa using hi),if_neg hi,map_append]
  rfl
theorem lT:∀ {xs:List PyData}{ns:List Int},aF xs=some ns->ns.length=xs.length
 | [],ns,h=>by simp[aF] at h; subst h; rfl
 | y::xs,ns,h=>by
  cases y<;>simp only[aF] at h<;>try (cases h)
  refine bw h λi e g=>?_
  (clear h; subst g)
  rw[length_cons,length_cons,lT e]
theorem qy (h:dy x=some t) (z:sz x=true):t.length<=2^22:=by
 cases x<;>simp only[dy] at h<;>try (cases h)
 rw[lT h]
 exact (sz_tuple.mp z).1
set_option tactic.hygienic true in
theorem qw (S:SimE fns k C XP e):fK fns k C (.setitem x e):=by
 intro stmt h0 P Z A env σ vals fp s Q Er σ' fl ok K he hN hR
 replace ok:=sH ok
 revert ok; refine λMb=>Or.elim Mb (λLU=>?_) (λok=>?_)
 ·clear Mb
  refine lS (LU) λt pt ix ps c1 c2 spos MY ok=>?_
  clear LU
  subst MY
  simp only[and_eq_true,beq_iff_eq] at ok
  refine ab (ok) λLD oe=>?_
  clear ok
  refine ab (LD) λLB hb=>?_
  clear LD
  subst LB
  refine fQ hb λh1 h2 h3=>?_
  simp only[cQ] at he
  refine oT he λr hr g=>?_
  clear he
  obtain ⟨ri,mi⟩:=r
  dsimp only at g
  split at g
  ·rename_i kd v hx
   refine wpAny_Assign_Subscript (wpAny_Constant_bool ?_)
   refine ab (K.val x _ hx) λuu L0=>?_
   refine ao (L0) λu hv hrv _=>?_
   clear L0
   dsimp only at hrv
   refine dK K.eok.kind h2 (K.loc.var K.eok hv) (K.eval S oe hr λvk s₂ E=>?_)
   obtain ⟨kk,is,LF,_⟩:=E
   refine ab (LF) λrk zk=>?_
   clear LF
   have K₂:=K.onK kk.k
   have l:=hrv.k kk.k
   have fin:∀ {a:Addr}{o:Obj}{v':V}{h':Heap}{tk':Nat},u = .ref a->fp x=[a]->s₂.heap.get? a=some o->o.ExactDict->(∃ es ep,o.data = .dict es ep)->Heap.SameBut a s₂.heap h'->RV h' (.ref a) v' [a]->(Out.ok (upd σ x (v',.deep),Flw.next):Out (St×Flw)) = .ok (σ',fl)->Q .next {s₂ with heap:=h',toks:=tk' }:=λ{a} {o} {v'} {h'} {tk'} hu hfp ho p j hs rv he=>by
    (clear hrv l; subst hu)
    refine cU (K.dict hx hfp) λd1 d2 d3 d4=>?_
    have hoc:o.cls≠.type "tuple" := λq=>by
     rw[p.1] at q; simp at q
    have hod:∀ v,o.data≠.cell v:=λv q=>by
     refine aY (j) λes ep e=>?_
     clear j
     rw[e] at q; cases q
    have K':=K₂.write (m':=.deep) (bs':=[]) hx hv ho hoc (j.elim λes j=>j.elim λep j=>Stay.not_dict j) hod d1 d2 ⟨d3,d4⟩ hs rv (λuu h=>(nomatch h)) (λuu h=>(nomatch h)) (λuu=>⟨λuu h=>(nomatch h),by simp⟩) λy q hy hq=>⟨λuu uu uu uu h=>(nomatch h),λuu uu uu h=>(nomatch h)⟩
    exact lE he hN _ vals _ (kk.stp.same hs d1 λo' e=>by rw[ho] at e; injection e; exact j.elim λes j=>j.elim λep j=>Stay.not_dict j) K' (.one (λuu uu=>rfl) (λz q h=>⟨q,h⟩) λb hb hz=>absurd hz (mem_singleton.mp hb▸d1))
   cases v with
   | dic0=>
    refine jT (l) λa LI hfp hsm hdI hdT=>?_
    clear l
    (clear hrv hv; subst LI)
    simp only[gO] at g
    split at g
    ·rename_i i hi
     (have oc:=cV hi; (clear hr zk; subst oc))
     refine R.isInt_k rk λti oqi _=>?_
     (clear rk; subst oqi)
     have m:=hdI
     refine fx (m) λo es ep ho p j _=>?_
     clear m
     refine wpAny_setItem_pairs (intKind_is prog w _ _) hdI (λh' hm' hs=>fin (v':=.dicI [_]) rfl hfp ho p (bG _ _ j) hs (bD a rfl rfl hsm ?_) g) (by simp[sizeLine])
     simpa [stored] using hm'
    ·split at g
     ·rename_i t ht
      refine ae (fr rk ht) λa' LK hk=>?_
      subst LK
      have m:=hdT
      refine fx (m) λo es ep ho p j _=>?_
      clear m
      refine wpAny_setItem_heap (tupleKind_room_in1 (rm1 K.room.2.2)) hk hdT (λh' hm' hs=>fin (v':=.dicT [_]) rfl hfp ho p (bG _ _ j) hs (gQ a _ rfl rfl hsm hm' ?_ ?_ ?_) g) (by simp[sizeLine])
      ·rw[jz]; simp
      ·intro z hz
       rw[mem_singleton.mp hz]
       exact qy ht zk
      ·exact qA ho j hs (rS rk ht) λx hx=>nomatch hx
     ·exact nB g
   | dicI ks=>
    refine ca (l) λa LL hfp hsm hdI=>?_
    clear l
    (clear hrv hv; subst LL)
    simp only[gO] at g
    split at g
    ·rename_i i hi
     split at g
     ·rename_i n
      (have oc:=cV hi; (clear hr zk; subst oc))
      refine R.isInt_k rk λti oqi _=>?_
      (clear rk; subst oqi)
      have m:=hdI
      refine fx (m) λo es ep ho p j _=>?_
      clear m
      refine wpAny_setItem_pairs (intKind_is prog w _ _) hdI (λh' hm' hs=>fin (v':=.dicI _) rfl hfp ho p (bG _ _ j) hs (bD a rfl rfl hsm ?_) g) (by rw[length_map]; unfold lim at n; unfold sizeLine; exact yP n)
      rw[qG] at hm'
      exact hm'
     ·exact nB g
    ·exact nB g
   | dicT ks=>
    refine tx (l) λa xs LN hfp hsm hdT LO hks htu=>?_
    clear l
    (clear hrv hv; subst LN)
    subst LO
    simp only[gO] at g
    split at g
    ·rename_i t ht
     split at g
     ·rename_i n
      refine ae (fr rk ht) λa' LS hk=>?_
      subst LS
      have m:=hdT
      refine fx (m) λo es ep ho p j _=>?_
      clear m
      refine wpAny_setItem_heap (tupleKind_room_in1 (rm1 K.room.2.2)) hk hdT (λh' hm' hs=>fin (v':=.dicT _) rfl hfp ho p (bG _ _ j) hs (gQ a _ rfl rfl hsm hm' ?_ ?_ ?_) g) (by rw[length_map] at n; unfold lim at n; unfold sizeLine; exact yP n)
      ·rw[jz]
      ·intro z hz
       split at hz
       ·exact hks z hz
       ·rcases mem_append.mp hz with h | h
        ·exact hks z h
        ·rw[mem_singleton.mp h]; exact qy ht zk
      ·exact qA ho j hs (rS rk ht) htu
     ·exact nB g
    ·exact nB g
   | _=>simp only[gO] at g; exact nB g
  ·exact nB g
 ·cases ok
end
section
end
section
theorem RV.fields {h h':Heap}{wr:List Addr}{v:Value}{x:V}{as:List Addr}(r:RV h v x as) (hw:∀ b∈wr,∃ o,h.get? b=some o/\(∀ C,o.cls≠.ref C)/\∃ fs,o.data = .fields fs) (kp:∀ b o,b∉wr->h.get? b=some o->h'.get? b=some o):RV h' v x as:=by
 have j:∀ b o,h.get? b=some o->(∀ fs,o.data≠.fields fs)->b∉wr:=λb o e z hm=>by
  refine ao (hw b hm) λi g _ p=>?_
  refine ah (p) λfs q=>?_
  clear p
  rw[e] at g; injection g
  exact z fs q
 have key:∀ ks b,IsTupleKey (intKind prog w) h ks b->IsTupleKey (intKind prog w) h' ks b:=λks b hk=>by
  refine aX (hk) λi it n a1 a2 a3=>?_
  clear hk
  exact (cT i it n (kp b i (j b i a1 λfs q=>by rw[a3.1] at q; cases q) a1) a2 a3)
 cases x with
 | d x=>exact ⟨r.1.off (wr:=wr) (λb hb o e=>.inl λvs n q=>by
   refine ao (hw b hb) λi g _ m=>?_
   refine ah (m) λfs q'=>?_
   clear m
   rw[e] at g; injection g
   rw[q] at q'; cases q') kp,r.2⟩
 | dic0=>
  refine jT (r) λb h1 h2 h3 LC Ly=>?_
  clear r
  refine fx (LC) λo es ep e hx z hr=>?_
  clear LC
  refine cF (Ly) λi es' ep' g h4 h5 h6 h7 h8=>?_
  clear Ly
  exact (iS b h1 h2 h3 (gX o es ep (kp b o (j b o e λfs q=>by rw[z] at q; cases q) e) hx z hr) (fW i es' ep' (kp b i (j b i g λfs q=>by rw[h5] at q; cases q) g) h4 h5 h6 (λy hy=>key _ _ (h7 y hy)) h8))
 | dicI ks=>
  refine ca (r) λb h1 h2 h3 LG=>?_
  clear r
  refine fx (LG) λo es ep e hx z hr=>?_
  clear LG
  exact (bD b h1 h2 h3 (gX o es ep (kp b o (j b o e λfs q=>by rw[z] at q; cases q) e) hx z hr))
 | dicT ks=>
  refine lm (r) λb xs h1 h2 h3 Lz h9=>?_
  clear r
  refine cF (Lz) λi es' ep' g h4 h5 h6 h7 h8=>?_
  clear Lz
  exact (gQ b xs h1 h2 h3 (fW i es' ep' (kp b i (j b i g λfs q=>by rw[h5] at q; cases q) g) h4 h5 h6 (λy hy=>key _ _ (h7 y hy)) h8) h9.1 h9.2.1 (λx hx=>(h9.2.2 x hx).off (wr:=wr) (λb hb o e=>.inl λvs n q=>by
   refine ao (hw b hb) λi g _ l=>?_
   refine ah (l) λfs q'=>?_
   clear l
   rw[e] at g; injection g
   rw[q] at q'; cases q') kp))
 | rule c d n=>
  refine ja (r) λx D o vf bs t u mA h1 h2 h3 h4 h5 h6 h7 LA h9 h10 h11 h12 h13 h14=>?_
  clear r
  refine bz (LA) λoD es ep e z=>?_
  clear LA
  have nx:x∉wr:=λhm=>by
   refine ao (hw x hm) λi g hn _=>?_
   rw[h3] at g; injection g
   exact hn _ h4
  have nD:D∉wr:=j D oD e λfs q=>by rw[z.1] at q; cases q
  exact (jj x D o vf bs t u mA h1 h2 (kp x o nx h3) h4 h5 h6 h7 (cB oD es ep (kp D oD nD e) z) h9 h10 h11 h12 (h13.off (wr:=wr) (λb hb o e=>.inl λvs n q=>by
   refine ao (hw b hb) λi g _ k=>?_
   refine ah (k) λfs q'=>?_
   clear k
   rw[e] at g; injection g
   rw[q] at q'; cases q') kp) h14)
theorem SOK.iter {h h':Heap}{wr:List Addr}(K:SOK fns k h0 P Z A env h σ vals fp) (hw:∀ b∈wr,∃ o,h.get? b=some o/\(∀ C,o.cls≠.ref C)/\∃ fs,o.data = .fields fs) (hw':∀ b∈wr,Z b->∃ o,h'.get? b=some o) (hw0:∀ b∈wr,h0.get? b=none) (hns:∀ b∈wr,∀ o,h.get? b=some o->¬ Stay o) (kp:∀ b o,b∉wr->h.get? b=some o->h'.get? b=some o):SOK fns k h0 P Z A env h' σ vals fp:=by
 have l:∀ b o,h.get? b=some o->(∀ fs,o.data≠.fields fs)->b∉wr:=λb o e z y=>by
  refine ao (hw b y) λo' u _ j=>?_
  refine ah (j) λfs q=>?_
  clear j
  rw[e] at u; injection u
  exact z fs q
 refine ⟨K.room,K.eok,K.ge,K.z0,Internal.K.step K.kp0 (KG.ofW kp hns) (λb o e y=>by rw[hw0 b y] at e; cases e),K.code,λb hb=>?_,⟨(let ⟨m,⟨o',es,ep,u,z,_⟩,_⟩:=K.loc.ns; ae (K.loc.cls) λo e c=>(ag o (kp _ o (l _ o e λfs q=>by rw[e] at u; injection u; rw[z] at q; cases q) e) c)),?_,K.loc.nz,λn c a b=>?_,λx v c a b d=>?_,K.loc.apart,K.loc.kinds⟩,λx p hp=>?_,K.top,K.deep⟩
 ·by_cases y:b∈wr
  ·exact hw' b y hb
  ·refine ah (K.zdom b hb) λo e=>?_
   exact ⟨o,kp b o y e⟩
 ·refine ae (K.loc.ns) λm LH hv=>?_
  refine aX (LH) λo es ep e z hr=>?_
  clear LH
  exact (ag m (cT o es ep (kp _ o (l _ o e λfs q=>by rw[z] at q; cases q) e) z hr) hv)
 ·refine aI (K.loc.cell n c a b) λh1 h2 i=>?_
  refine aq (i) λv o t r=>?_
  clear i
  exact (fS h1 h2 (ay v o (kp c o (l c o t λfs q=>by rw[r] at q; cases q) t) r))
 ·refine ae (K.loc.cval x v c a b d) λo t r=>?_
  exact (ag o (kp c o (l c o t λfs q=>by rw[r] at q; cases q) t) r)
 ·refine ab (K.val x p hp) λh1 g=>?_
  refine ao (g) λv h2 t r=>?_
  clear g
  exact (az h1 (aL v h2 (t.fields hw kp) r))
theorem SOK.excl {s:Shared}{ns:List String}{m:Mode}{F:List Addr}(K:SOK fns k h0 P Z A env s.heap σ vals fp) (ha:∀ a∈F,Own σ fp ns a\/s.heap.get? a=none) (hd:m = .deep->∀ a∈F,s.heap.get? a=none) :
  ∀ y q,Internal.consume σ ns m y=some q->(q.2 = .top->∀ a bs,fp y=a::bs->a∉F)/\(q.2 = .deep->∀ a∈fp y,a∉F):=by
 have nf:∀ a,s.heap.get? a=none->∀ y q,σ y=some q->a∉fp y:=λa e y q hq hm=>by
  refine ab (K.val y q hq) λuu Mz=>?_
  refine ao (Mz) λu _ hr _=>?_
  clear Mz
  refine ah (hr.there a hm) λo e'=>?_
  rw[e] at e'; exact nN e'
 intro y q hq
 by_cases hdp:m = .deep
 ·have hq':σ y=some q:=by unfold Internal.consume at hq; rwa [if_pos hdp] at hq
  exact ⟨λuu a bs e hm=>nf a (hd hdp a hm) y q hq' (by rw[e]; exact .head _),λuu a ha' hm=>nf a (hd hdp a hm) y q hq' ha'⟩
 ·have hq2:Internal.demote σ ns y=some q:=by unfold Internal.consume at hq; rwa [if_neg hdp] at hq
  refine eV hq2 λq' hq' e1 hc=>?_
  rcases hc with ⟨_,rfl⟩ | ⟨hn,rfl⟩
  ·refine ⟨λh=>absurd h ip,λh a ha'=>?_⟩
   refine ab (K.val y q' hq') λuu Ms=>?_
   refine ao (Ms) λu _ hr _=>?_
   clear Ms
   rw[hr.scal_nil (fZ h)] at ha'
   cases ha'
  ·refine ⟨λh a bs e hm=>?_,λh a ha' hm=>?_⟩
   ·refine Or.elim (ha a hm) (λLM=>?_) (λh1=>?_)
    ·refine aA (LM) λz p hz hp hf=>?_
     clear LM
     refine bl (K.top y q hq' h) λa' bs' e' _ _ h4=>?_
     rw[e] at e'; cases e'
     exact h4 z p (λq=>hn (q▸hz)) hp hf
    ·exact nf a h1 y q hq' (by rw[e]; exact .head _)
   ·refine Or.elim (ha a hm) (λLU=>?_) (λh1=>?_)
    ·refine aA (LU) λz p hz hp hf=>?_
     clear LU
     exact ((K.deep y q hq' h).1 a ha').2 z p (λq=>hn (q▸hz)) hp hf
    ·exact nf a h1 y q hq' ha'
noncomputable def FI (fns:Fns) (k:Nat) (C:Calls) (h0:Heap) (P Z:Addr->Prop) (A:Around) (env:Env) (xs:List String) (B:PyData->Internal.St->Option Internal.St) (b:Ss) (s h:Shared) (ds:List PyData) (F wr:List Addr) (L:Addr->Prop) (St:Nat->Heap->Prop) (out:Out (Internal.St×Flw)) (σo:Internal.St) (vals:String->Option Value) (fp:String->List Addr) (n:Nat) (s':Shared):Prop :=
 ∃ (j:Nat) (σj:Internal.St) (vals':String->Option Value) (fp':String->List Addr),Stp Z s s'/\SOK fns k h0 P (λb=>Z b\/(b∈F\/b∈wr\/L b)) A env s'.heap σj vals' fp'/\St j s'.heap/\j<=ds.length/\n=ds.length+1-j /\
    bC (λy g=>am (B y g) (exs C b)) (ds.drop j) σj=out/\KG (λb=>Z b\/(b∈F\/L b)) h.heap s'.heap/\Frm (λb=>Z b\/L b) (xs++gG b) σo vals fp σj vals' fp'
noncomputable def sF (fns:Fns) (k:Nat) (A:Around) (env:Env) (tg:Expr) (xs:List String) (B:PyData->Internal.St->Option Internal.St):Prop:=∀ {h0:Heap}{P Z:Addr->Prop}{s:Shared}{σ σ':Internal.St}{vals:String->Option Value}{fp:String->List Addr}{v:Value}{d:PyData}{bs:List Addr}{Q:Unit->Shared->Prop}{Er:Value->Shared->Prop},
 SOK fns k h0 P Z A env s.heap σ vals fp->R s.heap v d bs->sz d=true->(∀ a∈bs,Z a/\a≠env.locals/\(P a\/h0.get? a=none))->B d σ=some σ' ->
 (∀ s' vals' fp',Stp Z s s'->SOK fns k h0 P Z A env s'.heap σ' vals' fp'->(∀ y,y∉xs->vals' y=vals y/\fp' y=fp y)->(∀ y q,σ' y=some q->(∀ a∈fp' y,a∈bs)\/(σ y=some q/\fp' y=fp y))->Q () s')->wpAny (model prog w) A (assign tg env v) Q Er s
theorem Cw (h:∃ o,s.heap.get? I=some o/\(hardB o=true/\noIt o.cls=true/\∀ C,o.cls≠.ref C)/\∃ fs,o.data = .fields fs) (hQ:Q () s):wpAny (model prog w) A (letOwnedTupleGo tg (.ref I) v) Q Er s:=by
 obtain ⟨o,e,⟨_,h,_⟩,fs,i⟩:=h
 have g:wpAny (model prog w) A (letOwnedTupleGo (.Tuple [] 0 default) (.ref I) v) Q Er s:=by
  cases v with
  | ref a=>
   unfold letOwnedTupleGo
   refine wpAny_bind (wpAny_load e ?_)
   rw[i]
   cases hc:o.cls with
   | type n=>
    rw[hc] at h
    have:["enumerate", "zip", "dict_itemiterator", "dict_reverseitemiterator", "odict_iterator", "itertools.zip_longest", "itertools.pairwise"].contains n=false:=by
     unfold noIt at h
     simp at h ⊢
     exact h.2
    show wpAny _ A (if (["enumerate", "zip", "dict_itemiterator", "dict_reverseitemiterator", "odict_iterator", "itertools.zip_longest", "itertools.pairwise"].contains n&&fs[0]? == some (rawInt a))=true then _ else _) Q Er s
    rw[this,if_neg (by simp)]
    exact wpAny_pure hQ
   | _=>exact wpAny_pure hQ
  | _=>exact wpAny_pure hQ
 cases tg with
 | Tuple _ _ _=>exact g
 | List _ _=>exact g
 | _=>exact wpAny_pure hQ
theorem AY {pt:Pos}(hb:bt env.scope.names x=true):sF fns k A env (.Name (Str.ofString x) pt) [x] λd σ=>some (upd σ x (mk (.d d))):=by
 intro h0 P Z s σ σ' t fp v d bs Q Er K r hz g he hQ
 cases he
 refine fQ hb λg1 g2 g3=>?_
 refine wpAny_assign_Name (K.put (r:=mk (.d d)) (as:=bs) g1 g3 ⟨r,hz⟩ (λa l=>(g a l).2) (λh=>absurd h ip) (λh=>?_) (λy q u j=>⟨λht a cs e o=>?_,λp a l o=>?_⟩) λm i _ K₃=>hQ m _ _ i K₃ (λy u=>?_) λy q j=>?_)
 ·have:bs=[]:=r.sx_nil (fZ h)
  (clear g r; subst this)
  exact ⟨λuu h=>(nomatch h),.nil⟩
 ·refine aA (K.top y q j ht) λa' bs' z h1 _=>?_
  rw[e] at z; cases z
  exact h1 (g a o).1
 ·exact ((K.deep y q j p).1 a l).1 (g a o).1
 ·have n:y≠x:=λq=>u (q▸.head _)
  exact ⟨if_neg n,if_neg n⟩
 ·unfold upd at j
  by_cases e:y=x
  ·exact .inl λa l=>by rw[if_pos e] at l; exact l
  ·rw[if_neg e] at j
   exact .inr ⟨j,if_neg e⟩
set_option maxHeartbeats 1000000 in
theorem CH (Si:dR fns k C XP it) (Sb:fo fns k C b) (nc:NC C) (L:Addr->Prop)
  (oi:ez env.scope.names it iter=true) (ob:cz env.scope.names b body=true) (TG:sF fns k A env tg xs B) (K:SOK fns k h0 P Z A env s.heap σ vals fp) (e1:a0 C it (dB σ (bQ it)) = .ok (ds,md)) (he1:bC (λy σ=>am (B y σ) (exs C b)) ds σo=out) (hnb:out≠.bad)
  (hK:∀ h',Internal.K s.heap h'->SOK fns k h0 P Z A env h' σo vals fp) (cs:∀ y q,σo y=some q->∃ q',σ y=some q')
  (hex:∀ F:List Addr,(∀ a∈F,Own σ fp (bQ it) a\/s.heap.get? a=none)->(md = .deep->∀ a∈F,s.heap.get? a=none)->∀ y q,σo y=some q->(q.2 = .top->∀ a bs,fp y=a::bs->a∉F)/\(q.2 = .deep->∀ a∈fp y,a∉F))
  (hL1:∀ a,L a->a≠env.locals/\∃ vs n,s.heap.get? a=some ⟨.type "list", none,.seq vs n,#[]⟩) (hL2:∀ y q,σo y=some q->∀ a∈fp y,¬ L a) (hsc:(∀ d∈ds,sx d=true)\/∀ y q,σ y=some q->∃ q',σo y=some q')
  (hN:∀ σ',out = .ok (σ',.next)->∀ s' vals' fp',Stp Z s s'->KG (λb=>Z b\/L b) s.heap s'.heap->SOK fns k h0 P Z A env s'.heap σ' vals' fp'->Frm (λb=>Z b\/L b) (xs++gG b) σo vals fp σ' vals' fp'->Q .next s')
  (hR:∀ σ' r,out = .ok (σ',.ret r)->∀ v s',Stp Z s s'->oO h0 P r v s'->Q (.ret v) s'):wpAny (model prog w) A (exec (.For tg iter body [] spos) env) Q Er s:=by
 refine wpAny_For (Si oi (K.cx (bQ it)) (by rw[e1]; simp) (λq' hq' i s₂ I=>?_) λc hc=>by rw[e1] at hc; cases hc) (oK oi env)
 rw[e1] at hq'; injection hq'
 obtain ⟨kpb,LF,hsm⟩:=I
 refine uV (LF) λI fpw wr Pw St F LI W hst hwr hfp hPw hF hFP hFd=>?_
 clear LF
 refine ab (LI) λLI hIw=>?_
 subst LI
 have t:∀ b o,s.heap.get? b=some o->b∉wr:=λb o e hm=>by rw[(hwr b hm).1] at e; exact nN e
 have hLs:∃ o es ep,s.heap.get? env.locals=some o/\o.data = .dict es ep:=by
  refine ae (K.loc.ns) λm LK _=>?_
  refine aX (LK) λo es ep e hd _=>?_
  clear LK
  exact (cB o es ep e hd)
 have hFL:env.locals∉F:=λhm=>by
  refine bz (hLs) λo es ep e hd=>?_
  clear hLs
  refine aY (hF _ hm) λvs n e'=>?_
  obtain ⟨_,e1,d1,_⟩:=kpb.k.data e λfs q=>by rw[hd] at q; cases q
  rw[e1] at e'; (have oc:=Option.some.inj e'; clear e'; (clear e1 right; subst oc)); rw[hd] at d1; cases d1
 have ex0:=hex F hFP hFd
 have nf:∀ y q,σo y=some q->∀ a∈fp y,a∉wr:=λy q hq a ha hm=>by
  refine ah (cs y q hq) λq' hq'=>?_
  refine ab (K.val y q' hq') λuu Mv=>?_
  refine ao (Mv) λu _ hr _=>?_
  clear Mv
  refine ah (hr.there a ha) λo e=>?_
  exact t a o e hm
 have wz:∀ b∈wr,¬ Z b:=λb hm hz=>by
  refine ah (K.zdom b hz) λo e=>?_
  exact t b o e hm
 have w0:∀ b∈wr,h0.get? b=none:=λb hm=>by
  cases e:h0.get? b with
  | none=>rfl
  | some o=>exact absurd (K.z0 b o e) (wz b hm)
 have K₂:SOK fns k h0 P (λb=>Z b\/(b∈F\/b∈wr\/L b)) A env s₂.heap σo vals fp:=by
  refine (hK _ kpb.k).freeze (λb hb=>?_) (λhm=>?_) (λn c hkn hc hm=>?_) (λy q hq hqt a bs e hm=>?_) (λy q hq hqd a ha hm=>?_)
  ·rcases hb with hb | hb | hb
   ·obtain ⟨vs,n,e⟩:=hF b hb; exact ⟨_,e⟩
   ·obtain ⟨o,e,_⟩:=(hwr b hb).2.2 0 _ hst; exact ⟨o,e⟩
   ·obtain ⟨_,vs,n,e⟩:=hL1 b hb; exact ⟨_,kpb.k.get e rfl⟩
  ·rcases hm with hm | hm | hm
   ·exact hFL hm
   ·refine bz (hLs) λo es ep e hd=>?_
    clear hLs
    exact t _ o e hm
   ·exact (hL1 _ hm).1 rfl
  ·refine aI (K.loc.cell n c hkn hc) λuu uu MF=>?_
   refine aq (MF) λv o e hd=>?_
   clear MF
   rcases hm with hm | hm | hm
   ·refine aY (hF c hm) λvs n e'=>?_
    obtain ⟨_,e1,d1,_⟩:=kpb.k.data e λfs q=>by rw[hd] at q; cases q
    rw[e1] at e'; (have oc:=Option.some.inj e'; clear e'; (clear e1 right; subst oc)); rw[hd] at d1; cases d1
   ·exact t c o e hm
   ·refine ab (hL1 c hm) λuu Mt=>?_
    refine aY (Mt) λvs n e'=>?_
    clear Mt
    rw[e] at e'; (have oc:=Option.some.inj e'; clear e'; (clear e; subst oc)); cases hd
  ·rcases hm with hm | hm | hm
   ·exact (ex0 y q hq).1 hqt a bs e hm
   ·exact nf y q hq a (by rw[e]; exact .head _) hm
   ·exact hL2 y q hq a (by rw[e]; exact .head _) hm
  ·rcases hm with hm | hm | hm
   ·exact (ex0 y q hq).2 hqd a ha hm
   ·exact nf y q hq a ha hm
   ·exact hL2 y q hq a ha hm
 have FP:∀ a∈F,a≠env.locals/\(P a\/h0.get? a=none):=λa ha=>by
  refine ⟨λq=>hFL (q▸ha),?_⟩
  rcases hFP a ha with h | h
  ·exact (K.own h).2.2
  ·right
   cases e:h0.get? a with
   | none=>rfl
   | some o=>obtain ⟨_,e'⟩:=Internal.K.there K.kp0 e; rw[e'] at h; exact nM h
 have stpb:Stp Z s s₂:=kpb.stp
 refine codeAny_forLoop_any
  (FI fns k C h0 P Z A env xs B b s s₂ ds F wr L St out σo vals fp) ?_ (ds.length+1)
  (oW 0 _ vals fp stpb K₂ hst (zero_le _) rfl (by simpa using he1) KG.refl (.id λz q h=>⟨q,h⟩))
 intro n s' LL
 refine uS (LL) λj σj vals' fp' stp' K' hst' hj LN l hkp hfr=>?_
 clear LL
 subst LN
 have hLw:∀ b,L b->b∉wr:=λb hb=>let ⟨_,vs,n,e⟩:=hL1 b hb; t b _ e
 have hwf:∀ b∈wr,∃ o,s'.heap.get? b=some o/\(∀ C,o.cls≠.ref C)/\∃ fs,o.data = .fields fs:=λb hm=>ao ((hwr b hm).2.2 j _ hst') λo e g f=>(aL o e g.2.2 f)
 have hFw:∀ a∈F,a∉wr:=λa ha hm=>(hwr a hm).2.1 ha
 have hns:∀ b∈wr,∀ o,s'.heap.get? b=some o->¬ Stay o:=λb hm o e=>by
  refine ao ((hwr b hm).2.2 j _ hst') λo' e' LO MG=>?_
  refine ah (MG) λfs q=>?_
  clear MG
  refine ab (LO) λuu hc=>?_
  clear LO
  rw[e] at e'; (have oc:=Option.some.inj e'; clear e'; (clear uu; subst oc))
  exact λx=>x.elim (λx=>noIt.code hc.1 x.1) λx=>let ⟨_,vs,n,e⟩:=x; by rw[q] at e; cases e
 have step1:∀ p tka,(∀ b∈wr,∃ o,p.get? b=some o)->(∀ b o,b∉wr->s'.heap.get? b=some o->p.get? b=some o)->SOK fns k h0 P (λb=>Z b\/(b∈F\/b∈wr\/L b)) A env p σj vals' fp'/\Stp Z s {s' with heap:=p,toks:=tka }:=λp tka hwa hka=>by
  refine ⟨K'.iter hwf (λb hm _=>hwa b hm) w0 hns hka,?_⟩
  refine aq (stp') λhh tk' LS kk=>?_
  clear stp'
  (clear K' hkp hst' hwf; subst LS)
  exact (ay p tka rfl (kk.trans ((KG.ofW hka hns).mono λb hz hm=>wz b hm hz)))
 by_cases hlt:j<ds.length
 ·obtain ⟨d,hd⟩:∃ d,ds[j]? = some d:=⟨_,List.getElem?_eq_getElem hlt⟩
  have hdd:ds.drop j=d::ds.drop (j+1):=by
   rw[drop_eq_getElem_cons hlt]
   rw[List.getElem?_eq_getElem hlt] at hd
   injection hd; rfl
  rw[hdd] at l
  simp only[bC] at l
  refine W.item j _ _ _ hlt hst' λv p tka hPv hsta hka=>?_
  obtain ⟨K₁,stpa⟩:=step1 p tka (λb hm=>ae ((hwr b hm).2.2 (j+1) p hsta) λo e uu=>⟨o,e⟩) hka
  refine ae (hPw j v hPv d hd) λbs hrv hbs=>?_
  have hkpa:KG (λb=>Z b\/(b∈F\/L b)) s₂.heap p:=hkp.trans ((KG.ofW hka hns).mono λb hb hm=>hb.elim (wz b hm) λhf=>hf.elim (λhf=>hFw b hf hm) λhf=>hLw b hf hm)
  have hrva:R p v d bs:=hrv.onG hkpa λb hb=>.inr (.inl (hbs b hb))
  have hfpH:∀ b∈fpw,∀ o,p.get? b=some o->hardB o=true:=λb hb o e=>by
   rcases hfp b hb with hb | hb
   ·refine ao ((hwr b hb).2.2 _ _ hsta) λo' e' LR _=>?_
    refine ab (LR) λhh _=>?_
    clear LR
    rw[e] at e'; injection e'; exact hh
   ·refine aY (hF b hb) λvs' n' e'=>?_
    rw[hkpa.hard (.inl (.inr (.inl hb))) e' rfl] at e
    injection e; rfl
  have hzd:sz d=true:=hsm.2 d (mem_of_getElem? hd)
  cases hB:B d σj with
  | none=>rw[hB] at l; exact absurd l.symm hnb
  | some σ1=>
   rw[hB] at l
   refine Cw ((hwr I hIw).2.2 _ _ hsta) ?_
   refine TG K₁ hrva hzd (λa ha=>⟨.inr (.inl (hbs a ha)),FP a (hbs a ha)⟩) hB λsc valsc fpc stc K₃ hvc hfc=>?_
   have hfx:Frm (λb=>Z b\/L b) (xs++gG b) σo vals fp σ1 valsc fpc:=by
    refine ⟨λy hy=>?_,λb' hz hb' z q hq hm=>?_⟩
    ·have h1:=hfr.1 y hy
     have h2:=hvc y λq=>hy (mem_append_left _ q)
     exact ⟨h2.1.trans h1.1,h2.2.trans h1.2⟩
    ·rcases hfc z q hq with h1 | ⟨h1,h2⟩
     ·replace hm:=h1 b' hm
      rcases hsc with h | h
      ·rw[hrva.sx_nil (h d (mem_of_getElem? hd))] at hm; cases hm
      ·refine Or.elim (hFP b' (hbs b' hm)) (λMc=>?_) (λh1=>?_)
       ·refine aA (Mc) λy q M3 h1 h2=>?_
        clear Mc
        refine ah (h y q h1) λq' hq'=>?_
        exact hb' y q' hq' h2
       ·rcases hz with hz | hz
        ·refine ah (K.zdom b' hz) λo e=>?_
         rw[h1] at e; exact nN e
        ·refine ab (hL1 b' hz) λuu MB=>?_
         refine aY (MB) λvs n e=>?_
         clear MB
         rw[h1] at e; exact nN e
     ·rw[h2] at hm
      exact hfr.2 b' hz hb' z q h1 hm
   have bodyc:∀ s₄,Stp (λb=>Z b\/(b∈F\/b∈wr\/L b)) sc s₄->Stp Z s s₄/\St (j+1) s₄.heap/\KG (λb=>Z b\/(b∈F\/L b)) s₂.heap s₄.heap:=λs₄ std=>by
    have st:=stc.trans std
    refine ⟨stpa.trans (st.mono λb hb=>.inl hb),?_,?_⟩
    ·refine aq (st) λh₄ tkd LP kkd=>?_
     clear st
     (clear std; subst LP)
     exact W.frame _ _ _ hsta λb hb o e=>kkd.hard (.inl (.inr ((hfp b hb).elim (λh=>.inr (.inl h)) .inl))) e (hfpH b hb o e)
    ·refine aq (st) λh₄ tkd LQ kkd=>?_
     clear st
     (clear std; subst LQ)
     exact hkpa.trans (kkd.mono λb hb=>hb.imp id λh=>h.imp id .inr)
   cases hbody:exs C b σ1 with
   | bad=>rw[show am (some σ1) (exs C b)=exs C b σ1 from rfl,hbody] at l; exact absurd l.symm hnb
   | exc c=>exact absurd hbody (dD nc b _ c)
   | ok o=>
   obtain ⟨σa,fla⟩:=o
   rw[show am (some σ1) (exs C b)=exs C b σ1 from rfl,hbody] at l
   simp only[Out.ok_bind] at l
   refine Sb ob K₃ hbody (λe s₄ valsd fpd std Kd F₄=>?_) λr e v s₄ std Rd=>?_
   ·(clear hbody; subst e)
    refine aI (bodyc s₄ std) λq1 q2 q3=>?_
    refine (ag (ds.length+1-(j+1)) (sJ hlt) (oW (j+1) σa valsd fpd q1 Kd q2 hlt rfl l q3 ((hfx.trans (F₄.less λb hb=>hb.imp id λh=>.inr (.inr h))).more λy hy=>(mem_append.mp hy).elim (λh=>h) (mem_append_right _))))
   ·(clear hbody; subst e)
    exact hR σa r l.symm v s₄ (bodyc s₄ std).1 Rd
 ·have hjl:j=ds.length:=by exact yq hj hlt
  (clear hj hlt; subst hjl)
  rw[drop_length] at l
  simp only[bC] at l
  refine W.done _ _ _ hst' λp tka hka=>?_
  have st1:Stp Z s {s' with heap:=p,toks:=tka }:=by
   refine aq (stp') λhh tk' LV kk=>?_
   clear stp'
   (clear K' hkp hst' hwf step1; subst LV)
   exact (ay p tka rfl (kk.trans ((KG.ofW hka hns).mono λb hz hm=>wz b hm hz)))
  have kgL:KG (λb=>Z b\/L b) s.heap p:=((kpb.k.mono λuu uu=>trivial).trans (hkp.mono λb hb=>hb.imp id .inr)).trans ((KG.ofW hka hns).mono λb hb hm=>hb.elim (wz b hm) λh=>hLw b h hm)
  exact wpAny_execs_nil (hN σj l.symm {s' with heap:=p,toks:=tka } vals' fp' st1 kgL ((K'.thaw (Z:=Z) (λb hb=>.inl hb) K.z0).iter hwf (λb hm hz=>absurd hz (wz b hm)) w0 hns hka) hfr)
theorem Gh (y:String) (q:V×Mode) (hy:σ y=some q):∃ q',Internal.consume σ ns md y=some q':=by
 unfold Internal.consume
 split
 ·exact ⟨q,hy⟩
 ·unfold Internal.demote
  split
  ·exact ⟨_,by rw[hy]; rfl⟩
  ·exact ⟨q,hy⟩
theorem mX (Si:dR fns k C XP it) (Sb:fo fns k C b) (nc:NC C)
  (oi:ez env.scope.names it iter=true) (ob:cz env.scope.names b body=true) (TG:sF fns k A env tg xs B) (K:SOK fns k h0 P Z A env s.heap σ vals fp) (he:((a0 C it σ).bind λq=>bC (λy σ=>am (B y σ) (exs C b)) q.1 (consume σ (bQ it) q.2)) = .ok (σ',fl))
  (hN:fl = .next->∀ s' vals' fp',Stp Z s s'->SOK fns k h0 P Z A env s'.heap σ' vals' fp'->Frm Z (xs++gG b) σ vals fp σ' vals' fp'->Q .next s') (hR:∀ r,fl = .ret r->∀ v s',Stp Z s s'->oO h0 P r v s'->Q (.ret v) s'):wpAny (model prog w) A (exec (.For tg iter body [] spos) env) Q Er s:=by
 refine Out.bind_k he λi j m=>?_
 obtain ⟨ds,n⟩:=i
 have e1:a0 C it (dB σ (bQ it)) = .ok (ds,n):=by rw[iJ C it _ σ (fE σ _)]; exact j
 exact CH Si Sb nc (λuu=>False) oi ob TG K e1 m (by simp) (λh' t=>(K.onK t).consume (bQ it) n) (λy q j=>eE j) (λF h1 h2=>K.excl h1 h2) (λa h=>h.elim) (λuu uu uu uu uu h=>h) (.inr Gh)
  (λg e s' vals' fp' o _ K' F=>by cases e; exact hN rfl s' vals' fp' o K' ⟨F.1,λb u x=>F.2 b (.inl u) λz q j=>ah (eE j) λp l=>x z p l⟩) (λg r e=>by cases e; exact hR r rfl)
theorem wo (Si:dR fns k C XP it) (Sb:fo fns k C b) (nc:NC C):fK fns k C (.for1 x it b):=by
 intro m h0 P Z A y z l fp s Q Er q fl g K r v u
 replace g:=AF g
 revert g; refine λh=>Or.elim h (λi=>?_) (λg=>?_)
 ·clear h
  refine oB (i) λt pt o p n j g=>?_
  clear i
  subst j
  simp only[and_eq_true,beq_iff_eq] at g
  rw[g.1.1.1]
  exact mX Si Sb nc g.1.2 g.2 (AY g.1.1.2) K r v u
 ·cases g
theorem wc (h:ml d=some p):d = .tuple [.int p.1,.int p.2]:=by
 refine bj h λl g h=>?_
 rw[kR g]
 split at h
 ·cases h; rfl
 ·cases h
theorem Ci (hf:fns.hand=false) (hx:bt env.scope.names x=true) (hy:bt env.scope.names y=true):sF fns k A env (.Tuple [.Name (Str.ofString x) px,.Name (Str.ofString y) py] kk tp) [x,y] λd σ=>(ml d).map λp=>upd (upd σ x (sI p.1)) y (sI p.2):=by
 intro h0 P Z s σ σ' vals fp v d bs Q Er K r hz hbs he hQ
 refine bw he λp hp LC=>?_
 clear he
 subst LC
 obtain rfl:=wc hp
 obtain ⟨a,vs,n,rfl,ea,ra⟩:=r.isTup
 obtain ⟨v1,v2,rfl⟩:∃ v1 v2,vs=[v1,v2]:=by
  cases ra with
  | cons _ r2=>cases r2 with
   | cons _ r3=>cases r3; exact ⟨_,_,rfl⟩
 obtain ⟨t1,t2,rfl,rfl⟩:∃ t1 t2,v1 = .int p.1 t1/\v2 = .int p.2 t2:=by
  cases ra with
  | cons r1 r2=>cases r2 with
   | cons r3 _=>cases r1; cases r3; exact ⟨_,_,rfl,rfl⟩
 refine fQ hx λg1 g2 g3=>?_
 refine fQ hy λq1 q2 q3=>?_
 refine assign_Tuple_tuple (K.room.1 hf) (items:=#[.int p.1 t1,.int p.2 t2]) ⟨_,ea,rfl,n,rfl⟩ rfl rfl λg l=>?_
 have kp:Internal.K s.heap g:=Internal.K.of λb o e=>l b o (ne_of_lt (lt_size e)) e
 have st:Stp Z s {s with heap:=g }:=(ay g s.toks rfl (KG.mono kp λuu uu=>trivial))
 refine assignInOrder_cons (wpAny_assign_Name ((K.onK kp).put (r:=sI p.1) (as:=[]) (s:={s with heap:=g }) g1 g3 ⟨.int _ _,rfl⟩ (λ_ h=>nomatch h) (λh=>nomatch h) (λ_=>⟨λ_ h=>(nomatch h),.nil⟩) (λ_ _ _ _=>⟨λ_ _ _ _ h=>(nomatch h),λ_ _ _ h=>(nomatch h)⟩) λs₂ j _ K₂=>?_))
 refine assignInOrder_cons (wpAny_assign_Name (K₂.put (r:=sI p.2) (as:=[]) q1 q3 ⟨.int _ _,rfl⟩ (λ_ h=>nomatch h) (λh=>nomatch h) (λ_=>⟨λ_ h=>(nomatch h),.nil⟩) (λ_ _ _ _=>⟨λ_ _ _ _ h=>(nomatch h),λ_ _ _ h=>(nomatch h)⟩) λm i _ K₃=>?_))
 refine assignInOrder_nil (hQ m _ _ ((st.trans j).trans i) K₃ (λz t=>?_) λz q hq=>?_)
 ·have n1:z≠x:=λq=>t (q▸.head _)
  have n2:z≠y:=λq=>t (q▸.tail _ (.head _))
  exact ⟨(if_neg n2).trans (if_neg n1),(if_neg n2).trans (if_neg n1)⟩
 ·unfold upd at hq
  by_cases e2:z=y
  ·exact .inl λa u=>by rw[if_pos e2] at u; cases u
  ·rw[if_neg e2] at hq ⊢
   by_cases e1:z=x
   ·exact .inl λa u=>by rw[if_pos e1] at u; cases u
   ·rw[if_neg e1] at hq ⊢
    exact .inr ⟨hq,rfl⟩
theorem uh (hf:fns.hand=false) (Si:dR fns k C XP it) (Sb:fo fns k C b) (nc:NC C):fK fns k C (.for2 x y it b):=by
 intro l h0 P Z A v z j fp s Q Er p fl q K r u t
 obtain ⟨px,py,kk,tp,n,o,m,rfl,i,h,ok3,g⟩:=AW q
 exact mX Si Sb nc ok3 g (Ci hf i h) K r u t
section
variable (hf:fns.hand=false) (hC:dI fns k C XPc) (nc:NC C)
include hf hC nc
mutual
theorem xU:∀ st:S,fK fns k C st
 | .assign x e=>qX (aD hf hC dS e).e ⟨λelt y g _=>⟨eN hf hC dS g,(aD hf hC dS elt).e⟩,λelt y g c _=>⟨eN hf hC dS g,(aD hf hC dS elt).e,(aD hf hC dS c).t⟩⟩
 | .setitem x e=>qw (aD hf hC dS e).e
 | .append x e=>qQ (aD hf hC dS e).e
 | .pop x i=>wM (aD hf hC dS i).e
 | .expr e=>vo (aD hf hC dS e).e
 | .ret e=>wQ (aD hf hC dS e).e
 | .retn x=>vz
 | .ite c a b=>xh (aD hf hC dS c).t (cY a) (cY b)
 | .for1 x g b=>wo (eN hf hC dS g) (cY b) nc
 | .for2 x y g b=>uh hf (eN hf hC dS g) (cY b) nc
 | .bad=>λ_ _ h=>nB h
termination_by structural s=>s
theorem cY:∀ st:Ss,fo fns k C st
 | .nil=>ve
 | .cons s r=>sE (xU s) (cY r)
termination_by structural s=>s
end
end
end
structure InF (s₀:Shared) (L:Addr) (m:Str->Option Value) (cs:List (Str×Addr)) (cm:Str->Option Value) (s:Shared):Prop where
 x:InCallC s₀ L m cs cm s
 c:∃ o,s.heap.get? L=some o/\o.cls = .type "frame"
section
variable {M:Model}{A:Around}{E:Value->Shared->Prop}{s₀:Shared}{env:Env}
theorem jA (f:Str×Value->PUnit->Sem (ForInStep PUnit)) (hf:∀ n v u,f (n,v) u=(do storeName env n v; pure (.yield ⟨⟩))) (hk:env.scope.kind = .function) :
  ∀ (binds:List (Str×Value)) (m cm:Str->Option Value) (s:Shared) (Q:PUnit->Shared->Prop),InF s₀ env.locals m env.cells cm s ->
   (∀ x∈binds,env.kindOf x.1=some .local\/(env.kindOf x.1=some .cell/\(env.cells.lookup x.1).isSome=true)) ->
   (∀ s',InF s₀ env.locals (bindL env.kindOf binds m) env.cells (bindC env.kindOf binds cm) s'->Q ⟨⟩ s')->wpAny M A (forIn binds ⟨⟩ f) Q E s
 | [],m,cm,s,Q,x,_,h=>by rw[forIn_nil]; exact wpAny_pure (h s x)
 | (n,v)::r,m,cm,s,Q,⟨x,c⟩,hkind,h=>by
  rw[forIn_cons,hf]
  have hr:∀ y∈r,env.kindOf y.1=some .local\/(env.kindOf y.1=some .cell/\(env.cells.lookup y.1).isSome=true):=λy hy=>hkind y (List.mem_cons_of_mem _ hy)
  refine aY (x.toInCall.same) λha tk l=>?_
  rcases hkind (n,v) mem_cons_self with hl | ⟨hl,j⟩
  ·refine wpAny_bind (wpAny_bind ?_)
   rw[storeName_local hl (by rw[hk]; rfl)]
   refine nS x.toInCall.ns c λh' hn' g hc'=>wpAny_pure (jA f hf hk r (λx=>if x=n then some v else m x) cm _ Q ⟨⟨⟨(bG h' (s.toks+1) (by rw[l])),hn',λb o e=>?_,x.toInCall.fresh⟩,λk c j=>?_,x.apart,x.above⟩,hc'⟩ hr λt p=>h t ?_)
   ·exact g.extBut b o (ne_of_lt (lt_of_lt_of_le (lt_size e) x.toInCall.fresh)) (x.toInCall.keep b o e)
   ·exact (x.cell k c j).sameBut g (ne_of_gt (x.above k c (mem_of_lookup j)))
   ·unfold bindL bindC; rw[if_pos hl,if_pos hl]; exact p
  ·refine bK j λcc j=>?_
   have z:¬ env.kindOf n=some .local:=by rw[hl]; decide
   have hLc:=x.above n cc (mem_of_lookup j)
   refine wpAny_bind (wpAny_bind (wpAny_storeName_cell hk hl j (x.cell n cc j) λh' hc' g=>wpAny_pure (jA f hf hk r m (λy=>if y=n then some v else cm y) _ Q ⟨⟨⟨(bG h' s.toks (by rw[l])),x.toInCall.ns.sameBut g (ne_of_lt hLc),λb o e=>?_,x.toInCall.fresh⟩,λk c' i=>?_,x.apart,x.above⟩,ae (c) λo e q=>(ag o (g.extBut _ o (ne_of_lt hLc) e) q)⟩ hr λt p=>h t ?_)))
   ·exact g.extBut b o (ne_of_lt (lt_trans (lt_of_lt_of_le (lt_size e) x.toInCall.fresh) hLc)) (x.toInCall.keep b o e)
   ·by_cases hkn:k=n
    ·(clear h hkind hl z; subst hkn)
     rw[j] at i; injection i
     show h'.IsCell _ (if _=_ then some v else cm _)
     rw[if_pos rfl]; exact hc'
    ·show h'.IsCell _ (if _=_ then some v else cm _)
     rw[if_neg hkn]
     exact (x.cell k c' i).sameBut g λe=>hkn (name_of_addr x.apart (mem_of_lookup i) (e▸mem_of_lookup j))
   ·unfold bindL bindC; rw[if_neg z,if_neg z]; exact p
end
section
theorem rD {R:Result->Shared->Prop}{a:Addr}{o:Obj}{fd:FuncData}{body:List Stmt}{vals:List Value}{binds:List (Str×Value)}
  (hroom:A.depth<recursionLimit) (ho:s.heap.get? a=some o) (hdata:o.data = .func fd) (hlim:s.heap.NoLimit) (hcd:s.heap.CodeRec fd.code fd.qualname)
  (hbody:fd.body = .stmts body) (hbind:bindArgs fd ⟨vals,[]⟩=pure binds) (hclo:fd.closure=[])
  (hkind:∀ x∈binds,fd.scope.names.lookup x.1=some .local\/(fd.scope.names.lookup x.1=some .cell/\((cellsFrom (s.heap.objs.size+1) fd.scope.names []).lookup x.1).isSome=true))
  (h:∀ s₁,InF s (callEnvC fd s.heap.objs.size a).locals (bindL (callEnvC fd s.heap.objs.size a).kindOf binds λuu=>none) (callEnvC fd s.heap.objs.size a).cells
    (bindC (callEnvC fd s.heap.objs.size a).kindOf binds λuu=>none) s₁ ->
   wpAny (model prog w) (A.deeper (callEnvC fd s.heap.objs.size a)) (execs body (callEnvC fd s.heap.objs.size a)) (λf s'=>R (.ok (.ret (match f with | .ret v=>v | _=>.none))) s')
    (λe s'=>wpAny (model prog w) (A.deeper (callEnvC fd s.heap.objs.size a)) (leaving (callEnvC fd s.heap.objs.size a) e) (λuu s''=>R (.error e) s'') (λe' s''=>R (.error e') s'') s') s₁)
  (hco:fd.scope.isCoroutine=false) (hgen:fd.scope.isGenerator=false) (hk:fd.scope.kind = .function) :
  codeAny (model prog w) A (.call (.ref a) ⟨vals,[]⟩) R s:=by
 refine codeAny_call_function hroom ho hdata hco hgen hbody hcd ?_
 rw[hbind,hclo]
 refine wpAny_pure ?_
 simp only[newFunctionEnv,Option.isSome_none,false_eq_true,if_false]
 refine wpAny_bind (wpAny_alloc ?_)
 refine wpAny_bind (wpAny_layCells _ (λi kind cells=>by cases hkc:kind==NameKind.cell<;>simp[hkc]) _ _ _ _ ?_)
 have ok:=cellsFrom_ok fd.scope.names (s.heap.push {cls:=.type "frame", data:=.dict #[] }) (s.heap.objs.size+1) [] ⟨λuu uu g=>(nomatch g),List.Pairwise.nil⟩ (by rw[size_push]; exact le_refl _)
 rw[size_push] at ok
 rw[show ({s with heap:=s.heap.push {cls:=.type "frame", data:=.dict #[] } }:Shared).heap.objs.size=s.heap.objs.size+1 from size_push ..]
 refine wpAny_bind (jA (s₀:=s) (env:=callEnvC fd s.heap.objs.size a) _ (λuu uu uu=>rfl) hk binds (λuu=>none) (λuu=>none) _ _
  ⟨⟨⟨(bG _ _ rfl),(Heap.Ns.new s.heap (.type "frame")).keeps (pushCells_keeps _ _),λb o e=>pushCells_keeps _ _ b o (Heap.get?_push_of_some _ e),le_refl _⟩,
   λn c j=>(ok.empty n c (mem_of_lookup j)).1,ok.apart,λn c g=>(ok.empty n c g).2⟩,_,pushCells_keeps _ _ _ _ (Heap.get?_push_size _ rfl),rfl⟩
  hkind λs' x=>wpAny_pure ⟨hlim.keeps x.x.toInCall.keep,codeAny_func (h s' x)⟩)
end
theorem dg:∀ (names:List (Str×NameKind)) (k:Nat) (acc:List (Str×Addr)),(names.lookup n=some .cell\/(acc.lookup n).isSome=true)->((cellsFrom k names acc).lookup n).isSome=true
 | [],_,acc,h=>h.elim (λe=>by cases e) id
 | (m,kd)::r,k,acc,h=>by
  unfold cellsFrom
  by_cases hk:kd = .cell
  ·subst hk
   simp only[beq_self_eq_true,if_true]
   by_cases e:n=m
   ·(clear h; subst e)
    exact dg r _ _ (.inr (by simp))
   ·have g:(n==m)=false:=by simpa using e
    refine dg r _ _ (h.imp (λh=>?_) λh=>?_)
    ·rw[lookup_cons,g] at h; exact h
    ·rw[lookup_cons,g]; exact h
  ·have i:(kd==NameKind.cell)=false:=by simpa using hk
   simp only[i,false_eq_true,if_false]
   by_cases e:n=m
   ·subst e
    rcases h with h | h
    ·simp at h; exact absurd h hk
    ·exact dg r _ _ (.inr h)
   ·have g:(n==m)=false:=by simpa using e
    refine dg r _ _ (h.imp (λh=>?_) id)
    rw[lookup_cons,g] at h; exact h
theorem kq:∀ (bs:List (Str×Value)) (m:Str->Option Value),(∀ p∈bs,p.1≠y)->bindL kd bs m y=m y
 | [],_,_=>rfl
 | (n,v)::r,m,h=>by
  unfold bindL
  rw[kq r _ λp g=>h p (.tail _ g)]
  split
  ·exact if_neg λ(e:y=n)=>h (n,v) (.head _) e.symm
  ·rfl
theorem km:∀ (bs:List (Str×Value)) (m:Str->Option Value),(∀ p∈bs,p.1≠y)->bindC kd bs m y=m y
 | [],_,_=>rfl
 | (n,v)::r,m,h=>by
  unfold bindC
  rw[km r _ λp g=>h p (.tail _ g)]
  split
  ·rfl
  ·exact if_neg λ(e:y=n)=>h (n,v) (.head _) e.symm
theorem vx {ps:List String}(h:p∉ps):∀ q∈(ps.map Str.ofString).zip vs,q.1≠Str.ofString p:=by
 intro q i e
 have:=(of_mem_zip i).1
 refine aG this λy g j=>?_
 exact h (bX (j.trans e)▸g)
theorem nw:∀ (ps:List String) (vs:List Value) (m:Str->Option Value),ps.Nodup->(ps.zip vs).lookup x=some v->kd (Str.ofString x)=some .local->bindL kd ((ps.map Str.ofString).zip vs) m (Str.ofString x)=some v
 | [],_,_,_,h,_=>by simp at h
 | _::_,[],_,_,h,_=>by simp at h
 | p::ps,u::vs,m,hn,h,hk=>by
  rw[nodup_cons] at hn
  rw[zip_cons_cons,lookup_cons] at h
  rw[map_cons,zip_cons_cons]
  unfold bindL
  by_cases e:x=p
  ·subst e
   simp at h
   subst h
   rw[kq _ _ (vx hn.1),if_pos hk]
   simp
  ·have g:(x==p)=false:=by simpa using e
   rw[g] at h
   exact nw ps vs _ hn.2 h hk
theorem ni:∀ (ps:List String) (vs:List Value) (m:Str->Option Value),ps.Nodup->(ps.zip vs).lookup x=some v->kd (Str.ofString x)=some .cell->bindC kd ((ps.map Str.ofString).zip vs) m (Str.ofString x)=some v
 | [],_,_,_,h,_=>by simp at h
 | _::_,[],_,_,h,_=>by simp at h
 | p::ps,u::vs,m,hn,h,hk=>by
  rw[nodup_cons] at hn
  rw[zip_cons_cons,lookup_cons] at h
  rw[map_cons,zip_cons_cons]
  unfold bindC
  by_cases e:x=p
  ·subst e
   simp at h
   subst h
   rw[km _ _ (vx hn.1),if_neg (by rw[hk]; simp)]
   simp
  ·have g:(x==p)=false:=by simpa using e
   rw[g] at h
   exact ni ps vs _ hn.2 h hk
section
theorem ql (rs:RVs h xs vals as):∀ {ps:List String}{σ:St},bB ps xs=some σ ->
  vals.length=ps.length/\∃ fp:String->List Addr,∀ x q,σ x=some q->x∈ps/\∃ V v,q=mk V/\(ps.zip vals).lookup x=some v/\RV h v V (fp x)/\∀ a∈fp x,a∈as:=by
 induction rs with
 | nil=>
  intro ps σ j
  cases ps with
  | nil=>exact (az rfl (b0 (λuu=>[]) (λx q h=>nN ((congrFun (Option.some.inj j) x).trans h))))
  | cons p ps=>exact nN j
 | @cons V xs v vs a1 bs r rs IH=>
  intro ps σ j
  cases ps with
  | nil=>exact nN j
  | cons p ps=>
  replace j:=map_eq_some_iff.mp (show (bB ps xs).map _=_ from j)
  refine ae (j) λu m l=>?_
  clear j
  subst l
  obtain ⟨hl,g,z⟩:=IH m
  refine (az (by rw[length_cons,length_cons,hl]) (b0 (λx=>if x=p then a1 else g x) (λx q k=>?_)))
  unfold upd at k
  by_cases e:x=p
  ·subst e
   rw[if_pos rfl] at k; injection k
   have t:(if x=x then a1 else g x)=a1:=if_pos rfl
   refine (az (.head _) (bO V v rfl (by simp) ?_ (λa n=>?_)))
   ·show RV h v V (if x=x then a1 else g x)
    rw[t]; exact r
   ·have i:a∈(if x=x then a1 else g x):=n
    rw[t] at i
    exact mem_append_left _ i
  ·rw[if_neg e] at k
   obtain ⟨h1,V',o,h2,h3,h4,h5⟩:=z x q k
   have e':(x==p)=false:=by simpa using e
   exact (az (.tail _ h1) (bO V' o h2 (by rw[zip_cons_cons,lookup_cons,e']; exact h3) (by show RV h o V' (if x=p then a1 else g x); rw[if_neg e]; exact h4) (λa n=>mem_append_right _ (h5 a (by have i:a∈(if x=p then a1 else g x):=n; rwa [if_neg e] at i)))))
theorem nj {ft:FnT}{fd:FuncData}{fa:Addr}{A:Around}{P:Addr->Prop}{s:Shared}{ha:Heap}{tka:Nat}{σ:St}{pn:List String}{pv:List Value}{fp:String->List Addr}
  (hf:fns.hand=false) (hnd:pn.Nodup) (hpb:∀ x∈pn,bt ft.scope.names x=true) (hfree:∀ p∈ft.scope.names,(p.2 != .free)=true) (hh:fns.hand=false->A.handled=none) (r1:A.depth+2*k+5<recursionLimit) (r2:A.units+100*k+303<cLine) (ge:GE fns s.heap)
  (hsc:fd.scope=ft.scope) (hgl:fd.globals=mainGlobals) (hbl:fd.builtins=builtinsNs) (hkind:fd.scope.kind = .function) (hcode:ft.lam=true->CodeOk s.heap fd.code fd.qualname)
  (X:InF s (callEnvC fd s.heap.objs.size fa).locals (bindL (callEnvC fd s.heap.objs.size fa).kindOf ((pn.map Str.ofString).zip pv) λuu=>none) (callEnvC fd s.heap.objs.size fa).cells (bindC (callEnvC fd s.heap.objs.size fa).kindOf ((pn.map Str.ofString).zip pv) λuu=>none) {s with heap:=ha,toks:=tka })
  (hfp:∀ x q,σ x=some q->x∈pn/\∃ V v,q=mk V/\(pn.zip pv).lookup x=some v/\RV s.heap v V (fp x)/\∀ a∈fp x,P a) :
  SOK {fns with lam:=ft.lam } k s.heap P (λb=>∃ o,s.heap.get? b=some o) (A.deeper (callEnvC fd s.heap.objs.size fa)) (callEnvC fd s.heap.objs.size fa) ha σ (λx=>(pn.zip pv).lookup x) fp:=by
 have r:=X.x.toInCall
 have m:(callEnvC fd s.heap.objs.size fa).scope.names=ft.scope.names:=by show fd.scope.names=_; rw[hsc]
 have i:(callEnvC fd s.heap.objs.size fa).locals=s.heap.objs.size:=rfl
 have y:∀ n,(callEnvC fd s.heap.objs.size fa).kindOf n=ft.scope.names.lookup n:=λn=>by show fd.scope.names.lookup n=_; rw[hsc]
 have j:∀ n,(callEnvC fd s.heap.objs.size fa).kindOf n≠some .free:=λn e=>by
  rw[y] at e
  have:=hfree _ (mem_of_lookup e)
  simp at this
 refine ⟨⟨hh,?_,?_⟩,⟨hkind,hgl,hbl,λn hn=>?_⟩,ge.flag ft.lam fns.hand,λb o e=>⟨o,e⟩,.of r.keep,λq=>⟨_,hcode q⟩,λb ⟨o,e⟩=>⟨o,r.keep b o e⟩,⟨X.c,(ag _ r.ns (λx v g hk=>?_)),λ⟨o,e⟩=>?_,λn c hk hc=>?_,λx v c g hk hc=>?_,λn n' c h1 h2=>?_,λx v g=>?_⟩,λx p t=>?_,λx p t ht=>?_,λx p t hdp=>?_⟩
 ·show A.depth+1+2*k+(if fns.hand then 1 else 4)<_
  rw[hf]; simp only[false_eq_true,if_false]; exact DA r1
 ·show A.units+3+100*k+(if fns.hand then 200 else 300)<_
  rw[hf]; simp only[false_eq_true,if_false]; exact Hy r2
 ·rcases hn with hn | hn
  ·rw[y] at hn
   exact Option.isSome_iff_exists.mp (by show ((cellsFrom _ fd.scope.names []).lookup n).isSome=true; rw[hsc]; exact dg _ _ _ (.inl hn))
  ·exact absurd hn (j n)
 ·exact nw pn pv _ hnd g hk
 ·rw[i] at e
  rw[bv] at e; exact nN e
 ·have hm:=mem_of_lookup hc
  have u:=X.x.above n c hm
  refine (fS (ne_of_gt u) (λ⟨o,e⟩=>?_) (b0 _ (X.x.cell n c hc)))
  have:=lt_size e
  rw[i] at u
  exact lt_irrefl _ (lt_trans this u)
 ·have:=X.x.cell _ c hc
  rw[ni pn pv _ hnd g hk] at this
  exact this
 ·exact name_of_addr X.x.apart (mem_of_lookup h1) (mem_of_lookup h2)
 ·have hm:x∈pn:=by
   have:(x,v)∈pn.zip pv:=by
    generalize pn.zip pv=l at g
    induction l with
    | nil=>exact nN g
    | cons q l ih=>
     rw[lookup_cons] at g
     split at g
     ·rename_i e
      (have oc:=Option.some.inj g; clear g; (clear ih; subst oc))
      rw[beq_iff_eq.mp e]
      exact .head _
     ·exact .tail _ (ih g)
   exact (of_mem_zip this).1
  have z:=hpb x hm
  unfold bt at z
  simp only[and_eq_true,or_eq_true,beq_iff_eq] at z
  rw[y]
  exact z.2
 ·obtain ⟨h1,V,v,Ly,h3,h4,h5⟩:=hfp x p t
  (clear t; subst Ly)
  have z:=hpb x h1
  unfold bt at z
  simp only[and_eq_true] at z
  refine (az (by rw[m]; exact z.1.1) (aL v h3 (h4.keep r.keep) (λa h=>⟨λq=>?_,.inl (h5 a h)⟩)))
  refine ah (h4.there a h) λo e=>?_
  rw[q,i,bv] at e; exact nN e
 ·obtain ⟨h1,V,v,LG,_⟩:=hfp x p t
  (clear t; subst LG)
  exact absurd ht ip
 ·obtain ⟨h1,V,v,Lz,h3,h4,h5⟩:=hfp x p t
  (clear t; subst Lz)
  rw[h4.scal_nil (fZ hdp)]
  exact ⟨λuu h=>(nomatch h),.nil⟩
theorem l0 {ft:FnT}{fd:FuncData}{pn:List String}{vals:List Value}{n:Nat}(hsc:fd.scope=ft.scope) (hbk:∀ x∈pn,bt ft.scope.names x=true):∀ x∈(pn.map Str.ofString).zip vals,fd.scope.names.lookup x.1=some .local\/(fd.scope.names.lookup x.1=some .cell/\((cellsFrom n fd.scope.names []).lookup x.1).isSome=true):=by
 intro x j
 refine aG (of_mem_zip j).1 λy i e=>?_
 have g:=hbk y i
 unfold bt at g
 simp only[and_eq_true,or_eq_true,beq_iff_eq] at g
 rw[hsc,<- e]
 rcases g.2 with h | h
 ·exact .inl h
 ·exact .inr ⟨h,dg _ _ _ (.inl h)⟩
section
theorem xn (h:bB f.params vs=some σ) (e:exs C f.body σ = .bad):au C f vs = .bad:=by unfold au; rw[h]; dsimp only; rw[e]; rfl
theorem t8 (h:bB f.params vs=some σ) (e:exs C f.body σ = .ok (σ',.next)):au C f vs = .ok (.d .none,.deep):=by unfold au; rw[h]; dsimp only; rw[e]; rfl
theorem xN (h:bB f.params vs=some σ) (e:exs C f.body σ = .ok (σ',.ret r)):au C f vs = .ok r:=by unfold au; rw[h]; dsimp only; rw[e]; rfl
theorem xF (h:bB f.params vs=some σ) (e:exs C f.body σ = .bad):dv C f vs = .bad:=by unfold dv; rw[h]; dsimp only; rw[e]; rfl
theorem m7 (h:bB f.params vs=some σ) (e:exs C f.body σ = .ok (σ',.next)):dv C f vs=fA σ':=by unfold dv; rw[h]; dsimp only; rw[e]; rfl
theorem wD (h:bB f.params vs=some σ) (e:exs C f.body σ = .ok (σ',.ret r)):dv C f vs = .bad:=by unfold dv; rw[h]; dsimp only; rw[e]; rfl
end
set_option maxHeartbeats 1000000 in
theorem mC (hf:fns.hand=false) (hC:dI {fns with lam:=ft.lam } k C XPc) (hok:okF ft fn=true)
  (nc:NC C) (hroom:Room fns.hand (k+1) A) (ge:GE fns s.heap) (hfa:FnAt s.heap ft fa) (rs:RVs s.heap xs vals as) (ha:∀ a∈as,P a) (nb:au C fn xs≠.bad) (hQ:∀ r,au C fn xs = .ok r->∀ v s',EP P s r v s'->Q v s') :
  wpAny (model prog w) A (call (.ref fa) vals []) Q Er s:=by
 unfold okF at hok
 simp only[and_eq_true,decide_eq_true_eq,all_eq_true] at hok
 refine ab (hok) λz m=>?_
 clear hok
 refine ab (z) λy p=>?_
 clear z
 refine ab (y) λu hnd=>?_
 clear y
 refine ab (u) λhps hbk=>?_
 clear u
 cases hσ:bB fn.params xs with
 | none=>exact absurd (by unfold au; rw[hσ]) nb
 | some σ=>
 obtain ⟨hlen,fp,hfp⟩:=ql rs hσ
 refine vg (hfa) λo fd ho hd hbd l hgl hcl hbl hcr n i hco hgen g=>?_
 clear hfa
 rw[hps] at i
 refine wpAny_call (rD (by have:=hroom.at hf; exact IP this) ho hd ge.nolim hcr hbd (i vals hlen) hcl (l0 l hbk) (λs₁ X=>?_) hco hgen g)
 refine aY (X.x.toInCall.same) λh₁ j LB=>?_
 subst LB
 have K:=nj (k:=k) (ft:=ft) (fa:=fa) (σ:=σ) (pn:=fn.params) (pv:=vals) (fp:=fp) (P:=P) hf hnd hbk m hroom.1 (lt_of_le_of_lt (le_succ _) (hroom.at hf).1) (lt_of_le_of_lt Jc (hroom.at hf).2) ge l hgl hbl g n X λx q hq=>by
  obtain ⟨h1,V,v,h2,h3,h4,h5⟩:=hfp x q hq
  exact (az h1 (bO V v h2 h3 h4 (λa h=>ha a (h5 a h))))
 have kp:∀ s',Stp (λb=>∃ o,s.heap.get? b=some o) {s with heap:=h₁,toks:=j } s'->Kp s s':=λs' t=>by
  refine aq (t) λh' tk' LF kk=>?_
  clear t
  subst LF
  exact (ay h' tk' rfl (Internal.K.step (Internal.K.of X.x.toInCall.keep) kk λb o e=>⟨o,e⟩))
 have okb:cz (callEnvC fd s.heap.objs.size fa).scope.names fn.body ft.body=true:=by show cz fd.scope.names fn.body ft.body=true; rw[l]; exact p
 cases hex:exs C fn.body σ with
 | bad=>exact absurd (xn hσ hex) nb
 | exc c=>exact absurd hex (dD nc _ _ c)
 | ok o=>
  obtain ⟨σ',fl⟩:=o
  refine cY (fns:={fns with lam:=ft.lam }) hf hC nc fn.body okb K hex (λe s' vals' fp' t K' _=>?_) λq e v s' t R=>?_
  ·subst e
   exact hQ _ (t8 hσ hex) _ _ (.scalar (kp s' t) .none rfl (by simp))
  ·subst e
   refine ca (R) λas' h1 h2 h3 h4=>?_
   clear R
   exact hQ _ (xN hσ hex) _ _ ⟨kp s' t,as',h1,h2,h3,h4⟩
end
theorem nq:∀ (l1 l2:List Stmt),execs (l1++l2) env=(execs l1 env>>=λf=>match f with | .next=>execs l2 env | f=>pure f)
 | [],l2=>rfl
 | st::l1,l2=>by
  rw[List.cons_append,execs_cons,execs_cons,bind_assoc]
  congr 1
  funext f
  cases f with
  | next=>exact nq l1 l2
  | _=>rfl
section
noncomputable def But2 (x D:Addr) (h h':Heap):Prop:=∀ b o,b≠x->b≠D->h.get? b=some o->h'.get? b=some o
theorem But2.kk (a:But2 x D h h') (k:K h0 h) (hx:h0.get? x=none) (hD:h0.get? D=none) (nx:∀ o,h.get? x=some o->¬ Stay o) (nD:∀ o,h.get? D=some o->¬ Stay o):K h0 h' :=
 K.step k (G:=λb=>b≠x/\b≠D) (.of λb o g e=>a b o (λq=>g.elim (λh=>h.1 q) (nx o (q▸e))) (λq=>g.elim (λh=>h.2 q) (nD o (q▸e))) e) λb o e=>⟨λq=>(by rw[q,hx] at e; cases e),λq=>(by rw[q,hD] at e; cases e)⟩
theorem Loc.but2 {x D:Addr}{h h':Heap}{env:Env}{Z:Addr->Prop}{vals:String->Option Value}(L:Loc env Z h vals) (a:But2 x D h h') (hx:Z x) (hD:Z D):Loc env Z h' vals where
 cls:=ae (L.cls) λo e c=>(ag o (a _ o (λq=>L.nz (q▸hx)) (λq=>L.nz (q▸hD)) e) c)
 ns:=let ⟨m,⟨o,es,ep,e,r⟩,q⟩:=L.ns; (ag m (cB o es ep (a _ o (λq=>L.nz (q▸hx)) (λq=>L.nz (q▸hD)) e) r) q)
 nz:=L.nz
 cell:=λn c k j=>by
  refine aI (L.cell n c k j) λp i g=>?_
  refine aq (g) λv o e r=>?_
  clear g
  exact (fS p i (ay v o (a c o (λq=>i (q▸hx)) (λq=>i (q▸hD)) e) r))
 cval:=λy v c k j l=>by
  refine aI (L.cell _ c j l) λuu i _=>?_
  refine ae (L.cval y v c k j l) λo e r=>?_
  exact (ag o (a c o (λq=>i (q▸hx)) (λq=>i (q▸hD)) e) r)
 apart:=L.apart
 kinds:=L.kinds
theorem jF {A:Around}{h:Heap}{g:Array GenState}{dr:Drawn}{tk:Nat}{os:OsState}{E:Value->Shared->Prop}{x D:Addr}{mA:Str->Option Value}{n:String}{v:Value}{Q:Unit->Shared->Prop}{ns:List Str}(ge:RuleAt fns h) (hn:n∈fieldNames) (hw:Within mA ns) (hs:ns.length<=8) (hxC:x≠SF.rule)
  (I:h.Inst x SF.rule mA) (hd:∀ o,h.get? x=some o->o.dict=some D)
  (hQ:∀ h' tk',h'.Inst x SF.rule (λy=>if y=Str.ofString n then some v else mA y)->But2 x D h h'->(∀ o,h'.get? x=some o->o.dict=some D)->Q () ⟨h',g,dr,tk',os⟩) :
  wpAny (model prog w) A (setAttr (.ref x) (Str.ofString n) v) Q E ⟨h,g,dr,tk,os⟩:=by
 refine aA (ge) λN mN t i _=>?_
 clear ge
 obtain ⟨m,hN⟩:=t
 refine eO (m) λnm q bs' sn sub col dd k0 k1 k2 k3 k5 hC=>?_
 clear m
 have hB:typeLookup (.type "object") (Str.ofString n)=pure none:=by
  simp only[fieldNames,mem_cons,not_mem_nil,or_false] at hn
  rcases hn with rfl | rfl | rfl
  ·exact lI
  ·exact nU
  ·exact nW
 have hq:mN (Str.ofString n)=none:=i n (by
  simp only[fieldNames,mem_cons,not_mem_nil,or_false] at hn
  rcases hn with rfl | rfl | rfl<;>simp)
 refine store_attr PySem.F.store_object hC hN (i "__setattr__" (by simp)) hq hB hxC I (λh' tk' I' hk l=>?_) hw (by rw[sizeLine_eq]; exact G9 hs)
 refine ae (I) λo e _=>?_
 clear I
 have r:=hd o e
 refine hQ h' tk' I' (λb ob h1 h2 eb=>hk b ob h1 (λoo dx k z=>by rw[e] at k; injection k; rw[r] at z; injection z; exact h2) eb) λo' e'=>?_
 refine jT (l o e) λoa j _ _ _ u=>?_
 rw[e'] at j; injection j
 exact u D r
theorem Inst.ns1 {h:Heap}{x Cl D:Addr}{mA:Str->Option Value}(I:h.Inst x Cl mA) (hd:∀ o,h.get? x=some o->o.dict=some D):∃ o,h.get? x=some o/\o.cls = .ref Cl/\(∀ c,o.data≠.cls c)/\o.dict=some D/\D≠x/\h.Ns1 D mA:=by
 refine ca (I) λo e k j i=>?_
 clear I
 have:=hd o e
 rcases i with ⟨q,_⟩ | ⟨d,q1,q2,q3⟩
 ·rw[this] at q; exact nM q
 ·rw[this] at q1; injection q1
  exact (j4 o e k j this q2 q3)
theorem Inst.kk {h h':Heap}{x Cl D:Addr}{mA:Str->Option Value}(I:h.Inst x Cl mA) (hd:∀ o,h.get? x=some o->o.dict=some D) (k:K h h'):h'.Inst x Cl mA/\∀ o,h'.get? x=some o->o.dict=some D:=by
 refine iM (Inst.ns1 I hd) λo e n v m u g=>?_
 refine aX (g) λoD y z eD i r=>?_
 clear g
 have p:=K.get k e (by unfold hardB; rw[n])
 obtain ⟨j,l,q,_⟩:=K.data k eD λfs q=>by rw[i] at q; cases q
 exact ⟨(bD o p n v (.inr (aL D m u (cT j y z l (q.trans i) r)))),λo' q=>by rw[p] at q; injection q; exact m⟩
set_option maxHeartbeats 2000000 in
theorem so (h:fA σ = .ok r):∃ ci mc rows ys,r=(.rule ci (.list rows) (ys:List PyData).length,.deep)/\σ "count" = some (.d (.int ci),mc)/\σ "full" = some (.d (.list rows),.deep)/\rows[0]? = some (.list ys):=by
 unfold fA at h
 obtain ⟨⟨pc,mc⟩,j,h⟩:=aQ h
 obtain ⟨dc,o,h⟩:=aQ h
 obtain ⟨ci,n,h⟩:=aQ h
 obtain ⟨⟨z,u⟩,i,h⟩:=aQ h
 obtain ⟨df,m,h⟩:=aQ h
 obtain ⟨rows,l,h⟩:=aQ h
 obtain ⟨p,g,h⟩:=aQ h
 obtain ⟨ys,k,h⟩:=aQ h
 by_cases hd:u = .deep
 ·rw[if_pos hd] at h
  have t:=cR o
  have y:=cV n
  have q:=cR m
  have x:=cI l
  have v:=cI k
  dsimp only at t q
  rw[t,y] at j
  rw[q,x,hd] at i
  rw[v] at g
  exact (iE ci mc rows ys ((Out.ok.inj h).symm) j i g)
 ·rw[if_neg hd] at h; exact nB h
theorem wH (hf1:σ "full" = some (.d (.list rows),.deep)) (hf4:rows[0]? = some (.list ys)):ev C eQ (dB σ ["full"]) = .ok (sI ys.length):=by
 have i:dB σ ["full"] "full" = some (.d (.list rows),.deep):=by unfold dB; rw[if_pos (by simp)]; exact hf1
 have h:elem (.list rows) 0=some (.list ys):=by
  show (bH 0 rows.length).bind (λk=>rows[k]?)=_
  have g:0<rows.length:=(List.getElem?_eq_some_iff.mp hf4).1
  unfold bH
  rw[if_pos (Int.le_refl 0),if_pos (la3 g)]
  exact hf4
 unfold eQ
 rw[ec,d6,bW,eP,i]
 show ((fg (.list rows) (.int 0)).bind _)=_
 unfold fg
 rw[show ei (.int 0)=some 0 from rfl]
 simp only[am,h,Out.ok_bind]
 rfl
theorem vT (C:Calls) (hf:fns.hand=false) {A:Around}{env:Env}{P:Addr->Prop}{hh h' hs:Heap}{g:Array GenState}{dr:Drawn}{tk tk':Nat}{os:OsState}{x D:Addr}{σ:St}{vals:String->Option Value}{fp:String->List Addr}{Q:Flow->Shared->Prop}{Er:Value->Shared->Prop}
  {ci:Int}{mc:Mode}{rows ys:List PyData}{a3 b3 c3:Stmt}(Mk:Heap.MadeObj hh h' x D SF.rule) (hxC:x≠SF.rule) (kh:K h' hs) (ge:GE fns hh) (R0:RuleAt fns hh) (hlam:fns.lam=false)
  (K':SOK fns k h' P (λb=>∃ o,h'.get? b=some o) A env hs σ vals fp) (hvs:vals "self" = some (.ref x))
  (hc1:σ "count" = some (.d (.int ci),mc)) (hf1:σ "full" = some (.d (.list rows),.deep)) (hf4:rows[0]? = some (.list ys))
  (o1:fh env.scope.names "count" (.name "count") a3=true) (o2:fh env.scope.names "full" (.name "full") b3=true) (o3:fh env.scope.names "size" eQ c3=true)
  (hQ:∀ s',EP P ⟨hh,g,dr,tk,os⟩ (.rule ci (.list rows) ys.length,.deep) (.ref x) s'->Q .next s'):wpAny (model prog w) A (execs [a3,b3,c3] env) Q Er ⟨hs,g,dr,tk',os⟩:=by
 have kM:K hh h':=.of Mk.keeps
 have Zx:∃ o,h'.get? x=some o:=by obtain ⟨o,e,_⟩:=Mk.inst; exact ⟨o,e⟩
 refine iM (Inst.ns1 Mk.inst Mk.dict) λox ex hxc hxd hxdict hDx hNs=>?_
 have ZD:∃ o,h'.get? D=some o:=by obtain ⟨o,_,_,e,_⟩:=hNs; exact ⟨o,e⟩
 have kall:K hh hs:=KG.trans kM kh
 refine ab (K'.val "count" _ hc1) λuu u=>?_
 refine ao (u) λvc hvc LS _=>?_
 clear u
 refine ab (LS) λrvc _=>?_
 clear LS
 refine rvc.isInt_k λtc LR _=>?_
 (clear rvc; subst LR)
 refine ab (K'.val "full" _ hf1) λuu t=>?_
 refine ao (t) λvf hvf LP _=>?_
 clear t
 refine ab (LP) λrvf zvf=>?_
 clear LP
 refine ab (K'.deep "full" _ hf1 rfl) λdp1 dp2=>?_
 refine ab (Inst.kk Mk.inst Mk.dict kh) λI1 D1=>?_
 refine dM (kX o1) λq1 q2 v1 q3 LQ ov1=>?_
 (clear o1; subst LQ)
 refine dM (kX o2) λq4 q5 v2 q6 LV ov2=>?_
 (clear o2; subst LV)
 refine dM (kX o3) λq7 q8 v3 q9 LX ov3=>?_
 (clear o3; subst LX)
 refine ao (kG ov1) λq10 LY _ nd1=>?_
 subst LY
 refine ao (kG ov2) λq11 LW _ nd2=>?_
 subst LW
 have nds:bf "self" = true:=by decide
 have l:∀ {h:Heap}{mA:Str->Option Value},h.Inst x SF.rule mA->∀ o,h.get? x=some o->¬ Stay o:=λI o e=>by
  refine ao (I) λo' z c' _=>?_
  clear I
  rw[e] at z; injection z
  exact Stay.not_cls (by rw[c']; simp) (by rw[c']; simp)
 have j:∀ {h:Heap}{mA:Str->Option Value},h.Inst x SF.rule mA->(∀ o,h.get? x=some o->o.dict=some D)->(∀ o,h.get? D=some o->¬ Stay o)/\∀ o,h.get? D=some o->∀ vs n,o.data≠.seq vs n:=λI d=>by
  obtain ⟨_,_,_,_,_,_,o',es,ep,z,hd',_⟩:=Inst.ns1 I d
  exact ⟨λo e=>by rw[e] at z; injection z; exact Stay.not_dict hd',λo e vs n q=>by rw[e] at z; injection z; rw[hd'] at q; cases q⟩
 have nxf:x∉fp "full" := λq=>(dp1 x q).1 Zx
 have nDf:D∉fp "full" := λq=>(dp1 D q).1 ZD
 have p:∀ {h h2:Heap}{mA:Str->Option Value},h.Inst x SF.rule mA->(∀ o,h.get? x=some o->o.dict=some D)->But2 x D h h2->R h vf (.list rows) (fp "full")->R h2 vf (.list rows) (fp "full"):=λI d b r=>by
  refine r.on2 λa o ha ⟨vs,n,hs⟩ e=>b a o (λq=>?_) (λq=>?_) e
  ·(clear D1 I1 Mk Zx b d j ex hDx hQ hvs hxC l; subst q)
   refine ao (I) λo' z c' _=>?_
   clear I
   rw[e] at z; injection z
   rcases ha with ha | ha
   ·exact nxf ha
   ·rw[c'] at ha; cases ha
  ·(clear D1 Mk ZD b hDx hNs hxdict nDf; subst q)
   exact (j I d).2 o e vs n hs
 refine wpAny_execs_cons (plainObj_wpAny_Assign_Attribute (dK K'.eok.kind nd1 (K'.loc.var K'.eok hvc) (dK K'.eok.kind nds (K'.loc.var K'.eok hvs) (jF (fns:=fns) (R0.k kall) (by simp[fieldNames]) Within.nil (by simp) hxC I1 D1 λh2 tk2 I2 b2 D2=>?_))) rfl)
 have k2:K hh h2:=b2.kk kall Mk.newX Mk.newD (l I1) (j I1 D1).1
 have L2:=K'.loc.but2 b2 Zx ZD
 refine wpAny_execs_cons (plainObj_wpAny_Assign_Attribute (dK K'.eok.kind nd2 (L2.var K'.eok hvf) (dK K'.eok.kind nds (L2.var K'.eok hvs) (jF (fns:=fns) (R0.k k2) (by simp[fieldNames]) (Within.cons _ _ Within.nil) (by simp) hxC I2 D2 λh3 tk3 I3 b3 D3=>?_))) rfl)
 have k3:K hh h3:=b3.kk k2 Mk.newX Mk.newD (l I2) (j I2 D2).1
 have L3:=L2.but2 b3 Zx ZD
 have rf3:R h3 vf (.list rows) (fp "full"):=p I2 D2 b3 (p I1 D1 b2 rvf)
 have he:ev C eQ (dB σ ["full"]) = .ok (sI ys.length):=wH hf1 hf4
 have cx3:Cx fns k A (λuu=>True) h3 env (dB σ ["full"]):=by
  refine ⟨K'.room,K'.eok,ge.k k3,(λq=>by rw[hlam] at q; cases q),λy py hy _=>?_⟩
  unfold dB at hy
  split at hy
  ·rename_i hm
   rw[mem_singleton.mp hm] at hy ⊢
   rw[hf1] at hy; injection hy
   exact (bJ vf (fp "full") (L3.var K'.eok hvf) ⟨rf3,zvf⟩ (λuu uu=>trivial))
  ·exact nN hy
 have S3:SimE fns k C XPc eQ:=l8 hf (l9 dS (dX "full") (mn 0))
 refine wpAny_execs_cons (plainObj_wpAny_Assign_Attribute (S3 ov3 cx3 (by rw[he]; simp) (λr hr v s4 E4=>?_) (λc hc=>by rw[he] at hc; cases hc)) (by
  refine Or.elim (zE ov3) (λLM=>?_) (λq=>?_)
  ·refine dM (LM) λMr M0 MZ M4 Mj MX=>?_
   clear LM
   subst Mj
   rfl
  ·cases q))
 rw[he] at hr; injection hr
 obtain ⟨LZ,as4,L5,_⟩:=E4
 refine aq (LZ) λh4 tk4 Ma k34=>?_
 clear LZ
 subst Ma
 refine ab (L5) λrv4 _=>?_
 clear L5
 refine rv4.isInt_k λt4 Me _=>?_
 (clear rv4; subst Me)
 refine ab (Inst.kk I3 D3 k34) λI4 D4=>?_
 have k4:K hh h4:=KG.trans k3 k34
 have L4:=L3.onK k34
 refine dK K'.eok.kind nds (L4.var K'.eok hvs) (jF (fns:=fns) (R0.k k4) (by simp[fieldNames]) (Within.cons _ _ (Within.cons _ _ Within.nil)) (by simp) hxC I4 D4 λh5 tk5 I5 b5 D5=>?_)
 have k5':K hh h5:=b5.kk k4 Mk.newX Mk.newD (l I4) (j I4 D4).1
 have rf5:R h5 vf (.list rows) (fp "full"):=p I4 D4 b5 (rf3.k k34)
 refine iM (Inst.ns1 I5 D5) λo5 e5 c5 d5 di5 ne5 ns5=>?_
 have nh:∀ a,¬ (∃ o,h'.get? a=some o)->hh.get? a=none:=λa q=>by
  cases e:hh.get? a with
  | none=>rfl
  | some o=>exact absurd ⟨o,Mk.keeps a o e⟩ q
 refine wpAny_execs_nil (hQ _ ⟨(ay h5 tk5 rfl k5'),x::D::fp "full", (jj x D o5 vf (fp "full") tc t4 _ rfl rfl e5 c5 d5 di5 ne5 ns5 ?_ ?_ ?_ ?_ rf5 zvf),λa i=>.inr ?_,(λq=>by cases q),λuu=>⟨λa i=>?_,?_⟩⟩)
 ·rfl
 ·rfl
 ·rfl
 ·intro m hm
  simp only[methNames,mem_cons,not_mem_nil,or_false] at hm
  rcases hm with rfl | rfl | rfl | rfl | rfl<;>rfl
 ·rcases mem_cons.mp i with rfl | i
  ·exact Mk.newX
  ·rcases mem_cons.mp i with rfl | i
   ·exact Mk.newD
   ·exact nh a (dp1 a i).1
 ·rcases mem_cons.mp i with rfl | i
  ·exact Mk.newX
  ·rcases mem_cons.mp i with rfl | i
   ·exact Mk.newD
   ·exact nh a (dp1 a i).1
 ·refine nodup_cons.mpr ⟨λq=>?_,nodup_cons.mpr ⟨nDf,dp2⟩⟩
  rcases mem_cons.mp q with q | q
  ·exact ne5 q.symm
  ·exact nxf q
theorem ud (hf:fns.hand=false) (hp:fns.init=some p) (hC:dI {fns with lam:=p.2.lam } k C XPc) (hok:okI p.2 fn=true)
  (nc:NC C) (hroom:Room fns.hand (k+1) A) (ge:GE fns s.heap) (rs:RVs s.heap xs vals as) (ha:∀ a∈as,P a) (nb:dv C fn xs≠.bad) (hQ:∀ r,dv C fn xs = .ok r->∀ v s',EP P s r v s'->Q v s') :
  wpAny (model prog w) A (call (.ref SF.rule) vals []) Q Er s:=by
 unfold okI at hok
 simp only[and_eq_true,decide_eq_true_eq,all_eq_true,Bool.not_eq_true'] at hok
 refine ab (hok) λLz hlam=>?_
 clear hok
 refine ab (Lz) λLA hfree=>?_
 clear Lz
 refine ab (LA) λLH hself=>?_
 clear LA
 refine ab (LH) λLJ hlast=>?_
 clear LH
 refine ab (LJ) λLD hbody=>?_
 clear LJ
 refine ab (LD) λLB hnd=>?_
 clear LD
 refine ab (LB) λm hbk=>?_
 clear LB
 refine fx (AZ hlast) λa3 b3 c3 hl3 o1 o2 o3=>?_
 cases hσ:bB fn.params xs with
 | none=>exact absurd (by unfold dv; rw[hσ]) nb
 | some σ=>
  refine ab (ql rs hσ) λhlen l=>?_
  refine ah (l) λfp hfp=>?_
  clear l
  have R0:=ge.cls (.inr (by rw[hp]; rfl))
  refine bl (R0) λN mN LF quiet LI _=>?_
  clear R0
  obtain ⟨z,hN⟩:=LF
  refine eO (z) λnm q bs' sn sub col dd k0 k1 k2 k3 k5 hCl=>?_
  clear z
  refine lm (LI) λp' oI i1 i2 i3 i4 i5=>?_
  clear LI
  rw[hp] at i1; injection i1
  obtain ⟨hh,g,dr,tk,os⟩:=s
  refine wpAny_call_obj_init PySem.F.objNew hCl hN i2 i4 i5 λh' x D Mk=>?_
  have hxC:x≠SF.rule:=λq=>by have:=Mk.newX; rw[q] at this; rw[this] at hCl; exact nN hCl
  have kM:K hh h':=.of Mk.keeps
  refine vg (i3.k kM) λo fd ho hd hbd i hgl hcl hbl hcr hcode t hco hgen n=>?_
  rw[m] at t
  refine ab (hroom.at hf) λr1 r2=>?_
  have ge':GE fns h':=ge.k kM
  have K0fp:∀ y q,σ y=some q->y ∈ "self" :: fn.params/\∃ V v,q=mk V/\(("self" :: fn.params).zip (.ref x::vals)).lookup y=some v/\RV h' v V (fp y)/\∀ a∈fp y,P a:=λy q hq=>by
   refine ab (hfp y q hq) λh1 j=>?_
   refine bl (j) λV v h2 h3 h4 h5=>?_
   clear j
   have hys:y ≠ "self" := λe=>by
    rw[m] at hnd
    exact (nodup_cons.mp hnd).1 (e▸h1)
   refine (az (.tail _ h1) (bO V v h2 ?_ (h4.k kM) (λa h=>ha a (h5 a h))))
   rw[zip_cons_cons,lookup_cons,beq_eq_false_iff_ne.mpr hys]
   exact h3
  have hu:(A.under (.builtin "type.__call__" ⟨.ref SF.rule::vals,[]⟩)).units<=A.units+50:=by
   have:(Code.builtin "type.__call__" ⟨.ref SF.rule::vals,[]⟩).cUnits<=50:=by
    have:(Code.builtin "type.__call__" ⟨.ref SF.rule::vals,[]⟩).cUnits=1+3*(Code.builtin "type.__call__" ⟨.ref SF.rule::vals,[]⟩).frames:=rfl
    rw[this]
    have:(Code.builtin "type.__call__" ⟨.ref SF.rule::vals,[]⟩).frames<=1:=by first | exact le_refl _ | exact zero_le _
    exact Ij this
   show A.units+_<=_
   exact HW this
  refine wpAny_call (rD (s:=⟨h',g,dr,tk,os⟩) (A:=A.under (.builtin "type.__call__" ⟨.ref SF.rule::vals,[]⟩)) (by rw[depth_under_make]; exact GV r1) ho hd (jN ge.nolim kM) hcr hbd (t (.ref x::vals) (by rw[length_cons,length_cons,hlen])) hcl (l0 i (λy hy=>hbk y (m▸hy))) (λs₁ X=>?_) hco hgen n)
  refine aY (X.x.toInCall.same) λh₁ tka LL=>?_
  subst LL
  have hka:=X.x.toInCall.keep
  have KS:=nj (k:=k) (ft:=p.2) (fa:=p.1) (σ:=σ) (pn:="self" :: fn.params) (pv:=.ref x::vals) (fp:=fp) (P:=P) (s:=⟨h',g,dr,tk,os⟩) hf (m▸hnd) (λy hy=>hbk y (m▸hy)) hfree (A:=A.under (.builtin "type.__call__" ⟨.ref SF.rule::vals,[]⟩)) hroom.1 (by rw[depth_under_make]; exact HP r1) (lt_of_le_of_lt (CO hu) r2) ge' i hgl hbl n hcode X K0fp
  have u:p.2.body=p.2.body.take (p.2.body.length-3)++[a3,b3,c3]:=by rw[<- hl3]; exact (take_append_drop _ _).symm
  rw[u,nq]
  refine wpAny_bind ?_
  have okb:cz (callEnvC fd h'.objs.size p.1).scope.names fn.body (p.2.body.take (p.2.body.length-3))=true:=by show cz fd.scope.names fn.body _=true; rw[i]; exact hbody
  cases hex:exs C fn.body σ with
  | bad=>exact absurd (xF hσ hex) nb
  | exc c=>exact absurd hex (dD nc _ _ c)
  | ok o=>
  obtain ⟨σ',fl⟩:=o
  cases fl with
  | ret q=>exact absurd (wD hσ hex) nb
  | next=>
  cases hfl:fA σ' with
  | bad=>exact absurd ((m7 hσ hex).trans hfl) nb
  | exc c=>
   exact absurd hfl (mY c)
  | ok r=>
  replace hQ:=hQ r ((m7 hσ hex).trans hfl)
  refine fP (so hfl) λci mc rows ys er hc1 hf1 hf4=>?_
  refine cY (fns:={fns with lam:=p.2.lam }) hf hC nc fn.body okb KS hex (λuu s' vals' fp' st K' F=>?_) λq e=>by cases e
  refine aq (st) λhs' tk' LO kgs=>?_
  (clear st; subst LO)
  rw[er] at hQ
  have R0:=ge.cls (.inr (by rw[hp]; rfl))
  refine vT (fns:={fns with lam:=p.2.lam }) C hf Mk hxC (Internal.K.step (Internal.K.of hka) kgs λb o e=>⟨o,e⟩) (ge.flag _ _) R0 hlam K' ?_ hc1 hf1 hf4 (by show fh fd.scope.names _ _ _=true; rw[i]; exact o1) (by show fh fd.scope.names _ _ _=true; rw[i]; exact o2) (by show fh fd.scope.names _ _ _=true; rw[i]; exact o3) λs' E=>⟨rfl,hQ _ _ E⟩
  rw[(F.1 "self" hself).1]
  show (("self" :: fn.params).zip (Value.ref x::vals)).lookup "self" = _
  rw[zip_cons_cons,lookup_cons,beq_self_eq_true]
end
section
noncomputable def zA (fns:Fns) (L:List (String×Fn)):Prop:=∀ f fn,L.lookup f=some fn->(f∉bV->if f = "Rule" then ∃ p,fns.init=some p/\okI p.2 fn=true else if f∈methNames then ∃ p,fns.mth f=some p/\okF p.2 fn=true/\p.2.lam=false else ∃ p,fns.fn f=some p/\okF p.2 fn=true/\p.2.lam=true)
theorem Bl (h:okI ft f=true):ft.lam=false:=by
 unfold okI at h
 simp only[and_eq_true,Bool.not_eq_true'] at h
 exact h.2
theorem uM (hf:fns.hand=false) (hL:zA fns L):∀ n,dI {fns with lam:=true } n (mkC L n) XPc/\dI {fns with lam:=false } n (aw (mkC L n)) XPc
 | 0=>⟨(λf g h=>by cases h),λf g h=>by
  unfold aw at h
  split at h<;>cases h⟩
 | n+1=>by
  refine ab (uM hf hL n) λi1 i2=>?_
  have t:∀ (b:Bool) (f:String) (g:List V->Out (V×Mode)),mkC L (n+1) f=some g->(f∉bV->∃ a,adr {fns with lam:=b } f=some a/\∀ {A:Around}{P:Addr->Prop}{s:Shared}{Q:Value->Shared->Prop}{Er:Value->Shared->Prop}{j:List V}{vals:List Value}{as:List Addr},
    Room fns.hand (n+1) A->GE {fns with lam:=b } s.heap->RVs s.heap j vals as->(∀ a∈as,P a)->g j≠.bad->(∀ r,g j = .ok r->∀ v s',EP P s r v s'->Q v s')->(∀ c,g j = .exc c->∀ x s',XPc c s x s'->Er x s') ->
    wpAny (model prog w) A (call (.ref a) vals []) Q Er s):=λb f g h=>by
   refine bw (show (L.lookup f).map (λfn vs=>bL f (mkC L n) fn vs)=some g from h) λfn hfn LC=>?_
   (clear h; subst LC)
   refine λhe=>?_
   have m:=hL f fn hfn he
   by_cases hr:f = "Rule"
   ·rw[if_pos hr] at m
    refine ae (m) λp o k=>?_
    clear m
    refine (ag SF.rule (by unfold adr; rw[if_pos hr]; show (fns.init).map _=_; rw[o]; rfl) (λi u y z l hQ _=>?_))
    have hk:∀ j,bL f (mkC L n) fn j=dv (aw (mkC L n)) fn j:=λj=>by unfold bL; rw[if_pos hr]
    dsimp only at l
    rw[hk] at l
    refine ud (fns:={fns with lam:=b }) hf (p:=p) o (by rw[Bl k]; exact i2) k (iW (gD L n)) i u y z l (λr e=>hQ r ((hk _).trans e))
   ·rw[if_neg hr] at m
    by_cases hm:f∈methNames
    ·rw[if_pos hm] at m
     refine ao (m) λp o k hl=>?_
     clear m
     refine (ag p.1 (by rw[rK hr hm]; show (fns.mth f).map _=_; rw[o]; rfl) (λi u y z l hQ _=>?_))
     have hk:∀ j,bL f (mkC L n) fn j=au (aw (mkC L n)) fn j:=λj=>by unfold bL; rw[if_neg hr,if_pos hm]
     dsimp only at l
     rw[hk] at l
     refine bl (u.cls (.inl (bG f p o))) λuu uu uu uu uu hmt=>?_
     refine ao (hmt f p o) λuu uu hat _=>?_
     exact mC (fns:={fns with lam:=b }) hf (ft:=p.2) (by rw[hl]; exact i2) k (iW (gD L n)) i u hat y z l (λr e=>hQ r ((hk _).trans e))
    ·rw[if_neg hm] at m
     refine ao (m) λp o k hl=>?_
     clear m
     refine (ag p.1 (by rw[vD hr hm]; show (fns.fn f).map _=_; rw[o]; rfl) (λi u y z l hQ _=>?_))
     have hk:∀ j,bL f (mkC L n) fn j=au (mkC L n) fn j:=λj=>by unfold bL; rw[if_neg hr,if_neg hm]
     dsimp only at l
     rw[hk] at l
     exact mC (fns:={fns with lam:=b }) hf (ft:=p.2) (by rw[hl]; exact i1) k (gD L n) i u (u.funs f p o) y z l (λr e=>hQ r ((hk _).trans e))
  refine ⟨λf g h=>⟨le_add_left 1 n,λuu=>rfl,t true f g h⟩,λf g h=>?_⟩
  unfold aw at h
  split at h
  ·exact nN h
  ·rename_i hn
   exact ⟨le_add_left 1 n,λq=>absurd q hn,t false f g h⟩
end
noncomputable def bY (p:Program) (loose:List Str) (mg mN:Str->Option Value) (L:List (String×Fn)):Fns where
 fn f:=if f = "Rule" \/ f∈methNames\/f∈bV then none else (L.lookup f).bind λfn=>((recsOf p).find? λd=>d.name==Str.ofString f).bind λd=>(iw (mg (Str.ofString f))).map λa=>(a,⟨fn.params,d.body,d.scope,true⟩)
 mth m:=if m∈methNames then (L.lookup m).bind λfn=>(dZ p loose m).bind λr=>(iw (mN (Str.ofString m))).map λa=>(a,⟨fn.params,r.body,r.scope,false⟩) else none
 init:=(L.lookup "Rule").bind λfn=>(dZ p loose "__init__").bind λr=>(iw (mN "__init__")).map λa=>(a,⟨"self" :: fn.params,r.body,r.scope,false⟩)
 lam:=true
 hand:=false
theorem kj:∀ {l:List (String×α)}{x:String}{v:α},l.lookup x=some v->(x,v)∈l
 | (y,u)::l,x,v,h=>by
  rw[lookup_cons] at h
  split at h
  ·rename_i e; injection h; rw[beq_iff_eq.mp e]; exact .head _
  ·exact .tail _ (kj h)
theorem sN {ps:List String}(h:ps.Nodup):(ps.map Str.ofString).Nodup:=pairwise_map.mpr (List.Pairwise.imp (λh e=>h (bX e)) h)
theorem rI {ps:List String}(h:gJ fd.params ps=true) (hd:fd.defaults = .none) (hn:ps.Nodup) (vals:List Value) (hl:vals.length=ps.length):bindArgs fd ⟨vals,[]⟩=pure ((ps.map Str.ofString).zip vals):=by
 unfold gJ at h
 simp only[and_eq_true,beq_iff_eq,List.isEmpty_iff,Option.isNone_iff_eq_none] at h
 refine ab (h) λj k=>?_
 clear h
 refine ab (j) λi l=>?_
 clear j
 refine ab (i) λg m=>?_
 clear i
 refine ab (g) λo n=>?_
 clear g
 exact k9 o n m l k hd (sN hn) (by rw[length_map]; exact hl)
theorem nR (h:okF ft f=true):f.params.Nodup:=by
 unfold okF at h
 simp only[and_eq_true,decide_eq_true_eq] at h
 exact h.1.1.2
theorem vh (h:okI ft f=true):ft.params.Nodup:=by
 unfold okI at h
 simp only[and_eq_true,decide_eq_true_eq] at h
 exact h.1.1.1.1.1.2
theorem ld (h:f8 sc=true):sc.isCoroutine=false/\sc.isGenerator=false/\sc.kind = .function:=by
 unfold f8 at h
 simp only[and_eq_true,Bool.not_eq_true',beq_iff_eq] at h
 exact ⟨h.1.1,h.1.2,h.2⟩
section
theorem Ix (hS:∀ c P,h.TableAt c P #[]->SF.tab P) (T:Top p loose mean mg mb h) {f:String}{ps:List String}{d:DefRec}(hd:(recsOf p).find? (λd=>d.name==Str.ofString f)=some d) (hn:ps.Nodup) (h1:gJ d.params ps=true) (h2:f8 d.scope=true) :
  ∃ a,mg (Str.ofString f)=some (.ref a)/\FnAt h ⟨ps,d.body,d.scope,true⟩ a:=by
 have y:=List.mem_of_find?_eq_some hd
 have j:=List.find?_some hd
 simp only[beq_iff_eq] at j
 refine oA (T.fn d y) λa o pm k doc x v u t=>?_
 have g:CodeOk h k d.name:=by
  refine BX (T.tab d y) λa' o' fd c P r l n u4 z m=>?_
  rw[x] at r; cases r
  rw[v] at l; injection l
  rw[u] at n; cases n
  exact ⟨c,P,#[],u4,t,z,m,⟨trivial,λpos cv q=>by cases q⟩,hS c P m⟩
 refine aI (ld h2) λh7 h8 h9=>?_
 exact ⟨a,by rw[<- j]; exact x,o,_,v,u,rfl,rfl,rfl,rfl,rfl,t,λuu=>g,λi hl=>rI h1 rfl hn i hl,h7,h8,h9⟩
theorem rf (P:PlainAt h c C N mN) {ps:List String}(hr:c.meths.find? (λr=>r.name==Str.ofString m)=some r) (hn:ps.Nodup) (h1:gJ r.params ps=true) (h2:f8 r.scope=true) :
  ∃ a o,mN (Str.ofString m)=some (.ref a)/\FnAt h ⟨ps,r.body,r.scope,false⟩ a/\h.get? a=some o/\o.cls = .type "function" := by
 have i:=List.find?_some hr
 simp only[beq_iff_eq] at i
 refine vM (P.meths r (List.mem_of_find?_eq_some hr)) λa o z cd y p j n l k=>?_
 refine aI (ld h2) λx v u=>?_
 exact ⟨a,o,by rw[<- i]; exact p,⟨o,_,j,l,rfl,rfl,rfl,rfl,rfl,k,(λq=>by cases q),λg t=>rI h1 rfl hn g t,x,v,u⟩,j,n⟩
theorem z3 (TE:TopE p loose mg h) (Y:jV h) (T:Top p loose mean mg mb h) (hr:(f7 p loose).isSome=true):∃ c C N mN,f7 p loose=some c/\mg "Rule" = some (.ref C)/\PlainAt h c C N mN/\∀ n∈fieldNames,mN (Str.ofString n)=none:=by
 refine bK hr λc k=>?_
 have x:=List.mem_of_find?_eq_some k
 have m:=List.find?_some k
 simp only[beq_iff_eq] at m
 refine bz (TE c x) λC N mN l P=>?_
 rw[m] at l
 refine ⟨c,C,N,mN,k,l,P.ofCmp,λn hf=>?_⟩
 obtain ⟨i,g',C',o,cd,j,b1,t,b3,b4,b5⟩:=Y
 have y:i=mg:=g'.eq_nsMap.trans T.g.eq_nsMap.symm
 (clear T TE; subst y)
 have r:i "Rule" = some (.ref C):=l
 rw[b1] at r; cases r
 refine eO (P.cls.obj) λnm q bs sn u col dd k0 k1 k2 k3 k5 e=>?_
 rw[t] at e; (have v:=Option.some.inj e; clear e; (clear t; subst v))
 cases b3
 have z:j=mN:=b4.eq_nsMap.trans P.cls.ns.eq_nsMap.symm
 rw[<- z]
 exact b5 n hf
theorem ms (ht:oF p loose L=true) (hf:L.lookup f=some fn):jD p loose f fn=true:=all_eq_true.mp ht _ (kj hf)
theorem ut (hS:∀ c P,h.TableAt c P #[]->SF.tab P) (T:Top p loose mean mg mb h) (TE:TopE p loose mg h) (Y:jV h) (ht:oF p loose L=true) (hb:wi p loose=true) (hr:(f7 p loose).isSome=true) (hL:(L.lookup "Rule").isSome=true) (hR:SF.rule=(iw (mg "Rule")).getD 0):∃ mN,GE (bY p loose mg mN L) h/\zA (bY p loose mg mN L) L:=by
 refine fP (z3 TE Y T hr) λc C N mN hc hC Pl t=>?_
 have eR:SF.rule=C:=by rw[hR,hC]; rfl
 have mrec:∀ m,dZ p loose m=c.meths.find? λr=>r.name==Str.ofString m:=λm=>by unfold dZ; rw[hc]; rfl
 have tM:∀ m fn,L.lookup m=some fn->m∈methNames->∃ a o r,dZ p loose m=some r/\mN (Str.ofString m)=some (.ref a)/\FnAt h ⟨fn.params,r.body,r.scope,false⟩ a/\h.get? a=some o/\o.cls = .type "function" /\ okF ⟨fn.params,r.body,r.scope,false⟩ fn=true:=λm fn hm hmm=>by
  have i:=ms ht hm
  have n1:m∉bV:=λq=>by
   simp only[methNames,mem_cons,not_mem_nil,or_false] at hmm
   rcases hmm with rfl | rfl | rfl | rfl | rfl<;>revert q<;>decide
  have n2:m ≠ "Rule" := λq=>by (clear i hm n1; subst q); revert hmm; decide
  unfold jD at i
  rw[if_neg n1,if_neg n2,if_pos hmm] at i
  refine ai i λr hr i=>?_
  simp only[and_eq_true] at i
  refine bl (rf Pl ((mrec m).symm.trans hr) (nR i.1.1) i.1.2 i.2) λa o u l v z=>?_
  exact ⟨a,o,r,hr,u,l,v,z,i.1.1⟩
 have tI:∀ fn,L.lookup "Rule" = some fn->∃ a o r,dZ p loose "__init__" = some r/\mN "__init__" = some (.ref a)/\FnAt h ⟨"self" :: fn.params,r.body,r.scope,false⟩ a/\h.get? a=some o/\o.cls = .type "function" /\ okI ⟨"self" :: fn.params,r.body,r.scope,false⟩ fn=true:=λfn hm=>by
  have i:=ms ht hm
  unfold jD at i
  rw[if_neg (by decide),if_pos rfl] at i
  refine ai i λr hr i=>?_
  simp only[and_eq_true] at i
  refine bl (rf Pl (ps:="self" :: fn.params) ((mrec "__init__").symm.trans hr) (vh i.1.1) i.1.2 i.2) λa o u l v z=>?_
  exact ⟨a,o,r,hr,u,l,v,z,i.1.1⟩
 have tF:∀ f fn,L.lookup f=some fn->¬ (f = "Rule" \/ f∈methNames\/f∈bV)->∃ a d,(recsOf p).find? (λd=>d.name==Str.ofString f)=some d/\mg (Str.ofString f)=some (.ref a)/\FnAt h ⟨fn.params,d.body,d.scope,true⟩ a/\okF ⟨fn.params,d.body,d.scope,true⟩ fn=true:=λf fn hm y=>by
  have i:=ms ht hm
  unfold jD at i
  rw[if_neg (λq=>y (.inr (.inr q))),if_neg (λq=>y (.inl q)),if_neg (λq=>y (.inr (.inl q)))] at i
  refine ai i λd hd i=>?_
  simp only[and_eq_true] at i
  refine ae (Ix hS T hd (nR i.1.1) i.1.2 i.2) λa u l=>?_
  exact ⟨a,d,hd,u,l,i.1.1⟩
 have gF:∀ f k,(bY p loose mg mN L).fn f=some k->¬ (f = "Rule" \/ f∈methNames\/f∈bV)/\mg (Str.ofString f)=some (.ref k.1)/\FnAt h k.2 k.1:=λf k j=>by
  simp only[bY] at j
  split at j
  ·exact nN j
  ·rename_i y
   refine bj j λfn t j=>?_
   refine bl (tF f fn t y) λa d u l v _=>?_
   rw[u,l] at j
   injection j
   exact ⟨y,l,v⟩
 have gM:∀ m k,(bY p loose mg mN L).mth m=some k->m∈methNames/\∃ o,mN (Str.ofString m)=some (.ref k.1)/\FnAt h k.2 k.1/\h.get? k.1=some o/\o.cls = .type "function" := λm k j=>by
  simp only[bY] at j
  split at j
  ·rename_i y
   refine bj j λfn t j=>?_
   refine cF (tM m fn t y) λa o r u l v z e5 _=>?_
   rw[u,l] at j
   injection j
   exact ⟨y,o,l,v,z,e5⟩
  ·exact nN j
 have gI:∀ k,(bY p loose mg mN L).init=some k->∃ o,mN "__init__" = some (.ref k.1)/\FnAt h k.2 k.1/\h.get? k.1=some o/\o.cls = .type "function" := λk j=>by
  simp only[bY] at j
  refine bj j λfn t j=>?_
  refine cF (tI fn t) λa o r u l v z e5 _=>?_
  rw[u,l] at j
  injection j
  exact ⟨o,l,v,z,e5⟩
 refine ⟨mN,⟨⟨mg,T.g,λf a hf hq=>?_,λx hx=>?_⟩,λf k j=>(gF f k j).2.2,λuu=>?_,⟨mb,T.b,λx hx=>?_⟩,T.nolimit,zR (T.bmain) λbm ob a b c d e f=>⟨mg,bm,ob,T.g,a,b,c,d,e,f⟩⟩,λf fn hf he=>?_⟩
 ·unfold adr at hq
  by_cases i:f = "Rule"
  ·rw[if_pos i] at hq
   refine bw hq λuu uu LD=>?_
   subst LD
   rw[i,eR]; exact hC
  ·rw[if_neg i,if_neg hf] at hq
   refine bw hq λk j LB=>?_
   subst LB
   exact (gF f k j).2.1
 ·have:=all_eq_true.mp hb x hx
  simp only[and_eq_true,Bool.not_eq_true',List.contains_eq_mem,decide_eq_false_iff_not] at this
  refine ab (this) λLF h5=>?_
  clear this
  refine ab (LF) λLI h4=>?_
  clear LF
  refine ab (LI) λLK h3=>?_
  clear LI
  refine ab (LK) λi h2=>?_
  clear LK
  exact T.free _ i h2 h3 h4 h5
 ·refine bK hL λfn hfn'=>?_
  refine cF (tI fn hfn') λa o r u l v z e5 _=>?_
  refine ⟨N,mN,eR▸Pl.cls,λn y=>?_,⟨(a,⟨"self" :: fn.params,r.body,r.scope,false⟩),o,?_,l,v,z,e5⟩,λm k j=>(gM m k j).2⟩
  ·simp only[mem_cons,not_mem_nil,or_false] at y
   rcases y with rfl | rfl | rfl | rfl | rfl | rfl
   ·exact Pl.quiet _ (mem_append_left _ (.head _))
   ·exact Pl.quiet _ (mem_append_left _ (.tail _ (.head _)))
   ·exact Pl.quiet _ (mem_append_left _ (.tail _ (.tail _ (.head _))))
   ·exact t _ (.head _)
   ·exact t _ (.tail _ (.head _))
   ·exact t _ (.tail _ (.tail _ (.head _)))
  ·simp only[bY,hfn',u,l,bind_some,iw,map_some]
 ·simp only[bnames,mem_cons,not_mem_nil,or_false] at hx
  rcases hx with rfl | rfl | rfl | rfl | rfl | rfl | rfl | rfl | rfl | rfl | rfl | rfl<;>(rw[T.builtins _ (by decide +kernel)]; kernel_rfl)
 ·by_cases i:f = "Rule"
  ·rw[if_pos i]
   (clear he; subst i)
   refine cF (tI fn hf) λa o r u l v z e5 e6=>?_
   exact ⟨(a,⟨"self" :: fn.params,r.body,r.scope,false⟩),by simp only[bY,hf,u,l,bind_some,iw,map_some],e6⟩
  ·rw[if_neg i]
   by_cases h2:f∈methNames
   ·rw[if_pos h2]
    refine cF (tM f fn hf h2) λa o r u l v z e5 e6=>?_
    exact ⟨(a,⟨fn.params,r.body,r.scope,false⟩),by simp only[bY,if_pos h2,hf,u,l,bind_some,iw,map_some],e6,rfl⟩
   ·rw[if_neg h2]
    refine bl (tF f fn hf λq=>q.elim i λq=>q.elim h2 he) λa d u l v e6=>?_
    exact ⟨(a,⟨fn.params,d.body,d.scope,true⟩),by simp only[bY,if_neg (show ¬ (f = "Rule" \/ f∈methNames\/f∈bV) from λq=>q.elim i λq=>q.elim h2 he),hf,u,l,bind_some,iw,map_some],e6,rfl⟩
theorem qZ (h:n<=60):Room false n callerA:=⟨λuu=>rfl,by show 1+claimMargin+2*n+4<recursionLimit; unfold claimMargin recursionLimit; exact C1 h,by show 4+100*n+300<cLine; unfold cLine; exact Jh h⟩
theorem BP:pW gl:=by
 intro p g mean z mb L s fn fa a n ns vs m Q Er h T TE Y ht hb hr hL hf hmg hn u ea hI hlen hQ
 replace h:SF=qx z s.heap:=h
 show wpAny (model prog w) callerA (call (.ref fa) [.ref a]) Q Er s
 refine ae (ut (λc P x=>by rw[h]; exact ⟨c,x⟩) T TE Y ht hb hr hL (by rw[h]; rfl)) λmN ge tab=>?_
 obtain ⟨i,hp,hok,y⟩:∃ i,(bY p g z mN L).fn "law" = some i/\okF i.2 fn=true/\i.2.lam=true:=tab "law" fn hf (by decide)
 have ha:i.1=fa:=by
  have:(bY p g z mN L).fn "law" = some i:=hp
  simp only[bY] at this
  rw[if_neg (by decide),hf] at this
  refine bj (show ((recsOf p).find? _).bind _=some i from this) λd _ this=>?_
  rw[hmg] at this
  (have oc:=Option.some.inj this; clear this; (clear y hok hp; subst oc)); rfl
 have hC:dI { (bY p g z mN L) with lam:=i.2.lam } n (mkC L n) XPc:=by rw[y]; exact (uM (fns:=bY p g z mN L) rfl tab n).1
 have rs:RVs s.heap [.d (aa ns)] [.ref a] ([a]++[]):=by
  refine .cons ⟨.list ea (RA.of_ints hI),?_⟩ .nil
  exact sz_list.mpr ⟨by rw[length_map]; exact hlen,gv ns⟩
 have hat:FnAt s.heap i.2 fa:=ha▸ge.funs "law" i hp
 refine mC (fns:=bY p g z mN L) (P:=λuu=>True) rfl hC hok (gD L n) (qZ (E9 hn)) ge hat rs (λuu uu=>trivial) (by rw[u]; simp) (λr hr v s' E=>?_)
 rw[u] at hr; injection hr
 obtain ⟨t,as,k,_⟩:=E
 refine aq (t) λh' tk LO kp=>?_
 clear t
 subst LO
 refine ab (k) λr _=>?_
 clear k
 cases r
 refine hQ h' tk ⟨λb o e=>?_,λb o e=>K.there kp e⟩
 refine ae (kp b o (.inl trivial) e) λo' e' l=>?_
 cases l with
 | same q=>exact .inl (q▸e')
 | tab ps more q1 q2 q3 _=>
  rw[h] at q1; revert q1; intro j
  refine ah (j) λc q1=>?_
  clear j
  (clear e; subst q2 q3)
  exact .inr (.inl ⟨q1.isCodeTable,rfl,ps,more,rfl,e'⟩)
end
theorem sD {P:Params}{h:Heap}{a:Addr}{vs:List Value}{xs:List W.WData}(x:W.Well P h (.ref a) (.list xs)) (hL:h.IsList a vs.toArray):h.get? a=some {cls:=.type "list", data:=.seq vs.toArray }:=by
 obtain ⟨o,e,j,n,g⟩:=hL
 cases x with
 | list e' _=>
  rw[e] at e'; (have i:=Option.some.inj e'; clear e'; (clear j; subst i))
  dsimp only at g
  injection g with h1 h2
  rw[e,h1]
theorem wG {w:World}{prog:Program}(T:Top p loose mean mg mb s.heap) (TE:TopE p loose mg s.heap) (Y:jV s.heap) (ht:oF p loose L=true) (hb:wi p loose=true) (hr:(f7 p loose).isSome=true) (hL:(L.lookup "Rule").isSome=true)
  (hf:L.lookup "law" = some fn) (hmg:mg (Str.ofString "law")=some (.ref fa)) (hn:n<=50) (hrun:au (mkC L n) fn [.d (aa ns)] = .ok (.d (.bool true),m)) (ea:s.heap.get? a=some {cls:=.type "list", data:=.seq vs.toArray }) (hI:IntsAre vs ns) (hlen:ns.length<=2^22)
  (hQ:∀ h' tk,OldK s.heap h'->Q (.bool true) {s with heap:=h',toks:=tk }):wpAny (model prog w) callerA (call (.ref fa) [.ref a]) Q Er s :=
 Bu BP ⟨prog,w,qx mg s.heap⟩ rfl T TE Y ht hb hr hL hf hmg hn hrun ea hI hlen hQ
theorem hJ:∀ {xs:List PyData},(∀ x∈xs,x.depth<=n)->PyData.depthAll xs<=n
 | [],_=>by simp[PyData.depthAll]
 | x::xs,h=>by
  rw[PyData.depthAll]
  exact Nat.max_le.mpr ⟨h x (.head _),hJ λy g=>h y (.tail _ g)⟩
theorem fL:∀ {xs:List PyData},(∀ x∈xs,x.canLay0=true)->PyData.canLayAll0 xs=true
 | [],_=>by simp[PyData.canLayAll0]
 | x::xs,h=>by
  rw[PyData.canLayAll0,h x (.head _),fL λy g=>h y (.tail _ g)]; rfl
noncomputable def Low (n:Nat) (d:PyData):Prop:=d.canLay0=true/\d.depth<=n
theorem Low.okc (h:Low n d) (hn:n<=64:=by decide):okc d=true:=by
 unfold Internal.okc
 rw[h.1,decide_eq_true (le_trans h.2 hn)]; rfl
theorem Low.int (i:Int) (n:Nat):Low (n+1) (.int i):=⟨rfl,by simp[PyData.depth]⟩
theorem Low.list (h:∀ x∈xs,Low n x):Low (n+1) (.list xs) :=
 ⟨by rw[PyData.canLay0]; exact fL λx g=>(h x g).1,by rw[PyData.depth]; have:=hJ λx g=>(h x g).2; exact jX this⟩
theorem Low.tuple (h:∀ x∈xs,Low n x):Low (n+1) (.tuple xs) :=
 ⟨by rw[PyData.canLay0]; exact fL λx g=>(h x g).1,by rw[PyData.depth]; have:=hJ λx g=>(h x g).2; exact jX this⟩
theorem o0 (ns:List Int) (n:Nat):Low (n+2) (aa ns):=.list λx h=>by
 refine aG h λi _ g=>?_
 (clear h; subst g)
 exact .int i n
theorem Bo (ns:List Int) (n:Nat):Low (n+2) (aJ ns):=.tuple λx h=>by
 refine aG h λi _ g=>?_
 (clear h; subst g)
 exact .int i n
theorem xz (t:List (List Int)) (n:Nat):Low (n+3) (ad t):=.list λx h=>by
 refine aG h λi _ g=>?_
 (clear h; subst g)
 exact o0 i n
@[simp] theorem ii (i:Int):okc (.int i)=true:=(Low.int i 0).okc
@[simp] theorem J1:okc .none=true:=rfl
@[simp] theorem cZ (ns:List Int):okc (aa ns)=true:=(o0 ns 0).okc
@[simp] theorem okc_ints' (ns:List Int):okc (.list (ns.map .int))=true:=cZ ns
@[simp] theorem eM (t:List (List Int)):okc (ad t)=true:=(xz t 0).okc
@[simp] theorem okc_rows' (t:List (List Int)):okc (.list (t.map aa))=true:=eM t
@[simp] theorem Ln:okc (.list [])=true:=cZ []
@[simp] theorem l7 (a b:Int):PyData.eqv (.int a) (.int b)=decide (a=b):=by
 rw[PyData.eqv]; by_cases h:a=b<;>simp[h]
theorem hW:∀ (a b:List Int),PyData.eqvAll (a.map .int) (b.map .int)=decide (a=b)
 | [],[]=>by simp[PyData.eqvAll]
 | [],y::b=>by simp[PyData.eqvAll]
 | x::a,[]=>by simp[PyData.eqvAll]
 | x::a,y::b=>by
  rw[map_cons,map_cons,PyData.eqvAll,hW a b,l7]
  by_cases h1:x=y<;>by_cases h2:a=b<;>simp[h1,h2]
@[simp] theorem gp (a b:List Int):PyData.eqv (aa a) (aa b)=decide (a=b):=by
 unfold aa; rw[PyData.eqv]; exact hW a b
@[simp] theorem eqv_ints' (a b:List Int):PyData.eqv (.list (a.map .int)) (.list (b.map .int))=decide (a=b):=gp a b
theorem kn:∀ (a b:List (List Int)),PyData.eqvAll (a.map aa) (b.map aa)=decide (a=b)
 | [],[]=>by simp[PyData.eqvAll]
 | [],y::b=>by simp[PyData.eqvAll]
 | x::a,[]=>by simp[PyData.eqvAll]
 | x::a,y::b=>by
  rw[map_cons,map_cons,PyData.eqvAll,kn a b,gp]
  by_cases h1:x=y<;>by_cases h2:a=b<;>simp[h1,h2]
@[simp] theorem o6 (a b:List (List Int)):PyData.eqv (ad a) (ad b)=decide (a=b):=by
 unfold ad; rw[PyData.eqv]; exact kn a b
@[simp] theorem BY (a:List Int):PyData.eqv (aa a) (.list [])=decide (a=[]):=gp a []
@[simp] theorem pp (k:Int) (ns:List Int):inV (.int k) (.d (aa ns)) = .ok (decide (k∈ns)):=by
 show (if okc (.int k)&&okc (aa ns) then Out.ok ((ns.map PyData.int).any λy=>PyData.eqv y (.int k)) else .bad)=_
 rw[ii,cZ,if_pos (by decide)]
 congr 1
 rw[Bool.eq_iff_iff,List.any_map]
 simp[any_eq_true]
@[simp] theorem oU (k:List Int) (t:List (List Int)):inV (aa k) (.d (ad t)) = .ok (decide (k∈t)):=by
 show (if okc (aa k)&&okc (ad t) then Out.ok ((t.map aa).any λy=>PyData.eqv y (aa k)) else .bad)=_
 rw[cZ,eM,if_pos (by decide)]
 congr 1
 rw[Bool.eq_iff_iff,List.any_map]
 simp[any_eq_true]
@[simp] theorem cP:∀ ns:List Int,aF (ns.map .int)=some ns
 | []=>rfl
 | i::ns=>by rw[map_cons,aF,cP ns]; rfl
theorem uL (ns:List Int):(ns.map PyData.int).all sx=true:=by rw[all_map,all_eq_true]; intro _ _; rfl
@[simp] theorem nK (ns:List Int):fresh (ns.map .int) = .deep:=by unfold fresh; rw[uL]; rfl
@[simp] theorem vm (i:Int):mk (.d (.int i))=sI i:=rfl
@[simp] theorem Lq (ns:List Int):mk (.d (aa ns))=(.d (aa ns),.sh):=rfl
theorem iB:∀ {ns:List Int},(∀ i∈ns,F (.int i) = .ok (if p i then some (sI (f i)) else none))->bE F (ns.map .int) = .ok (((ns.filter p).map f).map .int,true)
 | [],_=>rfl
 | i::ns,h=>by
  rw[map_cons,bE,h i (.head _),iB λj g=>h j (.tail _ g)]
  simp only[Out.ok_bind]
  cases hp:p i<;>simp[hp,sI,filter_cons]
theorem qR {F:PyData->Out (Option (V×Mode))}{f:Int->Int}{ns:List Int}(h:∀ i∈ns,F (.int i) = .ok (some (sI (f i)))):bE F (ns.map .int) = .ok ((ns.map f).map .int,true):=by
 have:=iB (p:=λuu=>true) (F:=F) (f:=f) (ns:=ns) λi g=>by simpa using h i g
 rwa [List.filter_eq_self.mpr (λuu uu=>rfl)] at this
theorem oX:∀ {l:List α},(∀ i∈l,F (e i) = .ok (some (sI (f i))))->bE F (l.map e) = .ok ((l.map f).map .int,true)
 | [],_=>rfl
 | i::l,h=>by
  rw[map_cons,bE,h i (.head _),oX λj g=>h j (.tail _ g)]
  rfl
theorem iD {α:Type}{F:PyData->Out (Option (V×Mode))}{e:α->PyData}{f:α->List Int}{p:α->Bool}{m:α->Mode}:∀ {l:List α},(∀ i∈l,F (e i) = .ok (if p i then some (.d (aa (f i)),m i) else none)) ->
  ∃ b,bE F (l.map e) = .ok (((l.filter p).map f).map aa,b)/\((∀ i∈l,m i = .deep)->b=true)
 | [],_=>(ag true rfl (λuu=>rfl))
 | i::l,h=>by
  refine ae (iD (l:=l) λj g=>h j (.tail _ g)) λb n k=>?_
  rw[map_cons,bE,h i (.head _),n]
  simp only[Out.ok_bind]
  cases hp:p i
  ·exact (ag b (by simp[hp,filter_cons]) (λq=>k λj g=>q j (.tail _ g)))
  ·refine (ag (decide (m i = .deep)&&b) (by simp[hp,filter_cons]) (λq=>?_))
   rw[q i (.head _),k λj g=>q j (.tail _ g)]; rfl
theorem lD (a b:Int):c6 a b=((List.range (b-a).toNat).map λ(k:Nat)=>a+(k:Int)).map .int:=by
 unfold c6; rw[map_map]; rfl
noncomputable def aP (n:Nat):List Int:=(List.range n).map λ(k:Nat)=>(k:Int)
theorem uZ {n:Nat}(h:n<=1000000):bM 0 n = .ok ((aP n).map .int,.deep):=by
 unfold bM
 rw[if_pos (cr (by unfold lim; exact CQ h) E0 DR C8 (Gj h)),lD]
 simp[aP]
theorem mem_upTo:i∈aP n↔0<=i/\i<n:=by
 unfold aP
 simp only[mem_map,List.mem_range]
 constructor
 ·rintro ⟨k,hk,rfl⟩; exact IR hk
 ·rintro ⟨g,h⟩; exact (ag i.toNat (la1 g h) (Gb g))
theorem mI (hk:bH i xs.length=some k) (h:xs[k]? = some y):fg (.list xs) (.int i) = .ok (mk (.d y)):=by
 show (am ((bH i xs.length).bind λk=>xs[k]?) λz=>Out.ok (mk (.d z)))=_
 rw[hk,bind_some,h]; rfl
theorem fO {i:Int}{n:Nat}(h0:0<=i) (h:i<n):bH i n=some i.toNat:=by unfold bH; rw[if_pos h0,if_pos h]
theorem tY (h0:0<=i) (h:ns[i.toNat]? = some x):fg (aa ns) (.int i) = .ok (sI x):=by
 have g:i.toNat<ns.length:=(List.getElem?_eq_some_iff.mp h).1
 exact mI (fO h0 (by rw[length_map]; exact y3 g)) (by rw[List.getElem?_map,h]; rfl)
section
variable (a b:Int) (xs ys:List Int) (t u:List (List Int)) (σ:St) (x y:String) (v:V×Mode)
@[simp] theorem Ll:upd σ x v y=if y=x then some v else σ y:=rfl
@[simp] theorem bT (b:Bool):al (.d (.bool b)) = .ok b:=rfl
@[simp] theorem Lv:b6 .lt (.d (.int a)) (.d (.int b)) = .ok (decide (a<b)):=rfl
@[simp] theorem Lw:b6 .gt (.d (.int a)) (.d (.int b)) = .ok (decide (b<a)):=rfl
@[simp] theorem Lu:b6 .ge (.d (.int a)) (.d (.int b)) = .ok (decide (b<=a)):=rfl
@[simp] theorem BT:b6 .eq (.d (.int a)) (.d (.int b)) = .ok (decide (a=b)):=by
 show (if okc (.int a)&&okc (.int b) then Out.ok (PyData.eqv (.int a) (.int b)) else .bad)=_
 rw[ii,ii,l7,if_pos (by decide)]
@[simp] theorem CB:b6 .ne (.d (.int a)) (.d (.int b)) = .ok (!decide (a=b)):=by
 show (if okc (.int a)&&okc (.int b) then Out.ok (!PyData.eqv (.int a) (.int b)) else .bad)=_
 rw[ii,ii,l7,if_pos (by decide)]
@[simp] theorem Bb:b6 .eq (.d (aa xs)) (.d (aa ys)) = .ok (decide (xs=ys)):=by
 show (if okc (aa xs)&&okc (aa ys) then Out.ok (PyData.eqv (aa xs) (aa ys)) else .bad)=_
 rw[cZ,cZ,gp,if_pos (by decide)]
@[simp] theorem AM:b6 .ne (.d (aa xs)) (.d (aa ys)) = .ok (!decide (xs=ys)):=by
 show (if okc (aa xs)&&okc (aa ys) then Out.ok (!PyData.eqv (aa xs) (aa ys)) else .bad)=_
 rw[cZ,cZ,gp,if_pos (by decide)]
@[simp] theorem Av:b6 .eq (.d (ad t)) (.d (ad u)) = .ok (decide (t=u)):=by
 show (if okc (ad t)&&okc (ad u) then Out.ok (PyData.eqv (ad t) (ad u)) else .bad)=_
 rw[eM,eM,o6,if_pos (by decide)]
@[simp] theorem Ls:b6 .ne (.d (ad t)) (.d (ad u)) = .ok (!decide (t=u)):=by
 show (if okc (ad t)&&okc (ad u) then Out.ok (!PyData.eqv (ad t) (ad u)) else .bad)=_
 rw[eM,eM,o6,if_pos (by decide)]
@[simp] theorem Cm:b6 .isin (.d (.int a)) (.d (aa xs)) = .ok (decide (a∈xs)):=pp a xs
@[simp] theorem Aq:b6 .notin (.d (.int a)) (.d (aa xs)) = .ok (!decide (a∈xs)):=by
 show ((inV (.int a) (.d (aa xs))).bind λb=>Out.ok (!b))=_
 rw[pp]; rfl
@[simp] theorem Bi:b6 .isin (.d (aa xs)) (.d (ad t)) = .ok (decide (xs∈t)):=oU xs t
@[simp] theorem Lr:dz .add (.int a) (.int b) = .ok (sI (a+b)):=rfl
@[simp] theorem Lk:dz .sub (.int a) (.int b) = .ok (sI (a-b)):=rfl
@[simp] theorem Lm:dz .xor (.int a) (.int b) = .ok (sI (Builtin.bitXor a b)):=rfl
theorem uk (h:a.natAbs<2^63):dz .mul (.int a) (.int b) = .ok (sI (a*b)):=by
 show (if a.natAbs<2^63\/b.natAbs<2^63 then Out.ok (sI (a*b)) else .bad)=_
 rw[if_pos (.inl h)]
theorem vA (h:b.natAbs<2^63):dz .mul (.int a) (.int b) = .ok (sI (a*b)):=by
 show (if a.natAbs<2^63\/b.natAbs<2^63 then Out.ok (sI (a*b)) else .bad)=_
 rw[if_pos (.inr h)]
theorem Am (h:0<b):dz .mod (.int a) (.int b) = .ok (sI (a%b)):=by
 show (if b=0 then Out.bad else Out.ok (sI (a.fmod b)))=_
 rw[if_neg (DU h),Int.fmod_eq_emod_of_nonneg _ (yU h)]
theorem Ae (h:0<b) (h':b<1000000000):dz .fdiv (.int a) (.int b) = .ok (sI (a/b)):=by
 show (if b=0\/1000000000<=b.natAbs then Out.bad else Out.ok (sI (a.fdiv b)))=_
 rw[if_neg (by lia),Int.fdiv_eq_ediv_of_nonneg _ (yU h)]
theorem xL (h:xs.length+ys.length<=1000000):dz .add (aa xs) (aa ys) = .ok (.d (aa (xs++ys)),.deep):=by
 show (if (xs.map PyData.int).length+(ys.map PyData.int).length<=lim then Out.ok (V.d (.list (xs.map .int++ys.map .int)),fresh (xs.map .int++ys.map .int)) else .bad)=_
 rw[length_map,length_map,if_pos (show _<=lim from h),<- map_append,nK]; rfl
@[simp] theorem Cb:b1V .len (.d (aa xs)) = .ok (sI xs.length):=by
 show Out.ok (sI (xs.map PyData.int).length)=_
 rw[length_map]
@[simp] theorem AK:b1V .len (.d (ad t)) = .ok (sI t.length):=by
 show Out.ok (sI (t.map aa).length)=_
 rw[length_map]
@[simp] theorem Ah:b1V .list (.d (aa xs)) = .ok (.d (aa xs),.deep):=by
 show Out.ok (V.d (.list (xs.map PyData.int)),fresh (xs.map PyData.int))=_
 rw[nK]; rfl
@[simp] theorem wd:b1V .tuple (.d (aa xs)) = .ok (.d (aJ xs),.deep):=by
 show Out.ok (V.d (.tuple (xs.map PyData.int)),if (xs.map PyData.int).all sx then Mode.deep else .sh)=_
 rw[uL,if_pos rfl]; rfl
noncomputable def aH (xs:List Int):List Int:=xs.mergeSort λa b=>decide (a<=b)
theorem m8 (h:xs.length<64):b1V .sorted (.d (aa xs)) = .ok (.d (aa (aH xs)),.deep):=by
 show dY (xs.map PyData.int)=_
 unfold dY
 rw[length_map,if_pos h,cP]; rfl
theorem lP (h:xs.length<128) (h0:∀ i∈xs,0<=i):b1V .sorted (.d (aa xs)) = .ok (.d (aa (aH xs)),.deep):=by
 by_cases h1:xs.length<64
 ·exact m8 xs h1
 show dY (xs.map PyData.int)=_
 unfold dY
 rw[length_map,if_neg h1,if_pos h,cP]
 show (if _ then _ else _)=_
 rw[if_pos h0]; rfl
theorem qT (h:xs.length<128) (h0:∀ i∈xs,0<=i) (hs:aH xs=xs):b1V .sorted (.d (aa xs)) = .ok (.d (aa xs),.deep):=by
 rw[lP xs h h0,hs]
@[simp] theorem CK:hV (.d (.int a)) "int" = .ok true:=rfl
@[simp] theorem CJ:hV (.d (.int a)) "bool" = .ok false:=rfl
@[simp] theorem Br:hV (.d (aa xs)) "list" = .ok true:=rfl
@[simp] theorem Cj:(sI a).1 = .d (.int a):=rfl
@[simp] theorem Kz:(sI a).2 = .deep:=rfl
@[simp] theorem iI (b:Bool):(sB b).1 = .d (.bool b):=rfl
@[simp] theorem Lx (b:Bool):(sB b).2 = .deep:=rfl
@[simp] theorem J9:bP []=some []:=rfl
@[simp] theorem Ki (m:Mode) (l:List (V×Mode)):bP ((.d (.int a),m)::l)=(bP l).map (.int a :: ·):=rfl
@[simp] theorem Lo (l:List (V×Mode)):bP (sI a::l)=(bP l).map (.int a :: ·):=rfl
@[simp] theorem CL:allDeep []=true:=rfl
@[simp] theorem FL (l:List (V×Mode)):allDeep (sI a::l)=allDeep l:=by simp[allDeep]
end
theorem dq (xs:List Int):(aH xs).Perm xs:=mergeSort_perm ..
theorem pO (xs:List Int):(aH xs).Pairwise (·<=·):=by
 have:=List.pairwise_mergeSort (le:=λa b:Int=>decide (a<=b)) (λa b c h1 h2=>by simp at *; exact zU h1 h2) (λa b=>by simp; exact zX) xs
 exact this.imp (by intro a b h; simpa using h)
theorem mU:∀ {l l':List Int},l.Perm l'->l.Pairwise (·<=·)->l'.Pairwise (·<=·)->l=l'
 | [],l',p,_,_=>by rw[p.nil_eq]
 | a::l,[],p,_,_=>by cases p.eq_nil
 | a::l,b::l',p,h,h'=>by
  refine ab (pairwise_cons.mp h) λk j=>?_
  refine ab (pairwise_cons.mp h') λg i=>?_
  have e:a=b:=by
   rcases mem_cons.mp (p.mem_iff.mp (mem_cons_self (a:=a) (l:=l))) with e | e
   ·exact e
   ·rcases mem_cons.mp (p.mem_iff.mpr (mem_cons_self (a:=b) (l:=l'))) with e' | e'
    ·exact e'.symm
    ·have:=k b e'; have:=g a e; exact yz ‹_› this
  (clear h' g; subst e)
  rw[mU ((List.perm_cons a).mp p) j i]
theorem oS (p:xs.Perm ys) (h:ys.Pairwise (·<=·)):aH xs=ys:=mU ((dq xs).trans p) (pO xs) h
@[simp] theorem uA (xs:List Int):hH (.d (aa xs))=some (xs.map .int):=rfl
@[simp] theorem nL (t:List (List Int)):hH (.d (ad t))=some (t.map aa):=rfl
@[simp] theorem ba (xs:List Int) (m:Mode):itV (.d (aa xs),m) = .ok (xs.map .int,m):=rfl
@[simp] theorem aS (t:List (List Int)) (m:Mode):itV (.d (ad t),m) = .ok (t.map aa,m):=rfl
@[simp] theorem qN (xs:List Int) (a:Int):PyData.list (xs.map .int++[.int a])=aa (xs++[a]):=by unfold aa; rw[map_append]; rfl
theorem jl (h:xs.length<=1000000):jh σ x ns mx xs .deep = .ok (upd σ x (.d (.list xs),mx),.next):=by
 unfold jh
 rw[if_pos (show _<=lim from h),if_pos rfl]
@[simp] theorem bF (n:Nat):(aP n).length=n:=by simp[aP]
theorem iQ (h:ex C s σ = .ok (σ',.next)):exs C (.cons s r) σ=exs C r σ':=by
 simp only[bg,h,Out.ok_bind]
theorem Bf (h:ex C s σ = .ok (σ',.ret v)):exs C (.cons s r) σ = .ok (σ',.ret v):=by
 simp only[bg,h,Out.ok_bind]
section
theorem lu (ha:ev C a σ = .ok (.d x,mx)) (hb:ev C b σ = .ok (.d y,my)):ev C (.sub a b) σ=fg x y:=by simp only[d6,ha,hb,Out.ok_bind]
theorem dJ (ha:ev C a σ = .ok (.d x,mx)) (hb:ev C b σ = .ok (.d y,my)):ev C (.bin o a b) σ=dz o x y:=by simp only[fc,ha,hb,Out.ok_bind]
theorem BD (h:ev C a σ = .ok r):ex C (.ret a) σ = .ok (σ,.ret r):=by simp only[im,h,Out.ok_bind]
end
section
theorem jP (hC:C f=some g) (he:evs C es σ = .ok l):ev C (.call f es) σ=g (l.map (·.1)):=by simp only[dW,hC,he,Out.ok_bind]
theorem af (h:ev C a σ = .ok r) (hs:evs C es σ = .ok l):evs C (.cons a es) σ = .ok (r::l):=by simp only[aU,h,hs,Out.ok_bind]
theorem ax:evs C .nil σ = .ok []:=by simp only[aV]
theorem bq (ha:ev C a σ = .ok (x,mx)) (hb:ev C b σ = .ok (y,my)) (h:b6 o x y = .ok t):ev C (.cmp o a b) σ = .ok (sB t):=by simp only[db,ha,hb,h,Out.ok_bind]
theorem jk (ha:ev C a σ = .ok (sB t)):ev C (.not a) σ = .ok (sB (!t)):=by simp only[dh,ha,Out.ok_bind,iI,bT]
theorem Ak (ha:ev C a σ = .ok (sB false)) (hb:ev C b σ = .ok (sB t)):ev C (.or a b) σ = .ok (sB t):=by
 simp only[eF,ha,hb,Out.ok_bind,iI,bT,false_eq_true,if_false]
theorem z2 (ha:ev C a σ = .ok (sB true)):ev C (.or a b) σ = .ok (sB true):=by
 simp only[eF,ha,Out.ok_bind,iI,bT,if_true]
theorem wY (ha:ev C a σ = .ok (sB true)) (hb:ev C b σ = .ok (sB t)):ev C (.and a b) σ = .ok (sB t):=by
 simp only[dm,ha,hb,Out.ok_bind,iI,bT,if_true]
theorem xG (ha:ev C a σ = .ok (sB false)):ev C (.and a b) σ = .ok (sB false):=by
 simp only[dm,ha,Out.ok_bind,iI,bT,false_eq_true,if_false]
theorem mD (h:ev C c σ = .ok (sB false)):ex C (.ite c u v) σ=exs C v σ:=by simp only[eL,h,Out.ok_bind,iI,bT,false_eq_true,if_false]
theorem rA (h:ev C c σ = .ok (sB true)):ex C (.ite c u v) σ=exs C u σ:=by simp only[eL,h,Out.ok_bind,iI,bT,if_true]
theorem ik:exs C .nil σ = .ok (σ,.next):=by simp only[cO]
theorem dP (ha:ev C a σ = .ok (x,mx)):ev C (.bi1 f a) σ=b1V f x:=by simp only[ec,ha,Out.ok_bind]
theorem l6 (h:σ z=some p) (hr:mk p.1=r):ev C (.name z) σ = .ok r:=by simp only[bW,h,hr]
theorem aE (h:ev C a σ = .ok r) (hq:itV r = .ok q):a0 C (.e a) σ = .ok q:=by simp only[f6,h,Out.ok_bind,hq]
theorem ck {n:Nat}{m:Mode}(h:ev C a σ = .ok (.d (.int n),m)) (hn:n<=1000000):a0 C (.r1 a) σ = .ok ((aP n).map .int,.deep):=by
 simp only[eW,h,Out.ok_bind]; exact uZ hn
theorem mh {elt:E}(h:a0 C it σ = .ok q) (hr:bE (λy=>(ev C elt (upd σ z (mk (.d y)))).bind λr=>.ok (some r)) q.1 = .ok r):ev C (.comp elt z it) σ = .ok (.d (.list r.1),if r.2 then .deep else .top):=by
 simp only[cX,h,Out.ok_bind,hr,Out.calm_ok]
theorem mS {elt c:E}(h:a0 C it σ = .ok q) (hr:bE (λy=>(ev C c (upd σ z (mk (.d y)))).bind λt=>(al t.1).bind λb=>if b then (ev C elt (upd σ z (mk (.d y)))).bind λr=>.ok (some r) else .ok none) q.1 = .ok r):ev C (.compif elt z it c) σ = .ok (.d (.list r.1),if r.2 then .deep else .top):=by
 simp only[cb,h,Out.ok_bind,hr,Out.calm_ok]
theorem cK {c:E}{z:String}{it:It}{ns:List Int}{m:Mode}(p:Int->Bool) (h:a0 C it σ = .ok (ns.map .int,m)) (hc:∀ i∈ns,ev C c (upd σ z (sI i)) = .ok (sB (p i))):ev C (.compif (.name z) z it c) σ = .ok (.d (aa (ns.filter p)),.deep):=by
 rw[mS h (r:=((ns.filter p).map .int,true))]
 ·rfl
 ·have:=iB (F:=λy=>(ev C c (upd σ z (mk (.d y)))).bind λt=>(al t.1).bind λb=>if b then (ev C (.name z) (upd σ z (mk (.d y)))).bind λr=>.ok (some r) else .ok none) (f:=λi=>i) (p:=p) (ns:=ns) λi g=>by
   rw[vm,hc i g]
   cases p i<;>simp[bW]
  simpa using this
theorem AI {elt:E}{z:String}{it:It}{ns:List Int}{m:Mode}(f:Int->Int) (h:a0 C it σ = .ok (ns.map .int,m)) (hc:∀ i∈ns,ev C elt (upd σ z (sI i)) = .ok (sI (f i))):ev C (.comp elt z it) σ = .ok (.d (aa (ns.map f)),.deep):=by
 rw[mh h (r:=((ns.map f).map .int,true))]
 ·rfl
 ·exact qR (F:=λy=>(ev C elt (upd σ z (mk (.d y)))).bind λr=>.ok (some r)) λi g=>by rw[vm,hc i g]; rfl
theorem uH (hz:σ z=some (.d (aa xs),m)) (hm:m≠.sh) (h:ev C a σ = .ok (sI i)) (hl:xs.length<1000000):ex C (.append z a) σ = .ok (upd σ z (.d (aa (xs++[i])),m),.next):=by
 simp only[eI,h,Out.calm_ok,Out.ok_bind,hz,uA,if_neg hm,Cj,Kz]
 rw[jl (by rw[length_append,length_map]; exact hl),qN]
theorem vQ (h0:0<=i) (h:t[i.toNat]? = some r):fg (ad t) (.int i) = .ok (.d (aa r),.sh):=by
 have g:i.toNat<t.length:=(List.getElem?_eq_some_iff.mp h).1
 exact mI (fO h0 (by rw[length_map]; exact y3 g)) (by rw[List.getElem?_map,h]; rfl)
end
def Val (σ:St) (x:String) (v:V):Prop:=∃ m,σ x=some (v,m)
def Has (σ:St) (l:List (String×V)):Prop:=∀ x v,l.lookup x=some v->Val σ x v
def Sub (l:List (String×V)):List (String×V)->Prop
 | []=>True
 | p::r=>l.lookup p.1=some p.2/\Sub l r
theorem po (σ:St) (x:String) (r:V×Mode):upd σ x r x=some r:=if_pos rfl
theorem nH (x:String) (v:β) (l:List (String×β)):List.lookup x ((x,v)::l)=some v:=by
 rw[lookup_cons,beq_self_eq_true]
theorem nA (h:x≠y) (v:β) (l:List (String×β)):List.lookup x ((y,v)::l)=l.lookup x:=by
 rw[lookup_cons,beq_eq_false_iff_ne.mpr h]
section
variable {C:Calls}{σ:St}{l l':List (String×V)}
theorem Has.nil:Has σ []:=λuu uu h=>by exact nN h
theorem Has.ev (H:Has σ l) (h:l.lookup x=some v):ev C (.name x) σ = .ok (mk v):=by
 refine ah (H x v h) λm e=>?_
 exact l6 e rfl
theorem Has.upd (H:Has σ l) (x:String) (v:V) (m:Mode):Has (Internal.upd σ x (v,m)) ((x,v)::l):=by
 intro y u h
 by_cases e:y=x
 ·subst e
  rw[nH] at h
  injection h
  exact ⟨m,if_pos rfl⟩
 ·rw[nA e] at h
  refine ah (H y u h) λi q=>?_
  exact ⟨i,(if_neg e).trans q⟩
theorem Has.demote (H:Has σ l) (ns:List String):Has (Internal.demote σ ns) l:=by
 intro x v h
 refine ah (H x v h) λm q=>?_
 by_cases e:x∈ns
 ·exact ⟨(mk v).2,(if_pos e).trans (by rw[q]; rfl)⟩
 ·exact ⟨m,(if_neg e).trans q⟩
theorem Has.consume (H:Has σ l) (ns:List String) (m:Mode):Has (Internal.consume σ ns m) l:=by
 unfold Internal.consume
 by_cases e:m = .deep
 ·rw[if_pos e]; exact H
 ·rw[if_neg e]; exact H.demote ns
theorem Has.sub (H:Has σ l) (h:Sub l l'):Has σ l':=by
 induction l' with
 | nil=>exact .nil
 | cons p r ih=>
  intro x v g
  by_cases e:x=p.1
  ·subst e
   rw[nH] at g
   injection g
   exact H _ _ h.1
  ·rw[nA e] at g
   exact ih h.2 x v g
noncomputable def Runs (C:Calls) (b:Ss) (σ:St) (Post:St->Flw->Prop):Prop:=∃ σ' fl,exs C b σ = .ok (σ',fl)/\Post σ' fl
noncomputable def Cont (C:Calls) (b:Ss) (Post:St->Flw->Prop) (σ:St):Flw->Prop
 | .next=>Runs C b σ Post
 | .ret v=>Post σ (.ret v)
variable {b u v:Ss}{s:S}{e c:E}{Post Post':St->Flw->Prop}{r:V×Mode}{x:String}
theorem Cont.ret (h:Post σ (.ret r)):Cont C b Post σ (.ret r):=h
theorem Runs.mono (h:Runs C b σ Post) (k:∀ σ' fl,Post σ' fl->Post' σ' fl):Runs C b σ Post':=aq (h) λa f i g=>(ay a f i (k a f g))
theorem Runs.nil (h:Post σ .next):Runs C .nil σ Post:=(ay σ .next ik h)
theorem Runs.cons (he:ex C s σ = .ok o) (k:Cont C b Post o.1 o.2):Runs C (.cons s b) σ Post:=by
 obtain ⟨g,j⟩:=o
 cases j with
 | next=>
  refine aq (k) λa f i h=>?_
  clear k
  exact (ay a f (by rw[iQ he]; exact i) h)
 | ret v=>exact (ay g (.ret v) (Bf he) k)
theorem Runs.set (H:Has σ l) (he:Internal.ev C e σ = .ok r) (k:∀ σ',Has σ' ((x,r.1)::l)->σ' x=some r->Runs C b σ' Post):Runs C (.cons (.assign x e) b) σ Post :=
 Runs.cons (o:=(Internal.upd (Internal.consume σ (fv e) r.2) x r,.next)) (by simp only[ce,lh he,Out.ok_bind]) (k _ ((H.consume _ _).upd x r.1 r.2) (if_pos rfl))
theorem Runs.expr (H:Has σ l) (he:Internal.ev C e σ = .ok r) (k:∀ σ',Has σ' l->(∀ y,y∉fv e->σ' y=σ y)->Runs C b σ' Post):Runs C (.cons (.expr e) b) σ Post :=
 Runs.cons (o:=(Internal.consume σ (fv e) r.2,.next)) (by simp only[eZ,he,Out.ok_bind]) (k _ (H.consume _ _) λy g=>by
  unfold Internal.consume
  by_cases q:r.2 = .deep
  ·rw[if_pos q]
  ·rw[if_neg q]; exact if_neg g)
theorem Runs.ret (he:Internal.ev C e σ = .ok r) (k:Post σ (.ret r)):Runs C (.cons (.ret e) b) σ Post:=Runs.cons (o:=(σ,.ret r)) (BD he) k
theorem Runs.retn (he:σ x=some r) (k:Post σ (.ret r)):Runs C (.cons (.retn x) b) σ Post:=Runs.cons (o:=(σ,.ret r)) (by simp only[ky,he]) k
theorem Runs.no (he:Internal.ev C c σ = .ok (sB false)) (k:Runs C b σ Post):Runs C (.cons (.ite c u .nil) b) σ Post:=Runs.cons (o:=(σ,.next)) ((mD he).trans ik) k
theorem Runs.ite (he:Internal.ev C c σ = .ok (sB t)) (kt:t=true->Runs C u σ (Cont C b Post)) (kf:t=false->Runs C v σ (Cont C b Post)):Runs C (.cons (.ite c u v) b) σ Post:=by
 cases t with
 | true=>
  refine aq (kt rfl) λa f h g=>?_
  exact Runs.cons (o:=(a,f)) ((rA he).trans h) g
 | false=>
  refine aq (kf rfl) λa f h g=>?_
  exact Runs.cons (o:=(a,f)) ((mD he).trans h) g
theorem Runs.next (he:ex C s σ = .ok (σ',.next)) (k:Runs C b σ' Post):Runs C (.cons s b) σ Post:=Runs.cons (o:=(σ',.next)) he k
theorem fq:(∀ l,Has σ l->Has (Internal.consume σ ns m) l)/\∀ y,y∉ns->Internal.consume σ ns m y=σ y:=⟨λuu H=>H.consume ns m,λy g=>by
 unfold Internal.consume
 by_cases q:m = .deep
 ·rw[if_pos q]
 ·rw[if_neg q]; exact if_neg g⟩
theorem mV (Inv:List α->St->Prop)
  (hs:∀ pre y post,xs=pre++y::post->∀ σ,Inv pre σ->Runs C body (Internal.upd σ z (mk (.d (g y)))) (λσ' fl=>match fl with | .next=>Inv (pre++[y]) σ' | .ret v=>Post σ' (.ret v))) :
  ∀ (post pre:List α) (σ:St),xs=pre++post->Inv pre σ->∃ o,bC (λy σ=>exs C body (Internal.upd σ z (mk (.d y)))) (post.map g) σ = .ok o/\match o.2 with | .next=>Inv xs o.1 | .ret v=>Post o.1 (.ret v)
 | [],pre,σ,hl,h=>(ag (σ,.next) rfl (by rw[hl,append_nil]; exact h))
 | y::post,pre,σ,hl,h=>by
  refine aq (hs pre y post hl σ h) λa f j i=>?_
  cases f with
  | ret v=>exact (ag (a,.ret v) (by rw[map_cons,bC,j]; rfl) i)
  | next=>
   obtain ⟨o,l,k⟩:=mV Inv hs post (pre++[y]) a (by rw[hl,append_assoc]; rfl) i
   exact (ag o (by rw[map_cons,bC,j]; exact l) k)
theorem Runs.for (Inv:List α->St->Prop) (hit:a0 C it σ = .ok (xs.map g,m)) (h0:∀ σ0,(∀ l,Has σ l->Has σ0 l)->(∀ y,y∉bQ it->σ0 y=σ y)->Inv [] σ0)
  (hs:∀ pre y post,xs=pre++y::post->∀ σ,Inv pre σ->Runs C body (Internal.upd σ z (mk (.d (g y)))) (λσ' fl=>match fl with | .next=>Inv (pre++[y]) σ' | .ret v=>Post σ' (.ret v)))
  (k:∀ σ',Inv xs σ'->Runs C b σ' Post):Runs C (.cons (.for1 z it body) b) σ Post:=by
 refine ae (mV Inv hs xs [] (Internal.consume σ (bQ it) m) rfl (h0 _ fq.1 fq.2)) λo i h=>?_
 refine Runs.cons (o:=o) (by simp only[kQ,hit,Out.ok_bind]; exact i) ?_
 obtain ⟨a,f⟩:=o
 cases f with
 | next=>exact k a h
 | ret v=>exact h
noncomputable def Sk (o:Option β) (Inv:St->Prop) (rv:β->V×Mode) (σ:St) (fl:Flw):Prop:=match o with
 | none=>fl = .next/\Inv σ
 | some q=>fl = .ret (rv q)
theorem Sk.next {β:Type}{o:Option β}{Inv:St->Prop}{rv:β->V×Mode}(h:o=none) (hI:Inv σ):Sk o Inv rv σ .next:=by subst h; exact ⟨rfl,hI⟩
theorem Sk.ret {β:Type}{o:Option β}{q:β}{Inv:St->Prop}{rv:β->V×Mode}(h:o=some q):Sk o Inv rv σ (.ret (rv q)):=by subst h; exact rfl
theorem Runs.seek {α β:Type}{body:Ss}{z:String}{it:It}{g:α->PyData}{xs:List α}{m:Mode}(Inv:St->Prop) (f:α->Option β) (rv:β->V×Mode) (hit:a0 C it σ = .ok (xs.map g,m)) (h0:∀ σ0,(∀ l,Has σ l->Has σ0 l)->(∀ y,y∉bQ it->σ0 y=σ y)->Inv σ0)
  (hs:∀ y∈xs,∀ σ,Inv σ->Runs C body (Internal.upd σ z (mk (.d (g y)))) (Sk (f y) Inv rv))
  (k:xs.findSome? f=none->∀ σ',Inv σ'->Runs C b σ' Post) (kr:∀ q,xs.findSome? f=some q->∀ σ',Post σ' (.ret (rv q))):Runs C (.cons (.for1 z it body) b) σ Post:=by
 refine Runs.for (λj σ=>Inv σ/\j.findSome? f=none) hit (λσ0 n u=>⟨h0 σ0 n u,rfl⟩) (λj y r t o n=>?_) λσ' h=>k h.2 σ' h.1
 refine (hs y (by rw[t]; exact mem_append_right _ (.head _)) o n.1).mono λσ' v h=>?_
 cases hf:f y with
 | none=>
  rw[hf] at h
  revert h; intro i
  refine ab (i) λp h=>?_
  clear i
  subst p
  exact ⟨h,by rw[List.findSome?_append,n.2,List.findSome?_cons,hf]; rfl⟩
 | some q=>
  rw[hf] at h
  subst h
  exact kr q (by rw[t,List.findSome?_append,n.2,List.findSome?_cons,hf]; rfl) σ'
theorem cq:∀ (ps:List String) (vs:List V),ps.length=vs.length->∃ σ,bB ps vs=some σ/\Has σ (ps.zip vs)
 | [],[],_=>(ag _ rfl .nil)
 | [],v::vs,h=>by cases h
 | p::ps,[],h=>by cases h
 | p::ps,v::vs,h=>by
  refine ae (cq ps vs (Nat.succ.inj h)) λσ i g=>?_
  exact (ag _ (by rw[bB,i]; rfl) (g.upd p (mk v).1 (mk v).2))
theorem c7 {ps:List String}{vs:List V}{P:V×Mode->Prop}(hl:ps.length=vs.length) (h:∀ σ,Has σ (ps.zip vs)->Runs C b σ (λuu fl=>∃ r,fl = .ret r/\P r)):∃ r,au C ⟨ps,b⟩ vs = .ok r/\P r:=by
 refine ae (cq ps vs hl) λσ l k=>?_
 obtain ⟨a,f,j,r,g,i⟩:=h σ k
 subst g
 exact (ag r (by unfold au; dsimp only; rw[l]; dsimp only; rw[j]; rfl) i)
theorem cg {ps:List String}(hl:ps.length=vs.length) (h:∀ σ,Has σ (ps.zip vs)->Runs C b σ (λuu fl=>fl = .ret r)):au C ⟨ps,b⟩ vs = .ok r:=by
 refine ae (c7 (P:=λq=>q=r) hl λσ H=>(h σ H).mono λuu uu e=>(ag r e rfl)) λq i g=>?_
 (clear h; subst g)
 exact i
noncomputable def hX (f:String):Bool:=!decide (f = "Rule") && !decide (f∈methNames)
theorem ma (h:hX f=true) (fn:Fn) (vs:List V):bL f C fn vs=au C fn vs:=by
 unfold hX at h
 simp only[and_eq_true,Bool.not_eq_true',decide_eq_false_iff_not] at h
 unfold bL
 rw[if_neg h.1,if_neg h.2]
theorem bN (hL:L.lookup f=some fn) (he:evs (mkC L (n+1)) es σ = .ok q) (hv:q.map (·.1)=vs) (h:au (mkC L n) fn vs = .ok r) (hp:hX f=true:=by decide):Internal.ev (mkC L (n+1)) (.call f es) σ = .ok r:=by
 have g:mkC L (n+1) f=some λvs=>bL f (mkC L n) fn vs:=by show (L.lookup f).map _=_; rw[hL]; rfl
 rw[jP g he,hv,ma hp,h]
end
section
theorem aj (i:Int):ev C (.int i) σ = .ok (sI i):=by simp only[eP]
theorem gq (i:Bool):ev C (.bool i) σ = .ok (sB i):=by simp only[gB]
theorem je:ev C .none σ = .ok (.d .none,.deep):=by simp only[gK]
theorem vn:ev C .edic σ = .ok (.dic0,.deep):=by simp only[gH]
theorem yp:ev C (.list .nil) σ = .ok (.d (aa []),.deep):=by simp only[bp,aV]; rfl
theorem fm (h:ev C a σ = .ok (sI x)):ev C (.list (.cons a .nil)) σ = .ok (.d (aa [x]),.deep):=by simp only[bp,aV,aU,h,Out.ok_bind]; rfl
theorem Gv (h:ev C a σ = .ok (sI x)) (h':ev C b σ = .ok (sI y)):ev C (.list (.cons a (.cons b .nil))) σ = .ok (.d (aa [x,y]),.deep):=by simp only[bp,aV,aU,h,h',Out.ok_bind]; rfl
theorem cC (ha:ev C a σ = .ok (sI x)) (hb:ev C b σ = .ok (sI y)):ev C (.bin .add a b) σ = .ok (sI (x+y)):=(dJ ha hb).trans rfl
theorem yX (ha:ev C a σ = .ok (sI x)) (hb:ev C b σ = .ok (sI y)):ev C (.bin .sub a b) σ = .ok (sI (x-y)):=(dJ ha hb).trans rfl
theorem D6 (ha:ev C a σ = .ok (sI x)) (hb:ev C b σ = .ok (sI y)):ev C (.bin .xor a b) σ = .ok (sI (Builtin.bitXor x y)):=(dJ ha hb).trans rfl
theorem lA (ha:ev C a σ = .ok (sI x)) (hb:ev C b σ = .ok (sI y)) (h:x.natAbs<2^63):ev C (.bin .mul a b) σ = .ok (sI (x*y)):=(dJ ha hb).trans (uk x y h)
theorem bh (ha:ev C a σ = .ok (sI x)) (hb:ev C b σ = .ok (sI y)) (h:0<y):ev C (.bin .mod a b) σ = .ok (sI (x%y)):=(dJ ha hb).trans (Am x y h)
theorem gU (ha:ev C a σ = .ok (sI x)) (hb:ev C b σ = .ok (sI y)) (h:0<y) (h':y<1000000000):ev C (.bin .fdiv a b) σ = .ok (sI (x/y)):=(dJ ha hb).trans (Ae x y h h')
theorem me (ha:ev C a σ = .ok (sI x)) (hb:ev C b σ = .ok (sI y)):ev C (.cmp .lt a b) σ = .ok (sB (decide (x<y))):=bq ha hb rfl
theorem tl (ha:ev C a σ = .ok (sI x)) (hb:ev C b σ = .ok (sI y)):ev C (.cmp .gt a b) σ = .ok (sB (decide (y<x))):=bq ha hb rfl
theorem B8 (ha:ev C a σ = .ok (sI x)) (hb:ev C b σ = .ok (sI y)):ev C (.cmp .ge a b) σ = .ok (sB (decide (y<=x))):=bq ha hb rfl
theorem dC (ha:ev C a σ = .ok (sI x)) (hb:ev C b σ = .ok (sI y)):ev C (.cmp .eq a b) σ = .ok (sB (decide (x=y))):=bq ha hb (BT x y)
theorem kJ (ha:ev C a σ = .ok (sI x)) (hb:ev C b σ = .ok (sI y)):ev C (.cmp .ne a b) σ = .ok (sB (!decide (x=y))):=bq ha hb (CB x y)
theorem ER (ha:ev C a σ = .ok (.d (aa xs),m)) (hb:ev C b σ = .ok (.d (aa ys),m')):ev C (.cmp .ne a b) σ = .ok (sB (!decide (xs=ys))):=bq ha hb (AM xs ys)
theorem sW (ha:ev C a σ = .ok (.d (aa xs),m)) (hb:ev C b σ = .ok (.d (aa ys),m')):ev C (.cmp .eq a b) σ = .ok (sB (decide (xs=ys))):=bq ha hb (Bb xs ys)
theorem kI (ha:ev C a σ = .ok (sI x)) (hb:ev C b σ = .ok (.d (aa xs),m)):ev C (.cmp .isin a b) σ = .ok (sB (decide (x∈xs))):=bq ha hb (Cm x xs)
theorem iA (ha:ev C a σ = .ok (sI x)) (hb:ev C b σ = .ok (.d (aa xs),m)):ev C (.cmp .notin a b) σ = .ok (sB (!decide (x∈xs))):=bq ha hb (Aq x xs)
theorem y6 (ha:ev C a σ = .ok (.d (aa xs),m)) (hb:ev C b σ = .ok (.d (ad t),m')):ev C (.cmp .isin a b) σ = .ok (sB (decide (xs∈t))):=bq ha hb (Bi xs t)
theorem eK (ha:ev C a σ = .ok (.d (aa xs),m)) (hb:ev C b σ = .ok (.d (aa ys),m')) (h:xs.length+ys.length<=1000000):ev C (.bin .add a b) σ = .ok (.d (aa (xs++ys)),.deep):=(dJ ha hb).trans (xL xs ys h)
theorem x6 (t u:List (List Int)) (h:t.length+u.length<=1000000):∃ m,dz .add (ad t) (ad u) = .ok (.d (ad (t++u)),m):=by
 refine ⟨fresh ((t++u).map aa),?_⟩
 show (if (t.map aa).length+(u.map aa).length<=lim then Out.ok (V.d (.list (t.map aa++u.map aa)),fresh (t.map aa++u.map aa)) else .bad)=_
 rw[length_map,length_map,if_pos (show _<=lim from h),<- map_append]; rfl
theorem lK (ha:ev C a σ = .ok (.d (ad t),m)) (hb:ev C b σ = .ok (.d (ad u),m')) (h:t.length+u.length<=1000000):∃ m,ev C (.bin .add a b) σ = .ok (.d (ad (t++u)),m):=by
 refine ah (x6 t u h) λm q=>?_
 exact ⟨m,(dJ ha hb).trans q⟩
theorem dN (ha:ev C a σ = .ok (.d (aa xs),m)):ev C (.bi1 .len a) σ = .ok (sI xs.length):=(dP ha).trans (Cb xs)
theorem lM (ha:ev C a σ = .ok (.d (ad t),m)):ev C (.bi1 .len a) σ = .ok (sI t.length):=(dP ha).trans (AK t)
theorem dH (ha:ev C a σ = .ok (.d (aa xs),m)):ev C (.bi1 .list a) σ = .ok (.d (aa xs),.deep):=(dP ha).trans (Ah xs)
theorem rz (ha:ev C a σ = .ok (.d (aa xs),m)):ev C (.bi1 .tuple a) σ = .ok (.d (aJ xs),.deep):=(dP ha).trans (wd xs)
theorem wC (ha:ev C a σ = .ok (.d (aa xs),m)) (h:xs.length<64):ev C (.bi1 .sorted a) σ = .ok (.d (aa (aH xs)),.deep):=(dP ha).trans (m8 xs h)
theorem gh (h:r.Pairwise (· < ·)):aH r=r:=oS (.refl _) (h.imp λh=>Int.le_of_lt h)
theorem fz (ha:ev C a σ = .ok (.d (aa xs),m)) (h:xs.length<128) (h0:∀ i∈xs,0<=i):ev C (.bi1 .sorted a) σ = .ok (.d (aa (aH xs)),.deep):=(dP ha).trans (lP xs h h0)
theorem lc (ha:ev C a σ = .ok (.d (aa xs),m)) (h:xs.length<128) (h0:∀ i∈xs,0<=i) (hu:xs.Pairwise (· < ·)):ev C (.bi1 .sorted a) σ = .ok (.d (aa xs),.deep):=(dP ha).trans (qT xs h h0 (gh hu))
theorem fu (ha:ev C a σ = .ok (.d (aa xs),m)) (hb:ev C b σ = .ok (sI i)) (h0:0<=i) (h:xs[i.toNat]? = some x):ev C (.sub a b) σ = .ok (sI x):=(lu ha hb).trans (tY h0 h)
theorem Cq (ha:ev C a σ = .ok (.d (ad t),m)) (hb:ev C b σ = .ok (sI i)) (h0:0<=i) (h:t[i.toNat]? = some xs):ev C (.sub a b) σ = .ok (.d (aa xs),.sh):=(lu ha hb).trans (vQ h0 h)
theorem gW (ha:ev C a σ = .ok (sB p)) (hb:p=true->ev C b σ = .ok (sB q)):ev C (.and a b) σ = .ok (sB (p&&q)):=by
 cases p with
 | true=>exact wY ha (hb rfl)
 | false=>exact xG ha
theorem gi (ha:ev C a σ = .ok (sB p)) (hb:p=false->ev C b σ = .ok (sB q)):ev C (.or a b) σ = .ok (sB (p||q)):=by
 cases p with
 | true=>exact z2 ha
 | false=>exact Ak ha (hb rfl)
theorem AO (ha:ev C a σ = .ok (sI i)) (hb:ev C b σ = .ok (sI j)) (h1:0<=i) (h2:i<=1000) (h3:0<=j) (h4:j<=1000):a0 C (.r2 a b) σ = .ok (((List.range (j-i).toNat).map λ(k:Nat)=>i+(k:Int)).map .int,.deep):=by
 simp only[eU,ha,hb,Out.ok_bind]
 show bM i j=_
 unfold bM
 rw[if_pos (cr (by unfold lim; exact Jk h1 h4) (y0 h1) (yH h2) (y0 h3) (yH h4)),lD]
theorem da {α:Type}{g:α->PyData}{l:List α}{z:String}{it:It}{q:Mode}(f:α->List Int) (mm:Mode) (h:a0 C it σ = .ok (l.map g,q)) (hc:∀ i∈l,ev C a (upd σ z (mk (.d (g i)))) = .ok (.d (aa (f i)),mm)) :
  ∃ m,ev C (.comp a z it) σ = .ok (.d (ad (l.map f)),m)/\(mm = .deep->m = .deep)/\m≠.sh:=by
 obtain ⟨b,j,o⟩:=iD (F:=λy=>(ev C a (upd σ z (mk (.d y)))).bind λr=>.ok (some r)) (e:=g) (f:=f) (p:=λuu=>true) (m:=λuu=>mm) (l:=l) λi n=>by rw[hc i n]; rfl
 rw[List.filter_eq_self.mpr (λuu uu=>rfl)] at j
 exact (aL (if b then .deep else .top) (mh h j) (λk=>by rw[o λuu uu=>k]; rfl) (by cases b<;>simp))
theorem jg {α:Type}{g:α->PyData}{l:List α}{z:String}{it:It}{r:Mode}(f:α->List Int) (p:α->Bool) (mm:Mode) (h:a0 C it σ = .ok (l.map g,r)) (hp:∀ i∈l,ev C c (upd σ z (mk (.d (g i)))) = .ok (sB (p i)))
  (hc:∀ i∈l,p i=true->ev C a (upd σ z (mk (.d (g i)))) = .ok (.d (aa (f i)),mm)):∃ m,ev C (.compif a z it c) σ = .ok (.d (ad ((l.filter p).map f)),m)/\(mm = .deep->m = .deep)/\m≠.sh:=by
 obtain ⟨b,o,n⟩:=iD (F:=λy=>(ev C c (upd σ z (mk (.d y)))).bind λt=>(al t.1).bind λb=>if b then (ev C a (upd σ z (mk (.d y)))).bind λr=>.ok (some r) else .ok none) (e:=g) (f:=f) (p:=p) (m:=λuu=>mm) (l:=l) λi j=>by
  rw[hp i j]
  cases hq:p i with
  | true=>simp only[Out.ok_bind,iI,bT,if_true,hc i j hq]
  | false=>simp only[Out.ok_bind,iI,bT,false_eq_true,if_false]
 exact (aL (if b then .deep else .top) (mS h o) (λk=>by rw[n λuu uu=>k]; rfl) (by cases b<;>simp))
theorem fY {α:Type}{g:α->PyData}{l:List α}{z:String}{it:It}{q:Mode}(f:α->Int) (h:a0 C it σ = .ok (l.map g,q)) (hc:∀ i∈l,ev C a (upd σ z (mk (.d (g i)))) = .ok (sI (f i))):ev C (.comp a z it) σ = .ok (.d (aa (l.map f)),.deep):=by
 rw[mh h (r:=((l.map f).map .int,true))]
 ·rfl
 ·exact oX (F:=λy=>(ev C a (upd σ z (mk (.d y)))).bind λr=>.ok (some r)) (e:=g) λi j=>by rw[hc i j]; rfl
theorem jG (h:xs≠[]):∃ i,eC xs=some i/\i∈xs:=by
 cases xs with
 | nil=>exact absurd rfl h
 | cons x xs=>
  refine (ag _ rfl ?_)
  have g:∀ (l:List Int) (a:Int),l.foldl (λa b=>if a<b then b else a) a=a\/l.foldl (λa b=>if a<b then b else a) a∈l:=by
   intro l
   induction l with
   | nil=>exact λa=>.inl rfl
   | cons y l ih=>
    intro a
    rw[foldl_cons]
    by_cases q:a<y
    ·rw[if_pos q]
     rcases ih y with e | e
     ·exact .inr (by rw[e]; exact .head _)
     ·exact .inr (.tail _ e)
    ·rw[if_neg q]
     exact (ih a).imp id λe=>.tail _ e
  rcases g xs x with e | e
  ·rw[e]; exact .head _
  ·exact .tail _ e
theorem DK (ha:ev C a σ = .ok (.d (aa xs),m)) (h:xs≠[]):∃ i,ev C (.bi1 .max a) σ = .ok (sI i)/\i∈xs:=by
 refine ae (jG h) λi j g=>?_
 refine (ag i ((dP ha).trans ?_) g)
 show (am ((aF (xs.map PyData.int)).bind eC) λi=>Out.ok (sI i))=_
 rw[cP,bind_some,j]; rfl
theorem pT:ev C (.list (.cons (.list .nil) .nil)) σ = .ok (.d (ad [[]]),.deep):=by simp only[bp,aV,aU]; rfl
theorem mj:ev C (.list .nil) σ = .ok (.d (ad []),.deep):=by simp only[bp,aV]; rfl
theorem j9 {α:Type}{l:List α}{Q:α->Bool->Prop}(h:∀ i∈l,∃ b,Q i b):∃ p:α->Bool,∀ i∈l,Q i (p i):=by
 classical
 exact ⟨λi=>if g:i∈l then (h i g).choose else false,λi g=>by dsimp only; rw[dif_pos g]; exact (h i g).choose_spec⟩
theorem Has.mk (H:Has σ l) (z:String) (v:V):Has (Internal.upd σ z (Internal.mk v)) ((z,v)::l):=H.upd z v (Internal.mk v).2
theorem Runs.app (H:Has σ l) (hz:σ z=some (.d (aa xs),m)) (hm:m≠.sh) (h:ev C a σ = .ok (sI x)) (hl:xs.length<1000000) (k:∀ σ',Has σ' ((z,.d (aa (xs++[x])))::l)->σ' z=some (.d (aa (xs++[x])),m)->(∀ y,y≠z->σ' y=σ y)->Runs C bb σ' Post):Runs C (.cons (.append z a) bb) σ Post :=
 Runs.cons (o:=(upd σ z (.d (aa (xs++[x])),m),.next)) (uH hz hm h hl) (k _ (H.upd z _ m) (if_pos rfl) λy g=>if_neg g)
theorem Runs.appR (H:Has σ l) (hz:σ z=some (.d (ad t),m)) (hm:m≠.sh) (h:ev C a σ = .ok (.d (aa xs),.deep)) (hl:t.length<1000000) (k:∀ σ',Has σ' ((z,.d (ad (t++[xs])))::l)->σ' z=some (.d (ad (t++[xs])),m)->(∀ y,y≠z->σ' y=σ y)->Runs C bb σ' Post):Runs C (.cons (.append z a) bb) σ Post:=by
 refine Runs.cons (o:=(upd σ z (.d (ad (t++[xs])),m),.next)) ?_ (k _ (H.upd z _ m) (if_pos rfl) λy g=>if_neg g)
 simp only[eI,h,Out.calm_ok,Out.ok_bind,hz,nL,if_neg hm]
 rw[jl (by rw[length_append,length_map]; exact hl)]
 unfold ad; rw[map_append]; rfl
theorem nv (f:α->β):∀ (l:List α) (i:Nat),(l.map f).eraseIdx i=(l.eraseIdx i).map f
 | [],_=>rfl
 | _::_,0=>rfl
 | a::l,i+1=>congrArg (f a :: ·) (nv f l i)
theorem Runs.popR (H:Has σ l) (hz:σ z=some (.d (ad t),m)) (hm:m≠.sh) (h:ev C a σ = .ok (sI x)) (h0:0<=x) (h1:x<t.length) (k:∀ σ',Has σ' ((z,.d (ad (t.eraseIdx x.toNat)))::l)->σ' z=some (.d (ad (t.eraseIdx x.toNat)),.top)->Runs C bb σ' Post):Runs C (.cons (.pop z a) bb) σ Post:=by
 refine Runs.cons (o:=(upd σ z (.d (ad (t.eraseIdx x.toNat)),.top),.next)) ?_ (k _ (H.upd z _ .top) (if_pos rfl))
 simp only[mw,h,Out.calm_ok,Out.ok_bind,hz,nL,Cj]
 rw[if_neg (by rw[length_map]; exact λq=>q.elim hm λq=>by exact EB h0 h1 q)]
 unfold ad; rw[nv]
theorem th {r:PyData}{q:List PyData}(h:ev C a σ = .ok (.d (.tuple (r::q)),m)) (hb:ev C b σ = .ok (sI 0)):ev C (.sub a b) σ = .ok (mk (.d r)):=by
 rw[lu h hb]
 show (am ((bH 0 (r::q).length).bind λk=>(r::q)[k]?) λz=>Out.ok (mk (.d z)))=_
 rw[fO (by decide) (by rw[length_cons]; exact IM)]; rfl
theorem r5 {r r':PyData}{q:List PyData}(h:ev C a σ = .ok (.d (.tuple (r::r'::q)),m)) (hb:ev C b σ = .ok (sI 1)):ev C (.sub a b) σ = .ok (mk (.d r')):=by
 rw[lu h hb]
 show (am ((bH 1 (r::r'::q).length).bind λk=>(r::r'::q)[k]?) λz=>Out.ok (mk (.d z)))=_
 rw[fO (by decide) (by rw[length_cons,length_cons]; exact EU)]; rfl
theorem BJ (ha:ev C a σ = .ok (sI x)) (hb:ev C b σ = .ok (.d (ad t),m)):∃ m,ev C (.tup (.cons a (.cons b .nil))) σ = .ok (.d (.tuple [.int x,ad t]),m):=by
 refine ⟨if allDeep [sI x,(.d (ad t),m)] then .deep else .sh,?_⟩
 simp only[di,aV,aU,ha,hb,Out.ok_bind]
 rfl
theorem cM {G:Prop}(ha:ev C a σ = .ok (sI x)) (hb:ev C b σ = .ok (.d (ad t),m)) (k:∀ m,ev C (.tup (.cons a (.cons b .nil))) σ = .ok (.d (.tuple [.int x,ad t]),m)->G):G:=ah (BJ ha hb) k
theorem FA (h:ev C a σ = .ok (v,m)) (hi:hV v ty = .ok p):ev C (.isi a ty) σ = .ok (sB p):=by simp only[eT,h,Out.ok_bind,hi]
theorem uX {x y z:PyData}{m1 m2 m3:Mode}(ha:ev C a σ = .ok (.d x,m1)) (hb:ev C b σ = .ok (.d y,m2)) (hc:ev C c σ = .ok (.d z,m3)):ev C (.tup (.cons a (.cons b (.cons c .nil)))) σ = .ok (.d (.tuple [x,y,z]),if allDeep [(.d x,m1),(.d y,m2),(.d z,m3)] then .deep else .sh):=by
 simp only[di,aV,aU,ha,hb,hc,Out.ok_bind]; rfl
end
noncomputable def p_exchanged:Fn:=⟨["choice", "out", "thing"],
(.cons (.ret (.bi1 .sorted (.bin .add (.compif (.name "one") "one" (.e (.name "choice")) (.cmp .ne (.name "one") (.name "out"))) (.list (.cons (.name "thing") .nil)))))
.nil)⟩
noncomputable def p_known_of:Fn:=⟨["table"],
(.cons (.assign "known" .edic)
(.cons (.for1 "choice" (.e (.name "table"))
(.cons (.setitem "known" (.bi1 .tuple (.name "choice")))
.nil))
(.cons (.retn "known")
.nil)))⟩
noncomputable def p_goes:Fn:=⟨["known", "one", "other", "thing"],
(.cons (.for1 "out" (.e (.name "one"))
(.cons (.ite (.and (.cmp .notin (.name "out") (.name "other")) (.cmp .isin (.bi1 .tuple (.call "exchanged" (.cons (.name "one") (.cons (.name "out") (.cons (.name "thing") .nil))))) (.name "known")))
(.cons (.ret (.bool true))
.nil)
.nil)
.nil))
(.cons (.ret (.bool false))
.nil))⟩
noncomputable def p_fault:Fn:=⟨["count", "table"],
(.cons (.assign "known" (.call "known_of" (.cons (.name "table") .nil)))
(.cons (.for1 "one" (.e (.name "table"))
(.cons (.for1 "thing" (.r1 (.name "count"))
(.cons (.ite (.cmp .notin (.name "thing") (.name "one"))
(.cons (.for1 "other" (.e (.name "table"))
(.cons (.ite (.and (.cmp .isin (.name "thing") (.name "other")) (.not (.call "goes" (.cons (.name "known") (.cons (.name "one") (.cons (.name "other") (.cons (.name "thing") .nil)))))))
(.cons (.ret (.tup (.cons (.bi1 .list (.name "one")) (.cons (.bi1 .list (.name "other")) (.cons (.name "thing") .nil)))))
.nil)
.nil)
.nil))
.nil)
.nil)
.nil))
.nil))
(.cons (.ret .none)
.nil)))⟩
noncomputable def l_cell_at:Fn:=⟨["_law_script", "_law_k"],
(.cons (.ite (.cmp .lt (.name "_law_k") (.bi1 .len (.name "_law_script")))
(.cons (.ret (.sub (.name "_law_script") (.name "_law_k")))
.nil)
.nil)
(.cons (.ite (.cmp .eq (.name "_law_script") (.list .nil))
(.cons (.ret (.int 0))
.nil)
.nil)
(.cons (.ret (.bin .add (.bin .mul (.sub (.name "_law_script") (.bin .mod (.name "_law_k") (.bi1 .len (.name "_law_script")))) (.int 7)) (.name "_law_k")))
.nil)))⟩
noncomputable def l_subsets:Fn:=⟨["_law_count"],
(.cons (.assign "_law_rows" (.list (.cons (.list .nil) .nil)))
(.cons (.for1 "_law_thing" (.r1 (.name "_law_count"))
(.cons (.assign "_law_rows" (.bin .add (.name "_law_rows") (.comp (.bin .add (.name "_law_row") (.list (.cons (.name "_law_thing") .nil))) "_law_row" (.e (.name "_law_rows")))))
.nil))
(.cons (.retn "_law_rows")
.nil)))⟩
noncomputable def l_apart:Fn:=⟨["_law_vectors", "_law_row"],
(.cons (.assign "_law_sums" (.list (.cons (.int 0) .nil)))
(.cons (.for1 "_law_thing" (.e (.name "_law_row"))
(.cons (.ite (.cmp .isin (.sub (.name "_law_vectors") (.name "_law_thing")) (.name "_law_sums"))
(.cons (.ret (.bool false))
.nil)
.nil)
(.cons (.assign "_law_sums" (.bin .add (.name "_law_sums") (.comp (.bin .xor (.name "_law_one") (.sub (.name "_law_vectors") (.name "_law_thing"))) "_law_one" (.e (.name "_law_sums")))))
.nil)))
(.cons (.ret (.bool true))
.nil)))⟩
noncomputable def l_parts:Fn:=⟨["_law_script", "_law_kind", "_law_count", "_law_more"],
(.cons (.assign "_law_rows" (.call "_law_subsets" (.cons (.name "_law_count") .nil)))
(.cons (.ite (.cmp .eq (.name "_law_kind") (.int 0))
(.cons (.ret (.tup (.cons (.name "_law_count") (.cons (.comp (.sub (.name "_law_rows") (.bin .mod (.call "_law_cell_at" (.cons (.name "_law_script") (.cons (.bin .add (.int 6) (.name "_law_k")) .nil))) (.bi1 .len (.name "_law_rows")))) "_law_k" (.r1 (.bin .mod (.name "_law_more") (.int 6)))) .nil))))
.nil)
.nil)
(.cons (.ite (.cmp .eq (.bin .mod (.name "_law_more") (.int 9)) (.int 8))
(.cons (.assign "_law_count" (.bin .add (.int 7) (.bin .mod (.bin .fdiv (.name "_law_more") (.int 9)) (.int 3))))
(.cons (.assign "_law_rows" (.list .nil))
(.cons (.for1 "_law_one" (.r1 (.name "_law_count"))
(.cons (.assign "_law_rows" (.bin .add (.name "_law_rows") (.comp (.list (.cons (.name "_law_one") (.cons (.name "_law_thing") .nil))) "_law_thing" (.r2 (.bin .add (.name "_law_one") (.int 1)) (.name "_law_count")))))
.nil))
(.cons (.ret (.tup (.cons (.name "_law_count") (.cons (.name "_law_rows") .nil))))
.nil))))
.nil)
(.cons (.ret (.tup (.cons (.name "_law_count") (.cons (.compif (.name "_law_row") "_law_row" (.e (.name "_law_rows")) (.cmp .eq (.bi1 .len (.name "_law_row")) (.bin .mod (.name "_law_more") (.bin .add (.name "_law_count") (.int 1))))) .nil))))
.nil))))⟩
noncomputable def l_few:Fn:=⟨["_law_script"],
(.cons (.assign "_law_kind" (.bin .mod (.call "_law_cell_at" (.cons (.name "_law_script") (.cons (.int 0) .nil))) (.int 9)))
(.cons (.assign "_law_count" (.sub (.list (.cons (.int 6) (.cons (.int 5) (.cons (.int 4) (.cons (.int 3) (.cons (.int 6) (.cons (.int 1) (.cons (.int 0) .nil)))))))) (.bin .mod (.bin .fdiv (.call "_law_cell_at" (.cons (.name "_law_script") (.cons (.int 0) .nil))) (.int 9)) (.int 7))))
(.cons (.assign "_law_more" (.call "_law_cell_at" (.cons (.name "_law_script") (.cons (.int 1) .nil))))
(.cons (.ite (.cmp .eq (.name "_law_kind") (.int 7))
(.cons (.assign "_law_many" (.bin .add (.int 1) (.bin .mod (.name "_law_more") (.int 4))))
(.cons (.ite (.cmp .gt (.bi1 .len (.name "_law_script")) (.int 63))
(.cons (.assign "_law_many" (.bin .add (.int 1) (.bin .mod (.name "_law_more") (.int 5))))
.nil)
.nil)
(.cons (.ret (.tup (.cons (.bin .mul (.int 2) (.name "_law_many")) (.cons (.call "_law_pairs_by" (.cons (.name "_law_many") .nil)) .nil))))
.nil)))
.nil)
(.cons (.ite (.cmp .lt (.name "_law_kind") (.int 2))
(.cons (.ret (.call "_law_parts" (.cons (.name "_law_script") (.cons (.name "_law_kind") (.cons (.name "_law_count") (.cons (.name "_law_more") .nil))))))
.nil)
.nil)
(.cons (.assign "_law_count" (.sub (.list (.cons (.int 6) (.cons (.int 5) (.cons (.int 4) (.cons (.int 3) (.cons (.int 7) (.cons (.int 7) (.cons (.int 2) .nil)))))))) (.bin .mod (.bin .fdiv (.call "_law_cell_at" (.cons (.name "_law_script") (.cons (.int 0) .nil))) (.int 9)) (.int 7))))
(.cons (.assign "_law_rows" (.list (.cons (.list .nil) .nil)))
(.cons (.for1 "_law_thing" (.r1 (.name "_law_count"))
(.cons (.assign "_law_rows" (.bin .add (.name "_law_rows") (.compif (.bin .add (.name "_law_row") (.list (.cons (.name "_law_thing") .nil))) "_law_row" (.e (.name "_law_rows")) (.cmp .lt (.bi1 .len (.name "_law_row")) (.int 3)))))
.nil))
(.cons (.assign "_law_vectors" (.comp (.bin .mod (.call "_law_cell_at" (.cons (.name "_law_script") (.cons (.bin .add (.int 6) (.name "_law_thing")) .nil))) (.int 8)) "_law_thing" (.r1 (.name "_law_count"))))
(.cons (.assign "_law_good" (.compif (.name "_law_row") "_law_row" (.e (.name "_law_rows")) (.call "_law_apart" (.cons (.name "_law_vectors") (.cons (.name "_law_row") .nil)))))
(.cons (.assign "_law_most" (.bi1 .max (.comp (.bi1 .len (.name "_law_row")) "_law_row" (.e (.name "_law_good")))))
(.cons (.assign "_law_table_here" (.compif (.name "_law_row") "_law_row" (.e (.name "_law_good")) (.cmp .eq (.bi1 .len (.name "_law_row")) (.name "_law_most"))))
(.cons (.ite (.cmp .eq (.name "_law_kind") (.int 3))
(.cons (.pop "_law_table_here" (.bin .mod (.name "_law_more") (.bi1 .len (.name "_law_table_here"))))
.nil)
.nil)
(.cons (.ret (.tup (.cons (.name "_law_count") (.cons (.name "_law_table_here") .nil))))
.nil))))))))))))))⟩
noncomputable def l_pairs_by:Fn:=⟨["_law_many"],
(.cons (.assign "_law_rows" (.list (.cons (.list .nil) .nil)))
(.cons (.for1 "_law_k" (.r1 (.name "_law_many"))
(.cons (.assign "_law_rows" (.bin .add (.comp (.bin .add (.name "_law_row") (.list (.cons (.bin .mul (.int 2) (.name "_law_k")) .nil))) "_law_row" (.e (.name "_law_rows"))) (.comp (.bin .add (.name "_law_row") (.list (.cons (.bin .add (.bin .mul (.int 2) (.name "_law_k")) (.int 1)) .nil))) "_law_row" (.e (.name "_law_rows")))))
.nil))
(.cons (.retn "_law_rows")
.nil)))⟩
noncomputable def l_table:Fn:=⟨["_law_script"],
(.cons (.assign "_law_kind" (.bin .mod (.call "_law_cell_at" (.cons (.name "_law_script") (.cons (.int 0) .nil))) (.int 9)))
(.cons (.assign "_law_more" (.call "_law_cell_at" (.cons (.name "_law_script") (.cons (.int 1) .nil))))
(.cons (.ite (.cmp .eq (.name "_law_kind") (.int 4))
(.cons (.assign "_law_count" (.bin .add (.int 7) (.bin .mod (.name "_law_more") (.int 12))))
(.cons (.assign "_law_step" (.bin .add (.int 1) (.bin .mod (.bin .fdiv (.name "_law_more") (.int 12)) (.int 4))))
(.cons (.ret (.tup (.cons (.name "_law_count") (.cons (.compif (.list (.cons (.name "_law_thing") .nil)) "_law_thing" (.r1 (.name "_law_count")) (.cmp .eq (.bin .mod (.name "_law_thing") (.name "_law_step")) (.int 0))) .nil))))
.nil)))
.nil)
(.cons (.ite (.cmp .eq (.name "_law_kind") (.int 5))
(.cons (.assign "_law_count" (.bin .add (.int 7) (.bin .mod (.name "_law_more") (.int 6))))
(.cons (.ret (.tup (.cons (.name "_law_count") (.cons (.comp (.compif (.name "_law_thing") "_law_thing" (.r1 (.name "_law_count")) (.cmp .ne (.name "_law_thing") (.name "_law_gone"))) "_law_gone" (.r1 (.name "_law_count"))) .nil))))
.nil))
.nil)
(.cons (.assign "_law_made" (.call "_law_few" (.cons (.name "_law_script") .nil)))
(.cons (.assign "_law_far" (.call "_law_cell_at" (.cons (.name "_law_script") (.cons (.int 12) .nil))))
(.cons (.ite (.or (.cmp .ne (.bin .mod (.name "_law_far") (.int 3)) (.int 1)) (.or (.cmp .gt (.bi1 .len (.sub (.name "_law_made") (.int 1))) (.int 8)) (.cmp .gt (.sub (.name "_law_made") (.int 0)) (.int 9))))
(.cons (.retn "_law_made")
.nil)
.nil)
(.cons (.assign "_law_step" (.bin .add (.int 1) (.bin .mod (.bin .fdiv (.name "_law_far") (.int 3)) (.int 9))))
(.cons (.assign "_law_first" (.bin .mod (.bin .fdiv (.name "_law_far") (.int 27)) (.int 9)))
(.cons (.assign "_law_table_here" (.list .nil))
(.cons (.for1 "_law_choice" (.e (.sub (.name "_law_made") (.int 1)))
(.cons (.append "_law_table_here" (.comp (.bin .add (.name "_law_first") (.bin .mul (.name "_law_step") (.name "_law_thing"))) "_law_thing" (.e (.name "_law_choice"))))
.nil))
(.cons (.ret (.tup (.cons (.bin .add (.name "_law_first") (.bin .mul (.name "_law_step") (.sub (.name "_law_made") (.int 0)))) (.cons (.name "_law_table_here") .nil))))
.nil))))))))))))⟩
noncomputable def l_can:Fn:=⟨["_law_table_here", "_law_one", "_law_other", "_law_thing"],
(.cons (.for1 "_law_out" (.e (.name "_law_one"))
(.cons (.assign "_law_made" (.bi1 .sorted (.bin .add (.compif (.name "_law_left") "_law_left" (.e (.name "_law_one")) (.cmp .ne (.name "_law_left") (.name "_law_out"))) (.list (.cons (.name "_law_thing") .nil)))))
(.cons (.ite (.and (.cmp .notin (.name "_law_out") (.name "_law_other")) (.cmp .isin (.name "_law_made") (.name "_law_table_here")))
(.cons (.ret (.bool true))
.nil)
.nil)
.nil)))
(.cons (.ret (.bool false))
.nil))⟩
noncomputable def l_fault:Fn:=⟨["_law_count", "_law_table_here"],
(.cons (.for1 "_law_one" (.e (.name "_law_table_here"))
(.cons (.for1 "_law_thing" (.r1 (.name "_law_count"))
(.cons (.ite (.cmp .notin (.name "_law_thing") (.name "_law_one"))
(.cons (.for1 "_law_other" (.e (.name "_law_table_here"))
(.cons (.ite (.and (.cmp .isin (.name "_law_thing") (.name "_law_other")) (.not (.call "_law_can" (.cons (.name "_law_table_here") (.cons (.name "_law_one") (.cons (.name "_law_other") (.cons (.name "_law_thing") .nil)))))))
(.cons (.ret (.tup (.cons (.name "_law_one") (.cons (.name "_law_other") (.cons (.name "_law_thing") .nil)))))
.nil)
.nil)
.nil))
.nil)
.nil)
.nil))
.nil))
(.cons (.ret .none)
.nil))⟩
structure Lib (L:List (String×Fn)):Prop where
 cell:L.lookup "_law_cell_at" = some l_cell_at
 subs:L.lookup "_law_subsets" = some l_subsets
 apart:L.lookup "_law_apart" = some l_apart
 parts:L.lookup "_law_parts" = some l_parts
 few:L.lookup "_law_few" = some l_few
 pairs:L.lookup "_law_pairs_by" = some l_pairs_by
 table:L.lookup "_law_table" = some l_table
 can:L.lookup "_law_can" = some l_can
 lfault:L.lookup "_law_fault" = some l_fault
 exch:L.lookup "exchanged" = some p_exchanged
 known:L.lookup "known_of" = some p_known_of
 goes:L.lookup "goes" = some p_goes
 fault:L.lookup "fault" = some p_fault
noncomputable def bx (s:List Int) (k:Int):Int:=if k<s.length then s[k.toNat]?.getD 0 else if s=[] then 0 else s[(k%s.length).toNat]?.getD 0*7+k
theorem getD_some {s:List Int}{i:Nat}(h:i<s.length):s[i]? = some (s[i]?.getD 0):=by rw[List.getElem?_eq_getElem h]; rfl
theorem pe (C:Calls) (s:List Int) (k:Int) (hk:0<=k):au C l_cell_at [.d (aa s),.d (.int k)] = .ok (sI (bx s k)):=by
 unfold l_cell_at
 refine cg rfl λm H=>?_
 have i:=me (C:=C) (H.ev (x:="_law_k") rfl) (dN (H.ev (x:="_law_script") rfl))
 unfold bx
 by_cases h1:k<s.length
 ·rw[if_pos h1]
  refine Runs.ite (i.trans (by rw[decide_eq_true h1])) (λuu=>Runs.ret (fu (H.ev rfl) (H.ev rfl) hk (getD_some (la1 hk h1))) rfl) λq=>by cases q
 ·rw[if_neg h1]
  refine Runs.no (i.trans (by rw[decide_eq_false h1])) ?_
  have h:=sW (C:=C) (H.ev (x:="_law_script") rfl) yp
  by_cases h2:s=[]
  ·rw[if_pos h2]
   exact Runs.ite (h.trans (by rw[decide_eq_true h2])) (λuu=>Runs.ret (aj 0) rfl) λq=>by cases q
  ·rw[if_neg h2]
   refine Runs.no (h.trans (by rw[decide_eq_false h2])) ?_
   have g:0<s.length:=List.length_pos_iff.mpr h2
   have l:0<=k%s.length:=emod_nonneg _ (la2 g)
   have j:k%s.length<s.length:=emod_lt_of_pos _ (la3 g)
   refine Runs.ret (cC ((dJ (fu (H.ev rfl) (bh (H.ev rfl) (dN (H.ev rfl)) (la3 g)) l (getD_some (la4 g j))) (aj 7)).trans (vA _ 7 (by decide))) (H.ev rfl)) rfl
def Srt (c:Int) (r:List Int):Prop:=r.Pairwise (· < ·)/\∀ x∈r,0<=x/\x<c
theorem Srt.snoc (h:Srt c r) (h0:0<=c) (hx:c<=x):Srt (x+1) (r++[x]):=by
 refine ⟨pairwise_append.mpr ⟨h.1,List.pairwise_singleton _ _,λa ha b g=>?_⟩,λa ha=>?_⟩
 ·rw[mem_singleton.mp g]; have:=h.2 a ha; exact la5 hx this
 ·rcases mem_append.mp ha with ha | ha
  ·have:=h.2 a ha; exact la6 hx this
  ·rw[mem_singleton.mp ha]; exact la7 h0 hx
theorem Srt.mono (h:Srt c r) (hd:c<=d):Srt d r:=⟨h.1,λx g=>by have:=h.2 x g; exact la8 hd this⟩
theorem Srt.nil (c:Int):Srt c []:=⟨.nil,λuu h=>by cases h⟩
theorem xj (h:aP c=pre++y::post):y=pre.length/\pre.length<c:=by
 have j:=congrArg List.length h
 rw[bF,length_append,length_cons] at j
 have g:(aP c)[pre.length]? = some y:=by rw[h,List.getElem?_append_right (le_refl _),sub_self]; rfl
 have i:pre.length<c:=by exact la9 j
 unfold aP at g
 rw[List.getElem?_map,List.getElem?_range i] at g
 exact ⟨(Option.some.inj g).symm,i⟩
theorem lO {c:Nat}{pre post:List Int}{y:Int}{G:Prop}(h:aP c=pre++y::post) (k:y=pre.length->pre.length<c->G):G:=ab (xj h) k
def qh (k n:Nat) (c:Int) (t:List (List Int)):Prop:=t≠[]/\t.length<=n/\∀ r∈t,r.length<=k/\Srt c r
noncomputable def subs:Nat->List (List Int)
 | 0=>[[]]
 | k+1=>subs k++(subs k).map λr=>r++[(k:Int)]
noncomputable def lH:Nat->List (List Int)
 | 0=>[[]]
 | k+1=>lH k++((lH k).filter λr=>decide ((r.length:Int)<3)).map λr=>r++[(k:Int)]
theorem xx:∀ c≤6,∀ r∈subs c,((subs c).filter λr'=>decide ((r'.length:Int)=r.length)).length<=63:=by decide +kernel
theorem uw:∀ c≤7,∀ r∈lH c,((lH c).filter λr'=>decide ((r'.length:Int)=r.length)).length<=63:=by decide +kernel
theorem pi {t:List (List Int)}(h:∀ r∈t,(t.filter λr'=>decide ((r'.length:Int)=r.length)).length<=63) (k:Int):(t.filter λr=>decide ((r.length:Int)=k)).length<=63:=by
 cases e:t.filter λr=>decide ((r.length:Int)=k) with
 | nil=>exact zero_le _
 | cons r u=>
  obtain ⟨i,g⟩:=mem_filter.mp (show r∈t.filter λr=>decide ((r.length:Int)=k) by rw[e]; exact .head _)
  have:=h r i
  rw[of_decide_eq_true g,e] at this
  exact this
theorem qq (C:Calls) (c:Nat) (hc:c<=7):∃ r,au C l_subsets [.d (.int c)] = .ok r/\∃ t,r.1 = .d (ad t)/\t=subs c/\[]∈t/\qh c 128 c t:=by
 unfold l_subsets
 refine c7 rfl λl H=>?_
 refine Runs.set H pT λl H _=>?_
 refine Runs.for (g:=PyData.int) (xs:=aP c) (λi l=>∃ t,Has l [("_law_rows", .d (ad t)),("_law_count", .d (.int c))]/\t=subs i.length/\[]∈t/\qh i.length (2^i.length) i.length t) (ck (H.ev rfl) (KH hc)) (λσ0 h _=>(j4 ([[]]) ((h _ H).sub ⟨rfl,rfl,trivial⟩) rfl (.head _) (by simp) (by simp) (λr hr=>?_))) ?_ ?_
 ·cases mem_singleton.mp hr; exact ⟨le_refl _,.nil _⟩
 ·intro i y post hl l o
  refine iM (o) λt H p h0 g1 u k=>?_
  clear o
  refine lO hl λhy hp=>?_
  have j:2^i.length<=2^6:=pow_le_pow_right (by decide) (Cr hc hp)
  have H1:=H.mk "_law_thing" (.d (.int y))
  obtain ⟨m1,e1,_⟩:=da (λr=>r++[y]) .deep (aE (H1.ev (C:=C) (x:="_law_rows") rfl) (aS t .sh)) (a:=.bin .add (.name "_law_row") (.list (.cons (.name "_law_thing") .nil))) (z:="_law_row") (λr hr=>by
   have H2:=H1.mk "_law_row" (.d (aa r))
   exact eK (H2.ev rfl) (fm (H2.ev rfl)) (by have:=(k r hr).1; rw[length_singleton]; exact KO hc hp this))
  obtain ⟨m2,e2⟩:=lK (H1.ev (C:=C) (x:="_law_rows") rfl) e1 (by rw[length_map]; exact J4 u j)
  refine Runs.set H1 e2 λl H _=>Runs.nil (j4 _ (H.sub ⟨rfl,rfl,trivial⟩) (by rw[p,hy,length_append,length_singleton]; rfl) (mem_append_left _ h0) ?_ ?_ (λr hr=>?_))
  ·exact λq=>g1 (List.append_eq_nil_iff.mp q).1
  ·rw[length_append,length_append,length_map,length_singleton,Nat.pow_succ]; exact BN u
  ·rw[length_append,length_singleton]
   rcases mem_append.mp hr with hr | hr
   ·obtain ⟨q1,v⟩:=k r hr; exact ⟨by exact le_succ_of_le ‹_›,v.mono B0⟩
   ·refine aG hr λr' hr' Ly=>?_
    (clear hr; subst Ly)
    refine ab (k r' hr') λq1 v=>?_
    rw[length_append,length_singleton]
    exact ⟨by exact lt_succ_of_le ‹_›,(v.snoc (natCast_nonneg _) (x:=y) (Ct hy)).mono (Cg hy)⟩
 ·intro σ' n
  refine iM (n) λt H p h0 g1 u k=>?_
  clear n
  refine ah (H "_law_rows" _ rfl) λm e=>?_
  rw[bF] at p u k
  have j:2^c<=2^7:=pow_le_pow_right (by decide) ‹_›
  exact Runs.retn e (ag _ rfl (j4 t rfl p h0 g1 (by exact le_trans ‹_› ‹_›) k))
section
theorem b9 (lib:Lib L) (ha:ev (mkC L (n+1)) a σ = .ok (.d (aa s),m)) (hb:ev (mkC L (n+1)) b σ = .ok (sI k)) (hk:0<=k):ev (mkC L (n+1)) (.call "_law_cell_at" (.cons a (.cons b .nil))) σ = .ok (sI (bx s k)) :=
 bN lib.cell (af ha (af hb ax)) rfl (pe _ s k hk)
end
theorem tN (C:Calls) (vec row:List Int) (h:∀ i∈row,0<=i/\i<vec.length) (hl:row.length<=7):∃ r,au C l_apart [.d (aa vec),.d (aa row)] = .ok r/\∃ b,r=sB b/\(row=[]->b=true):=by
 unfold l_apart
 refine c7 rfl λk H=>?_
 refine Runs.set H (fm (aj 0)) λk H _=>?_
 refine Runs.for (g:=PyData.int) (xs:=row) (λj k=>∃ m:List Int,Has k [("_law_sums", .d (aa m)),("_law_vectors", .d (aa vec))]/\m.length=2^j.length) (aE (H.ev rfl) (ba row .sh)) (λσ0 h _=>(ag ([0]) ((h _ H).sub ⟨rfl,rfl,trivial⟩) rfl)) ?_ ?_
 ·intro j y z u k o
  refine ae (o) λm H v=>?_
  clear o
  have hp:j.length<row.length:=by rw[u,length_append,length_cons]; exact w5
  have p:2^j.length<=2^6:=pow_le_pow_right (by decide) (Cr hl hp)
  obtain ⟨x,y1⟩:=h y (by rw[u]; exact mem_append_right _ (.head _))
  have H1:=H.mk "_law_thing" (.d (.int y))
  have t:∀ {k:St}{l:List (String×V)},Has k l->l.lookup "_law_vectors" = some (.d (aa vec))->l.lookup "_law_thing" = some (.d (.int y))->ev C (.sub (.name "_law_vectors") (.name "_law_thing")) k = .ok (sI (vec[y.toNat]?.getD 0)):=λH a b=>fu (H.ev a) (H.ev b) x (getD_some (la1 x y1))
  refine Runs.ite (kI (t H1 rfl rfl) (H1.ev rfl)) (λuu=>Runs.ret (gq false) (ag _ rfl (ag false rfl (λq=>?_)))) λuu=>Runs.nil ?_
  ·rw[q] at u; exact absurd u (by simp)
  refine Runs.set H1 (eK (H1.ev rfl) (fY (g:=PyData.int) (λi=>Builtin.bitXor i (vec[y.toNat]?.getD 0)) (aE (H1.ev rfl) (ba m .sh)) λi _=>?_) ?_) λk H _=>Runs.nil (ag _ (H.sub ⟨rfl,rfl,trivial⟩) ?_)
  ·have H2:=H1.mk "_law_one" (.d (.int i))
   exact D6 (H2.ev rfl) (t H2 rfl rfl)
  ·rw[length_map]; exact KI v p
  ·rw[length_append,length_append,length_map,length_singleton,Nat.pow_succ]; exact Lb v
 ·intro σ' n
  refine ae (n) λm H v=>?_
  clear n
  exact Runs.ret (gq true) (ag _ rfl (ag true rfl (λuu=>rfl)))
def Tb (c:Int) (t:List (List Int)):Prop:=0<=c/\c<=100/\t.length<=63/\∀ r∈t,r.length<=12/\Srt c r
def sY (r:V×Mode):Prop:=∃ c t,r.1 = .d (.tuple [.int c,ad t])/\Tb c t
theorem tb (C:Calls) (c:Nat) (hc:c<=5):∃ r,au C l_pairs_by [.d (.int c)] = .ok r/\∃ t,r.1 = .d (ad t)/\qh c 32 (2*c) t:=by
 unfold l_pairs_by
 refine c7 rfl λn H=>?_
 refine Runs.set H pT λn H _=>?_
 refine Runs.for (g:=PyData.int) (xs:=aP c) (λi n=>∃ t,Has n [("_law_rows", .d (ad t)),("_law_many", .d (.int c))]/\qh i.length (2^i.length) (2*i.length) t) (ck (H.ev rfl) (KR hc)) (λσ0 h _=>(bD ([[]]) ((h _ H).sub ⟨rfl,rfl,trivial⟩) (by simp) (by simp) (λr hr=>?_))) ?_ ?_
 ·cases mem_singleton.mp hr; exact ⟨le_refl _,.nil _⟩
 ·intro i y post hl n p
  refine ca (p) λt H g1 v l=>?_
  clear p
  refine lO hl λu hp=>?_
  have j:2^i.length<=2^5:=pow_le_pow_right (by decide) (Km hc hp)
  have H1:=H.mk "_law_k" (.d (.int y))
  obtain ⟨m1,e1,_⟩:=da (λr=>r++[2*y]) .deep (aE (H1.ev (C:=C) (x:="_law_rows") rfl) (aS t .sh)) (a:=.bin .add (.name "_law_row") (.list (.cons (.bin .mul (.int 2) (.name "_law_k")) .nil))) (z:="_law_row") (λr hr=>by
   have H2:=H1.mk "_law_row" (.d (aa r))
   exact eK (H2.ev rfl) (fm (lA (aj 2) (H2.ev rfl) (by decide))) (by have:=(l r hr).1; rw[length_singleton]; exact Bz hc hp this))
  obtain ⟨m2,e2,_⟩:=da (λr=>r++[2*y+1]) .deep (aE (H1.ev (C:=C) (x:="_law_rows") rfl) (aS t .sh)) (a:=.bin .add (.name "_law_row") (.list (.cons (.bin .add (.bin .mul (.int 2) (.name "_law_k")) (.int 1)) .nil))) (z:="_law_row") (λr hr=>by
   have H2:=H1.mk "_law_row" (.d (aa r))
   exact eK (H2.ev rfl) (fm (cC (lA (aj 2) (H2.ev rfl) (by decide)) (aj 1))) (by have:=(l r hr).1; rw[length_singleton]; exact Bz hc hp this))
  obtain ⟨m3,e3⟩:=lK e1 e2 (by rw[length_map,length_map]; exact Ku v j)
  refine Runs.set H1 e3 λn H _=>Runs.nil (bD _ (H.sub ⟨rfl,rfl,trivial⟩) ?_ ?_ (λr hr=>?_))
  ·exact λq=>g1 (List.map_eq_nil_iff.mp (List.append_eq_nil_iff.mp q).1)
  ·rw[length_append,length_append,length_map,length_map,length_singleton,Nat.pow_succ]; exact BN v
  ·rw[length_append,length_singleton]
   rcases mem_append.mp hr with hr | hr
   ·refine aG hr λr' k LJ=>?_
    (clear hr; subst LJ)
    refine ab (l r' k) λq1 q2=>?_
    rw[length_append,length_singleton]
    exact ⟨by exact lt_succ_of_le ‹_›,(q2.snoc (natCast_nonneg _) (x:=2*y) (Kx u)).mono (K8 u)⟩
   ·refine aG hr λr' k LD=>?_
    (clear hr; subst LD)
    refine ab (l r' k) λq1 q2=>?_
    rw[length_append,length_singleton]
    exact ⟨by exact lt_succ_of_le ‹_›,(q2.snoc (natCast_nonneg _) (x:=2*y+1) (K3 u)).mono (K2 u)⟩
 ·intro σ' o
  refine ca (o) λt H g1 v l=>?_
  clear o
  refine ah (H "_law_rows" _ rfl) λm e=>?_
  rw[bF] at v l
  have j:2^c<=2^5:=pow_le_pow_right (by decide) ‹_›
  exact Runs.retn e (ag _ rfl (bD t rfl g1 (by exact le_trans ‹_› ‹_›) l))
theorem dF {L:List (String×Fn)}{n:Nat}{σ:St}{f:String}{fn:Fn}{es:Es}{q:List (V×Mode)}{vs:List V}{P:V×Mode->Prop}(hL:L.lookup f=some fn) (he:evs (mkC L (n+1)) es σ = .ok q) (hv:q.map (·.1)=vs) (h:∃ r,au (mkC L n) fn vs = .ok r/\P r) (hp:hX f=true:=by decide):∃ r,ev (mkC L (n+1)) (.call f es) σ = .ok r/\P r:=by
 refine ae (h) λr i g=>?_
 clear h
 exact (ag r (bN hL he hv i hp) g)
noncomputable def tri (k:Nat):Nat:=((List.range k).map λi=>8-i).sum
theorem uU:∀ k≤9,tri k<=36:=by decide
theorem wm (k:Nat):tri (k+1)=tri k+(8-k):=by unfold tri; rw[List.range_succ,map_append,List.sum_append]; rfl
theorem td (lib:Lib L) (n:Nat) (s:List Int) (kind more:Int) (c:Nat) (hc:c<=6):∃ r,au (mkC L (n+1)) l_parts [.d (aa s),.d (.int kind),.d (.int c),.d (.int more)] = .ok r/\sY r:=by
 unfold l_parts
 refine c7 rfl λσ H=>?_
 obtain ⟨LF,e1,t,ht,hsub,h0,g1,g2,g3⟩:=dF (σ:=σ) (n:=n) lib.subs (es:=.cons (.name "_law_count") .nil) (af (H.ev rfl) ax) rfl (qq _ c (by exact le_succ_of_le ‹_›))
 obtain ⟨rv,rm⟩:=LF
 cases ht
 refine Runs.set H e1 λσ H _=>?_
 have m6:=emod_nonneg more (show (6:Int)≠0 by decide)
 have m6':=emod_lt_of_pos more (show (0:Int)<6 by decide)
 have j:0<t.length:=List.length_pos_iff.mpr g1
 refine Runs.ite (dC (H.ev rfl) (aj 0)) (λuu=>?_) λuu=>Runs.nil ?_
 ·obtain ⟨k,hk⟩:∃ k:Nat,more%6=k:=⟨(more%6).toNat,by exact J6⟩
  have idx:∀ i:Int,∃ r,t[(bx s (6+i)%t.length).toNat]? = some r:=λi=>⟨_,List.getElem?_eq_getElem (by have:=emod_lt_of_pos (bx s (6+i)) (show (0:Int)<t.length by exact la3 j); have:=emod_nonneg (bx s (6+i)) (show (t.length:Int)≠0 by exact la2 j); exact la4 j ‹_›)⟩
  obtain ⟨m1,e2,_⟩:=da (C:=mkC L (n+1)) (σ:=σ) (g:=PyData.int) (l:=aP k) (z:="_law_k") (it:=.r1 (.bin .mod (.name "_law_more") (.int 6))) (a:=.sub (.name "_law_rows") (.bin .mod (.call "_law_cell_at" (.cons (.name "_law_script") (.cons (.bin .add (.int 6) (.name "_law_k")) .nil))) (.bi1 .len (.name "_law_rows")))) (λi=>(t[(bx s (6+i)%t.length).toNat]?).getD []) .sh (ck (n:=k) (m:=.deep) ((bh (H.ev rfl) (aj 6) (by decide)).trans (by rw[hk]; rfl)) (KN hk)) (λi hi=>by
   have H2:=H.mk "_law_k" (.d (.int i))
   have:=mem_upTo.mp hi
   refine ah (idx i) λr hr=>?_
   rw[hr]
   exact Cq (H2.ev rfl) (bh (b9 lib (H2.ev rfl) (cC (aj 6) (H2.ev rfl)) (Cn this)) (lM (H2.ev rfl)) (la3 j)) (emod_nonneg _ (la2 j)) hr)
  refine cM (H.ev (x:="_law_count") rfl) e2 λm2 e3=>?_
  refine Runs.ret e3 (ag _ rfl (bI c _ rfl (natCast_nonneg _) (BK hc) (by rw[length_map,bF]; exact Kv hk) (λr hr=>?_)))
  refine aG hr λi _ LI=>?_
  (clear hr; subst LI)
  refine ah (idx i) λr hr=>?_
  rw[hr]
  refine ab (g3 r (mem_of_getElem? hr)) λo q2=>?_
  exact ⟨by show r.length<=12; exact Bx hc o,q2⟩
 ·refine Runs.ite (dC (bh (H.ev rfl) (aj 9) (by decide)) (aj 8)) (λuu=>?_) λuu=>Runs.nil ?_
  ·have a1:=emod_nonneg (more/9) (show (3:Int)≠0 by decide)
   have a2:=emod_lt_of_pos (more/9) (show (0:Int)<3 by decide)
   obtain ⟨d,p⟩:∃ d:Nat,7+more/9%3=d:=⟨(7+more/9%3).toNat,by exact Kl⟩
   refine Runs.set H (cC (aj 7) (bh (gU (H.ev rfl) (aj 9) (by decide) (by decide)) (aj 3) (by decide))) λσ H _=>?_
   rw[p] at H
   refine Runs.set H mj λσ H _=>?_
   refine Runs.for (g:=PyData.int) (xs:=aP d) (λpre σ=>∃ t,Has σ [("_law_rows", .d (ad t)),("_law_count", .d (.int d))]/\t.length<=tri pre.length/\∀ r∈t,r.length<=12/\Srt d r) (ck (H.ev rfl) (Kc p)) (λσ0 h _=>(aL ([]) ((h _ H).sub ⟨rfl,rfl,trivial⟩) (by simp) (λuu q=>by cases q))) ?_ ?_
   ·intro pre y post hl σ v
    refine ao (v) λt H o q2=>?_
    clear v
    refine lO hl λhy hp=>?_
    have H1:=H.mk "_law_one" (.d (.int y))
    obtain ⟨m1,e2,_⟩:=da (C:=mkC L (n+1)) (σ:=upd σ "_law_one" (mk (.d (.int y)))) (g:=PyData.int) (z:="_law_thing") (it:=.r2 (.bin .add (.name "_law_one") (.int 1)) (.name "_law_count")) (a:=.list (.cons (.name "_law_one") (.cons (.name "_law_thing") .nil))) (λi=>[y,i]) .deep (AO (cC (H1.ev rfl) (aj 1)) (H1.ev rfl) (Kt hy) (JZ p hy hp) (natCast_nonneg _) (Kb p)) (λi hi=>by
     have H2:=H1.mk "_law_thing" (.d (.int i))
     exact Gv (H2.ev rfl) (H2.ev rfl))
    obtain ⟨m2,e3⟩:=lK (H1.ev (C:=mkC L (n+1)) (x:="_law_rows") rfl) e2 (by rw[length_map,length_map,List.length_range]; have:=uU pre.length (Le p hp); exact Ka p o hy this)
    refine Runs.set H1 e3 λσ H _=>Runs.nil (aL _ (H.sub ⟨rfl,rfl,trivial⟩) ?_ (λr hr=>?_))
    ·rw[length_append,length_append,length_map,length_map,List.length_range,length_singleton,wm]; exact J0 p o hy
    ·rcases mem_append.mp hr with hr | hr
     ·exact q2 r hr
     ·refine aG hr λi hi LL=>?_
      (clear hr; subst LL)
      refine aG hi λk hk LN=>?_
      (clear hi hr; subst LN)
      have:=List.mem_range.mp hk
      exact ⟨by simp,by simp; exact Lg,λx hx=>by
       rcases mem_cons.mp hx with rfl | hx
       ·exact Kj hp hy
       ·rw[mem_singleton.mp hx]; exact J5 hy this⟩
   ·intro σ' u
    refine ao (u) λt H o q2=>?_
    clear u
    refine cM (H.ev (C:=mkC L (n+1)) (x:="_law_count") rfl) (H.ev (x:="_law_rows") rfl) λm2 e3=>?_
    rw[bF] at o
    have:=uU d (KP p)
    exact Runs.ret e3 (ag _ rfl (bI d t rfl (natCast_nonneg _) (KQ p) (Kk o this) q2))
  ·obtain ⟨m1,e2,_⟩:=jg (C:=mkC L (n+1)) (σ:=σ) (g:=aa) (l:=t) (z:="_law_row") (it:=.e (.name "_law_rows")) (a:=.name "_law_row") (c:=.cmp .eq (.bi1 .len (.name "_law_row")) (.bin .mod (.name "_law_more") (.bin .add (.name "_law_count") (.int 1)))) (λr=>r) (λr=>decide ((r.length:Int)=more%(c+1))) .sh (aE (H.ev rfl) (aS t .sh)) (λr hr=>by
    have H2:=H.mk "_law_row" (.d (aa r))
    exact dC (dN (H2.ev rfl)) (bh (H2.ev rfl) (cC (H2.ev rfl) (aj 1)) KX)) (λr hr _=>(H.mk "_law_row" (.d (aa r))).ev rfl)
   refine cM (H.ev (x:="_law_count") rfl) e2 λm2 e3=>?_
   refine Runs.ret e3 (ag _ rfl (bI c _ rfl (natCast_nonneg _) (BK hc) ?_ (λr hr=>?_)))
   ·rw[List.map_id']; exact pi (by rw[hsub]; exact xx c hc) _
   ·rw[List.map_id'] at hr
    refine ab (g3 r (mem_filter.mp hr).1) λo q2=>?_
    exact ⟨by exact Bx hc o,q2⟩
theorem yy {l:List Int}{x:Int}{b:Int}(h:l.length=7) (hb:∀ i∈l,0<=i/\i<=b):∃ c:Nat,l[(x/9%7).toNat]? = some (c:Int)/\(c:Int)<=b:=by
 have k:=emod_nonneg (x/9) (show (7:Int)≠0 by decide)
 have j:=emod_lt_of_pos (x/9) (show (0:Int)<7 by decide)
 have g:(x/9%7).toNat<l.length:=by exact KM h
 have:=hb _ (List.getElem_mem g)
 exact (ag (l[(x/9%7).toNat].toNat) (by rw[List.getElem?_eq_getElem g]; congr 1; exact JR this) (K1 this))
theorem rC (a b c d e f g:Int):ev C (.list (.cons (.int a) (.cons (.int b) (.cons (.int c) (.cons (.int d) (.cons (.int e) (.cons (.int f) (.cons (.int g) .nil)))))))) σ = .ok (.d (aa [a,b,c,d,e,f,g]),.deep):=by
 simp only[eP,bp,aV,aU,Out.ok_bind]; rfl
theorem v8 (lib:Lib L) (n:Nat) (s:List Int) (hs:s.length<=63):∃ r,au (mkC L (n+2)) l_few [.d (aa s)] = .ok r/\sY r:=by
 unfold l_few
 refine c7 rfl λσ H=>?_
 refine Runs.set H (bh (b9 lib (H.ev rfl) (aj 0) (by decide)) (aj 9) (by decide)) λσ H _=>?_
 refine ae (yy (l:=[6,5,4,3,6,1,0]) (x:=bx s 0) (b:=6) rfl (by decide)) λc hc1 j=>?_
 refine Runs.set H (fu (rC 6 5 4 3 6 1 0) (bh (gU (b9 lib (H.ev rfl) (aj 0) (by decide)) (aj 9) (by decide) (by decide)) (aj 7) (by decide)) (emod_nonneg _ (by decide)) hc1) λσ H _=>?_
 refine Runs.set H (b9 lib (H.ev rfl) (aj 1) (by decide)) λσ H _=>?_
 generalize bx s 0%9=kind at H
 generalize bx s 1=more at H
 refine Runs.ite (dC (H.ev rfl) (aj 7)) (λuu=>?_) λuu=>Runs.nil ?_
 ·have a1:=emod_nonneg more (show (4:Int)≠0 by decide)
  have a2:=emod_lt_of_pos more (show (0:Int)<4 by decide)
  obtain ⟨d,hd⟩:∃ d:Nat,1+more%4=d:=⟨(1+more%4).toNat,by exact KA⟩
  refine Runs.set H (cC (aj 1) (bh (H.ev rfl) (aj 4) (by decide))) λσ H _=>?_
  rw[hd] at H
  refine Runs.no ((tl (dN (H.ev rfl)) (aj 63)).trans (by rw[decide_eq_false (JL hs)])) ?_
  obtain ⟨LS,e1,t,ht,g1,g2,g3⟩:=dF (σ:=σ) (n:=n+1) lib.pairs (es:=.cons (.name "_law_many") .nil) (af (H.ev rfl) ax) rfl (tb _ d (JK hd))
  obtain ⟨rv,rm⟩:=LS
  cases ht
  refine cM (lA (aj 2) (H.ev (x:="_law_many") rfl) (by decide)) e1 λm2 e3=>?_
  exact Runs.ret e3 (ag _ rfl (bI _ t rfl (natCast_nonneg _) (JO hd) (J3 g2) (λr hr=>ab (g3 r hr) λu o=>⟨by exact Lj hd u,o⟩)))
 ·refine Runs.ite (me (H.ev rfl) (aj 2)) (λuu=>?_) λuu=>Runs.nil ?_
  ·refine ae (dF (σ:=σ) (n:=n+1) lib.parts (es:=.cons (.name "_law_script") (.cons (.name "_law_kind") (.cons (.name "_law_count") (.cons (.name "_law_more") .nil)))) (af (H.ev rfl) (af (H.ev rfl) (af (H.ev rfl) (af (H.ev rfl) ax)))) rfl (td lib n s kind more c (KL j))) λr e1 h=>?_
   exact Runs.ret e1 (ag r rfl h)
  ·clear hc1 j
   refine ae (yy (l:=[6,5,4,3,7,7,2]) (x:=bx s 0) (b:=7) rfl (by decide)) λc hc1 j=>?_
   refine Runs.set H (fu (rC 6 5 4 3 7 7 2) (bh (gU (b9 lib (H.ev rfl) (aj 0) (by decide)) (aj 9) (by decide) (by decide)) (aj 7) (by decide)) (emod_nonneg _ (by decide)) hc1) λσ H _=>?_
   refine Runs.set H pT λσ H _=>?_
   refine Runs.for (g:=PyData.int) (xs:=aP c) (λk σ=>∃ t,Has σ [("_law_rows", .d (ad t)),("_law_count", .d (.int c)),("_law_script", .d (aa s)),("_law_kind", .d (.int kind)),("_law_more", .d (.int more))]/\t=lH k.length/\[]∈t/\qh k.length (2^k.length) k.length t) (ck (H.ev rfl) (Ck j)) (λσ0 h _=>(j4 ([[]]) ((h _ H).sub (ow rfl rfl rfl rfl rfl trivial)) rfl (.head _) (by simp) (by simp) (λr hr=>?_))) ?_ ?_
   ·cases mem_singleton.mp hr; exact ⟨le_refl _,.nil _⟩
   ·intro k y post hl σ LR
    refine iM (LR) λt H h3 h0 g1 g2 g3=>?_
    clear LR
    refine lO hl λhy hp=>?_
    have hpow:2^k.length<=2^6:=pow_le_pow_right (by decide) (JV j hp)
    have H1:=H.mk "_law_thing" (.d (.int y))
    obtain ⟨m1,e1,_⟩:=jg (C:=mkC L (n+2)) (λr=>r++[y]) (λr=>decide ((r.length:Int)<3)) .deep (aE (H1.ev (x:="_law_rows") rfl) (aS t .sh)) (a:=.bin .add (.name "_law_row") (.list (.cons (.name "_law_thing") .nil))) (c:=.cmp .lt (.bi1 .len (.name "_law_row")) (.int 3)) (z:="_law_row") (λr hr=>me (dN ((H1.mk "_law_row" (.d (aa r))).ev rfl)) (aj 3)) (λr hr _=>by
     have H2:=H1.mk "_law_row" (.d (aa r))
     exact eK (H2.ev rfl) (fm (H2.ev rfl)) (by have:=(g3 r hr).1; rw[length_singleton]; exact KT j hp this))
    have hf:=length_filter_le (λr:List Int=>decide ((r.length:Int)<3)) t
    obtain ⟨m2,e2⟩:=lK (H1.ev (C:=mkC L (n+2)) (x:="_law_rows") rfl) e1 (by rw[length_map]; exact KK g2 hpow hf)
    refine Runs.set H1 e2 λσ H _=>Runs.nil (j4 _ (H.sub (ow rfl rfl rfl rfl rfl trivial)) (by rw[h3,hy,length_append,length_singleton]; rfl) (mem_append_left _ h0) ?_ ?_ (λr hr=>?_))
    ·exact λq=>g1 (List.append_eq_nil_iff.mp q).1
    ·rw[length_append,length_append,length_map,length_singleton,Nat.pow_succ]; exact KF g2 hf
    ·rw[length_append,length_singleton]
     rcases mem_append.mp hr with hr | hr
     ·obtain ⟨u,o⟩:=g3 r hr; exact ⟨by exact le_succ_of_le ‹_›,o.mono B0⟩
     ·refine aG hr λr' hr' LP=>?_
      (clear hr; subst LP)
      refine ab (g3 r' (mem_filter.mp hr').1) λu o=>?_
      rw[length_append,length_singleton]
      exact ⟨by exact lt_succ_of_le ‹_›,(o.snoc (natCast_nonneg _) (x:=y) (Ct hy)).mono (Cg hy)⟩
   ·intro σ LQ
    refine iM (LQ) λt H h3 h0 g1 g2 g3=>?_
    clear LQ
    rw[bF] at h3 g2 g3
    have hpow:2^c<=2^7:=pow_le_pow_right (by decide) (CC j)
    obtain ⟨m,hvec⟩:∃ m,(aP c).map (λi=>bx s (6+i)%8)=m:=⟨_,rfl⟩
    have hvl:m.length=c:=by rw[<- hvec,length_map,bF]
    refine Runs.set H (r:=(.d (aa m),.deep)) ((fY (g:=PyData.int) (λi=>bx s (6+i)%8) (ck (n:=c) (H.ev rfl) (Ck j)) λi hi=>?_).trans (by rw[hvec])) λσ H _=>?_
    ·have H2:=H.mk "_law_thing" (.d (.int i))
     have:=mem_upTo.mp hi
     exact bh (b9 lib (H2.ev rfl) (cC (aj 6) (H2.ev rfl)) (Cn this)) (aj 8) (by decide)
    obtain ⟨p,hp⟩:=j9 (l:=t) (Q:=λr b=>ev (mkC L (n+2)) (.call "_law_apart" (.cons (.name "_law_vectors") (.cons (.name "_law_row") .nil))) (upd σ "_law_row" (mk (.d (aa r)))) = .ok (sB b)/\(r=[]->b=true)) λr hr=>by
     have H2:=H.mk "_law_row" (.d (aa r))
     refine ab (g3 r hr) λu o=>?_
     obtain ⟨_,e1,b,rfl,hb⟩:=dF (n:=n+1) lib.apart (es:=.cons (.name "_law_vectors") (.cons (.name "_law_row") .nil)) (af (H2.ev rfl) (af (H2.ev rfl) ax)) rfl (tN _ m r (λi hi=>by have:=o.2 i hi; exact K0 hvl this) (Ky j u))
     exact (ag b e1 hb)
    refine ae (jg (C:=mkC L (n+2)) (σ:=σ) (g:=aa) (l:=t) (z:="_law_row") (it:=.e (.name "_law_rows")) (a:=.name "_law_row") (c:=.call "_law_apart" (.cons (.name "_law_vectors") (.cons (.name "_law_row") .nil))) (λr=>r) p .sh (aE (H.ev rfl) (aS t .sh)) (λr hr=>(hp r hr).1) (λr hr _=>(H.mk "_law_row" (.d (aa r))).ev rfl)) λm1 e1 _=>?_
    rw[List.map_id'] at e1
    refine Runs.set H e1 λσ H _=>?_
    have hne:(t.filter p).map (λr=>(r.length:Int))≠[]:=λq=>by
     have:[]∈t.filter p:=mem_filter.mpr ⟨h0,(hp [] h0).2 rfl⟩
     rw[List.map_eq_nil_iff.mp q] at this
     cases this
    refine ae (DK (fY (C:=mkC L (n+2)) (σ:=σ) (g:=aa) (l:=t.filter p) (z:="_law_row") (it:=.e (.name "_law_good")) (a:=.bi1 .len (.name "_law_row")) (λr=>(r.length:Int)) (aE (H.ev rfl) (aS _ .sh)) λr _=>dN ((H.mk "_law_row" (.d (aa r))).ev rfl)) hne) λmo e2 hmo=>?_
    refine Runs.set H e2 λσ H _=>?_
    refine aG hmo λr0 hr0 hr1=>?_
    obtain ⟨tt,htt⟩:∃ tt,(t.filter p).filter (λr=>decide ((r.length:Int)=mo))=tt:=⟨_,rfl⟩
    have v:0<tt.length:=List.length_pos_iff.mpr λq=>by
     have:r0∈tt:=by rw[<- htt]; exact mem_filter.mpr ⟨hr0,decide_eq_true hr1⟩
     rw[q] at this; cases this
    have hsub:∀ r∈tt,r∈t:=λr hr=>by rw[<- htt] at hr; exact (mem_filter.mp (mem_filter.mp hr).1).1
    have hlen:tt.length<=63:=by
     have u:=length_filter_le p (t.filter λr:List Int=>decide ((r.length:Int)=mo))
     have o:=pi (t:=t) (by rw[h3]; exact uw c (CC j)) mo
     rw[<- htt,List.filter_filter]
     rw[List.filter_filter] at u
     simp only[Bool.and_comm] at u ⊢
     exact K9 u o
    obtain ⟨m3,e3,_,hm3⟩:=jg (C:=mkC L (n+2)) (σ:=σ) (g:=aa) (l:=t.filter p) (z:="_law_row") (it:=.e (.name "_law_good")) (a:=.name "_law_row") (c:=.cmp .eq (.bi1 .len (.name "_law_row")) (.name "_law_most")) (λr=>r) (λr=>decide ((r.length:Int)=mo)) .sh (aE (H.ev rfl) (aS _ .sh)) (λr hr=>by
     have H2:=H.mk "_law_row" (.d (aa r))
     exact dC (dN (H2.ev rfl)) (H2.ev rfl)) (λr hr _=>(H.mk "_law_row" (.d (aa r))).ev rfl)
    rw[List.map_id',htt] at e3
    refine Runs.set H e3 λσ H hσ=>?_
    have fin:∀ {σ:St}{l:List (String×V)}(t':List (List Int)),Has σ l->l.lookup "_law_count" = some (.d (.int c))->l.lookup "_law_table_here" = some (.d (ad t'))->(∀ r∈t',r∈t)->t'.length<=63->Runs (mkC L (n+2)) (.cons (.ret (.tup (.cons (.name "_law_count") (.cons (.name "_law_table_here") .nil)))) .nil) σ (λuu fl=>∃ r,fl = .ret r/\sY r):=λt' H a b ht' hl'=>by
     refine cM (H.ev (C:=mkC L (n+2)) a) (H.ev b) λm2 e4=>?_
     exact Runs.ret e4 (ag _ rfl (bI c t' rfl (natCast_nonneg _) (JM j) hl' (λr hr=>ab (g3 r (ht' r hr)) λu o=>⟨by exact KJ j u,o⟩)))
    refine Runs.ite (dC (H.ev rfl) (aj 3)) (λuu=>?_) λuu=>Runs.nil (fin tt H rfl rfl hsub hlen)
    refine Runs.popR H hσ hm3 (bh (H.ev rfl) (lM (H.ev rfl)) (la3 v)) (emod_nonneg _ (la2 v)) (emod_lt_of_pos _ (la3 v)) λσ H _=>Runs.nil (fin _ H rfl rfl (λr hr=>hsub r (List.mem_of_mem_eraseIdx hr)) (le_trans (List.length_eraseIdx_le ..) hlen))
theorem Srt.affine (h:Srt c r) (ha:0<=a) (hb:0<b):Srt (a+b*c) (r.map λx=>a+b*x):=by
 refine ⟨?_,λx i=>?_⟩
 ·rw[pairwise_map]
  refine h.1.imp λ{x y} q=>?_
  have:=Int.mul_lt_mul_of_pos_left q hb
  exact KB this
 ·refine aG i λy l g=>?_
  (clear i; subst g)
  refine ab (h.2 y l) λn m=>?_
  have k:=Int.mul_nonneg (Int.le_of_lt hb) n
  have j:=Int.mul_lt_mul_of_pos_left m hb
  exact Ld ha k j
theorem ku (c:Nat):(aP c).Pairwise (· < ·):=by
 unfold aP
 rw[pairwise_map]
 exact List.pairwise_lt_range.imp λ{a b} h=>by exact BS h
theorem r8 (lib:Lib L) (n:Nat) (s:List Int) (hs:s.length<=63):∃ r,au (mkC L (n+3)) l_table [.d (aa s)] = .ok r/\sY r:=by
 unfold l_table
 refine c7 rfl λσ H=>?_
 refine Runs.set H (bh (b9 lib (H.ev rfl) (aj 0) (by decide)) (aj 9) (by decide)) λσ H _=>?_
 refine Runs.set H (b9 lib (H.ev rfl) (aj 1) (by decide)) λσ H _=>?_
 generalize bx s 0%9=kind at H
 generalize bx s 1=more at H
 refine Runs.ite (dC (H.ev rfl) (aj 4)) (λuu=>?_) λuu=>Runs.nil ?_
 ·have a1:=emod_nonneg more (show (12:Int)≠0 by decide)
  have a2:=emod_lt_of_pos more (show (0:Int)<12 by decide)
  have a3:=emod_nonneg (more/12) (show (4:Int)≠0 by decide)
  obtain ⟨d,p⟩:∃ d:Nat,7+more%12=d:=⟨(7+more%12).toNat,by exact La⟩
  refine Runs.set H (cC (aj 7) (bh (H.ev rfl) (aj 12) (by decide))) λσ H _=>?_
  rw[p] at H
  refine Runs.set H (cC (aj 1) (bh (gU (H.ev rfl) (aj 12) (by decide) (by decide)) (aj 4) (by decide))) λσ H _=>?_
  obtain ⟨m1,e1,_⟩:=jg (C:=mkC L (n+3)) (σ:=σ) (g:=PyData.int) (l:=aP d) (z:="_law_thing") (it:=.r1 (.name "_law_count")) (a:=.list (.cons (.name "_law_thing") .nil)) (c:=.cmp .eq (.bin .mod (.name "_law_thing") (.name "_law_step")) (.int 0)) (λi=>[i]) (λi=>decide (i%(1+more/12%4)=0)) .deep (ck (H.ev rfl) (K5 p)) (λi _=>by
   have H2:=H.mk "_law_thing" (.d (.int i))
   exact dC (bh (H2.ev rfl) (H2.ev rfl) JJ) (aj 0)) (λi _ _=>fm ((H.mk "_law_thing" (.d (.int i))).ev rfl))
  refine cM (H.ev (C:=mkC L (n+3)) (x:="_law_count") rfl) e1 λm2 e2=>?_
  refine Runs.ret e2 (ag _ rfl (bI d _ rfl (natCast_nonneg _) (JX p) ?_ (λr u=>?_)))
  ·rw[length_map]
   have:=length_filter_le (λi=>decide (i%(1+more/12%4)=0)) (aP d)
   rw[bF] at this; exact Kh p this
  ·refine aG u λi hi LX=>?_
   (clear u; subst LX)
   have:=mem_upTo.mp (mem_filter.mp hi).1
   exact ⟨by simp,by simp,λx hx=>by rw[mem_singleton.mp hx]; exact Cu this⟩
 ·refine Runs.ite (dC (H.ev rfl) (aj 5)) (λuu=>?_) λuu=>Runs.nil ?_
  ·have a1:=emod_nonneg more (show (6:Int)≠0 by decide)
   have a2:=emod_lt_of_pos more (show (0:Int)<6 by decide)
   obtain ⟨d,p⟩:∃ d:Nat,7+more%6=d:=⟨(7+more%6).toNat,by exact JW⟩
   refine Runs.set H (cC (aj 7) (bh (H.ev rfl) (aj 6) (by decide))) λσ H _=>?_
   rw[p] at H
   obtain ⟨m1,e1,_⟩:=da (C:=mkC L (n+3)) (σ:=σ) (g:=PyData.int) (l:=aP d) (z:="_law_gone") (it:=.r1 (.name "_law_count")) (a:=.compif (.name "_law_thing") "_law_thing" (.r1 (.name "_law_count")) (.cmp .ne (.name "_law_thing") (.name "_law_gone"))) (λg=>(aP d).filter λi=>!decide (i=g)) .deep (ck (H.ev rfl) (CD p)) (λg _=>by
    have H2:=H.mk "_law_gone" (.d (.int g))
    exact cK (λi=>!decide (i=g)) (ck (H2.ev rfl) (CD p)) λi _=>by
     have H3:Has (upd (upd σ "_law_gone" (mk (.d (.int g)))) "_law_thing" (sI i)) _:=H2.upd "_law_thing" (.d (.int i)) .deep
     exact kJ (H3.ev rfl) (H3.ev rfl))
   refine cM (H.ev (C:=mkC L (n+3)) (x:="_law_count") rfl) e1 λm2 e2=>?_
   refine Runs.ret e2 (ag _ rfl (bI d _ rfl (natCast_nonneg _) (KZ p) (by rw[length_map,bF]; exact Kf p) (λr u=>?_)))
   refine aG u λg _ LY=>?_
   (clear u; subst LY)
   refine ⟨?_,(ku d).filter _,λx hx=>?_⟩
   ·have:=length_filter_le (λi=>!decide (i=g)) (aP d)
    rw[bF] at this; exact K4 p this
   ·have:=mem_upTo.mp (mem_filter.mp hx).1
    exact Cu this
  ·obtain ⟨LW,e1,c,t,u,h0,h1,h2,h3⟩:=dF (σ:=σ) (n:=n+2) lib.few (es:=.cons (.name "_law_script") .nil) (af (H.ev rfl) ax) rfl (v8 lib n s hs)
   obtain ⟨rv,rm⟩:=LW
   cases u
   refine Runs.set H e1 λσ H k=>?_
   refine Runs.set H (b9 lib (H.ev rfl) (aj 12) (by decide)) λσ' H hσ'=>?_
   generalize bx s 12=far at H
   have o:∀ {σ:St}{l:List (String×V)},Has σ l->l.lookup "_law_made" = some (.d (.tuple [.int c,ad t]))->ev (mkC L (n+3)) (.sub (.name "_law_made") (.int 0)) σ = .ok (sI c)/\ev (mkC L (n+3)) (.sub (.name "_law_made") (.int 1)) σ = .ok (.d (ad t),.sh):=λH a=>⟨th (m:=.sh) (H.ev a) (aj 0),r5 (m:=.sh) (H.ev a) (aj 1)⟩
   refine ab (o H rfl) λd1 d2=>?_
   refine Runs.ite (gi (kJ (bh (H.ev rfl) (aj 3) (by decide)) (aj 1)) λuu=>gi (tl (lM d2) (aj 8)) λuu=>tl d1 (aj 9)) (λuu=>?_) λq=>Runs.nil ?_
   ·refine ah (H "_law_made" _ rfl) λm e=>?_
    exact Runs.retn e (ag _ rfl (bI c t rfl h0 h1 h2 h3))
   ·have hc9:c<=9:=by
     have:=(or_eq_false_iff.mp (or_eq_false_iff.mp q).2).2
     have:=of_decide_eq_false this
     exact Kq this
    have ht8:t.length<=8:=by
     have:=(or_eq_false_iff.mp (or_eq_false_iff.mp q).2).1
     have:=of_decide_eq_false this
     exact Ks this
    clear q d1 d2
    refine Runs.set H (cC (aj 1) (bh (gU (H.ev rfl) (aj 3) (by decide) (by decide)) (aj 9) (by decide))) λσ H _=>?_
    refine Runs.set H (bh (gU (H.ev rfl) (aj 27) (by decide) (by decide)) (aj 9) (by decide)) λσ H _=>?_
    have b1:=emod_nonneg (far/3) (show (9:Int)≠0 by decide)
    have b2:=emod_lt_of_pos (far/3) (show (0:Int)<9 by decide)
    have b3:=emod_nonneg (far/27) (show (9:Int)≠0 by decide)
    have b4:=emod_lt_of_pos (far/27) (show (0:Int)<9 by decide)
    generalize hst:1+far/3%9=st at H
    generalize hfi:far/27%9=fi at H
    refine Runs.set H mj λσ H k=>?_
    refine Runs.for (g:=aa) (xs:=t) (λj σ=>Has σ [("_law_table_here", .d (ad (j.map λr=>r.map λx=>fi+st*x))),("_law_made", .d (.tuple [.int c,ad t])),("_law_step", .d (.int st)),("_law_first", .d (.int fi))]/\σ "_law_table_here" = some (.d (ad (j.map λr=>r.map λx=>fi+st*x)),.deep)) (aE (o H rfl).2 (aS t .sh)) (λσ0 h hh=>⟨(h _ H).sub (cr rfl rfl rfl rfl trivial),(hh _ (by simp[e7,dT,Ay,rP])).trans k⟩) ?_ ?_
    ·intro j y post hl σ L9
     refine ab (L9) λH k=>?_
     clear L9
     have hp:j.length<t.length:=by rw[hl,length_append,length_cons]; exact w5
     have H1:=H.mk "_law_choice" (.d (aa y))
     refine Runs.appR H1 (t:=j.map λr=>r.map λx=>fi+st*x) (m:=.deep) ((if_neg (by decide)).trans k) (by decide) (fY (g:=PyData.int) (λx=>fi+st*x) (aE (H1.ev rfl) (ba y .sh)) λi _=>?_) (by rw[length_map]; exact JP ht8 hp) λσ H k _=>Runs.nil ?_
     ·have H2:=H1.mk "_law_thing" (.d (.int i))
      exact cC (H2.ev rfl) (lA (H2.ev rfl) (H2.ev rfl) (by lia))
     ·have e:(j++[y]).map (λr=>r.map λx=>fi+st*x)=j.map (λr=>r.map λx=>fi+st*x)++[y.map λx=>fi+st*x]:=by rw[map_append]; rfl
      show Has σ _/\_
      rw[e]
      exact ⟨H.sub (cr rfl rfl rfl rfl trivial),k⟩
    ·intro σ v
     refine ab (v) λH _=>?_
     clear v
     refine cM (cC (H.ev (C:=mkC L (n+3)) (x:="_law_first") rfl) (lA (H.ev (x:="_law_step") rfl) (o H rfl).1 (by lia))) (H.ev (x:="_law_table_here") rfl) λm2 e2=>?_
     have q1:=Int.mul_nonneg (show 0<=st by exact K6 hst) h0
     have q2:st*c<=9*9:=Int.mul_le_mul (Ke hst) hc9 h0 (by decide)
     refine Runs.ret e2 (ag _ rfl (bI _ _ rfl (JY hfi q1) (JT hfi q2) (by rw[length_map]; exact KE ht8) (λr u=>?_)))
     refine aG u λr' hr' L5=>?_
     (clear u; subst L5)
     refine ab (h3 r' hr') λq3 q4=>?_
     exact ⟨by rw[length_map]; exact JU q3,q4.affine (K7 hfi) (Li hst)⟩
noncomputable def exchF (one:List Int) (o x:Int):List Int:=aH (one.filter (λy=>!decide (y=o))++[x])
noncomputable def cS (t:List (List Int)) (one other:List Int) (x:Int):Bool:=one.any λo=>!decide (o∈other)&&decide (exchF one o x∈t)
noncomputable def fC (c:Nat) (t:List (List Int)):Option (List Int×List Int×Int) :=
 t.findSome? λh=>(aP c).findSome? λx=>if x∈h then none else t.findSome? λg=>if (decide (x∈g) && !cS t h g x)=true then some (h,g,x) else none
theorem iL (p:α->Bool) (l:List α):l.findSome? (λx=>if p x=true then some () else none)=if l.any p=true then some () else none:=by
 induction l with
 | nil=>rfl
 | cons a l ih=>
  rw[List.findSome?_cons,List.any_cons]
  cases p a with
  | true=>rfl
  | false=>simpa using ih
theorem Ac (H:Has σ l) (hz:z ≠ "x") (ha:ev C a σ = .ok (.d (aa c),m)) (hd:ev C d σ = .ok (sI t)) (hb:∀ i:Int,ev C b (upd σ z (sI i)) = .ok (sI o)) (h:c.length<63) :
  ev C (.bi1 .sorted (.bin .add (.compif (.name z) z (.e a) (.cmp .ne (.name z) b)) (.list (.cons d .nil)))) σ = .ok (.d (aa (exchF c o t)),.deep):=by
 have g:(c.filter λx=>!decide (x=o)).length<=c.length:=length_filter_le ..
 refine wC (eK (cK (λi=>!decide (i=o)) (aE ha (ba c m)) λi _=>kJ (l6 (p:=sI i) (if_pos rfl) rfl) (hb i)) (fm hd) (by rw[length_singleton]; exact KY h g)) ?_
 rw[length_append,length_singleton]; exact JS h g
theorem v7 (C:Calls) (t:List (List Int)) (one other:List Int) (x:Int) (h:one.length<63):au C l_can [.d (ad t),.d (aa one),.d (aa other),.d (.int x)] = .ok (sB (cS t one other x)):=by
 unfold l_can cS
 refine cg rfl λj H=>?_
 refine Runs.seek (g:=PyData.int) (xs:=one) (λj=>Has j [("_law_table_here", .d (ad t)),("_law_one", .d (aa one)),("_law_other", .d (aa other)),("_law_thing", .d (.int x))]) (λo=>if (!decide (o∈other)&&decide (exchF one o x∈t))=true then some () else none) (λuu=>sB true) (aE (H.ev rfl) (ba one .sh)) (λl h _=>(h _ H).sub (cr rfl rfl rfl rfl trivial)) (λo m j H=>?_) (λq k _=>?_) λuu q k=>?_
 ·have H1:=H.mk "_law_out" (.d (.int o))
  refine Runs.set H1 (Ac H1 (by decide) (H1.ev rfl) (H1.ev rfl) (λi=>(H1.upd "_law_left" (.d (.int i)) .deep).ev rfl) h) λj H2 _=>?_
  refine Runs.ite (gW (iA (H2.ev rfl) (H2.ev rfl)) λuu=>y6 (H2.ev rfl) (H2.ev rfl)) (λq=>Runs.ret (gq true) ?_) λq=>Runs.nil (Runs.nil ?_)
  ·exact Cont.ret (Sk.ret (q:=()) (if_pos q))
  ·exact Sk.next (if_neg (by rw[q]; decide)) (H2.sub (cr rfl rfl rfl rfl trivial))
 ·rw[iL] at q
  refine Runs.ret (gq false) ?_
  by_cases e:(one.any λo=>!decide (o∈other)&&decide (exchF one o x∈t))=true
  ·rw[if_pos e] at q; cases q
  ·rw[Bool.eq_false_iff.mpr e]
 ·rw[iL] at q
  by_cases e:(one.any λo=>!decide (o∈other)&&decide (exchF one o x∈t))=true
  ·rw[e]
  ·rw[if_neg e] at q; cases q
theorem qI (lib:Lib L) (n:Nat) (c:Nat) (t:List (List Int)) (hc:c<=1000) (h:∀ r∈t,r.length<63):au (mkC L (n+1)) l_fault [.d (.int c),.d (ad t)] = .ok (match fC c t with | none=>(.d .none,.deep) | some (a,b,x)=>(.d (.tuple [aa a,aa b,.int x]),.sh)):=by
 unfold l_fault fC
 refine cg rfl λl H=>?_
 let rv:List Int×List Int×Int->V×Mode:=λq=>(.d (.tuple [aa q.1,aa q.2.1,.int q.2.2]),.sh)
 let Inv:St->Prop:=λl=>Has l [("_law_table_here", .d (ad t)),("_law_count", .d (.int c))]
 refine Runs.seek (g:=aa) (xs:=t) Inv (λj=>(aP c).findSome? λx=>if x∈j then none else t.findSome? λi=>if (decide (x∈i) && !cS t j i x)=true then some (j,i,x) else none) rv (aE (H.ev rfl) (aS t .sh)) (λo h _=>(h _ H).sub ⟨rfl,rfl,trivial⟩) (λj u l H=>?_) (λq k _=>?_) λq p k=>?_
 ·have H1:=H.mk "_law_one" (.d (aa j))
  refine Runs.seek (g:=PyData.int) (xs:=aP c) (λl=>Has l [("_law_table_here", .d (ad t)),("_law_count", .d (.int c)),("_law_one", .d (aa j))]) (λx=>if x∈j then none else t.findSome? λi=>if (decide (x∈i) && !cS t j i x)=true then some (j,i,x) else none) rv (ck (H1.ev rfl) (xJ hc)) (λo h _=>(h _ H1).sub (cE rfl rfl rfl trivial)) (λx y l H=>?_) (λq k H=>Runs.nil ?_) λq p k=>?_
  ·have H2:=H.mk "_law_thing" (.d (.int x))
   refine Runs.ite (iA (H2.ev rfl) (H2.ev rfl)) (λq=>?_) λq=>Runs.nil (Runs.nil ?_)
   ·have m:x∉j:=by simpa using q
    refine Runs.seek (g:=aa) (xs:=t) (λl=>Has l [("_law_table_here", .d (ad t)),("_law_count", .d (.int c)),("_law_one", .d (aa j)),("_law_thing", .d (.int x))]) (λi=>if (decide (x∈i) && !cS t j i x)=true then some (j,i,x) else none) rv (aE (H2.ev rfl) (aS t .sh)) (λo h _=>(h _ H2).sub (cr rfl rfl rfl rfl trivial)) (λi z l H=>?_) (λq k H=>Runs.nil (Runs.nil ?_)) λq p k=>?_
    ·have H3:=H.mk "_law_other" (.d (aa i))
     refine Runs.ite (gW (kI (H3.ev rfl) (H3.ev rfl)) λuu=>jk (bN lib.can (af (H3.ev rfl) (af (H3.ev rfl) (af (H3.ev rfl) (af (H3.ev rfl) ax)))) rfl (v7 _ t j i x (h j u)))) (λq=>?_) λq=>Runs.nil (Runs.nil ?_)
     ·have v:ev (mkC L (n+1)) (.tup (.cons (.name "_law_one") (.cons (.name "_law_other") (.cons (.name "_law_thing") .nil)))) (upd l "_law_other" (mk (.d (aa i)))) = .ok (rv (j,i,x)):=by
       exact uX (m1:=.sh) (m2:=.sh) (m3:=.deep) (H3.ev rfl) (H3.ev rfl) (H3.ev rfl)
      exact Runs.ret v (Cont.ret (Sk.ret (q:=(j,i,x)) (if_pos q)))
     ·exact Sk.next (if_neg (by rw[q]; decide)) (H3.sub (cr rfl rfl rfl rfl trivial))
    ·exact Sk.next ((if_neg m).trans q) (H.sub (cE rfl rfl rfl trivial))
    ·exact Cont.ret (Sk.ret ((if_neg m).trans p))
   ·have m:x∈j:=by simpa using q
    exact Sk.next (if_pos m) (H2.sub (cE rfl rfl rfl trivial))
  ·exact Sk.next q (H.sub ⟨rfl,rfl,trivial⟩)
  ·exact Sk.ret p
 ·rw[q]; exact Runs.ret je rfl
 ·rw[p]
def Kn (pre:List (List Int)) (v:V):Prop:=(pre=[]/\v = .dic0)\/∃ ks,v = .dicT ks/\ks.length<=pre.length/\(∀ k,k∈ks↔k∈pre)/\ks.Nodup
theorem iH (r:List Int):dy (aJ r)=some r:=cP r
theorem Kn.add (K:Kn pre v) (r:List Int) (hl:pre.length<=1000):∃ v',gO σ z v (aJ r) = .ok (upd σ z (v',.deep),.next)/\Kn (pre++[r]) v':=by
 rcases K with ⟨rfl,rfl⟩ | ⟨ks,rfl,h1,h2,h3⟩
 ·refine (ag (.dicT [r]) ?_ (.inr (bD ([r]) rfl (le_refl _) (λk=>Iff.rfl) (by simp))))
  simp only[gO,iH,show ei (aJ r)=none from rfl]
 ·refine (ag (.dicT (if r∈ks then ks else ks++[r])) ?_ (.inr (bD _ rfl ?_ (λk=>?_) ?_)))
  ·show (match dy (aJ r) with | some i=>if ks.length<=lim then Out.ok (upd σ z (V.dicT (if i∈ks then ks else ks++[i]),Mode.deep),Flw.next) else .bad | none=>.bad)=_
   rw[iH]
   show (if ks.length<=lim then _ else _)=_
   rw[if_pos (by unfold lim; exact Ch hl h1)]
  ·rw[length_append,length_singleton]
   by_cases e:r∈ks
   ·rw[if_pos e]; exact yc h1
   ·rw[if_neg e,length_append,length_singleton]; exact jX h1
  ·by_cases e:r∈ks
   ·rw[if_pos e,h2,mem_append,mem_singleton]
    exact ⟨.inl,λq=>q.elim id λq=>q▸(h2 r).mp e⟩
   ·rw[if_neg e,mem_append,mem_append,h2]
  ·by_cases e:r∈ks
   ·rw[if_pos e]; exact h3
   ·rw[if_neg e]; exact nodup_append.mpr ⟨h3,by simp,λa h b g q=>e (by rw[mem_singleton.mp g] at q; exact q▸h)⟩
theorem lj (C:Calls) (t:List (List Int)) (hl:t.length<=1000):∃ r,au C p_known_of [.d (ad t)] = .ok r/\∃ v,r=(v,.deep)/\Kn t v:=by
 unfold p_known_of
 refine c7 rfl λσ H=>?_
 refine Runs.set H vn λσ H k=>?_
 refine Runs.for (g:=aa) (xs:=t) (λj σ=>∃ v,σ "known" = some (v,.deep)/\Kn j v) (aE (H.ev rfl) (aS t .sh)) (λu _ hh=>(ag .dic0 ((hh _ (by simp[e7,dT])).trans k) (.inl ⟨rfl,rfl⟩))) ?_ ?_
 ·intro j y q n σ i
  refine ae (i) λv m K=>?_
  clear i
  have x:j.length<t.length:=by rw[n,length_append,length_cons]; exact w5
  refine ae (K.add (σ:=upd σ "choice" (mk (.d (aa y)))) (z:="known") y (Ex hl x)) λo h1 h2=>?_
  have l:upd σ "choice" (mk (.d (aa y))) "known" = some (v,.deep):=(if_neg (by decide)).trans m
  refine Runs.next (σ':=upd (upd σ "choice" (mk (.d (aa y)))) "known" (o,.deep)) ?_ (Runs.nil (ag o (po _ _ _) h2))
  simp only[cQ,rz (C:=C) (l6 (C:=C) (σ:=upd σ "choice" (mk (.d (aa y)))) (z:="choice") (p:=(.d (aa y),.sh)) (if_pos rfl) rfl),Out.ok_bind,l]
  exact h1
 ·intro σ' h
  refine ae (h) λv m K=>?_
  clear h
  exact Runs.retn m (ag _ rfl (ag v rfl K))
noncomputable def sf:Option (List Int×List Int×Int)->V×Mode
 | none=>(.d .none,.deep)
 | some q=>(.d (.tuple [aa q.1,aa q.2.1,.int q.2.2]),.deep)
noncomputable def p_need_row:Fn:=⟨["count", "things"],
(.cons (.assign "seen" .edic)
(.cons (.for1 "thing" (.e (.name "things"))
(.cons (.ite (.or (.cmp .lt (.name "thing") (.int 0)) (.or (.cmp .ge (.name "thing") (.name "count")) (.cmp .isin (.name "thing") (.name "seen"))))
(.cons .bad
.nil)
.nil)
(.cons (.setitem "seen" (.name "thing"))
.nil)))
.nil))⟩
noncomputable def iG:Ss:=(.cons (.ite (.or (.cmp .lt (.name "thing") (.int 0)) (.or (.cmp .ge (.name "thing") (.name "count")) (.cmp .isin (.name "thing") (.name "seen"))))
(.cons .bad
.nil)
.nil)
(.cons (.setitem "seen" (.name "thing"))
.nil))
def Good (c:Int) (xs:List Int):Prop:=(∀ x∈xs,0<=x/\x<c)/\xs.Nodup
def Sn (pre:List Int) (v:V):Prop:=(pre=[]/\v = .dic0)\/∃ ks,v = .dicI ks/\ks.length<=pre.length/\∀ k,k∈ks↔k∈pre
theorem Sn.has (K:Sn pre v) (x:Int):b6 .isin (.d (.int x)) v = .ok (decide (x∈pre)):=by
 rcases K with ⟨rfl,rfl⟩ | ⟨ks,rfl,h1,h2⟩
 ·rfl
 ·show Out.ok (decide (x∈ks))=_
  rw[decide_eq_decide.mpr (h2 x)]
theorem Sn.add (K:Sn pre v) (x:Int) (hl:pre.length<=1000):∃ v',gO σ z v (.int x) = .ok (upd σ z (v',.deep),.next)/\Sn (pre++[x]) v':=by
 rcases K with ⟨rfl,rfl⟩ | ⟨ks,rfl,h1,h2⟩
 ·exact (ag (.dicI [x]) rfl (.inr (aL ([x]) rfl (le_refl _) (λk=>Iff.rfl))))
 ·refine (ag (.dicI (if x∈ks then ks else ks++[x])) ?_ (.inr (aL _ rfl ?_ (λk=>?_))))
  ·show (if ks.length<=lim then _ else _)=_
   rw[if_pos (by unfold lim; exact Ch hl h1)]
  ·rw[length_append,length_singleton]
   by_cases e:x∈ks
   ·rw[if_pos e]; exact yc h1
   ·rw[if_neg e,length_append,length_singleton]; exact jX h1
  ·by_cases e:x∈ks
   ·rw[if_pos e,h2,mem_append,mem_singleton]
    exact ⟨.inl,λq=>q.elim id λq=>q▸(h2 x).mp e⟩
   ·rw[if_neg e,mem_append,mem_append,h2]
theorem mO (hC:C "NoThing" = some g) (c:Int):∀ (xs pre:List Int) (σ:St) (v:V),Has σ [("count", .d (.int c))]->σ "seen" = some (v,.deep)->Sn pre v->Good c pre->pre.length+xs.length<=1000 ->
  (Good c (pre++xs)->∃ σ',bC (λy σ=>exs C iG (upd σ "thing" (mk (.d y)))) (xs.map .int) σ = .ok (σ',.next))/\(¬ Good c (pre++xs)->bC (λy σ=>exs C iG (upd σ "thing" (mk (.d y)))) (xs.map .int) σ = .bad)
 | [],pre,σ,v,H,hs,K,hg,hl=>by
  rw[append_nil]
  exact ⟨λuu=>⟨σ,rfl⟩,λq=>absurd hg q⟩
 | x::xs,pre,σ,v,H,hs,K,hg,hl=>by
  have H1:Has (upd σ "thing" (mk (.d (.int x)))) [("thing", .d (.int x)),("count", .d (.int c))]:=H.mk "thing" (.d (.int x))
  have i:upd σ "thing" (mk (.d (.int x))) "seen" = some (v,.deep):=(if_neg (by decide)).trans hs
  have k:=H1.ev (C:=C) (x:="thing") rfl
  have e2:ev C (.cmp .isin (.name "thing") (.name "seen")) (upd σ "thing" (mk (.d (.int x)))) = .ok (sB (decide (x∈pre))):=bq k (by simp only[bW,i]; rfl) (K.has x)
  have m:ev C (.or (.cmp .lt (.name "thing") (.int 0)) (.or (.cmp .ge (.name "thing") (.name "count")) (.cmp .isin (.name "thing") (.name "seen")))) (upd σ "thing" (mk (.d (.int x)))) = .ok (sB (decide (x<0)||(decide (c<=x)||decide (x∈pre)))) :=
   gi (me k (aj 0)) λuu=>gi (B8 k (H1.ev rfl)) λuu=>e2
  simp only[map_cons,bC]
  by_cases bad:x<0\/c<=x\/x∈pre
  ·have n:(decide (x<0)||(decide (c<=x)||decide (x∈pre)))=true:=by simpa using bad
   rw[n] at m
   have ng:¬ Good c (pre++x::xs):=λ⟨h1,h2⟩=>by
    have r:=h1 x (by simp)
    rcases bad with q | q | q
    ·exact EC r q
    ·exact Ey r q
    ·exact (nodup_append.mp h2).2.2 x q x (.head _) rfl
   have l:exs C iG (upd σ "thing" (mk (.d (.int x)))) = .bad:=by
    unfold iG
    simp only[cO,bg]
    rw[rA m]
    simp only[cO,bg,cQ,jM]
    rfl
   refine ⟨λq=>absurd q ng,λuu=>?_⟩
   rw[l]; rfl
  ·have n:(decide (x<0)||(decide (c<=x)||decide (x∈pre)))=false:=by simpa using bad
   rw[n] at m
   obtain ⟨j,u,K'⟩:=K.add (σ:=upd σ "thing" (mk (.d (.int x)))) (z:="seen") x (by rw[length_cons] at hl; exact DN hl)
   have l:exs C iG (upd σ "thing" (mk (.d (.int x)))) = .ok (upd (upd σ "thing" (mk (.d (.int x)))) "seen" (j,.deep),.next):=by
    unfold iG
    rw[iQ ((mD m).trans ik)]
    refine (iQ (σ':=upd (upd σ "thing" (mk (.d (.int x)))) "seen" (j,.deep)) ?_).trans ik
    simp only[cQ,k,Out.calm_ok,Out.ok_bind,i]
    exact u
   have o:Good c (pre++[x]):=by
    refine ⟨λy hy=>?_,nodup_append.mpr ⟨hg.2,by simp,λa ha b t q=>?_⟩⟩
    ·rcases mem_append.mp hy with h | h
     ·exact hg.1 y h
     ·rw[mem_singleton.mp h]; exact Fd bad
    ·rw[mem_singleton.mp t] at q; (clear H1 K' e2 u n l k t hl i; subst q); exact bad (.inr (.inr ha))
   have p:=mO hC c xs (pre++[x]) (upd (upd σ "thing" (mk (.d (.int x)))) "seen" (j,.deep)) j ((H1.upd "seen" j .deep).sub ⟨rfl,trivial⟩) (po _ _ _) K' o (by rw[length_append,length_singleton]; rw[length_cons] at hl; exact DP hl)
   rw[append_assoc] at p
   rw[l]
   exact p
theorem fJ (hC:C "NoThing" = some g) (c:Int) (xs:List Int) (hl:xs.length<=1000) :
  (Good c xs->au C p_need_row [.d (.int c),.d (aa xs)] = .ok (.d .none,.deep))/\(¬ Good c xs->au C p_need_row [.d (.int c),.d (aa xs)] = .bad):=by
 refine ae (cq ["count", "things"] [.d (.int c),.d (aa xs)] rfl) λσ k H=>?_
 have m:bB p_need_row.params [.d (.int c),.d (aa xs)]=some σ:=k
 have p:ex C (.assign "seen" .edic) σ = .ok (upd σ "seen" (.dic0,.deep),.next):=by
  simp only[ce]
  rw[lh (vn (C:=C) (σ:=σ))]
  rfl
 have H1:Has (upd σ "seen" (.dic0,.deep)) [("seen", .dic0),("count", .d (.int c)),("things", .d (aa xs))]:=H.upd "seen" .dic0 .deep
 have l:=aE (C:=C) (H1.ev (C:=C) (x:="things") rfl) (ba xs .sh)
 refine ab (mO hC c xs [] (consume (upd σ "seen" (.dic0,.deep)) (bQ (.e (.name "things"))) .sh) .dic0 ((H1.sub (l':=[("count", .d (.int c))]) ⟨rfl,trivial⟩).consume _ _) ((fq.2 "seen" (by simp[e7,dT])).trans (po _ _ _)) (.inl ⟨rfl,rfl⟩) ⟨λuu h=>(nomatch h),.nil⟩ (by simpa using hl)) λj o=>?_
 have i:exs C p_need_row.body σ=(bC (λy σ=>exs C iG (upd σ "thing" (mk (.d y)))) (xs.map .int) (consume (upd σ "seen" (.dic0,.deep)) (bQ (.e (.name "things"))) .sh)).bind λq=>match q.2 with | .next=>exs C .nil q.1 | .ret v=>.ok (q.1,.ret v):=by
  show exs C (.cons (.assign "seen" .edic) _) σ=_
  rw[iQ p]
  simp only[cO,bg,cQ,eL,kQ,jM,l,Out.ok_bind]
  rfl
 refine ⟨λq=>?_,λq=>?_⟩
 ·refine ah (j q) λn j=>?_
  rw[j] at i
  unfold au
  rw[m]
  dsimp only
  rw[i]
  simp only[Out.ok_bind,ik]
 ·rw[o q] at i
  unfold au
  rw[m]
  dsimp only
  rw[i]
  rfl
def NoF (c:Nat) (t:List (List Int)):Prop:=∀ one∈t,∀ x∈aP c,x∉one->∀ other∈t,x∈other->cS t one other x=true
theorem fault_none:fC c t=none↔NoF c t:=by
 unfold fC NoF
 rw[List.findSome?_eq_none_iff]
 refine forall_congr' λj=>imp_congr_right λuu=>?_
 rw[List.findSome?_eq_none_iff]
 refine forall_congr' λx=>imp_congr_right λuu=>?_
 by_cases hx:x∈j
 ·simp[hx]
 ·rw[if_neg hx,List.findSome?_eq_none_iff]
  refine ⟨λh _ g k i=>?_,λh g k=>?_⟩
  ·have:=h g k
   cases hc:cS t j g x with
   | true=>rfl
   | false=>rw[if_pos (by simp[i,hc])] at this; cases this
  ·by_cases i:x∈g
   ·rw[if_neg (by simp[h hx g k i])]
   ·rw[if_neg (by simp[i])]
theorem xR (h:∀ r,r∈t↔r∈u) (one other:List Int) (x:Int):cS t one other x=cS u one other x:=by
 unfold cS
 congr 1
 funext o
 rw[decide_eq_decide.mpr (h (exchF one o x))]
theorem NoF.set (n:NoF c t) (h:∀ r,r∈t↔r∈u):NoF c u:=λi m x l o g k j=>by
 rw[<- xR h]
 exact n i ((h i).mpr m) x l o g ((h g).mpr k) j
theorem NoF.empty (n:NoF c t) (hr:∀ r∈t,Srt c r) (h:[]∈t):∀ r∈t,r=[]:=λr g=>by
 cases r with
 | nil=>rfl
 | cons x r=>
  have i:=(hr _ g).2 x (.head _)
  have:=n [] h x (mem_upTo.mpr i) (λq=>nomatch q) _ g (.head _)
  cases this
theorem NoF.one (c:Nat) (r:List Int):NoF c [r]:=λone k x l j h i g=>by
 rw[mem_singleton.mp k] at j
 rw[mem_singleton.mp i] at g
 exact absurd g j
noncomputable def p_Rule:Fn:=⟨["count", "table"],
(.cons (.ite (.cmp .eq (.bi1 .len (.name "table")) (.int 0))
(.cons .bad
.nil)
.nil)
(.cons (.for1 "choice" (.e (.name "table"))
(.cons (.expr (.call "need_row" (.cons (.name "count") (.cons (.name "choice") .nil))))
.nil))
(.cons (.assign "known" (.call "known_of" (.cons (.comp (.bi1 .sorted (.name "choice")) "choice" (.e (.name "table"))) .nil)))
(.cons (.assign "full" (.comp (.bi1 .list (.name "choice")) "choice" (.e (.bi1 .sorted (.bi1 .list (.name "known"))))))
(.cons (.ite (.cmp .isnot (.call "fault" (.cons (.name "count") (.cons (.name "full") .nil))) .none)
(.cons .bad
.nil)
.nil)
.nil)))))⟩
structure LibR (L:List (String×Fn)):Prop extends Lib L where
 need:L.lookup "need_row" = some p_need_row
 rule:L.lookup "Rule" = some p_Rule
 nth:∃ f,L.lookup "NoThing" = some f
theorem gu (hL:L.lookup f=some fn) (he:evs (aw (mkC L (n+1))) es σ = .ok q) (hv:q.map (·.1)=vs) (h:au (mkC L n) fn vs = .ok r) (hp:hX f=true:=by decide) (hl:f ≠ "law" := by decide):ev (aw (mkC L (n+1))) (.call f es) σ = .ok r:=by
 have g:aw (mkC L (n+1)) f=some λvs=>bL f (mkC L n) fn vs:=by
  unfold aw
  rw[if_neg hl]
  show (L.lookup f).map _=_; rw[hL]; rfl
 rw[jP g he,hv,ma hp,h]
theorem Srt.good (h:Srt c r):Good c r:=⟨h.2,h.1.imp λq e=>by rw[e] at q; exact Int.lt_irrefl _ q⟩
theorem j8:∀ ks:List (List Int),eA (ks.map aJ)=some ks
 | []=>rfl
 | k::ks=>by simp only[map_cons,eA,iH,j8 ks,bind_some,map_some]
theorem qH (h0:ks≠[]) (h64:ks.length<64) (hne:ks.length<2\/[]∉ks):∃ m,b1V .sorted (.d (.list (ks.map aJ))) = .ok (.d (.list ((br ks).map aJ)),m):=by
 refine ⟨fresh ((br ks).map aJ),?_⟩
 show dY (ks.map aJ)=_
 unfold dY
 have g:aF (ks.map aJ)=none:=by
  cases ks with
  | nil=>exact absurd rfl h0
  | cons k ks=>rfl
 rw[if_pos (by rw[length_map]; exact h64),g]
 show fX _=_
 unfold fX
 rw[j8]
 show (if ks.length<2\/[]∉ks then _ else _)=_
 rw[if_pos hne]
theorem wK (r:List Int):b1V .list (.d (aJ r)) = .ok (.d (aa r),.deep):=by
 show Out.ok (V.d (.list (r.map PyData.int)),fresh (r.map PyData.int))=_
 have:fresh (r.map PyData.int) = .deep:=by
  unfold fresh
  rw[if_pos]
  rw[all_map,all_eq_true]
  intro _ _; rfl
 rw[this]; rfl
noncomputable def p_rank:Fn:=⟨["self", "things"],
(.cons (.expr (.call "need_row" (.cons (.attr (.name "self") "count") (.cons (.name "things") .nil))))
(.cons (.ret (.bi1 .max (.comp (.bi1 .len (.compif (.name "thing") "thing" (.e (.name "choice")) (.cmp .isin (.name "thing") (.name "things")))) "choice" (.e (.attr (.name "self") "full")))))
.nil))⟩
noncomputable def p_together:Fn:=⟨["self", "things"],
(.cons (.ret (.cmp .eq (.meth (.name "self") "rank" (.cons (.name "things") .nil)) (.bi1 .len (.name "things"))))
.nil)⟩
noncomputable def iT (things choice:List Int):Nat:=(choice.filter λx=>decide (x∈things)).length
theorem ig:∀ {a b:List Int},a.Nodup->(∀ x∈a,x∈b)->a.length<=b.length
 | [],_,_,_=>zero_le _
 | x::a,b,hn,h=>by
  have i:=h x (.head _)
  refine ab (nodup_cons.mp hn) λk j=>?_
  have:=ig (b:=b.erase x) j λy g=>(List.mem_erase_of_ne (λ(q:y=x)=>k (q▸g))).mpr (h y (.tail _ g))
  rw[List.length_erase_of_mem i] at this
  have l:0<b.length:=List.length_pos_of_mem i
  rw[length_cons]; exact CP this l
theorem rW {a b:List Int}(hn:a.Nodup) (h:∀ x∈a,x∈b) (hl:b.length<=a.length):∀ x∈b,x∈a:=λx i=>by
 by_cases q:x∈a
 ·exact q
 ·have:=ig (a:=x::a) (nodup_cons.mpr ⟨q,hn⟩) λy g=>(mem_cons.mp g).elim (λe=>e▸i) (h y)
  rw[length_cons] at this
  exact DO hl this
theorem rF (h:choice.Nodup):iT things choice<=things.length:=ig (h.filter _) λx g=>of_decide_eq_true (mem_filter.mp g).2
theorem qe (hc:choice.Nodup) (ht:things.Nodup):iT things choice=things.length↔∀ x∈things,x∈choice:=by
 constructor
 ·intro h x g
  exact (mem_filter.mp (rW (hc.filter λx=>decide (x∈things)) (λx g=>of_decide_eq_true (mem_filter.mp g).2) (by unfold iT at h; exact yC h) x g)).1
 ·intro h
  exact le_antisymm (rF hc) (ig ht λx g=>mem_filter.mpr ⟨h x g,decide_eq_true g⟩)
theorem uK (hL:L.lookup f=some fn) (he:evs (aw (mkC L (n+1))) es σ = .ok q) (hv:q.map (·.1)=vs) (h:au (mkC L n) fn vs = .bad) (hp:hX f=true:=by decide) (hl:f ≠ "law" := by decide):ev (aw (mkC L (n+1))) (.call f es) σ = .bad:=by
 have g:aw (mkC L (n+1)) f=some λvs=>bL f (mkC L n) fn vs:=by
  unfold aw
  rw[if_neg hl]
  show (L.lookup f).map _=_; rw[hL]; rfl
 rw[jP g he,hv,ma hp,h]
theorem dG (hC:C "Rule" = some g) (h:ev C a σ = .ok (.rule c d k,m)):ev C (.attr a "count") σ = .ok (sI c)/\ev C (.attr a "full") σ = .ok (mk (.d d))/\ev C (.attr a "size") σ = .ok (sI k):=by
 refine ⟨?_,?_,?_⟩<;>(simp only[dU,hC,am,h,Out.ok_bind]; rfl)
theorem B4 (ha:ev C a σ = .ok (.d (aa xs),m)) (h:eC xs=some i):ev C (.bi1 .max a) σ = .ok (sI i):=by
 rw[dP ha]
 show (am ((aF (xs.map PyData.int)).bind eC) λi=>Out.ok (sI i))=_
 rw[cP,bind_some,h]
 rfl
theorem vU (lib:LibR L) (n:Nat) (c k:Int) (u:List (List Int)) (things:List Int) (hu:u≠[]) (hl:things.length<=1000) :
  (Good c things->∃ i,eC (u.map λr=>(iT things r:Int))=some i/\au (aw (mkC L (n+2))) p_rank [.rule c (ad u) k,.d (aa things)] = .ok (sI i)) /\
  (¬ Good c things->au (aw (mkC L (n+2))) p_rank [.rule c (ad u) k,.d (aa things)] = .bad):=by
 refine ah (lib.nth) λnt q=>?_
 have v:mkC L (n+1) "NoThing" = some λo=>bL "NoThing" (mkC L n) nt o:=by show (L.lookup "NoThing").map _=_; rw[q]; rfl
 have h:aw (mkC L (n+2)) "Rule" = some λo=>bL "Rule" (mkC L (n+1)) p_Rule o:=by
  unfold aw
  rw[if_neg (by decide)]
  show (L.lookup "Rule").map _=_; rw[lib.rule]; rfl
 refine ab (fJ v c things hl) λs1 z=>?_
 refine ⟨λt=>?_,λt=>?_⟩
 ·refine ae (jG (xs:=u.map λr=>(iT things r:Int)) (by simpa using hu)) λi y _=>?_
  refine (ag i y ?_)
  unfold p_rank
  refine cg rfl λm H=>?_
  have j:=H.ev (C:=aw (mkC L (n+2))) (x:="self") rfl
  refine Runs.expr H (gu lib.need (af (dG h j).1 (af (H.ev (x:="things") rfl) ax)) rfl (s1 t)) λm H _=>?_
  have j:=H.ev (C:=aw (mkC L (n+2))) (x:="self") rfl
  refine Runs.ret (B4 (fY (g:=aa) (l:=u) (λr=>(iT things r:Int)) (aE (dG h j).2.1 (aS u .sh)) λr _=>?_) y) rfl
  have H1:=H.mk "choice" (.d (aa r))
  exact dN (cK (λx=>decide (x∈things)) (aE (H1.ev rfl) (ba r .sh)) λx _=>by
   have H2:=H1.mk "thing" (.d (.int x))
   exact kI (H2.ev (x:="thing") rfl) (H2.ev (x:="things") rfl))
 ·refine ae (cq ["self", "things"] [V.rule c (ad u) k,V.d (aa things)] rfl) λm p H=>?_
  have j:=H.ev (C:=aw (mkC L (n+2))) (x:="self") rfl
  have e1:=uK lib.need (af (dG h j).1 (af (H.ev (x:="things") rfl) ax)) rfl (z t)
  unfold au
  rw[show bB p_rank.params [V.rule c (ad u) k,V.d (aa things)]=some m from p]
  dsimp only
  unfold p_rank
  simp only[cO,bg,eZ,im,e1,Out.bad_bind]
structure LibT (L:List (String×Fn)):Prop extends LibR L where
 rank:L.lookup "rank" = some p_rank
 tog:L.lookup "together" = some p_together
theorem re (lib:LibT L) (n:Nat) (hC:C "rank" = mkC L (n+3) "rank") (ha:ev C a σ = .ok (.rule c (ad u) k,m)) (hb:ev C b σ = .ok (.d (aa things),m')) :
  ev C (.meth a "rank" (.cons b .nil)) σ=au (aw (mkC L (n+2))) p_rank [.rule c (ad u) k,.d (aa things)]:=by
 have h:C "rank" = some λg=>bL "rank" (mkC L (n+2)) p_rank g:=by rw[hC]; show (L.lookup "rank").map _=_; rw[lib.rank]; rfl
 simp only[cN,ha,Out.ok_bind,et,am,h,aV,aU,hb,map_cons,List.map_nil]
 rfl
theorem nZ (lib:LibT L) (n:Nat) (c k:Int) (u:List (List Int)) (things:List Int) (hu:u≠[]) (hl:things.length<=1000) :
  (Good c things->∃ i,eC (u.map λr=>(iT things r:Int))=some i/\au (aw (mkC L (n+3))) p_together [.rule c (ad u) k,.d (aa things)] = .ok (sB (decide (i=things.length)))) /\
  (¬ Good c things->au (aw (mkC L (n+3))) p_together [.rule c (ad u) k,.d (aa things)] = .bad):=by
 refine ab (vU lib.toLibR n c k u things hu hl) λp o=>?_
 have m:aw (mkC L (n+3)) "rank" = mkC L (n+3) "rank" := by unfold aw; rw[if_neg (by decide)]
 refine ⟨λl=>?_,λl=>?_⟩
 ·refine ae (p l) λi q h=>?_
  refine (ag i q ?_)
  unfold p_together
  refine cg rfl λg H=>?_
  refine Runs.ret (dC ((re lib n m (H.ev (x:="self") rfl) (H.ev (x:="things") rfl)).trans h) (dN (H.ev (x:="things") rfl))) rfl
 ·refine ae (cq ["self", "things"] [V.rule c (ad u) k,V.d (aa things)] rfl) λg j H=>?_
  have t:=(re lib n m (H.ev (x:="self") rfl) (H.ev (x:="things") rfl)).trans (o l)
  unfold au
  rw[show bB p_together.params [V.rule c (ad u) k,V.d (aa things)]=some g from j]
  dsimp only
  unfold p_together
  simp only[cO,bg,im]
  rw[show ev (aw (mkC L (n+3))) (.cmp .eq (.meth (.name "self") "rank" (.cons (.name "things") .nil)) (.bi1 .len (.name "things"))) g = .bad from by rw[db,t]; rfl]
  rfl
noncomputable def l_bit:Fn:=⟨["_law_cell", "_law_k"],
(.cons (.for1 "_law_j" (.r1 (.name "_law_k"))
(.cons (.assign "_law_cell" (.bin .fdiv (.name "_law_cell") (.int 2)))
.nil))
(.cons (.ret (.cmp .eq (.bin .mod (.name "_law_cell") (.int 2)) (.int 1)))
.nil))⟩
noncomputable def l_held:Fn:=⟨["_law_script"],
(.cons (.assign "_law_made" (.call "_law_table" (.cons (.name "_law_script") .nil)))
(.cons (.ite (.or (.cmp .eq (.sub (.name "_law_made") (.int 1)) (.list .nil)) (.cmp .isnot (.call "_law_fault" (.cons (.sub (.name "_law_made") (.int 0)) (.cons (.sub (.name "_law_made") (.int 1)) .nil))) .none))
(.cons (.ret (.tup (.cons (.sub (.name "_law_made") (.int 0)) (.cons (.list (.cons (.compif (.name "_law_thing") "_law_thing" (.r1 (.sub (.name "_law_made") (.int 0))) (.call "_law_bit" (.cons (.call "_law_cell_at" (.cons (.name "_law_script") (.cons (.int 2) .nil))) (.cons (.name "_law_thing") .nil)))) .nil)) .nil))))
.nil)
.nil)
(.cons (.retn "_law_made")
.nil)))⟩
structure LibH (L:List (String×Fn)):Prop extends Lib L where
 bit:L.lookup "_law_bit" = some l_bit
 held:L.lookup "_law_held" = some l_held
structure Hd (c:Nat) (t:List (List Int)):Prop where
 hc:c<=100
 ne:t≠[]
 len:t.length<=63
 rows:∀ r∈t,r.length<=100/\Srt c r
 few:1<t.length->∀ r∈t,r.length<=60
 nf:NoF c t
theorem wI (C:Calls) (x:Int) (k:Nat) (hk:k<=1000):∃ r,au C l_bit [.d (.int x),.d (.int k)] = .ok r/\∃ b,r=sB b:=by
 unfold l_bit
 refine c7 rfl λi H=>?_
 refine Runs.for (g:=PyData.int) (xs:=aP k) (λm i=>∃ y:Int,Has i [("_law_cell", .d (.int y))]) (ck (H.ev rfl) (xJ hk)) (λo h _=>⟨x,(h _ H).sub ⟨rfl,trivial⟩⟩) ?_ ?_
 ·intro m y n p i l
  refine ah (l) λz H=>?_
  clear l
  have H1:=H.mk "_law_j" (.d (.int y))
  exact Runs.set H1 (gU (H1.ev rfl) (aj 2) (by decide) (by decide)) λi H _=>Runs.nil ⟨_,H.sub ⟨rfl,trivial⟩⟩
 ·intro i j
  refine ah (j) λz H=>?_
  clear j
  exact Runs.ret (dC (bh (H.ev rfl) (aj 2) (by decide)) (aj 1)) (ag _ rfl (b0 _ rfl))
theorem F7 (ha:ev C a σ = .ok (.d (ad t),m)) (hb:ev C b σ = .ok (.d (ad u),m')):ev C (.cmp .eq a b) σ = .ok (sB (decide (t=u))):=bq ha hb (Av t u)
theorem BL (ha:ev C a σ = .ok (.d (aa r),m)):∃ m,ev C (.list (.cons a .nil)) σ = .ok (.d (ad [r]),m):=by
 refine ⟨if allDeep [(.d (aa r),m)] then .deep else .top,?_⟩
 simp only[bp,aV,aU,ha,Out.ok_bind]
 rfl
theorem uP (lib:LibH L) (n:Nat) (s:List Int) (hs:s.length<=63):∃ r,au (mkC L (n+4)) l_held [.d (aa s)] = .ok r/\∃ (c:Nat) (t:List (List Int)),r.1 = .d (.tuple [.int c,ad t])/\Hd c t:=by
 unfold l_held
 refine c7 rfl λσ H=>?_
 obtain ⟨u,v,c,t,g,h0,h,h2,k⟩:=dF (σ:=σ) (n:=n+3) lib.table (es:=.cons (.name "_law_script") .nil) (af (H.ev rfl) ax) rfl (r8 lib.toLib n s hs)
 obtain ⟨rv,rm⟩:=u
 cases g
 obtain ⟨c,rfl⟩:∃ d:Nat,c=d:=⟨c.toNat,by exact Gk h0⟩
 refine Runs.set H v λσ H hσ=>?_
 have j:∀ {σ:St}{l:List (String×V)},Has σ l->l.lookup "_law_made" = some (.d (.tuple [.int c,ad t]))->ev (mkC L (n+4)) (.sub (.name "_law_made") (.int 0)) σ = .ok (sI c)/\ev (mkC L (n+4)) (.sub (.name "_law_made") (.int 1)) σ = .ok (.d (ad t),.sh):=λH a=>⟨th (m:=.sh) (H.ev a) (aj 0),r5 (m:=.sh) (H.ev a) (aj 1)⟩
 refine ab (j H rfl) λy d2=>?_
 have o:=bN (σ:=σ) lib.lfault (af y (af d2 ax)) rfl (qI lib.toLib (n+2) c t (FY h) λr g=>by have:=(k r g).1; exact G1 this)
 have en:ev (mkC L (n+4)) (.cmp .isnot (.call "_law_fault" (.cons (.sub (.name "_law_made") (.int 0)) (.cons (.sub (.name "_law_made") (.int 1)) .nil))) .none) σ = .ok (sB (!decide (fC c t=none))):=by
  cases hf:fC c t with
  | none=>
   rw[hf] at o
   exact bq o je rfl
  | some q=>
   rw[hf] at o
   exact bq (mx:=.sh) o je rfl
 refine Runs.ite (gi (F7 d2 mj) λuu=>en) (λuu=>?_) λq=>Runs.nil ?_
 ·obtain ⟨p,hp⟩:=j9 (l:=aP c) (Q:=λi b=>ev (mkC L (n+4)) (.call "_law_bit" (.cons (.call "_law_cell_at" (.cons (.name "_law_script") (.cons (.int 2) .nil))) (.cons (.name "_law_thing") .nil))) (upd σ "_law_thing" (sI i)) = .ok (sB b)) λi hi=>by
   have H2:Has (upd σ "_law_thing" (sI i)) _:=H.upd "_law_thing" (.d (.int i)) .deep
   obtain ⟨i,rfl⟩:∃ d:Nat,i=d:=⟨i.toNat,by have:=mem_upTo.mp hi; exact C5 this⟩
   obtain ⟨_,v,b,rfl⟩:=dF (n:=n+3) lib.bit (es:=.cons (.call "_law_cell_at" (.cons (.name "_law_script") (.cons (.int 2) .nil))) (.cons (.name "_law_thing") .nil)) (af (b9 lib.toLib (H2.ev rfl) (aj 2) (by decide)) (af (H2.ev rfl) ax)) rfl (wI _ _ i (by have:=mem_upTo.mp hi; exact IS h this))
   exact ⟨b,v⟩
  refine ah (BL (cK (z:="_law_thing") p (ck y (Gu h)) hp)) λm1 e3=>?_
  refine cM y e3 λm2 e4=>?_
  have hl:((aP c).filter p).length<=100:=by
   have:=length_filter_le p (aP c)
   rw[bF] at this; exact Ds h this
  refine Runs.ret e4 ⟨_,rfl,c,_,rfl,by exact yT h,by simp,by simp,λr g=>?_,λq=>by simp at q,.one c _⟩
  rw[mem_singleton.mp g]
  exact ⟨hl,(ku c).filter _,λx hx=>mem_upTo.mp (mem_filter.mp hx).1⟩
 ·refine ah (H "_law_made" _ rfl) λm e=>?_
  refine ab (or_eq_false_iff.mp q) λq1 q2=>?_
  refine Runs.retn e ⟨_,rfl,c,t,rfl,by exact yT h,of_decide_eq_false q1,h2,λr g=>⟨by have:=(k r g).1; exact Ia this,(k r g).2⟩,λuu r g=>by have:=(k r g).1; exact FH this,fault_none.mp ?_⟩
  simpa using q2
theorem Ai (lib:LibR L) (he:evs (mkC L (n+1)) es σ = .ok q) (hv:q.map (·.1)=vs) (h:dv (aw (mkC L n)) p_Rule vs = .ok r):ev (mkC L (n+1)) (.call "Rule" es) σ = .ok r:=by
 have g:mkC L (n+1) "Rule" = some λvs=>bL "Rule" (mkC L n) p_Rule vs:=by show (L.lookup "Rule").map _=_; rw[lib.rule]; rfl
 rw[jP g he,hv]
 exact h
theorem kO {a:List Int}(h:a.Pairwise (· < ·)):a.Nodup:=List.Pairwise.imp (R:=(· < ·)) (S:=(·≠·)) (λh=>Int.ne_of_lt h) h
structure LibM (L:List (String×Fn)):Prop extends LibR L where
theorem pE (lib:LibR L) (n:Nat):∃ g,mkC L (n+1) "Rule" = some g:=⟨_,by show (L.lookup "Rule").map _=_; rw[lib.rule]; rfl⟩
noncomputable def p_need_full:Fn:=⟨["self", "choice"],
(.cons (.expr (.call "need_row" (.cons (.attr (.name "self") "count") (.cons (.name "choice") .nil))))
(.cons (.ite (.cmp .notin (.bi1 .sorted (.name "choice")) (.attr (.name "self") "full"))
(.cons .bad
.nil)
.nil)
(.cons (.ret (.bi1 .sorted (.name "choice")))
.nil)))⟩
noncomputable def p_outs:Fn:=⟨["self", "choice", "thing"],
(.cons (.assign "held" (.meth (.name "self") "need_full" (.cons (.name "choice") .nil)))
(.cons (.ite (.or (.cmp .lt (.name "thing") (.int 0)) (.or (.cmp .ge (.name "thing") (.attr (.name "self") "count")) (.cmp .isin (.name "thing") (.name "held"))))
(.cons .bad
.nil)
.nil)
(.cons (.ret (.compif (.name "out") "out" (.e (.name "held")) (.cmp .isin (.call "exchanged" (.cons (.name "held") (.cons (.name "out") (.cons (.name "thing") .nil)))) (.attr (.name "self") "full"))))
.nil)))⟩
noncomputable def p_exchanges:Fn:=⟨["self", "choice"],
(.cons (.assign "held" (.meth (.name "self") "need_full" (.cons (.name "choice") .nil)))
(.cons (.ret (.compif (.tup (.cons (.name "thing") (.cons (.meth (.name "self") "outs" (.cons (.name "held") (.cons (.name "thing") .nil))) .nil))) "thing" (.r1 (.attr (.name "self") "count")) (.cmp .notin (.name "thing") (.name "held"))))
.nil))⟩
structure LibE (L:List (String×Fn)):Prop extends LibR L where
 nch:(L.lookup "NoChoice").isSome=true
 nf:L.lookup "need_full" = some p_need_full
 outs:L.lookup "outs" = some p_outs
 exs:L.lookup "exchanges" = some p_exchanges
theorem k7 (xs:List Int) (t:List (List Int)):b6 .notin (.d (aa xs)) (.d (ad t)) = .ok (!decide (xs∈t)):=by
 show ((inV (aa xs) (.d (ad t))).bind λb=>Out.ok (!b))=_
 rw[oU]; rfl
theorem mE (hC:C f=mkC L (n+1) f) (hL:L.lookup f=some fn) (hk:∀ vs,bL f (mkC L n) fn vs=au (aw (mkC L n)) fn vs) {σ:St}{a:E}{es:Es}{q:List (V×Mode)}{vs:List V}{m:Mode}{c k:Int}{d:PyData}(ha:ev C a σ = .ok (.rule c d k,m)) (he:evs C es σ = .ok q) (hv:q.map (·.1)=vs) :
  ev C (.meth a f es) σ=au (aw (mkC L n)) fn (.rule c d k::vs):=by
 have g:C f=some λvs=>bL f (mkC L n) fn vs:=by rw[hC]; show (L.lookup f).map _=_; rw[hL]; rfl
 simp only[cN,ha,Out.ok_bind,et,am,g,he,hv]
 exact hk _
theorem gC (h:f ≠ "law"):aw C f=C f:=by unfold aw; rw[if_neg h]
theorem kZ (h:(L.lookup f).isSome=true) (n:Nat):∃ g,mkC L (n+1) f=some g:=by
 refine bK h λj i=>?_
 exact ⟨_,by show (L.lookup f).map _=_; rw[i]; rfl⟩
theorem mv {ps:List String}(hl:ps.length=vs.length) (h:∀ σ,Has σ (ps.zip vs)->ex C s σ = .bad):au C ⟨ps,.cons s b⟩ vs = .bad:=by
 refine ae (cq ps vs hl) λσ g H=>?_
 unfold au
 rw[show bB (Fn.mk ps (.cons s b)).params vs=some σ from g]
 dsimp only
 rw[bg,h σ H]
 rfl
theorem Good.nn (h:Good c xs):∀ i∈xs,0<=i:=λi g=>(h.1 i g).1
theorem mW (lib:LibE L) (n:Nat) (c k:Int) (u:List (List Int)) (xs:List Int) (hl:xs.length<128):(¬ Good c xs->au (aw (mkC L (n+2))) p_need_full [.rule c (ad u) k,.d (aa xs)] = .bad)/\(Good c xs->aH xs∉u->au (aw (mkC L (n+2))) p_need_full [.rule c (ad u) k,.d (aa xs)] = .bad) /\
  (Good c xs->aH xs∈u->au (aw (mkC L (n+2))) p_need_full [.rule c (ad u) k,.d (aa xs)] = .ok (.d (aa (aH xs)),.deep)):=by
 obtain ⟨gR,j⟩:∃ g,aw (mkC L (n+2)) "Rule" = some g:=by rw[gC (by decide)]; exact pE lib.toLibR (n+1)
 obtain ⟨gN,hN⟩:∃ g,aw (mkC L (n+2)) "NoChoice" = some g:=by rw[gC (by decide)]; exact kZ lib.nch (n+1)
 refine ah (lib.nth) λfT hT=>?_
 have p:mkC L (n+1) "NoThing" = some λv=>bL "NoThing" (mkC L n) fT v:=by show (L.lookup "NoThing").map _=_; rw[hT]; rfl
 refine ab (fJ p c xs (FK hl)) λq y=>?_
 have r:∀ {h:St}{l:List (String×V)},Has h l->l.lookup "self" = some (.rule c (ad u) k)->l.lookup "choice" = some (.d (aa xs))->Good c xs->ev (aw (mkC L (n+2))) (.cmp .notin (.bi1 .sorted (.name "choice")) (.attr (.name "self") "full")) h = .ok (sB (!decide (aH xs∈u))):=λH a b i=>
  bq (fz (H.ev b) hl i.nn) (dG j (H.ev a)).2.1 (k7 _ _)
 unfold p_need_full
 refine ⟨λi=>mv rfl λh H=>?_,λi o=>?_,λi o=>cg rfl λh H=>?_⟩
 ·rw[eZ,uK lib.need (af (dG j (H.ev (x:="self") rfl)).1 (af (H.ev (x:="choice") rfl) ax)) rfl (y i)]; rfl
 ·refine ae (cq ["self", "choice"] [.rule c (ad u) k,.d (aa xs)] rfl) λh m H=>?_
  have e1:=gu lib.need (af (dG j (H.ev (x:="self") rfl)).1 (af (H.ev (x:="choice") rfl) ax)) rfl (q i)
  have t:=r H rfl rfl i
  rw[decide_eq_false o] at t
  have z:∀ ns,consume h ns .deep=h:=λ_=>if_pos rfl
  unfold au
  rw[show bB (Fn.mk ["self", "choice"] _).params [.rule c (ad u) k,.d (aa xs)]=some h from m]
  dsimp only
  rw[bg,eZ,e1]
  simp only[Out.ok_bind,z,bg,eL]
  rw[show ev (aw (mkC L (n+2))) (.cmp .notin (.bi1 .sorted (.name "choice")) (.attr (.name "self") "full")) h = .ok (sB true) from t]
  simp only[Out.ok_bind,cO,jM]
  rfl
 ·refine Runs.expr H (gu lib.need (af (dG j (H.ev (x:="self") rfl)).1 (af (H.ev (x:="choice") rfl) ax)) rfl (q i)) λh H _=>?_
  refine Runs.no ((r H rfl rfl i).trans (by simp[o])) ?_
  exact Runs.ret (fz (H.ev rfl) hl i.nn) rfl
theorem ew (C:Calls) (r:List Int) (o x:Int) (h:r.length<127) (h0:∀ i∈r,0<=i) (hx:0<=x):au C p_exchanged [.d (aa r),.d (.int o),.d (.int x)] = .ok (.d (aa (exchF r o x)),.deep):=by
 have g:(r.filter λx=>!decide (x=o)).length<=r.length:=length_filter_le ..
 unfold p_exchanged
 refine cg rfl λk H=>Runs.ret (fz (eK (cK (λi=>!decide (i=o)) (aE (H.ev (x:="choice") rfl) (ba r .sh)) λi _=>?_) (fm (H.ev (x:="thing") rfl)) (by rw[length_singleton]; exact Jy h g)) (by rw[length_append,length_singleton]; exact EZ h g) λi j=>?_) rfl
 ·have H2:=H.upd "one" (.d (.int i)) .deep
  exact kJ (H2.ev (x:="one") rfl) (H2.ev (x:="out") rfl)
 ·rcases mem_append.mp j with q | q
  ·exact h0 i (mem_filter.mp q).1
  ·rw[mem_singleton.mp q]; exact hx
noncomputable def yf (u:List (List Int)) (r:List Int) (x:Int):List Int:=r.filter λo=>decide (exchF r o x∈u)
theorem s5 (h:Good c xs):Good c (aH xs):=⟨λx g=>h.1 x ((mergeSort_perm xs _).mem_iff.mp g),(mergeSort_perm xs _).nodup_iff.mpr h.2⟩
theorem vl (xs:List Int):(aH xs).length=xs.length:=(mergeSort_perm xs _).length_eq
theorem vd (lib:LibE L) (n:Nat) (c k:Int) (u:List (List Int)) (xs:List Int) (x:Int) (hl:xs.length<127) :
  (¬ Good c xs->au (aw (mkC L (n+3))) p_outs [.rule c (ad u) k,.d (aa xs),.d (.int x)] = .bad)/\(Good c xs->aH xs∉u->au (aw (mkC L (n+3))) p_outs [.rule c (ad u) k,.d (aa xs),.d (.int x)] = .bad) /\
  (Good c xs->aH xs∈u->(x<0\/c<=x\/x∈xs)->au (aw (mkC L (n+3))) p_outs [.rule c (ad u) k,.d (aa xs),.d (.int x)] = .bad) /\
  (Good c xs->aH xs∈u->0<=x->x<c->x∉xs->au (aw (mkC L (n+3))) p_outs [.rule c (ad u) k,.d (aa xs),.d (.int x)] = .ok (.d (aa (yf u (aH xs) x)),.deep)):=by
 obtain ⟨gR,t⟩:∃ g,aw (mkC L (n+3)) "Rule" = some g:=by rw[gC (by decide)]; exact pE lib.toLibR (n+2)
 refine ah (lib.nth) λfT hT=>?_
 obtain ⟨gT,hT'⟩:∃ g,aw (mkC L (n+3)) "NoThing" = some g:=by rw[gC (by decide)]; exact kZ (by rw[hT]; rfl) (n+2)
 refine aI (mW lib n c k u xs (Ih hl)) λf1 f2 y=>?_
 have q:∀ {h:St}{l:List (String×V)},Has h l->l.lookup "self" = some (.rule c (ad u) k)->l.lookup "choice" = some (.d (aa xs))->ev (aw (mkC L (n+3))) (.meth (.name "self") "need_full" (.cons (.name "choice") .nil)) h=au (aw (mkC L (n+2))) p_need_full [.rule c (ad u) k,.d (aa xs)]:=λH a b=>
  mE (gC (by decide)) lib.nf (λ_=>rfl) (H.ev a) (af (H.ev b) ax) rfl
 have z:∀ {h:St}{l:List (String×V)},Has h l->l.lookup "self" = some (.rule c (ad u) k)->l.lookup "thing" = some (.d (.int x))->l.lookup "held" = some (.d (aa (aH xs)))->ev (aw (mkC L (n+3))) (.or (.cmp .lt (.name "thing") (.int 0)) (.or (.cmp .ge (.name "thing") (.attr (.name "self") "count")) (.cmp .isin (.name "thing") (.name "held")))) h = .ok (sB (decide (x<0)||(decide (c<=x)||decide (x∈aH xs)))):=λH a b d=>
  gi (me (H.ev b) (aj 0)) λ_=>gi (B8 (H.ev b) (dG t (H.ev a)).1) λ_=>kI (H.ev b) (H.ev d)
 have i:x∈aH xs↔x∈xs:=(mergeSort_perm xs _).mem_iff
 unfold p_outs
 refine (cE (λj=>mv rfl λh H=>?_) (λj p=>mv rfl λh H=>?_) (λj p hb=>?_) (λj p v h1 h2=>cg rfl λh H=>?_))
 ·rw[ce]; unfold evA; rw[if_neg (by decide),q H rfl rfl,f1 j]; rfl
 ·rw[ce]; unfold evA; rw[if_neg (by decide),q H rfl rfl,f2 j p]; rfl
 ·refine ae (cq ["self", "choice", "thing"] [.rule c (ad u) k,.d (aa xs),.d (.int x)] rfl) λh r H=>?_
  have e1:=(q H rfl rfl).trans (y j p)
  have H2:=H.upd "held" (.d (aa (aH xs))) .deep
  have e2:=z H2 rfl rfl rfl
  have m:(decide (x<0)||(decide (c<=x)||decide (x∈aH xs)))=true:=by
   simp only[i,or_eq_true,decide_eq_true_eq]; exact hb
  rw[m] at e2
  have hc:∀ ns,consume h ns .deep=h:=λ_=>if_pos rfl
  unfold au
  rw[show bB (Fn.mk ["self", "choice", "thing"] _).params [.rule c (ad u) k,.d (aa xs),.d (.int x)]=some h from r]
  dsimp only
  rw[bg,ce,lh e1]
  simp only[Out.ok_bind,hc,bg,eL]
  rw[e2]
  simp only[Out.ok_bind,cO,jM]
  rfl
 ·refine Runs.set H ((q H rfl rfl).trans (y j p)) λh H _=>?_
  have m:(decide (x<0)||(decide (c<=x)||decide (x∈aH xs)))=false:=by
   simp only[i,or_eq_false_iff,decide_eq_false_iff_not]; exact ⟨by exact yN v,by exact I0 h1,h2⟩
  refine Runs.no ((z H rfl rfl rfl).trans (by rw[m])) ?_
  refine Runs.ret (cK (λo=>decide (exchF (aH xs) o x∈u)) (aE (H.ev (x:="held") rfl) (ba _ .sh)) λo ho=>?_) rfl
  have H3:=H.upd "out" (.d (.int o)) .deep
  exact y6 (gu lib.exch (af (H3.ev (x:="held") rfl) (af (H3.ev (x:="out") rfl) (af (H3.ev (x:="thing") rfl) ax))) rfl (ew _ (aH xs) o x (by rw[vl]; exact hl) (s5 j).nn v)) (dG t (H3.ev (x:="self") rfl)).2.1
section
end
theorem mT:∀ {b:List Int},(∀ y∈b,p y=true->q y=true)->x∈b->q x=true->p x=false->(b.filter p).length<(b.filter q).length
 | y::b,h,hx,hq,hp=>by
  have j:(b.filter p).length<=(b.filter q).length:=by
   have:∀ l:List Int,(∀ y∈l,p y=true->q y=true)->(l.filter p).length<=(l.filter q).length:=λl=>by
    induction l with
    | nil=>exact λ_=>le_refl _
    | cons z l ih=>
     intro i
     have:=ih λy g=>i y (.tail _ g)
     rw[filter_cons,filter_cons]
     cases e:p z with
     | true=>rw[i z (.head _) e]; simp only[if_true,length_cons]; exact jX this
     | false=>cases q z<;>simp only[false_eq_true,if_true,if_false,length_cons]<;>lia
   exact this b λy g=>h y (.tail _ g)
  rw[filter_cons,filter_cons]
  rcases mem_cons.mp hx with rfl | hx
  ·rw[hp,hq]; simp only[false_eq_true,if_true,if_false,length_cons]; exact yK j
  ·have:=mT (b:=b) (λy g=>h y (.tail _ g)) hx hq hp
   cases e:p y with
   | true=>rw[h y (.head _) e]; simp only[if_true,length_cons]; exact Hq this
   | false=>cases q y<;>simp only[false_eq_true,if_true,if_false,length_cons]<;>lia
theorem xC {a:List Int}{o:Int}(hn:a.Nodup) (ho:o∈a):(a.filter λy=>!decide (y=o)).length+1=a.length:=by
 have e:(a.filter λy=>!decide (y=o))=a.erase o:=by rw[hn.erase_eq_filter]; congr 1
 rw[e,List.length_erase_of_mem ho]
 have:=List.length_pos_of_mem ho
 exact HF this
theorem NoF.le (nf:NoF c t) (hr:∀ r∈t,Srt c r) {b:List Int}(hb:b∈t):∀ (n:Nat) (a:List Int),a∈t->(b.filter λx=>!decide (x∈a)).length<=n->b.length<=a.length
 | n,a,ha,h=>by
  by_cases e:∀ x∈b,x∈a
  ·exact ig (hr b hb).good.2 e
  ·refine ah (Classical.not_forall.mp e) λx z=>?_
   refine ab (Classical.not_imp.mp z) λg i=>?_
   have u:=nf a ha x (mem_upTo.mpr ((hr b hb).2 x g)) i b hb g
   unfold cS at u
   refine ae (any_eq_true.mp u) λo ho h2=>?_
   refine eY h2 λh3 h4=>?_
   have h5:exchF a o x∈t:=of_decide_eq_true h4
   have k:o∉b:=by simpa using h3
   have m:∀ y,y∈exchF a o x↔(y∈a/\y≠o)\/y=x:=λy=>by
    unfold exchF
    rw[(dq _).mem_iff,mem_append,mem_singleton,mem_filter]
    simp
   have hl:(exchF a o x).length=a.length:=by
    unfold exchF
    rw[(dq _).length_eq,length_append,length_singleton]
    exact xC (hr a ha).good.2 ho
   have l:=mT (p:=λy=>!decide (y∈exchF a o x)) (q:=λy=>!decide (y∈a)) (x:=x) (b:=b) (λy v q=>by
    simp only[Bool.not_eq_true',decide_eq_false_iff_not] at q ⊢
    exact λj=>q ((m y).mpr (.inl ⟨j,λe=>k (e▸v)⟩))) g (by simpa using i) (by simp[m])
   cases n with
   | zero=>exact DB l h
   | succ n=>
    rw[<- hl]
    exact NoF.le nf hr hb n _ h5 (Jd l h)
theorem NoF.len (nf:NoF c t) (hr:∀ r∈t,Srt c r) {a b:List Int}(ha:a∈t) (hb:b∈t):a.length=b.length:=le_antisymm (nf.le hr ha _ b hb (le_refl _)) (nf.le hr hb _ a ha (le_refl _))
noncomputable def p_order:Fn:=⟨["weights"],
(.cons (.ret (.order "weights" "thing"))
.nil)⟩
noncomputable def p_picked:Fn:=⟨["rule", "weights"],
(.cons (.ite (.cmp .ne (.bi1 .len (.name "weights")) (.attr (.name "rule") "count"))
(.cons .bad
.nil)
.nil)
(.cons (.assign "kept" (.list .nil))
(.cons (.for1 "thing" (.e (.call "order" (.cons (.name "weights") .nil)))
(.cons (.ite (.meth (.name "rule") "together" (.cons (.bin .add (.name "kept") (.list (.cons (.name "thing") .nil))) .nil))
(.cons (.append "kept" (.name "thing"))
.nil)
.nil)
.nil))
(.cons (.ret (.bi1 .sorted (.name "kept")))
.nil))))⟩
noncomputable def iP:Fn:=⟨["_law_cell", "_law_mode"],
(.cons (.ite (.cmp .eq (.name "_law_mode") (.int 0))
(.cons (.ret (.bin .sub (.bin .mod (.name "_law_cell") (.int 5)) (.int 2)))
.nil)
.nil)
(.cons (.ite (.cmp .eq (.name "_law_mode") (.int 1))
(.cons (.ret (.bin .sub (.bin .mod (.name "_law_cell") (.int 2001)) (.int 1000)))
.nil)
.nil)
(.cons (.assign "_law_far" (.bin .mod (.name "_law_cell") (.bin .pow (.int 10) (.int 60))))
(.cons (.ite (.and (.cmp .eq (.name "_law_mode") (.int 2)) (.cmp .eq (.bin .mod (.bin .fdiv (.name "_law_cell") (.int 10)) (.int 2)) (.int 0)))
(.cons (.retn "_law_far")
.nil)
.nil)
(.cons (.ret (.neg (.name "_law_far")))
.nil)))))⟩
theorem AN (h:ltL [a,b] [c,d]=false):c<=a/\(a=c->d<=b):=by
 unfold ltL ltL ltL at h
 by_cases e:a=c
 ·rw[if_pos e] at h
  refine ⟨by exact y5 e,λ_=>?_⟩
  by_cases e2:b=d
  ·exact y5 e2
  ·rw[if_neg e2] at h; simp at h; exact zm h
 ·rw[if_neg e] at h
  simp at h
  exact ⟨by exact zm h,λq=>absurd q e⟩
noncomputable def wR (ns:List Int):List (List Int×Nat):=((List.range ns.length).map λi=>(dA ns i,i)).mergeSort λa b=>!ltL b.1 a.1
theorem jc (ns:List Int):(wR ns).Perm ((List.range ns.length).map λi=>(dA ns i,i)):=mergeSort_perm _ _
theorem A2 (ns:List Int):(wR ns).Pairwise λa b=>ltL b.1 a.1=false:=by
 refine (List.pairwise_mergeSort (le:=λ(a b:List Int×Nat)=>!ltL b.1 a.1) (λa b c i g=>?_) (λa b=>?_) _).imp λh=>by simpa using h
 ·simp only[Bool.not_eq_true'] at i g ⊢
  cases q:ltL c.1 a.1 with
  | false=>rfl
  | true=>
   cases r:ltL a.1 b.1 with
   | true=>rw[cJ q r] at g; cases g
   | false=>rw[<- e8 r i,q] at g; cases g
 ·cases q:ltL b.1 a.1 with
  | false=>simp
  | true=>
   cases r:ltL a.1 b.1 with
   | true=>have:=cJ q r; rw[iq] at this; cases this
   | false=>simp
theorem rn (ns:List Int):aR ns=(wR ns).map λp=>(p.2:Int):=rfl
theorem cL (ns:List Int):(aR ns).Perm (aP ns.length):=by
 rw[rn]
 refine ((jc ns).map _).trans (List.Perm.of_eq ?_)
 rw[map_map]; rfl
theorem iC (h:i∈aR ns):0<=i/\i<ns.length:=mem_upTo.mp ((cL ns).mem_iff.mp h)
theorem c9 (ns:List Int):(aR ns).Nodup:=by
 refine (cL ns).symm.nodup ?_
 unfold aP
 exact pairwise_map.mpr (List.nodup_range.imp λh q=>h (FR q))
theorem hU (ns:List Int):(aR ns).length=ns.length:=by rw[(cL ns).length_eq,bF]
noncomputable def wt (ns:List Int) (a:Int):Int:=ns.getD a.toNat 0
def Bef (ns:List Int) (a b:Int):Prop:=wt ns b<=wt ns a/\(wt ns a=wt ns b->a<=b)
theorem A1 (ns:List Int):(aR ns).Pairwise (Bef ns):=by
 rw[rn,pairwise_map]
 refine List.Pairwise.imp_of_mem (λ{a b} m l h=>?_) (A2 ns)
 refine ae (mem_map.mp ((jc ns).mem_iff.mp m)) λi _ k=>?_
 subst k
 refine ae (mem_map.mp ((jc ns).mem_iff.mp l)) λj _ g=>?_
 subst g
 have:=AN (show ltL [-(ns.getD j 0),(j:Int)] [-(ns.getD i 0),(i:Int)]=false from h)
 show ns.getD j 0<=ns.getD i 0/\(ns.getD i 0=ns.getD j 0->(i:Int)<=j)
 exact ⟨by exact Fa this,λq=>this.2 (Il q)⟩
structure LibO (L:List (String×Fn)):Prop extends LibT L where
 order:L.lookup "order" = some p_order
 picked:L.lookup "picked" = some p_picked
 law:(L.lookup "law").isSome=true
 now:(L.lookup "NoWeights").isSome=true
theorem ls (hl:(L.lookup "law").isSome=true) (n:Nat) (ws:List Int) (h:ws.length<128):au (mkC L (n+1)) p_order [.d (aa ws)] = .ok (.d (aa (aR ws)),.deep):=by
 unfold p_order
 refine cg rfl λi H=>Runs.ret ?_ rfl
 refine ah (H "weights" (.d (aa ws)) rfl) λm k=>?_
 refine ah (Option.isSome_iff_exists.mp hl) λl g=>?_
 rw[d8]
 have:mkC L (n+1) "law" = some λj=>bL "law" (mkC L n) l j:=by show (L.lookup "law").map _=_; rw[g]; rfl
 rw[this]
 show eX (i "weights")=_
 rw[k]
 show am (aF (ws.map PyData.int)) _=_
 rw[cP]
 show (if ws.length<128 then _ else _)=_
 rw[if_pos h]; rfl
theorem yB (h:ev C a σ = .ok (sI x)):ev C (.neg a) σ = .ok (sI (-x)):=by simp only[fk,h,Out.ok_bind]; rfl
noncomputable def jJ (c m:Int):Int:=if m=0 then c%5-2 else if m=1 then c%2001-1000 else if m=2/\c/10%2=0 then c%10^60 else -(c%10^60)
theorem qE (C:Calls) (c m:Int):au C iP [.d (.int c),.d (.int m)] = .ok (sI (jJ c m)):=by
 unfold iP jJ
 refine cg rfl λh H=>?_
 refine Runs.ite (dC (H.ev (x:="_law_mode") rfl) (aj 0)) (λq=>?_) λq=>Runs.nil ?_
 ·rw[if_pos (of_decide_eq_true q)]
  exact Runs.ret (yX (bh (H.ev rfl) (aj 5) (by decide)) (aj 2)) (Cont.ret rfl)
 rw[if_neg (of_decide_eq_false q)]
 refine Runs.ite (dC (H.ev (x:="_law_mode") rfl) (aj 1)) (λq=>?_) λq=>Runs.nil ?_
 ·rw[if_pos (of_decide_eq_true q)]
  exact Runs.ret (yX (bh (H.ev rfl) (aj 2001) (by decide)) (aj 1000)) (Cont.ret rfl)
 rw[if_neg (of_decide_eq_false q)]
 refine Runs.set H (bh (H.ev rfl) (y:=10^60) ((dJ (aj 10) (aj 60)).trans rfl) (by decide)) λh H g=>?_
 refine Runs.ite (gW (dC (H.ev (x:="_law_mode") rfl) (aj 2)) λuu=>dC (bh (gU (H.ev rfl) (aj 10) (by decide) (by decide)) (aj 2) (by decide)) (aj 0)) (λq=>?_) λq=>Runs.nil ?_
 ·simp only[and_eq_true,decide_eq_true_eq] at q
  rw[if_pos q]
  exact Runs.retn g (Cont.ret rfl)
 ·have i:¬ (m=2/\c/10%2=0):=by simpa using q
  rw[if_neg i]
  exact Runs.ret (yB (H.ev rfl)) rfl
def kE (u:List (List Int)) (xs:List Int):Bool:=u.any λr=>xs.all λx=>decide (x∈r)
theorem togB_iff:kE u xs=true↔∃ r∈u,∀ x∈xs,x∈r:=by
 unfold kE
 simp only[any_eq_true,all_eq_true,decide_eq_true_eq]
noncomputable def cn (u:List (List Int)) (kept:List Int) (x:Int):List Int:=if kE u (kept++[x]) then kept++[x] else kept
noncomputable def aO (u:List (List Int)) (l:List Int):List Int:=l.foldl (cn u) []
noncomputable def av (u:List (List Int)) (ws:List Int):List Int:=aH (aO u (aR ws))
theorem lY (u:List (List Int)) (l:List Int) (x:Int):aO u (l++[x])=cn u (aO u l) x:=by unfold aO; rw[List.foldl_append]; rfl
theorem jf (u:List (List Int)):∀ (l acc:List Int),(l.foldl (cn u) acc).Sublist (acc++l)
 | [],acc=>by rw[append_nil]; exact List.Sublist.refl _
 | x::l,acc=>by
  refine (jf u l _).trans ?_
  show (cn u acc x++l).Sublist (acc++([x]++l))
  rw[<- append_assoc]
  refine List.Sublist.append ?_ (List.Sublist.refl _)
  unfold cn
  split
  ·exact List.Sublist.refl _
  ·exact List.sublist_append_left _ _
theorem d7 (u:List (List Int)) (l:List Int):(aO u l).Sublist l:=jf u l []
theorem Ap (h:eC xs=some i):∀ x∈xs,x<=i:=by
 cases xs with
 | nil=>cases h
 | cons a xs=>
  have m:∀ (l:List Int) (a:Int),a<=l.foldl (λa b=>if a<b then b else a) a/\∀ x∈l,x<=l.foldl (λa b=>if a<b then b else a) a:=by
   intro l
   induction l with
   | nil=>exact λa=>⟨Int.le_refl _,λuu q=>nomatch q⟩
   | cons y l ih=>
    intro a
    rw[foldl_cons]
    by_cases q:a<y
    ·rw[if_pos q]
     refine ab (ih y) λg k=>?_
     exact ⟨by exact Eh q g,λx j=>(mem_cons.mp j).elim (λe=>e▸g) (k x)⟩
    ·rw[if_neg q]
     refine ab (ih a) λg k=>?_
     exact ⟨g,λx j=>(mem_cons.mp j).elim (λe=>by rw[e]; exact GT q g) (k x)⟩
  refine ab (m xs a) λg k=>?_
  cases h
  exact λx j=>(mem_cons.mp j).elim (λe=>e▸g) (k x)
theorem AE (nd:∀ r∈u,r.Nodup) (hg:things.Nodup) (hi:eC (u.map λr=>(iT things r:Int))=some i) (hu:u≠[]):decide (i=things.length)=kE u things:=by
 refine ae (jG (xs:=u.map λr=>(iT things r:Int)) (by simpa using hu)) λj x m=>?_
 obtain rfl:i=j:=Option.some.inj (hi.symm.trans x)
 refine ae (mem_map.mp m) λk g h=>?_
 have l:=Ap hi
 rw[Bool.eq_iff_iff,togB_iff,decide_eq_true_eq]
 refine ⟨λq=>⟨k,g,(qe (nd k g) hg).mp (DL h q)⟩,λ⟨r,n,v⟩=>?_⟩
 have t:=(qe (nd r n) hg).mpr v
 have p:=l _ (mem_map.mpr ⟨r,n,rfl⟩)
 have o:=rF (things:=things) (nd k g)
 exact Gg h t p o
theorem BO (lib:LibT L) (n:Nat) (hC:C "together" = mkC L (n+4) "together") (ha:ev C a σ = .ok (.rule c (ad u) k,m)) (hb:ev C b σ = .ok (.d (aa things),m')) :
  ev C (.meth a "together" (.cons b .nil)) σ=au (aw (mkC L (n+3))) p_together [.rule c (ad u) k,.d (aa things)]:=by
 have h:C "together" = some λg=>bL "together" (mkC L (n+3)) p_together g:=by rw[hC]; show (L.lookup "together").map _=_; rw[lib.tog]; rfl
 simp only[cN,ha,Out.ok_bind,et,am,h,aV,aU,hb,map_cons,List.map_nil]
 rfl
theorem ke (lib:LibO L) (n:Nat) (c:Nat) (k:Int) (u:List (List Int)) (ws:List Int) (hu:u≠[]) (nd:∀ r∈u,r.Nodup) (hc:c<=100) (hw:ws.length=c) :
  au (mkC L (n+4)) p_picked [.rule c (ad u) k,.d (aa ws)] = .ok (.d (aa (av u ws)),.deep):=by
 obtain ⟨gR,hR⟩:=kZ (L:=L) (f:="Rule") (by rw[lib.rule]; rfl) (n+3)
 unfold p_picked
 refine cg rfl λo H=>?_
 refine Runs.no ((kJ (dN (H.ev (x:="weights") rfl)) (dG hR (H.ev (x:="rule") rfl)).1).trans (by simp[hw])) ?_
 refine Runs.set H yp λo H m=>?_
 have eo:ev (mkC L (n+4)) (.call "order" (.cons (.name "weights") .nil)) o = .ok (.d (aa (aR ws)),.deep):=bN lib.order (af (H.ev (x:="weights") rfl) ax) rfl (ls lib.law (n+2) ws (Fr hc hw))
 refine Runs.for (g:=PyData.int) (xs:=aR ws) (λj o=>Has o [("rule", .rule c (ad u) k),("kept", .d (aa (aO u j)))]/\o "kept" = some (.d (aa (aO u j)),.deep)) (aE eo (ba _ .deep)) (λσ0 h hh=>⟨(h _ H).sub ⟨rfl,rfl,trivial⟩,(hh _ (by simp[e7,kU,ju,oL,dT])).trans m⟩) ?_ ?_
 ·intro j y post hl o z
  refine ab (z) λH m=>?_
  clear z
  have t:(aO u j).Sublist (aR ws):=(d7 u j).trans (by rw[hl]; exact List.sublist_append_left _ _)
  have hy:y∉aO u j:=λq=>by
   have:=c9 ws
   rw[hl,nodup_append] at this
   exact this.2.2 y ((d7 u j).subset q) y (.head _) rfl
  have hy0:=iC (ns:=ws) (i:=y) (by rw[hl]; simp)
  have hg:Good c (aO u j++[y]):=by
   refine ⟨λx hx=>?_,?_⟩
   ·rcases mem_append.mp hx with q | q
    ·have:=iC (t.subset q); exact zW hw this
    ·rw[mem_singleton.mp q]; exact zW hw hy0
   ·rw[nodup_append]
    exact ⟨(c9 ws).sublist t,by simp,λa ha b hb q=>hy (by rw[<- mem_singleton.mp hb,<- q]; exact ha)⟩
  have l:(aO u j).length<=100:=by have:=t.length_le; rw[hU] at this; exact HM hc hw this
  obtain ⟨i,hi,e1⟩:=(nZ lib.toLibT n c k u (aO u j++[y]) hu (by rw[length_append]; simp; exact DS l)).1 hg
  rw[AE nd hg.2 hi hu] at e1
  have H1:=H.mk "thing" (.d (.int y))
  have p:upd o "thing" (mk (.d (.int y))) "kept" = some (.d (aa (aO u j)),.deep):=(if_neg (by decide)).trans m
  refine Runs.ite ((BO lib.toLibT n rfl (H1.ev (x:="rule") rfl) (eK (H1.ev (x:="kept") rfl) (fm (H1.ev (x:="thing") rfl)) (by simp; exact D7 l))).trans e1) (λq=>?_) λq=>Runs.nil (Runs.nil ?_)
  ·refine Runs.app H1 p (by decide) (H1.ev rfl) (HE l) λσ' H2 hσ2 _=>Runs.nil (Runs.nil ?_)
   have e:aO u (j++[y])=aO u j++[y]:=by rw[lY]; unfold cn; rw[if_pos q]
   rw[e]
   exact ⟨H2.sub ⟨rfl,rfl,trivial⟩,hσ2⟩
  ·have e:aO u (j++[y])=aO u j:=by rw[lY]; unfold cn; rw[if_neg (by rw[q]; decide)]
   rw[e]
   exact ⟨H1.sub ⟨rfl,rfl,trivial⟩,p⟩
 ·intro o v
  refine ab (v) λH m=>?_
  clear v
  have t:=d7 u (aR ws)
  refine Runs.ret (fz (H.ev rfl) (by have:=t.length_le; rw[hU] at this; exact HU hc hw this) λi hi=>(iC (t.subset hi)).1) rfl
theorem Srt.sort (h:Srt c r) (pm:p.Perm r):aH p=r:=oS pm (h.1.imp λh=>Int.le_of_lt h)
section
end
theorem kD:∀ {l acc:List Int},y∈acc->y∈l.foldl (cn u) acc
 | [],_,h=>h
 | x::l,acc,h=>kD (l:=l) (by unfold cn; split; exact mem_append_left _ h; exact h)
theorem v6 {u:List (List Int)}{y:Int}{l acc:List Int}(h:y∈l.foldl (cn u) acc):y∈acc\/y∈l:=mem_append.mp ((jf u l acc).subset h)
theorem li (u:List (List Int)) (pre:List Int) (x:Int) (post:List Int):aO u (pre++x::post)=post.foldl (cn u) (cn u (aO u pre) x):=by
 unfold aO; rw[List.foldl_append]; rfl
theorem qi (h:y∈aO u pre):y∈aO u (pre++x::post):=by
 rw[li]
 refine kD ?_
 unfold cn; split
 ·exact mem_append_left _ h
 ·exact h
theorem oY (h1:x∉pre) (h2:x∉post):x∈aO u (pre++x::post)↔kE u (aO u pre++[x])=true:=by
 rw[li]
 constructor
 ·intro h
  rcases v6 h with h | h
  ·unfold cn at h
   split at h
   ·assumption
   ·exact absurd ((d7 u pre).subset h) h1
  ·exact absurd h h2
 ·intro h
  refine kD ?_
  unfold cn
  rw[if_pos h]
  simp
theorem qs (hu:u≠[]):∀ (l acc:List Int),kE u acc=true->kE u (l.foldl (cn u) acc)=true
 | [],_,h=>h
 | x::l,acc,h=>qs hu l _ (by unfold cn; split; assumption; exact h)
theorem kl (hn:l.Nodup) (e:l=pre++x::post):x∉pre/\x∉post:=by
 rw[e,nodup_append] at hn
 exact ⟨λh=>hn.2.2 x h x (.head _) rfl,(nodup_cons.mp hn.2.1).1⟩
theorem g0 {c:Nat}{u:List (List Int)}{l:List Int}(hu:u≠[]) (hr:∀ r∈u,Srt c r) (hp:l.Perm (aP c)) (hn:l.Nodup):aH (aO u l)∈u/\∀ x,x∈aH (aO u l)↔x∈aO u l:=by
 refine ae (togB_iff.mp (qs (u:=u) hu l [] (togB_iff.mpr (ah (List.exists_mem_of_ne_nil u hu) λr h=>⟨r,h,λ_ q=>nomatch q⟩)))) λr i g=>?_
 have n:=hr r i
 have j:∀ x∈r,x∈aO u l:=λx v=>by
  have z:x∈l:=hp.mem_iff.mpr (mem_upTo.mpr (n.2 x v))
  refine aY (List.append_of_mem z) λk o e=>?_
  have t:=kl hn e
  have h2:∀ y∈aO u k,y∈r:=λy m=>g y (show y∈aO u l by rw[e]; exact qi m)
  rw[e,oY t.1 t.2]
  refine togB_iff.mpr ⟨r,i,λy m=>?_⟩
  rcases mem_append.mp m with q | q
  ·exact h2 y q
  ·rw[mem_singleton.mp q]; exact v
 have p:(aO u l).Perm r:=(List.perm_ext_iff_of_nodup (hn.sublist (d7 u l)) n.good.2).mpr λx=>⟨g x,j x⟩
 rw[n.sort p]
 exact ⟨i,λx=>p.mem_iff.symm⟩
theorem s8 (hn:(pre++x::post).Nodup) (hh:held∈u) (hx:x∉held) (hpre:∀ y∈pre,y∈aO u (pre++x::post)->y∈held) (ho:o∈held) (hg:o∉aO u (pre++x::post)) (hol:o∈pre++x::post):o∈post:=by
 rcases mem_append.mp hol with h | h
 ·exfalso
  refine aY (List.append_of_mem h) λg i e=>?_
  subst e
  have k:g++o::i++x::post=g++o::(i++x::post):=by rw[append_assoc]; rfl
  have j:=kl hn k
  rw[k] at hg hpre
  refine hg ((oY j.1 j.2).mpr (togB_iff.mpr ⟨held,hh,λy l=>?_⟩))
  rcases mem_append.mp l with q | q
  ·exact hpre y (mem_append_left _ ((d7 u g).subset q)) (qi q)
  ·rw[mem_singleton.mp q]; exact ho
 ·rcases mem_cons.mp h with rfl | h
  ·exact absurd ho hx
  ·exact h
noncomputable def p_way:Fn:=⟨["rule", "weights", "choice"],
(.cons (.assign "goal" (.call "picked" (.cons (.name "rule") (.cons (.name "weights") .nil))))
(.cons (.assign "held" (.meth (.name "rule") "need_full" (.cons (.name "choice") .nil)))
(.cons (.assign "steps" (.list .nil))
(.cons (.for1 "thing" (.e (.call "order" (.cons (.name "weights") .nil)))
(.cons (.ite (.and (.cmp .isin (.name "thing") (.name "goal")) (.cmp .notin (.name "thing") (.name "held")))
(.cons (.assign "outs" (.compif (.name "out") "out" (.e (.meth (.name "rule") "outs" (.cons (.name "held") (.cons (.name "thing") .nil)))) (.cmp .notin (.name "out") (.name "goal"))))
(.cons (.append "steps" (.tup (.cons (.sub (.name "outs") (.int 0)) (.cons (.name "thing") .nil))))
(.cons (.assign "held" (.call "exchanged" (.cons (.name "held") (.cons (.sub (.name "outs") (.int 0)) (.cons (.name "thing") .nil)))))
.nil)))
.nil)
.nil))
(.cons (.retn "steps")
.nil)))))⟩
noncomputable def goF (u:List (List Int)) (g held:List Int) (x:Int):List Int:=(yf u held x).filter λo=>!decide (o∈g)
noncomputable def fG (u:List (List Int)) (g held:List Int) (x:Int):Int:=(goF u g held x).headD 0
noncomputable def dO (u:List (List Int)) (g:List Int) (st:List (Int×Int)×List Int) (x:Int):List (Int×Int)×List Int:=if x∈g/\x∉st.2 then (st.1++[(fG u g st.2 x,x)],exchF st.2 (fG u g st.2 x) x) else st
noncomputable def b8 (u:List (List Int)) (g held l:List Int):List (Int×Int)×List Int:=l.foldl (dO u g) ([],held)
theorem gP (u:List (List Int)) (g held l:List Int) (x:Int):b8 u g held (l++[x])=dO u g (b8 u g held l) x:=by unfold b8; rw[List.foldl_append]; rfl
theorem exch_mem:y∈exchF a o x↔(y∈a/\y≠o)\/y=x:=by
 unfold exchF
 rw[(dq _).mem_iff,mem_append,mem_singleton,mem_filter]
 simp
structure Step (u:List (List Int)) (ws g held:List Int) (x o:Int):Prop where
 oh:o∈held
 og:o∉g
 ex:exchF held o x∈u
 wt:wt ws o<=wt ws x
theorem Be {c:Nat}{u:List (List Int)}{ws pre post held:List Int}{x:Int}(hu:u≠[]) (hr:∀ r∈u,Srt c r) (nf:NoF c u) (hw:ws.length=c) (e:aR ws=pre++x::post) (hh:held∈u) (hx:x∉held) (hg:x∈av u ws) (hpre:∀ y∈pre,y∈av u ws->y∈held):∀ o∈goF u (av u ws) held x,Step u ws (av u ws) held x o:=λo t=>by
 have j:=c9 ws
 have n:(aR ws).Perm (aP c):=hw▸cL ws
 have h:=g0 hu hr n j
 refine pN t λh1 z=>?_
 refine pN h1 λk v=>?_
 have m:o∉av u ws:=by simpa using z
 refine ⟨k,m,of_decide_eq_true v,?_⟩
 have i:o∈post:=by
  have g:o∈aR ws:=n.mem_iff.mpr (mem_upTo.mpr ((hr held hh).2 o k))
  rw[e] at j g
  refine s8 (u:=u) (pre:=pre) (x:=x) j hh hx (λy p hk=>hpre y p ?_) k (λq=>m ?_) g
  ·unfold av; rw[e] at h ⊢; exact (h.2 y).mpr hk
  ·unfold av; rw[e] at h ⊢; exact (h.2 o).mpr q
 have l:=A1 ws
 rw[e,pairwise_append] at l
 exact ((pairwise_cons.mp l.2.1).1 o i).1
theorem Ad {c:Nat}{u:List (List Int)}{g held:List Int}{x:Int}(hr:∀ r∈u,Srt c r) (nf:NoF c u) (hgu:g∈u) (hh:held∈u) (hx:x∉held) (hg:x∈g):∃ o l,goF u g held x=o::l:=by
 have h:=nf held hh x (mem_upTo.mpr ((hr g hgu).2 x hg)) hx g hgu hg
 unfold cS at h
 refine ae (any_eq_true.mp h) λo i m=>?_
 refine eY m λk j=>?_
 have:o∈goF u g held x:=mem_filter.mpr ⟨mem_filter.mpr ⟨i,j⟩,k⟩
 cases q:goF u g held x with
 | nil=>rw[q] at this; cases this
 | cons a l=>exact ⟨a,l,rfl⟩
structure WayI (u:List (List Int)) (g:List Int) (pre h:List Int):Prop where
 row:h∈u
 has:∀ y∈pre,y∈g->y∈h
theorem WayI.next {c:Nat}{u:List (List Int)}{ws pre post h:List Int}{x:Int}(hu:u≠[]) (hr:∀ r∈u,Srt c r) (nf:NoF c u) (hw:ws.length=c) (e:aR ws=pre++x::post) (I:WayI u (av u ws) pre h) :
  (x∈av u ws/\x∉h->(∃ l,goF u (av u ws) h x=fG u (av u ws) h x::l)/\Step u ws (av u ws) h x (fG u (av u ws) h x)/\WayI u (av u ws) (pre++[x]) (exchF h (fG u (av u ws) h x) x))/\(¬ (x∈av u ws/\x∉h)->WayI u (av u ws) (pre++[x]) h):=by
 have p:=(g0 hu hr (hw▸cL ws) (c9 ws)).1
 refine ⟨λ⟨m,k⟩=>?_,λt=>⟨I.row,λy j g=>?_⟩⟩
 ·refine aY (Ad hr nf (show av u ws∈u from p) I.row k m) λo l q=>?_
  have v:fG u (av u ws) h x=o:=by unfold fG; rw[q]; rfl
  rw[v]
  have i:=Be hu hr nf hw e I.row k m I.has o (by rw[q]; exact .head _)
  refine ⟨⟨l,q⟩,i,i.ex,λy j g=>exch_mem.mpr ?_⟩
  rcases mem_append.mp j with q | q
  ·exact .inl ⟨I.has y q g,λe=>i.og (e▸g)⟩
  ·exact .inr (mem_singleton.mp q)
 ·rcases mem_append.mp j with q | q
  ·exact I.has y q g
  ·rw[mem_singleton.mp q] at g ⊢
   exact Classical.byContradiction λn=>t ⟨g,n⟩
theorem WayI.all {c:Nat}{u:List (List Int)}{ws h0:List Int}(hu:u≠[]) (hr:∀ r∈u,Srt c r) (nf:NoF c u) (hw:ws.length=c) (hh:h0∈u):∀ (n:Nat) (pre post:List Int),pre.length=n->aR ws=pre++post->WayI u (av u ws) pre (b8 u (av u ws) h0 pre).2
 | 0,pre,post,hl,e=>by
  rw[List.length_eq_zero_iff.mp hl]
  exact ⟨hh,λy j=>nomatch j⟩
 | n+1,pre,post,hl,e=>by
  have h:pre≠[]:=λq=>by rw[q] at hl; cases hl
  obtain ⟨g,x,rfl⟩:∃ g x,pre=g++[x]:=⟨pre.dropLast,pre.getLast h,(List.dropLast_concat_getLast h).symm⟩
  rw[length_append,length_singleton] at hl
  have i:aR ws=g++x::post:=by rw[e,append_assoc]; rfl
  have I:=WayI.all hu hr nf hw hh n g (x::post) (lN hl) i
  rw[gP]
  have N:=I.next hu hr nf hw i
  unfold dO
  by_cases q:x∈av u ws/\x∉(b8 u (av u ws) h0 g).2
  ·rw[if_pos q]; exact (N.1 q).2.2
  ·rw[if_neg q]; exact N.2 q
theorem rl {c:Nat}{u:List (List Int)}{ws h:List Int}(hu:u≠[]) (hr:∀ r∈u,Srt c r) (nf:NoF c u) (hw:ws.length=c) (I:WayI u (av u ws) (aR ws) h):h=av u ws:=by
 have j:av u ws∈u:=(g0 hu hr (hw▸cL ws) (c9 ws)).1
 have g:∀ x∈av u ws,x∈h:=λx k=>I.has x ((hw▸cL ws:(aR ws).Perm (aP c)).mem_iff.mpr (mem_upTo.mpr ((hr _ j).2 x k))) k
 have l:=(hr _ j).good.2
 have n:=(hr _ I.row).good.2
 have i:=rW l g (by rw[nf.len hr I.row j]; exact le_refl _)
 have m:h.Perm (av u ws):=(List.perm_ext_iff_of_nodup n l).mpr λx=>⟨i x,g x⟩
 rw[<- (hr _ j).sort m,(hr _ I.row).sort (.refl _)]
noncomputable def b7 (ws r:List Int):Int:=r.foldr (λx s=>wt ws x+s) 0
theorem cp (ws:List Int) (x:Int) (r:List Int):b7 ws (x::r)=wt ws x+b7 ws r:=rfl
theorem kY (ws:List Int):∀ a b:List Int,b7 ws (a++b)=b7 ws a+b7 ws b
 | [],b=>(Int.zero_add _).symm
 | x::a,b=>by rw[List.cons_append,cp,cp,kY ws a b,Int.add_assoc]
theorem mR (p:a.Perm b):b7 ws a=b7 ws b:=by
 induction p with
 | nil=>rfl
 | cons x _ ih=>rw[cp,cp,ih]
 | swap x y l=>rw[cp,cp,cp,cp,<- Int.add_assoc,<- Int.add_assoc,Int.add_comm (wt ws y)]
 | trans _ _ h1 h2=>exact h1.trans h2
theorem vX (hn:held.Nodup) (ho:o∈held):b7 ws (exchF held o x)+wt ws o=b7 ws held+wt ws x:=by
 have p:held.Perm (o::held.filter λy=>!decide (y=o)):=(List.perm_ext_iff_of_nodup hn (nodup_cons.mpr ⟨λq=>by simpa using (mem_filter.mp q).2,hn.filter _⟩)).mpr λz=>by
  rw[mem_cons,mem_filter]
  by_cases e:z=o
  ·simp[e,ho]
  ·simp[e]
 have g:=mR (ws:=ws) p
 rw[cp] at g
 unfold exchF
 rw[mR (dq _),kY,g]
 show _+(wt ws x+0)+_=_
 exact He
theorem nV {c:Nat}{u:List (List Int)}{ws h0:List Int}(hu:u≠[]) (hr:∀ r∈u,Srt c r) (nf:NoF c u) (hw:ws.length=c) (hh:h0∈u):∀ (n:Nat) (pre post:List Int),pre.length=n->aR ws=pre++post->b7 ws h0<=b7 ws (b8 u (av u ws) h0 pre).2
 | 0,pre,post,hl,e=>by
  rw[List.length_eq_zero_iff.mp hl]
  exact Int.le_refl _
 | n+1,pre,post,hl,e=>by
  have h:pre≠[]:=λq=>by rw[q] at hl; cases hl
  obtain ⟨g,x,rfl⟩:∃ g x,pre=g++[x]:=⟨pre.dropLast,pre.getLast h,(List.dropLast_concat_getLast h).symm⟩
  rw[length_append,length_singleton] at hl
  have i:aR ws=g++x::post:=by rw[e,append_assoc]; rfl
  have I:=WayI.all hu hr nf hw hh n g (x::post) (lN hl) i
  have k:=nV hu hr nf hw hh n g (x::post) (lN hl) i
  rw[gP]
  have N:=I.next hu hr nf hw i
  unfold dO
  by_cases q:x∈av u ws/\x∉(b8 u (av u ws) h0 g).2
  ·rw[if_pos q]
   have j:=(N.1 q).2.1
   have:=vX (ws:=ws) (x:=x) (kO (hr _ I.row).1) j.oh
   have:=j.wt
   dsimp only
   exact HN k ‹_› this
  ·rw[if_neg q]; exact k
theorem vY {c:Nat}{u:List (List Int)}{ws:List Int}(hu:u≠[]) (hr:∀ r∈u,Srt c r) (hw:ws.length=c):av u ws∈u:=(g0 hu hr (hw▸cL ws) (c9 ws)).1
theorem uc {c:Nat}{u:List (List Int)}{ws h:List Int}(hu:u≠[]) (hr:∀ r∈u,Srt c r) (nf:NoF c u) (hw:ws.length=c) (hh:h∈u):b7 ws h<=b7 ws (av u ws):=by
 have:=nV hu hr nf hw hh _ (aR ws) [] rfl (append_nil _).symm
 rwa [rl hu hr nf hw (WayI.all hu hr nf hw hh _ (aR ws) [] rfl (append_nil _).symm)] at this
noncomputable def kW (ws:List Int):List Int:=ws.map λx=>-x
theorem rZ (lib:Lib L) (n:Nat) (t:List (List Int)) (v:V) (K:Kn t v) (one other:List Int) (x:Int) (ht:t≠[]) (h:∀ o,au (mkC L n) p_exchanged [.d (aa one),.d (.int o),.d (.int x)] = .ok (.d (aa (exchF one o x)),.deep)):au (mkC L (n+1)) p_goes [v,.d (aa one),.d (aa other),.d (.int x)] = .ok (sB (cS t one other x)):=by
 rcases K with ⟨q,_⟩ | ⟨ks,rfl,_,hk,_⟩
 ·exact absurd q ht
 unfold p_goes cS
 refine cg rfl λj H=>?_
 refine Runs.seek (g:=PyData.int) (xs:=one) (λj=>Has j [("known", .dicT ks),("one", .d (aa one)),("other", .d (aa other)),("thing", .d (.int x))]) (λo=>if (!decide (o∈other)&&decide (exchF one o x∈t))=true then some () else none) (λuu=>sB true) (aE (H.ev rfl) (ba one .sh)) (λl h _=>(h _ H).sub (cr rfl rfl rfl rfl trivial)) (λo p j H=>?_) (λq k _=>?_) λuu q k=>?_
 ·have H1:=H.mk "out" (.d (.int o))
  have m:ev (mkC L (n+1)) (.cmp .isin (.bi1 .tuple (.call "exchanged" (.cons (.name "one") (.cons (.name "out") (.cons (.name "thing") .nil))))) (.name "known")) (upd j "out" (mk (.d (.int o)))) = .ok (sB (decide (exchF one o x∈t))):=by
   refine bq (rz (bN lib.exch (af (H1.ev rfl) (af (H1.ev rfl) (af (H1.ev rfl) ax))) rfl (h o))) (H1.ev (x:="known") rfl) ?_
   show (am (dy (aJ (exchF one o x))) λi=>Out.ok (decide (i∈ks)))=_
   rw[iH]
   exact congrArg Out.ok (decide_eq_decide.mpr (hk _))
  refine Runs.ite (gW (iA (H1.ev rfl) (H1.ev rfl)) λuu=>m) (λq=>Runs.ret (gq true) (Cont.ret (Sk.ret (q:=()) (if_pos q)))) λq=>Runs.nil (Runs.nil (Sk.next (if_neg (by rw[q]; decide)) (H1.sub (cr rfl rfl rfl rfl trivial))))
 ·rw[iL] at q
  refine Runs.ret (gq false) ?_
  by_cases e:(one.any λo=>!decide (o∈other)&&decide (exchF one o x∈t))=true
  ·rw[if_pos e] at q; cases q
  ·rw[Bool.eq_false_iff.mpr e]
 ·rw[iL] at q
  by_cases e:(one.any λo=>!decide (o∈other)&&decide (exchF one o x∈t))=true
  ·rw[e]
  ·rw[if_neg e] at q; cases q
theorem qM (lib:Lib L) (n:Nat) (c:Nat) (t:List (List Int)) (hc:c<=1000) (hl:t.length<=1000) (h:∀ one∈t,∀ other∈t,∀ x∈other,x∉one->∀ o,au (mkC L n) p_exchanged [.d (aa one),.d (.int o),.d (.int x)] = .ok (.d (aa (exchF one o x)),.deep)):au (mkC L (n+2)) p_fault [.d (.int c),.d (ad t)] = .ok (sf (fC c t)):=by
 unfold p_fault fC
 refine cg rfl λσ H=>?_
 obtain ⟨_,y,v,m,K⟩:=dF (σ:=σ) (n:=n+1) lib.known (es:=.cons (.name "table") .nil) (af (H.ev rfl) ax) rfl (lj _ t hl)
 subst m
 refine Runs.set H y λσ H _=>?_
 refine Runs.seek (g:=aa) (xs:=t) (λσ=>Has σ [("table", .d (ad t)),("count", .d (.int c)),("known", v)]) (λone=>(aP c).findSome? λx=>if x∈one then none else t.findSome? λother=>if (decide (x∈other) && !cS t one other x)=true then some (one,other,x) else none) (λq=>sf (some q)) (aE (H.ev rfl) (aS t .sh)) (λl h _=>(h _ H).sub (cE rfl rfl rfl trivial)) (λone k σ H=>?_) (λq i _=>?_) λq p i=>?_
 ·have H1:=H.mk "one" (.d (aa one))
  refine Runs.seek (g:=PyData.int) (xs:=aP c) (λσ=>Has σ [("table", .d (ad t)),("count", .d (.int c)),("known", v),("one", .d (aa one))]) (λx=>if x∈one then none else t.findSome? λother=>if (decide (x∈other) && !cS t one other x)=true then some (one,other,x) else none) (λq=>sf (some q)) (ck (H1.ev rfl) (xJ hc)) (λl h _=>(h _ H1).sub (cr rfl rfl rfl rfl trivial)) (λx z σ H=>?_) (λq i H=>Runs.nil ?_) λq p i=>?_
  ·have H2:=H.mk "thing" (.d (.int x))
   refine Runs.ite (iA (H2.ev rfl) (H2.ev rfl)) (λq=>?_) λq=>Runs.nil (Runs.nil ?_)
   ·have j:x∉one:=by simpa using q
    refine Runs.seek (g:=aa) (xs:=t) (λσ=>Has σ [("table", .d (ad t)),("count", .d (.int c)),("known", v),("one", .d (aa one)),("thing", .d (.int x))]) (λother=>if (decide (x∈other) && !cS t one other x)=true then some (one,other,x) else none) (λq=>sf (some q)) (aE (H2.ev rfl) (aS t .sh)) (λl h _=>(h _ H2).sub (ow rfl rfl rfl rfl rfl trivial)) (λother u σ H=>?_) (λq i H=>Runs.nil (Runs.nil ?_)) λq p i=>?_
    ·have H3:=H.mk "other" (.d (aa other))
     refine Runs.ite (gW (kI (H3.ev rfl) (H3.ev rfl)) λr=>jk (bN lib.goes (af (H3.ev rfl) (af (H3.ev rfl) (af (H3.ev rfl) (af (H3.ev rfl) ax)))) rfl (rZ lib n t v K one other x (List.ne_nil_of_mem k) (h one k other u x (of_decide_eq_true r) j)))) (λq=>?_) λq=>Runs.nil (Runs.nil ?_)
     ·exact Runs.ret (uX (dH (H3.ev rfl)) (dH (H3.ev rfl)) (H3.ev rfl)) (Cont.ret (Sk.ret (q:=(one,other,x)) (if_pos q)))
     ·exact Sk.next (if_neg (by rw[q]; decide)) (H3.sub (ow rfl rfl rfl rfl rfl trivial))
    ·exact Sk.next ((if_neg j).trans q) (H.sub (cr rfl rfl rfl rfl trivial))
    ·exact Cont.ret (Sk.ret ((if_neg j).trans p))
   ·have j:x∈one:=by simpa using q
    exact Sk.next (if_pos j) (H2.sub (cr rfl rfl rfl rfl trivial))
  ·exact Sk.next q (H.sub (cE rfl rfl rfl trivial))
  ·exact Sk.ret p
 ·rw[q]; exact Runs.ret je rfl
 ·rw[p]
theorem tK (lib:LibR L) (n:Nat) (c:Nat) (t:List (List Int)) (hc:c<=1000) (ht:t≠[]) (hl:t.length<=63) (hr:∀ r∈t,r.length<=100/\Srt c r) (nf:NoF c t) :
  ∃ u x,dv (aw (mkC L (n+3))) p_Rule [.d (.int c),.d (ad t)] = .ok (.rule c (ad u) (x:List Int).length,.deep)/\(∀ r,r∈u↔r∈t)/\u[0]? = some x/\∃ ks,u=br ks/\ks.Nodup/\ks.length<=t.length:=by
 refine ah (lib.nth) λnt hnt=>?_
 have hNT:mkC L (n+2) "NoThing" = some λvs=>bL "NoThing" (mkC L (n+1)) nt vs:=by show (L.lookup "NoThing").map _=_; rw[hnt]; rfl
 have p:∀ σ,Has σ (["count", "table"].zip [V.d (.int c),V.d (ad t)])->Runs (aw (mkC L (n+3))) p_Rule.body σ (λk fl=>fl = .next/\∃ u:List (List Int),Has k [("count", .d (.int c))]/\k "full" = some (.d (ad u),.deep)/\(∀ r,r∈u↔r∈t)/\∃ ks,u=br ks/\ks.Nodup/\ks.length<=t.length):=λσ H=>by
  refine Runs.no ((dC (lM (H.ev (x:="table") rfl)) (aj 0)).trans (by rw[decide_eq_false (λq=>ht (List.eq_nil_of_length_eq_zero (Fg q)))])) ?_
  refine Runs.for (g:=aa) (xs:=t) (λpre σ=>Has σ [("count", .d (.int c)),("table", .d (ad t))]) (aE (H.ev (x:="table") rfl) (aS t .sh)) (λσ0 h _=>(h _ H).sub ⟨rfl,rfl,trivial⟩) ?_ ?_
  ·rintro pre y post hl' σ H
   have hy:y∈t:=by rw[hl']; simp
   have H1:=H.mk "choice" (.d (aa y))
   refine Runs.expr H1 (gu lib.need (af (H1.ev (x:="count") rfl) (af (H1.ev (x:="choice") rfl) ax)) rfl ((fJ hNT c y (by have:=(hr y hy).1; exact zV this)).1 (hr y hy).2.good)) λk H' _=>Runs.nil (H'.sub ⟨rfl,rfl,trivial⟩)
  ·rintro σ H
   obtain ⟨m1,e1,_,_⟩:=da (C:=aw (mkC L (n+3))) (σ:=σ) (g:=aa) (l:=t) (z:="choice") (it:=.e (.name "table")) (a:=.bi1 .sorted (.name "choice")) (λr=>r) .deep (aE (H.ev rfl) (aS t .sh)) λr j=>lc ((Has.nil.mk "choice" (.d (aa r))).ev rfl) (by have:=(hr r j).1; exact GU this) (λi hi=>((hr r j).2.2 i hi).1) (hr r j).2.1
   rw[List.map_id'] at e1
   obtain ⟨r,e2,v,LC,K⟩:=lj (mkC L (n+2)) t (ET hl)
   subst LC
   refine Runs.set H (gu lib.known (af e1 ax) rfl e2) λσ H hk=>?_
   rcases K with ⟨q,_⟩ | ⟨ks,rfl,k1,k2,k3⟩
   ·exact absurd q ht
   have hne:ks.length<2\/[]∉ks:=by
    by_cases q:[]∈ks
    ·left
     have all:=nf.empty (λr j=>(hr r j).2) ((k2 _).mp q)
     rcases ks with _ | ⟨a,_ | ⟨b,ks⟩⟩
     ·simp
     ·simp
     ·have ha:=all a ((k2 a).mp (by simp))
      have hb:=all b ((k2 b).mp (by simp))
      (clear H e2 hk k1 k2 q; subst ha hb)
      simp at k3
    ·exact .inr q
   have h0:ks≠[]:=λq=>by
    refine ah (List.exists_mem_of_ne_nil t ht) λa ha=>?_
    have:=(k2 a).mpr ha
    rw[q] at this; cases this
   have e3:ev (aw (mkC L (n+3))) (.bi1 .list (.name "known")) σ = .ok (.d (.list (ks.map aJ)),fresh (ks.map aJ)):=by
    rw[dP (H.ev (x:="known") rfl)]
    show od .list ks=_
    unfold od
    rw[if_pos ⟨rfl,by unfold lim; exact E8 hl k1⟩]
   refine ah (qH h0 (Hp hl k1) hne) λm4 e4=>?_
   have e5:ev (aw (mkC L (n+3))) (.bi1 .sorted (.bi1 .list (.name "known"))) σ = .ok (.d (.list ((br ks).map aJ)),m4):=(dP e3).trans e4
   refine ao (da (C:=aw (mkC L (n+3))) (σ:=σ) (g:=aJ) (l:=br ks) (z:="choice") (it:=.e (.bi1 .sorted (.bi1 .list (.name "known")))) (a:=.bi1 .list (.name "choice")) (λr=>r) .deep (aE e5 rfl) λr _=>(dP ((Has.nil.mk "choice" (.d (aJ r))).ev rfl)).trans (wK r)) λm6 e6 hm6 _=>?_
   rw[List.map_id',hm6 rfl] at e6
   have m:∀ r,r∈br ks↔r∈t:=λr=>((mergeSort_perm ks _).mem_iff).trans (k2 r)
   refine Runs.set H e6 λσ H hf=>?_
   have ef:=qM lib.toLib n c (br ks) hc (by have:=(mergeSort_perm ks (λa b=>!ltL b a)).length_eq; show (br ks).length<=_; unfold br; exact Gx hl k1 this) λr j o ho x hx hn z=>by
    have q:=hr r ((m r).mp j)
    exact ew _ r z x (lt_of_le_of_lt q.1 (by decide)) (λi hi=>(q.2.2 i hi).1) ((hr o ((m o).mp ho)).2.2 x hx).1
   rw[fault_none.mpr (nf.set λr=>(m r).symm)] at ef
   refine Runs.no (bq (t:=false) (gu lib.fault (af (H.ev (x:="count") rfl) (af (H.ev (x:="full") rfl) ax)) rfl ef) je rfl) ?_
   exact Runs.nil (az rfl (bD (br ks) (H.sub ⟨rfl,trivial⟩) hf m (aL ks rfl k3 k1)))
 refine ae (cq ["count", "table"] [V.d (.int c),V.d (ad t)] rfl) λσ hσ H=>?_
 obtain ⟨k,fl,he,Ly,u,H',hu,hm,hks⟩:=p σ H
 subst Ly
 obtain ⟨x,hx⟩:∃ x,u[0]? = some x:=by
  cases u with
  | nil=>
   refine ah (List.exists_mem_of_ne_nil t ht) λa ha=>?_
   have:=(hm a).mpr ha
   cases this
  | cons x u=>exact ⟨x,rfl⟩
 refine (bO u x ?_ hm hx hks)
 refine ah (H' "count" _ rfl) λmc hcnt=>?_
 unfold dv
 rw[show bB p_Rule.params [V.d (.int c),V.d (ad t)]=some σ from hσ]
 dsimp only
 rw[he]
 simp only[Out.ok_bind]
 unfold fA
 rw[hcnt,hu]
 show (am ((u.map aa)[0]?) _)=_
 rw[List.getElem?_map,hx]
 show Out.ok (V.rule c (.list (u.map aa)) ((x.map PyData.int).length:Int),Mode.deep)=_
 rw[length_map]
 rfl
noncomputable def n9:Fn:=⟨["_law_weights", "_law_choice"],
(.cons (.assign "_law_total" (.int 0))
(.cons (.for1 "_law_thing" (.e (.name "_law_choice"))
(.cons (.assign "_law_total" (.bin .add (.name "_law_total") (.sub (.name "_law_weights") (.name "_law_thing"))))
.nil))
(.cons (.retn "_law_total")
.nil)))⟩
theorem xw (C:Calls) (ws r:List Int) (h:∀ x∈r,0<=x/\x<ws.length):au C n9 [.d (aa ws),.d (aa r)] = .ok (sI (b7 ws r)):=by
 unfold n9
 refine cg rfl λj H=>?_
 refine Runs.set H (aj 0) λj H u=>?_
 refine Runs.for (g:=PyData.int) (xs:=r) (λi j=>Has j [("_law_weights", .d (aa ws))]/\j "_law_total" = some (sI (b7 ws i))) (aE (H.ev (x:="_law_choice") rfl) (ba r .sh)) (λo h' z=>⟨(h' _ H).sub ⟨rfl,trivial⟩,(z _ (by simp[e7,dT])).trans u⟩) ?_ λj k=>Runs.retn k.2 rfl
 intro i y m v j k
 have n:=h y (by rw[v]; simp)
 have H1:=k.1.mk "_law_thing" (.d (.int y))
 have t:upd j "_law_thing" (mk (.d (.int y))) "_law_total" = some (sI (b7 ws i)):=(if_neg (by decide)).trans k.2
 have q:ws[y.toNat]? = some (wt ws y):=by
  have:y.toNat<ws.length:=by exact C2 n
  unfold wt
  rw[List.getElem?_eq_getElem this,List.getD_eq_getElem?_getD,List.getElem?_eq_getElem this]; rfl
 have e:b7 ws (i++[y])=b7 ws i+wt ws y:=by
  rw[kY]
  show _+(wt ws y+0)=_
  rw[Int.add_zero]
 refine Runs.set H1 (cC (x:=b7 ws i) (l6 t rfl) (fu (H1.ev (x:="_law_weights") rfl) (H1.ev (x:="_law_thing") rfl) n.1 q)) λp H2 l=>Runs.nil ⟨H2.sub ⟨rfl,trivial⟩,?_⟩
 rw[e]; exact l
structure LibI (L:List (String×Fn)):Prop extends LibO L where
theorem Runs.setD (H:Has σ l) (he:ev C e σ = .ok r) (hd:r.2 = .deep) (k:∀ σ',Has σ' ((x,r.1)::l)->σ' x=some r->(∀ y,y≠x->σ' y=σ y)->Runs C b σ' Post):Runs C (.cons (.assign x e) b) σ Post:=by
 refine Runs.cons (o:=(upd (consume σ (fv e) r.2) x r,.next)) (by simp only[ce,lh he,Out.ok_bind]) (k _ ((H.consume _ _).upd x r.1 r.2) (if_pos rfl) λy g=>(if_neg g).trans ?_)
 unfold consume
 rw[if_pos hd]
structure LibW (L:List (String×Fn)):Prop where
 o:LibO L
 e:LibE L
 way:L.lookup "way" = some p_way
noncomputable def gc (p:Int×Int):PyData:=.tuple [.int p.1,.int p.2]
noncomputable def aW (l:List (Int×Int)):PyData:=.list (l.map gc)
theorem B6 (ha:ev C a σ = .ok (sI x)) (hb:ev C b σ = .ok (sI y)):ev C (.tup (.cons a (.cons b .nil))) σ = .ok (.d (gc (x,y)),.deep):=by
 simp only[di,aV,aU,ha,hb,Out.ok_bind]; rfl
theorem Runs.appT (H:Has σ l) (hz:σ z=some (.d (aW t),m)) (hm:m≠.sh) (h:ev C a σ = .ok (.d (gc p),.deep)) (hl:t.length<1000000) (k:∀ σ',Has σ' ((z,.d (aW (t++[p])))::l)->σ' z=some (.d (aW (t++[p])),m)->(∀ y,y≠z->σ' y=σ y)->Runs C bb σ' Post):Runs C (.cons (.append z a) bb) σ Post:=by
 refine Runs.cons (o:=(upd σ z (.d (aW (t++[p])),m),.next)) ?_ (k _ (H.upd z _ m) (if_pos rfl) λy g=>if_neg g)
 have i:hH (.d (aW t))=some (t.map gc):=rfl
 simp only[eI,h,Out.calm_ok,Out.ok_bind,hz,i,if_neg hm]
 rw[jl (by rw[length_append,length_map]; exact hl)]
 unfold aW; rw[map_append]; rfl
theorem Bj (u:List (List Int)) (g held:List Int):∀ l:List Int,(b8 u g held l).1.length<=l.length:=λl=>by
 have i:∀ (l:List Int) (h:List (Int×Int)×List Int),(l.foldl (dO u g) h).1.length<=h.1.length+l.length:=λl=>by
  induction l with
  | nil=>exact λh=>le_refl _
  | cons x l ih=>
   intro h
   have k:=ih (dO u g h x)
   have j:(dO u g h x).1.length<=h.1.length+1:=by
    unfold dO
    split
    ·rw[length_append]; exact le_refl _
    ·exact le_succ _
   rw[foldl_cons,length_cons]
   lia
 have:=i l ([],held)
 unfold b8
 simpa using this
theorem wg (lib:LibW L) (n:Nat) (c:Nat) (k:Int) (u:List (List Int)) (ws ch:List Int) (hu:u≠[]) (hr:∀ r∈u,r.length<=100/\Srt c r) (nf:NoF c u) (hc:c<=100) (hw:ws.length=c) (hg:Good c ch) (hm:aH ch∈u) :
  au (mkC L (n+5)) p_way [.rule c (ad u) k,.d (aa ws),.d (aa ch)] = .ok (.d (aW (b8 u (av u ws) (aH ch) (aR ws)).1),.deep):=by
 have t:∀ r∈u,Srt c r:=λr h=>(hr r h).2
 have hcl:ch.length<=100:=by rw[<- (dq ch).length_eq]; exact (hr _ hm).1
 unfold p_way
 refine cg rfl λj H=>?_
 refine Runs.setD H (bN lib.o.picked (af (H.ev (x:="rule") rfl) (af (H.ev (x:="weights") rfl) ax)) rfl (ke lib.o n c k u ws hu (λr h=>kO (t r h).1) hc hw)) rfl λj H _ _=>?_
 refine Runs.setD H ((mE (n:=n+4) rfl lib.e.nf (λ_=>rfl) (H.ev (x:="rule") rfl) (af (H.ev (x:="choice") rfl) ax) rfl).trans ((mW lib.e (n+2) c k u ch (by lia)).2.2 hg hm)) rfl λj H _ _=>?_
 have e0:ev (mkC L (n+5)) (.list .nil) j = .ok (.d (aW []),.deep):=by simp only[bp,aV]; rfl
 refine Runs.setD H e0 rfl λj H hs _=>?_
 have eo:=bN lib.o.order (af (H.ev (C:=mkC L (n+5)) (x:="weights") rfl) ax) rfl (ls lib.o.law (n+3) ws (by lia))
 refine Runs.for (g:=PyData.int) (xs:=aR ws) (λm j=>Has j [("rule", .rule c (ad u) k),("goal", .d (aa (av u ws))),("held", .d (aa (b8 u (av u ws) (aH ch) m).2)),("steps", .d (aW (b8 u (av u ws) (aH ch) m).1))]/\j "steps" = some (.d (aW (b8 u (av u ws) (aH ch) m).1),.deep)) (aE eo (ba _ .deep)) (λσ0 h hn=>⟨(h _ H).sub ⟨rfl,rfl,rfl,rfl,trivial⟩,(hn _ (by simp[e7,kU,ju,oL,dT])).trans hs⟩) ?_ λj hI=>Runs.retn hI.2 rfl
 intro m y z hp j hI
 obtain ⟨H,hs⟩:=hI
 have W:=WayI.all hu t nf hw hm _ m (y::z) rfl hp
 have N:=W.next hu t nf hw hp
 have H1:=H.mk "thing" (.d (.int y))
 have p:upd j "thing" (mk (.d (.int y))) "steps" = _:=(if_neg (by decide)).trans hs
 have hy:0<=y/\y<(c:Int):=by
  have:=iC (ns:=ws) (i:=y) (by rw[hp]; simp)
  rwa [hw] at this
 have hwl:=Bj u (av u ws) (aH ch) m
 have hpl:m.length<=c:=by
  have:=hU ws
  rw[hp,length_append] at this
  lia
 rw[gP]
 unfold dO
 generalize (b8 u (av u ws) (aH ch) m)=st at H H1 hs p W N hwl ⊢
 refine Runs.ite (gW (kI (H1.ev (x:="thing") rfl) (H1.ev (x:="goal") rfl)) λ_=>iA (H1.ev (x:="thing") rfl) (H1.ev (x:="held") rfl)) (λq=>?_) λq=>Runs.nil (Runs.nil ?_)
 ·have q:y∈av u ws/\y∉st.2:=by simpa using q
  obtain ⟨⟨l,hl⟩,S,_⟩:=N.1 q
  have g2:=(t _ W.row).good
  have v:aH st.2=st.2:=gh (t _ W.row).1
  have ou:=(vd lib.e (n+1) c k u st.2 y (by have:=(hr _ W.row).1; lia)).2.2.2 g2 (by rw[v]; exact W.row) hy.1 hy.2 q.2
  rw[v] at ou
  have eg:ev (mkC L (n+5)) (.compif (.name "out") "out" (.e (.meth (.name "rule") "outs" (.cons (.name "held") (.cons (.name "thing") .nil)))) (.cmp .notin (.name "out") (.name "goal"))) (upd j "thing" (mk (.d (.int y)))) = .ok (.d (aa (goF u (av u ws) st.2 y)),.deep) :=
   cK (λo=>!decide (o∈av u ws)) (aE ((mE (n:=n+4) rfl lib.e.outs (λ_=>rfl) (H1.ev (x:="rule") rfl) (af (H1.ev (x:="held") rfl) (af (H1.ev (x:="thing") rfl) ax)) rfl).trans ou) (ba _ .deep)) λo _=>by
    have H2:=H1.mk "out" (.d (.int o))
    exact iA (H2.ev (x:="out") rfl) (H2.ev (x:="goal") rfl)
  refine Runs.setD H1 eg rfl λj H hg kp=>?_
  have hs2:=(kp "steps" (by decide)).trans p
  clear kp
  have h0:ev (mkC L (n+5)) (.sub (.name "outs") (.int 0)) j = .ok (sI (fG u (av u ws) st.2 y)):=fu (H.ev (x:="outs") rfl) (aj 0) (by decide) (by rw[hl]; rfl)
  refine Runs.appT H hs2 (by decide) (B6 h0 (H.ev (x:="thing") rfl)) (by lia) λj H hs3 kp=>?_
  have h0':ev (mkC L (n+5)) (.sub (.name "outs") (.int 0)) j = .ok (sI (fG u (av u ws) st.2 y)):=fu (H.ev (x:="outs") rfl) (aj 0) (by decide) (by rw[hl]; rfl)
  refine Runs.setD H (bN lib.o.exch (af (H.ev (x:="held") rfl) (af h0' (af (H.ev (x:="thing") rfl) ax))) rfl (ew _ st.2 _ y (by have:=(hr _ W.row).1; lia) (λi hi=>((t _ W.row).2 i hi).1) hy.1)) rfl λj H _ kp=>Runs.nil (Runs.nil ?_)
  show Has j _/\_
  rw[if_pos q]
  exact ⟨H.sub ⟨rfl,rfl,rfl,rfl,trivial⟩,(kp _ (by decide)).trans hs3⟩
 ·have q:¬ (y∈av u ws/\y∉st.2):=by simpa using q
  show Has _ _/\_
  rw[if_neg q]
  exact ⟨H1.sub ⟨rfl,rfl,rfl,rfl,trivial⟩,p⟩
theorem ul (p:Int×Int):gc p = .tuple ([p.1,p.2].map .int):=rfl
theorem wZ (l:List (Int×Int)):okc (aW l)=true:=(show Low 3 (aW l) from .list λx g=>by
 refine aG g λp _ e=>?_
 rw[<- e]
 exact Bo [p.1,p.2] 0).okc
theorem ny:∀ l:List (Int×Int),PyData.eqvAll (l.map gc) (l.map gc)=true
 | []=>by rw[List.map_nil,PyData.eqvAll]
 | p::l=>by
  rw[map_cons,PyData.eqvAll,ny l,ul,PyData.eqv,hW]
  simp
theorem xE (l:List (Int×Int)):PyData.eqv (aW l) (aW l)=true:=by unfold aW; rw[PyData.eqv]; exact ny l
theorem JC (ha:ev C a σ = .ok (.d (aW l),m)) (hb:ev C b σ = .ok (.d (aW l),m')):ev C (.cmp .eq a b) σ = .ok (sB true):=bq ha hb (by
 show (if okc (aW l)&&okc (aW l) then Out.ok (PyData.eqv (aW l) (aW l)) else .bad)=_
 rw[wZ,xE]; rfl)
noncomputable def du (h:List Int) (ss:List (Int×Int)):List Int:=ss.foldl (λh p=>exchF h p.1 p.2) h
theorem iz (h:List Int) (ss:List (Int×Int)) (p:Int×Int):du h (ss++[p])=exchF (du h ss) p.1 p.2:=by unfold du; rw[List.foldl_append]; rfl
noncomputable def yG (u:List (List Int)) (ws g h:List Int) (p:Int×Int):Prop:=Step u ws g h p.2 p.1/\p.2∈g/\p.2∉h
noncomputable def Wk (u:List (List Int)) (ws g h:List Int) (ss:List (Int×Int)):Prop:=∀ i p,ss[i]? = some p->yG u ws g (du h (ss.take i)) p
theorem Wk.at (W:Wk u ws g h ss) (e:ss=pre++p::post):yG u ws g (du h pre) p:=by
 have:=W pre.length p (by rw[e]; simp)
 rwa [e,List.take_left] at this
theorem qt {c:Nat}{u:List (List Int)}{ws h0:List Int}(hu:u≠[]) (hr:∀ r∈u,Srt c r) (nf:NoF c u) (hw:ws.length=c) (hh:h0∈u):∀ (n:Nat) (pre post:List Int),pre.length=n->aR ws=pre++post->du h0 (b8 u (av u ws) h0 pre).1=(b8 u (av u ws) h0 pre).2/\Wk u ws (av u ws) h0 (b8 u (av u ws) h0 pre).1
 | 0,pre,post,hl,e=>by
  rw[List.length_eq_zero_iff.mp hl]
  exact ⟨rfl,λi p q=>nomatch q⟩
 | n+1,pre,post,hl,e=>by
  have k:pre≠[]:=λq=>by rw[q] at hl; cases hl
  obtain ⟨g,x,rfl⟩:∃ g x,pre=g++[x]:=⟨pre.dropLast,pre.getLast k,(List.dropLast_concat_getLast k).symm⟩
  rw[length_append,length_singleton] at hl
  have m:aR ws=g++x::post:=by rw[e,append_assoc]; rfl
  have I:=WayI.all hu hr nf hw hh n g (x::post) (lN hl) m
  have j:=qt hu hr nf hw hh n g (x::post) (lN hl) m
  rw[gP]
  have N:=I.next hu hr nf hw m
  generalize b8 u (av u ws) h0 g=st at I j N ⊢
  unfold dO
  by_cases q:x∈av u ws/\x∉st.2
  ·rw[if_pos q]
   have S:=(N.1 q).2.1
   refine ⟨by rw[iz,j.1],λi p h=>?_⟩
   by_cases hi:i<st.1.length
   ·rw[List.getElem?_append_left hi] at h
    rw[List.take_append_of_le_length (le_of_lt hi)]
    exact j.2 i p h
   ·rw[List.getElem?_append_right (le_of_not_lt hi)] at h
    have h0:i-st.1.length=0:=by
     have:=(List.getElem?_eq_some_iff.mp h).1
     rw[length_singleton] at this
     exact Nat.lt_one_iff.mp this
    have l:i=st.1.length:=le_antisymm (Nat.sub_eq_zero_iff_le.mp h0) (le_of_not_lt hi)
    rw[h0] at h
    cases h
    rw[l,List.take_left,j.1]
    exact ⟨S,q⟩
  ·rw[if_neg q]; exact j
theorem wT {c:Nat}{u:List (List Int)}{ws h0:List Int}(hu:u≠[]) (hr:∀ r∈u,Srt c r) (nf:NoF c u) (hw:ws.length=c) (hh:h0∈u):Wk u ws (av u ws) h0 (b8 u (av u ws) h0 (aR ws)).1/\du h0 (b8 u (av u ws) h0 (aR ws)).1=av u ws:=by
 obtain ⟨a,b⟩:=qt hu hr nf hw hh _ (aR ws) [] rfl (append_nil _).symm
 exact ⟨b,a.trans (rl hu hr nf hw (WayI.all hu hr nf hw hh _ (aR ws) [] rfl (append_nil _).symm))⟩
theorem Wk.row (hh:h∈u) (W:Wk u ws g h ss) (e:ss=pre++post):du h pre∈u:=by
 by_cases hne:pre=[]
 ·rw[hne]; exact hh
 ·obtain ⟨i,x,rfl⟩:∃ i x,pre=i++[x]:=⟨pre.dropLast,pre.getLast hne,(List.dropLast_concat_getLast hne).symm⟩
  rw[iz]
  exact (W.at (pre:=i) (p:=x) (post:=post) (by rw[e,append_assoc]; rfl)).1.ex
noncomputable def qY:Fn:=⟨[],.nil⟩
noncomputable def sZ:Fn:=⟨[],.nil⟩
noncomputable def vF:Fn:=⟨[],.nil⟩
noncomputable def pA:Fn:=⟨[],.nil⟩
noncomputable def qO:Fn:=⟨[],.nil⟩
noncomputable def eJ:Fn:=⟨["_law_table_here", "_law_weights", "_law_goal"],
(.cons (.ite (.or (.not (.isi (.name "_law_goal") "list")) (.cmp .notin (.name "_law_goal") (.name "_law_table_here")))
(.cons (.ret (.bool false))
.nil)
.nil)
(.cons (.for1 "_law_choice" (.e (.name "_law_table_here"))
(.cons (.ite (.or (.cmp .ne (.bi1 .len (.name "_law_choice")) (.bi1 .len (.name "_law_goal"))) (.cmp .gt (.call "_law_sum" (.cons (.name "_law_weights") (.cons (.name "_law_choice") .nil))) (.call "_law_sum" (.cons (.name "_law_weights") (.cons (.name "_law_goal") .nil)))))
(.cons (.ret (.bool false))
.nil)
.nil)
.nil))
(.cons (.ret (.bool true))
.nil)))⟩
noncomputable def iU:Fn:=⟨["_law_table_here", "_law_weights", "_law_here", "_law_steps"],
(.cons (.for2 "_law_out" "_law_thing" (.e (.name "_law_steps"))
(.cons (.ite (.or (.cmp .notin (.name "_law_out") (.name "_law_here")) (.or (.cmp .isin (.name "_law_thing") (.name "_law_here")) (.cmp .lt (.sub (.name "_law_weights") (.name "_law_thing")) (.sub (.name "_law_weights") (.name "_law_out")))))
(.cons (.ret .none)
.nil)
.nil)
(.cons (.assign "_law_here" (.bi1 .sorted (.bin .add (.compif (.name "_law_one") "_law_one" (.e (.name "_law_here")) (.cmp .ne (.name "_law_one") (.name "_law_out"))) (.list (.cons (.name "_law_thing") .nil)))))
(.cons (.ite (.cmp .notin (.name "_law_here") (.name "_law_table_here"))
(.cons (.ret .none)
.nil)
.nil)
.nil))))
(.cons (.retn "_law_here")
.nil))⟩
noncomputable def su:Fn:=⟨["_law_script"],
(.cons (.assign "_law_made" (.call "_law_held" (.cons (.name "_law_script") .nil)))
(.cons (.assign "_law_count" (.sub (.name "_law_made") (.int 0)))
(.cons (.assign "_law_table_here" (.comp (.bi1 .sorted (.name "_law_choice")) "_law_choice" (.e (.sub (.name "_law_made") (.int 1)))))
(.cons (.assign "_law_rule" (.call "Rule" (.cons (.name "_law_count") (.cons (.name "_law_table_here") .nil))))
(.cons (.assign "_law_mode" (.bin .mod (.call "_law_cell_at" (.cons (.name "_law_script") (.cons (.int 3) .nil))) (.int 4)))
(.cons (.assign "_law_weights" (.comp (.call "_law_weight" (.cons (.call "_law_cell_at" (.cons (.name "_law_script") (.cons (.bin .add (.int 13) (.name "_law_thing")) .nil))) (.cons (.name "_law_mode") .nil))) "_law_thing" (.r1 (.name "_law_count"))))
(.cons (.assign "_law_goal" (.call "picked" (.cons (.name "_law_rule") (.cons (.bi1 .list (.name "_law_weights")) .nil))))
(.cons (.ite (.not (.call "_law_heaviest" (.cons (.name "_law_table_here") (.cons (.name "_law_weights") (.cons (.name "_law_goal") .nil)))))
(.cons (.ret (.bool false))
.nil)
.nil)
(.cons (.assign "_law_held_here" (.bi1 .list (.name "_law_goal")))
(.cons (.assign "_law_about" (.comp (.neg (.name "_law_weight_here")) "_law_weight_here" (.e (.name "_law_weights"))))
(.cons (.assign "_law_other" (.call "picked" (.cons (.name "_law_rule") (.cons (.bi1 .list (.name "_law_about")) .nil))))
(.cons (.ite (.not (.call "_law_heaviest" (.cons (.name "_law_table_here") (.cons (.name "_law_about") (.cons (.name "_law_other") .nil)))))
(.cons (.ret (.bool false))
.nil)
.nil)
(.cons (.ite (.cmp .ne (.call "_law_walked" (.cons (.name "_law_table_here") (.cons (.name "_law_about") (.cons (.name "_law_goal") (.cons (.call "way" (.cons (.name "_law_rule") (.cons (.bi1 .list (.name "_law_about")) (.cons (.bi1 .list (.name "_law_goal")) .nil)))) .nil))))) (.name "_law_other"))
(.cons (.ret (.bool false))
.nil)
.nil)
(.cons (.ite (.cmp .ne (.call "_law_walked" (.cons (.name "_law_table_here") (.cons (.name "_law_weights") (.cons (.name "_law_other") (.cons (.call "way" (.cons (.name "_law_rule") (.cons (.bi1 .list (.name "_law_weights")) (.cons (.bi1 .list (.name "_law_other")) .nil)))) .nil))))) (.name "_law_goal"))
(.cons (.ret (.bool false))
.nil)
.nil)
(.cons (.ret (.and (.cmp .eq (.call "way" (.cons (.name "_law_rule") (.cons (.bi1 .list (.name "_law_weights")) (.cons (.bi1 .list (.name "_law_goal")) .nil)))) (.list .nil)) (.and (.cmp .eq (.call "picked" (.cons (.name "_law_rule") (.cons (.bi1 .list (.name "_law_weights")) .nil))) (.name "_law_held_here")) (.cmp .eq (.name "_law_goal") (.name "_law_held_here")))))
.nil)))))))))))))))⟩
noncomputable def p_L:List (String×Fn):=[("PickError", qY),("NoChoice", sZ),("NoThing", vF),("NoExchange", pA),("NoWeights", qO),("exchanged", p_exchanged),("known_of", p_known_of),("goes", p_goes),("fault", p_fault),("need_row", p_need_row),("Rule", p_Rule),("together", p_together),("rank", p_rank),("need_full", p_need_full),("outs", p_outs),("exchanges", p_exchanges),("order", p_order),("picked", p_picked),("way", p_way),("_law_cell_at", l_cell_at),("_law_bit", l_bit),("_law_subsets", l_subsets),("_law_apart", l_apart),("_law_parts", l_parts),("_law_few", l_few),("_law_pairs_by", l_pairs_by),("_law_table", l_table),("_law_can", l_can),("_law_fault", l_fault),("_law_held", l_held),("_law_weight", iP),("_law_sum", n9),("_law_heaviest", eJ),("_law_walked", iU),("law", su)]
theorem libH:LibH p_L:=⟨⟨rfl,rfl,rfl,rfl,rfl,rfl,rfl,rfl,rfl,rfl,rfl,rfl,rfl⟩,rfl,rfl⟩
theorem sb:LibR p_L:=⟨libH.toLib,rfl,rfl,⟨_,rfl⟩⟩
theorem libW:LibW p_L:=⟨⟨⟨sb,rfl,rfl⟩,rfl,rfl,rfl,rfl⟩,⟨sb,rfl,rfl,rfl,rfl⟩,rfl⟩
theorem n0 (n:Nat) (t:List (List Int)) (ws g:List Int) (hg:g∈t) (hr:∀ r∈t,(∀ x∈r,0<=x/\x<ws.length)/\r.length=g.length/\b7 ws r<=b7 ws g):au (mkC p_L (n+1)) eJ [.d (ad t),.d (aa ws),.d (aa g)] = .ok (sB true):=by
 unfold eJ
 refine cg rfl λi H=>?_
 refine Runs.no (gi (p:=false) (q:=false) (jk (t:=true) (FA (H.ev (x:="_law_goal") rfl) rfl)) λ_=>bq (H.ev (x:="_law_goal") rfl) (H.ev (x:="_law_table_here") rfl) ((k7 _ _).trans (by rw[decide_eq_true hg]; rfl))) ?_
 refine Runs.for (g:=aa) (xs:=t) (λj i=>Has i [("_law_weights", .d (aa ws)),("_law_goal", .d (aa g))]) (aE (H.ev (x:="_law_table_here") rfl) (aS t .sh)) (λo h _=>(h _ H).sub ⟨rfl,rfl,trivial⟩) ?_ λi H=>Runs.ret (gq true) rfl
 intro j y m hp i H
 have H1:=H.mk "_law_choice" (.d (aa y))
 obtain ⟨r1,v,u⟩:=hr y (by rw[hp]; simp)
 have k:∀ (z:String) (l:List Int),(∀ x∈l,0<=x/\x<ws.length)->ev (mkC p_L (n+1)) (.name z) (upd i "_law_choice" (mk (.d (aa y)))) = .ok (.d (aa l),.sh)->ev (mkC p_L (n+1)) (.call "_law_sum" (.cons (.name "_law_weights") (.cons (.name z) .nil))) (upd i "_law_choice" (mk (.d (aa y)))) = .ok (sI (b7 ws l)):=λz l hl hz=>bN (show p_L.lookup "_law_sum" = some n9 from rfl) (af (H1.ev (x:="_law_weights") rfl) (af hz ax)) rfl (xw _ ws l hl)
 refine Runs.no (gi (p:=false) (q:=false) ((kJ (dN (H1.ev (x:="_law_choice") rfl)) (dN (H1.ev (x:="_law_goal") rfl))).trans (by rw[v]; simp)) λ_=>(tl (k _ y r1 (H1.ev (x:="_law_choice") rfl)) (k _ g (hr g hg).1 (H1.ev (x:="_law_goal") rfl))).trans (by rw[decide_eq_false (not_lt.mpr u)])) (Runs.nil (H1.sub ⟨rfl,rfl,trivial⟩))
theorem pX {C:Calls}{body:Ss}{x y:String}{Post:St->Flw->Prop}{xs:List (Int×Int)}(Inv:List (Int×Int)->St->Prop)
  (hs:∀ pre q post,xs=pre++q::post->∀ σ,Inv pre σ->Runs C body (upd (upd σ x (sI q.1)) y (sI q.2)) (λσ' fl=>match fl with | .next=>Inv (pre++[q]) σ' | .ret v=>Post σ' (.ret v))) :
  ∀ (post pre:List (Int×Int)) (σ:St),xs=pre++post->Inv pre σ->∃ o,bC (λd σ=>am ((ml d).map λp=>upd (upd σ x (sI p.1)) y (sI p.2)) (exs C body)) (post.map gc) σ = .ok o/\match o.2 with | .next=>Inv xs o.1 | .ret v=>Post o.1 (.ret v)
 | [],pre,σ,hl,h=>⟨(σ,.next),rfl,by rw[hl,append_nil]; exact h⟩
 | q::post,pre,σ,hl,h=>by
  obtain ⟨a,f,l,i⟩:=hs pre q post hl σ h
  have g:am ((ml (gc q)).map λp=>upd (upd σ x (sI p.1)) y (sI p.2)) (exs C body) = .ok (a,f):=l
  cases f with
  | ret v=>exact ⟨(a,.ret v),by rw[map_cons,bC,g]; rfl,i⟩
  | next=>
   obtain ⟨o,k,j⟩:=pX Inv hs post (pre++[q]) a (by rw[hl,append_assoc]; rfl) i
   exact ⟨o,by rw[map_cons,bC,g]; exact k,j⟩
theorem Runs.for2 (Inv:List (Int×Int)->St->Prop) (hit:a0 C it σ = .ok (xs.map gc,m)) (h0:∀ σ0,(∀ l,Has σ l->Has σ0 l)->Inv [] σ0)
  (hs:∀ pre q post,xs=pre++q::post->∀ σ,Inv pre σ->Runs C body (upd (upd σ x (sI q.1)) y (sI q.2)) (λσ' fl=>match fl with | .next=>Inv (pre++[q]) σ' | .ret v=>Post σ' (.ret v)))
  (k:∀ σ',Inv xs σ'->Runs C b σ' Post):Runs C (.cons (.for2 x y it body) b) σ Post:=by
 obtain ⟨o,h,g⟩:=pX Inv hs xs [] (consume σ (bQ it) m) rfl (h0 _ fq.1)
 refine Runs.cons (o:=o) (by rw[pL,hit]; exact h) ?_
 obtain ⟨a,f⟩:=o
 cases f with
 | next=>exact k a g
 | ret v=>exact g
theorem qU (C:Calls) (c:Nat) (u t:List (List Int)) (ws g h:List Int) (ss:List (Int×Int)) (hu:∀ r∈u,r.length<=100/\Srt c r) (hm:∀ r,r∈u↔r∈t) (hw:ws.length=c) (hg:g∈u) (hh:h∈u) (W:Wk u ws g h ss):∃ q,au C iU [.d (ad t),.d (aa ws),.d (aa h),.d (aW ss)] = .ok q/\q.1 = .d (aa (du h ss)):=by
 unfold iU
 refine c7 rfl λk H=>?_
 refine Runs.for2 (xs:=ss) (λj k=>Has k [("_law_here", .d (aa (du h j))),("_law_weights", .d (aa ws)),("_law_table_here", .d (ad t))]) (aE (H.ev (x:="_law_steps") rfl) (show itV (mk (.d (aW ss))) = .ok (ss.map gc,.sh) from rfl)) (λσ0 h'=>(h' _ H).sub ⟨rfl,rfl,rfl,trivial⟩) ?_ λk H=>?_
 ·intro j q o y k H
  have S:=W.at y
  have hS:=hu _ (W.row hh y)
  have H1:=(H.upd "_law_out" (.d (.int q.1)) .deep).upd "_law_thing" (.d (.int q.2)) .deep
  have b1:=hS.2.2 q.1 S.1.oh
  have n:=(hu _ hg).2.2 q.2 S.2.1
  have v:∀ {i:Int},0<=i/\i<c->ws[i.toNat]? = some (wt ws i):=λ{i} z=>by
   have:i.toNat<ws.length:=by lia
   rw[List.getElem?_eq_getElem this]
   unfold wt
   rw[List.getD_eq_getElem?_getD,List.getElem?_eq_getElem this]; rfl
  refine Runs.no (gi (p:=false) (q:=false) ((iA (H1.ev (x:="_law_out") rfl) (H1.ev (x:="_law_here") rfl)).trans (by rw[decide_eq_true S.1.oh]; rfl)) λ_=>gi (p:=false) (q:=false) ((kI (H1.ev (x:="_law_thing") rfl) (H1.ev (x:="_law_here") rfl)).trans (by rw[decide_eq_false S.2.2])) λ_=>(me (fu (H1.ev (x:="_law_weights") rfl) (H1.ev (x:="_law_thing") rfl) n.1 (v n)) (fu (H1.ev (x:="_law_weights") rfl) (H1.ev (x:="_law_out") rfl) b1.1 (v b1))).trans (by rw[decide_eq_false (not_lt.mpr S.1.wt)])) ?_
  have hfl:((du h j).filter λx=>!decide (x=q.1)).length<=(du h j).length:=length_filter_le ..
  refine Runs.setD H1 (r:=(.d (aa (exchF (du h j) q.1 q.2)),.deep)) (fz (eK (cK (λi=>!decide (i=q.1)) (aE (H1.ev (x:="_law_here") rfl) (ba _ .sh)) λi _=>?_) (fm (H1.ev (x:="_law_thing") rfl)) (by rw[length_singleton]; lia)) (by rw[length_append,length_singleton]; lia) λi z=>?_) rfl λk H2 _ _=>?_
  ·have H2:=H1.upd "_law_one" (.d (.int i)) .deep
   exact kJ (H2.ev (x:="_law_one") rfl) (H2.ev (x:="_law_out") rfl)
  ·rcases mem_append.mp z with a | a
   ·exact (hS.2.2 i (mem_filter.mp a).1).1
   ·rw[mem_singleton.mp a]; exact n.1
  refine Runs.no (bq (H2.ev (x:="_law_here") rfl) (H2.ev (x:="_law_table_here") rfl) ((k7 _ _).trans (by rw[decide_eq_true ((hm _).mp S.1.ex)]; rfl))) (Runs.nil ?_)
  show Has _ _
  rw[iz]
  exact H2.sub ⟨rfl,rfl,rfl,trivial⟩
 obtain ⟨m,l⟩:=H "_law_here" _ rfl
 exact Runs.retn l ⟨_,rfl,rfl⟩
theorem wN (u:List (List Int)) (g:List Int) (l:List Int):b8 u g g l=([],g):=by
 unfold b8
 induction l with
 | nil=>rfl
 | cons x l ih=>
  rw[foldl_cons]
  have:dO u g ([],g) x=([],g):=by unfold dO; exact if_neg λh=>h.2 h.1
  rw[this]; exact ih
theorem wP (s:List Int) (hs:s.length<=63):∃ m,au (mkC p_L 8) su [.d (aa s)] = .ok (.d (.bool true),m):=by
 refine ⟨.deep,?_⟩
 unfold su
 refine cg rfl λσ H=>?_
 obtain ⟨oq,e1,c,t,hr,hd⟩:=dF (σ:=σ) (n:=7) libH.held (es:=.cons (.name "_law_script") .nil) (af (H.ev rfl) ax) rfl (uP libH 3 s hs)
 obtain ⟨rv,rm⟩:=oq
 cases hr
 have hc:c<=100:=hd.hc
 have hSr:∀ r∈t,Srt c r:=λr h=>(hd.rows r h).2
 refine Runs.set H e1 λσ H _=>?_
 refine Runs.set H (th (m:=.sh) (H.ev (x:="_law_made") rfl) (aj 0)) λσ H _=>?_
 refine ae (da (C:=mkC p_L 8) (σ:=σ) (g:=aa) (l:=t) (z:="_law_choice") (it:=.e (.sub (.name "_law_made") (.int 1))) (a:=.bi1 .sorted (.name "_law_choice")) (λr=>r) .deep (aE (r5 (m:=.sh) (H.ev (x:="_law_made") rfl) (aj 1)) (aS t .sh)) λr h=>lc ((Has.nil.mk "_law_choice" (.d (aa r))).ev rfl) (lt_of_le_of_lt (hd.rows r h).1 (by decide)) (λi hi=>((hSr r h).2 i hi).1) (hSr r h).1) λm1 e2 _=>?_
 rw[List.map_id'] at e2
 refine Runs.set H e2 λσ H _=>?_
 clear e1 e2
 obtain ⟨u,x,er,hm,hx,_⟩:=tK sb 4 c t (zV hc) hd.ne hd.len hd.rows hd.nf
 refine Runs.setD H (Ai sb (af (H.ev (x:="_law_count") rfl) (af (H.ev (x:="_law_table_here") rfl) ax)) rfl er) rfl λσ H _ _=>?_
 have hu:u≠[]:=λq=>by rw[q] at hx; cases hx
 have rU:∀ r∈u,r.length<=100/\Srt c r:=λr h=>hd.rows r ((hm r).mp h)
 have sU:∀ r∈u,Srt c r:=λr h=>(rU r h).2
 have fU:NoF c u:=hd.nf.set λr=>(hm r).symm
 refine Runs.setD H (bh (b9 libH.toLib (H.ev (x:="_law_script") rfl) (aj 3) (by decide)) (aj 4) (by decide)) rfl λσ H _ _=>?_
 generalize bx s 3%4=mode at H
 refine Runs.setD H (fY (g:=PyData.int) (l:=aP c) (λi=>jJ (bx s (13+i)) mode) (ck (H.ev (x:="_law_count") rfl) (GA hc)) λi hi=>?_) rfl λσ H _ _=>?_
 ·have H1:=H.mk "_law_thing" (.d (.int i))
  have:=mem_upTo.mp hi
  exact bN (show p_L.lookup "_law_weight" = some iP from rfl) (af (b9 libH.toLib (H1.ev (x:="_law_script") rfl) (cC (aj 13) (H1.ev (x:="_law_thing") rfl)) (F5 this)) (af (H1.ev (x:="_law_mode") rfl) ax)) rfl (qE _ _ _)
 obtain ⟨ws,hws⟩:∃ ws,(aP c).map (λi=>jJ (bx s (13+i)) mode)=ws:=⟨_,rfl⟩
 rw[hws] at H
 have hwl:ws.length=c:=by rw[<- hws,length_map,bF]
 have hnl:(kW ws).length=c:=by unfold kW; rw[length_map]; exact hwl
 have H:=H.sub (l':=[("_law_weights", .d (aa ws)),("_law_rule", .rule c (ad u) x.length),("_law_table_here", .d (ad t))]) ⟨rfl,rfl,rfl,trivial⟩
 have pk:=λn (ws:List Int) (hwl:ws.length=c)=>ke libW.o n c x.length u ws hu (λr h=>kO (sU r h).1) hc hwl
 have gm:=λ(ws:List Int) (hwl:ws.length=c)=>vY (ws:=ws) hu sU hwl
 have hv:=λ(ws:List Int) (hwl:ws.length=c)=>n0 6 t ws (av u ws) ((hm _).mp (gm ws hwl)) λr h=>⟨λx hx=>by rw[hwl]; exact (hSr r h).2 x hx,fU.len sU ((hm r).mpr h) (gm ws hwl),uc hu sU fU hwl ((hm r).mpr h)⟩
 have wy:=λ(ws:List Int) (hwl:ws.length=c) (g:List Int) (hg:g∈u)=>wg libW 2 c x.length u ws g hu rU fU hc hwl (sU g hg).good (by rw[gh (sU g hg).1]; exact hg)
 have wk:=λ(ws:List Int) (hwl:ws.length=c) (g:List Int) (hg:g∈u)=>wT (ws:=ws) (h0:=g) hu sU fU hwl hg
 have full:∀ (σ:St) (ws:List Int) (hwl:ws.length=c) (g:List Int) (hg:g∈u) (w z y:String) (l:List (String×V)),Has σ l->l.lookup w=some (.d (aa ws))->l.lookup z=some (.d (aa g))->l.lookup y=some (.d (aa (av u ws)))->l.lookup "_law_rule" = some (.rule c (ad u) x.length)->l.lookup "_law_table_here" = some (.d (ad t)) ->
   ev (mkC p_L 8) (.cmp .ne (.call "_law_walked" (.cons (.name "_law_table_here") (.cons (.name w) (.cons (.name z) (.cons (.call "way" (.cons (.name "_law_rule") (.cons (.bi1 .list (.name w)) (.cons (.bi1 .list (.name z)) .nil)))) .nil))))) (.name y)) σ = .ok (sB false):=λσ ws hwl g hg w z y l H h1 h2 h3 h4 h5=>by
  have w1:=wy ws hwl g hg
  rw[gh (sU g hg).1] at w1
  obtain ⟨W,we⟩:=wk ws hwl g hg
  obtain ⟨q,e3,e4⟩:=dF (σ:=σ) (n:=7) (show p_L.lookup "_law_walked" = some iU from rfl) (af (H.ev h5) (af (H.ev h1) (af (H.ev h2) (af (bN libW.way (af (H.ev h4) (af (dH (H.ev h1)) (af (dH (H.ev h2)) ax))) rfl w1) ax)))) rfl (qU _ c u t ws (av u ws) g _ rU hm hwl (gm ws hwl) hg W)
  obtain ⟨qv,qm⟩:=q
  dsimp only at e4
  rw[we] at e4
  subst e4
  exact (ER e3 (H.ev h3)).trans (by simp)
 refine Runs.setD H (bN libW.o.picked (af (H.ev (x:="_law_rule") rfl) (af (dH (H.ev (x:="_law_weights") rfl)) ax)) rfl (pk 3 ws hwl)) rfl λσ H _ _=>?_
 refine Runs.no (jk (t:=true) (bN (show p_L.lookup "_law_heaviest" = some eJ from rfl) (af (H.ev (x:="_law_table_here") rfl) (af (H.ev (x:="_law_weights") rfl) (af (H.ev (x:="_law_goal") rfl) ax))) rfl (hv ws hwl))) ?_
 refine Runs.setD H (dH (H.ev (x:="_law_goal") rfl)) rfl λσ H _ _=>?_
 refine Runs.setD H (r:=(.d (aa (kW ws)),.deep)) (AI (λx=>-x) (aE (H.ev (x:="_law_weights") rfl) (ba ws .sh)) λi _=>yB (l6 (p:=sI i) (if_pos rfl) rfl)) rfl λσ H _ _=>?_
 refine Runs.setD H (bN libW.o.picked (af (H.ev (x:="_law_rule") rfl) (af (dH (H.ev (x:="_law_about") rfl)) ax)) rfl (pk 3 (kW ws) hnl)) rfl λσ H _ _=>?_
 refine Runs.no (jk (t:=true) (bN (show p_L.lookup "_law_heaviest" = some eJ from rfl) (af (H.ev (x:="_law_table_here") rfl) (af (H.ev (x:="_law_about") rfl) (af (H.ev (x:="_law_other") rfl) ax))) rfl (hv (kW ws) hnl))) ?_
 refine Runs.no (full σ (kW ws) hnl _ (gm ws hwl) _ _ _ _ H rfl rfl rfl rfl rfl) ?_
 refine Runs.no (full σ ws hwl _ (gm (kW ws) hnl) _ _ _ _ H rfl rfl rfl rfl rfl) ?_
 have w0:=wy ws hwl _ (gm ws hwl)
 rw[gh (sU _ (gm ws hwl)).1,wN] at w0
 have en:ev (mkC p_L 8) (.list .nil) σ = .ok (.d (aW []),.deep):=by simp only[bp,aV]; rfl
 exact Runs.ret (gW (p:=true) (q:=true) (JC (bN libW.way (af (H.ev (x:="_law_rule") rfl) (af (dH (H.ev (x:="_law_weights") rfl)) (af (dH (H.ev (x:="_law_goal") rfl)) ax))) rfl w0) en) λ_=>gW (p:=true) (q:=true) ((sW (bN libW.o.picked (af (H.ev (x:="_law_rule") rfl) (af (dH (H.ev (x:="_law_weights") rfl)) ax)) rfl (pk 3 ws hwl)) (H.ev (x:="_law_held_here") rfl)).trans (by simp)) λ_=>(sW (H.ev (x:="_law_goal") rfl) (H.ev (x:="_law_held_here") rfl)).trans (by simp)) rfl
open PySem.W
noncomputable def rw0:RowW:=OpenRow.toRowW (OpenLaw.row PySem.Challenge.rw_uf050037_09)
noncomputable def vw:Program:={rw0.prog with main:={rw0.prog.main with body:=rw0.prog.main.body.filter λs=>(qf s).isNone } }
theorem AG:(defOf vw (OpenLaw.row PySem.Challenge.rw_uf050037_09).name).isSome=true:=by kernel_rfl
noncomputable def dw:=(defOf vw (OpenLaw.row PySem.Challenge.rw_uf050037_09).name).get AG
theorem AA:dw.1.name=Str.ofString "law" := by kernel_rfl
noncomputable def hk:=KV
end Internal
set_option tactic.hygienic true
open PySem PySem.W PyProof.Rows
set_option maxRecDepth 100000
set_option maxHeartbeats 8000000
theorem PySem.Challenge.cw_uf050037_09_holds : PySem.Challenge.rw_uf050037_09.Holds := by
  w_on
  refine holds_law (by
    unfold OpenLaw.wellSaid
    iterate 18 (refine look_both ?_ ?_)
    · unfold OpenRow.wellSaid
      iterate 2 (refine look_both ?_ ?_)
      · unfold OpenRow.partSaid
        iterate 12 (refine look_both ?_ ?_)
        · unfold looksOpen
          iterate 5 (refine look_both ?_ ?_)
          all_goals decide +kernel
        all_goals decide +kernel
      all_goals decide +kernel
    all_goals decide +kernel) fun said=>?_
  refine holds_open (q:=Internal.vw) (loose:=[]) (Xt:=fun s=>xlAt Internal.vw [] s && recOk (RowW.records Internal.rw0) s) (XP:=XL Internal.vw []) (Yf:=Hook.obs Internal.hk) (Ya:=Hook.val Internal.hk) (YP:=Hook.says Internal.hk) (d:=Internal.dw.1) (kwd:=Internal.dw.2) (N:=5000) ?hl (Hook.of Internal.hk) (Hook.keeps Internal.hk) (fun s e=>xl_of s (Bool.and_eq_true_iff.mp e).1) XL.keeps (by kernel_rfl) (by kernel_rfl) (by kernel_rfl) (fun s e=>recFacts_of (Bool.and_eq_true_iff.mp e).2) (by rfl) (by assumption) (by decide +kernel) ⟨rfl,rfl,rfl,rfl,rfl,by decide +kernel⟩ ?hw ?hc
  case hl=>exact fun w=>by kernel_rfl
  case hw=>w_witness2
  intro w s₀ s₁ mg mb G Y fa o pm cd doc dV kV ho hd hcd hD hmg hg args vals as hpre hlay hrd hwl hlo
  refine Ground.open G ?_
  intro T B D TE TW
  clear hd hcd hD
  rw [Internal.AA] at hmg
  wrow_args hpre hlay hrd hwl hlo
  rename_i ns _ _ _ _ _ _ _ a vs _ hL ra w1 r0 hI hr hc1 hc2
  have e:=Internal.sD (by simpa only [ofPy] using w1) hL
  obtain ⟨m,hsp⟩:=Internal.wP ns (by omega)
  refine Internal.wG (n:=8) (ns:=ns) T TE Y (L:=Internal.p_L) (by kernel_rfl) (by kernel_rfl) (by kernel_rfl) rfl rfl hmg (by decide) hsp e hI (by omega) fun h' tk kk=>?_
  refine ⟨.inl ⟨_,.bool true,[],rfl,?_,?_,?_,?_⟩,kk,rfl,.of_eq hg⟩
  · intro cls; first | rfl | exact raisesW_false allW_false_nil
  · exact .bool true
  · wrow_post
  · exact fun _=>⟨.nil,fun _ h=>nomatch h⟩
