import PyProof.Rows.All
import Wide.All
import Wide.FinOn
import Open.Line
import PyProof.P3Statements
import PyProof.Lay0
import PyProof.P3In
import PyProof.NeData
import PyProof.CompFree
import PyProof.DictRoadsH
import PyProof.DictWalks
import PyProof.Rows.SortShell
import PyProof.Rows.RuleB_xor
import PyProof.Rows.RuleB_small
import PyProof.Rows.RuleB_floordiv
import PyProof.Rows.RuleB_mod
import PyProof.Rows.RuleB_mul
import PyProof.Rows.IntRules
import PyProof.Rows.RuleC_int
import PyProof.Rows.RuleU_int
import PyProof.ListOps
import PyProof.Cells
import PyProof.Calls
import PyProof.SliceMore
import PyProof.TupleOfSeq
import PyProof.ListCopy
import PyProof.CodeObjX
import PyProof.Rows.PlainObj
import PyProof.ExcClass2
import PyProof.DictStraight
import PyProof.Rows.StrTemp
import PyProof.TupleOps
import PyProof.ListIndexNeg
import PyProof.Rules3
import PyProof.SliceList
import PyProof.Rows.TupSub
import PyProof.ForRange
import PyProof.Rows.DictMade
import PyProof.WalkInts
import PyProof.SeqI3
import PyProof.SumWalkG
import PyProof.WalksMore
import PyProof.IsiPairs
import PyProof.IsiHeapPairs
import PyProof.ListRange
import PyProof.Rows.SortWalk
import PyProof.IsiNone
import PyProof.Rows.SortRuns
import PyProof.Rows.CallKwBuiltin
import PyProof.DefMake
import PyProof.EvalArms
import PyProof.RangeFor
import PyProof.ListNew
import PyProof.Rows.DictUnroll
import PyProof.Rows.PlainNoArg
import PyProof.LetGo
import PyProof.ForAppend
import PyProof.CallRoads
import PyProof.MeetsSeq
import PyProof.AutoSeq1
import PyProof.ForAny
import PyProof.Raises
import PyProof.RaisesMany
import PyProof.StationsW
import PyProof.ExcBaseAll.ValueError
import PyProof.Rows.TupTab
import PyProof.RulesTry
import PyProof.ObjNew
import PyProof.InstStore
import PyProof.AssignAttr
import PySem.Challenge.RW_uf050037_06
set_option Elab.async false
set_option autoImplicit true
set_option bootstrap.genMatcherCode false
set_option genSizeOf false

set_option tactic.hygienic false
set_option linter.unusedVariables false
set_option linter.unusedSectionVars false
universe u0 u1 u2 u3 u4 u5 u6 u7 u8 u9 u10 u11
open List (all_eq_true all_map append_assoc append_nil drop_drop drop_eq_getElem_cons drop_length drop_nil drop_zero filterMap_cons filter_cons forIn_cons getElem_drop getElem_of_mem getElem_take isEmpty_iff length_append length_cons length_drop length_filter_le length_map length_pos_iff length_set length_singleton length_take length_zip lookup_cons map_append map_cons map_id map_map mem_append mem_append_left mem_append_right mem_cons mem_cons_self mem_filter mem_map mem_of_getElem? mem_of_mem_drop mem_of_mem_take mem_singleton mergeSort_perm nodup_append nodup_cons not_mem_nil pairwise_append pairwise_map perm_append_comm size_toArray take_append_drop take_nil take_of_length_le zip_cons_cons)
open Array (getElem_mem length_toList mem_toList_iff size_zip toList_append toList_inj toList_push toList_reverse)
open Nat (add_assoc add_comm add_le_add add_le_add_left add_le_add_right add_lt_add_left add_right_comm add_sub_cancel_left add_sub_of_le add_zero le_add_left le_add_right le_antisymm le_max_right le_of_eq le_of_lt le_of_lt_succ le_of_not_lt le_of_succ_le le_refl le_sub_of_add_le le_sub_one_of_lt le_succ le_succ_of_le le_trans lt_irrefl lt_of_le_of_lt lt_of_le_of_ne lt_of_lt_of_le lt_of_not_le lt_of_succ_le lt_succ_of_le lt_succ_of_lt lt_trans min_eq_left min_eq_right min_le_left ne_of_gt ne_of_lt not_lt_of_le pow_le_pow_right sub_add_cancel sub_le sub_le_sub_right sub_lt sub_pos_of_lt sub_self succ_le_of_lt succ_le_succ succ_pos zero_add zero_le)
open Bool (and_eq_true and_eq_true_iff false_eq_true not_eq_true or_eq_false_iff or_eq_true)
open Option (bind_eq_some_iff bind_some isNone_iff_eq_none map_eq_some_iff map_some)
open Int (add_nonneg emod_lt_of_pos emod_nonneg natCast_nonneg not_le not_lt ofNat_le ofNat_lt toNat_of_nonneg)
open PySem.Heap (lt_size size_push)
namespace Internal
section
open Nat (add_lt_of_lt_sub le_min le_total lt_add_of_pos_right lt_of_sub_pos lt_sub_of_add_lt min_le_right mul_two not_le_of_lt not_lt_zero one_pos sub_le_sub_left sub_sub two_mul)
theorem nLe {x n:Nat}(h:(x:Int)<=@OfNat.ofNat Int n instOfNat):x<=n:=ofNat_le.mp h
theorem nLm {x n:Nat}(h:x<=n):(x:Int)<=@OfNat.ofNat Int n instOfNat:=ofNat_le.mpr h
theorem lte {a b c:Nat}(h:a<c) (e:b=c):a<b:=e▸h
theorem lee {a b c:Nat}(h:a<=c) (e:b=c):a<=b:=e▸h
theorem elt {a b c:Nat}(e:a=c) (h:c<b):a<b:=e▸h
theorem ele {a b c:Nat}(e:a=c) (h:c<=b):a<=b:=e▸h
theorem jle {a b c:Int}(e:a=c) (h:c<=b):a<=b:=e▸h
theorem nn {x:Int}{n:Nat}(e:x = ↑n):0<=x:=e▸natCast_nonneg n
theorem m9 {x:Int}{n:Nat}(h:7+x/9%3 = ↑n):n<=9:=by lia
theorem m18 {x:Int}{n:Nat}(h:7+x%12 = ↑n):n<=18:=by lia
theorem m12 {x:Int}{n:Nat}(h:7+x%6 = ↑n):n<=12:=by lia
theorem m4 {x:Int}{n:Nat}(h:1+x%4 = ↑n):n<=4:=by lia
theorem m5 {x:Int}{n:Nat}(h:x%6 = ↑n):n<=5:=by lia
theorem p9 {x y:Int}(h:1+x/3%9=y):0<y:=by lia
theorem q9 {x y:Int}(h:1+x/3%9=y):y<=9:=by lia
theorem r9 {x y:Int}(h:x/27%9=y):0<=y:=by lia
theorem dbl {a b:Nat}(h:a<=b):a+a<=b*2:=by lia
theorem tlt {x:Int}{n:Nat}(h0:0<n) (h:x < ↑n):x.toNat<n:=by lia
theorem tln {x:Int}{n:Nat}(h0:0<=x) (h:x < ↑n):x.toNat<n:=by lia
theorem nxl {a b c:Nat}(h:a+b<c):a<c:=lt_of_le_of_lt (le_add_right a b) h
theorem nxe {a b c:Nat}(h:a+b<=c):a<=c:=le_trans (le_add_right a b) h
theorem adl {a b c d:Nat}(h:b<c) (g:a+c<=d):a+b<d:=lt_of_lt_of_le (add_lt_add_left h a) g
theorem adE {a b c d:Nat}(h:b<=c) (g:a+c<=d):a+b<=d:=le_trans (add_le_add_left h a) g
theorem o4 {a b c:Nat}(h:a<c):a-b<c:=lt_of_le_of_lt (sub_le a b) h
theorem Ck {a b c:Nat}(h:a<=c):a-b<=c:=le_trans (sub_le a b) h
theorem mne {a b c:Nat}(h:b<=c):min a b<=c:=le_trans (Nat.min_le_right a b) h
theorem mnl {a b c:Nat}(h:a<=c):min a b<=c:=le_trans (min_le_left a b) h
theorem vlo{a b c:Nat}:a<=a+b-(a+b-(a+c)):=le_sub_of_add_le (add_le_add_left (le_trans (le_of_eq (Nat.add_sub_add_left a b c)) (sub_le b c)) a)
theorem pl {a b:Nat}(p:0<a) (h:a<b+1):a-1<b:=lt_of_lt_of_le (Nat.sub_one_lt (ne_of_gt p)) (le_of_lt_succ h)
theorem sl {a b:Nat}(h:1<=b):a+b-1<a+b:=sub_lt (lt_of_lt_of_le h (le_add_left _ _)) Nat.one_pos
theorem mn2{a b:Nat}:min a b+1+(b-a)=b+1:=by rw[add_right_comm,add_comm (min a b),Nat.min_comm,Nat.sub_add_min_cancel]
theorem ts {a b:Nat}{x:Int}(e:x = ↑b):((a:Int)-(x+1)).toNat=a-(b+1):=by subst e; exact Int.toNat_sub a (b+1)
theorem r9b {x y:Int}(h:x/27%9=y):y<=8:=h▸Int.le_of_lt_add_one (emod_lt_of_pos _ (by decide))
theorem rm1 {u k c:Nat}{b:Prop} [Decidable b] (h:u+100*k+(if b then 200 else 300)<c):u+1<c:=lt_of_le_of_lt (add_le_add (le_add_right u _) (by split<;>decide)) h
theorem na1 {a:Int}(h:a.natAbs<2^63):-2^64<a:=by lia
theorem na2 {a:Int}(h:a.natAbs<2^63):a<2^64:=by lia
theorem wle {a b:Nat}(h:1<=b) (e:0+a+(b-a)-1=b-1):a<=b:=(Nat.le_total a b).elim id λg=>by rw[zero_add,Nat.sub_eq_zero_of_le g,add_zero] at e; exact le_of_eq (Nat.sub_one_cancel (lt_of_lt_of_le h g) h e)
theorem hf (n:Nat):n/2<=n-1:=by
 cases n with
 | zero=>exact le_refl _
 | succ n=>exact le_of_lt_succ (Nat.div_lt_self (succ_pos n) (by decide))
variable {a b c d e f:Nat}
theorem la1{a:Int}{b:Nat}:0<=a->a<b->a.toNat<b:=λp q=>tln p q
theorem la2{a:Nat}:0<a->(↑a:Int)≠(0:Int):=λp=>Int.ne_of_gt (Int.natCast_pos.mpr p)
theorem la3{a:Nat}:0<a->(0:Int)<(↑a:Int):=λp=>Int.natCast_pos.mpr p
theorem la4{a:Int}{b:Nat}:0<b->a%b<b->(a%(↑b:Int)).toNat<b:=λp q=>tlt p q
theorem la5{a b c:Int}:c<=b->0<=a/\a<c->a<b:=λp q=>Int.lt_of_lt_of_le q.2 p
theorem la6{a b c:Int}:c<=b->0<=a/\a<c->0<=a/\a<b+1:=λp q=>And.intro q.1 (Int.lt_of_lt_of_le q.2 (Int.le_trans p (Int.le_of_lt (Int.lt_succ _))))
theorem la7{a b:Int}:0<=b->b<=a->0<=a/\a<a+1:=λp q=>And.intro (Int.le_trans p q) (Int.lt_succ _)
theorem la8{a b c:Int}:c<=b->0<=a/\a<c->0<=a/\a<b:=λp q=>And.intro q.1 (Int.lt_of_lt_of_le q.2 p)
theorem la9:b=a+(c+1)->a<b:=λp=>lte (lt_add_of_pos_right (succ_pos _)) p
theorem JI:a<=7->a<=1000000:=λp=>le_trans p (by decide)
theorem BJ:b<=7->a<b->a<=6:=λp q=>le_of_lt_succ (lt_of_lt_of_le q p)
theorem Lg:b<=7->c<b->a<=c->a+1<=1000000:=λp q r=>le_trans (le_trans (succ_le_of_lt (lt_of_le_of_lt r q)) p) (by decide)
theorem JG:a<=b->b<=2^6->a+a<=1000000:=λp q=>le_trans (dbl (le_trans p q)) (by decide)
theorem Cr:a<=b->a+a<=b*2:=λp=>dbl p
theorem Bx{a:Nat}:(↑a:Int)<=(↑(a+(1:Nat)):Int):=ofNat_le.mpr (le_add_right _ _)
theorem Bt{a:Nat}{b:Int}:b=a->a<=b:=λp=>Int.le_of_eq (Eq.symm p)
theorem BR{a:Int}{b:Nat}:a=b->a+1<=(↑(b+(1:Nat)):Int):=λp=>Int.le_of_eq (by rw[p]; rfl)
theorem xc:a<a+(b+1):=lt_add_of_pos_right (succ_pos _)
theorem Kv:a=b->b<=2^6->a+a<=1000000:=λp q=>le_trans (dbl (ele p q)) (by decide)
theorem KK:a=b->a+a=b*2:=λp=>by rw[p,mul_two]
theorem Li:a<=5->a<=1000000:=λp=>le_trans p (by decide)
theorem JJ:b<=5->a<b->a<=5:=λp q=>le_trans (le_of_lt q) p
theorem Cd:b<=5->c<b->a<=c->a+1<=1000000:=λp q r=>le_trans (le_trans (succ_le_of_lt (lt_of_le_of_lt r q)) p) (by decide)
theorem Lc:a<=b->b<=2^5->a+a<=1000000:=λp q=>le_trans (dbl (le_trans p q)) (by decide)
theorem Kg{a:Nat}{b:Int}:b=a->2*a<=2*b:=λp=>Int.le_of_eq (by rw[p])
theorem JX{a:Int}{b:Nat}:a=b->2*a+1<=2*(↑(b+(1:Nat)):Int):=λh=>by rw[h,Int.natCast_succ,Int.mul_add]; exact Int.add_le_add_left (by decide) _
theorem J6{a:Nat}{b:Int}:b=a->2*a<=2*b+1:=by intro p; lia
theorem Le{a:Int}{b:Nat}:a=b->2*a+1+1<=2*(↑(b+(1:Nat)):Int):=by intro p; lia
theorem KO{a:Int}:a%(6:Int)=(↑(a%(6:Int)).toNat:Int):=Eq.symm (toNat_of_nonneg (emod_nonneg _ (by decide)))
theorem KI{a:Nat}{b:Int}:b%6=a->a<=1000000:=λp=>le_trans (m5 p) (by decide)
theorem CF{a:Int}{b:Nat}:0<=a/\a<b->0<=6+a:=λp=>add_nonneg (by decide) p.1
theorem B9{a:Nat}:a<=6->(↑a:Int)<=(100:Int):=λp=>Int.le_trans (ofNat_le.mpr p) (by decide)
theorem Kt{a:Nat}{b:Int}:b%6=a->a<=63:=λp=>le_trans (m5 p) (by decide)
theorem BZ:b<=6->a<=b->a<=12:=λp q=>le_trans q (le_trans p (by decide))
theorem KV{a:Int}:(7:Int)+a/(9:Int)%(3:Int)=(↑((7:Int)+a/(9:Int)%(3:Int)).toNat:Int):=(toNat_of_nonneg (add_nonneg (by decide) (emod_nonneg _ (by decide)))).symm
theorem Ky{a:Nat}{b:Int}:7+b/9%3=a->a<=1000000:=λp=>le_trans (m9 p) (by decide)
theorem J8{a:Int}{b:Nat}:a=b->0<=a+1:=λp=>add_nonneg (nn p) (by decide)
theorem Kz{a b:Int}{c d:Nat}:7+b/9%3=c->a=d->d<c->a+1<=1000:=λp q r=>by subst q; exact ofNat_le.mpr (le_trans r (le_trans (m9 p) (by decide)))
theorem Ke{a:Nat}{b:Int}:7+b/9%3=a->(↑a:Int)<=(1000:Int):=λp=>Int.le_trans (ofNat_le.mpr (m9 p)) (by decide)
theorem Kh{a:Nat}{b:Int}{c:Nat}:7+b/9%3=c->a<c->a<=9:=λp q=>le_trans (le_of_lt q) (m9 p)
theorem J4{a b:Nat}{c d:Int}{e f:Nat}:7+d/9%3=b->a<=e->c=f->e<=36->a+((↑b:Int)-(c+(1:Int))).toNat<=(1000000:Nat):=λp q r s=>le_trans (add_le_add (le_trans q s) (le_trans (le_of_eq (ts r)) (le_trans (sub_le _ _) (m9 p)))) (by decide)
theorem J9{a b:Nat}{c:Int}{d e:Nat}{f:Int}:7+f/9%3=b->a<=d->c=e->a+((↑b:Int)-(c+(1:Int))).toNat<=d+((8:Nat)-e):=λp q r=>add_le_add q (le_trans (le_of_eq (ts r)) (le_trans (sub_le_sub_right (m9 p) _) (le_of_eq (Nat.succ_sub_succ 8 _))))
theorem KL{a:Int}{b:Nat}:a<a+1+b:=Int.lt_of_lt_of_le (Int.lt_succ a) (Int.le_add_of_nonneg_right (natCast_nonneg b))
theorem Lh{a:Int}{b c:Nat}:c<b->a=c->0<=a/\a<b:=λp q=>by subst q; exact ⟨natCast_nonneg _,ofNat_lt.mpr p⟩
theorem KR{a:Int}{b c d:Nat}:a=d->b<((↑c:Int)-(a+(1:Int))).toNat->0<=a+1+b/\a+1+b<c:=λp q=>And.intro (add_nonneg (add_nonneg (nn p) (by decide)) (natCast_nonneg _)) (by subst p; exact ofNat_lt.mpr (Nat.add_lt_of_lt_sub' (Nat.lt_of_lt_of_eq q (ts rfl))))
theorem KN{a:Nat}{b:Int}:7+b/9%3=a->a<=9:=λp=>m9 p
theorem K3{a:Nat}{b:Int}:7+b/9%3=a->(↑a:Int)<=(100:Int):=λp=>Int.le_trans (ofNat_le.mpr (m9 p)) (by decide)
theorem KX:a<=b->b<=36->a<=63:=λp q=>le_trans p (le_trans q (by decide))
theorem qa{a:Nat}:(0:Int)<(↑a:Int)+(1:Int):=Int.lt_add_one_of_le (natCast_nonneg _)
theorem KF{a:Int}{b:Nat}:b=7->(a/(9:Int)%(7:Int)).toNat<b:=λp=>p▸(Int.toNat_lt (emod_nonneg _ (by decide))).mpr (emod_lt_of_pos _ (by decide))
theorem K1{a b:Int}:0<=a/\a<=b->a=(↑a.toNat:Int):=λp=>Eq.symm (toNat_of_nonneg p.1)
theorem J2{a b:Int}:0<=a/\a<=b->(↑a.toNat:Int)<=b:=λp=>jle (toNat_of_nonneg p.1) p.2
theorem KA{a:Int}:(1:Int)+a%(4:Int)=(↑((1:Int)+a%(4:Int)).toNat:Int):=(toNat_of_nonneg (add_nonneg (by decide) (emod_nonneg _ (by decide)))).symm
theorem JW{a:Nat}:a<=63->¬(63:Int)<(↑a:Int):=λp=>not_lt.mpr (nLm p)
theorem J1{a:Nat}{b:Int}:1+b%4=a->a<=5:=λp=>le_trans (m4 p) (by decide)
theorem J5{a:Nat}{b:Int}:1+b%4=a->(2:Int)*(↑a:Int)<=(100:Int):=λp=>ofNat_le.mpr (le_trans (Nat.mul_le_mul_left 2 (m4 p)) (by decide))
theorem KB:a<=32->a<=63:=λp=>le_trans p (by decide)
theorem JY{a:Nat}{b:Int}{c:Nat}:1+b%4=c->a<=c->a<=12:=λp q=>le_trans q (le_trans (m4 p) (by decide))
theorem JM{a:Nat}:(↑a:Int)<=(6:Int)->a<=6:=λp=>nLe p
theorem BH{a:Nat}:(↑a:Int)<=(7:Int)->a<=1000000:=λp=>le_trans (nLe p) (by decide)
theorem Kq{a b:Nat}:(↑b:Int)<=(7:Int)->a<b->a<=6:=λp q=>le_of_lt_succ (lt_of_lt_of_le q (nLe p))
theorem Lf{a b c:Nat}:(↑b:Int)<=(7:Int)->c<b->a<=c->a+1<=1000000:=λp q r=>le_trans (succ_le_succ r) (le_trans q (le_trans (nLe p) (by decide)))
theorem JT:a<=c->c<=2^6->b<=a->a+b<=1000000:=λp q r=>le_trans (add_le_add (le_trans p q) (le_trans r (le_trans p q))) (by decide)
theorem JQ:a<=c->b<=a->a+b<=c*2:=λp q=>adE q (dbl p)
theorem B5{a:Nat}:(↑a:Int)<=(7:Int)->a<=7:=λp=>nLe p
theorem Ks{a:Int}{b c:Nat}:b=c->0<=a/\a<c->0<=a/\a<b:=λp q=>p▸q
theorem KC{a b:Nat}:(↑b:Int)<=(7:Int)->a<=b->a<=7:=λp q=>le_trans q (nLe p)
theorem Kb:a<=b->b<=63->a<=63:=λp q=>le_trans p q
theorem K7{a:Nat}:(↑a:Int)<=(7:Int)->(↑a:Int)<=(100:Int):=λp=>Int.le_trans p (by decide)
theorem Ku{a b:Nat}:(↑b:Int)<=(7:Int)->a<=b->a<=12:=λp q=>le_trans q (le_trans (nLe p) (by decide))
theorem JK{a b c d:Int}:b*c<b*d->a+b*c<a+b*d:=λp=>Int.add_lt_add_left p _
theorem K0{a b c d:Int}:0<=a->0<=b*c->b*c<b*d->0<=a+b*c/\a+b*c<a+b*d:=λp q r=>And.intro (add_nonneg p q) (Int.add_lt_add_left r _)
theorem JU{a b:Nat}:a<b->(↑a:Int)<(↑b:Int):=λp=>ofNat_lt.mpr p
theorem Kc{a:Int}:(7:Int)+a%(12:Int)=(↑((7:Int)+a%(12:Int)).toNat:Int):=(toNat_of_nonneg (add_nonneg (by decide) (emod_nonneg _ (by decide)))).symm
theorem JL{a:Nat}{b:Int}:7+b%12=a->a<=1000000:=λp=>le_trans (m18 p) (by decide)
theorem KY{a:Int}:0<1+a/12%4:=Int.lt_of_lt_of_le (by decide) (Int.add_le_add_left (emod_nonneg _ (by decide)) 1)
theorem KZ{a:Nat}{b:Int}:7+b%12=a->(↑a:Int)<=(100:Int):=λp=>Int.le_trans (ofNat_le.mpr (m18 p)) (by decide)
theorem KE{a:Nat}{b:Int}{c:Nat}:7+b%12=c->a<=c->a<=63:=λp q=>le_trans q (le_trans (m18 p) (by decide))
theorem BF{a:Int}{b:Nat}:0<=a/\a<b->0<=a/\a<b:=by intro p; omega
theorem Kl{a:Int}:(7:Int)+a%(6:Int)=(↑((7:Int)+a%(6:Int)).toNat:Int):=(toNat_of_nonneg (add_nonneg (by decide) (emod_nonneg _ (by decide)))).symm
theorem Cs{a:Nat}{b:Int}:7+b%6=a->a<=1000000:=λp=>le_trans (m12 p) (by decide)
theorem KW{a:Nat}{b:Int}:7+b%6=a->(↑a:Int)<=(100:Int):=λp=>Int.le_trans (ofNat_le.mpr (m12 p)) (by decide)
theorem J0{a:Nat}{b:Int}:7+b%6=a->a<=63:=λp=>le_trans (m12 p) (by decide)
theorem JS{a:Nat}{b:Int}{c:Nat}:7+b%6=c->a<=c->a<=12:=λp q=>le_trans q (m12 p)
theorem JZ{a:Int}:¬9<a->a<=9:=λp=>not_lt.mp p
theorem KU{a:Nat}:¬(8:Int)<(↑a:Int)->a<=8:=λp=>nLe (not_lt.mp p)
theorem K9:b<=8->a<b->a<1000000:=λp q=>lt_of_lt_of_le q (le_trans p (by decide))
theorem KD{a b:Int}:1+b/3%9=a->0<=a:=λp=>Int.le_of_lt (p9 p)
theorem Kk{a b:Int}:1+b/3%9=a->a<=9:=λp=>q9 p
theorem KT{a b c d:Int}:d/27%9=a->0<=b*c->0<=a+b*c:=λp q=>add_nonneg (r9 p) q
theorem JV{a b c d:Int}:d/27%9=a->b*c<=9*9->a+b*c<=100:=λp q=>Int.le_trans (Int.add_le_add (r9b p) q) (by decide)
theorem Ko:a<=8->a<=63:=λp=>le_trans p (by decide)
theorem K2:a<=12->a<=12:=by intro p; omega
theorem JP{a b:Int}:b/27%9=a->0<=a:=λp=>r9 p
theorem J3{a b:Int}:1+b/3%9=a->0<a:=λp=>p9 p
theorem Lb:b<63->a<=b->a+1<=1000000:=λp q=>le_trans (succ_le_of_lt (lt_of_le_of_lt q p)) (by decide)
theorem JN:b<63->a<=b->a+1<64:=λp q=>Nat.add_lt_add_right (lt_of_le_of_lt q p) _
theorem l5:a<=1000->a<=1000000:=λp=>le_trans p (by decide)
theorem Cz:b<=1000->a<=b->a<=1000000:=λp q=>le_trans q (le_trans p (by decide))
theorem zv:a<=b->a<=b+1:=λp=>le_succ_of_le p
theorem jR:a<=b->a+1<=b+1:=λp=>succ_le_succ p
theorem IQ:b<=1000->a<b->a<=1000:=λp q=>le_trans (le_of_lt q) p
theorem IX{a:Int}:0<=a->a<0->False:=λp q=>absurd q (not_lt.mpr p)
theorem IT{a:Nat}{b:Int}:b<=a->a<b->False:=λp q=>absurd q (not_lt.mpr p)
theorem Fv{a:Int}{b:Nat}:b<1000000->min a.toNat b+(b-a.toNat+(1:Nat))<=(1000000:Nat):=λp=>le_trans (le_of_eq (by rw[add_comm (_-_) 1,<- add_assoc]; exact mn2)) p
theorem y6{a b:Int}:0<=a/\a<b->a<0->False:=λp q=>absurd q (not_lt.mpr p.1)
theorem yj{a b:Int}:0<=a/\a<b->b<=a->False:=λp q=>absurd p.2 (not_lt.mpr q)
theorem yL{a:Nat}:(↑a:Int)+(1:Int)≠(0:Int):=Int.ne_of_gt (Int.lt_add_one_of_le (natCast_nonneg _))
theorem yn{a:Nat}:(0:Int)<=(↑a:Int):=natCast_nonneg _
theorem zh{a b:Int}:a<=b->b<=a->a=b:=λp q=>Int.le_antisymm p q
theorem ir:a<=100->a<=1000:=λp=>le_trans p (by decide)
theorem Gz{a:Nat}:a<=100->(↑a:Int)<=(10:Int)^(12:Nat):=λp=>Int.le_trans (ofNat_le.mpr p) (by decide)
theorem CY{a:Int}{b:Nat}{c:Prop}:a<0\/b<=a->a<0\/b<=a\/c:=λp=>p.imp id Or.inl
theorem Ge:a<=100->a<=1000000:=λp=>le_trans p (by decide)
theorem FG{a:Int}:0<=a->a=(↑a.toNat:Int):=λp=>Eq.symm (toNat_of_nonneg p)
theorem Eh{a:Nat}:(↑a:Int)<=(100:Int)->a<=1000:=λp=>le_trans (nLe p) (by decide)
theorem H4:a<=12->a<63:=λp=>lt_of_le_of_lt p (by decide)
theorem Dt{a:Int}{b:Nat}:0<=a/\a<b->a=(↑a.toNat:Int):=λp=>Eq.symm (toNat_of_nonneg p.1)
theorem CN{a b:Nat}:(↑b:Int)<=(100:Int)->(0:Int)<=(↑a:Int)/\(↑a:Int)<(↑b:Int)->a<=1000:=λp q=>le_trans (nLe (Int.le_trans (Int.le_of_lt q.2) p)) (by decide)
theorem HG{a:Nat}:(↑a:Int)<=(100:Int)->a<=1000000:=λp=>le_trans (nLe p) (by decide)
theorem Dy{a b:Nat}:(↑b:Int)<=(100:Int)->a<=b->a<=100:=λp q=>le_trans q (nLe p)
theorem zS{a:Nat}:(↑a:Int)<=(100:Int)->a<=100:=λp=>nLe p
theorem Dl:a<=12->a<=100:=λp=>le_trans p (by decide)
theorem FY:a<=12->a<=60:=λp=>le_trans p (by decide)
theorem Gf{a:Nat}:(↑a:Int)=(0:Int)->a=0:=λp=>Nat.eq_zero_of_le_zero (ofNat_le.mp (jle p (by decide)))
theorem yb:a<=100->a<128:=λp=>lt_of_le_of_lt p (by decide)
theorem Jn:a<=63->a<=1000:=λp=>le_trans p (by decide)
theorem CS:b<=63->a<=b->a<=1000000:=λp q=>le_trans q (le_trans p (by decide))
theorem Iw:b<=63->a<=b->a<64:=λp q=>lt_of_le_of_lt q (lt_of_le_of_lt p (by decide))
theorem Ic:b<=63->c<=b->a=c->a<=1000:=λp q r=>le_trans (le_trans (ele r q) p) (by decide)
theorem IP:a<=60->a<63:=λp=>lt_of_le_of_lt p (by decide)
theorem Jl:¬1<a->a<=1:=λp=>le_of_not_lt p
theorem Dx:a+(b+1)<=1000->a<=1000:=λp=>nxe p
theorem Ez{a b:Int}{c:Prop}:¬(a<0\/b<=a\/c)->0<=a/\a<b:=λp=>And.intro (not_lt.mp λg=>p (.inl g)) (not_le.mp λg=>p (.inr (.inl g)))
theorem Iy:a+(b+1)<=1000->a+1+b<=1000:=λp=>by rw[add_right_comm]; exact p
theorem E9:a<=b-1->0<b->a+1<=b:=λp q=>succ_le_of_lt (lt_of_le_of_lt p (sub_lt q (by decide)))
theorem GJ:b=a->a<=b:=λp=>le_of_eq (Eq.symm p)
theorem Dc{a:Nat}:a<=1000000->((↑a:Int)-(0:Int)).toNat<=(1000000:Nat):=λp=>Int.toNat_le.mpr (Int.le_trans (Int.sub_le_self _ (Int.le_refl 0)) (ofNat_le.mpr p))
theorem CW:-(2:Int)^(60:Nat)<=(0:Int):=by decide
theorem F9:(0:Int)<(2:Int)^(60:Nat):=by decide
theorem EL{a:Nat}:-(2:Int)^(60:Nat)<=(↑a:Int):=by lia
theorem IF{a:Nat}:a<=1000000->(↑a:Int)<(2:Int)^(60:Nat):=λp=>Int.lt_of_le_of_lt (ofNat_le.mpr p) (by decide)
theorem Dw{a b:Nat}:a<b->(0:Int)<=(↑a:Int)/\(↑a:Int)<(↑b:Int):=λp=>And.intro (natCast_nonneg _) (ofNat_lt.mpr p)
theorem ED{a:Int}:0<=a->(↑a.toNat:Int)=a:=λp=>toNat_of_nonneg p
theorem jF{a:Int}{b:Nat}:a.toNat<b->a<b:=λp=>Int.lt_of_le_of_lt (Int.self_le_toNat _) (ofNat_lt.mpr p)
theorem Jr{a:Int}:0<a->¬a=0:=λp=>Int.ne_of_gt p
theorem y4{a:Int}:0<a->0<=a:=λp=>Int.le_of_lt p
theorem zx{a b c:Int}:a<=c->c<=b->a<=b:=λp q=>Int.le_trans p q
theorem y0{a b:Int}:a<=b\/b<=a:=Int.le_total _ _
theorem zw{a:Nat}:a<=1000000->(↑a:Int)<(2:Int)^(62:Nat):=λp=>Int.lt_of_le_of_lt (ofNat_le.mpr p) (by decide)
theorem Gh{a b:Int}:0<=b->a<=1000->(a-b).toNat<=(1000000:Nat):=λp q=>Int.toNat_le.mpr (Int.le_trans (Int.sub_le_self _ p) (Int.le_trans q (by decide)))
theorem yV{a:Int}:0<=a->-(2:Int)^(60:Nat)<=a:=by intro p; lia
theorem yt{a:Int}:a<=1000->a<(2:Int)^(60:Nat):=λp=>Int.lt_of_le_of_lt p (by decide)
theorem FV{a:Int}{b:Nat}:0<=a->a<b->a<0\/b<=a->False:=λp q r=>r.elim (λg=>not_lt.mpr p g) (λg=>not_le.mpr q g)
theorem GZ{a:Nat}:(0:Int)<(↑(a+(1:Nat)):Int):=Int.natCast_pos.mpr (succ_pos _)
theorem C7{a:Nat}:(1:Int)<(↑(a+(1:Nat)+(1:Nat)):Int):=ofNat_lt.mpr (Nat.succ_lt_succ (succ_pos _))
theorem zr:a+d<=c->b<d->a+b<c:=λp q=>adl q p
theorem C8:a<=c->a-b<=c-0:=λp=>le_trans (sub_le_sub_left (zero_le _) _) (sub_le_sub_right p _)
theorem IK:a<=b->¬a=b->a<b:=λp q=>lt_of_le_of_ne p q
theorem ID:a<=b->¬a=b->a+(b-a)/2+1<=b:=λp q=>lt_of_lt_of_le (add_lt_add_left (Nat.div_lt_self (sub_pos_of_lt (lt_of_le_of_ne p q)) (by decide)) a) (le_of_eq (add_sub_of_le p))
theorem Fw:a-b<=c-d->a-(b+(a-b)/2+1)<=c-(d+1):=λp=>sub_le_sub_right (le_trans (le_trans (le_of_eq (sub_sub _ _ _).symm) (sub_le _ _)) p) 1
theorem ET:a<b+(c-b)/2+1->a<=b+(c-b)/2:=λp=>le_of_lt_succ p
theorem Ga:a<=b->b<=c->¬a=b->a+(b-a)/2<c:=λp q r=>lt_of_lt_of_le (lt_of_lt_of_le (add_lt_add_left (Nat.div_lt_self (sub_pos_of_lt (lt_of_le_of_ne p r)) (by decide)) a) (le_of_eq (add_sub_of_le p))) q
theorem DR:a<=a+(b-a)/2:=le_add_right _ _
theorem HU:a<=b->b<=c->a+(b-a)/2<=c:=λp q=>le_trans (add_le_add_left (Nat.div_le_self _ _) _) (le_trans (le_of_eq (add_sub_of_le p)) q)
theorem GL:b-a<=c-d->a+(b-a)/2-a<=c-(d+1):=λp=>by rw[add_sub_cancel_left,<- sub_sub]; exact le_trans (hf _) (sub_le_sub_right p 1)
theorem Fe:a<=b->b-a<=c-max 0 c->a=b:=λp q=>le_antisymm p (Nat.le_of_sub_eq_zero (Nat.le_zero.mp (by rw[Nat.zero_max,sub_self] at q; exact q)))
theorem yp:0<1:=by decide
theorem CQ:a<b->a+0<b:=by intro p; omega
theorem zD:0+1<=1:=by decide
theorem zi:¬b≥c-a->a+b<c:=λp=>Nat.add_lt_of_lt_sub' (lt_of_not_le p)
theorem yh{a:Nat}:a<2*a+1:=lt_succ_of_le (Nat.le_mul_of_pos_left a (by decide))
theorem zT{a b:Nat}:a+1<=b->a+1+1<=2*b+1:=λh=>succ_le_succ (le_trans h (Nat.le_mul_of_pos_left b (by decide)))
theorem Jf:max 0 a+1<=c->a-b<=c:=λp=>le_trans (le_succ_of_le (Ck (le_max_right _ _))) p
theorem Hz:b<c->a+b<d->a+b+1<=a+min c (d-a):=λp q=>add_le_add_left (le_min.mpr ⟨p,lt_sub_of_add_lt (add_comm a b▸q)⟩) a
theorem Jq:a<c->a+min b (c-a)<=c:=λp=>le_trans (add_le_add_left (min_le_right _ _) _) (le_of_eq (add_sub_of_le (le_of_lt p)))
theorem IV:a<b+c+1->a<=b+c:=λp=>le_of_lt_succ p
theorem Ek{a:Prop}{b c d e:Nat}:b+min c (d-b)<=e->e<d->d-b<=c->a:=λp q r=>by rw[min_eq_right r] at p; exact absurd (le_trans (Nat.sub_le_iff_le_add'.mp (le_refl _)) p) (not_le_of_lt q)
theorem HJ:a+min b (d-a)<=c->c<d->a+b<=c:=λp q=>(le_total b (d-a)).elim (λg=>by rw[min_eq_left g] at p; exact p) (λg=>by rw[min_eq_right g] at p; exact absurd (le_trans (Nat.sub_le_iff_le_add'.mp (le_refl _)) p) (not_le_of_lt q))
theorem yU:a<b->¬a≥b:=λp=>not_le_of_lt p
theorem yP:a<b->b<=c->a+(b-a)/2<c:=λp q=>lt_of_lt_of_le (lt_of_lt_of_le (add_lt_add_left (Nat.div_lt_self (sub_pos_of_lt p) (by decide)) a) (le_of_eq (add_sub_of_le (le_of_lt p)))) q
theorem HS:0<=a:=zero_le _
theorem y3:a<c->a-b<c:=λp=>o4 p
theorem yH:¬a≥b+1->a<=b:=λp=>le_of_lt_succ (lt_of_not_le p)
theorem Io:a<c->max 0 c+1<=b->a+1<=b:=λp q=>le_trans p (le_trans (le_max_right 0 c) (le_of_succ_le q))
theorem Iz:a<c->a-b<=c:=λp=>le_of_lt (o4 p)
theorem Eo:a+1<=b->a+1-min b (a+1)<=a-c:=λp=>by rw[min_eq_right p,sub_self]; exact zero_le _
theorem Fh:c<b->a+1-min b (a+1)<=a-c:=λp=>(le_total b (a+1)).elim (λg=>by rw[min_eq_left g]; exact le_trans (sub_le_sub_left p _) (le_of_eq (Nat.add_sub_add_right a 1 c))) (λg=>by rw[min_eq_right g,sub_self]; exact zero_le _)
theorem DQ{a:Prop}{b c d:Nat}:b<c+1-min d (c+1)->c+1<=d->a:=λp q=>by rw[min_eq_right q,sub_self] at p; exact absurd p (not_lt_zero _)
theorem D9{a b c:Nat}:a<b+1-min c (b+1)->a<=b-c:=λp=>(le_total c (b+1)).elim (λg=>le_sub_of_add_le (le_of_lt_succ (add_lt_of_lt_sub (by rw[min_eq_left g] at p; exact p)))) (λg=>absurd (by rw[min_eq_right g,sub_self] at p; exact p) (not_lt_zero _))
theorem yG:a<=b+c->¬a=b+c->a<=b+c-1:=λp q=>le_sub_one_of_lt (lt_of_le_of_ne p q)
theorem rV:1<=b->a+b-1<a+b:=λp=>sl p
theorem yB:a<b+(c+1)->¬a=b+c->a<b+c:=λp q=>lt_of_le_of_ne (le_of_lt_succ p) q
theorem Im:a<=c/\c<b->a<=a+b-1-c:=λp=>le_sub_of_add_le (le_sub_one_of_lt (add_lt_add_left p.2 _))
theorem E8:a<=c/\c<b->a+b-1-c<b:=λp=>lt_of_le_of_lt (sub_le_sub_left p.1 _) (by rw[Nat.sub_right_comm,add_sub_cancel_left]; exact sub_lt (lt_of_le_of_lt (zero_le _) p.2) one_pos)
theorem FN:d<=a->c<=f->b<d\/f<=b->¬(a<=b/\b<c):=λp q r=>λe=>r.elim (λg=>not_lt_of_le (le_trans p e.1) g) (λg=>not_lt_of_le (le_trans q g) e.2)
theorem Ib:a+d<=c->b<=d->a+b<=c:=λp q=>adE q p
theorem Ha:c<a+b->a<=a+(a+b)-1-c:=λp=>le_sub_of_add_le (le_sub_one_of_lt (add_lt_add_left p _))
theorem Hp:d<=c->a+(a+b)-1-c<=a+(a+b)-1-d:=λp=>sub_le_sub_left p _
theorem FS:1<=b->a<=c->a+(a+b)-1-c<a+b:=λp q=>lt_of_le_of_lt (sub_le_sub_left q _) (by rw[Nat.sub_right_comm,add_sub_cancel_left]; exact sl p)
theorem D0:max a b<=b->max a b=b:=λp=>le_antisymm p (le_max_right _ _)
theorem yO:c+1-(0+1)<=b->b<c+1->a+b=a+(c+1)-1:=λp q=>congrArg (_ + ·) (le_antisymm (le_of_lt_succ q) p)
theorem oE:a+d<=e->b<d->c=e->a+b<c:=λp q r=>lte (adl q p) r
theorem yf:a+d<=e->b<d->c=e->a+b-1<c:=λp q r=>lte (o4 (adl q p)) r
theorem x9:a+d<=e->b<d->c=e->a+b<=c:=λp q r=>le_of_lt (lte (adl q p) r)
theorem zQ:c+1<=b->a<=a+b-(c+1):=λp=>le_sub_of_add_le (add_le_add_left p _)
theorem zO:d+a-(b+1)<=c->a-(b+1)<=c-d:=λp=>Nat.sub_le_of_le_add (Nat.le_of_add_le_add_left (le_trans (Nat.le_add_of_sub_le p) (le_trans (add_le_add_right (Nat.sub_le_iff_le_add'.mp (le_refl _)) _) (le_of_eq (add_assoc _ _ _)))))
theorem zA:d+1<=c->a<b+c->a-b<c:=λp q=>(Nat.lt_or_ge a b).elim (λg=>lt_of_le_of_lt (le_of_eq (Nat.sub_eq_zero_of_le (le_of_lt g))) (lt_of_lt_of_le (succ_pos _) p)) (λg=>Nat.sub_lt_left_of_lt_add g q)
theorem yM:c+1<=d->a+d-(c+1)<=b->a+(b-a)=b:=λp q=>add_sub_of_le (le_trans (le_sub_of_add_le (add_le_add_left p _)) q)
theorem EB:¬b<a->¬a<b->a=b:=λp q=>le_antisymm (le_of_not_lt p) (le_of_not_lt q)
theorem Jy:a+(b+1)-1=a+b:=by rfl
theorem IW:a+1-(b+1+1)<=c->a-(b+1)<=c:=λp=>Nat.succ_sub_succ _ _▸p
theorem Ef:a<b+1->¬a=b->a<b:=λp q=>lt_of_le_of_ne (le_of_lt_succ p) q
theorem E2:max (a+1) b<=b->max (a+1) b=b:=λp=>le_antisymm p (le_max_right _ _)
theorem yD:a+d<=e->b<=d->c=e->a+b<=c:=λp q r=>lee (adE q p) r
theorem rY:a+b<=d->c=d->a+b<=c:=λp q=>lee p q
theorem GI:b+1<=a->1<=a:=λp=>le_trans (le_add_left _ _) p
theorem yR:c<=a->a<=b->b<c+1->a=b:=λp q r=>le_antisymm q (le_trans (le_of_lt_succ r) p)
theorem FK:max 1 a<=a->max 1 a=a:=λp=>le_antisymm p (le_max_right _ _)
theorem zH:a<=b->a≠b->a<b:=λp q=>lt_of_le_of_ne p q
theorem Gy:1<=c->a+c<=b->a<b:=λp q=>lt_of_lt_of_le (lt_add_of_pos_right (lt_of_succ_le p)) q
theorem Jw:1<=b->b<=d->a+d<=c->a+b-1<c:=λp q r=>lt_of_lt_of_le (sl p) (le_trans (add_le_add_left q _) r)
theorem GX:a<b+c->a<=b+c-1:=λp=>le_sub_one_of_lt p
theorem Fk:¬c<b->c<=a->a<=b->a=b:=λp q r=>le_antisymm r (le_trans (le_of_not_lt p) q)
theorem yk:b<=d->a+d<=c->a+b<=c:=λp q=>adE p q
theorem CT:1<=a->¬a>1->a=1:=λp q=>le_antisymm (le_of_not_lt q) p
theorem GS:a<b->a<=(a+b)/2/\(a+b)/2<b:=λp=>And.intro ((Nat.le_div_iff_mul_le (by decide)).mpr (by rw[mul_two]; exact add_le_add_left (le_of_lt p) _)) ((Nat.div_lt_iff_lt_mul (by decide)).mpr (by rw[mul_two]; exact Nat.add_lt_add_right p _))
theorem C4:a<b->min a b=a:=λp=>min_eq_left (le_of_lt p)
theorem Hm:c<0->a<=b:=λp=>absurd p (not_lt_zero _)
theorem Hw:c<=d->d<c->a<b:=λp q=>absurd q (not_lt_of_le p)
theorem FR{a b c d e f g:Nat}:a+d<=e->f<d->g<=f->c=e->b<g->a+b<c:=λp q r s t=>s▸lt_of_lt_of_le (add_lt_add_left (lt_trans (lt_of_lt_of_le t r) q) a) p
theorem Dv:c<=b->a<c->a<=b:=λp q=>le_trans (le_of_lt q) p
theorem Ex:e-b<=c-d->a<e->a-b<=c-(d+1):=λp q=>le_trans (sub_le_sub_right (le_sub_one_of_lt q) _) (le_trans (le_of_eq (Nat.sub_right_comm _ 1 _)) (sub_le_sub_right p 1))
theorem EY:a-e<=c-d->e<=b->a-(b+1)<=c-(d+1):=λp q=>sub_le_sub_right (le_trans (sub_le_sub_left q _) p) 1
theorem HD:b<c+1->a+b<=a+c:=λp=>add_le_add_left (le_of_lt_succ p) _
theorem DY:d<=c->b<d->a+b<a+c:=λp q=>add_lt_add_left (lt_of_lt_of_le q p) _
theorem FA:a-c<=d-max 0 d->c<=b->a<=b:=λp q=>le_trans (Nat.le_of_sub_eq_zero (Nat.eq_zero_of_le_zero (le_trans p (le_of_eq (Nat.sub_eq_zero_of_le (le_max_right 0 _)))))) q
theorem HY:c<f->a<b\/b+f<=a->¬a=b+c-(b+c-(b+d)):=λp q=>λe=>q.elim (λg=>not_lt_of_le vlo (e▸g)) (λg=>not_lt_of_le (le_trans g (le_trans (le_of_eq e) (sub_le _ _))) (add_lt_add_left p _))
theorem DP:b<f->d<a\/a+f<=d->¬(a+b-(a+b-(a+c))<d/\d<=a+b):=λp q=>λe=>q.elim (λg=>not_lt_of_le vlo (lt_trans e.1 g)) (λg=>not_lt_of_le (le_trans g e.2) (add_lt_add_left p _))
theorem Ft:a<b->min (a+1) b=a+1:=λp=>min_eq_left (succ_le_of_lt p)
theorem De:c<=b->a+b-(a+b-(a+c))=a+c:=λp=>Nat.sub_sub_self (add_le_add_left p _)
theorem DU:e<=c->c<a+(d+1)->e=a+b->¬c=a+b->a+b<c/\c<=a+d:=λp q r s=>And.intro (lt_of_le_of_ne (r▸p) (Ne.symm s)) (le_of_lt_succ q)
theorem CZ:d<=b->d=c+a->¬b=c+a->a<=b-1-c:=λp q r=>le_sub_of_add_le (le_sub_one_of_lt (add_comm _ _▸lt_of_le_of_ne (q▸p) (Ne.symm r)))
theorem DK:d<=a->a<b+(c+1)->d=b+e->¬a=b+e->a-1-b<c:=λp q r s=>Nat.sub_lt_left_of_lt_add (le_sub_one_of_lt (lt_of_le_of_lt (le_add_right _ _) (lt_of_le_of_ne (r▸p) (Ne.symm s)))) (pl (lt_of_le_of_lt (zero_le _) (lt_of_le_of_ne (r▸p) (Ne.symm s))) q)
theorem FT:c<=b->c=a+d->¬b=a+d->a+(b-1-a)=b-1:=λp q r=>add_sub_of_le (le_sub_one_of_lt (lt_of_le_of_lt (le_add_right _ _) (lt_of_le_of_ne (q▸p) (Ne.symm r))))
theorem HK:c<=f->f=a+b->¬(a+b<c/\c<=a+d):=λp q=>λe=>not_lt_of_le (q▸p) e.1
theorem Jp:b<=a->a<=d->¬a=b+c->d=b+c->a-b<c:=λp q r s=>Nat.sub_lt_left_of_lt_add p (lt_of_le_of_ne (s▸q) r)
theorem jD:a<=b->a+(b-a)=b:=λp=>Nat.add_sub_cancel' p
theorem EI:c<=e->e<a+(d+1)->a+b<c->a+b<c/\c<=a+d:=λp q r=>And.intro r (le_of_lt_succ (lt_of_le_of_lt p q))
theorem Ep:e<=c->c<a+(d+1)->a+b<e->a+b<c/\c<=a+d:=λp q r=>And.intro (lt_of_lt_of_le r p) (le_of_lt_succ q)
theorem FZ:a+c<b->a<=b-1:=λp=>nxe (le_sub_one_of_lt p)
theorem GU:a<=b->a-1<=b-1:=λp=>sub_le_sub_right p _
theorem DZ:d<=a->a<b+(c+1)->b+e<d->a-1<b+c:=λp q r=>pl (lt_of_le_of_lt (zero_le _) (lt_of_lt_of_le r p)) q
theorem yC:¬a+b<c->¬(a+b<c/\c<=a+d):=λp=>λe=>p e.1
theorem E0:c<a+(d+1)->a+b<c->a+b<c/\c<=a+d:=λp q=>And.intro q (le_of_lt_succ p)
theorem Dp:¬c+d<a->c+d<b->a<=b-1:=λp q=>le_trans (le_of_not_lt p) (le_sub_one_of_lt q)
theorem GR:a<b+(c+1)->b+d<a->a-1<b+c:=λp q=>pl (lt_of_le_of_lt (zero_le _) q) p
theorem CU:d<=c->¬a=b+d->¬b+d<a->a<b+c:=λp q r=>lt_of_lt_of_le (lt_of_le_of_ne (le_of_not_lt r) q) (add_le_add_left p _)
theorem Gp:min (max (max a 1) b) b=b:=min_eq_right (le_max_right _ _)
theorem Gb:c<=a->a<=b->b<c+min (max d 1) e->d=0->a=b:=λp q r s=>le_antisymm q (le_trans (le_of_lt_succ (lt_of_lt_of_le r (add_le_add_left (le_trans (min_le_left (max d 1) e) (by rw[s]; decide:max d 1<=1)) _))) p)
theorem Em:a<b+min (max c 1) d->¬c=0->a<b+c:=λp q=>lt_of_lt_of_le p (add_le_add_left (le_trans (min_le_left _ _) (Nat.max_le.mpr ⟨le_refl _,Nat.pos_of_ne_zero q⟩)) _)
theorem GN{a b c:Int}:a<c->c<b->¬a=b:=λp q=>Int.ne_of_lt (Int.lt_of_lt_of_le p (Int.le_of_lt q))
theorem GC{a b c:Int}:a<c->c<b->a<b:=λp q=>Int.lt_of_lt_of_le p (Int.le_of_lt q)
theorem I6{a:Prop}{b c:Int}:¬b=c->¬b<c->¬c<b->a:=λp q r=>absurd (Int.le_antisymm (not_lt.mp r) (not_lt.mp q)) p
theorem FU:a<=b->a<=b+c:=λp=>le_trans p (le_add_right _ _)
theorem yv:a<=b->a<b+1:=λp=>lt_succ_of_le p
theorem Hr:a<b->a<b+c:=λp=>lt_of_lt_of_le p (le_add_right _ _)
theorem Fd:a<b->b<a->False:=λp q=>absurd q (not_lt_of_le (le_of_lt p))
theorem EO{a:Prop}{b:Nat}:1<=b->0=b->a:=λp q=>absurd (lee p q) (by decide)
theorem DS:2<=a->a=a-1+1:=λp=>(sub_add_cancel (le_of_succ_le p)).symm
theorem E5:b=a->0+(a-0)<=b:=λp=>by rw[zero_add]; exact le_of_eq p.symm
theorem IN:b=a->0+a<=b:=λp=>by rw[p,zero_add]; exact le_refl _
theorem Ej:a=b->a<=b:=λp=>le_of_eq p
theorem Hf{a b:Int}:0<=a->(a.toNat<b.toNat↔a<b):=λp=>by rw[Int.lt_toNat,toNat_of_nonneg p]
theorem F2{a:Int}:¬0<=a->a<0:=λp=>not_le.mp p
theorem GH{a:Int}{b:Nat}:b<=2^22->a<b->a<(2:Int)^(63:Nat):=λp q=>Int.lt_of_lt_of_le q (Int.le_trans (ofNat_le.mpr p) (by decide))
theorem IU{a:Int}{b:Nat}:b<=2^22->-b<=a->-(2:Int)^(63:Nat)<=a:=λp q=>Int.le_trans (Int.le_trans (by decide) (Int.neg_le_neg (ofNat_le.mpr p))) q
theorem zy{a:Int}:0<=a->¬a<0:=λp=>not_lt.mpr p
theorem FE{a:Int}:-(2:Int)^(22:Nat)<=a/\a<(2:Int)^(22:Nat)->-(2:Int)^(63:Nat)<=a:=λp=>Int.le_trans (by decide) p.1
theorem HZ{a:Int}:-(2:Int)^(22:Nat)<=a/\a<(2:Int)^(22:Nat)->a<(2:Int)^(63:Nat):=λp=>Int.lt_trans p.2 (by decide)
theorem x7:b<=2^22->a=b->a<=2^24:=λp q=>le_trans (ele q p) (by decide)
theorem EQ{a:Nat}{b:Int}:a<=2^22->a-b.toNat<=(2:Nat)^(22:Nat):=λp=>Ck p
theorem EE{a:Int}{b:Nat}:b<=2^22->min a.toNat b<=(2:Nat)^(22:Nat):=λp=>mne p
theorem GT{a:Nat}:((↑a:Int)-(1:Int)-(-1:Int)-(-1:Int)-(1:Int)).toNat=a:=by rw[Int.sub_neg,Int.sub_neg,Int.sub_add_cancel,Int.add_sub_cancel]; rfl
theorem G3{a:Nat}:¬(↑a:Int)-(1:Int)>(-1:Int)->Int.toNat (0:Int)=a:=λh=>by cases a with | zero=>rfl | succ n=>exact absurd (show (-1:Int)<((n:Int)+1)-1 by rw[Int.add_sub_cancel]; exact Int.lt_of_lt_of_le (by decide) (natCast_nonneg n)) h
theorem FO{a b:Nat}:((↑a:Int)-(1:Int)+(-1:Int)*(↑b:Int)).toNat=a-(1:Nat)-b:=by rw[Int.neg_mul,Int.one_mul,<- Int.sub_eq_add_neg,Int.sub_sub,sub_sub]; exact Int.toNat_sub a (1+b)
theorem FH:b=c->a<c->a<b:=λp q=>lte q p
theorem IG:a=c->¬b<c->min a a<=b:=λp q=>mne (ele p (le_of_not_lt q))
theorem I9:¬c<a->min a b<=c:=λp=>mnl (le_of_not_lt p)
theorem F7:a<64->a<=16777216+1:=λp=>le_trans (le_of_lt p) (by decide)
theorem yu:a<64->a<=16777216:=λp=>le_trans (le_of_lt p) (by decide)
theorem DH:a<2->a<=1:=λp=>le_of_lt_succ p
theorem GB:¬a<2->1<=a:=λp=>le_trans (le_add_left _ _) (le_of_not_lt p)
theorem Du:b=a->¬b<2->¬a<2:=λp q=>not_lt_of_le (le_trans (le_of_not_lt q) (le_of_eq p))
theorem Go:¬a<2->2<=a:=λp=>le_of_not_lt p
theorem GG:b<=a->¬a<b:=λp=>not_lt_of_le p
theorem FD:a<=1000000->a<=16777216:=λp=>le_trans p (by decide)
theorem yl:a<=1000000->a<=2^22:=λp=>le_trans p (by decide)
theorem Jb:a=b->a=b:=by intro p; omega
theorem yg:b<64->a=b->a<=16777216:=λp q=>le_trans (le_of_lt (elt q p)) (by decide)
theorem Hj:a+200<b->a+1+1<b:=λp=>lt_of_le_of_lt (add_le_add_left (by decide:2<=200) a) p
theorem yE:b<64->a=b->a<64:=λp q=>elt q p
theorem yZ:a<64->a<=2^22:=λp=>le_trans (le_of_lt p) (by decide)
theorem Gm{a b:Nat}:a=b->b<=2^22->(↑a:Int)<(2:Int)^(63:Nat):=λp q=>Int.lt_of_le_of_lt (ofNat_le.mpr (ele p q)) (by decide)
theorem Ia{a b:Nat}:a=b->b<=2^22->¬(↑a:Int)≥(2:Int)^(63:Nat):=λp q=>λg=>absurd (Int.le_trans g (ofNat_le.mpr (le_trans (le_of_eq p) q))) (by decide)
theorem Fi{a b:Nat}{c:Prop}:a=b->b<=2^22/\c->a<=2^24:=λp q=>le_trans (ele p q.1) (by decide)
theorem zj:a<128->a<=16777216:=λp=>le_trans (le_of_lt p) (by decide)
theorem Fo:2<=a->¬a<2:=λp=>not_lt_of_le p
theorem HA:2<=a->2<=a:=by intro p; omega
theorem FQ:a<128->a<=16777216+1:=λp=>le_trans (le_of_lt p) (by decide)
theorem yF:b<128->a=b->a<=16777216:=λp q=>le_trans (le_of_lt (elt q p)) (by decide)
theorem IE:¬b<64->a=b->2<=a:=λp q=>le_trans (le_add_left _ _) (lee (le_of_not_lt p) q)
theorem Dm:b<128->a=b->a<128:=λp q=>elt q p
theorem Ey:a<128->a<=2^22:=λp=>le_trans (le_of_lt p) (by decide)
theorem Gj:a+100*c+200<b->a+200<b:=λp=>lt_of_le_of_lt (add_le_add_right (le_add_right _ _) 200) p
theorem GK:a+100*c+300<b->a+200<b:=λp=>lt_of_le_of_lt (add_le_add (le_add_right _ _) (by decide)) p
theorem zf:a+200<d->b+1<=64->a+1+min b c<d:=λp q=>lt_of_le_of_lt (le_trans (le_of_eq (add_assoc _ 1 _)) (add_le_add_left (le_trans (add_le_add_left (min_le_left _ _) 1) (le_trans (le_of_eq (add_comm 1 _)) (le_trans q (by decide)))) _)) p
theorem zN:a+200<b->a+1<b:=λp=>lt_of_le_of_lt (succ_le_succ (le_add_right _ _)) p
theorem yY:a+200<d->b<=64->a+min b c<d:=λp q=>lt_of_le_of_lt (add_le_add_left (le_trans (min_le_left _ _) (le_trans q (by decide))) _) p
theorem yo{a b:Nat}{c:Prop}{d:Nat}:b<1000/\c->a=d->d=b->a<=2^24:=λp q r=>le_trans (le_of_lt (elt q (elt r p.1))) (by decide)
theorem zo{a b:Nat}{c:Prop}{d:Nat}:b<1000/\c->d=b->a=d->a<=2^22:=λp q r=>le_trans (le_of_lt (elt r (elt q p.1))) (by decide)
theorem Da{a b:Int}:-(2:Int)^(60:Nat)<=a/\a<(2:Int)^(60:Nat)/\-(2:Int)^(60:Nat)<=b/\b<(2:Int)^(60:Nat)->-(2:Int)^(62:Nat)<=a:=λp=>Int.le_trans (by decide) p.1
theorem Db{a b:Int}:-(2:Int)^(60:Nat)<=a/\a<(2:Int)^(60:Nat)/\-(2:Int)^(60:Nat)<=b/\b<(2:Int)^(60:Nat)->a<(2:Int)^(62:Nat):=λp=>Int.lt_trans p.2.1 (by decide)
theorem HP{a b:Int}:-(2:Int)^(60:Nat)<=b/\b<(2:Int)^(60:Nat)/\-(2:Int)^(60:Nat)<=a/\a<(2:Int)^(60:Nat)->-(2:Int)^(62:Nat)<=a:=λp=>Int.le_trans (by decide) p.2.2.1
theorem Gg{a b:Int}:-(2:Int)^(60:Nat)<=b/\b<(2:Int)^(60:Nat)/\-(2:Int)^(60:Nat)<=a/\a<(2:Int)^(60:Nat)->a<(2:Int)^(62:Nat):=λp=>Int.lt_trans p.2.2.2 (by decide)
theorem C0{a b:Int}:(a-b).toNat<=(1000000:Nat)->(a-b).toNat<=(2:Nat)^(22:Nat):=λp=>le_trans p (by decide)
theorem rT:b<a->a+1-(b+1)<a+1-b:=λp=>Nat.sub_lt_sub_left (lt_succ_of_lt p) (Nat.lt_succ_self _)
theorem G4{a b:Nat}{c:Prop}{d:Nat}:b<=2^22/\c->a<=d->d<b->a<=2^24:=λp q r=>le_trans q (le_trans (le_trans (le_of_lt r) p.1) (by decide))
theorem zq:a<=b->¬a<b->a=b:=λp q=>le_antisymm p (le_of_not_lt q)
theorem Hq:a<=0->a=0:=λp=>Nat.eq_zero_of_le_zero p
theorem ym:a<=b+1->¬a=b+1->a<=b:=λp q=>le_of_lt_succ (lt_of_le_of_ne p q)
theorem GO{a b c:Int}:b>c->a<=c->a<=b:=λp q=>Int.le_trans q (Int.le_of_lt p)
theorem Ii{a b:Int}:¬a>b->a<=b:=λp=>not_lt.mp p
theorem EZ:0<b->a<=b-1->a<b:=λp q=>lt_of_le_of_lt q (sub_lt p (by decide))
theorem sq:a<b->a<=b-1:=λp=>le_sub_one_of_lt p
theorem yz{a:Nat}:¬(↑a:Int)<(0:Int):=not_lt.mpr (natCast_nonneg _)
theorem DX:¬b<a->a<=b:=λp=>le_of_not_lt p
theorem Ec:a<20->a<30:=λp=>lt_of_lt_of_le p (by decide)
theorem om{a:Nat}{b:Prop}:a<=2^22/\b->a<=2^24:=λp=>le_trans p.1 (by decide)
theorem DA{a:Int}{b:Prop}{c:Nat}{d:Prop}:¬(b\/a<0\/c<a)->c<=2^22/\d->(-9223372036854775808:Int)<=a/\a<9223372036854775808:=λp q=>And.intro (Int.le_trans (by decide) (not_lt.mp λg=>p (.inr (.inl g)))) (Int.lt_of_le_of_lt (not_lt.mp λg=>p (.inr (.inr g))) (Int.lt_of_le_of_lt (ofNat_le.mpr q.1) (by decide)))
theorem Ih{a:Int}{b:Prop}{c:Nat}:¬(b\/a<0\/c<a)->¬a<0:=λp=>λg=>p (.inr (.inl g))
theorem D7{a:Int}{b:Nat}{c:Prop}:¬(c\/a<0\/b<a)->min a.toNat b=a.toNat:=λp=>min_eq_left (Int.toNat_le.mpr (not_lt.mp λg=>p (.inr (.inr g))))
theorem JB{a:Int}{b:Nat}{c:Prop}{d:Nat}:¬(c\/a<0\/d<=a)->b=d->a.toNat<b:=λp q=>q▸(Int.toNat_lt (not_lt.mp λg=>p (.inr (.inl g)))).mpr (not_le.mp λg=>p (.inr (.inr g)))
theorem Hy{a:Int}{b:Prop}{c:Nat}{d:Prop}:¬(b\/a<0\/c<=a)->c<=2^22/\d->(-9223372036854775808:Int)<=a/\a<9223372036854775808:=λp q=>And.intro (Int.le_trans (by decide) (not_lt.mp λg=>p (.inr (.inl g)))) (Int.lt_trans (not_le.mp λg=>p (.inr (.inr g))) (Int.lt_of_le_of_lt (ofNat_le.mpr q.1) (by decide)))
theorem x8:a<=1000000->a<=2^24:=λp=>le_trans p (by decide)
theorem y8:a<1000000->a+1<=2^22:=λp=>le_trans (succ_le_of_lt p) (by decide)
theorem G0:a<1000000->a<=2^24:=λp=>le_trans (le_of_lt p) (by decide)
theorem GQ:1<=16777216:=by decide
theorem Js:a+2*b+4<c->a+2*b+1<c:=λp=>lt_of_le_of_lt (succ_le_succ (le_add_right _ _)) p
theorem Hn:a+100*b+300<c->a+100*b+200<c:=λp=>lt_of_le_of_lt (add_le_add_left (le_add_left _ _) _) p
theorem IL:a+2*b+5<c->a+1+2*b+4<c:=λp=>by rw[add_right_comm _ 1]; exact p
theorem ER:a+100*b+303<c->a+3+100*b+300<c:=λp=>by rw[add_right_comm _ 3]; exact p
theorem H9:a+2*(c+1)+4<b/\d+100*(c+1)+300<e->a<b:=λp=>nxl (nxl p.1)
theorem DD:a+100*b+303<=a+100*(b+1)+300:=by lia
theorem FX:a<=8->a<=16777216:=λp=>le_trans p (by decide)
theorem Jd:a<=1->1+3*a<=50:=λp=>le_trans (add_le_add_left (Nat.mul_le_mul_left 3 p) 1) (by decide)
theorem Jh:b<=50->a+b<=a+50:=λp=>add_le_add_left p _
theorem Hg:a+2*(c+1)+4<b->a+1<b:=λp=>lt_of_le_of_lt (add_le_add (le_add_right _ _) (by decide)) p
theorem Di:a+2*(b+1)+4<c->a+1+2*b+5<c:=λp=>by rw[add_right_comm _ 1]; exact p
theorem EK:a<=c+50->a+100*b+303<=c+100*(b+1)+300:=by intros; lia
theorem HR:1<=a+1+0/\a+1+0<=a+1/\a+1<=2*(a+1+0):=And.intro (succ_pos _) (And.intro (le_refl _) (Nat.le_mul_of_pos_left _ (by decide)))
theorem GY{a:Nat}:2<=a+1->a=a-1+1:=λp=>(sub_add_cancel (Nat.le_of_succ_le_succ p)).symm
theorem HT:a+1+1<128->(a+1+1)/2<64:=λp=>Nat.div_lt_of_lt_mul p
theorem H8{a:Nat}:1<=(a+1+1)/2+max 0 ((a+1+1)%2)/\(a+1+1)/2+max 0 ((a+1+1)%2)<=a+1+1/\a+1+1<=2*((a+1+1)/2+max 0 ((a+1+1)%2)):=by
 rw[Nat.zero_max,show a+1+1=a+2 from rfl,Nat.add_div_right a (by decide),Nat.add_mod_right]
 exact ⟨le_trans (le_add_left 1 _) (le_add_right _ _),le_trans (le_of_eq (add_right_comm _ 1 _)) (le_succ_of_le (succ_le_succ (le_trans (add_le_add_right (Nat.le_mul_of_pos_left _ (by decide)) _) (le_of_eq (Nat.div_add_mod a 2))))),le_trans (succ_le_succ (succ_le_succ (le_of_eq (Nat.div_add_mod a 2).symm))) (le_trans (le_of_eq (add_right_comm _ (a%2) 2)) (le_trans (add_le_add_left (Nat.le_mul_of_pos_left (a%2) (by decide:0<2)) (2*(a/2)+2)) (le_of_eq (by rw[Nat.mul_add,Nat.mul_add]))))⟩
theorem Jo:c=a->0+min (a-0) b<=c:=λp=>by rw[zero_add,p]; exact min_le_left _ _
theorem Ji:c<=b->a<c->a<=min (b-0) c:=λp q=>le_min.mpr ⟨le_trans (le_of_lt q) p,le_of_lt q⟩
theorem Ho:b<=a->min (a-0) b=b:=λp=>min_eq_right p
theorem DM:a<=b->a≥b->a=b:=λp q=>le_antisymm p q
theorem IS:¬a≥b->c=b->a+(b-a)<=c:=λp q=>le_of_eq ((add_sub_of_le (le_of_lt (lt_of_not_le p))).trans q.symm)
theorem E7:¬b≥a->1<=a-b:=λp=>succ_le_of_lt (sub_pos_of_lt (lt_of_not_le p))
theorem Gw:1<=b->b<=a->1<=a:=λp q=>le_trans p q
theorem G8:c=b->1<=d->d<=b-a->a+(b-a)=c:=λp q r=>(add_sub_of_le (le_of_lt (lt_of_sub_pos (lt_of_lt_of_le q r)))).trans p.symm
theorem D8:a<=c->c<0+b->a<b:=λp q=>lt_of_le_of_lt p (zero_add b▸q)
theorem sU:a<0+b->a<b:=λp=>zero_add b▸p
theorem CO:d=b->1<=e->e<=b-a->a+min (b-a) c<=d:=λp q r=>le_trans (add_le_add_left (min_le_left _ _) _) (le_of_eq ((add_sub_of_le (le_of_lt (lt_of_sub_pos (lt_of_lt_of_le q r)))).trans p.symm))
theorem Ff:b<=2*d->d<=c->a<=b-c->a<=min (b-c) d:=λp q r=>le_min.mpr ⟨r,le_trans r (Nat.sub_le_of_le_add (le_trans p (two_mul d▸add_le_add_left q _)))⟩
theorem Ix:a<=2*c->c<=b->min (a-b) c=a-b:=λp q=>min_eq_left (Nat.sub_le_of_le_add (le_trans p (two_mul c▸add_le_add_left q _)))
theorem EF:b<=2*d->d<=c->a<=b-c->¬a<d->a=b-c:=λp q r s=>le_antisymm r (le_trans (Nat.sub_le_of_le_add (le_trans p (two_mul d▸add_le_add_left q _))) (le_of_not_lt s))
theorem IY{a b c:Prop}{d:Nat}:2<=d->max 0 d=0->a/\(b\/c):=λp q=>by rw[Nat.zero_max] at q; rw[q] at p; exact absurd p (by decide)
theorem Jj:2<=b->max 0 b=1\/a=b->a=b:=by intros; lia
theorem Il:a=2->¬a<=1:=λp=>not_le_of_lt (lte (Nat.lt_succ_self _) p)
theorem DE:d=e->a+b=d->c=e->a+b=c:=λp q r=>Eq.trans q (Eq.trans p (Eq.symm r))
theorem IJ{a:Nat}{b:Prop}:2<=a->max 0 a=0/\b->False:=by intro p q; lia
theorem Ds:a+b<=1000000->a+b<=2^22:=λp=>le_trans p (by decide)
theorem EG:a+b<=1000000->a+b<=2^24:=λp=>le_trans p (by decide)
theorem E6{a:Nat}{b:Int}:¬(b=0\/(1000000000:Nat)<=a)->a<1073741824:=λp=>lt_trans (lt_of_not_le λg=>p (.inr g)) (by decide)
theorem I0{a:Int}{b:Nat}:(0:Int)<=a/\a<=(1000:Int)/\b<(2:Nat)^(63:Nat)->a<=1000000:=λp=>Int.le_trans p.2.1 (by decide)
theorem He{a:Nat}{b:Int}:(0:Int)<=b/\b<=(1000:Int)/\a<(2:Nat)^(63:Nat)->a<2^64:=λp=>lt_trans p.2.2 (by decide)
theorem DC:a<=60->1+300+2*a+4<1000:=λp=>lt_of_le_of_lt (add_le_add_right (add_le_add_left (Nat.mul_le_mul_left 2 p) _) 4) (by decide)
theorem E1:a<=60->4+100*a+300<9900:=λp=>lt_of_le_of_lt (add_le_add_right (add_le_add_left (Nat.mul_le_mul_left 100 p) _) 300) (by decide)
theorem Gi:a<=50->a+1<=60:=λp=>le_trans (succ_le_succ p) (by decide)
theorem Fm:b<=1000->a<=b->a<1000000:=λp q=>lt_of_le_of_lt q (lt_of_le_of_lt p (by decide))
theorem zG{a:Int}{b:Nat}:0<=a/\a<b->a.toNat<b:=λp=>tln p.1 p.2
theorem CV:a<=b+(a-b):=Nat.sub_le_iff_le_add'.mp (le_refl _)
theorem yT:¬b<=a->a<=b:=λp=>le_of_lt (lt_of_not_le p)
theorem r8:b<min d (c-a)->a+b<c:=λp=>Nat.add_lt_of_lt_sub' (lt_of_lt_of_le p (Nat.min_le_right _ _))
theorem F0:a<min b (c-d)->a<b:=λp=>lt_of_lt_of_le p (min_le_left _ _)
theorem oz:b<c-a->a+b<c:=λp=>Nat.add_lt_of_lt_sub' p
theorem Je:b<=d->a+d<c->a+b<c:=λp q=>lt_of_le_of_lt (add_le_add_left p _) q
theorem Dg:b<=a->d+a<c->a-b<c-(d+b):=λp q=>lt_sub_of_add_lt (elt (by rw[Nat.add_left_comm,sub_add_cancel p]) q)
theorem Jx:c<=b->a+b=a+c+(b-c):=λp=>by rw[add_assoc,add_sub_of_le p]
theorem yS:a<=c->c<b->a<b:=λp q=>lt_of_le_of_lt p q
theorem x5:a<=c->c<=b->a<=b:=λp q=>le_trans p q
theorem Gu:a+1=b->a<b:=λp=>lt_of_succ_le (le_of_eq p)
theorem D6:b+1=a->a<=b+1:=λp=>le_of_eq (Eq.symm p)
theorem Hk:a+1=c->c=b->a=b-1:=λp q=>by subst q; subst p; rfl
theorem yx:a<b->a+1≠b->a+1<b:=λp q=>lt_of_le_of_ne (succ_le_of_lt p) q
theorem CM:a<=b+c->a+1<=b+(c+1):=λp=>succ_le_succ p
theorem yQ:a<=b+c->a+1<=b+1+c:=λp=>le_trans (succ_le_succ p) (le_of_eq (add_right_comm b c 1))
theorem Fz:a+1<b->a+1+1≠b->a+1+1<b:=λp q=>lt_of_le_of_ne (succ_le_of_lt p) q
theorem Dk:a+1<b->a+1+(b-(a+1))<=b:=λp=>le_of_eq (Nat.add_sub_cancel' (le_of_lt p))
theorem Df:b+1<a->0<a-(b+1):=λp=>sub_pos_of_lt p
theorem HH:a+1+b+c<d->a+1+(b+c)<d:=λp=>elt (add_assoc _ _ _).symm p
theorem oB:a<=a+b:=le_add_right _ _
theorem C3:d+1+a+b<e->e=c->a+b<c-(d+1):=λp q=>lt_sub_of_add_lt (q▸elt (by rw[add_comm,<- add_assoc]) p)
theorem Ip:b<=c-(a+1)->b>0->a+1+b≠c->a+1+b<c:=λp q r=>lt_of_le_of_ne (Nat.add_le_of_le_sub' (le_of_lt (lt_of_sub_pos (lt_of_lt_of_le q p))) p) r
theorem C5:a<=b+c->a<=b+(c+1+d):=λp=>le_trans p (add_le_add_left (nxe (le_add_right _ _)) _)
theorem Gs:a<=b+c->a<=b+(c+1):=λp=>le_trans p (add_le_add_left (le_add_right _ _) _)
theorem HL:a+1<b->a+(b-a)<=b:=λp=>le_of_eq (add_sub_of_le (le_of_lt (Nat.lt_of_succ_lt p)))
theorem Hx:b+1<a->0<a-b:=λp=>sub_pos_of_lt (nxl p)
theorem Jk:a+b+c<d->a+(b+c)<d:=λp=>elt (add_assoc _ _ _).symm p
theorem ES:d+a+b<e->e=c->a+b<c-d:=λp q=>lt_sub_of_add_lt (q▸elt (by rw[add_comm,<- add_assoc]) p)
theorem C6:b<=c-a->b>0->a+b+1≠c->a+b≠c->a+b+1<c:=λp q r s=>lt_of_le_of_ne (lt_of_le_of_ne (Nat.add_le_of_le_sub' (le_of_lt (lt_of_sub_pos (lt_of_lt_of_le q p))) p) s) r
theorem IM:a<=b+d->a<=b+c+d:=λp=>le_trans p (add_le_add (le_add_right _ _) (le_refl _))
theorem Dr:a+b<=c+1->d+1<a->e<b->c<=d+e->False:=λp q r s=>lt_irrefl _ (lt_of_lt_of_le (Nat.add_lt_add q r) (le_trans p (le_trans (succ_le_succ s) (le_of_eq (add_right_comm d e 1)))))
theorem F1:a+b<=c+1+(a+b)+1:=le_succ_of_le (le_add_left _ _)
theorem yi:a+2<=a+1+b+1:=succ_le_succ (le_add_right _ _)
theorem Fl:a+b<=c+2+(a+b)+1:=le_succ_of_le (le_add_left _ _)
theorem y7:a+2<=a+2+b+1:=le_succ_of_le (le_add_right _ _)
theorem th:1<=a->a-1<a:=λp=>sub_lt (lt_of_succ_le p) (by decide)
theorem Ev:a+b<=1+(a+b)+1:=le_succ_of_le (le_add_left _ _)
theorem C1:a+b<=a+b+1+1:=le_succ_of_le (le_add_right _ _)
theorem Fy:a<=a+1:=le_add_right _ _
theorem yX:a+1-a=1:=add_sub_cancel_left _ _
theorem HC:a<min c b->a<b:=λp=>lt_of_lt_of_le p (min_le_right _ _)
theorem FC:a<min b c->a<b:=λp=>lt_of_lt_of_le p (min_le_left _ _)
theorem HW:a<=f->f+b+c<=d+e->a+b+c<=d+e:=λp q=>le_trans (add_le_add_right (add_le_add_right p _) _) q
theorem Et:a+b<=c->1<d->c+e+d<=a+b->False:=λp q r=>lt_irrefl c (lt_of_lt_of_le (lt_of_le_of_lt (le_add_right c e) (lt_add_of_pos_right (lt_trans one_pos q))) (le_trans r p))
theorem sY:a≠0->0<a:=λp=>Nat.pos_of_ne_zero p
theorem HQ:0<a->a≠1->1<a:=λp q=>lt_of_le_of_ne p (Ne.symm q)
theorem r5:0<a->a<=b->a-1<b:=λp q=>lt_of_lt_of_le (sub_lt p (by decide)) q
theorem sj:1<a->a<=b->a-1<b:=λp q=>lt_of_lt_of_le (sub_lt (lt_of_le_of_lt (zero_le _) p) (by decide)) q
theorem ov:a-1<b->a-1<=b:=λp=>le_of_lt p
theorem x6:0<b->a+b+c<=d+e->a+1+(b-1)+c<=d+e:=λp q=>by rw[add_assoc a 1,add_sub_of_le p]; exact q
theorem oF:1<a->0<a:=λp=>lt_of_le_of_lt (zero_le _) p
theorem DO:1<a->0<a-1:=λp=>lt_sub_of_add_lt p
theorem EV:1<c->a+b+c<=d+e->a+1+b+(c-1)<=d+e:=λp q=>by rw[add_right_comm a 1 b,add_assoc (a+b) 1,add_sub_of_le (le_of_lt p)]; exact q
theorem GM:a-1≠0->0<a-1:=λp=>Nat.pos_of_ne_zero p
theorem Fc:1<a->a-1≠1->1<a-1:=λp q=>lt_of_le_of_ne (le_sub_one_of_lt p) (Ne.symm q)
theorem CP:a-1<b->0+(a-1)<=b:=λp=>by rw[zero_add]; exact le_of_lt p
theorem EC:1<a-1->a-1-1<a-1:=λp=>sub_lt (lt_of_le_of_lt (zero_le _) p) (by decide)
theorem EJ:a+b+c<=d+e->a+b+(c-1)<=d+e:=λp=>adE (sub_le _ _) p
theorem HI:b<c-1-a->a+b<c-1:=λp=>Nat.add_lt_of_lt_sub' p
theorem Ju:a≠1->a≠0->1<a:=λp q=>lt_of_le_of_ne (Nat.pos_of_ne_zero q) (Ne.symm p)
theorem JF:c-1<b->a<=c-1->a<=b:=λp q=>le_trans q (le_of_lt p)
theorem Jg:a+b+f<=d+e->f-1-c>0->a+b+c<=d+e:=λp q=>le_trans (add_le_add_left (le_trans (le_of_lt (lt_of_sub_pos q)) (sub_le _ _)) _) p
theorem EM:a<=b-1->¬b-1-a>0->a=b-1:=λp q=>le_antisymm p (Nat.le_of_sub_eq_zero (Nat.eq_zero_of_not_pos q))
theorem Eg:a<=b->0+a<=b:=λp=>by rw[zero_add]; exact p
theorem DJ:0<a->a-1<a:=λp=>sub_lt p (by decide)
theorem G9:c<=b->a<=c->a<=b:=λp q=>le_trans q p
theorem Is:a+f+c<=d+e->b<=f->a+b+c<=d+e:=λp q=>le_trans (add_le_add (add_le_add_left q _) (le_refl _)) p
theorem Dh:a<=b->¬b-a>0->a=b:=λp q=>le_antisymm p (Nat.le_of_sub_eq_zero (Nat.eq_zero_of_not_pos q))
theorem DT:a+b<=c+1+(a+b):=le_add_left _ _
theorem DV:a+b<=c+2+(a+b):=le_add_left _ _
theorem Gv:a+b<=1+(a+b):=le_add_left _ _
theorem IR:a+b<=a+b+1:=le_add_right _ _
theorem Fr:a+b+(d+1)<=c->a+b<c:=λp=>lt_of_lt_of_le (lt_add_of_pos_right (succ_pos _)) p
theorem DB:a+b+(c+1)<=d->a+(b+1)+c<=d:=λp=>ele (by rw[<- add_assoc,<- add_assoc,add_right_comm]) p
theorem Gx:a+(b+1)-(a+b)=1:=by rw[<- add_assoc,add_sub_cancel_left]
theorem F3:min (a+b) c<=a+(b+1):=mnl (add_le_add_left (le_add_right _ _) _)
theorem HE:min (a+b) c<=a+(b+1)+d:=mnl (le_trans (add_le_add_left (le_succ _) _) (le_add_right _ _))
theorem Fu:a+(b+1)+c-(a+b)=c+1:=by rw[<- add_assoc,add_assoc (a+b) 1,add_sub_cancel_left,add_comm]
theorem CX:a+b+1+c=a+b+(c+1):=add_right_comm _ _ _
theorem I8:b<min c (d-a)->a+b<a+c:=λp=>add_lt_add_left (lt_of_lt_of_le p (min_le_left _ _)) _
theorem zR:a<b->a<0+b:=λp=>lt_of_lt_of_le p (le_add_left _ _)
theorem FJ:b+c=d->a<0+d->a<b+c:=λp q=>by rw[p]; rw[zero_add] at q; exact q
theorem HX:0+a<=a:=by lia
theorem IB:a+c=b->1<=c->a<b:=λp q=>lt_of_lt_of_le (lt_add_of_pos_right (lt_of_succ_le q)) (le_of_eq p)
theorem Ir:a+c=b->0+a<=b:=λp=>by subst p; rw[zero_add]; exact le_add_right _ _
theorem El:a<=b->b-a=0->a=b:=λp q=>le_antisymm p (Nat.le_of_sub_eq_zero q)
theorem sa:b+c=d->a<d->a<b+c:=λp q=>lte q p
theorem Jm:b-a≠0->a<b:=λp=>Nat.lt_of_sub_ne_zero p
theorem GP:b<c->a<b->0+a+(b-a)-1<c:=λp q=>lt_of_le_of_lt (sub_le _ _) (by rw[zero_add,add_sub_of_le (le_of_lt q)]; exact p)
theorem DF:a<b->0+a+(b-a)-1=b-1:=λp=>by rw[zero_add,add_sub_of_le (le_of_lt p)]
theorem C9:a+b=c->a+b<=c:=λp=>le_of_eq p
theorem yK:1<=a->a-1<0+a:=λp=>lt_of_lt_of_le (sub_lt (lt_of_succ_le p) (by decide)) (le_add_left _ _)
theorem zz:b+c=d->1<=c->a<d->a-b<c:=λp q r=>by subst p; exact (Nat.lt_or_ge a b).elim (λg=>by rw[Nat.sub_eq_zero_of_le (le_of_lt g)]; exact q) (λg=>Nat.sub_lt_left_of_lt_add g r)
theorem F8:a+d=b->min a b-c=a-c:=λp=>by subst p; rw[min_eq_left (le_add_right _ _)]
theorem Hv:a+d=c->b<=d->min (a+b) c-a=b:=λp q=>by subst p; rw[min_eq_left (add_le_add_left q _),add_sub_cancel_left]
theorem Gr:1<=b->0+c+(b-c)-1=b-1->a<c+(b-c)->a<0+b:=λp q r=>by rw[zero_add]; exact lt_of_lt_of_le r (le_of_eq (add_sub_of_le (wle p q)))
theorem FL:b+d=c->a<b->a+(b-a)<=c:=λp q=>by subst p; rw[add_sub_of_le (le_of_lt q)]; exact le_add_right _ _
theorem DW:d<=c->a<b+d->a<b+c:=λp q=>lt_of_lt_of_le q (add_le_add_left p _)
theorem FB:a+d=c->b<=d->a+b<=c:=λp q=>adE q (le_of_eq p)
theorem zt:0<b->a=b->0<a:=λp q=>lte p q
theorem zg:b<c->a=c-b->a-1<a:=λp q=>sub_lt (lte (sub_pos_of_lt p) q) (by decide)
theorem Ja:d+e=c->1<=d->1<=e->0+a+(d-a)-1=d-1->b=d-a->a+(b-1)<c:=λp q r s t=>by subst p; subst t; exact lt_of_le_of_lt (add_le_add_left (sub_le _ 1) _) (elt (add_sub_of_le (wle q s)) (lt_add_of_pos_right r))
theorem EX:a<c->b=c-a->a+(b-1)=c-1:=λp q=>by subst q; rw[<- Nat.add_sub_assoc (sub_pos_of_lt p),add_sub_of_le (le_of_lt p)]
theorem Ee:1<=b->0+c+(b-c)-1=b-1->a<c+(b-c)->a<b:=λp q r=>lt_of_lt_of_le r (le_of_eq (add_sub_of_le (wle p q)))
theorem II:b<=a->a<b+c->a-b<c:=λp q=>Nat.sub_lt_left_of_lt_add p q
theorem HB:b+e=d->1<=b->0+a+(b-a)-1=b-1->c<=e->a+0+(b-a+c)<=d:=λp q r s=>by subst p; rw[add_zero,<- add_assoc,add_sub_of_le (wle q r)]; exact add_le_add_left s _
theorem zI:1<=b->0+a+(b-a)-1=b-1->a+(b-a+c)=b+c:=λp q=>by rw[<- add_assoc,add_sub_of_le (wle p q)]
theorem GF:1<=b->0+a+(b-a)-1=b-1->a+(b-a)=b:=λp q=>add_sub_of_le (wle p q)
theorem Fp:1<=b->0+d+(b-d)-1=b-1->a<d+(b-d)->a<b+c:=λp q r=>lt_of_lt_of_le r (le_trans (le_of_eq (add_sub_of_le (wle p q))) (le_add_right _ _))
theorem EA:a<c->c<=b->a<=b:=λp q=>le_trans (le_of_lt p) q
theorem Fx:c+a<=b->a<=b-c:=λp=>le_sub_of_add_le (ele (add_comm _ _) p)
theorem Iu:a+c<=b->a+(b-a)=b:=λp=>Nat.add_sub_cancel' (nxe p)
theorem EU:a<c+d->c+d<=b->a<=b:=λp q=>le_trans (le_of_lt p) q
theorem F4:c<b->a<0+c->a<0+b:=λp q=>lt_of_lt_of_le q (le_of_lt (add_lt_add_left p _))
theorem Dz:c+d=b->a<c->0+a<=b:=λp q=>by subst p; rw[zero_add]; exact le_trans (le_of_lt q) (le_add_right _ _)
theorem JD:c+d=b->e<=d->a<c+e->a<b:=λp q r=>lt_of_lt_of_le r (adE q (le_of_eq p))
theorem Fs:a+c<=b->a<=b:=λp=>nxe p
theorem Do:d<=c->a<b+d+(c-d)->a<b+c:=λp q=>by rw[add_assoc,add_sub_of_le p] at q; exact q
theorem DI:a+c=d->b<=c->a+b+(c-b)<=d:=λp q=>by subst p; rw[add_assoc,add_sub_of_le q]; exact le_refl _
theorem Ij:b+d=a->a-(b+c)<=d-c:=λp=>by subst p; exact le_of_eq (Nat.add_sub_add_left _ _ _)
theorem Gn:a<c->c+d<=b->a<=b:=λp q=>le_trans (le_of_lt p) (nxe q)
theorem Hi:b<a->1<=a-b:=λp=>succ_le_of_lt (sub_pos_of_lt p)
theorem yq:0<a->1<=a:=λp=>succ_le_of_lt p
theorem GW:¬a-b<=c->1<=a-b:=λp=>le_trans (le_add_left _ _) (succ_le_of_lt (lt_of_not_le p))
theorem Gc:a<128->a<=1000:=λp=>le_trans (le_of_lt p) (by decide)
theorem zL:b<127->a<=b->a+1<=1000000:=λp q=>le_trans (succ_le_of_lt (lt_of_le_of_lt q p)) (by decide)
theorem zp:b<127->a<=b->a+1<128:=λp q=>Nat.add_lt_add_right (lt_of_le_of_lt q p) _
theorem ya:a<127->a<128:=λp=>lt_of_lt_of_le p (by decide)
theorem JE{a b:Int}:b<a->¬a<=b:=not_le.mpr
theorem FF{a:Int}{b:Nat}:0<=a/\a<b->a<b:=λp=>p.2
theorem Ig:b<127->a<=b->a<1000000:=λp q=>lt_of_lt_of_le (lt_of_le_of_lt q p) (by decide)
theorem JC{a:Int}{b:Nat}:a%(b+1)<b+1->a%(b+1)<=b:=λp=>Int.le_of_lt_add_one p
theorem HN:a<b->a+1<b+1:=λp=>Nat.add_lt_add_right p _
theorem Hu:0<a->a-1+1=a:=λp=>sub_add_cancel (succ_le_of_lt p)
theorem Ed:c<d->d<=0->a<=b:=λp q=>absurd (lt_of_lt_of_le p q) (not_lt_zero _)
theorem Fq:a<c->c<=b+1->a<=b:=λp q=>le_of_lt_succ (lt_of_lt_of_le p q)
theorem Fb{a:Int}:a/4%3=0\/a/4%3=1\/a/4%3=2:=by lia
theorem yI{a:Int}{b:Nat}:0<b->a/24%b<b->(a/(24:Int)%(↑b:Int)).toNat<b:=λp q=>tlt p q
theorem Fj{a:Int}{b:Nat}:0<=a/96%(b+1)->a/(96:Int)%((↑b:Int)+(1:Int))=(↑(a/(96:Int)%((↑b:Int)+(1:Int))).toNat:Int):=λp=>Eq.symm (toNat_of_nonneg p)
theorem yW{a b:Nat}{c:Int}:b<=100->c/96%(b+1)<b+1->c/96%(b+1)=a->a<=1000000:=by intro p q r; lia
theorem FM:b<=100->min a b+1<=1000000:=λp=>le_trans (succ_le_succ (mne p)) (by decide)
theorem Eu:b<=100->min a b+1+(b-a)<=1000000:=by intro p; grind
theorem Dj{a b:Nat}:b<=100->min a b+1+(b-a)<127:=λp=>by rw[mn2]; exact lt_of_le_of_lt (succ_le_succ p) (by decide)
theorem oq:a<=100->a<127:=λp=>lt_of_le_of_lt p (by decide)
theorem Hh:a+1=b->a=c->b=c->False:=by intros; lia
theorem zK:b<=100->a+1=b->a<127:=λp q=>lt_of_lt_of_le (lt_of_succ_le (ele q p)) (by decide)
theorem Hc:b<=100->a<=b->a<=1000:=λp q=>le_trans q (le_trans p (by decide))
theorem Fa{a:Nat}{b:Prop}:a<=100/\b->a<127:=λp=>lt_of_le_of_lt p.1 (by decide)
theorem JA{a b c d:Nat}:b<=100->c<=b->c=a+(d+1)->a<1000000:=λp q r=>lt_of_le_of_lt (le_trans (le_trans (le_add_right a _) (le_of_eq r.symm)) (le_trans q p)) (by decide)
theorem Ie:b<=100->a<=b->a<=1000000:=λp q=>le_trans q (le_trans p (by decide))
theorem Iq:b=a+c->a<=b:=λp=>lee (le_add_right _ _) p
theorem Fg{a:Int}{b c:Nat}:b=c->0<=a/\a<c->a.toNat<b:=λp q=>lte (tln q.1 q.2) p
theorem GV{a:Int}{b c d:Nat}:c=d->b=d->a.toNat<c->a.toNat<b:=λp q r=>lt_of_lt_of_le r (lee (le_of_eq p) q)
theorem yJ{a b c d:Nat}:b<=100->c<=b->d<=c->a<=100+d->a<1000000:=λp q r s=>lt_of_le_of_lt (le_trans s (add_le_add_left (le_trans r (le_trans q p)) 100)) (by decide)
theorem zc:a<=100+b->a<=100+(b+c):=λp=>le_trans p (add_le_add (by decide) (le_add_right _ _))
theorem ye{a b:Nat}:a<=100+b->a+1<=100+(b+1):=λh=>succ_le_succ h
theorem Jc{a:Nat}{b:Prop}:a<=100/\b->a<=1000:=λp=>le_trans p.1 (by decide)
theorem DL{a b:Int}:0<=b->a.toNat<=b.toNat->a<=b:=λp q=>Int.le_trans (Int.self_le_toNat a) (Int.le_trans (ofNat_le.mpr q) (Int.le_of_eq (toNat_of_nonneg p)))
end
theorem aB (h0:p0 ) (h1:p1 ):p0/\p1:=⟨h0,h1⟩
theorem cg (h0:p0 ) (h1:p1 ) (h2:p2 ):p0/\p1/\p2:=⟨h0,h1,h2⟩
theorem cZ (h0:p0 ) (h1:p1 ) (h2:p2 ) (h3:p3 ):p0/\p1/\p2/\p3:=⟨h0,h1,h2,h3⟩
theorem cy (h0:p0 ) (h1:p1 ) (h2:p2 ) (h3:p3 ) (h4:p4 ):p0/\p1/\p2/\p3/\p4:=⟨h0,h1,h2,h3,h4⟩
theorem lG (h0:p0 ) (h1:p1 ) (h2:p2 ) (h3:p3 ) (h4:p4 ) (h5:p5 ):p0/\p1/\p2/\p3/\p4/\p5:=⟨h0,h1,h2,h3,h4,h5⟩
theorem bV{A:Sort u0}{p:A->Prop}(a:A):p a->∃ a,p a:=λp=>⟨a,p⟩
theorem ah{A:Sort u0}{p q:A->Prop}(a:A):p a->q a->∃ a,p a/\q a:=λp q=>⟨a,p,q⟩
theorem aF{A:Sort u0}{p q r:A->Prop}(a:A):p a->q a->r a->∃ a,p a/\q a/\r a:=λp q r=>⟨a,p,q,r⟩
theorem bw{A:Sort u0}{p q r s:A->Prop}(a:A):p a->q a->r a->s a->∃ a,p a/\q a/\r a/\s a:=λp q r s=>⟨a,p,q,r,s⟩
theorem ic{A:Sort u0}{p q r s t:A->Prop}(a:A):p a->q a->r a->s a->t a->∃ a,p a/\q a/\r a/\s a/\t a:=λp q r s t=>⟨a,p,q,r,s,t⟩
theorem jI{A:Sort u0}{p q r s t u:A->Prop}(a:A):p a->q a->r a->s a->t a->u a->∃ a,p a/\q a/\r a/\s a/\t a/\u a:=λp q r s t u=>⟨a,p,q,r,s,t,u⟩
theorem s9{A:Sort u0}{p q r s t u v:A->Prop}(a:A):p a->q a->r a->s a->t a->u a->v a->∃ a,p a/\q a/\r a/\s a/\t a/\u a/\v a:=λp q r s t u v=>⟨a,p,q,r,s,t,u,v⟩
theorem bN{A:Sort u0}{B:Sort u1}{p:A->B->Prop}(a:A)(b:B):p a b->∃ a b,p a b:=λp=>⟨a,b,p⟩
theorem aC{A:Sort u0}{B:Sort u1}{p q:A->B->Prop}(a:A)(b:B):p a b->q a b->∃ a b,p a b/\q a b:=λp q=>⟨a,b,p,q⟩
theorem aM{A:Sort u0}{B:Sort u1}{p q r:A->B->Prop}(a:A)(b:B):p a b->q a b->r a b->∃ a b,p a b/\q a b/\r a b:=λp q r=>⟨a,b,p,q,r⟩
theorem be{A:Sort u0}{B:Sort u1}{p q r s:A->B->Prop}(a:A)(b:B):p a b->q a b->r a b->s a b->∃ a b,p a b/\q a b/\r a b/\s a b:=λp q r s=>⟨a,b,p,q,r,s⟩
theorem bP{A:Sort u0}{B:Sort u1}{p q r s t:A->B->Prop}(a:A)(b:B):p a b->q a b->r a b->s a b->t a b->∃ a b,p a b/\q a b/\r a b/\s a b/\t a b:=λp q r s t=>⟨a,b,p,q,r,s,t⟩
theorem ou{A:Sort u0}{B:Sort u1}{p q r s t u:A->B->Prop}(a:A)(b:B):p a b->q a b->r a b->s a b->t a b->u a b->∃ a b,p a b/\q a b/\r a b/\s a b/\t a b/\u a b:=λp q r s t u=>⟨a,b,p,q,r,s,t,u⟩
theorem gc{A:Sort u0}{B:Sort u1}{p q r s t u v:A->B->Prop}(a:A)(b:B):p a b->q a b->r a b->s a b->t a b->u a b->v a b->∃ a b,p a b/\q a b/\r a b/\s a b/\t a b/\u a b/\v a b:=λp q r s t u v=>⟨a,b,p,q,r,s,t,u,v⟩
theorem Cf{p q r s t u v w x y:A->B->Prop}(a:A)(b:B):p a b->q a b->r a b->s a b->t a b->u a b->v a b->w a b->x a b->y a b->∃ a b,p a b/\q a b/\r a b/\s a b/\t a b/\u a b/\v a b/\w a b/\x a b/\y a b:=λp q r s t u v w x y=>⟨a,b,p,q,r,s,t,u,v,w,x,y⟩
theorem cz{A:Sort u0}{B:Sort u1}{C:Sort u2}{p q:A->B->C->Prop}(a:A)(b:B)(c:C):p a b c->q a b c->∃ a b c,p a b c/\q a b c:=λp q=>⟨a,b,c,p,q⟩
theorem cF{A:Sort u0}{B:Sort u1}{C:Sort u2}{p q r:A->B->C->Prop}(a:A)(b:B)(c:C):p a b c->q a b c->r a b c->∃ a b c,p a b c/\q a b c/\r a b c:=λp q r=>⟨a,b,c,p,q,r⟩
theorem gf{A:Sort u0}{B:Sort u1}{C:Sort u2}{p q r s:A->B->C->Prop}(a:A)(b:B)(c:C):p a b c->q a b c->r a b c->s a b c->∃ a b c,p a b c/\q a b c/\r a b c/\s a b c:=λp q r s=>⟨a,b,c,p,q,r,s⟩
theorem sw{A:Sort u0}{B:Sort u1}{C:Sort u2}{p q r s t:A->B->C->Prop}(a:A)(b:B)(c:C):p a b c->q a b c->r a b c->s a b c->t a b c->∃ a b c,p a b c/\q a b c/\r a b c/\s a b c/\t a b c:=λp q r s t=>⟨a,b,c,p,q,r,s,t⟩
theorem fo{A:Sort u0}{B:Sort u1}{C:Sort u2}{p q r s t u:A->B->C->Prop}(a:A)(b:B)(c:C):p a b c->q a b c->r a b c->s a b c->t a b c->u a b c->∃ a b c,p a b c/\q a b c/\r a b c/\s a b c/\t a b c/\u a b c:=λp q r s t u=>⟨a,b,c,p,q,r,s,t,u⟩
theorem lZ{A:Sort u0}{B:Sort u1}{C:Sort u2}{p q r s t u v:A->B->C->Prop}(a:A)(b:B)(c:C):p a b c->q a b c->r a b c->s a b c->t a b c->u a b c->v a b c->∃ a b c,p a b c/\q a b c/\r a b c/\s a b c/\t a b c/\u a b c/\v a b c:=λp q r s t u v=>⟨a,b,c,p,q,r,s,t,u,v⟩
theorem dY{A:Sort u0}{B:Sort u1}{C:Sort u2}{D:Sort u3}{p q:A->B->C->D->Prop}(a:A)(b:B)(c:C)(d:D):p a b c d->q a b c d->∃ a b c d,p a b c d/\q a b c d:=λp q=>⟨a,b,c,d,p,q⟩
theorem iy{A:Sort u0}{B:Sort u1}{C:Sort u2}{D:Sort u3}{p q r s:A->B->C->D->Prop}(a:A)(b:B)(c:C)(d:D):p a b c d->q a b c d->r a b c d->s a b c d->∃ a b c d,p a b c d/\q a b c d/\r a b c d/\s a b c d:=λp q r s=>⟨a,b,c,d,p,q,r,s⟩
theorem j4{A:Sort u0}{B:Sort u1}{C:Sort u2}{D:Sort u3}{p q r s t:A->B->C->D->Prop}(a:A)(b:B)(c:C)(d:D):p a b c d->q a b c d->r a b c d->s a b c d->t a b c d->∃ a b c d,p a b c d/\q a b c d/\r a b c d/\s a b c d/\t a b c d:=λp q r s t=>⟨a,b,c,d,p,q,r,s,t⟩
theorem pj{A:Sort u0}{B:Sort u1}{C:Sort u2}{D:Sort u3}{p q r s t u v w:A->B->C->D->Prop}(a:A)(b:B)(c:C)(d:D):p a b c d->q a b c d->r a b c d->s a b c d->t a b c d->u a b c d->v a b c d->w a b c d->∃ a b c d,p a b c d/\q a b c d/\r a b c d/\s a b c d/\t a b c d/\u a b c d/\v a b c d/\w a b c d:=λp q r s t u v w=>⟨a,b,c,d,p,q,r,s,t,u,v,w⟩
theorem tb{A:Sort u0}{B:Sort u1}{C:Sort u2}{D:Sort u3}{E:Sort u4}{p q:A->B->C->D->E->Prop}(a:A)(b:B)(c:C)(d:D)(e:E):p a b c d e->q a b c d e->∃ a b c d e,p a b c d e/\q a b c d e:=λp q=>⟨a,b,c,d,e,p,q⟩
theorem tE{A:Sort u0}{B:Sort u1}{C:Sort u2}{D:Sort u3}{E:Sort u4}{p q r s:A->B->C->D->E->Prop}(a:A)(b:B)(c:C)(d:D)(e:E):p a b c d e->q a b c d e->r a b c d e->s a b c d e->∃ a b c d e,p a b c d e/\q a b c d e/\r a b c d e/\s a b c d e:=λp q r s=>⟨a,b,c,d,e,p,q,r,s⟩
theorem yw{A:Sort u0}{B:Sort u1}{C:Sort u2}{D:Sort u3}{E:Sort u4}{F:Sort u5}{p q:A->B->C->D->E->F->Prop}(a:A)(b:B)(c:C)(d:D)(e:E)(f:F):p a b c d e f->q a b c d e f->∃ a b c d e f,p a b c d e f/\q a b c d e f:=λp q=>⟨a,b,c,d,e,f,p,q⟩
theorem jK{A:Sort u0}{B:Sort u1}{C:Sort u2}{D:Sort u3}{E:Sort u4}{F:Sort u5}{H:Sort u6}{p q:A->B->C->D->E->F->H->Prop}(a:A)(b:B)(c:C)(d:D)(e:E)(f:F)(g:H):p a b c d e f g->q a b c d e f g->∃ a b c d e f g,p a b c d e f g/\q a b c d e f g:=λp q=>⟨a,b,c,d,e,f,g,p,q⟩
theorem BB{A:Sort u0}{B:Sort u1}{C:Sort u2}{D:Sort u3}{E:Sort u4}{F:Sort u5}{H:Sort u6}{p q r s t u v:A->B->C->D->E->F->H->Prop}(a:A)(b:B)(c:C)(d:D)(e:E)(f:F)(g:H):p a b c d e f g->q a b c d e f g->r a b c d e f g->s a b c d e f g->t a b c d e f g->u a b c d e f g->v a b c d e f g->∃ a b c d e f g,p a b c d e f g/\q a b c d e f g/\r a b c d e f g/\s a b c d e f g/\t a b c d e f g/\u a b c d e f g/\v a b c d e f g:=λp q r s t u v=>⟨a,b,c,d,e,f,g,p,q,r,s,t,u,v⟩
theorem uU{A:Sort u0}{B:Sort u1}{C:Sort u2}{D:Sort u3}{E:Sort u4}{F:Sort u5}{H:Sort u6}{I:Sort u7}{p q:A->B->C->D->E->F->H->I->Prop}(a:A)(b:B)(c:C)(d:D)(e:E)(f:F)(g:H)(i:I):p a b c d e f g i->q a b c d e f g i->∃ a b c d e f g i,p a b c d e f g i/\q a b c d e f g i:=λp q=>⟨a,b,c,d,e,f,g,i,p,q⟩
theorem jy{p q r s t u v w x y z R S T:A->B->C->D->E->F->H->I->Prop}(a:A)(b:B)(c:C)(d:D)(e:E)(f:F)(g:H)(i:I):p a b c d e f g i->q a b c d e f g i->r a b c d e f g i->s a b c d e f g i->t a b c d e f g i->u a b c d e f g i->v a b c d e f g i->w a b c d e f g i->x a b c d e f g i->y a b c d e f g i->z a b c d e f g i->R a b c d e f g i->S a b c d e f g i->T a b c d e f g i->∃ a b c d e f g i,p a b c d e f g i/\q a b c d e f g i/\r a b c d e f g i/\s a b c d e f g i/\t a b c d e f g i/\u a b c d e f g i/\v a b c d e f g i/\w a b c d e f g i/\x a b c d e f g i/\y a b c d e f g i/\z a b c d e f g i/\R a b c d e f g i/\S a b c d e f g i/\T a b c d e f g i:=λp q r s t u v w x y z R S T=>⟨a,b,c,d,e,f,g,i,p,q,r,s,t,u,v,w,x,y,z,R,S,T⟩
theorem oH{p q r s t u v w x y z R S T:A->B->C->D->E->F->H->I->J->Prop}(a:A)(b:B)(c:C)(d:D)(e:E)(f:F)(g:H)(i:I)(j:J):p a b c d e f g i j->q a b c d e f g i j->r a b c d e f g i j->s a b c d e f g i j->t a b c d e f g i j->u a b c d e f g i j->v a b c d e f g i j->w a b c d e f g i j->x a b c d e f g i j->y a b c d e f g i j->z a b c d e f g i j->R a b c d e f g i j->S a b c d e f g i j->T a b c d e f g i j->∃ a b c d e f g i j,p a b c d e f g i j/\q a b c d e f g i j/\r a b c d e f g i j/\s a b c d e f g i j/\t a b c d e f g i j/\u a b c d e f g i j/\v a b c d e f g i j/\w a b c d e f g i j/\x a b c d e f g i j/\y a b c d e f g i j/\z a b c d e f g i j/\R a b c d e f g i j/\S a b c d e f g i j/\T a b c d e f g i j:=λp q r s t u v w x y z R S T=>⟨a,b,c,d,e,f,g,i,j,p,q,r,s,t,u,v,w,x,y,z,R,S,T⟩
section
variable {G:Prop}
theorem ae (h:p0/\p1) (k:p0->p1->G):G:=by
 obtain ⟨h0,h1⟩:=h
 exact k h0 h1
theorem ak{A:Sort u0}{p:A->Prop}(h:∃ a,p a)(k:∀ a,p a->G):G:=by obtain ⟨a,p⟩:=h;exact k a p
theorem aG (h:p0/\p1/\p2) (k:p0->p1->p2->G):G:=by
 obtain ⟨h0,h1,h2⟩:=h
 exact k h0 h1 h2
theorem af{A:Sort u0}{p q:A->Prop}(h:∃ a,p a/\q a)(k:∀ a,p a->q a->G):G:=by obtain ⟨a,p,q⟩:=h;exact k a p q
theorem ba{A:Sort u0}{B:Sort u1}{p:A->B->Prop}(h:∃ a b,p a b)(k:∀ a b,p a b->G):G:=by obtain ⟨a,b,p⟩:=h;exact k a b p
theorem cG (h:p0/\p1/\p2/\p3) (k:p0->p1->p2->p3->G):G:=by
 obtain ⟨h0,h1,h2,h3⟩:=h
 exact k h0 h1 h2 h3
theorem aq{A:Sort u0}{p q r:A->Prop}(h:∃ a,p a/\q a/\r a)(k:∀ a,p a->q a->r a->G):G:=by obtain ⟨a,p,q,r⟩:=h;exact k a p q r
theorem av{A:Sort u0}{B:Sort u1}{p q:A->B->Prop}(h:∃ a b,p a b/\q a b)(k:∀ a b,p a b->q a b->G):G:=by obtain ⟨a,b,p,q⟩:=h;exact k a b p q
theorem Jt{A:Sort u0}{B:Sort u1}{C:Sort u2}{p:A->B->C->Prop}(h:∃ a b c,p a b c)(k:∀ a b c,p a b c->G):G:=by obtain ⟨a,b,c,p⟩:=h;exact k a b c p
theorem bQ{A:Sort u0}{p q r s:A->Prop}(h:∃ a,p a/\q a/\r a/\s a)(k:∀ a,p a->q a->r a->s a->G):G:=by obtain ⟨a,p,q,r,s⟩:=h;exact k a p q r s
theorem aA{A:Sort u0}{B:Sort u1}{p q r:A->B->Prop}(h:∃ a b,p a b/\q a b/\r a b)(k:∀ a b,p a b->q a b->r a b->G):G:=by obtain ⟨a,b,p,q,r⟩:=h;exact k a b p q r
theorem bv{A:Sort u0}{B:Sort u1}{C:Sort u2}{p q:A->B->C->Prop}(h:∃ a b c,p a b c/\q a b c)(k:∀ a b c,p a b c->q a b c->G):G:=by obtain ⟨a,b,c,p,q⟩:=h;exact k a b c p q
theorem H0{A:Sort u0}{B:Sort u1}{C:Sort u2}{D:Sort u3}{p:A->B->C->D->Prop}(h:∃ a b c d,p a b c d)(k:∀ a b c d,p a b c d->G):G:=by obtain ⟨a,b,c,d,p⟩:=h;exact k a b c d p
theorem jW{A:Sort u0}{p q r s t:A->Prop}(h:∃ a,p a/\q a/\r a/\s a/\t a)(k:∀ a,p a->q a->r a->s a->t a->G):G:=by obtain ⟨a,p,q,r,s,t⟩:=h;exact k a p q r s t
theorem aZ{A:Sort u0}{B:Sort u1}{p q r s:A->B->Prop}(h:∃ a b,p a b/\q a b/\r a b/\s a b)(k:∀ a b,p a b->q a b->r a b->s a b->G):G:=by obtain ⟨a,b,p,q,r,s⟩:=h;exact k a b p q r s
theorem aV{A:Sort u0}{B:Sort u1}{C:Sort u2}{p q r:A->B->C->Prop}(h:∃ a b c,p a b c/\q a b c/\r a b c)(k:∀ a b c,p a b c->q a b c->r a b c->G):G:=by obtain ⟨a,b,c,p,q,r⟩:=h;exact k a b c p q r
theorem cq{A:Sort u0}{B:Sort u1}{C:Sort u2}{D:Sort u3}{p q:A->B->C->D->Prop}(h:∃ a b c d,p a b c d/\q a b c d)(k:∀ a b c d,p a b c d->q a b c d->G):G:=by obtain ⟨a,b,c,d,p,q⟩:=h;exact k a b c d p q
theorem iu{A:Sort u0}{p q r s t u:A->Prop}(h:∃ a,p a/\q a/\r a/\s a/\t a/\u a)(k:∀ a,p a->q a->r a->s a->t a->u a->G):G:=by obtain ⟨a,p,q,r,s,t,u⟩:=h;exact k a p q r s t u
theorem lU{A:Sort u0}{B:Sort u1}{p q r s t:A->B->Prop}(h:∃ a b,p a b/\q a b/\r a b/\s a b/\t a b)(k:∀ a b,p a b->q a b->r a b->s a b->t a b->G):G:=by obtain ⟨a,b,p,q,r,s,t⟩:=h;exact k a b p q r s t
theorem eV{A:Sort u0}{B:Sort u1}{C:Sort u2}{p q r s:A->B->C->Prop}(h:∃ a b c,p a b c/\q a b c/\r a b c/\s a b c)(k:∀ a b c,p a b c->q a b c->r a b c->s a b c->G):G:=by obtain ⟨a,b,c,p,q,r,s⟩:=h;exact k a b c p q r s
theorem si{A:Sort u0}{B:Sort u1}{C:Sort u2}{D:Sort u3}{p q r:A->B->C->D->Prop}(h:∃ a b c d,p a b c d/\q a b c d/\r a b c d)(k:∀ a b c d,p a b c d->q a b c d->r a b c d->G):G:=by obtain ⟨a,b,c,d,p,q,r⟩:=h;exact k a b c d p q r
theorem jN{A:Sort u0}{B:Sort u1}{C:Sort u2}{D:Sort u3}{E:Sort u4}{p q:A->B->C->D->E->Prop}(h:∃ a b c d e,p a b c d e/\q a b c d e)(k:∀ a b c d e,p a b c d e->q a b c d e->G):G:=by obtain ⟨a,b,c,d,e,p,q⟩:=h;exact k a b c d e p q
theorem zP{A:Sort u0}{p q r s t u v:A->Prop}(h:∃ a,p a/\q a/\r a/\s a/\t a/\u a/\v a)(k:∀ a,p a->q a->r a->s a->t a->u a->v a->G):G:=by obtain ⟨a,p,q,r,s,t,u,v⟩:=h;exact k a p q r s t u v
theorem zJ{A:Sort u0}{B:Sort u1}{p q r s t u:A->B->Prop}(h:∃ a b,p a b/\q a b/\r a b/\s a b/\t a b/\u a b)(k:∀ a b,p a b->q a b->r a b->s a b->t a b->u a b->G):G:=by obtain ⟨a,b,p,q,r,s,t,u⟩:=h;exact k a b p q r s t u
theorem sF{A:Sort u0}{B:Sort u1}{C:Sort u2}{p q r s t:A->B->C->Prop}(h:∃ a b c,p a b c/\q a b c/\r a b c/\s a b c/\t a b c)(k:∀ a b c,p a b c->q a b c->r a b c->s a b c->t a b c->G):G:=by obtain ⟨a,b,c,p,q,r,s,t⟩:=h;exact k a b c p q r s t
theorem gd{A:Sort u0}{B:Sort u1}{C:Sort u2}{D:Sort u3}{p q r s:A->B->C->D->Prop}(h:∃ a b c d,p a b c d/\q a b c d/\r a b c d/\s a b c d)(k:∀ a b c d,p a b c d->q a b c d->r a b c d->s a b c d->G):G:=by obtain ⟨a,b,c,d,p,q,r,s⟩:=h;exact k a b c d p q r s
theorem G1{A:Sort u0}{B:Sort u1}{C:Sort u2}{D:Sort u3}{E:Sort u4}{p q r:A->B->C->D->E->Prop}(h:∃ a b c d e,p a b c d e/\q a b c d e/\r a b c d e)(k:∀ a b c d e,p a b c d e->q a b c d e->r a b c d e->G):G:=by obtain ⟨a,b,c,d,e,p,q,r⟩:=h;exact k a b c d e p q r
theorem s6{A:Sort u0}{B:Sort u1}{C:Sort u2}{D:Sort u3}{E:Sort u4}{F:Sort u5}{p q:A->B->C->D->E->F->Prop}(h:∃ a b c d e f,p a b c d e f/\q a b c d e f)(k:∀ a b c d e f,p a b c d e f->q a b c d e f->G):G:=by obtain ⟨a,b,c,d,e,f,p,q⟩:=h;exact k a b c d e f p q
theorem rX{A:Sort u0}{B:Sort u1}{p q r s t u v:A->B->Prop}(h:∃ a b,p a b/\q a b/\r a b/\s a b/\t a b/\u a b/\v a b)(k:∀ a b,p a b->q a b->r a b->s a b->t a b->u a b->v a b->G):G:=by obtain ⟨a,b,p,q,r,s,t,u,v⟩:=h;exact k a b p q r s t u v
theorem cK{A:Sort u0}{B:Sort u1}{C:Sort u2}{p q r s t u:A->B->C->Prop}(h:∃ a b c,p a b c/\q a b c/\r a b c/\s a b c/\t a b c/\u a b c)(k:∀ a b c,p a b c->q a b c->r a b c->s a b c->t a b c->u a b c->G):G:=by obtain ⟨a,b,c,p,q,r,s,t,u⟩:=h;exact k a b c p q r s t u
theorem HV{A:Sort u0}{B:Sort u1}{C:Sort u2}{D:Sort u3}{p q r s t:A->B->C->D->Prop}(h:∃ a b c d,p a b c d/\q a b c d/\r a b c d/\s a b c d/\t a b c d)(k:∀ a b c d,p a b c d->q a b c d->r a b c d->s a b c d->t a b c d->G):G:=by obtain ⟨a,b,c,d,p,q,r,s,t⟩:=h;exact k a b c d p q r s t
theorem s7{A:Sort u0}{B:Sort u1}{C:Sort u2}{D:Sort u3}{E:Sort u4}{p q r s:A->B->C->D->E->Prop}(h:∃ a b c d e,p a b c d e/\q a b c d e/\r a b c d e/\s a b c d e)(k:∀ a b c d e,p a b c d e->q a b c d e->r a b c d e->s a b c d e->G):G:=by obtain ⟨a,b,c,d,e,p,q,r,s⟩:=h;exact k a b c d e p q r s
theorem fX{A:Sort u0}{B:Sort u1}{C:Sort u2}{D:Sort u3}{E:Sort u4}{F:Sort u5}{H:Sort u6}{p q:A->B->C->D->E->F->H->Prop}(h:∃ a b c d e f g,p a b c d e f g/\q a b c d e f g)(k:∀ a b c d e f g,p a b c d e f g->q a b c d e f g->G):G:=by obtain ⟨a,b,c,d,e,f,g,p,q⟩:=h;exact k a b c d e f g p q
theorem BO{A:Sort u0}{B:Sort u1}{C:Sort u2}{p q r s t u v:A->B->C->Prop}(h:∃ a b c,p a b c/\q a b c/\r a b c/\s a b c/\t a b c/\u a b c/\v a b c)(k:∀ a b c,p a b c->q a b c->r a b c->s a b c->t a b c->u a b c->v a b c->G):G:=by obtain ⟨a,b,c,p,q,r,s,t,u,v⟩:=h;exact k a b c p q r s t u v
theorem Cn{A:Sort u0}{B:Sort u1}{C:Sort u2}{D:Sort u3}{E:Sort u4}{p q r s t:A->B->C->D->E->Prop}(h:∃ a b c d e,p a b c d e/\q a b c d e/\r a b c d e/\s a b c d e/\t a b c d e)(k:∀ a b c d e,p a b c d e->q a b c d e->r a b c d e->s a b c d e->t a b c d e->G):G:=by obtain ⟨a,b,c,d,e,p,q,r,s,t⟩:=h;exact k a b c d e p q r s t
theorem Co{A:Sort u0}{B:Sort u1}{C:Sort u2}{D:Sort u3}{E:Sort u4}{F:Sort u5}{H:Sort u6}{I:Sort u7}{p q:A->B->C->D->E->F->H->I->Prop}(h:∃ a b c d e f g i,p a b c d e f g i/\q a b c d e f g i)(k:∀ a b c d e f g i,p a b c d e f g i->q a b c d e f g i->G):G:=by obtain ⟨a,b,c,d,e,f,g,i,p,q⟩:=h;exact k a b c d e f g i p q
theorem Cb{A:Sort u0}{B:Sort u1}{C:Sort u2}{D:Sort u3}{E:Sort u4}{p q r s t u:A->B->C->D->E->Prop}(h:∃ a b c d e,p a b c d e/\q a b c d e/\r a b c d e/\s a b c d e/\t a b c d e/\u a b c d e)(k:∀ a b c d e,p a b c d e->q a b c d e->r a b c d e->s a b c d e->t a b c d e->u a b c d e->G):G:=by obtain ⟨a,b,c,d,e,p,q,r,s,t,u⟩:=h;exact k a b c d e p q r s t u
theorem BE{p q r s t u v w x y:A->B->Prop}(h:∃ a b,p a b/\q a b/\r a b/\s a b/\t a b/\u a b/\v a b/\w a b/\x a b/\y a b)(k:∀ a b,p a b->q a b->r a b->s a b->t a b->u a b->v a b->w a b->x a b->y a b->G):G:=by obtain ⟨a,b,p,q,r,s,t,u,v,w,x,y⟩:=h;exact k a b p q r s t u v w x y
theorem uw{A:Sort u0}{B:Sort u1}{C:Sort u2}{D:Sort u3}{p q r s t u v w:A->B->C->D->Prop}(h:∃ a b c d,p a b c d/\q a b c d/\r a b c d/\s a b c d/\t a b c d/\u a b c d/\v a b c d/\w a b c d)(k:∀ a b c d,p a b c d->q a b c d->r a b c d->s a b c d->t a b c d->u a b c d->v a b c d->w a b c d->G):G:=by obtain ⟨a,b,c,d,p,q,r,s,t,u,v,w⟩:=h;exact k a b c d p q r s t u v w
theorem ew{A:Sort u0}{B:Sort u1}{C:Sort u2}{D:Sort u3}{E:Sort u4}{F:Sort u5}{H:Sort u6}{I:Sort u7}{J:Sort u8}{K:Sort u9}{L:Sort u10}{M:Sort u11}{p:A->B->C->D->E->F->H->I->J->K->L->M->Prop}(h:∃ a b c d e f g i j l m n,p a b c d e f g i j l m n)(k:∀ a b c d e f g i j l m n,p a b c d e f g i j l m n->G):G:=by obtain ⟨a,b,c,d,e,f,g,i,j,l,m,n,p⟩:=h;exact k a b c d e f g i j l m n p
theorem ld{p q r s t u v w x y:A->B->C->D->Prop}(h:∃ a b c d,p a b c d/\q a b c d/\r a b c d/\s a b c d/\t a b c d/\u a b c d/\v a b c d/\w a b c d/\x a b c d/\y a b c d)(k:∀ a b c d,p a b c d->q a b c d->r a b c d->s a b c d->t a b c d->u a b c d->v a b c d->w a b c d->x a b c d->y a b c d->G):G:=by obtain ⟨a,b,c,d,p,q,r,s,t,u,v,w,x,y⟩:=h;exact k a b c d p q r s t u v w x y
theorem uj{p q r s t u v w x y z R S:A->B->Prop}(h:∃ a b,p a b/\q a b/\r a b/\s a b/\t a b/\u a b/\v a b/\w a b/\x a b/\y a b/\z a b/\R a b/\S a b)(k:∀ a b,p a b->q a b->r a b->s a b->t a b->u a b->v a b->w a b->x a b->y a b->z a b->R a b->S a b->G):G:=by obtain ⟨a,b,p,q,r,s,t,u,v,w,x,y,z,R,S⟩:=h;exact k a b p q r s t u v w x y z R S
theorem tS{A:Sort u0}{B:Sort u1}{C:Sort u2}{D:Sort u3}{E:Sort u4}{F:Sort u5}{p q r s t u v w x:A->B->C->D->E->F->Prop}(h:∃ a b c d e f,p a b c d e f/\q a b c d e f/\r a b c d e f/\s a b c d e f/\t a b c d e f/\u a b c d e f/\v a b c d e f/\w a b c d e f/\x a b c d e f)(k:∀ a b c d e f,p a b c d e f->q a b c d e f->r a b c d e f->s a b c d e f->t a b c d e f->u a b c d e f->v a b c d e f->w a b c d e f->x a b c d e f->G):G:=by obtain ⟨a,b,c,d,e,f,p,q,r,s,t,u,v,w,x⟩:=h;exact k a b c d e f p q r s t u v w x
theorem vM{A:Sort u0}{B:Sort u1}{C:Sort u2}{D:Sort u3}{E:Sort u4}{F:Sort u5}{H:Sort u6}{p q r s t u v w x:A->B->C->D->E->F->H->Prop}(h:∃ a b c d e f g,p a b c d e f g/\q a b c d e f g/\r a b c d e f g/\s a b c d e f g/\t a b c d e f g/\u a b c d e f g/\v a b c d e f g/\w a b c d e f g/\x a b c d e f g)(k:∀ a b c d e f g,p a b c d e f g->q a b c d e f g->r a b c d e f g->s a b c d e f g->t a b c d e f g->u a b c d e f g->v a b c d e f g->w a b c d e f g->x a b c d e f g->G):G:=by obtain ⟨a,b,c,d,e,f,g,p,q,r,s,t,u,v,w,x⟩:=h;exact k a b c d e f g p q r s t u v w x
theorem Ct{A:Sort u0}{B:Sort u1}{C:Sort u2}{D:Sort u3}{E:Sort u4}{F:Sort u5}{H:Sort u6}{I:Sort u7}{p q r s t u v w x:A->B->C->D->E->F->H->I->Prop}(h:∃ a b c d e f g i,p a b c d e f g i/\q a b c d e f g i/\r a b c d e f g i/\s a b c d e f g i/\t a b c d e f g i/\u a b c d e f g i/\v a b c d e f g i/\w a b c d e f g i/\x a b c d e f g i)(k:∀ a b c d e f g i,p a b c d e f g i->q a b c d e f g i->r a b c d e f g i->s a b c d e f g i->t a b c d e f g i->u a b c d e f g i->v a b c d e f g i->w a b c d e f g i->x a b c d e f g i->G):G:=by obtain ⟨a,b,c,d,e,f,g,i,p,q,r,s,t,u,v,w,x⟩:=h;exact k a b c d e f g i p q r s t u v w x
theorem AJ{p q r s t u v w x y z:A->B->C->D->E->F->H->I->J->K->Prop}(h:∃ a b c d e f g i j l,p a b c d e f g i j l/\q a b c d e f g i j l/\r a b c d e f g i j l/\s a b c d e f g i j l/\t a b c d e f g i j l/\u a b c d e f g i j l/\v a b c d e f g i j l/\w a b c d e f g i j l/\x a b c d e f g i j l/\y a b c d e f g i j l/\z a b c d e f g i j l)(k:∀ a b c d e f g i j l,p a b c d e f g i j l->q a b c d e f g i j l->r a b c d e f g i j l->s a b c d e f g i j l->t a b c d e f g i j l->u a b c d e f g i j l->v a b c d e f g i j l->w a b c d e f g i j l->x a b c d e f g i j l->y a b c d e f g i j l->z a b c d e f g i j l->G):G:=by obtain ⟨a,b,c,d,e,f,g,i,j,l,p,q,r,s,t,u,v,w,x,y,z⟩:=h;exact k a b c d e f g i j l p q r s t u v w x y z
theorem iW{p q r s t u v w x y z R S T:A->B->C->D->E->F->H->I->Prop}(h:∃ a b c d e f g i,p a b c d e f g i/\q a b c d e f g i/\r a b c d e f g i/\s a b c d e f g i/\t a b c d e f g i/\u a b c d e f g i/\v a b c d e f g i/\w a b c d e f g i/\x a b c d e f g i/\y a b c d e f g i/\z a b c d e f g i/\R a b c d e f g i/\S a b c d e f g i/\T a b c d e f g i)(k:∀ a b c d e f g i,p a b c d e f g i->q a b c d e f g i->r a b c d e f g i->s a b c d e f g i->t a b c d e f g i->u a b c d e f g i->v a b c d e f g i->w a b c d e f g i->x a b c d e f g i->y a b c d e f g i->z a b c d e f g i->R a b c d e f g i->S a b c d e f g i->T a b c d e f g i->G):G:=by obtain ⟨a,b,c,d,e,f,g,i,p,q,r,s,t,u,v,w,x,y,z,R,S,T⟩:=h;exact k a b c d e f g i p q r s t u v w x y z R S T
theorem BA{p q r s t u v w x y z R S T:A->B->C->D->E->F->H->I->J->Prop}(h:∃ a b c d e f g i j,p a b c d e f g i j/\q a b c d e f g i j/\r a b c d e f g i j/\s a b c d e f g i j/\t a b c d e f g i j/\u a b c d e f g i j/\v a b c d e f g i j/\w a b c d e f g i j/\x a b c d e f g i j/\y a b c d e f g i j/\z a b c d e f g i j/\R a b c d e f g i j/\S a b c d e f g i j/\T a b c d e f g i j)(k:∀ a b c d e f g i j,p a b c d e f g i j->q a b c d e f g i j->r a b c d e f g i j->s a b c d e f g i j->t a b c d e f g i j->u a b c d e f g i j->v a b c d e f g i j->w a b c d e f g i j->x a b c d e f g i j->y a b c d e f g i j->z a b c d e f g i j->R a b c d e f g i j->S a b c d e f g i j->T a b c d e f g i j->G):G:=by obtain ⟨a,b,c,d,e,f,g,i,j,p,q,r,s,t,u,v,w,x,y,z,R,S,T⟩:=h;exact k a b c d e f g i j p q r s t u v w x y z R S T
theorem bA {a b:Bool}(h:(a&&b)=true):a=true/\b=true:=and_eq_true_iff.mp h
end
theorem aK {α β:Type}{f:α->β}{l:List α}{b:β}{G:Prop}(h:b∈l.map f) (k:∀ a,a∈l->f a=b->G):G:=af (mem_map.mp h) k
theorem bk {α β:Type}{o:Option α}{f:α->Option β}{b:β}{G:Prop}(h:o.bind f=some b) (k:∀ a,o=some a->f a=some b->G):G:=af (bind_eq_some_iff.mp h) k
theorem bG {α β:Type}{o:Option α}{f:α->β}{b:β}{G:Prop}(h:o.map f=some b) (k:∀ a,o=some a->f a=b->G):G:=af (map_eq_some_iff.mp h) k
theorem bK {α:Type}{o:Option α}{G:Prop}(h:o.isSome=true) (k:∀ a,o=some a->G):G:=ak (Option.isSome_iff_exists.mp h) k
theorem qh {α:Type}{p:α->Bool}{l:List α}{a:α}{G:Prop}(h:a∈l.filter p) (k:a∈l->p a=true->G):G:=ae (mem_filter.mp h) k
theorem cb {a b:Bool}{G:Prop}(h:(a&&b)=true) (k:a=true->b=true->G):G:=ae (and_eq_true_iff.mp h) k
open PySem
inductive Mode where
 | sh | top | deep
 deriving DecidableEq
inductive V where
 | d (x:PyData)
 | dic0
 | dicI (ks:List Int)
 | dicT (ks:List (List Int))
 | rule (c:Int) (d:PyData) (n:Int)
inductive Out (α:Type) where
 | ok (a:α)
 | exc (c:String)
 | bad
end Internal
local macro_rules
 |`(tactic|injection $h:ident)=>`(tactic|((first|have oc:=Option.some.inj $h|have oc:=Internal.Out.ok.inj $h);clear $h;subst oc))
namespace Internal
open PySem
namespace Out
noncomputable def bind:Out α->(α->Out β)->Out β
 | .ok a,f=>f a
 | .exc c,_=>.exc c
 | .bad,_=>.bad
@[simp] theorem ok_bind (a:α) (f:α->Out β):(Out.ok a).bind f=f a:=rfl
@[simp] theorem exc_bind (c:String) (f:α->Out β):(Out.exc c:Out α).bind f = .exc c:=rfl
@[simp] theorem KP (f:α->Out β):(Out.bad:Out α).bind f = .bad:=rfl
noncomputable def calm:Out α->Out α
 | .ok a=>.ok a
 | _=>.bad
@[simp] theorem calm_ok (a:α):(Out.ok a).calm = .ok a:=rfl
theorem _root_.Internal.nB {α:Type}{a:α}{G:Prop}(h:(Out.bad:Out α) = .ok a):G:=by cases h
theorem _root_.Internal.nE {α:Type}{a:α}{c:String}{G:Prop}(h:(Out.exc c:Out α) = .ok a):G:=by cases h
theorem _root_.Internal.nN {α:Type}{a:α}{G:Prop}(h:(none:Option α)=some a):G:=by cases h
theorem _root_.Internal.nM {α:Type}{a:α}{G:Prop}(h:some a=(none:Option α)):G:=by cases h
theorem _root_.Internal.nF {G:Prop}(h:false=true):G:=by cases h
theorem _root_.Internal.nT {G:Prop}(h:true=false):G:=by cases h
theorem AR {α β:Type}{o:Out α}{f:α->Out β}{b:β}(h:o.bind f = .ok b):∃ a,o = .ok a/\f a = .ok b:=by
 cases o with
 | ok a=>exact ⟨a,rfl,h⟩
 | exc c=>cases h
 | bad=>cases h
theorem bind_k {α β:Type}{o:Out α}{f:α->Out β}{b:β}{G:Prop}(h:o.bind f = .ok b) (k:∀ a,o = .ok a->f a = .ok b->G):G:=af (AR h) k
end Out
inductive BOp where
 | add | sub | mul | fdiv | mod | pow | xor
 deriving DecidableEq
inductive COp where
 | eq | ne | lt | gt | ge | isin | notin | isnot
 deriving DecidableEq
inductive B1 where
 | len | list | tuple | sorted | max
 deriving DecidableEq
inductive B2 where
mutual
inductive E where
 | name (x:String)
 | int (i:Int)
 | str (s:String)
 | bool (b:Bool)
 | none
 | bin (o:BOp) (a b:E)
 | neg (a:E)
 | not (a:E)
 | cmp (o:COp) (a b:E)
 | and (a b:E)
 | or (a b:E)
 | list (es:Es)
 | tup (es:Es)
 | edic
 | comp (elt:E) (x:String) (it:It)
 | compif (elt:E) (x:String) (it:It) (c:E)
 | sub (a i:E)
 | slo (a lo:E)
 | shi (a hi:E)
 | rev (a:E)
 | attr (a:E) (n:String)
 | bi1 (f:B1) (a:E)
 | isi (a:E) (t:String)
 | call (f:String) (es:Es)
 | meth (a:E) (m:String) (es:Es)
inductive Es where
 | nil
 | cons (e:E) (es:Es)
inductive It where
 | e (a:E)
 | r1 (n:E)
 | r2 (a b:E)
end
abbrev St:=String->Option (V×Mode)
abbrev Calls:=String->Option (List V->Out (V×Mode))
noncomputable def upd (σ:St) (x:String) (v:V×Mode):St:=λy=>if y=x then some v else σ y
noncomputable def sx:PyData->Bool
 | .none | .bool _ | .int _ | .str _=>true
 | .list _ | .tuple _ | .dict _=>false
noncomputable def sA:V->Bool
 | .d x=>sx x
 | _=>false
noncomputable def mk (v:V):V×Mode:=(v,if sA v then .deep else .sh)
noncomputable def fresh (xs:List PyData):Mode:=if xs.all sx then .deep else .top
noncomputable def lim:Nat:=1000000
noncomputable def okc (d:PyData):Bool:=d.canLay0&&decide (d.depth<=64)
noncomputable def sI (i:Int):V×Mode:=(.d (.int i),.deep)
noncomputable def sB (b:Bool):V×Mode:=(.d (.bool b),.deep)
noncomputable def dB:PyData->Option Int
 | .int i=>some i
 | _=>none
noncomputable def aY:List PyData->Option (List Int)
 | []=>some []
 | .int i::r=>(aY r).map (i :: ·)
 | _::_=>none
noncomputable def d8:PyData->Option (List Int)
 | .tuple xs=>aY xs
 | _=>none
noncomputable def au (o:Option α) (f:α->Out β):Out β:=match o with
 | some a=>f a
 | none=>.bad
theorem aU (h:au o f = .ok r):∃ a,o=some a/\f a = .ok r:=by
 cases o with
 | some a=>exact ⟨a,rfl,h⟩
 | none=>cases h
theorem a9 {α β:Type}{o:Option α}{f:α->Out β}{r:β}{G:Prop}(h:au o f = .ok r) (k:∀ a,o=some a->f a = .ok r->G):G:=af (aU h) k
def NE (o:Out α):Prop:=∀ c,o≠.exc c
theorem NE.ok:NE (Out.ok a):=λuu h=>by cases h
theorem NE.bad:NE (Out.bad:Out α):=λuu h=>by cases h
theorem NE.opt (h:∀ a,NE (f a)):NE (au o f):=by
 cases o with
 | some a=>exact h a
 | none=>exact .bad
theorem NE.ite [Decidable c] (ha:NE a) (hb:NE b):NE (if c then a else b):=by
 by_cases h:c
 ·rw[if_pos h]; exact ha
 ·rw[if_neg h]; exact hb
theorem NE.bind (ho:NE o) (h:∀ a,NE (f a)):NE (o.bind f):=by
 cases o with
 | ok a=>exact h a
 | exc c=>exact absurd rfl (ho c)
 | bad=>exact .bad
noncomputable def asL:PyData->Option (List PyData)
 | .list xs=>some xs
 | _=>none
noncomputable def asD:V->Option PyData
 | .d x=>some x
 | _=>none
noncomputable def isN:PyData->Bool
 | .none=>true
 | _=>false
theorem cM (h:dB x=some i):x = .int i:=by cases x<;>cases h; rfl
theorem bR (h:asL x=some i):x = .list i:=by cases x<;>cases h; rfl
theorem b9 (h:asD x=some i):x = .d i:=by cases x<;>cases h; rfl
theorem Be (h:isN x=true):x = .none:=by cases x<;>first | rfl | cases h
noncomputable def i2 (x y:PyData) (f:Int->Int->Out β):Out β:=au (dB x) λa=>au (dB y) λb=>f a b
theorem eO (h:i2 x y f = .ok r):∃ a b,x = .int a/\y = .int b/\f a b = .ok r:=by
 refine a9 h λa i h=>?_
 refine a9 h λb g h=>?_
 exact ⟨a,b,cM i,cM g,h⟩
noncomputable def d2 (x y:V) (f:PyData->PyData->Out β):Out β:=au (asD x) λa=>au (asD y) λb=>f a b
theorem iw (h:d2 x y f = .ok r):∃ a b,x = .d a/\y = .d b/\f a b = .ok r:=by
 refine a9 h λa i h=>?_
 refine a9 h λb g h=>?_
 exact ⟨a,b,b9 i,b9 g,h⟩
noncomputable def pi (x y:PyData):Out (V×Mode):=match asL x with
 | some a=>au (asL y) λb=>if a.length+b.length<=lim then .ok (.d (.list (a++b)),fresh (a++b)) else .bad
 | none=>i2 x y λa b=>.ok (sI (a+b))
noncomputable def dC (o:BOp) (x y:PyData):Out (V×Mode):=match o with
 | .add=>pi x y
 | .sub=>i2 x y λa b=>.ok (sI (a-b))
 | .mul=>i2 x y λa b=>if a.natAbs<2^63\/b.natAbs<2^63 then .ok (sI (a*b)) else .bad
 | .fdiv=>i2 x y λa b=>if b=0\/1000000000<=b.natAbs then .bad else .ok (sI (a.fdiv b))
 | .mod=>i2 x y λa b=>if b=0 then .bad else .ok (sI (a.fmod b))
 | .pow=>i2 x y λa b=>if 0<=b/\b<=1000/\a.natAbs<2^63 then .ok (sI (a^b.toNat)) else .bad
 | .xor=>i2 x y λa b=>.ok (sI (Builtin.bitXor a b))
theorem Ae:NE (dC o x y):=by
 have h:∀ (f:Int->Int->Out (V×Mode)),(∀ a b,NE (f a b))->NE (i2 x y f):=λf hf=>.opt λa=>.opt λb=>hf a b
 cases o with
 | add=>
  show NE (pi x y)
  unfold pi
  cases asL x with
  | some a=>exact .opt λb=>.ite .ok .bad
  | none=>exact h _ λuu uu=>.ok
 | sub=>exact h _ λuu uu=>.ok
 | mul=>exact h _ λuu uu=>.ite .ok .bad
 | fdiv=>exact h _ λuu uu=>.ite .bad .ok
 | mod=>exact h _ λuu uu=>.ite .bad .ok
 | pow=>exact h _ λuu uu=>.ite .ok .bad
 | xor=>exact h _ λuu uu=>.ok
noncomputable def inV (k:PyData) (c:V):Out Bool:=match c with
 | .d x=>au (asL x) λg=>if okc k&&okc (.list g) then .ok (g.any λy=>PyData.eqv y k) else .bad
 | .dicI ks=>au (dB k) λi=>.ok (decide (i∈ks))
 | .dicT ks=>au (d8 k) λi=>.ok (decide (i∈ks))
 | .dic0=>if (dB k).isSome||(d8 k).isSome then .ok false else .bad
 | .rule _ _ _=>.bad
theorem vF:NE (inV k c):=by
 cases c with
 | d x=>exact .opt λuu=>.ite .ok .bad
 | dicI ks=>exact .opt λuu=>.ok
 | dicT ks=>exact .opt λuu=>.ok
 | dic0=>exact .ite .ok .bad
 | rule _ _ _=>exact .bad
noncomputable def ck (o:COp) (x y:V):Out Bool:=match o with
 | .eq=>d2 x y λa b=>if okc a&&okc b then .ok (PyData.eqv a b) else .bad
 | .ne=>d2 x y λa b=>if okc a&&okc b then .ok (!PyData.eqv a b) else .bad
 | .lt=>d2 x y λa b=>i2 a b λa b=>.ok (decide (a<b))
 | .gt=>d2 x y λa b=>i2 a b λa b=>.ok (decide (b<a))
 | .ge=>d2 x y λa b=>i2 a b λa b=>.ok (decide (b<=a))
 | .isin=>au (asD x) λk=>inV k y
 | .notin=>d2 x y λk c=>(inV k (.d c)).bind λb=>.ok (!b)
 | .isnot=>d2 x y λa b=>if isN b then .ok (!isN a) else .bad
theorem A2:NE (ck o x y):=by
 have h:∀ (f:PyData->PyData->Out Bool),(∀ a b,NE (f a b))->NE (d2 x y f):=λf hf=>.opt λa=>.opt λb=>hf a b
 cases o with
 | eq=>exact h _ λuu uu=>.ite .ok .bad
 | ne=>exact h _ λuu uu=>.ite .ok .bad
 | isin=>exact .opt λuu=>vF
 | notin=>exact h _ λuu uu=>.bind vF λuu=>.ok
 | isnot=>exact h _ λuu uu=>.ite .ok .bad
 | _=>exact h _ λuu uu=>.opt λuu=>.opt λuu=>.ok
noncomputable def bj (i:Int) (n:Nat):Option Nat:=if 0<=i then (if i<n then some i.toNat else none) else (if -(n:Int)<=i then some (i+n).toNat else none)
noncomputable def asT:PyData->Option (List PyData)
 | .tuple xs=>some xs
 | _=>none
theorem gK (h:asT x=some i):x = .tuple i:=by cases x<;>cases h; rfl
noncomputable def elem (x:PyData) (i:Int):Option PyData:=match asL x with
 | some xs=>(bj i xs.length).bind λk=>xs[k]?
 | none=>match asT x with
  | some xs=>(bj i xs.length).bind λk=>xs[k]?
  | none=>none
noncomputable def fj (x y:PyData):Out (V×Mode):=au (dB y) λi=>au (elem x i) λz=>.ok (mk (.d z))
theorem Bb:NE (fj x y):=.opt λuu=>.opt λuu=>.ok
noncomputable def modP (y:PyData):List Int->PyData->Option PyData
 | [],d=>(asL d).bind λg=>if g.length<lim then some (.list (g++[y])) else none
 | k::p,d=>match asL d with
  | some g=>(bj k g.length).bind λj=>(g[j]?).bind λe=>(modP y p e).map λh=>.list (g.set j h)
  | none=>(asT d).bind λg=>(bj k g.length).bind λj=>(g[j]?).bind λe=>(modP y p e).map λh=>.tuple (g.set j h)
noncomputable def iG:PyData->PyData->Out (V×Mode)
 | .list xs,.int i=>if 0<=i/\i<2^62 then .ok (.d (.list (xs.drop i.toNat)),fresh (xs.drop i.toNat)) else .bad
 | _,_=>.bad
noncomputable def ie:PyData->PyData->Out (V×Mode)
 | .list xs,.int i=>if 0<=i/\i<2^62 then .ok (.d (.list (xs.take i.toNat)),fresh (xs.take i.toNat)) else .bad
 | _,_=>.bad
noncomputable def w6:PyData->Out (V×Mode)
 | .list xs=>.ok (.d (.list xs.reverse),fresh xs.reverse)
 | _=>.bad
noncomputable def aa (xs:List Int):PyData:=.list (xs.map .int)
noncomputable def aR (xs:List Int):PyData:=.tuple (xs.map .int)
noncomputable def ag (t:List (List Int)):PyData:=.list (t.map aa)
noncomputable def ltL:List Int->List Int->Bool
 | [],[]=>false
 | [],_::_=>true
 | _::_,[]=>false
 | a::as,b::bs=>if a=b then ltL as bs else decide (a<b)
noncomputable def dW:List PyData->Option (List (List Int))
 | []=>some []
 | x::r=>(d8 x).bind λk=>(dW r).map (k :: ·)
noncomputable def bM (ks:List (List Int)):List (List Int):=ks.mergeSort λa b=>!ltL b a
noncomputable def fz (xs:List PyData):Out (V×Mode):=match dW xs with
 | some ks=>if ks.length<2\/[]∉ks then .ok (.d (.list ((bM ks).map aR)),fresh ((bM ks).map aR)) else .bad
 | none=>.bad
theorem sH:NE (fz xs):=by
 unfold fz
 cases dW xs with
 | some ks=>exact .ite .ok .bad
 | none=>exact .bad
noncomputable def dM (xs:List PyData):Out (V×Mode) :=
 if xs.length<64 then (match aY xs with
  | some g=>.ok (.d (aa (g.mergeSort (λa b=>decide (a<=b)))),.deep)
  | none=>fz xs)
 else if xs.length<128 then au (aY xs) λg=>if ∀ i∈g,0<=i then .ok (.d (aa (g.mergeSort (λa b=>decide (a<=b)))),.deep) else .bad
 else .bad
noncomputable def jo:List Int->Option Int
 | []=>none
 | x::xs=>some (xs.foldl (λa b=>if a<b then b else a) x)
noncomputable def b1D (f:B1) (v:V):Out (V×Mode):=au (asD v) λx=>match f with
 | .len=>(match asT x with
  | some g=>.ok (sI g.length)
  | none=>au (asL x) λg=>.ok (sI g.length))
 | .list=>(match asT x with
  | some g=>.ok (.d (.list g),fresh g)
  | none=>au (asL x) λg=>.ok (.d (.list g),fresh g))
 | .tuple=>au (asL x) λg=>.ok (.d (.tuple g),if g.all sx then .deep else .sh)
 | .sorted=>au (asL x) λg=>dM g
 | .max=>au (asL x) λg=>au ((aY g).bind jo) λi=>.ok (sI i)
theorem CD:NE (b1D f v):=.opt λx=>by
 cases f with
 | len=>
  show NE (match asT x with | some g=>Out.ok (sI g.length) | none=>au (asL x) λg=>.ok (sI g.length))
  cases asT x with
  | some g=>exact .ok
  | none=>exact .opt λuu=>.ok
 | list=>
  show NE (match asT x with | some g=>Out.ok (V.d (.list g),fresh g) | none=>au (asL x) λg=>.ok (V.d (.list g),fresh g))
  cases asT x with
  | some g=>exact .ok
  | none=>exact .opt λuu=>.ok
 | tuple=>exact .opt λuu=>.ok
 | sorted=>
  refine .opt λg=>.ite ?_ (.ite (.opt λuu=>.ite .ok .bad) .bad)
  cases aY g with
  | some ns=>exact .ok
  | none=>exact sH
 | max=>exact .opt λuu=>.opt λuu=>.ok
noncomputable def sW:V->Option (List (List Int))
 | .dicT ks=>some ks
 | _=>none
theorem wh (h:sW v=some ks):v = .dicT ks:=by
 cases v<;>cases h
 rfl
noncomputable def ot (f:B1) (ks:List (List Int)):Out (V×Mode):=if f = .list/\ks.length<=lim then .ok (.d (.list (ks.map aR)),fresh (ks.map aR)) else .bad
noncomputable def b1V (f:B1) (v:V):Out (V×Mode):=match sW v with
 | some ks=>ot f ks
 | none=>b1D f v
theorem BK:NE (b1V f v):=by
 unfold b1V
 cases sW v with
 | some ks=>exact .ite .ok .bad
 | none=>exact CD
noncomputable def qk:PyData->Nat
 | .none=>0
 | .bool _=>1
 | .int _=>2
 | .str _=>3
 | .list _=>4
 | .tuple _=>5
 | .dict _=>6
noncomputable def mj (t:String) (k:Nat):Option Bool :=
 if t = "int" then some (k==2||k==1) else if t = "bool" then some (k==1) else if t = "list" then some (k==4) else if t = "tuple" then some (k==5) else if t = "str" then some (k==3) else none
noncomputable def gy (v:V) (t:String):Out Bool:=au (asD v) λx=>au (mj t (qk x)) .ok
theorem qg {t:String}{k:Nat}{b:Bool}{G:Prop}(h:mj t k=some b) (c1:t = "int" -> (k==2||k==1)=b->G) (c2:t = "bool" -> (k==1)=b->G) (c3:t = "list" -> (k==4)=b->G) (c4:t = "tuple" -> (k==5)=b->G) (c5:t = "str" -> (k==3)=b->G):G:=by
 unfold mj at h
 by_cases q:t = "int"
 ·rw[if_pos q] at h; exact c1 q (Option.some.inj h)
 rw[if_neg q] at h
 by_cases q:t = "bool"
 ·rw[if_pos q] at h; exact c2 q (Option.some.inj h)
 rw[if_neg q] at h
 by_cases q:t = "list"
 ·rw[if_pos q] at h; exact c3 q (Option.some.inj h)
 rw[if_neg q] at h
 by_cases q:t = "tuple"
 ·rw[if_pos q] at h; exact c4 q (Option.some.inj h)
 rw[if_neg q] at h
 by_cases q:t = "str"
 ·rw[if_pos q] at h; exact c5 q (Option.some.inj h)
 rw[if_neg q] at h
 cases h
theorem xk (h:gy v t = .ok b):∃ x,v = .d x/\mj t (qk x)=some b:=by
 obtain ⟨x,i,h⟩:=aU h
 obtain ⟨c,g,h⟩:=aU h
 exact ⟨x,b9 i,by rw[g,Out.ok.inj h]⟩
theorem AS:NE (gy v t):=.opt λuu=>.opt λuu=>.ok
noncomputable def ar:V->Out Bool
 | .d (.bool b)=>.ok b
 | _=>.bad
noncomputable def fU:V->Option (Int×PyData×Int)
 | .rule c d n=>some (c,d,n)
 | _=>none
theorem lp (h:fU x=some q):x = .rule q.1 q.2.1 q.2.2:=by cases x<;>cases h; rfl
noncomputable def jH (x:V) (n:String):Out (V×Mode):=au (fU x) λq=>if n = "count" then .ok (sI q.1) else if n = "full" then .ok (mk (.d q.2.1)) else if n = "size" then .ok (sI q.2.2) else .bad
theorem wt:NE (jH x n):=.opt λuu=>.ite .ok (.ite .ok (.ite .ok .bad))
noncomputable def methNames:List String:=["together", "rank", "need_full", "outs", "exchanges"]
noncomputable def aO:List String:=["PickError", "NoChoice", "NoThing", "NoExchange", "NoWeights", "NoRule"]
noncomputable def fieldNames:List String:=["count", "full", "size"]
noncomputable def di (a b:Int):List PyData:=(List.range (b-a).toNat).map λ(k:Nat)=>.int (a+k)
noncomputable def cu (a b:Int):Out (List PyData×Mode) :=
 if (b-a).toNat<=lim/\-(2^60)<=a/\a<2^60/\-(2^60)<=b/\b<2^60 then .ok (di a b,.deep) else .bad
noncomputable def bp (f:PyData->Out (Option (V×Mode))):List PyData->Out (List PyData×Bool)
 | []=>.ok ([],true)
 | x::xs=>(f x).bind λr=>(bp f xs).bind λq=>match r with
  | none=>.ok q
  | some (.d y,m)=>.ok (y::q.1,decide (m = .deep)&&q.2)
  | some _=>.bad
noncomputable def bY:List (V×Mode)->Option (List PyData)
 | []=>some []
 | (.d x,_)::r=>(bY r).map (x :: ·)
 | _::_=>none
noncomputable def allDeep (l:List (V×Mode)):Bool:=l.all λp=>decide (p.2 = .deep)
noncomputable def fe:V->Option (List PyData)
 | .d (.list xs)=>some xs
 | _=>none
theorem eZ (h:fe v=some xs):v = .d (.list xs):=by
 unfold fe at h
 split at h
 ·cases h; rfl
 ·cases h
noncomputable def itV (r:V×Mode):Out (List PyData×Mode):=match fe r.1 with
 | some xs=>.ok (xs,r.2)
 | none=>.bad
mutual
noncomputable def ev (C:Calls):E->St->Out (V×Mode)
 | .name x,σ=>match σ x with | some p=>.ok (mk p.1) | none=>.bad
 | .int i,_=>.ok (sI i)
 | .str s,_=>.ok (.d (.str (Str.ofString s)),.deep)
 | .bool b,_=>.ok (sB b)
 | .none,_=>.ok (.d .none,.deep)
 | .bin o a b,σ=>(ev C a σ).bind λx=>(ev C b σ).bind λy=>match x.1,y.1 with | .d x,.d y=>dC o x y | _,_=>.bad
 | .neg a,σ=>(ev C a σ).bind λx=>match x.1 with | .d (.int i)=>.ok (sI (-i)) | _=>.bad
 | .not a,σ=>(ev C a σ).bind λx=>(ar x.1).bind λb=>.ok (sB (!b))
 | .cmp o a b,σ=>(ev C a σ).bind λx=>(ev C b σ).bind λy=>(ck o x.1 y.1).bind λb=>.ok (sB b)
 | .and a b,σ=>(ev C a σ).bind λx=>(ar x.1).bind λt=>if t then (ev C b σ).bind λy=>(ar y.1).bind λu=>.ok (sB u) else .ok (sB false)
 | .or a b,σ=>(ev C a σ).bind λx=>(ar x.1).bind λt=>if t then .ok (sB true) else (ev C b σ).bind λy=>(ar y.1).bind λu=>.ok (sB u)
 | .list es,σ=>(evs C es σ).bind λl=>match bY l with
  | some xs=>.ok (.d (.list xs),if allDeep l then .deep else .top)
  | none=>.bad
 | .tup es,σ=>(evs C es σ).bind λl=>match bY l with
  | some xs=>.ok (.d (.tuple xs),if allDeep l then .deep else .sh)
  | none=>.bad
 | .edic,_=>.ok (.dic0,.deep)
 | .comp elt x it,σ=>(bh C it σ).bind λq=>(bp (λy=>(ev C elt (upd σ x (mk (.d y)))).bind λr=>.ok (some r)) q.1).calm.bind λr=>.ok (.d (.list r.1),if r.2 then .deep else .top)
 | .compif elt x it c,σ=>(bh C it σ).bind λq=>(bp (λy=>(ev C c (upd σ x (mk (.d y)))).bind λt=>(ar t.1).bind λb=>if b then (ev C elt (upd σ x (mk (.d y)))).bind λr=>.ok (some r) else .ok none) q.1).calm.bind λr=>.ok (.d (.list r.1),if r.2 then .deep else .top)
 | .sub a i,σ=>(ev C a σ).bind λx=>(ev C i σ).bind λy=>match x.1,y.1 with | .d x,.d y=>fj x y | _,_=>.bad
 | .slo a i,σ=>(ev C a σ).bind λx=>(ev C i σ).bind λy=>match x.1,y.1 with | .d x,.d y=>iG x y | _,_=>.bad
 | .shi a i,σ=>(ev C a σ).bind λx=>(ev C i σ).bind λy=>match x.1,y.1 with | .d x,.d y=>ie x y | _,_=>.bad
 | .rev a,σ=>(ev C a σ).bind λx=>match x.1 with | .d x=>w6 x | _=>.bad
 | .attr a n,σ=>au (C "Rule") λuu=>(ev C a σ).bind λx=>jH x.1 n
 | .bi1 f a,σ=>(ev C a σ).bind λx=>b1V f x.1
 | .isi a t,σ=>(ev C a σ).bind λx=>(gy x.1 t).bind λb=>.ok (sB b)
 | .call f es,σ=>match C f with
  | some g=>(evs C es σ).bind λl=>g (l.map (·.1))
  | none=>.bad
 | .meth a m es,σ=>(ev C a σ).bind λx=>au (fU x.1) λuu=>au (C m) λg=>(evs C es σ).bind λl=>g (x.1::l.map (·.1))
noncomputable def evs (C:Calls):Es->St->Out (List (V×Mode))
 | .nil,_=>.ok []
 | .cons e es,σ=>(ev C e σ).bind λx=>(evs C es σ).bind λl=>.ok (x::l)
noncomputable def bh (C:Calls):It->St->Out (List PyData×Mode)
 | .e a,σ=>(ev C a σ).bind itV
 | .r1 n,σ=>(ev C n σ).bind λx=>match x.1 with | .d (.int n)=>cu 0 n | _=>.bad
 | .r2 a b,σ=>(ev C a σ).bind λx=>(ev C b σ).bind λy=>match x.1,y.1 with | .d (.int a),.d (.int b)=>cu a b | _,_=>.bad
end
theorem dH (C:Calls) (x:String) (σ:St):ev C (.name x) σ=(match σ x with | some p=>.ok (mk p.1) | none=>.bad):=rfl
theorem eh (C:Calls) (i:Int) (σ0:St):ev C (.int i) σ0=(.ok (sI i)):=rfl
theorem AG (C:Calls) (s:String) (σ0:St):ev C (.str s) σ0=(.ok (.d (.str (Str.ofString s)),.deep)):=rfl
theorem pO (C:Calls) (b:Bool) (σ0:St):ev C (.bool b) σ0=(.ok (sB b)):=rfl
theorem pz (C:Calls) (σ0:St):ev C .none σ0=(.ok (.d .none,.deep)):=rfl
theorem mw (C:Calls) (o:BOp) (a:E) (b:E) (σ:St):ev C (.bin o a b) σ=((ev C a σ).bind λx=>(ev C b σ).bind λy=>match x.1,y.1 with | .d x,.d y=>dC o x y | _,_=>.bad):=rfl
theorem l8 (C:Calls) (a:E) (σ:St):ev C (.neg a) σ=((ev C a σ).bind λx=>match x.1 with | .d (.int i)=>.ok (sI (-i)) | _=>.bad):=rfl
theorem gL (C:Calls) (a:E) (σ:St):ev C (.not a) σ=((ev C a σ).bind λx=>(ar x.1).bind λb=>.ok (sB (!b))):=rfl
theorem jZ (C:Calls) (o:COp) (a:E) (b:E) (σ:St):ev C (.cmp o a b) σ=((ev C a σ).bind λx=>(ev C b σ).bind λy=>(ck o x.1 y.1).bind λb=>.ok (sB b)):=rfl
theorem gV (C:Calls) (a:E) (b:E) (σ:St):ev C (.and a b) σ=((ev C a σ).bind λx=>(ar x.1).bind λt=>if t then (ev C b σ).bind λy=>(ar y.1).bind λu=>.ok (sB u) else .ok (sB false)):=rfl
theorem jv (C:Calls) (a:E) (b:E) (σ:St):ev C (.or a b) σ=((ev C a σ).bind λx=>(ar x.1).bind λt=>if t then .ok (sB true) else (ev C b σ).bind λy=>(ar y.1).bind λu=>.ok (sB u)):=rfl
theorem cE (C:Calls) (es:Es) (σ:St):ev C (.list es) σ=((evs C es σ).bind λl=>match bY l with
  | some xs=>.ok (.d (.list xs),if allDeep l then .deep else .top)
  | none=>.bad):=rfl
theorem g8 (C:Calls) (es:Es) (σ:St):ev C (.tup es) σ=((evs C es σ).bind λl=>match bY l with
  | some xs=>.ok (.d (.tuple xs),if allDeep l then .deep else .sh)
  | none=>.bad):=rfl
theorem pT (C:Calls) (σ0:St):ev C .edic σ0=(.ok (.dic0,.deep)):=rfl
theorem il (C:Calls) (elt:E) (x:String) (it:It) (σ:St):ev C (.comp elt x it) σ=((bh C it σ).bind λq=>(bp (λy=>(ev C elt (upd σ x (mk (.d y)))).bind λr=>.ok (some r)) q.1).calm.bind λr=>.ok (.d (.list r.1),if r.2 then .deep else .top)):=rfl
theorem fw (C:Calls) (elt:E) (x:String) (it:It) (c:E) (σ:St):ev C (.compif elt x it c) σ=((bh C it σ).bind λq=>(bp (λy=>(ev C c (upd σ x (mk (.d y)))).bind λt=>(ar t.1).bind λb=>if b then (ev C elt (upd σ x (mk (.d y)))).bind λr=>.ok (some r) else .ok none) q.1).calm.bind λr=>.ok (.d (.list r.1),if r.2 then .deep else .top)):=rfl
theorem j9 (C:Calls) (a:E) (i:E) (σ:St):ev C (.sub a i) σ=((ev C a σ).bind λx=>(ev C i σ).bind λy=>match x.1,y.1 with | .d x,.d y=>fj x y | _,_=>.bad):=rfl
theorem mB (C:Calls) (a:E) (i:E) (σ:St):ev C (.slo a i) σ=((ev C a σ).bind λx=>(ev C i σ).bind λy=>match x.1,y.1 with | .d x,.d y=>iG x y | _,_=>.bad):=rfl
theorem mI (C:Calls) (a:E) (i:E) (σ:St):ev C (.shi a i) σ=((ev C a σ).bind λx=>(ev C i σ).bind λy=>match x.1,y.1 with | .d x,.d y=>ie x y | _,_=>.bad):=rfl
theorem mD (C:Calls) (a:E) (σ:St):ev C (.rev a) σ=((ev C a σ).bind λx=>match x.1 with | .d x=>w6 x | _=>.bad):=rfl
theorem kN (C:Calls) (a:E) (n:String) (σ:St):ev C (.attr a n) σ=(au (C "Rule") λuu=>(ev C a σ).bind λx=>jH x.1 n):=rfl
theorem jV (C:Calls) (f:B1) (a:E) (σ:St):ev C (.bi1 f a) σ=((ev C a σ).bind λx=>b1V f x.1):=rfl
theorem mF (C:Calls) (a:E) (t:String) (σ:St):ev C (.isi a t) σ=((ev C a σ).bind λx=>(gy x.1 t).bind λb=>.ok (sB b)):=rfl
theorem kW (C:Calls) (f:String) (es:Es) (σ:St):ev C (.call f es) σ=(match C f with
  | some g=>(evs C es σ).bind λl=>g (l.map (·.1))
  | none=>.bad):=rfl
theorem kH (C:Calls) (a:E) (m:String) (es:Es) (σ:St):ev C (.meth a m es) σ=((ev C a σ).bind λx=>au (fU x.1) λuu=>au (C m) λg=>(evs C es σ).bind λl=>g (x.1::l.map (·.1))):=rfl
theorem bq (C:Calls) (σ0:St):evs C .nil σ0=(.ok []):=rfl
theorem bl (C:Calls) (e:E) (es:Es) (σ:St):evs C (.cons e es) σ=((ev C e σ).bind λx=>(evs C es σ).bind λl=>.ok (x::l)):=rfl
theorem g7 (C:Calls) (a:E) (σ:St):bh C (.e a) σ=((ev C a σ).bind itV):=rfl
theorem fH (C:Calls) (n:E) (σ:St):bh C (.r1 n) σ=((ev C n σ).bind λx=>match x.1 with | .d (.int n)=>cu 0 n | _=>.bad):=rfl
theorem fO (C:Calls) (a:E) (b:E) (σ:St):bh C (.r2 a b) σ=((ev C a σ).bind λx=>(ev C b σ).bind λy=>match x.1,y.1 with | .d (.int a),.d (.int b)=>cu a b | _,_=>.bad):=rfl
mutual
noncomputable def fv:E->List String
 | .name x=>[x]
 | .int _ | .str _ | .bool _ | .none | .edic=>[]
 | .bin _ a b | .cmp _ a b | .and a b | .or a b | .sub a b | .slo a b | .shi a b=>fv a++fv b
 | .neg a | .not a | .rev a | .attr a _ | .bi1 _ a | .isi a _=>fv a
 | .list es | .tup es | .call _ es=>fvs es
 | .comp elt _ it=>bZ it++fv elt
 | .compif elt _ it c=>bZ it++(fv c++fv elt)
 | .meth a _ es=>fv a++fvs es
noncomputable def fvs:Es->List String
 | .nil=>[]
 | .cons e es=>fv e++fvs es
noncomputable def bZ:It->List String
 | .e a=>fv a
 | .r1 n=>fv n
 | .r2 a b=>fv a++fv b
end
theorem ip (x:String):fv (.name x)=([x]):=rfl
theorem zY (z0:Int):fv (.int z0)=([]):=rfl
theorem Lo (z0:String):fv (.str z0)=([]):=rfl
theorem Kx (z0:Bool):fv (.bool z0)=([]):=rfl
theorem JR:fv .none=([]):=rfl
theorem K6:fv .edic=([]):=rfl
theorem Bf (z0:BOp) (a:E) (b:E):fv (.bin z0 a b)=(fv a++fv b):=rfl
theorem AZ (z0:COp) (a:E) (b:E):fv (.cmp z0 a b)=(fv a++fv b):=rfl
theorem AI (a:E) (b:E):fv (.and a b)=(fv a++fv b):=rfl
theorem Cv (a:E) (b:E):fv (.or a b)=(fv a++fv b):=rfl
theorem rN (a:E) (b:E):fv (.sub a b)=(fv a++fv b):=rfl
theorem Aq (a:E) (b:E):fv (.slo a b)=(fv a++fv b):=rfl
theorem Bj (a:E) (b:E):fv (.shi a b)=(fv a++fv b):=rfl
theorem z3 (a:E):fv (.neg a)=(fv a):=rfl
theorem Au (a:E):fv (.not a)=(fv a):=rfl
theorem At (a:E):fv (.rev a)=(fv a):=rfl
theorem wW (a:E) (z1:String):fv (.attr a z1)=(fv a):=rfl
theorem Bi (z0:B1) (a:E):fv (.bi1 z0 a)=(fv a):=rfl
theorem z6 (a:E) (z1:String):fv (.isi a z1)=(fv a):=rfl
theorem xg (es:Es):fv (.list es)=(fvs es):=rfl
theorem z8 (es:Es):fv (.tup es)=(fvs es):=rfl
theorem xK (z0:String) (es:Es):fv (.call z0 es)=(fvs es):=rfl
theorem wn (elt:E) (z1:String) (it:It):fv (.comp elt z1 it)=(bZ it++fv elt):=rfl
theorem tD (elt:E) (z1:String) (it:It) (c:E):fv (.compif elt z1 it c)=(bZ it++(fv c++fv elt)):=rfl
theorem wE (a:E) (z1:String) (es:Es):fv (.meth a z1 es)=(fv a++fvs es):=rfl
theorem Kj:fvs .nil=([]):=rfl
theorem uE (e:E) (es:Es):fvs (.cons e es)=(fv e++fvs es):=rfl
theorem jO (a:E):bZ (.e a)=(fv a):=rfl
theorem xi (n:E):bZ (.r1 n)=(fv n):=rfl
theorem vR (a:E) (b:E):bZ (.r2 a b)=(fv a++fv b):=rfl
inductive H1 where
 | asg (x:String) (e:E)
 | ret (e:E)
noncomputable def w2:List H1->List String
 | []=>[]
 | .asg x _::r=>x::w2 r
 | .ret _::_=>[]
noncomputable def se:List (String×List H1)->List String
 | []=>[]
 | p::r=>w2 p.2++se r
mutual
inductive S where
 | assign (x:String) (e:E)
 | setitem (x:String) (k:E)
 | append (x:String) (e:E)
 | appM (x y:String)
 | appendAt (x:String) (is:Es) (e:E)
 | insert (x:String) (i e:E)
 | pop (x:String) (i:E)
 | expr (e:E)
 | ret (e:E)
 | retn (x:String)
 | ite (c:E) (a b:Ss)
 | for1 (x:String) (it:It) (b:Ss)
 | raise (c:String)
 | tryS (b:S) (hs:List (String×List H1))
 | bad
inductive Ss where
 | nil
 | cons (s:S) (r:Ss)
end
mutual
noncomputable def asg:S->List String
 | .assign x _ | .setitem x _ | .append x _ | .appM x _ | .appendAt x _ _ | .insert x _ _ | .pop x _=>[x]
 | .expr _ | .ret _ | .retn _ | .raise _ | .bad=>[]
 | .ite _ a b=>ig a++ig b
 | .for1 x _ b=>x::ig b
 | .tryS b hs=>asg b++se hs
noncomputable def ig:Ss->List String
 | .nil=>[]
 | .cons s r=>asg s++ig r
end
inductive Flw where
 | next
 | ret (v:V×Mode)
noncomputable def demote (σ:St) (ns:List String):St:=λy=>if y∈ns then (σ y).map λp=>mk p.1 else σ y
noncomputable def consume (σ:St) (ns:List String) (m:Mode):St:=if m = .deep then σ else demote σ ns
noncomputable def c6 (f:PyData->St->Out (St×Flw)):List PyData->St->Out (St×Flw)
 | [],σ=>.ok (σ,.next)
 | x::xs,σ=>(f x σ).bind λr=>match r.2 with
  | .next=>c6 f xs r.1
  | .ret v=>.ok (r.1,.ret v)
noncomputable def rem (σ:St) (y:String):St:=λz=>if z=y then none else σ z
noncomputable def gB (σ:St) (x:String) (ns:List String) (mx:Mode) (xs:List PyData) (m:Mode):Out (St×Flw) :=
 if xs.length<=lim then
  if m = .deep then .ok (upd σ x (.d (.list xs),mx),.next)
  else if x∈ns then .bad else .ok (upd (demote σ ns) x (.d (.list xs),.top),.next)
 else .bad
noncomputable def k9 (σ:St) (x y:String):Out (St×Flw):=au (σ x) λp=>au (σ y) λq=>au (fe p.1) λg=>au (asD q.1) λd=>if x≠y/\g.length<lim/\p.2 = .deep/\q.2 = .deep then .ok (rem (upd σ x (.d (.list (g++[d])),.deep)) y,.next) else .bad
noncomputable def fI (σ:St) (x:String):V->PyData->Out (St×Flw)
 | .dic0,k=>match dB k with
  | some i=>.ok (upd σ x (.dicI [i],.deep),.next)
  | none=>match d8 k with
   | some t=>.ok (upd σ x (.dicT [t],.deep),.next)
   | none=>.bad
 | .dicI ks,k=>match dB k with
  | some i=>if ks.length<=lim then .ok (upd σ x (.dicI (if i∈ks then ks else ks++[i]),.deep),.next) else .bad
  | none=>.bad
 | .dicT ks,k=>match d8 k with
  | some i=>if ks.length<=lim then .ok (upd σ x (.dicT (if i∈ks then ks else ks++[i]),.deep),.next) else .bad
  | none=>.bad
 | _,_=>.bad
noncomputable def evP (C:Calls) (d:PyData):Es->St->Out (List Int×PyData)
 | .nil,_=>.ok ([],d)
 | .cons i r,σ=>(evP C d r σ).bind λp=>(ev C i σ).bind λq=>au (asD q.1) λk=>au (dB k) λk=>au (elem p.2 k) λe=>.ok (p.1++[k],e)
noncomputable def gZ:E->Bool
 | .comp _ _ _ | .compif _ _ _ _=>true
 | _=>false
noncomputable def evA (C:Calls) (e:E) (σ:St):Out (V×Mode):=if gZ e then (ev C e σ).calm else ev C e σ
theorem gS (h:ev C e σ = .ok r):evA C e σ = .ok r:=by
 unfold evA; rw[h]; split<;>rfl
theorem Bz (h:evA C e σ = .ok r):ev C e σ = .ok r:=by
 unfold evA at h
 split at h
 ·cases q:ev C e σ with
  | ok a=>rw[q] at h; exact h
  | exc c=>rw[q] at h; cases h
  | bad=>rw[q] at h; cases h
 ·exact h
theorem rC (h:evA C e σ = .exc c):ev C e σ = .exc c/\gZ e=false:=by
 unfold evA at h
 split at h
 ·cases q:ev C e σ<;>rw[q] at h<;>cases h
 ·rename_i q
  exact ⟨h,by cases hc:gZ e with | true=>exact absurd hc q | false=>rfl⟩
mutual
noncomputable def hOk:E->Bool
 | .name _ | .int _ | .bool _=>true
 | .bin _ a b | .cmp _ a b | .and a b | .or a b=>hOk a&&hOk b
 | .not a=>hOk a
 | .list es=>wF es
 | _=>false
noncomputable def wF:Es->Bool
 | .nil=>true
 | .cons e es=>hOk e&&wF es
end
noncomputable def noC:Calls:=λuu=>none
noncomputable def exH:List H1->St->Out (St×Flw)
 | [],σ=>.ok (σ,.next)
 | .asg x e::r,σ=>if hOk e then (ev noC e σ).calm.bind λq=>exH r (upd (consume σ (fv e) q.2) x q) else .bad
 | .ret e::_,σ=>if hOk e then (ev noC e σ).calm.bind λq=>.ok (σ,.ret q) else .bad
noncomputable def iL (C:Calls) (c:String):List (String×List H1)->St->Out (St×Flw)
 | [],_=>.bad
 | p::r,σ=>au (C p.1) λuu=>if p.1∈aO then (if p.1=c\/p.1 = "PickError" then exH p.2 σ else iL C c r σ) else .bad
noncomputable def pF:S->Bool
 | .expr _ | .assign _ _=>true
 | _=>false
noncomputable def orH (C:Calls) (b:S) (hs:List (String×List H1)) (σ:St):Out (St×Flw)->Out (St×Flw)
 | .ok r=>.ok r
 | .exc c=>if pF b then iL C c hs σ else .bad
 | .bad=>.bad
mutual
noncomputable def ex (C:Calls):S->St->Out (St×Flw)
 | .assign x e,g=>(evA C e g).bind λr=>.ok (upd (consume g (fv e) r.2) x r,.next)
 | .setitem x k,g=>(ev C k g).calm.bind λr=>match r.1,g x with
  | .d k,some (v,.deep)=>fI g x v k
  | _,_=>.bad
 | .append x e,g=>(ev C e g).calm.bind λr=>match r.1,g x with
  | .d y,some (v,mx)=>(match fe v with
   | some xs=>if mx = .sh then .bad else gB g x (fv e) mx (xs++[y]) r.2
   | none=>.bad)
  | _,_=>.bad
 | .appM x y,g=>k9 g x y
 | .appendAt x is e,g=>match g x with
  | some (v,.deep)=>au (asD v) λd=>(evP C d is g).calm.bind λp=>(ev C e g).calm.bind λr=>au (asD r.1) λy=>if sx y then au (modP y p.1 d) λh=>.ok (upd g x (.d h,.deep),.next) else .bad
  | _=>.bad
 | .insert x i e,g=>(ev C i g).calm.bind λq=>(ev C e g).calm.bind λr=>match q.1,r.1,g x with
  | .d (.int i),.d y,some (v,mx)=>(match fe v with
   | some xs=>if mx = .sh\/i<0\/(xs.length:Int)<i then .bad else gB g x (fv e) mx (xs.take i.toNat++y::xs.drop i.toNat) r.2
   | none=>.bad)
  | _,_,_=>.bad
 | .pop x i,g=>(ev C i g).calm.bind λq=>match q.1,g x with
  | .d (.int i),some (v,mx)=>(match fe v with
   | some xs=>if mx = .sh\/i<0\/(xs.length:Int)<=i then .bad else .ok (upd g x (.d (.list (xs.eraseIdx i.toNat)),.top),.next)
   | none=>.bad)
  | _,_=>.bad
 | .expr e,g=>(ev C e g).bind λr=>.ok (consume g (fv e) r.2,.next)
 | .retn x,g=>match g x with
  | some r=>.ok (g,.ret r)
  | none=>.bad
 | .ret e,g=>(ev C e g).bind λr=>.ok (g,.ret r)
 | .ite c a b,g=>(ev C c g).bind λr=>(ar r.1).bind λt=>if t then exs C a g else exs C b g
 | .for1 x it b,g=>(bh C it g).bind λq=>c6 (λy g=>exs C b (upd g x (mk (.d y)))) q.1 (consume g (bZ it) q.2)
 | .raise c,_=>au (C c) λuu=>if c∈aO then .exc c else .bad
 | .tryS b hs,g=>orH C b hs g (ex C b g)
 | .bad,_=>.bad
noncomputable def exs (C:Calls):Ss->St->Out (St×Flw)
 | .nil,σ=>.ok (σ,.next)
 | .cons s r,σ=>(ex C s σ).bind λq=>match q.2 with
  | .next=>exs C r q.1
  | .ret v=>.ok (q.1,.ret v)
end
theorem a7 (C:Calls) (x:String) (e:E) (σ:St):ex C (.assign x e) σ=((evA C e σ).bind λr=>.ok (upd (consume σ (fv e) r.2) x r,.next)):=rfl
theorem cP (C:Calls) (x:String) (k:E) (σ:St):ex C (.setitem x k) σ=((ev C k σ).calm.bind λr=>match r.1,σ x with
  | .d k,some (v,.deep)=>fI σ x v k
  | _,_=>.bad):=rfl
theorem kU (C:Calls) (x y:String) (σ:St):ex C (.appM x y) σ=k9 σ x y:=rfl
theorem fu (C:Calls) (x:String) (e:E) (σ:St):ex C (.append x e) σ=((ev C e σ).calm.bind λr=>match r.1,σ x with
  | .d y,some (v,mx)=>(match fe v with
   | some xs=>if mx = .sh then .bad else gB σ x (fv e) mx (xs++[y]) r.2
   | none=>.bad)
  | _,_=>.bad):=rfl
theorem dX (C:Calls) (x:String) (is:Es) (e:E) (σ:St):ex C (.appendAt x is e) σ=(match σ x with
  | some (v,.deep)=>au (asD v) λd=>(evP C d is σ).calm.bind λp=>(ev C e σ).calm.bind λr=>au (asD r.1) λy=>if sx y then au (modP y p.1 d) λd'=>.ok (upd σ x (.d d',.deep),.next) else .bad
  | _=>.bad):=rfl
theorem ik (C:Calls) (x:String) (i:E) (e:E) (σ:St):ex C (.insert x i e) σ=((ev C i σ).calm.bind λq=>(ev C e σ).calm.bind λr=>match q.1,r.1,σ x with
  | .d (.int i),.d y,some (v,mx)=>(match fe v with
   | some xs=>if mx = .sh\/i<0\/(xs.length:Int)<i then .bad else gB σ x (fv e) mx (xs.take i.toNat++y::xs.drop i.toNat) r.2
   | none=>.bad)
  | _,_,_=>.bad):=rfl
theorem l6 (C:Calls) (x:String) (i:E) (σ:St):ex C (.pop x i) σ=((ev C i σ).calm.bind λq=>match q.1,σ x with
  | .d (.int i),some (v,mx)=>(match fe v with
   | some xs=>if mx = .sh\/i<0\/(xs.length:Int)<=i then .bad else .ok (upd σ x (.d (.list (xs.eraseIdx i.toNat)),.top),.next)
   | none=>.bad)
  | _,_=>.bad):=rfl
theorem c8 (C:Calls) (e:E) (σ:St):ex C (.expr e) σ=((ev C e σ).bind λr=>.ok (consume σ (fv e) r.2,.next)):=rfl
theorem kQ (C:Calls) (x:String) (σ:St):ex C (.retn x) σ=(match σ x with
  | some r=>.ok (σ,.ret r)
  | none=>.bad):=rfl
theorem jJ (C:Calls) (e:E) (σ:St):ex C (.ret e) σ=((ev C e σ).bind λr=>.ok (σ,.ret r)):=rfl
theorem eK (C:Calls) (c:E) (a:Ss) (b:Ss) (σ:St):ex C (.ite c a b) σ=((ev C c σ).bind λr=>(ar r.1).bind λt=>if t then exs C a σ else exs C b σ):=rfl
theorem im (C:Calls) (x:String) (it:It) (b:Ss) (σ:St):ex C (.for1 x it b) σ=((bh C it σ).bind λq=>c6 (λy σ=>exs C b (upd σ x (mk (.d y)))) q.1 (consume σ (bZ it) q.2)):=rfl
theorem dT (C:Calls) (c:String) (σ0:St):ex C (.raise c) σ0=(au (C c) λuu=>if c∈aO then .exc c else .bad):=rfl
theorem iI (C:Calls) (b:S) (hs:List (String×List H1)) (σ:St):ex C (.tryS b hs) σ=(orH C b hs σ (ex C b σ)):=rfl
theorem Aj (C:Calls) (σ0:St):ex C .bad σ0=(.bad):=rfl
theorem dm (C:Calls) (σ:St):exs C .nil σ=(.ok (σ,.next)):=rfl
theorem bz (C:Calls) (s:S) (r:Ss) (σ:St):exs C (.cons s r) σ=((ex C s σ).bind λq=>match q.2 with
  | .next=>exs C r q.1
  | .ret v=>.ok (q.1,.ret v)):=rfl
structure Fn where
 params:List String
 body:Ss
noncomputable def bF:List String->List V->Option St
 | [],[]=>some λuu=>none
 | p::ps,v::vs=>(bF ps vs).map λg=>upd g p (mk v)
 | _,_=>none
noncomputable def ax (C:Calls) (f:Fn) (vs:List V):Out (V×Mode):=match bF f.params vs with
 | some σ=>(exs C f.body σ).bind λr=>match r.2 with
  | .ret v=>.ok v
  | .next=>.ok (.d .none,.deep)
 | none=>.bad
noncomputable def aE (C:Calls):Calls:=λf=>if f = "law" then none else C f
noncomputable def e7 (σ:St):Out (V×Mode):=au (σ "count") λp=>au (asD p.1) λc=>au (dB c) λc=>au (σ "full") λq=>au (asD q.1) λd=>au (asL d) λg=>au (g[0]?) λx=>au (asL x) λh=>
 if q.2 = .deep then .ok (.rule c (.list g) h.length,.deep) else .bad
noncomputable def cT (C:Calls) (f:Fn) (vs:List V):Out (V×Mode):=match bF f.params vs with
 | some σ=>(exs C f.body σ).bind λr=>match r.2 with
  | .next=>e7 r.1
  | .ret _=>.bad
 | none=>.bad
noncomputable def cW (f:String) (C:Calls) (fn:Fn) (vs:List V):Out (V×Mode):=if f = "Rule" then cT (aE C) fn vs else if f∈methNames then ax (aE C) fn vs else ax C fn vs
noncomputable def mkC (L:List (String×Fn)):Nat->Calls
 | 0=>λuu=>none
 | n+1=>λf=>(L.lookup f).map λh g=>cW f (mkC L n) h g
open PyProof.Rows
mutual
inductive R (h:Heap):Value->PyData->List Addr->Prop
 | none:R h .none .none []
 | bool (b:Bool):R h (.bool b) (.bool b) []
 | int (i:Int) (t:Tok):R h (.int i t) (.int i) []
 | str (x:Str) (t:Tok):R h (.str x t) (.str x) []
 | list {a:Addr}{n:Nat}{xs:List PyData}{as:List Addr}{vs:List Value}:h.get? a=some ⟨.type "list", Option.none,.seq vs.toArray n,#[]⟩->RA h vs xs as->R h (.ref a) (.list xs) (a::as)
 | tuple {a:Addr}{n:Nat}{xs:List PyData}{as:List Addr}{vs:List Value}:h.get? a=some ⟨.type "tuple", Option.none,.seq vs.toArray n,#[]⟩->RA h vs xs as->R h (.ref a) (.tuple xs) as
inductive RA (h:Heap):List Value->List PyData->List Addr->Prop
 | nil:RA h [] [] []
 | cons {v:Value}{vs:List Value}{d:PyData}{ds:List PyData}{as bs:List Addr}:R h v d as->RA h vs ds bs->RA h (v::vs) (d::ds) (as++bs)
end
theorem R.ind {h:Heap}{M:Value->PyData->List Addr->Prop}{N:List Value->List PyData->List Addr->Prop}(h1:M .none .none []) (h2:∀ b,M (.bool b) (.bool b) []) (h3:∀ i t,M (.int i t) (.int i) []) (h4:∀ x t,M (.str x t) (.str x) [])
  (h5:∀ {a:Addr}{n:Nat}{xs:List PyData}{as:List Addr}{vs:List Value},h.get? a=some ⟨.type "list", Option.none,.seq vs.toArray n,#[]⟩->RA h vs xs as->N vs xs as->M (.ref a) (.list xs) (a::as))
  (h6:∀ {a:Addr}{n:Nat}{xs:List PyData}{as:List Addr}{vs:List Value},h.get? a=some ⟨.type "tuple", Option.none,.seq vs.toArray n,#[]⟩->RA h vs xs as->N vs xs as->M (.ref a) (.tuple xs) as)
  (h7:N [] [] []) (h8:∀ {v:Value}{vs:List Value}{d:PyData}{ds:List PyData}{as bs:List Addr},R h v d as->RA h vs ds bs->M v d as->N vs ds bs->N (v::vs) (d::ds) (as++bs)) :
  (∀ {v:Value}{d:PyData}{as:List Addr},R h v d as->M v d as)/\(∀ {vs:List Value}{ds:List PyData}{as:List Addr},RA h vs ds as->N vs ds as) :=
 ⟨λr=>R.rec (motive_1:=λv d as _=>M v d as) (motive_2:=λvs ds as _=>N vs ds as) h1 h2 h3 h4 (λe r i=>h5 e r i) (λe r i=>h6 e r i) h7 (λx r i j=>h8 x r i j) r,
  λr=>RA.rec (motive_1:=λv d as _=>M v d as) (motive_2:=λvs ds as _=>N vs ds as) h1 h2 h3 h4 (λe r i=>h5 e r i) (λe r i=>h6 e r i) h7 (λx r i j=>h8 x r i j) r⟩
theorem RA.ind {h:Heap}{N:List Value->List PyData->List Addr->Prop}(h7:N [] [] []) (h8:∀ {v:Value}{vs:List Value}{d:PyData}{ds:List PyData}{as bs:List Addr},R h v d as->RA h vs ds bs->N vs ds bs->N (v::vs) (d::ds) (as++bs))
  {vs:List Value}{ds:List PyData}{as:List Addr}(r:RA h vs ds as):N vs ds as :=
 (R.ind (M:=λuu uu uu=>True) (N:=N) trivial (λuu=>trivial) (λuu uu=>trivial) (λuu uu=>trivial) (λuu uu uu=>trivial) (λuu uu uu=>trivial) h7 λx r _ j=>h8 x r j).2 r
noncomputable def Kps (h h':Heap) (as:List Addr):Prop:=∀ b o,(b∈as\/o.cls = .type "tuple")->(∃ vs n,o.data = .seq vs n)->h.get? b=some o->h'.get? b=some o
theorem R.onB:(∀ {v:Value}{d:PyData}{as:List Addr},R h v d as->Kps h h' as->R h' v d as)/\(∀ {vs:List Value}{ds:List PyData}{as:List Addr},RA h vs ds as->Kps h h' as->RA h' vs ds as) :=
 R.ind (M:=λv d as=>Kps h h' as->R h' v d as) (N:=λvs ds as=>Kps h h' as->RA h' vs ds as) (λuu=>.none) (λb _=>.bool b) (λi t _=>.int i t) (λx t _=>.str x t)
  (λe _ l k=>.list (k _ _ (.inl (.head _)) (bN _ _ rfl) e) (l λb o g=>k b o (g.imp (.tail _) id))) (λe _ l k=>.tuple (k _ _ (.inr rfl) (bN _ _ rfl) e) (l k))
  (λuu=>.nil) (λuu uu i j k=>.cons (i λb o g=>k b o (g.imp (mem_append_left _) id)) (j λb o g=>k b o (g.imp (mem_append_right _) id)))
section
theorem R.on2 (r:R h v d as) (k:∀ b o,(b∈as\/o.cls = .type "tuple")->(∃ vs n,o.data = .seq vs n)->h.get? b=some o->h'.get? b=some o):R h' v d as:=R.onB.1 r k
theorem RA.on2 (r:RA h vs ds as) (k:∀ b o,(b∈as\/o.cls = .type "tuple")->(∃ vs n,o.data = .seq vs n)->h.get? b=some o->h'.get? b=some o):RA h' vs ds as:=R.onB.2 r k
theorem R.on (r:R h v d as) (k:∀ b o,(b∈as\/o.cls = .type "tuple")->h.get? b=some o->h'.get? b=some o):R h' v d as:=r.on2 λb o q _=>k b o q
theorem RA.on (r:RA h vs ds as) (k:∀ b o,(b∈as\/o.cls = .type "tuple")->h.get? b=some o->h'.get? b=some o):RA h' vs ds as:=r.on2 λb o q _=>k b o q
end
noncomputable def Off (h:Heap) (as wr:List Addr):Prop:=∀ b∈wr,∀ o,h.get? b=some o->(∀ vs n,o.data≠.seq vs n)\/(o.cls≠.type "tuple" /\ b∉as)
theorem R.off (r:R h v d as) (hw:Off h as wr) (kp:∀ b o,b∉wr->h.get? b=some o->h'.get? b=some o):R h' v d as :=
 r.on2 λb o k ⟨i,n,e⟩ g=>kp b o (λj=>(hw b j o g).elim (λq=>q i n e) λq=>k.elim q.2 q.1) g
theorem RA.off (r:RA h vs ds as) (hw:Off h as wr) (kp:∀ b o,b∉wr->h.get? b=some o->h'.get? b=some o):RA h' vs ds as :=
 r.on2 λb o j ⟨vs,n,e⟩ g=>kp b o (λi=>(hw b i o g).elim (λq=>q vs n e) λq=>j.elim q.2 q.1) g
section
theorem R.keep (r:R h v d as) (k:∀ b o,h.get? b=some o->h'.get? b=some o):R h' v d as:=r.on λb o _=>k b o
theorem RA.keep (r:RA h vs ds as) (k:∀ b o,h.get? b=some o->h'.get? b=some o):RA h' vs ds as:=r.on λb o _=>k b o
end
theorem R.readsB:(∀ {v:Value}{d:PyData}{as:List Addr},R h v d as->Reads h v d as)/\(∀ {vs:List Value}{ds:List PyData}{as:List Addr},RA h vs ds as->ReadsAll h vs ds as) :=
 R.ind (M:=λv d as=>Reads h v d as) (N:=λvs ds as=>ReadsAll h vs ds as) .none (λb=>.bool b) (λi t=>.int i t) (λx t=>.str x t) (λe _ i=>.list e rfl rfl (by simpa using i)) (λe _ i=>.tuple e rfl rfl (by simpa using i)) .nil (λuu uu i j=>.cons i j)
theorem R.reads (r:R h v d as):Reads h v d as:=R.readsB.1 r
noncomputable def oC (h:Heap) (as:List Addr):Prop:=∀ a∈as,∃ vs n,h.get? a=some ⟨.type "list", Option.none,.seq vs n,#[]⟩
theorem R.thereB:(∀ {v:Value}{d:PyData}{as:List Addr},R h v d as->oC h as)/\(∀ {vs:List Value}{ds:List PyData}{as:List Addr},RA h vs ds as->oC h as) :=
 R.ind (M:=λuu uu as=>oC h as) (N:=λuu uu as=>oC h as) (λuu g=>nomatch g) (λuu uu g=>nomatch g) (λuu uu uu g=>nomatch g) (λuu uu uu g=>nomatch g)
  (λe _ i a g=>(mem_cons.mp g).elim (λq=>q▸(bN _ _ e)) (i a)) (λuu uu i=>i) (λuu g=>nomatch g) (λuu uu i j a g=>(mem_append.mp g).elim (i a) (j a))
theorem R.there (r:R h v d as):∀ a∈as,∃ vs n,h.get? a=some ⟨.type "list", Option.none,.seq vs n,#[]⟩:=R.thereB.1 r
theorem RA.there (r:RA h vs ds as):∀ a∈as,∃ vs n,h.get? a=some ⟨.type "list", Option.none,.seq vs n,#[]⟩:=R.thereB.2 r
theorem R.isInt (r:R h v (.int i) as):∃ t,v = .int i t/\as=[]:=by
 cases r; exact (ah _ rfl rfl)
theorem R.isInt_k {h:Heap}{v:Value}{i:Int}{as:List Addr}{G:Prop}(r:R h v (.int i) as) (k:∀ t,v = .int i t->as=[]->G):G:=af (R.isInt r) k
theorem R.isBool (r:R h v (.bool b) as):v = .bool b/\as=[]:=by
 cases r; exact ⟨rfl,rfl⟩
theorem R.isNone (r:R h v .none as):v = .none/\as=[]:=by
 cases r; exact ⟨rfl,rfl⟩
theorem R.sx_nil (r:R h v d as) (hs:sx d=true):as=[]:=by
 cases r<;>first | rfl | (simp[sx] at hs)
theorem RA.length (r:RA h vs ds as):vs.length=ds.length :=
 RA.ind (N:=λvs ds _=>vs.length=ds.length) rfl (λuu uu i=>congrArg (· + 1) i) r
theorem RA.append (r:RA h vs ds as) (q:RA h ws es bs):RA h (vs++ws) (ds++es) (as++bs) :=
 RA.ind (N:=λvs ds as=>RA h (vs++ws) (ds++es) (as++bs)) q (λx _ i=>by rw[append_assoc]; exact .cons x i) r
theorem RA.sx_nil (r:RA h vs ds as):ds.all sx=true->as=[] :=
 RA.ind (N:=λuu ds as=>ds.all sx=true->as=[]) (λuu=>rfl) (λx _ i g=>by
  refine cb (show (sx _&&List.all _ sx)=true from g) λk j=>?_
  rw[x.sx_nil k,i j]; rfl) r
theorem RA.get (r:RA h vs ds as):∀ {k:Nat}{d:PyData},ds[k]? = some d->∃ v bs,vs[k]? = some v/\R h v d bs/\∀ b∈bs,b∈as:=by
 have g:∀ (k:Nat) (d:PyData),ds[k]? = some d->∃ v bs,vs[k]? = some v/\R h v d bs/\∀ b∈bs,b∈as:=by
  refine RA.ind (N:=λvs ds as=>∀ (k:Nat) (d:PyData),ds[k]? = some d->∃ v bs,vs[k]? = some v/\R h v d bs/\∀ b∈bs,b∈as) (λk d hk=>by cases hk) (λx _ i k d hk=>?_) r
  cases k with
  | zero=>injection hk; exact (aM _ _ rfl x (λb j=>mem_append_left _ j))
  | succ k=>
   refine aA (i k d hk) λv bs o n m=>?_
   exact (aM v bs o n (λb j=>mem_append_right _ (m b j)))
 exact λ{k d}=>g k d
theorem RA.get' {h:Heap}{vs:List Value}{ds:List PyData}{as:List Addr}(r:RA h vs ds as) {k:Nat}{v:Value}(hk:vs[k]? = some v):∃ d bs,ds[k]? = some d/\R h v d bs/\∀ b∈bs,b∈as:=by
 have i:k<ds.length:=by rw[<- r.length]; exact (List.getElem?_eq_some_iff.mp hk).1
 refine aA (r.get (List.getElem?_eq_getElem i)) λn bs g m l=>?_
 rw[hk] at g; injection g
 exact (aM _ bs (List.getElem?_eq_getElem i) m l)
theorem RA.take (n:Nat) (r:RA h vs ds as):∃ bs,RA h (vs.take n) (ds.take n) bs/\(∀ b∈bs,b∈as):=by
 refine RA.ind (N:=λvs ds as=>∀ n,∃ bs,RA h (vs.take n) (ds.take n) bs/\(∀ b∈bs,b∈as)) (λn=>(ah ([]) (by rw[take_nil,take_nil]; exact .nil) (λuu g=>nomatch g))) (λx _ i n=>?_) r n
 cases n with
 | zero=>exact (ah ([]) .nil (λuu g=>nomatch g))
 | succ n=>
  refine af (i n) λbs q j=>?_
  exact (ah _ (.cons x q) (λb g=>(mem_append.mp g).elim (mem_append_left _) λg=>mem_append_right _ (j b g)))
theorem RA.drop (n:Nat) (r:RA h vs ds as):∃ bs,RA h (vs.drop n) (ds.drop n) bs/\(∀ b∈bs,b∈as):=by
 refine RA.ind (N:=λvs ds as=>∀ n,∃ bs,RA h (vs.drop n) (ds.drop n) bs/\(∀ b∈bs,b∈as)) (λn=>(ah ([]) (by rw[drop_nil,drop_nil]; exact .nil) (λuu g=>nomatch g))) (λx r i n=>?_) r n
 cases n with
 | zero=>exact (ah _ (.cons x r) (λuu g=>g))
 | succ n=>
  refine af (i n) λbs q j=>?_
  exact (ah bs q (λb g=>mem_append_right _ (j b g)))
theorem RA.reverse (r:RA h vs ds as):∃ bs,RA h vs.reverse ds.reverse bs/\(∀ b∈bs,b∈as):=by
 refine RA.ind (N:=λvs ds as=>∃ bs,RA h vs.reverse ds.reverse bs/\(∀ b∈bs,b∈as)) (ah ([]) .nil (λuu hb=>nomatch hb)) (λ{v vs d ds as j} x r i=>?_) r
 refine af (i) λbs q g=>?_
 clear i
 refine (ah (bs++(as++[])) (by rw[List.reverse_cons,List.reverse_cons]; exact q.append (.cons x .nil)) (λb hb=>?_))
 rcases mem_append.mp hb with hb | hb
 ·exact mem_append_right _ (g b hb)
 ·exact mem_append_left _ (by rwa [append_nil] at hb)
theorem RA.ints (r:RA h vs ds as) (e:aY ds=some ns):IntsAre vs ns/\as=[]/\ds=ns.map .int:=by
 refine RA.ind (N:=λvs ds as=>∀ ns,aY ds=some ns->IntsAre vs ns/\as=[]/\ds=ns.map .int) (λns e=>?_) (λ{v vs d ds as p} x r i ns e=>?_) r ns e
 ·injection e; exact ⟨.nil,rfl,rfl⟩
 ·cases x with
  | int j t=>
   refine bG (show (aY ds).map (j :: ·)=some ns from e) λn o l=>?_
   (clear e; subst l)
   refine aG (i n o) λa k g=>?_
   (clear i r; subst k)
   subst g
   exact ⟨.cons j t a,rfl,rfl⟩
  | _=>exact nN e
theorem RA.of_ints (r:IntsAre vs ns):RA h vs (ns.map .int) []:=by
 induction r with
 | nil=>exact .nil
 | cons i t r ih=>exact .cons (as:=[]) (.int i t) ih
mutual
noncomputable def sz:PyData->Bool
 | .none | .bool _ | .int _=>true
 | .str x=>decide (x.length<=2^22)
 | .list xs | .tuple xs=>decide (xs.length<=2^22)&&szs xs
 | .dict _=>false
noncomputable def szs:List PyData->Bool
 | []=>true
 | x::xs=>sz x&&szs xs
end
theorem rH:szs xs=true↔∀ x∈xs,sz x=true:=by
 induction xs with
 | nil=>simp[szs]
 | cons x xs ih=>simp[szs,ih]
theorem sz_list:sz (.list xs)=true↔xs.length<=2^22/\∀ x∈xs,sz x=true:=by simp[sz,rH]
theorem sz_tuple:sz (.tuple xs)=true↔xs.length<=2^22/\∀ x∈xs,sz x=true:=by simp[sz,rH]
theorem iz (ns:List Int):∀ x∈ns.map PyData.int,sz x=true:=by
 intro x hx; obtain ⟨i,_,rfl⟩:=mem_map.mp hx; rfl
noncomputable def varK (ns:List (Str×NameKind)) (x:String):Bool:=!(Str.ofString x==Str.ofString ".0")&&(match ns.lookup (Str.ofString x) with
 | some .local | some .cell | some .free=>true
 | _=>false)
noncomputable def cU (ns:List (Str×NameKind)) (x:String):Bool:=ns.lookup (Str.ofString x)==some .globalImplicit
noncomputable def aX (x:String):Bool:=!(Str.ofString x==("__debug__" : Str)) && !(Str.ofString x==("__classdict__" : Str))
noncomputable def bOp:BOp->Operator
 | .add=>.Add | .sub=>.Sub | .mul=>.Mult | .fdiv=>.FloorDiv | .mod=>.Mod | .pow=>.Pow | .xor=>.BitXor
noncomputable def cOp:COp->CmpOp
 | .eq=>.Eq | .ne=>.NotEq | .lt=>.Lt | .gt=>.Gt | .ge=>.GtE | .isin=>.In | .notin=>.NotIn | .isnot=>.IsNot
noncomputable def opB (o:BOp) (p:Operator):Bool:=decide (p=bOp o)
noncomputable def opC (o:COp) (p:CmpOp):Bool:=decide (p=cOp o)
noncomputable def b1n:B1->String
 | .len => "len" | .list => "list" | .tuple => "tuple" | .sorted => "sorted" | .max => "max"
noncomputable def fg (outer inner:List (Str×NameKind)):List (Str×NameKind) :=
 inner.map λ(n,k)=>if k == .free&&outer.lookup n==some .cell then (n,.cell) else (n,k)
noncomputable def gH (ns:List (Str×NameKind)) (sc:Scope) (x:String):Bool :=
 sc.kind == .function&&decide ((sc.names.map (·.1)).Nodup)&&(sc.names.lookup (Str.ofString x)==some .local||sc.names.lookup (Str.ofString x)==some .cell) &&
 sc.names.all λp=>(p.2 == .local&&(p.1==Str.ofString x||p.1==Str.ofString ".0"))||p.2 == .globalImplicit||(p.2 == .cell&&p.1==Str.ofString x)||(p.2 == .free&&(ns.lookup p.1==some .cell||ns.lookup p.1==some .free))
noncomputable def ao (o:Option α) (f:α->Bool):Bool:=match o with
 | some a=>f a
 | none=>false
theorem iJ (h:ao o f=true):∃ a,o=some a/\f a=true:=by
 cases o with
 | none=>exact nF h
 | some a=>exact (ah a rfl h)
theorem aj {α:Type}{o:Option α}{f:α->Bool}{G:Prop}(h:ao o f=true) (k:∀ a,o=some a->f a=true->G):G:=af (iJ h) k
structure Pt where
 tag:Nat:=0
 e1:Expr:=default
 e2:Expr:=default
 es:List Expr:=[]
 st:Str:=default
 co:Const:=default
 n:Nat:=0
 op:Operator:=default
 un:UnaryOp:=default
 bo:BoolOp:=default
 cs:List CmpOp:=[]
 ks:List (Option Expr):=[]
 gs:List Comprehension:=[]
 sc:Scope:=default
 o1:Option Expr:=none
 o2:Option Expr:=none
 o3:Option Expr:=none
 kw:List Keyword:=[]
 pos:Pos:=default
noncomputable def pt:Expr->Pt
 | .Name x0 x1=>{tag:=1,st:=x0,pos:=x1 }
 | .Constant x0 x1 x2=>{tag:=2,co:=x0,n:=x1,pos:=x2 }
 | .BinOp x0 x1 x2 x3=>{tag:=3,e1:=x0,op:=x1,e2:=x2,pos:=x3 }
 | .UnaryOp x0 x1 x2=>{tag:=4,un:=x0,e1:=x1,pos:=x2 }
 | .Compare x0 x1 x2 x3=>{tag:=5,e1:=x0,cs:=x1,es:=x2,pos:=x3 }
 | .BoolOp x0 x1 x2=>{tag:=6,bo:=x0,es:=x1,pos:=x2 }
 | .List x0 x1=>{tag:=7,es:=x0,pos:=x1 }
 | .Tuple x0 x1 x2=>{tag:=8,es:=x0,n:=x1,pos:=x2 }
 | .Dict x0 x1 x2=>{tag:=9,ks:=x0,es:=x1,pos:=x2 }
 | .ListComp x0 x1 x2 x3=>{tag:=10,e1:=x0,gs:=x1,sc:=x2,pos:=x3 }
 | .Subscript x0 x1 x2=>{tag:=11,e1:=x0,e2:=x1,pos:=x2 }
 | .Slice x0 x1 x2 x3=>{tag:=12,o1:=x0,o2:=x1,o3:=x2,pos:=x3 }
 | .Call x0 x1 x2 x3=>{tag:=13,e1:=x0,es:=x1,kw:=x2,pos:=x3 }
 | .Attribute x0 x1 x2=>{tag:=14,e1:=x0,st:=x1,pos:=x2 }
 | _=>{}
noncomputable def ptB (n:Nat) (p:Pt):Expr:=match n with
 | 1=>.Name p.st p.pos
 | 2=>.Constant p.co p.n p.pos
 | 3=>.BinOp p.e1 p.op p.e2 p.pos
 | 4=>.UnaryOp p.un p.e1 p.pos
 | 5=>.Compare p.e1 p.cs p.es p.pos
 | 6=>.BoolOp p.bo p.es p.pos
 | 7=>.List p.es p.pos
 | 8=>.Tuple p.es p.n p.pos
 | 9=>.Dict p.ks p.es p.pos
 | 10=>.ListComp p.e1 p.gs p.sc p.pos
 | 11=>.Subscript p.e1 p.e2 p.pos
 | 12=>.Slice p.o1 p.o2 p.o3 p.pos
 | 13=>.Call p.e1 p.es p.kw p.pos
 | 14=>.Attribute p.e1 p.st p.pos
 | _=>default
theorem AX (e:Expr):(pt e).tag=0\/ptB (pt e).tag (pt e)=e:=by cases e<;>first | exact .inr rfl | exact .inl rfl
theorem cB (hn:n≠0) (h:(pt e).tag=n):e=ptB n (pt e):=by
 rcases AX e with q | q
 ·exact absurd (h.symm.trans q) hn
 ·rw[h] at q; exact q.symm
noncomputable def ifN (m n:Nat) (a:α):Option α:=if m=n then some a else none
theorem Bp {α:Type}{m n:Nat}{a b:α}(h:ifN m n a=some b):m=n/\a=b:=by
 unfold ifN at h
 by_cases q:m=n
 ·rw[if_pos q] at h; exact ⟨q,Option.some.inj h⟩
 ·rw[if_neg q] at h; exact nN h
theorem bT {α:Type}{m n:Nat}{a b:α}{G:Prop}(h:ifN m n a=some b) (k:m=n->a=b->G):G:=ae (Bp h) k
noncomputable def cj (e:Expr):Option (Str×Pos):=ifN (pt e).tag 1 ((pt e).st,(pt e).pos)
noncomputable def eX (e:Expr):Option (Const×Nat×Pos):=ifN (pt e).tag 2 ((pt e).co,(pt e).n,(pt e).pos)
noncomputable def BM (e:Expr):Option (Expr×Operator×Expr×Pos):=ifN (pt e).tag 3 ((pt e).e1,(pt e).op,(pt e).e2,(pt e).pos)
noncomputable def dUn (e:Expr):Option (UnaryOp×Expr×Pos):=ifN (pt e).tag 4 ((pt e).un,(pt e).e1,(pt e).pos)
noncomputable def BN (e:Expr):Option (Expr×List CmpOp×List Expr×Pos):=ifN (pt e).tag 5 ((pt e).e1,(pt e).cs,(pt e).es,(pt e).pos)
noncomputable def tv (e:Expr):Option (BoolOp×List Expr×Pos):=ifN (pt e).tag 6 ((pt e).bo,(pt e).es,(pt e).pos)
noncomputable def zM (e:Expr):Option (List Expr×Pos):=ifN (pt e).tag 7 ((pt e).es,(pt e).pos)
noncomputable def Cj (e:Expr):Option (List Expr×Nat×Pos):=ifN (pt e).tag 8 ((pt e).es,(pt e).n,(pt e).pos)
noncomputable def y9 (e:Expr):Option (List (Option Expr)×List Expr×Pos):=ifN (pt e).tag 9 ((pt e).ks,(pt e).es,(pt e).pos)
noncomputable def dLC (e:Expr):Option (Expr×List Comprehension×Scope×Pos):=ifN (pt e).tag 10 ((pt e).e1,(pt e).gs,(pt e).sc,(pt e).pos)
noncomputable def mH (e:Expr):Option (Expr×Expr×Pos):=ifN (pt e).tag 11 ((pt e).e1,(pt e).e2,(pt e).pos)
noncomputable def vz (e:Expr):Option (Option Expr×Option Expr×Option Expr×Pos):=ifN (pt e).tag 12 ((pt e).o1,(pt e).o2,(pt e).o3,(pt e).pos)
noncomputable def jS (e:Expr):Option (Expr×List Expr×List Keyword×Pos):=ifN (pt e).tag 13 ((pt e).e1,(pt e).es,(pt e).kw,(pt e).pos)
noncomputable def lA (e:Expr):Option (Expr×Str×Pos):=ifN (pt e).tag 14 ((pt e).e1,(pt e).st,(pt e).pos)
noncomputable def xR:Const->Option Int
 | .int i=>some i
 | _=>none
noncomputable def xr:Const->Option Str
 | .str i=>some i
 | _=>none
noncomputable def rQ:Const->Option Bool
 | .bool i=>some i
 | _=>none
noncomputable def yr:Const->Option Unit
 | .none=>some ()
 | _=>none
noncomputable def bX:List α->Option α
 | [x]=>some x
 | _=>none
noncomputable def ss:List α->Option (α×α)
 | [x,y]=>some (x,y)
 | _=>none
noncomputable def dI:List α->Option Unit
 | []=>some ()
 | _=>none
noncomputable def gj:List α->Option (α×List α)
 | x::y=>some (x,y)
 | _=>none
section
variable {e:Expr}
theorem a6 (h:cj e=some q):e = .Name q.1 q.2:=by
 refine bT h λi g=>?_
 (clear h; subst g)
 exact cB (by decide) i
theorem cN (h:eX e=some q):e = .Constant q.1 q.2.1 q.2.2:=by
 refine bT h λi g=>?_
 (clear h; subst g)
 exact cB (by decide) i
theorem xF (h:BM e=some q):e = .BinOp q.1 q.2.1 q.2.2.1 q.2.2.2:=by
 refine bT h λi g=>?_
 (clear h; subst g)
 exact cB (by decide) i
theorem mK (h:dUn e=some q):e = .UnaryOp q.1 q.2.1 q.2.2:=by
 refine bT h λi g=>?_
 (clear h; subst g)
 exact cB (by decide) i
theorem xj (h:BN e=some q):e = .Compare q.1 q.2.1 q.2.2.1 q.2.2.2:=by
 refine bT h λi g=>?_
 (clear h; subst g)
 exact cB (by decide) i
theorem nS (h:tv e=some q):e = .BoolOp q.1 q.2.1 q.2.2:=by
 refine bT h λi g=>?_
 (clear h; subst g)
 exact cB (by decide) i
theorem tL (h:zM e=some q):e = .List q.1 q.2:=by
 refine bT h λi g=>?_
 (clear h; subst g)
 exact cB (by decide) i
theorem xx (h:Cj e=some q):e = .Tuple q.1 q.2.1 q.2.2:=by
 refine bT h λi g=>?_
 (clear h; subst g)
 exact cB (by decide) i
theorem vo (h:y9 e=some q):e = .Dict q.1 q.2.1 q.2.2:=by
 refine bT h λi g=>?_
 (clear h; subst g)
 exact cB (by decide) i
theorem A8 (h:dLC e=some q):e = .ListComp q.1 q.2.1 q.2.2.1 q.2.2.2:=by
 refine bT h λi g=>?_
 (clear h; subst g)
 exact cB (by decide) i
theorem ej (h:mH e=some q):e = .Subscript q.1 q.2.1 q.2.2:=by
 refine bT h λi g=>?_
 (clear h; subst g)
 exact cB (by decide) i
theorem s8 (h:vz e=some q):e = .Slice q.1 q.2.1 q.2.2.1 q.2.2.2:=by
 refine bT h λi g=>?_
 (clear h; subst g)
 exact cB (by decide) i
theorem dS (h:jS e=some q):e = .Call q.1 q.2.1 q.2.2.1 q.2.2.2:=by
 refine bT h λi g=>?_
 (clear h; subst g)
 exact cB (by decide) i
theorem gi (h:lA e=some q):e = .Attribute q.1 q.2.1 q.2.2:=by
 refine bT h λi g=>?_
 (clear h; subst g)
 exact cB (by decide) i
theorem oN (h:xR c=some q):c = .int q:=by cases c<;>cases h; rfl
theorem qm (h:xr c=some q):c = .str q:=by cases c<;>cases h; rfl
theorem nj (h:rQ c=some q):c = .bool q:=by cases c<;>cases h; rfl
theorem uO (h:yr c=some q):c = .none:=by cases c<;>cases h; rfl
variable {α:Type}{l:List α}
theorem ce (h:dI l=some q):l=[]:=by
 cases l with
 | nil=>rfl
 | cons=>exact nN h
theorem cJ {q:α×List α}(h:gj l=some q):l=q.1::q.2:=by
 cases l with
 | nil=>exact nN h
 | cons=>injection h; rfl
theorem bg {q:α}(h:bX l=some q):l=[q]:=by
 cases l with
 | nil=>exact nN h
 | cons x l=>
  cases l with
  | nil=>injection h; rfl
  | cons=>exact nN h
theorem kR {q:α×α}(h:ss l=some q):l=[q.1,q.2]:=by
 cases l with
 | nil=>exact nN h
 | cons x l=>
  cases l with
  | nil=>exact nN h
  | cons y l=>
   cases l with
   | nil=>injection h; rfl
   | cons=>exact nN h
end
noncomputable def dFn (e:Expr):Option (Str×Pos×List Expr×Pos):=(jS e).bind λq=>(dI q.2.2.1).bind λuu=>(cj q.1).map λn=>(n.1,n.2,q.2.1,q.2.2.2)
theorem gW (h:dFn e=some q):e = .Call (.Name q.1 q.2.1) q.2.2.1 [] q.2.2.2:=by
 refine bk h λc j h=>?_
 refine bk h λu i h=>?_
 refine bG h λn g h=>?_
 subst h
 rw[dS j,ce i,a6 g]
noncomputable def td (e:Expr):Option (Expr×Str×Pos×Expr×List Expr×Scope×Pos):=(dLC e).bind λq=>(bX q.2.1).bind λg=>(cj g.target).bind λn=>if g.is_async=0 then some (q.1,n.1,n.2,g.iter,g.ifs,q.2.2.1,q.2.2.2) else none
theorem m7 (h:td e=some q):e = .ListComp q.1 [⟨.Name q.2.1 q.2.2.1,q.2.2.2.1,q.2.2.2.2.1,0⟩] q.2.2.2.2.2.1 q.2.2.2.2.2.2:=by
 refine bk h λc m h=>?_
 refine bk h λg l h=>?_
 obtain ⟨o,p,r,t⟩:=g
 refine bk h λn i h=>?_
 dsimp only at h i
 split at h
 ·rename_i k
  injection h
  rw[A8 m,bg l,a6 i,k]
 ·exact nN h
noncomputable def dSl (e:Expr):Option (Expr×Option Expr×Option Expr×Option Expr×Pos×Pos):=(mH e).bind λq=>(vz q.2.1).map λs=>(q.1,s.1,s.2.1,s.2.2.1,s.2.2.2,q.2.2)
theorem mO (h:dSl e=some q):e = .Subscript q.1 (.Slice q.2.1 q.2.2.1 q.2.2.2.1 q.2.2.2.2.1) q.2.2.2.2.2:=by
 refine bk h λc i h=>?_
 refine bG h λn g h=>?_
 subst h
 rw[ej i,s8 g]
noncomputable def lT:E->Bool
 | .name _=>true
 | .call _ _=>true
 | _=>false
mutual
noncomputable def okE (ns:List (Str×NameKind)):E->Expr->Bool
 | .name x,ex=>ao (cj ex) λq=>q.1==Str.ofString x&&varK ns x&&aX x
 | .int i,ex=>ao (eX ex) λq=>ao (xR q.1) λj=>i==j
 | .str s,ex=>ao (eX ex) λq=>ao (xr q.1) λt=>Str.ofString s==t&&decide (t.length<=2^22)
 | .bool b,ex=>ao (eX ex) λq=>ao (rQ q.1) λc=>b==c
 | .none,ex=>ao (eX ex) λq=>(yr q.1).isSome
 | .bin o a b,ex=>ao (BM ex) λq=>opB o q.2.1&&okE ns a q.1&&okE ns b q.2.2.1
 | .neg a,ex=>ao (dUn ex) λq=>decide (q.1 = .USub)&&okE ns a q.2.1
 | .not a,ex=>ao (dUn ex) λq=>decide (q.1 = .Not)&&okE ns a q.2.1
 | .cmp o a b,ex=>ao (BN ex) λq=>ao (bX q.2.1) λg=>ao (bX q.2.2.1) λr=>opC o g&&okE ns a q.1&&okE ns b r
 | .and a b,ex=>ao (tv ex) λq=>decide (q.1 = .And)&&ao (gj q.2.1) λv=>okE ns a v.1&&(match bX v.2 with | some u=>okE ns b u | none=>okA ns b v.2)
 | .or a b,ex=>ao (tv ex) λq=>decide (q.1 = .Or)&&ao (gj q.2.1) λv=>okE ns a v.1&&(match bX v.2 with | some u=>okE ns b u | none=>okO ns b v.2)
 | .list es,ex=>ao (zM ex) λq=>decide (q.1.length<1000)&&dk ns es q.1
 | .tup es,ex=>ao (Cj ex) λq=>decide (q.1.length<1000)&&dk ns es q.1
 | .edic,ex=>ao (y9 ex) λq=>(dI q.1).isSome&&(dI q.2.1).isSome
 | .comp elt x it,ex=>ao (td ex) λq=>ao (dI q.2.2.2.2.1) λuu=>q.2.1==Str.ofString x&&gH ns q.2.2.2.2.2.1 x&&gu ns it q.2.2.2.1&&okE (fg ns q.2.2.2.2.2.1.names) elt q.1
 | .compif elt x it c,ex=>ao (td ex) λq=>ao (bX q.2.2.2.2.1) λf=>q.2.1==Str.ofString x&&gH ns q.2.2.2.2.2.1 x&&gu ns it q.2.2.2.1&&okE (fg ns q.2.2.2.2.2.1.names) c f&&okE (fg ns q.2.2.2.2.2.1.names) elt q.1
 | .sub a i,ex=>ao (mH ex) λq=>okE ns a q.1&&okE ns i q.2.1
 | .slo a i,ex=>ao (dSl ex) λq=>ao q.2.1 λl=>q.2.2.1.isNone&&q.2.2.2.1.isNone&&(okE ns a q.1&&okE ns i l)
 | .shi a i,ex=>ao (dSl ex) λq=>ao q.2.2.1 λl=>q.2.1.isNone&&q.2.2.2.1.isNone&&(okE ns a q.1&&okE ns i l)
 | .rev a,ex=>ao (dSl ex) λq=>ao q.2.2.2.1 λl=>q.2.1.isNone&&q.2.2.1.isNone&&(ao (dUn l) λu=>decide (u.1 = .USub)&&ao (eX u.2.1) λc=>ao (xR c.1) λi=>i==1&&okE ns a q.1)
 | .attr a n,ex=>ao (lA ex) λq=>q.2.1==Str.ofString n&&decide (n∈fieldNames)&&lT a&&okE ns a q.1
 | .bi1 f a,ex=>ao (dFn ex) λq=>ao (bX q.2.2.1) λx=>q.1==Str.ofString (b1n f)&&cU ns (b1n f)&&okE ns a x
 | .isi a t,ex=>ao (dFn ex) λq=>ao (ss q.2.2.1) λx=>ao (cj x.2) λc=>q.1==Str.ofString "isinstance" && cU ns "isinstance" && okE ns a x.1&&c.1==Str.ofString t&&cU ns t&&aX t
 | .call f es,ex=>ao (dFn ex) λq=>q.1==Str.ofString f&&cU ns f&&aX f && !decide (f∈methNames) && !decide (f∈aO) && !q.2.2.1.isEmpty&&decide (q.2.2.1.length<20)&&dk ns es q.2.2.1
 | .meth a m es,ex=>ao (jS ex) λq=>ao (dI q.2.2.1) λuu=>ao (lA q.1) λf=>f.2.1==Str.ofString m&&(f.2.2.endLine==q.2.2.2.line)&&decide (m∈methNames) && !q.2.1.isEmpty&&decide (q.2.1.length<20)&&lT a&&okE ns a f.1&&dk ns es q.2.1
termination_by structural e=>e
noncomputable def okA (ns:List (Str×NameKind)):E->List Expr->Bool
 | .and a b,ex=>ao (gj ex) λv=>okE ns a v.1&&(match bX v.2 with | some u=>okE ns b u | none=>okA ns b v.2)
 | _,_=>false
termination_by structural e=>e
noncomputable def okO (ns:List (Str×NameKind)):E->List Expr->Bool
 | .or a b,ex=>ao (gj ex) λv=>okE ns a v.1&&(match bX v.2 with | some u=>okE ns b u | none=>okO ns b v.2)
 | _,_=>false
termination_by structural e=>e
noncomputable def dk (ns:List (Str×NameKind)):Es->List Expr->Bool
 | .nil,ex=>(dI ex).isSome
 | .cons e es,ex=>ao (gj ex) λq=>okE ns e q.1&&dk ns es q.2
termination_by structural e=>e
noncomputable def gu (ns:List (Str×NameKind)):It->Expr->Bool
 | .e a,x=>okE ns a x
 | .r1 n,ex=>ao (dFn ex) λq=>ao (bX q.2.2.1) λx=>q.1==Str.ofString "range" && cU ns "range" && okE ns n x
 | .r2 a b,ex=>ao (dFn ex) λq=>ao (ss q.2.2.1) λx=>q.1==Str.ofString "range" && cU ns "range" && okE ns a x.1&&okE ns b x.2
termination_by structural e=>e
end
section
variable {ns:List (Str×NameKind)}{ex:Expr}{a b c:E}
theorem uQ (h:okE ns (.name x) ex=true):(∃ id p,ex = .Name id p/\(id==Str.ofString x&&varK ns x&&aX x)=true)\/False:=by
 refine aj h λq e h=>?_
 exact .inl (aC q.1 q.2 (a6 e) h)
theorem I7 (h:okE ns (.int i) ex=true):(∃ j k p,ex = .Constant (.int j) k p/\(i==j)=true)\/False:=by
 refine aj h λq e h=>?_
 refine aj h λj g h=>?_
 exact .inl (cz j q.2.1 q.2.2 (by rw[cN e,oN g]) h)
theorem CR (h:okE ns (.str s) ex=true):(∃ t k p,ex = .Constant (.str t) k p/\(Str.ofString s==t&&decide (t.length<=2^22))=true)\/False:=by
 refine aj h λq e h=>?_
 refine aj h λj g h=>?_
 exact .inl (cz j q.2.1 q.2.2 (by rw[cN e,qm g]) h)
theorem Ch (h:okE ns (.bool s) ex=true):(∃ t k p,ex = .Constant (.bool t) k p/\(s==t)=true)\/False:=by
 refine aj h λq e h=>?_
 refine aj h λj g h=>?_
 exact .inl (cz j q.2.1 q.2.2 (by rw[cN e,nj g]) h)
theorem BW (h:okE ns .none ex=true):(∃ k p,ex = .Constant .none k p/\True)\/False:=by
 refine aj h λq e h=>?_
 refine bK h λj g=>?_
 exact .inl (aC q.2.1 q.2.2 (by rw[cN e,uO g]) trivial)
theorem FW (h:okE ns (.bin o a b) ex=true):(∃ l op r p,ex = .BinOp l op r p/\(opB o op&&okE ns a l&&okE ns b r)=true)\/False:=by
 refine aj h λq e h=>?_
 exact .inl (dY _ _ _ _ (xF e) h)
theorem zl (h:okE ns (.neg a) ex=true):(∃ x p,ex = .UnaryOp .USub x p/\okE ns a x=true)\/False:=by
 refine aj h λq e h=>?_
 refine cb h λi g=>?_
 exact .inl (aC _ _ (by rw[mK e,of_decide_eq_true i]) g)
theorem Hb (h:okE ns (.not a) ex=true):(∃ x p,ex = .UnaryOp .Not x p/\okE ns a x=true)\/False:=by
 refine aj h λq e h=>?_
 refine cb h λi g=>?_
 exact .inl (aC _ _ (by rw[mK e,of_decide_eq_true i]) g)
theorem Id (h:okE ns (.cmp o a b) ex=true):(∃ l op r p,ex = .Compare l [op] [r] p/\(opC o op&&okE ns a l&&okE ns b r)=true)\/False:=by
 refine aj h λq e h=>?_
 refine aj h λop i h=>?_
 refine aj h λr g h=>?_
 exact .inl (dY _ op r _ (by rw[xj e,bg i,bg g]) h)
noncomputable def okA' (ns:List (Str×NameKind)) (b:E) (vs:List Expr):Bool:=match bX vs with | some u=>okE ns b u | none=>okA ns b vs
noncomputable def okO' (ns:List (Str×NameKind)) (b:E) (vs:List Expr):Bool:=match bX vs with | some u=>okE ns b u | none=>okO ns b vs
theorem Iv (h:okE ns (.and a b) ex=true):(∃ v vs p,ex = .BoolOp .And (v::vs) p/\(okE ns a v&&okA' ns b vs)=true)\/False:=by
 refine aj h λq e h=>?_
 refine cb h λi g=>?_
 refine aj g λv j h=>?_
 exact .inl (cz _ _ _ (by rw[nS e,of_decide_eq_true i,cJ j]) h)
theorem J7 (h:okE ns (.or a b) ex=true):(∃ v vs p,ex = .BoolOp .Or (v::vs) p/\(okE ns a v&&okO' ns b vs)=true)\/False:=by
 refine aj h λq e h=>?_
 refine cb h λi g=>?_
 refine aj g λv j h=>?_
 exact .inl (cz _ _ _ (by rw[nS e,of_decide_eq_true i,cJ j]) h)
theorem i_A (h:okA ns (.and a b) xs=true):(∃ v vs,xs=v::vs/\(okE ns a v&&okA' ns b vs)=true)\/False:=by
 refine aj h λq e h=>?_
 exact .inl (aC _ _ (cJ e) h)
theorem i_O (h:okO ns (.or a b) xs=true):(∃ v vs,xs=v::vs/\(okE ns a v&&okO' ns b vs)=true)\/False:=by
 refine aj h λq e h=>?_
 exact .inl (aC _ _ (cJ e) h)
theorem BQ (h:okE ns (.list es) ex=true):(∃ xs p,ex = .List xs p/\(decide (xs.length<1000)&&dk ns es xs)=true)\/False:=by
 refine aj h λq e h=>?_
 exact .inl (aC _ _ (tL e) h)
theorem EN (h:okE ns (.tup es) ex=true):(∃ xs k p,ex = .Tuple xs k p/\(decide (xs.length<1000)&&dk ns es xs)=true)\/False:=by
 refine aj h λq e h=>?_
 exact .inl (cz _ _ _ (xx e) h)
theorem BL (h:okE ns .edic ex=true):(∃ p,ex = .Dict [] [] p/\True)\/False:=by
 refine aj h λq e h=>?_
 refine cb h λi g=>?_
 refine bK i λuu k=>?_
 refine bK g λuu j=>?_
 exact .inl (ah _ (by rw[vo e,ce k,ce j]) trivial)
theorem uB (h:okE ns (.comp a x it) ex=true):(∃ e t pt i sc p,ex = .ListComp e [⟨.Name t pt,i,[],0⟩] sc p/\(t==Str.ofString x&&gH ns sc x&&gu ns it i&&okE (fg ns sc.names) a e)=true)\/False:=by
 refine aj h λq e h=>?_
 refine aj h λuu g h=>?_
 exact .inl (yw _ _ _ _ _ _ (by rw[m7 e,ce g]) h)
theorem pR (h:okE ns (.compif a x it c) ex=true):(∃ e t pt i f sc p,ex = .ListComp e [⟨.Name t pt,i,[f],0⟩] sc p/\(t==Str.ofString x&&gH ns sc x&&gu ns it i&&okE (fg ns sc.names) c f&&okE (fg ns sc.names) a e)=true)\/False:=by
 refine aj h λq e h=>?_
 refine aj h λuu g h=>?_
 exact .inl (jK _ _ _ _ _ _ _ (by rw[m7 e,bg g]) h)
theorem DN (h:okE ns (.sub a b) ex=true):(∃ v s p,ex = .Subscript v s p/\(okE ns a v&&okE ns b s)=true)\/False:=by
 refine aj h λq e h=>?_
 exact .inl (cz _ _ _ (ej e) h)
theorem dy (h:o.isNone=true):o=none:=by cases o with | none=>rfl | some=>exact nF h
theorem IA (h:okE ns (.slo a b) ex=true):(∃ v l p pos,ex = .Subscript v (.Slice (some l) none none p) pos/\(okE ns a v&&okE ns b l)=true)\/False:=by
 refine aj h λq e h=>?_
 refine aj h λl m h=>?_
 refine cb h λk j=>?_
 refine cb k λi g=>?_
 exact .inl (dY _ l _ _ (by rw[mO e,m,dy i,dy g]) j)
theorem DG (h:okE ns (.shi a b) ex=true):(∃ v l p pos,ex = .Subscript v (.Slice none (some l) none p) pos/\(okE ns a v&&okE ns b l)=true)\/False:=by
 refine aj h λq e h=>?_
 refine aj h λl m h=>?_
 refine cb h λk j=>?_
 refine cb k λi g=>?_
 exact .inl (dY _ l _ _ (by rw[mO e,m,dy i,dy g]) j)
theorem F5 (h:okE ns (.rev a) ex=true):(∃ v i n1 p1 p2 p pos,ex = .Subscript v (.Slice none none (some (.UnaryOp .USub (.Constant (.int i) n1 p1) p2)) p) pos/\(i==1&&okE ns a v)=true)\/False:=by
 refine aj h λq e h=>?_
 refine aj h λl y h=>?_
 refine cb h λo n=>?_
 refine cb o λm k=>?_
 refine aj n λu x h=>?_
 refine cb h λj g=>?_
 refine aj g λc t h=>?_
 refine aj h λi r h=>?_
 exact .inl (jK _ i _ _ _ _ _ (by rw[mO e,y,dy m,dy k,mK x,of_decide_eq_true j,cN t,oN r]) h)
theorem zn (h:okE ns (.bi1 f a) ex=true):(∃ id p x pos,ex = .Call (.Name id p) [x] [] pos/\(id==Str.ofString (b1n f)&&cU ns (b1n f)&&okE ns a x)=true)\/False:=by
 refine aj h λq e h=>?_
 refine aj h λx g h=>?_
 exact .inl (dY _ _ x _ (by rw[gW e,bg g]) h)
theorem Ht (h:okE ns (.isi a t) ex=true):(∃ id p x c pc pos,ex = .Call (.Name id p) [x,.Name c pc] [] pos/\(id==Str.ofString "isinstance" && cU ns "isinstance" && okE ns a x&&c==Str.ofString t&&cU ns t&&aX t)=true)\/False:=by
 refine aj h λq e h=>?_
 refine aj h λx i h=>?_
 refine aj h λc g h=>?_
 exact .inl (yw _ _ x.1 c.1 c.2 _ (by rw[gW e,kR i,a6 g]) h)
theorem uo (h:okE ns (.call f es) ex=true):(∃ id p xs pos,ex = .Call (.Name id p) xs [] pos/\(id==Str.ofString f&&cU ns f&&aX f && !decide (f∈methNames) && !decide (f∈aO) && !xs.isEmpty&&decide (xs.length<20)&&dk ns es xs)=true)\/False:=by
 refine aj h λq e h=>?_
 exact .inl (dY _ _ _ _ (gW e) h)
theorem BX (h:okE ns (.attr a n) ex=true):(∃ v p,ex = .Attribute v (Str.ofString n) p/\n∈fieldNames/\lT a=true/\okE ns a v=true)\/False:=by
 refine aj h λq e h=>?_
 simp only[and_eq_true,beq_iff_eq,decide_eq_true_eq] at h
 exact .inl (be q.1 q.2.2 (by rw[gi e,h.1.1.1]) h.1.1.2 h.1.2 h.2)
theorem BS (h:okE ns (.meth a m es) ex=true):(∃ v p xs pos,ex = .Call (.Attribute v (Str.ofString m) p) xs [] pos/\(p.endLine==pos.line)=true/\m∈methNames/\xs.isEmpty=false/\xs.length<20/\lT a=true/\okE ns a v=true/\dk ns es xs=true)\/False:=by
 refine aj h λq e h=>?_
 refine aj h λuu e1 h=>?_
 refine aj h λf e2 h=>?_
 simp only[and_eq_true,beq_iff_eq,decide_eq_true_eq,Bool.not_eq_true'] at h
 refine ae (h) λn o=>?_
 clear h
 refine ae (n) λl r=>?_
 clear n
 refine ae (l) λk t=>?_
 clear l
 refine ae (k) λj u=>?_
 clear k
 refine ae (j) λi x=>?_
 clear j
 refine ae (i) λg y=>?_
 clear i
 refine ae (g) λh1 z=>?_
 clear g
 exact .inl (pj f.1 f.2.2 q.2.1 q.2.2.2 (by rw[dS e,ce e1,gi e2,h1]) (beq_iff_eq.mpr z) y x u t r o)
theorem tG (h:dk ns .nil xs=true):(xs=[]/\True)\/False:=by
 refine bK (show (dI xs).isSome=true from h) λuu e=>?_
 exact .inl ⟨ce e,trivial⟩
theorem oP (h:dk ns (.cons a es) xs=true):(∃ x ys,xs=x::ys/\(okE ns a x&&dk ns es ys)=true)\/False:=by
 refine aj h λq e h=>?_
 exact .inl (aC _ _ (cJ e) h)
theorem La (h:gu ns (.r1 a) ex=true):(∃ id p x pos,ex = .Call (.Name id p) [x] [] pos/\(id==Str.ofString "range" && cU ns "range" && okE ns a x)=true)\/False:=by
 refine aj h λq e h=>?_
 refine aj h λx g h=>?_
 exact .inl (dY _ _ x _ (by rw[gW e,bg g]) h)
theorem K8 (h:gu ns (.r2 a b) ex=true):(∃ id p x y pos,ex = .Call (.Name id p) [x,y] [] pos/\(id==Str.ofString "range" && cU ns "range" && okE ns a x&&okE ns b y)=true)\/False:=by
 refine aj h λq e h=>?_
 refine aj h λx g h=>?_
 exact .inl (tb _ _ x.1 x.2 _ (by rw[gW e,kR g]) h)
end
noncomputable def bnames:List String:=["len", "list", "tuple", "sorted", "max", "min", "sum", "range", "isinstance", "int", "bool", "str"]
noncomputable def bmV:List Value:=[.type "ValueError", .type "Exception", .type "BaseException", .type "object"]
noncomputable def bD (ns:List (Str×NameKind)) (x:String):Bool:=varK ns x&&aX x&&(ns.lookup (Str.ofString x)==some .local||ns.lookup (Str.ofString x)==some .cell)
structure Ps where
 tag:Nat:=0
 e1:Expr:=default
 e2:Expr:=default
 es:List Expr:=[]
 o1:Option Expr:=none
 o2:Option Expr:=none
 s1:List Stmt:=[]
 s2:List Stmt:=[]
 s3:List Stmt:=[]
 hs:List ExceptHandler:=[]
 pos:Pos:=default
noncomputable def ps:Stmt->Ps
 | .Assign x0 x1 x2=>{tag:=1,es:=x0,e1:=x1,pos:=x2 }
 | .Expr x0 x1=>{tag:=2,e1:=x0,pos:=x1 }
 | .Return x0 x1=>{tag:=3,o1:=x0,pos:=x1 }
 | .If x0 x1 x2 x3=>{tag:=4,e1:=x0,s1:=x1,s2:=x2,pos:=x3 }
 | .For x0 x1 x2 x3 x4=>{tag:=5,e1:=x0,e2:=x1,s1:=x2,s2:=x3,pos:=x4 }
 | .While x0 x1 x2 x3=>{tag:=6,e1:=x0,s1:=x1,s2:=x2,pos:=x3 }
 | .Raise x0 x1 x2=>{tag:=7,o1:=x0,o2:=x1,pos:=x2 }
 | .Try x0 x1 x2 x3 x4=>{tag:=8,s1:=x0,hs:=x1,s2:=x2,s3:=x3,pos:=x4 }
 | _=>{}
noncomputable def psB (n:Nat) (p:Ps):Stmt:=match n with
 | 1=>.Assign p.es p.e1 p.pos
 | 2=>.Expr p.e1 p.pos
 | 3=>.Return p.o1 p.pos
 | 4=>.If p.e1 p.s1 p.s2 p.pos
 | 5=>.For p.e1 p.e2 p.s1 p.s2 p.pos
 | 6=>.While p.e1 p.s1 p.s2 p.pos
 | 7=>.Raise p.o1 p.o2 p.pos
 | 8=>.Try p.s1 p.hs p.s2 p.s3 p.pos
 | _=>default
theorem A4 (e:Stmt):(ps e).tag=0\/psB (ps e).tag (ps e)=e:=by cases e<;>first | exact .inr rfl | exact .inl rfl
theorem fJ (hn:n≠0) (h:(ps e).tag=n):e=psB n (ps e):=by
 rcases A4 e with q | q
 ·exact absurd (h.symm.trans q) hn
 ·rw[h] at q; exact q.symm
noncomputable def iq:List α->Option (α×List α)
 | []=>none
 | a::l=>some (a,l)
theorem dN {α:Type}{l:List α}{q:α×List α}(h:iq l=some q):l=q.1::q.2:=by
 cases l with
 | nil=>exact nN h
 | cons a l=>exact Option.some.inj h▸rfl
noncomputable def xV (s:Stmt):Option Expr:=if (ps s).tag=7/\(ps s).o2.isNone=true then (ps s).o1 else none
theorem wP (h:xV s=some e):∃ p,s = .Raise (some e) none p:=by
 unfold xV at h
 by_cases c:(ps s).tag=7/\(ps s).o2.isNone=true
 ·rw[if_pos c] at h
  refine ⟨(ps s).pos,(fJ (by decide) c.1).trans ?_⟩
  show Stmt.Raise _ _ _=_
  rw[h,isNone_iff_eq_none.mp c.2]
 ·rw[if_neg c] at h; exact nN h
noncomputable def v4 (s:Stmt):Option (Stmt×ExceptHandler×List ExceptHandler):=if (ps s).tag=8/\(ps s).s2.isEmpty=true/\(ps s).s3.isEmpty=true then (iq (ps s).s1).bind λb=>if b.2.isEmpty=true then (iq (ps s).hs).map λq=>(b.1,q.1,q.2) else none else none
theorem wq (h:v4 s=some q):∃ p,s = .Try [q.1] (q.2.1::q.2.2) [] [] p:=by
 unfold v4 at h
 by_cases c:(ps s).tag=8/\(ps s).s2.isEmpty=true/\(ps s).s3.isEmpty=true
 ·rw[if_pos c] at h
  obtain ⟨b,i,h⟩:=bind_eq_some_iff.mp h
  by_cases d:b.2.isEmpty=true
  ·rw[if_pos d] at h
   obtain ⟨r,g,e⟩:=map_eq_some_iff.mp h
   refine ⟨(ps s).pos,(fJ (by decide) c.1).trans ?_⟩
   show Stmt.Try _ _ _ _ _=_
   rw[dN i,dN g,isEmpty_iff.mp d,isEmpty_iff.mp c.2.1,isEmpty_iff.mp c.2.2,<- e]
  ·rw[if_neg d] at h; exact nN h
 ·rw[if_neg c] at h; exact nN h
noncomputable def dH0:ExceptHandler->Option Expr×Option Str×List Stmt×Pos
 | .ExceptHandler a b c p=>(a,b,c,p)
noncomputable def xo (s:ExceptHandler):Option (Expr×Stmt×List Stmt):=if (dH0 s).2.1.isNone=true then (dH0 s).1.bind λt=>(iq (dH0 s).2.2.1).map λq=>(t,q.1,q.2) else none
theorem wl (h:xo s=some q):∃ p,s = .ExceptHandler (some q.1) none (q.2.1::q.2.2) p:=by
 unfold xo at h
 by_cases c:(dH0 s).2.1.isNone=true
 ·rw[if_pos c] at h
  obtain ⟨t,i,h⟩:=bind_eq_some_iff.mp h
  obtain ⟨r,j,e⟩:=map_eq_some_iff.mp h
  have g:s = .ExceptHandler (dH0 s).1 (dH0 s).2.1 (dH0 s).2.2.1 (dH0 s).2.2.2:=by cases s; rfl
  refine ⟨(dH0 s).2.2.2,g.trans ?_⟩
  rw[i,dN j,isNone_iff_eq_none.mp c,<- e]
 ·rw[if_neg c] at h; exact nN h
noncomputable def mn (s:Stmt):Option (List Expr×Expr×Pos):=ifN (ps s).tag 1 ((ps s).es,(ps s).e1,(ps s).pos)
noncomputable def xt (s:Stmt):Option (Expr×Pos):=ifN (ps s).tag 2 ((ps s).e1,(ps s).pos)
noncomputable def sC (s:Stmt):Option (Option Expr×Pos):=ifN (ps s).tag 3 ((ps s).o1,(ps s).pos)
noncomputable def sIf (s:Stmt):Option (Expr×List Stmt×List Stmt×Pos):=ifN (ps s).tag 4 ((ps s).e1,(ps s).s1,(ps s).s2,(ps s).pos)
noncomputable def Cw (s:Stmt):Option (Expr×Expr×List Stmt×List Stmt×Pos):=ifN (ps s).tag 5 ((ps s).e1,(ps s).e2,(ps s).s1,(ps s).s2,(ps s).pos)
theorem kG (h:mn s=some q):s = .Assign q.1 q.2.1 q.2.2:=by
 refine bT h λi g=>?_
 (clear h; subst g)
 exact fJ (by decide) i
theorem qv (h:xt s=some q):s = .Expr q.1 q.2:=by
 refine bT h λi g=>?_
 (clear h; subst g)
 exact fJ (by decide) i
theorem qd (h:sC s=some q):s = .Return q.1 q.2:=by
 refine bT h λi g=>?_
 (clear h; subst g)
 exact fJ (by decide) i
theorem Bo (h:sIf s=some q):s = .If q.1 q.2.1 q.2.2.1 q.2.2.2:=by
 refine bT h λi g=>?_
 (clear h; subst g)
 exact fJ (by decide) i
theorem vV (h:Cw s=some q):s = .For q.1 q.2.1 q.2.2.1 q.2.2.2.1 q.2.2.2.2:=by
 refine bT h λi g=>?_
 (clear h; subst g)
 exact fJ (by decide) i
noncomputable def mJ (s:Stmt):Option (Expr×Str×Pos×List Expr×Pos×Pos):=(xt s).bind λq=>(jS q.1).bind λc=>(dI c.2.2.1).bind λuu=>(lA c.1).map λa=>(a.1,a.2.1,a.2.2,c.2.1,c.2.2.2,q.2)
theorem iH (h:mJ s=some q):s = .Expr (.Call (.Attribute q.1 q.2.1 q.2.2.1) q.2.2.2.1 [] q.2.2.2.2.1) q.2.2.2.2.2:=by
 refine bk h λc k h=>?_
 refine bk h λu j h=>?_
 refine bk h λuu i h=>?_
 refine bG h λn g h=>?_
 subst h
 rw[qv k,dS j,ce i,gi g]
noncomputable def okP (ns:List (Str×NameKind)) (x:String):Es->Expr->Bool
 | .nil,ex=>ao (cj ex) λn=>n.1==Str.ofString x&&bD ns x
 | .cons i r,ex=>ao (mH ex) λq=>okP ns x r q.1&&okE ns i q.2.1
noncomputable def Kf (ns:List (Str×NameKind)):H1->Stmt->Bool
 | .asg x e,st=>ao (mn st) λq=>ao (bX q.1) λt=>ao (cj t) λn=>n.1==Str.ofString x&&bD ns x&&okE ns e q.2.1
 | .ret e,st=>ao (sC st) λq=>ao q.1 λv=>okE ns e v
noncomputable def xQ (ns:List (Str×NameKind)):List H1->List Stmt->Bool
 | [],st=>(dI st).isSome
 | s::r,st=>ao (gj st) λq=>Kf ns s q.1&&xQ ns r q.2
noncomputable def JH (ns:List (Str×NameKind)) (p:String×List H1) (h:ExceptHandler):Bool:=ao (xo h) λq=>ao (cj q.1) λn=>n.1==Str.ofString p.1&&cU ns p.1&&aX p.1&&xQ ns p.2 (q.2.1::q.2.2)
noncomputable def sN (ns:List (Str×NameKind)):List (String×List H1)->List ExceptHandler->Bool
 | [],[]=>true
 | p::r,h::hs=>JH ns p h&&sN ns r hs
 | _,_=>false
mutual
noncomputable def okS (ns:List (Str×NameKind)):S->Stmt->Bool
 | .assign x e,st=>ao (mn st) λq=>ao (bX q.1) λt=>ao (cj t) λn=>n.1==Str.ofString x&&bD ns x&&okE ns e q.2.1
 | .setitem x e,st=>ao (mn st) λq=>ao (bX q.1) λt=>ao (mH t) λu=>ao (cj u.1) λn=>ao (eX q.2.1) λc=>ao (rQ c.1) λb=>b&&(n.1==Str.ofString x&&bD ns x&&okE ns e u.2.1)
 | .append x e,st=>ao (mJ st) λq=>ao (cj q.1) λn=>ao (bX q.2.2.2.1) λv=>q.2.1==Str.ofString "append" && (q.2.2.1.endLine==q.2.2.2.2.1.line)&&n.1==Str.ofString x&&bD ns x&&okE ns e v
 | .appM x y,st=>ao (mJ st) λq=>ao (cj q.1) λn=>ao (bX q.2.2.2.1) λv=>q.2.1==Str.ofString "append" && (q.2.2.1.endLine==q.2.2.2.2.1.line)&&n.1==Str.ofString x&&bD ns x&&okE ns (.name y) v
 | .appendAt x is e,st=>ao (mJ st) λq=>ao (mH q.1) λuu=>ao (bX q.2.2.2.1) λv=>q.2.1==Str.ofString "append" && (q.2.2.1.endLine==q.2.2.2.2.1.line)&&okP ns x is q.1&&okE ns e v
 | .insert x i e,st=>ao (mJ st) λq=>ao (cj q.1) λn=>ao (ss q.2.2.2.1) λv=>q.2.1==Str.ofString "insert" && (q.2.2.1.endLine==q.2.2.2.2.1.line)&&n.1==Str.ofString x&&bD ns x&&okE ns i v.1&&okE ns e v.2
 | .pop x i,st=>ao (mJ st) λq=>ao (cj q.1) λn=>ao (bX q.2.2.2.1) λv=>q.2.1==Str.ofString "pop" && (q.2.2.1.endLine==q.2.2.2.2.1.line)&&n.1==Str.ofString x&&bD ns x&&okE ns i v
 | .expr e,st=>ao (xt st) λq=>(jS q.1).isSome&&okE ns e q.1
 | .ret e,st=>ao (sC st) λq=>ao q.1 λv=>okE ns e v
 | .retn x,st=>ao (sC st) λq=>ao q.1 λv=>ao (cj v) λn=>n.1==Str.ofString x&&bD ns x
 | .ite c a b,st=>ao (sIf st) λq=>okE ns c q.1&&cV ns a q.2.1&&cV ns b q.2.2.1
 | .for1 x it b,st=>ao (Cw st) λq=>ao (dI q.2.2.2.1) λuu=>ao (cj q.1) λn=>n.1==Str.ofString x&&bD ns x&&gu ns it q.2.1&&cV ns b q.2.2.1
 | .raise c,st=>ao (xV st) λq=>ao (jS q) λa=>ao (dI a.2.2.1) λuu=>ao (cj a.1) λn=>ao (bX a.2.1) λm=>ao (eX m) λk=>ao (xr k.1) λt=>n.1==Str.ofString c&&cU ns c&&aX c&&decide (t.length<=1000)
 | .tryS b hs,st=>ao (v4 st) λq=>okS ns b q.1&&sN ns hs (q.2.1::q.2.2)
 | .bad,_=>false
termination_by structural s=>s
noncomputable def cV (ns:List (Str×NameKind)):Ss->List Stmt->Bool
 | .nil,st=>(dI st).isSome
 | .cons s r,st=>ao (gj st) λq=>okS ns s q.1&&cV ns r q.2
termination_by structural s=>s
end
section
variable {ns:List (Str×NameKind)}{st:Stmt}{x:String}{e i c:E}{a b:Ss}
theorem jw (h:okS ns (.assign x e) st=true):(∃ t pt v p,st = .Assign [.Name t pt] v p/\(t==Str.ofString x&&bD ns x&&okE ns e v)=true)\/False:=by
 refine aj h λq j h=>?_
 refine aj h λt i h=>?_
 refine aj h λn g h=>?_
 exact .inl (dY _ _ _ _ (by rw[kG j,bg i,a6 g]) h)
theorem tq (h:okS ns (.setitem x e) st=true):(∃ t pt i p1 k p2 p,st = .Assign [.Subscript (.Name t pt) i p1] (.Constant (.bool true) k p2) p/\(t==Str.ofString x&&bD ns x&&okE ns e i)=true)\/False:=by
 refine aj h λq v h=>?_
 refine aj h λt r h=>?_
 refine aj h λu o h=>?_
 refine aj h λn m h=>?_
 refine aj h λc l h=>?_
 refine aj h λb j h=>?_
 refine cb h λg h=>?_
 subst g
 exact .inl (jK _ _ _ _ _ _ _ (by rw[kG v,bg r,ej o,a6 m,cN l,nj j]) h)
theorem AY (h:okS ns (.appM x y) st=true):okS ns (.append x (.name y)) st=true:=h
theorem mT (h:okS ns (.append x e) st=true):(∃ t pt m ap v pos sp,st = .Expr (.Call (.Attribute (.Name t pt) m ap) [v] [] pos) sp/\(m==Str.ofString "append" && (ap.endLine==pos.line)&&t==Str.ofString x&&bD ns x&&okE ns e v)=true)\/False:=by
 refine aj h λq j h=>?_
 refine aj h λn i h=>?_
 refine aj h λv g h=>?_
 exact .inl (jK _ _ _ _ v _ _ (by rw[iH j,a6 i,bg g]) h)
theorem qC (h:okS ns (.appendAt x is e) st=true):(∃ y i p m ap v pos sp,st = .Expr (.Call (.Attribute (.Subscript y i p) m ap) [v] [] pos) sp/\(m==Str.ofString "append" && (ap.endLine==pos.line)&&okP ns x is (.Subscript y i p)&&okE ns e v)=true)\/False:=by
 refine aj h λq k h=>?_
 refine aj h λn g h=>?_
 refine aj h λv j h=>?_
 rw[ej g] at h
 exact .inl (uU _ _ _ _ _ v _ _ (by rw[iH k,ej g,bg j]) h)
theorem CA (h:okS ns (.pop x e) st=true):(∃ t pt m ap v pos sp,st = .Expr (.Call (.Attribute (.Name t pt) m ap) [v] [] pos) sp/\(m==Str.ofString "pop" && (ap.endLine==pos.line)&&t==Str.ofString x&&bD ns x&&okE ns e v)=true)\/False:=by
 refine aj h λq j h=>?_
 refine aj h λn i h=>?_
 refine aj h λv g h=>?_
 exact .inl (jK _ _ _ _ v _ _ (by rw[iH j,a6 i,bg g]) h)
theorem um (h:okS ns (.insert x i e) st=true):(∃ t pt m ap u v pos sp,st = .Expr (.Call (.Attribute (.Name t pt) m ap) [u,v] [] pos) sp/\(m==Str.ofString "insert" && (ap.endLine==pos.line)&&t==Str.ofString x&&bD ns x&&okE ns i u&&okE ns e v)=true)\/False:=by
 refine aj h λq k h=>?_
 refine aj h λn j h=>?_
 refine aj h λv g h=>?_
 exact .inl (uU _ _ _ _ v.1 v.2 _ _ (by rw[iH k,a6 j,kR g]) h)
theorem l7 (h:okS ns (.expr e) st=true):(∃ f xs ks p sp,st = .Expr (.Call f xs ks p) sp/\okE ns e (.Call f xs ks p)=true)\/False:=by
 refine aj h λq k h=>?_
 refine cb h λj g=>?_
 refine bK j λc i=>?_
 rw[dS i] at g
 exact .inl (tb _ _ _ _ _ (by rw[qv k,dS i]) g)
theorem tP (h:okS ns (.ret e) st=true):(∃ v p,st = .Return (some v) p/\okE ns e v=true)\/False:=by
 refine aj h λq i h=>?_
 refine aj h λv g h=>?_
 exact .inl (aC v _ (by rw[qd i,g]) h)
theorem AD (h:okS ns (.retn x) st=true):(∃ t pt p,st = .Return (some (.Name t pt)) p/\(t==Str.ofString x&&bD ns x)=true)\/False:=by
 refine aj h λq j h=>?_
 refine aj h λv i h=>?_
 refine aj h λn g h=>?_
 exact .inl (cz _ _ _ (by rw[qd j,i,a6 g]) h)
theorem tT (h:okS ns (.ite c a b) st=true):(∃ t u v p,st = .If t u v p/\(okE ns c t&&cV ns a u&&cV ns b v)=true)\/False:=by
 refine aj h λq g h=>?_
 exact .inl (dY _ _ _ _ (Bo g) h)
theorem qW (h:okS ns (.for1 x it b) st=true):(∃ t pt i u p,st = .For (.Name t pt) i u [] p/\(t==Str.ofString x&&bD ns x&&gu ns it i&&cV ns b u)=true)\/False:=by
 refine aj h λq k h=>?_
 refine aj h λuu j h=>?_
 refine aj h λn g h=>?_
 exact .inl (tb _ _ _ _ _ (by rw[vV k,ce j,a6 g]) h)
theorem wO {c:String}(h:okS ns (.raise c) st=true):(∃ n p t k p2 cp pos,st = .Raise (some (.Call (.Name n p) [.Constant (.str t) k p2] [] cp)) none pos/\(n==Str.ofString c&&cU ns c&&aX c&&decide (t.length<=1000))=true)\/False:=by
 refine aj h λq u h=>?_
 refine aj h λa r h=>?_
 refine aj h λuu o h=>?_
 refine aj h λn l h=>?_
 refine aj h λm j h=>?_
 refine aj h λk i h=>?_
 refine aj h λt g h=>?_
 refine ak (wP u) λp v=>?_
 exact .inl (jK n.1 n.2 t k.2.1 k.2.2 a.2.2.2 p (by rw[v,dS r,ce o,a6 l,bg j,cN i,qm g]) h)
theorem Bu {b:S}{hs:List (String×List H1)}(h:okS ns (.tryS b hs) st=true):∃ t d ds p,st = .Try [t] (d::ds) [] [] p/\okS ns b t=true/\sN ns hs (d::ds)=true:=by
 refine aj h λq i h=>?_
 refine ak (wq i) λp e=>?_
 have g:=and_eq_true_iff.mp h
 exact (dY _ _ _ p e g)
theorem CG (h:cV ns .nil l=true):(l=[]/\True)\/False:=by
 refine bK (show (dI l).isSome=true from h) λuu e=>?_
 exact .inl ⟨ce e,trivial⟩
theorem qZ (h:cV ns (.cons s a) l=true):(∃ t u,l=t::u/\(okS ns s t&&cV ns a u)=true)\/False:=by
 refine aj h λq g h=>?_
 exact .inl (aC _ _ (cJ g) h)
end
structure FnT where
 params:List String
 body:List Stmt
 scope:Scope
 lam:Bool
noncomputable def okF (ft:FnT) (f:Fn):Bool:=decide (ft.params=f.params)&&f.params.all (bD ft.scope.names)&&decide f.params.Nodup&&cV ft.scope.names f.body ft.body&&ft.scope.names.all λp=>p.2 != .free
noncomputable def eF (ns:List (Str×NameKind)) (n:String) (e:E) (st:Stmt):Bool:=ao (mn st) λq=>ao (bX q.1) λt=>ao (lA t) λu=>ao (cj u.1) λm=>m.1==Str.ofString "self" && u.2.1==Str.ofString n&&okE ns e q.2.1
theorem kO {ns:List (Str×NameKind)}{n:String}{e:E}{st:Stmt}(h:eF ns n e st=true):∃ p1 p2 v p,st = .Assign [.Attribute (.Name (Str.ofString "self") p1) (Str.ofString n) p2] v p/\okE ns e v=true:=by
 refine aj h λq k h=>?_
 refine aj h λt j h=>?_
 refine aj h λu i h=>?_
 refine aj h λm g h=>?_
 simp only[and_eq_true,beq_iff_eq] at h
 refine (dY m.2 u.2.2 q.2.1 q.2.2 ?_ h.2)
 rw[kG k,bg j,gi i,a6 g,h.1.1,h.1.2]
noncomputable def eI:E:=.bi1 .len (.sub (.name "full") (.int 0))
noncomputable def ok3 (ns:List (Str×NameKind)) (l:List Stmt):Bool:=ao (iq l) λp=>ao (iq p.2) λq=>ao (iq q.2) λr=>r.2.isEmpty&&(eF ns "count" (.name "count") p.1&&(eF ns "full" (.name "full") q.1&&eF ns "size" eI r.1))
theorem AL (h:ok3 ns l=true):∃ a b c,l=[a,b,c]/\eF ns "count" (.name "count") a=true/\eF ns "full" (.name "full") b=true/\eF ns "size" eI c=true:=by
 obtain ⟨p,m,h⟩:=iJ h
 obtain ⟨q,k,h⟩:=iJ h
 obtain ⟨r,j,h⟩:=iJ h
 have e:=bA h
 have i:=bA e.2
 have g:=bA i.2
 refine (gf p.1 q.1 r.1 ?_ i.1 g.1 g.2)
 rw[dN m,dN k,dN j,isEmpty_iff.mp e.1]
noncomputable def okI (ft:FnT) (f:Fn):Bool:=decide (ft.params = "self" :: f.params)&&ft.params.all (bD ft.scope.names)&&decide ft.params.Nodup&&cV ft.scope.names f.body (ft.body.take (ft.body.length-3))&&ok3 ft.scope.names (ft.body.drop (ft.body.length-3))&&decide ("self" ∉ ig f.body)&&(ft.scope.names.all λp=>p.2 != .free) && !ft.lam
structure Soft where
 tab:Addr->Prop
 old:Addr->Prop
 rule:Addr
 exc:String->Addr
 excN:List String
structure Gl where
 prog:Program
 w:World
 SF:Soft
noncomputable def kZ (h:Heap) (c:String):Addr:=match h.clsAt mainGlobals (Str.ofString c) with
 | some x=>x.1
 | none=>0
noncomputable def Bw (h:Heap) (c:String):Option (List Value):=(h.clsAt mainGlobals (Str.ofString c)).map λx=>x.2.2.mro
noncomputable def HO (h:Heap) (c:String):List Value:=if c = "PickError" then bmV else .ref (kZ h "PickError")::bmV
noncomputable def qu (cs:List String) (h:Heap):Bool:=h.isNs mainGlobals&&(cs.all λc=>Bw h c==some (.ref (kZ h c)::HO h c))&&(cs.all λc=>cs.all λg=>kZ h c != kZ h g||c==g) &&
 match h.clsAt mainGlobals "Rule" with
 | some x=>h.isNs x.2.2.ns&&fieldNames.all λn=>(h.nsMap x.2.2.ns (Str.ofString n)).isNone
 | none=>false
noncomputable def gp (cs:List String) (h:Heap):Prop:=∃ mg,h.Ns mainGlobals mg/\∃ ad:String->Addr,(∀ c∈cs,∃ o cd,mg (Str.ofString c)=some (.ref (ad c))/\h.get? (ad c)=some o/\o.data = .cls cd/\cd.mro = .ref (ad c)::(if c = "PickError" then bmV else .ref (ad "PickError")::bmV)) /\
 (∀ c∈cs,∀ c'∈cs,ad c=ad c'->c=c')/\∃ C o cd mN,mg "Rule" = some (.ref C)/\h.get? C=some o/\o.data = .cls cd/\h.Ns cd.ns mN/\∀ n∈fieldNames,mN (Str.ofString n)=none
set_option tactic.hygienic true in
theorem z2 (e:qu cs h=true):gp cs h:=by
 unfold qu at e
 simp only[and_eq_true,all_eq_true] at e
 refine ae (e) λi j=>?_
 clear e
 refine ae (i) λg y=>?_
 clear i
 refine ae (g) λh1 z=>?_
 clear g
 refine ⟨h.nsMap mainGlobals,.of_isNs h1,kZ h,λc m=>?_,λc m c' l q=>?_,?_⟩
 ·have:=beq_iff_eq.mp (z c m)
  unfold Bw at this
  refine bG this λx k v=>?_
  obtain ⟨C,o,u⟩:=x
  refine aG (Heap.clsAt_spec k) λt r p=>?_
  have ea:kZ h c=C:=by unfold kZ; rw[k]
  rw[ea] at v ⊢
  exact ⟨o,u,t,r,p,v⟩
 ·have:=y c m c' l
  simp only[or_eq_true,bne_iff_ne,beq_iff_eq] at this
  exact this.resolve_left λn=>n q
 ·split at j
  ·rename_i x k
   obtain ⟨C,o,u⟩:=x
   refine aG (Heap.clsAt_spec k) λt r p=>?_
   simp only[and_eq_true,all_eq_true,isNone_iff_eq_none] at j
   exact ⟨C,o,u,_,t,r,p,.of_isNs j.1,j.2⟩
  ·exact nF j
noncomputable def JO (cs:List String):PySem.W.Hook:=⟨Bool,λs=>qu cs s.heap,λuu=>true,λuu h=>gp cs h,λuu uu e=>z2 e,λuu h h' x k=>af (x) λi m y=>aq (y) λad a1 a2 z=>HV (z) λC o g j b1 v u t r=>⟨i,m.keeps k,ad,λc l=>aA (a1 c l) λo g q p n=>⟨o,g,q,k _ _ p,n⟩,a2,C,o,g,j,b1,k _ _ v,u,t.keeps k,r⟩⟩
noncomputable def fR (a:Arguments) (ps:List String):Bool:=a.posonlyargs.isEmpty&&(a.args.map (·.arg)==ps.map Str.ofString)&&a.vararg.isNone&&a.kwonlyargs.isEmpty&&a.kwarg.isNone
noncomputable def fF (sc:Scope):Bool:=!sc.isCoroutine && !sc.isGenerator&&sc.kind == .function
noncomputable def fB (p:Program) (loose:List Str):Option ClsRec:=(plainsOf p loose).find? λc=>c.name==Str.ofString "Rule"
noncomputable def dP (p:Program) (loose:List Str) (m:String):Option MethRec:=(fB p loose).bind λc=>c.meths.find? λr=>r.name==Str.ofString m
noncomputable def g9 (p:Program) (loose:List Str) (f:String) (fn:Fn):Bool :=
 if f∈aO then specOf p (Str.ofString f)==some ("ValueError.__new__", bmV)
 else if f = "Rule" then ao (dP p loose "__init__") λr=>okI ⟨"self" :: fn.params,r.body,r.scope,false⟩ fn&&fR r.params ("self" :: fn.params)&&fF r.scope
 else if f∈methNames then ao (dP p loose f) λr=>okF ⟨fn.params,r.body,r.scope,false⟩ fn&&fR r.params fn.params&&fF r.scope
 else ao ((recsOf p).find? λd=>d.name==Str.ofString f) λd=>okF ⟨fn.params,d.body,d.scope,true⟩ fn&&fR d.params fn.params&&fF d.scope
noncomputable def lL (p:Program) (loose:List Str) (L:List (String×Fn)):Bool:=L.all λq=>g9 p loose q.1 q.2
noncomputable def bC (L:List (String×Fn)):List String:=(L.map (·.1)).filter λf=>decide (f∈aO)
noncomputable def xl (p:Program) (loose:List Str):Bool:=bnames.all λx=>!startupNames.contains (Str.ofString x) && !loose.contains (Str.ofString x) && !((recsOf p).map (·.name)).contains (Str.ofString x) && !((litsOf p).map (·.1)).contains (Str.ofString x) && !((clssOf p loose).map (·.name)).contains (Str.ofString x)
noncomputable def fG (v:Option Value):Option Addr:=match v with
 | some (.ref a)=>some a
 | _=>none
noncomputable def pV (mg:Str->Option Value) (L:List (String×Fn)) (h:Heap):Soft:=⟨λP=>∃ c,h.TableAt c P #[],λb=>∃ o,h.get? b=some o,(fG (mg "Rule")).getD 0,λc=>(fG (mg (Str.ofString c))).getD 0,bC L⟩
noncomputable def pB (g:Gl):Prop:=∀ {p:Program}{loose:List Str}{mean:ExcName->Option Value}{mg mb:Str->Option Value}{L:List (String×Fn)}{s:Shared}{fn:Fn}{fa a:Addr}{n:Nat}{ns:List Int}{vs:List Value}{m:Mode}{Q:Value->Shared->Prop}{Er:Value->Shared->Prop},g.SF=pV mg L s.heap ->
  Top p loose mean mg mb s.heap->TopE p loose mg s.heap->gp (bC L) s.heap->lL p loose L=true->xl p loose=true->(fB p loose).isSome=true->(L.lookup "Rule").isSome=true->(bC L=[] \/ "PickError" ∈ bC L) ->
  L.lookup "law" = some fn->mg (Str.ofString "law")=some (.ref fa)->n<=50->ax (mkC L n) fn [.d (aa ns)] = .ok (.d (.bool true),m)->s.heap.get? a=some {cls:=.type "list", data:=.seq vs.toArray }->IntsAre vs ns->ns.length<=2^22 ->
  (∀ h' tk,OldK s.heap h'->Q (.bool true) {s with heap:=h',toks:=tk })->wpAny (model g.prog g.w) callerA (call (.ref fa) [.ref a]) Q Er s
noncomputable def gl0:Gl:=⟨default,⟨λ_ _=>0,{strHash:=λ_=>0,shareClass:=λ_=>0,mergeTok:=id,idOf:=λ_=>0,idOfShared:=λ_ _=>0,followText:=λ_=>false,idOfImm:=λ_=>0 }⟩,⟨λ_=>True,λ_=>True,0,λ_=>0,[]⟩⟩
noncomputable def gl:Gl:=@Classical.epsilon Gl ⟨gl0⟩ λg=>¬ pB g
theorem Cp (h:pB gl) (g:Gl):pB g:=by
 apply Classical.byContradiction
 intro n
 exact @Classical.epsilon_spec Gl (λg=>¬ pB g) ⟨g,n⟩ h
noncomputable def prog:Program:=gl.prog
noncomputable def w:World:=gl.w
noncomputable def SF:Soft:=gl.SF
noncomputable def Room (hb:Bool) (k:Nat) (A:Around):Prop:=(hb=false->A.handled=none)/\A.depth+2*k+(if hb then 1 else 4)<recursionLimit/\A.units+100*k+(if hb then 200 else 300)<cLine
noncomputable def tabO (ps:Array Value):Obj:={cls:=.none,data:=.fields ps }
noncomputable def CodesG (h:Heap) (ps:Array Value):Prop:=TriplesOk ps.toList/\∀ pos cv,codeAmong pos ps.toList=some cv->∃ c o vs q t,cv = .ref c/\h.get? c=some o/\o.cls = .type "code" /\ o.data = .fields vs/\vs[1]? = some (.str q t)
noncomputable def Stay (o:Obj):Prop:=(o.cls = .type "code" /\ ∃ fs,o.data = .fields fs)\/(o.cls = .type "tuple" /\ ∃ vs n,o.data = .seq vs n)
section
inductive Like (h h':Heap) (b:Addr) (o o':Obj):Prop
 | same:o' = o->Like h h' b o o'
 | tab (ps more:Array Value):SF.tab b->o=tabO ps->o' = tabO (ps++more)->(CodesG h ps->CodesG h' (ps++more))->Like h h' b o o'
 | frame (es:Array DictEntry) (ep:Nat):¬ SF.old b->o.cls = .type "frame" -> o.data = .dict es ep->o'.cls=o.cls->o'.data=o.data->o'.dict=o.dict->Like h h' b o o'
noncomputable def KG (G:Addr->Prop) (h h':Heap):Prop:=∀ b o,G b\/Stay o->h.get? b=some o->∃ o',h'.get? b=some o'/\Like h h' b o o'
noncomputable def hardB (o:Obj):Bool:=match o.cls with | .none=>false | .type n=>n != "frame" | _=>true
theorem Like.hard (l:Like h h' b o o') (hh:hardB o=true):o' = o:=by
 cases l with
 | same e=>exact e
 | tab ps more _ e _ _=>subst e; exact nF hh
 | frame _ _ _ e _ _ _ _=>unfold hardB at hh; rw[e] at hh; simp at hh
theorem Like.exact (l:Like h h' b o o') (h1:∀ fs,o.data≠.fields fs) (h2:∀ es ep,o.data≠.dict es ep):o' = o:=by
 cases l with
 | same e=>exact e
 | tab ps more _ e _ _=>(clear h2; subst e); exact absurd rfl (h1 ps)
 | frame es ep _ _ e _ _ _=>exact absurd e (h2 es ep)
theorem Like.cls (l:Like h h' b o o'):o'.cls=o.cls:=by
 cases l with
 | same e=>rw[e]
 | tab ps more _ e e' _=>rw[e,e']; rfl
 | frame _ _ _ _ _ e _ _=>exact e
theorem Like.data (l:Like h h' b o o') (hn:∀ fs,o.data≠.fields fs):o'.data=o.data:=by
 cases l with
 | same e=>rw[e]
 | tab ps more _ e e' _=>exact absurd (by rw[e]; rfl) (hn ps)
 | frame _ _ _ _ _ _ e _=>exact e
theorem Stay.hard (x:Stay o):hardB o=true:=by
 unfold hardB
 rcases x with x | x
 ·rw[x.1]; decide
 ·rw[x.1]; decide
section
theorem KG.of (k:∀ b o,G b\/Stay o->h.get? b=some o->h'.get? b=some o):KG G h h':=λb o g e=>(ah o (k b o g e) (.same rfl))
theorem KG.refl:KG G h h:=.of λuu uu uu e=>e
theorem KG.hard (k:KG G h h') (hb:G b\/Stay o) (e:h.get? b=some o) (hh:hardB o=true):h'.get? b=some o:=by
 refine af (k b o hb e) λi g l=>?_
 rw[g,l.hard hh]
theorem KG.stay (k:KG G h h') (e:h.get? b=some o) (x:Stay o):h'.get? b=some o:=k.hard (.inr x) e x.hard
theorem KG.codes (k:KG G h h') {ps:Array Value}(x:CodesG h ps):CodesG h' ps :=
 ⟨x.1,λg n m=>s7 (x.2 g n m) λc o l q t r p j i=>(tE c o l q t r (k.stay p (.inl (aB j (bV _ i.1)))) j i)⟩
theorem KG.trans (a:KG G h h') (b:KG G h' h''):KG G h h'':=λc o i e=>by
 refine af (a c o i e) λn p l=>?_
 have g:G c\/Stay n:=i.imp id λx=>by rw[l.hard x.hard]; exact x
 refine af (b c n g p) λj m k=>?_
 refine (ah j m ?_)
 cases l with
 | same e1=>
  (clear e i; subst e1)
  cases k with
  | same e2=>exact .same e2
  | tab ps more t1 t2 t3 t4=>exact .tab ps more t1 t2 t3 λx=>t4 (a.codes x)
  | frame es ep f1 f2 f3 f4 f5 f6=>exact .frame es ep f1 f2 f3 f4 f5 f6
 | tab ps more t1 t2 t3 t4=>
  (clear e i; subst t2 t3)
  cases k with
  | same e2=>exact .tab ps more t1 rfl e2 λx=>b.codes (t4 x)
  | tab ps' more' u1 u2 u3 u4=>
   have:ps' = ps++more:=by injection u2 with _ _ u; injection u with u; exact u.symm
   (clear u2; subst this)
   exact .tab ps (more++more') t1 rfl (by rw[u3,Array.append_assoc]) λx=>by rw[<- Array.append_assoc]; exact u4 (t4 x)
  | frame _ _ _ f2 _ _ _ _=>cases f2
 | frame es ep f1 f2 f0 f3 f4 f5=>
  cases k with
  | same e2=>(clear p g; subst e2); exact .frame es ep f1 f2 f0 f3 f4 f5
  | tab ps' more' u1 u2 u3 u4=>rw[f2,u2] at f3; cases f3
  | frame _ _ g1 g2 g0 g3 g4 g5=>exact .frame es ep f1 f2 f0 (g3.trans f3) (g4.trans f4) (g5.trans f5)
theorem KG.mono (k:KG G h h') (hg:∀ b,G' b->G b):KG G' h h':=λb o g e=>k b o (g.imp (hg b) id) e
end
theorem Stay.not_data (h1:∀ fs,o.data≠.fields fs) (h2:∀ vs n,o.data≠.seq vs n):¬ Stay o:=λx=>x.elim (λx=>let ⟨_,fs,e⟩:=x; h1 fs e) λx=>let ⟨_,vs,n,e⟩:=x; h2 vs n e
theorem Stay.not_list:¬ Stay ⟨.type "list", d,.seq vs n,x⟩:=λx=>x.elim (λx=>by simp at x) λx=>by simp at x
theorem Stay.not_dict (h:o.data = .dict es ep):¬ Stay o:=Stay.not_data (λuu q=>by rw[h] at q; cases q) λuu uu q=>by rw[h] at q; cases q
theorem Stay.not_cls (h1:o.cls≠.type "code") (h2:o.cls≠.type "tuple"):¬ Stay o:=λx=>x.elim (λx=>h1 x.1) λx=>h2 x.1
theorem KG.ofW {wr:List Addr}{h h':Heap}(k:∀ b o,b∉wr->h.get? b=some o->h'.get? b=some o) (n:∀ b∈wr,∀ o,h.get? b=some o->¬ Stay o):KG (λb=>b∉wr) h h' :=
 .of λb o i e=>k b o (λg=>i.elim (λx=>x g) (n b g o e)) e
theorem KG.same (hs:Heap.SameBut a h h') (hz:¬ G a) (hn:∀ o,h.get? a=some o->¬ Stay o):KG G h h' :=
 .of λb o g e=>hs.extBut b o (λq=>by (clear hs; subst q); exact g.elim hz (hn o e)) e
noncomputable abbrev K (h h':Heap):Prop:=KG (λuu=>True) h h'
section
theorem K.of (k:∀ b o,h.get? b=some o->h'.get? b=some o):K h h':=KG.of λb o _ e=>k b o e
theorem K.get (k:K h h') (e:h.get? b=some o) (hh:hardB o=true):h'.get? b=some o:=KG.hard k (.inl trivial) e hh
theorem K.step (a:K h h') (b:KG G h' h'') (hg:∀ b o,h.get? b=some o->G b):K h h'':=λc o _ e=>
 (KG.trans (KG.mono (G':=λb=>∃ o,h.get? b=some o) a λuu uu=>trivial) (KG.mono b λb ⟨o,e⟩=>hg b o e)) c o (.inl ⟨o,e⟩) e
theorem K.same (k:K h h') (hs:Heap.SameBut a h' h'') (ha:h.get? a=none) (hn:∀ o,h'.get? a=some o->¬ Stay o):K h h'' :=
 K.step k (G:=λb=>b≠a) (KG.same hs (λq=>q rfl) hn) λb o e q=>by rw[q,ha] at e; exact nN e
theorem K.there (k:K h h') (e:h.get? b=some o):∃ o',h'.get? b=some o':=af (k b o (.inl trivial) e) λo' g uu=>⟨o',g⟩
theorem KG.dataG (k:KG G h h') (g:G b\/Stay o) (e:h.get? b=some o) (hn:∀ fs,o.data≠.fields fs):∃ o',h'.get? b=some o'/\o'.data=o.data/\o'.cls=o.cls :=
 af (k b o g e) λo' i l=>(aF o' i (l.data hn) l.cls)
theorem K.data (k:K h h') (e:h.get? b=some o) (hn:∀ fs,o.data≠.fields fs):∃ o',h'.get? b=some o'/\o'.data=o.data/\o'.cls=o.cls:=KG.dataG k (.inl trivial) e hn
theorem K.exact (k:K h h') (e:h.get? b=some o) (h1:∀ fs,o.data≠.fields fs) (h2:∀ es ep,o.data≠.dict es ep):h'.get? b=some o :=
 af (k b o (.inl trivial) e) λi g l=>(l.exact h1 h2)▸g
theorem GA (k:KG G h h') (g:G a) (x:h.Ns a m):h'.Ns a m:=by
 refine aV (x) λo n p e j r=>?_
 clear x
 obtain ⟨l,t,i,_⟩:=k.dataG (.inl g) e λu q=>by rw[j] at q; cases q
 exact (cF l n p t (i.trans j) r)
theorem fM (x:h.Ns a m) (k:K h h'):h'.Ns a m:=GA k trivial x
theorem A9 (k:KG G h h') (g:G c) (x:h.IsCell c v):h'.IsCell c v:=by
 refine af (x) λo e j=>?_
 clear x
 obtain ⟨l,m,i,_⟩:=k.dataG (.inl g) e λn q=>by rw[j] at q; cases q
 exact (ah l m (i.trans j))
theorem jr (x:h.IsCell c v) (k:K h h'):h'.IsCell c v:=A9 k trivial x
theorem rg (x:h.NoLimit) (k:K h h'):h'.NoLimit:=af (x) λg a b=>(ah g (fM a k) b)
theorem y2 (k:KG G h h'):(∀ {v:Value}{d:PyData}{as:List Addr},R h v d as->(∀ a∈as,G a)->R h' v d as)/\(∀ {vs:List Value}{ds:List PyData}{as:List Addr},RA h vs ds as->(∀ a∈as,G a)->RA h' vs ds as) :=
 R.ind (M:=λv d as=>(∀ a∈as,G a)->R h' v d as) (N:=λvs ds as=>(∀ a∈as,G a)->RA h' vs ds as) (λuu=>.none) (λb _=>.bool b) (λi t _=>.int i t) (λx t _=>.str x t)
  (λe _ m g=>.list (k.hard (.inl (g _ (.head _))) e rfl) (m λb l=>g b (.tail _ l))) (λe _ m g=>.tuple (k.stay e (.inr (aB rfl (bN _ _ rfl)))) (m g))
  (λuu=>.nil) (λuu uu i j g=>.cons (i λb l=>g b (mem_append_left _ l)) (j λb l=>g b (mem_append_right _ l)))
theorem R.onG (r:R h v d as) (k:KG G h h') (g:∀ a∈as,G a):R h' v d as:=(y2 k).1 r g
theorem RA.onG (r:RA h vs ds as) (k:KG G h h') (g:∀ a∈as,G a):RA h' vs ds as:=(y2 k).2 r g
theorem R.k (r:R h v d as) (k:K h h'):R h' v d as:=r.onG k λuu uu=>trivial
theorem RA.k (r:RA h vs ds as) (k:K h h'):RA h' vs ds as:=r.onG k λuu uu=>trivial
noncomputable def CodeOk (h:Heap) (cd:Value) (q:Str):Prop:=∃ c P ps,cd = .ref c/\h.CodeRec cd q/\h.IsCode c P ps/\h.TableAt c P ps/\CodesG h ps/\SF.tab P
theorem CodeOk.k (x:CodeOk h cd q) (k:K h h'):CodeOk h' cd q:=by
 refine cK (x) λc P ps LA p n m G sP=>?_
 clear x
 subst LA
 refine gd (p) λc' o' y t' e0 e1 e2 e3=>?_
 clear p
 refine AJ (n) λo vs t tf g tg inF i tt op i1 i2 i3 i4 i5 i6 i7 i8 i9 i10 i11=>?_
 clear n
 refine ae (m) λj t5=>?_
 clear m
 refine aZ (j) λoc vc t1 t2 z t4=>?_
 clear j
 cases e0
 rw[i1] at e1 t1
 rw[<- Option.some.inj e1] at e2
 rw[<- Option.some.inj t1] at t2 z
 have kc:h'.get? c=some o:=k.stay i1 (.inl (aB t2 (bV _ z)))
 refine af (k P _ (.inl trivial) t5) λo' e' l=>?_
 have r:∃ v,h'.get? P=some {cls:=.none,data:=.fields v }/\CodesG h' v:=by
  cases l with
  | same e=>subst e; exact (ah ps e' (KG.codes k G))
  | tab ps' more u1 u2 u3 u4=>
   have:ps' = ps:=by injection u2 with _ _ u; injection u with u; exact u.symm
   (clear i10 i9 t5 u2; subst this)
   exact (ah _ (by rw[e',u3]; rfl) (u4 G))
  | frame _ _ _ f _ _ _ _=>cases f
 refine af (r) λv eq Gq=>?_
 clear r
 exact (fo c P v rfl (iy c o y t' rfl kc e2 e3) ⟨o,vs,t,tf,g,tg,inF,i,tt,_,kc,i2,i3,i4,i5,i6,i7,eq,rfl,Gq.1,i11⟩ ⟨(be o vc kc t2 z t4),eq⟩ Gq sP)
end
end
noncomputable def bval (x:String):Value:=if x∈["list", "tuple", "range", "int", "bool", "str"] then .type x else .builtin x
structure Fns where
 fn:String->Option (Addr×FnT)
 mth:String->Option (Addr×FnT)
 init:Option (Addr×FnT)
 lam:Bool
 hand:Bool
noncomputable def adr (fns:Fns) (f:String):Option Addr:=if f = "Rule" then fns.init.map λuu=>SF.rule else if f∈methNames then (fns.mth f).map (·.1) else (fns.fn f).map (·.1)
theorem ue (h1:f ≠ "Rule") (h2:f∉methNames):adr fns f=(fns.fn f).map (·.1):=by unfold adr; rw[if_neg h1,if_neg h2]
theorem qX (h1:f ≠ "Rule") (h2:f∈methNames):adr fns f=(fns.mth f).map (·.1):=by unfold adr; rw[if_neg h1,if_pos h2]
noncomputable def FnAt (h:Heap) (ft:FnT) (a:Addr):Prop:=∃ o fd,h.get? a=some o/\o.data = .func fd/\fd.body = .stmts ft.body/\fd.scope=ft.scope/\fd.globals=mainGlobals/\fd.closure=[]/\fd.builtins=builtinsNs/\h.CodeRec fd.code fd.qualname/\(ft.lam=true->CodeOk h fd.code fd.qualname) /\
 (∀ vals,vals.length=ft.params.length->bindArgs fd ⟨vals,[]⟩=pure ((ft.params.map Str.ofString).zip vals))/\fd.scope.isCoroutine=false/\fd.scope.isGenerator=false/\fd.scope.kind = .function
theorem tX (x:h.CodeRec cd q) (k:K h h'):h'.CodeRec cd q:=by
 refine gd (x) λc o m t g e j i=>?_
 clear x
 subst g
 refine af (k c o (.inl trivial) e) λp n l=>?_
 cases l with
 | same q=>(clear e; subst q); exact (iy c _ m t rfl n j i)
 | tab ps more _ q1 q2 _=>
  (clear e; subst q1 q2)
  obtain rfl:=Data.fields.inj (show Data.fields ps=Data.fields m from j)
  exact (iy c _ (ps++more) t rfl n rfl (by rw[Array.getElem?_append_left (Array.getElem?_eq_some_iff.mp i).1]; exact i))
 | frame es ep _ _ q _ _ _=>rw[j] at q; cases q
theorem FnAt.k (x:FnAt h ft a) (k:K h h'):FnAt h' ft a:=by
 refine BE (x) λo z y i v u t r p n m g=>?_
 clear x
 obtain ⟨j,e',l,_⟩:=K.data k y λfs q=>by rw[i] at q; cases q
 exact (Cf j z e' (l.trans i) v u t r p (tX n k) (λq=>(m q).k k) g)
theorem re (x:ClsAt h C N mN) (k:K h h'):ClsAt h' C N mN:=by
 obtain ⟨g,u⟩:=x
 refine ew (g) λm q y l i j v t r p o n e=>?_
 clear g
 exact ⟨⟨m,q,y,l,i,j,v,t,r,p,o,n,K.get k e rfl⟩,fM u k⟩
noncomputable def RuleAt (fns:Fns) (h:Heap):Prop:=∃ N mN,ClsAt h SF.rule N mN/\(∀ n∈["__setattr__", "__getattribute__", "__getattr__", "count", "full", "size"],mN (Str.ofString n)=none) /\
 (∃ p o,fns.init=some p/\mN "__init__" = some (.ref p.1)/\FnAt h p.2 p.1/\h.get? p.1=some o/\o.cls = .type "function") /\
 ∀ m p,fns.mth m=some p->∃ o,mN (Str.ofString m)=some (.ref p.1)/\FnAt h p.2 p.1/\h.get? p.1=some o/\o.cls = .type "function"
theorem rF (k:K h h') (e:h.get? a=some o) (c:o.cls = .type "function"):∃ o',h'.get? a=some o'/\o'.cls = .type "function" :=
 af (k a o (.inl trivial) e) λo' g l=>(ah o' g (l.cls.trans c))
theorem RuleAt.k (x:RuleAt fns h) (k:K h h'):RuleAt fns h':=by
 refine aZ (x) λN n h1 h2 g h4=>?_
 clear x
 refine lU (g) λp o i1 i2 z y v=>?_
 clear g
 refine af (rF k y v) λi j l=>?_
 refine (be N n (re h1 k) h2 (bP p i i1 i2 (z.k k) j l) (λm p hp=>?_))
 refine bQ (h4 m p hp) λo u t r q=>?_
 refine af (rF k r q) λi j l=>?_
 exact (bw i u (t.k k) j l)
noncomputable def eJ (c:String):List Value:=if c = "PickError" then bmV else .ref (SF.exc "PickError")::bmV
theorem uc (T:OwnTail h bm tl) (k:K h h'):OwnTail h' bm tl:=by
 induction T with
 | base=>exact .base
 | own hA hN hq _ ih=>exact .own (K.exact k hA (λuu q=>by cases q) λuu uu q=>by cases q) (fM hN k) hq ih
noncomputable def ExcAt (h:Heap) (c:String):Prop:=∃ N nm q bs hdct sn sub ab col dd k0 k1 k2 k3 k5 mN,h.get? (SF.exc c)=some (excClassObj nm q (SF.exc c) N bs (eJ c) hdct sn sub ab col dd k0 k1 k2 k3 k5 "ValueError.__new__")/\h.Ns N mN/\mN "__init__" = none/\OwnTail h bmV (eJ c)
theorem ExcAt.k (x:ExcAt h c) (k:K h h'):ExcAt h' c:=by
 obtain ⟨N,m,q,bs,g,l,i,ab,j,dd,u,t,r,p,o,n,h1,z,y,v⟩:=x
 exact ⟨N,m,q,bs,g,l,i,ab,j,dd,u,t,r,p,o,n,K.exact k h1 (λuu q=>by cases q) (λuu uu q=>by cases q),fM z k,y,uc v k⟩
structure GE (fns:Fns) (h:Heap):Prop where
 glob:∃ mg,h.Ns mainGlobals mg/\(∀ f a,f∉methNames->adr fns f=some a->mg (Str.ofString f)=some (.ref a))/\∀ x∈bnames,mg (Str.ofString x)=none
 funs:∀ f p,fns.fn f=some p->FnAt h p.2 p.1
 cls:(∃ f p,fns.mth f=some p)\/fns.init.isSome=true->RuleAt fns h
 blt:∃ mb,h.Ns builtinsNs mb/\∀ x∈bnames,mb (Str.ofString x)=some (bval x)
 nolim:h.NoLimit
 old:∀ b,SF.old b->∃ o,h.get? b=some o
 exc:∃ mg,h.Ns mainGlobals mg/\(∀ c∈SF.excN,mg (Str.ofString c)=some (.ref (SF.exc c))/\ExcAt h c)/\∀ c∈SF.excN,∀ c' ∈ "PickError" :: SF.excN,SF.exc c=SF.exc c'->c=c'
 bm:∃ mg bm ob,h.Ns mainGlobals mg/\mg "__builtins__" = some (.ref bm)/\bm≠builtinsNs/\h.get? bm=some ob/\ob.cls = .type "module" /\ ob.dict=some builtinsNs/\ob.data = .plain
theorem GE.k {fns:Fns}{h h':Heap}(G:GE fns h) (k:K h h'):GE fns h' where
 glob:=af (G.glob) λi a b=>(ah i (fM a k) b)
 funs:=λf p e=>(G.funs f p e).k k
 cls:=λe=>(G.cls e).k k
 blt:=af (G.blt) λm a b=>(ah m (fM a k) b)
 nolim:=rg G.nolim k
 old:=λb n=>ak (G.old b n) λuu e=>K.there k e
 exc:=aq (G.exc) λi a b c=>(aF i (fM a k) (λc j=>⟨(b c j).1,(b c j).2.k k⟩) c)
 bm:=BO (G.bm) λi bm l a b c d e f g=>(lZ i bm l (fM a k) b c (K.get k d (by unfold hardB; rw[e]; decide)) e f g)
theorem GE.flag (G:GE fns h) (a b:Bool):GE {fns with lam:=a,hand:=b } h:=⟨G.glob,G.funs,G.cls,G.blt,G.nolim,G.old,G.exc,G.bm⟩
noncomputable def FrOk (h:Heap) (l:List Env):Prop:=∀ env∈l,env.scope.kind = .function/\∃ L o es ep,env.frame=some L/\¬ SF.old L/\h.get? L=some o/\o.cls = .type "frame" /\ o.data = .dict es ep
theorem FrOk.k (x:FrOk h l) (k:K h h'):FrOk h' l:=λg m=>by
 obtain ⟨u,L,o,v,y,t,r,p,n,i⟩:=x g m
 refine af (k L o (.inl trivial) p) λj z l=>?_
 exact (aB u (j4 L j v y t r z (l.cls.trans n) ((l.data λfs q=>by rw[i] at q; cases q).trans i)))
section
noncomputable def RV (h:Heap) (v:Value):V->List Addr->Prop
 | .d x,as=>R h v x as/\sz x=true
 | .dic0,as=>∃ a,v = .ref a/\as=[a]/\(a==sysModules)=false/\h.DictOf (intKind prog w) a []/\h.DictOfH (tupleKind (intKind prog w)) a []
 | .dicI ks,as=>∃ a,v = .ref a/\as=[a]/\(a==sysModules)=false/\h.DictOf (intKind prog w) a (ks.map λk=>(k,.bool true))
 | .dicT ks,as=>∃ a xs,v = .ref a/\as=[a]/\(a==sysModules)=false/\h.DictOfH (tupleKind (intKind prog w)) a xs/\xs.map (·.1)=ks/\(∀ k∈ks,k.length<=2^22)/\∀ x∈xs,R h (.ref x.2.1) (aR x.1) []
 | .rule c d n,as=>∃ x D o vf bs t u mA,v = .ref x/\as=x::D::bs/\h.get? x=some o/\o.cls = .ref SF.rule/\(∀ c,o.data≠.cls c)/\o.dict=some D/\D≠x/\h.Ns1 D mA/\mA "count" = some (.int c t)/\mA "full" = some vf/\mA "size" = some (.int n u)/\(∀ m∈methNames,mA (Str.ofString m)=none)/\R h vf d bs/\sz d=true
inductive RVs (h:Heap):List V->List Value->List Addr->Prop
 | nil:RVs h [] [] []
 | cons {x:V}{xs:List V}{v:Value}{vs:List Value}{as bs:List Addr}:RV h v x as->RVs h xs vs bs->RVs h (x::xs) (v::vs) (as++bs)
end
inductive VarIs (h:Heap) (env:Env) (x:Str) (v:Value):Prop
 | loc (m:Str->Option Value):env.kindOf x=some .local->h.Ns env.locals m->m x=some v->VarIs h env x v
 | cell (c:Addr):env.kindOf x=some .cell\/env.kindOf x=some .free->env.cells.lookup x=some c->h.IsCell c (some v)->VarIs h env x v
structure EnvOk (env:Env):Prop where
 kind:env.scope.kind = .function
 glob:env.globals=mainGlobals
 blt:env.builtins=builtinsNs
 cells:∀ n,env.kindOf n=some .cell\/env.kindOf n=some .free->∃ c,env.cells.lookup n=some c
section
theorem Kr (x:IsTupleKey (intKind prog w) h ks a) (k:KG G h h'):IsTupleKey (intKind prog w) h' ks a :=
 aV (x) λo j n l i g=>(cF o j n (k.stay l (.inr (aB i (bN _ _ g.1)))) i g)
theorem hJ (x:o.ExactDict):hardB o=true:=by unfold hardB; rw[x.1]; decide
theorem qi (x:h.DictOf (intKind prog w) a kvs) (k:KG G h h') (g:G a):h'.DictOf (intKind prog w) a kvs :=
 bv (x) λo i j l r=>(cz o i j (k.hard (.inl g) l (hJ r.1)) r)
theorem mQ (x:h.DictOfH (tupleKind (intKind prog w)) a xs) (k:KG G h h') (g:G a):h'.DictOfH (tupleKind (intKind prog w)) a xs :=
 cK (x) λo l m t i r q p n=>(fo o l m (k.hard (.inl g) t (hJ i)) i r q (λy j=>Kr (p y j) k) n)
theorem RV.onG (r:RV h v x as) (k:KG G h h') (g:∀ a∈as,G a):RV h' v x as:=by
 cases x with
 | d x=>exact ⟨r.1.onG k g,r.2⟩
 | dic0=>obtain ⟨a,m,rfl,l,j,p⟩:=r; exact (ic a m rfl l (qi j k (g a (.head _))) (mQ p k (g a (.head _))))
 | dicI ks=>obtain ⟨a,m,rfl,l,j⟩:=r; exact (bw a m rfl l (qi j k (g a (.head _))))
 | dicT ks=>obtain ⟨a,xs,m,rfl,l,j,p,h6,h7⟩:=r; exact (gc a xs m rfl l (mQ j k (g a (.head _))) p h6 (λx hx=>(h7 x hx).onG k λuu h=>nomatch h))
 | rule c d n=>
  refine iW (r) λx D o vf bs t u mA m y l j p h6 h7 i h9 h10 h11 h12 h13 h14=>?_
  clear r
  subst y
  refine bv (i) λoD es ep e hd=>?_
  clear i
  obtain ⟨z,eD,q,_⟩:=k.dataG (.inl (g D (.tail _ (.head _)))) e λfs q=>by rw[hd.1] at q; cases q
  exact (jy x D o vf bs t u mA m rfl (k.hard (.inl (g x (.head _))) l (by unfold hardB; rw[j])) j p h6 h7 (cF z es ep eD (q.trans hd.1) hd.2) h9 h10 h11 h12 (h13.onG k λa ha=>g a (.tail _ (.tail _ ha))) h14)
theorem RV.k (r:RV h v x as) (k:K h h'):RV h' v x as:=r.onG k λuu uu=>trivial
theorem VarIs.k (r:VarIs h env x v) (k:K h h'):VarIs h' env x v:=by
 cases r with
 | loc m a b c=>exact .loc m a (fM b k) c
 | cell c a b d=>exact .cell c a b (jr d k)
theorem RV.keep (r:RV h v x as) (k:∀ b o,h.get? b=some o->h'.get? b=some o):RV h' v x as:=r.k (.of k)
noncomputable def Kp (s s':Shared):Prop:=∃ h' tk,s' = {s with heap:=h',toks:=tk }/\K s.heap h'
theorem Kp.refl (s:Shared):Kp s s:=(aC s.heap s.toks rfl KG.refl)
theorem Kp.trans (a:Kp s s₁) (b:Kp s₁ n):Kp s n:=by
 refine av (a) λh t i k=>?_
 clear a
 subst i
 refine av (b) λm j g l=>?_
 clear b
 subst g
 exact (aC m j rfl (KG.trans k l))
theorem Kp.k (a:Kp s s₁):K s.heap s₁.heap:=by
 obtain ⟨h,t,rfl,k⟩:=a; exact k
theorem Kp.of (k:∀ b o,s.heap.get? b=some o->h'.get? b=some o):Kp s {s with heap:=h',toks:=tk }:=(aC h' tk rfl (.of k))
theorem Kp.toks (s:Shared) (t:Nat):Kp s {s with toks:=t }:=.of (s:=s) λuu uu e=>e
theorem Kp.push (s:Shared) (o:Obj) (t:Nat):Kp s {s with heap:=s.heap.push o,toks:=t }:=.of λuu uu e=>Heap.get?_push_of_some _ e
theorem Kp.none (a:Kp s s₁) (e:s₁.heap.get? b=none):s.heap.get? b=none:=by
 cases q:s.heap.get? b with
 | none=>rfl
 | some o=>obtain ⟨h,g⟩:=a.k.there q; rw[g] at e; exact nM e
structure Cx (fns:Fns) (k:Nat) (A:Around) (P:Addr->Prop) (h:Heap) (env:Env) (σ:St):Prop where
 room:Room fns.hand k A
 eok:EnvOk env
 ge:GE fns h
 code:fns.lam=true->∃ q,CodeOk h env.code q
 frm:fns.hand=false->∃ l,A.frames=some l/\FrOk h l
 vars:∀ x p,σ x=some p->varK env.scope.names x=true->∃ v as,VarIs h env (Str.ofString x) v/\RV h v p.1 as/\∀ a∈as,P a
inductive EP (P:Addr->Prop) (s:Shared) (r:V×Mode) (v:Value) (s':Shared):Prop
 | mk (kp:Kp s s') (as:List Addr) (rv:RV s'.heap v r.1 as) (own:∀ a∈as,P a\/s.heap.get? a=none) (top:r.2 = .top->∃ a bs,as=a::bs/\s.heap.get? a=none/\a∉bs) (deep:r.2 = .deep->(∀ a∈as,s.heap.get? a=none)/\as.Nodup):EP P s r v s'
inductive EPs (P:Addr->Prop) (s:Shared) (l:List (V×Mode)) (vs:List Value) (s':Shared):Prop
 | mk (kp:Kp s s') (as:List Addr) (rv:RVs s'.heap (l.map (·.1)) vs as) (own:∀ a∈as,P a\/s.heap.get? a=none) (deep:allDeep l=true->(∀ a∈as,s.heap.get? a=none)/\as.Nodup):EPs P s l vs s'
theorem EP.keeps (e:EP P s r v s'):Kp s s':=by cases e; assumption
theorem EPs.keeps (e:EPs P s l vs s'):Kp s s':=by cases e; assumption
theorem Cx.k {fns:Fns}{k:Nat}{A:Around}{P:Addr->Prop}{h h':Heap}{env:Env}{σ:St}(X:Cx fns k A P h env σ) (kp:K h h'):Cx fns k A P h' env σ where
 room:=X.room
 eok:=X.eok
 ge:=X.ge.k kp
 code:=λhk=>ak (X.code hk) λq c=>⟨q,c.k kp⟩
 frm:=λq=>af (X.frm q) λl a b=>(ah l a (b.k kp))
 vars:=λx p i g=>aA (X.vars x p i g) λv as a b c=>(aM v as (a.k kp) (b.k kp) c)
theorem EP.scalar (k:Kp s s') (r:R s'.heap v x []) (z:sz x=true) (hm:m≠.top):EP P s (.d x,m) v s' :=
 ⟨k,[],⟨r,z⟩,λuu h=>(nomatch h),λh=>absurd h hm,λuu=>⟨λuu h=>(nomatch h),.nil⟩⟩
theorem EP.int (k:Kp s s'):EP P s (sI i) (.int i t) s':=.scalar k (.int i t) rfl (by simp)
theorem EP.bool (k:Kp s s'):EP P s (sB b) (.bool b) s':=.scalar k (.bool b) rfl (by simp)
theorem EP.after (k:Kp s s₁) (e:EP P s₁ r v s'):EP P s r v s':=by
 obtain ⟨i,as,a,b,c,d⟩:=e
 exact ⟨k.trans i,as,a,λx h=>(b x h).imp id k.none,λg=>aA (c g) λa n m l j=>(aM a n m (k.none l) j),λg=>⟨λx h=>k.none ((d g).1 x h),(d g).2⟩⟩
end
section
variable (fns:Fns) (k:Nat) (C:Calls) (XP:String->Shared->Value->Shared->Prop)
noncomputable def SimE (e:E):Prop:=∀ {ex:Expr}{A:Around}{env:Env}{σ:St}{P:Addr->Prop}{s:Shared}{Q:Value->Shared->Prop}{Er:Value->Shared->Prop},
 okE env.scope.names e ex=true->Cx fns k A P s.heap env σ->ev C e σ≠.bad ->
 (∀ r,ev C e σ = .ok r->∀ v s',EP P s r v s'->Q v s')->(∀ c,ev C e σ = .exc c->∀ x s',XP c s x s'->Er x s') ->
 wpAny (model prog w) A (eval ex env) Q Er s
noncomputable def SimT (e:E):Prop:=∀ {ex:Expr}{A:Around}{env:Env}{σ:St}{P:Addr->Prop}{s:Shared}{Q:Bool->Shared->Prop}{Er:Value->Shared->Prop},
 okE env.scope.names e ex=true->Cx fns k A P s.heap env σ->((ev C e σ).bind λr=>ar r.1)≠.bad ->
 (∀ b,((ev C e σ).bind λr=>ar r.1) = .ok b->∀ s',Kp s s'->Q b s')->(∀ c,ev C e σ = .exc c->∀ x s',XP c s x s'->Er x s') ->
 wpAny (model prog w) A (isTrue ex env (eval ex env)) Q Er s
end
theorem a8 {α β:Type}{o:Out α}{f:α->Out β}(h:o.bind f≠.bad):o≠.bad/\∀ a,o = .ok a->f a≠.bad:=by
 cases o with
 | ok a=>exact ⟨λe=>(by cases e),λuu e=>by injection e; exact h⟩
 | exc c=>exact ⟨λe=>(by cases e),λuu e=>by cases e⟩
 | bad=>exact absurd rfl h
theorem aP {α β:Type}{o:Out α}{f:α->Out β}{G:Prop}(h:o.bind f≠.bad) (k:o≠.bad->(∀ a,o = .ok a->f a≠.bad)->G):G:=ae (a8 h) k
theorem qx {α β:Type}{o:Out α}{f:α->Out β}{b:β}(h:o.calm.bind f = .ok b):∃ a,o = .ok a/\f a = .ok b:=by
 cases o with
 | ok a=>exact (ah a rfl h)
 | exc c=>exact nB h
 | bad=>exact nB h
theorem fN {α β:Type}{o:Out α}{f:α->Out β}{b:β}{G:Prop}(h:o.calm.bind f = .ok b) (k:∀ a,o = .ok a->f a = .ok b->G):G:=af (qx h) k
theorem bS {α β:Type}{o:Out α}{f:α->Out β}{c:String}(h:o.bind f = .exc c):o = .exc c\/∃ a,o = .ok a/\f a = .exc c:=by
 cases o with
 | ok a=>exact .inr (ah a rfl h)
 | exc c=>cases h; exact .inl rfl
 | bad=>cases h
section
theorem KQ (hXP:∀ c s s₁ x s',Kp s s₁->XP c s₁ x s'->XP c s x s') {a b:E}(Sa:SimE fns k C XP a) (Sb:SimE fns k C XP b)
  {ea eb:Expr}{A:Around}{env:Env}{σ:St}{P:Addr->Prop}{s:Shared}{G:Value->Value->Shared->Prop}{Er:Value->Shared->Prop}
  (oa:okE env.scope.names a ea=true) (ob:okE env.scope.names b eb=true) (X:Cx fns k A P s.heap env σ)
  (na:ev C a σ≠.bad) (nb:∀ x,ev C a σ = .ok x->ev C b σ≠.bad)
  (hE:∀ c,(ev C a σ = .exc c\/∃ x,ev C a σ = .ok x/\ev C b σ = .exc c)->∀ x s',XP c s x s'->Er x s')
  (hG:∀ x y,ev C a σ = .ok x->ev C b σ = .ok y->∀ va vb s₁ l,EP P s x va s₁->EP P s₁ y vb l->G va vb l) :
  wpAny (model prog w) A (eval ea env) (λva s₁=>wpAny (model prog w) A (eval eb env) (λvb l=>G va vb l) Er s₁) Er s :=
 Sa oa X na (λx g va s₁ Ea=>Sb ob (X.k Ea.keeps.k) (nb x g) (λy j vb l Eb=>hG x y g j va vb s₁ l Ea Eb)
  λc h z s' i=>hE c (.inr (ah x g h)) z s' (hXP c s s₁ z s' Ea.keeps i)) λc h=>hE c (.inl h)
theorem oZ {env:Env}{x:String}(h:varK env.scope.names x=true):env.kindOf (Str.ofString x)=some .local\/env.kindOf (Str.ofString x)=some .cell\/env.kindOf (Str.ofString x)=some .free:=by
 unfold varK at h
 unfold Env.kindOf
 replace h:=(and_eq_true_iff.mp h).2
 split at h<;>first | (rename_i e; exact .inl e) | (rename_i e; exact .inr (.inl e)) | (rename_i e; exact .inr (.inr e)) | exact nF h
theorem cC (hk:env.scope.kind = .function) (hd:aX x=true)
  (hv:VarIs s.heap env (Str.ofString x) v) (h:Q v s):wpAny (model prog w) A (eval (.Name (Str.ofString x) pos) env) Q Er s:=by
 unfold aX at hd
 simp only[and_eq_true,Bool.not_eq_true'] at hd
 cases hv with
 | loc m a b c=>exact wpAny_Name (wpAny_loadName_local hk a b c h) hd.1
 | cell c a b d=>
  rcases a with a | a
  ·exact wpAny_Name (wpAny_loadName_cell hk a b d h) hd.1
  ·exact wpAny_Name (wpAny_loadName_free hk a b d h hd.2) hd.1
theorem tx (r:RV s.heap v x as) (h:∀ a∈as,P a):EP P s (mk x) v s:=by
 refine ⟨.refl s,as,r,λa j=>.inl (h a j),λg=>?_,λg=>?_⟩
 ·unfold mk at g; dsimp only at g; split at g<;>cases g
 ·cases x with
  | d x=>
   unfold mk at g; dsimp only at g
   split at g
   ·rename_i i
    have:as=[]:=r.1.sx_nil i
    (clear h r; subst this)
    exact ⟨λuu h=>(nomatch h),.nil⟩
   ·cases g
  | _=>simp[mk,sA] at g
theorem iD {ex:Expr}(h:okE ns (.name x) ex=true):∃ p,ex = .Name (Str.ofString x) p/\varK ns x=true/\aX x=true:=by
 replace h:=uQ h
 revert h; refine λg=>Or.elim g (λi=>?_) (λh=>?_)
 ·clear g
  refine av (i) λm l j h=>?_
  clear i
  subst j
  simp only[and_eq_true,beq_iff_eq] at h
  refine ae (h) λk o=>?_
  clear h
  refine ae (k) λn q=>?_
  clear k
  subst n
  exact (aF _ rfl q o)
 ·cases h
theorem kS (x:String):SimE fns k C XP (.name x):=by
 intro ex A u i P s Q Er h X j n y
 refine aq (iD h) λp g l m=>?_
 (clear h; subst g)
 cases hσ:i x with
 | none=>exact absurd (by simp[dH,hσ]) j
 | some q=>
  refine aA (X.vars x q hσ l) λv as t r o=>?_
  exact cC X.eok.kind m t (n (mk q.1) (by simp[dH,hσ]) v s (tx r o))
theorem me (i:Int):SimE fns k C XP (.int i):=by
 intro ex A q r P s Q Er j X t p u
 replace j:=I7 j
 revert j; refine λg=>Or.elim g (λh=>?_) (λj=>?_)
 ·clear g
  refine bv (h) λo n m l j=>?_
  clear h
  subst l
  simp only[beq_iff_eq] at j
  subst j
  exact wpAny_Constant_int (p (sI i) rfl _ _ (.int (.toks s _)))
 ·cases j
theorem Ba (x:String):SimE fns k C XP (.str x):=by
 intro ex A r t P s Q Er g X u q v
 replace g:=CR g
 revert g; refine λh=>Or.elim h (λi=>?_) (λg=>?_)
 ·clear h
  refine bv (i) λn m l j g=>?_
  clear i
  subst j
  simp only[and_eq_true,beq_iff_eq,decide_eq_true_eq] at g
  refine ae (g) λo p=>?_
  clear g
  subst o
  exact wpAny_Constant_str (q (.d (.str (Str.ofString x)),.deep) rfl _ _ (.scalar (.toks s _) (.str _ _) (by simpa [sz] using p) (by simp)))
 ·cases g
theorem pQ (b:Bool):SimE fns k C XP (.bool b):=by
 intro ex A p q P s Q Er i X r o t
 replace i:=Ch i
 revert i; refine λg=>Or.elim g (λh=>?_) (λi=>?_)
 ·clear g
  refine bv (h) λn m l j i=>?_
  clear h
  subst j
  simp only[beq_iff_eq] at i
  subst i
  exact wpAny_Constant_bool (o (sB b) rfl _ _ (.bool (.refl s)))
 ·cases i
theorem xY:SimE fns k C XP .none:=by
 intro ex A o p P s Q Er j X q n r
 replace j:=BW j
 revert j; refine λg=>Or.elim g (λh=>?_) (λj=>?_)
 ·clear g
  refine av (h) λm l i j=>?_
  clear h
  subst i
  exact wpAny_Constant_none (n (.d .none,.deep) rfl _ _ (.scalar (.refl s) .none rfl (by simp)))
 ·cases j
theorem bi (h:Heap):h.get? h.objs.size=none:=Heap.get?_none_of_le (le_refl _)
theorem eA {h:Heap}{a:Addr}{o:Obj}(e:h.get? a=some o):a≠h.objs.size:=ne_of_lt (lt_size e)
theorem EP.newList (r:RA s.heap vs xs as) (hl:xs.length<=2^22) (hz:∀ x∈xs,sz x=true) (ha:∀ a∈as,P a) :
  EP P s (.d (.list xs),fresh xs) (.ref s.heap.objs.size) {s with heap:=s.heap.push {cls:=.type "list", data:=.seq vs.toArray },toks:=t }:=by
 refine ⟨.push s _ _,s.heap.objs.size::as,⟨.list (Heap.get?_push_size _ rfl) (r.keep λuu uu e=>Heap.get?_push_of_some _ e),sz_list.mpr ⟨hl,hz⟩⟩,?_,?_,?_⟩
 ·intro a h
  rcases mem_cons.mp h with rfl | h
  ·exact .inr (bi _)
  ·exact .inl (ha a h)
 ·intro _
  exact (aM _ _ rfl (bi _) (λh=>ba (r.there _ h) λuu uu e=>eA e rfl))
 ·intro i
  have g:xs.all sx=true:=by
   unfold fresh at i; dsimp only at i; split at i
   ·assumption
   ·cases i
  rw[r.sx_nil g]
  refine ⟨λa h=>?_,by simp⟩
  rcases mem_cons.mp h with rfl | h
  ·exact bi _
  ·cases h
section
theorem w8 (ra:R s.heap va (.list xs) as) (za:sz (.list xs)=true) (rb:R s.heap vb (.list ys) bs) (zb:sz (.list ys)=true) (ha:∀ a∈as,P a) (hb:∀ a∈bs,P a) (hl:xs.length+ys.length<=lim)
  (hQ:∀ v s',EP P s (.d (.list (xs++ys)),fresh (xs++ys)) v s'->Q v s'):wpAny (model prog w) A (binaryOp .Add va vb) Q Er s:=by
 cases ra with
 | list ea ra=>
 cases rb with
 | list eb rb=>
 unfold lim at hl
 rw[sz_list] at za zb
 have j:=ra.length
 have i:=rb.length
 refine PySem.P.add_list ea eb ?_ ?_
 ·have:=EP.newList (P:=P) (t:=s.toks) (ra.append rb) (by rw[length_append]; exact Ds hl) (λz g=>(mem_append.mp g).elim (za.2 z) (zb.2 z)) λa h=>(mem_append.mp h).elim (λh=>ha a (.tail _ h)) λh=>hb a (.tail _ h)
  exact hQ _ _ (by simpa using this)
 ·rw[size_toArray,size_toArray,j,i]
  unfold sizeLine; exact EG hl
theorem AN (h:a.natAbs<2^63\/b.natAbs<2^63) (hQ:∀ v s',EP P s (sI (a*b)) v s'->Q v s'):wpAny (model prog w) A (binaryOp .Mult (.int a t) (.int b u)) Q Er s:=by
 refine mul_int (hQ _ _ (.int (.toks s _))) ?_
 rcases h with hl | hl
 ·exact IntMulOk.of_left (intBits_le_64 (by exact na1 ‹_›) (by exact na2 ‹_›))
 ·exact IntMulOk.of_right (intBits_le_64 (by exact na1 ‹_›) (by exact na2 ‹_›))
theorem xD (h:¬ (b=0\/1000000000<=b.natAbs)) (hQ:∀ v s',EP P s (sI (a.fdiv b)) v s'->Q v s'):wpAny (model prog w) A (binaryOp .FloorDiv (.int a t) (.int b u)) Q Er s :=
 floordiv_int (λe=>h (.inl e)) (hQ _ _ (.int (.toks s _))) (.inl (PyProof.noPylong_small (E6 h)))
theorem z4 (h:0<=b/\b<=1000/\a.natAbs<2^63) (hQ:∀ v s',EP P s (sI (a^b.toNat)) v s'->Q v s'):wpAny (model prog w) A (binaryOp .Pow (.int a t) (.int b u)) Q Er s :=
 pow_int_small h.1 (I0 h) (He h) (hQ _ _ (.int (.toks s _)))
theorem w7
  (ho:opB o op=true) (he:dC o x y = .ok r) (ra:R s.heap va x as) (za:sz x=true) (rb:R s.heap vb y bs) (zb:sz y=true) (ha:∀ a∈as,P a) (hb:∀ a∈bs,P a)
  (hQ:∀ v s',EP P s r v s'->Q v s'):wpAny (model prog w) A (binaryOp op va vb) Q Er s:=by
 cases of_decide_eq_true ho
 cases o with
 | add=>
  replace he:pi x y = .ok r:=he
  unfold pi at he
  cases hx:asL x with
  | some xs=>
   rw[hx] at he
   replace he:=aU he
   revert he; intro n
   refine af (n) λys hy he=>?_
   clear n
   cases bR hx
   cases bR hy
   clear hx hy
   split at he<;>cases he
   exact w8 ra za rb zb ha hb ‹_› hQ
  | none=>
   rw[hx] at he
   replace he:=eO he
   revert he; intro m
   refine aA (m) λa b LC LF he=>?_
   clear m
   (clear hx za; subst LC)
   (clear zb; subst LF)
   injection he; obtain ⟨_,rfl,rfl⟩:=ra.isInt; obtain ⟨_,rfl,rfl⟩:=rb.isInt
   exact add_int (hQ _ _ (.int (.toks s _)))
 | sub=>
  replace he:=eO he
  revert he; intro l
  refine aA (l) λa b LI LD he=>?_
  clear l
  (clear za; subst LI)
  (clear zb; subst LD)
  injection he; obtain ⟨_,rfl,rfl⟩:=ra.isInt; obtain ⟨_,rfl,rfl⟩:=rb.isInt
  exact sub_int (hQ _ _ (.int (.toks s _)))
 | mul=>
  replace he:=eO he
  revert he; intro k
  refine aA (k) λa b Ly LG he=>?_
  clear k
  (clear za; subst Ly)
  (clear zb; subst LG)
  split at he<;>cases he
  obtain ⟨_,rfl,rfl⟩:=ra.isInt; obtain ⟨_,rfl,rfl⟩:=rb.isInt
  exact AN ‹_› hQ
 | fdiv=>
  replace he:=eO he
  revert he; intro j
  refine aA (j) λa b LJ LH he=>?_
  clear j
  (clear za; subst LJ)
  (clear zb; subst LH)
  split at he<;>cases he
  obtain ⟨_,rfl,rfl⟩:=ra.isInt; obtain ⟨_,rfl,rfl⟩:=rb.isInt
  exact xD ‹_› hQ
 | mod=>
  replace he:=eO he
  revert he; intro i
  refine aA (i) λa b LK z he=>?_
  clear i
  (clear za; subst LK)
  (clear zb; subst z)
  split at he<;>cases he
  obtain ⟨_,rfl,rfl⟩:=ra.isInt; obtain ⟨_,rfl,rfl⟩:=rb.isInt
  exact mod_int' ‹_› (hQ _ _ (.int (.toks s _)))
 | pow=>
  replace he:=eO he
  revert he; intro h
  refine aA (h) λa b u t he=>?_
  clear h
  (clear za; subst u)
  (clear zb; subst t)
  split at he<;>cases he
  obtain ⟨_,rfl,rfl⟩:=ra.isInt; obtain ⟨_,rfl,rfl⟩:=rb.isInt
  exact z4 ‹_› hQ
 | xor=>
  replace he:=eO he
  revert he; intro g
  refine aA (g) λa b q p he=>?_
  clear g
  (clear za; subst q)
  (clear zb; subst p)
  injection he; obtain ⟨_,rfl,rfl⟩:=ra.isInt; obtain ⟨_,rfl,rfl⟩:=rb.isInt
  exact xor_int (hQ _ _ (.int (.toks s _)))
end
end
section
theorem Room.units (h:Room hb k A):A.units+200<cLine:=by
 revert h; intro g
 refine aG (g) λuu uu h=>?_
 clear g
 cases hb with
 | true=>rw[if_pos rfl] at h; exact Gj h
 | false=>rw[if_neg (by decide)] at h; exact GK h
theorem Room.at (h:Room hb k A) (hf:hb=false):A.depth+2*k+4<recursionLimit/\A.units+100*k+300<cLine:=by
 subst hf; exact h.2
theorem jQ:okc d=true↔d.canLay0=true/\d.depth<=64:=by simp[okc]
theorem og (h:IntsAre vs ns):ItemsAre (intKind prog w) ns vs:=by
 induction h with
 | nil=>exact .nil
 | cons n t _ ih=>exact .cons (intKind_is prog w n t) ih
theorem eP (r:R h v x as) (e:d8 x=some ks):∃ a,v = .ref a/\IsTupleKey (intKind prog w) h ks a:=by
 cases r with
 | tuple ea ra=>
  refine aG (ra.ints e) λg _ _=>?_
  exact (ah _ rfl (gf _ _ _ ea rfl rfl (by simpa using og g)))
 | _=>exact nN e
theorem rI (r:R h v x as) (e:d8 x=some ks):R h v (aR ks) []:=by
 cases r with
 | tuple ea ra=>
  refine aG (ra.ints e) λuu i g=>?_
  subst i
  (clear e; subst g)
  exact .tuple ea ra
 | _=>exact nN e
theorem iX {K:Type} [DecidableEq K] (xs:List (K×Addr×Value)) (k:K):(atKey xs k).isSome=decide (k∈xs.map (·.1)):=by
 unfold atKey
 rw[Option.isSome_map]
 induction xs with
 | nil=>rfl
 | cons x xs ih=>
  by_cases hk:x.1=k
  ·simp[hk]
  ·rw[List.find?_cons,show decide (x.1=k)=false from decide_eq_false hk]
   dsimp only
   rw[ih,map_cons]
   simp[mem_cons,Ne.symm hk]
theorem l4 (ks:List Int) (k:Int):(valueAt (ks.map λk=>(k,Value.bool true)) k).isSome=decide (k∈ks):=by
 unfold valueAt
 rw[Option.isSome_map]
 induction ks with
 | nil=>rfl
 | cons x xs ih=>
  by_cases hk:x=k
  ·simp[hk]
  ·rw[map_cons,List.find?_cons]
   simp only[hk,decide_false,mem_cons,Ne.symm hk,false_or]
   exact ih
theorem A6 (hu:A.units+200<cLine) (he:inV x c = .ok b) (ra:R s.heap va x as) (rb:RV s.heap vb c bs)
  (hQ:∀ s',Kp s s'->Q (.bool b) s'):wpAny (model prog w) A (compareOp .In va vb) Q Er s:=by
 cases c with
 | d y=>
  replace he:=aU he
  revert he; intro l
  refine af (l) λxs hy he=>?_
  clear l
  cases bR hy
  split at he<;>cases he
  rename_i j
  simp only[and_eq_true,jQ] at j
  refine aG (j) λm b1 b2=>?_
  clear j
  refine ae (m) λa1 a2=>?_
  clear m
  simp only[PyData.canLay0,PyData.depth] at b1 b2
  exact SeqAt.in_list_reads rb.1.reads ra.reads b1 a1 (by have:=min_le_left (PyData.depthAll ‹_›) x.depth; exact zf hu b2) (hQ s (.refl s))
 | dicI ks=>
  replace he:=aU he
  revert he; intro k
  refine af (k) λi r he=>?_
  clear k
  injection he
  refine bQ (rb) λa Lz _ h t=>?_
  clear rb
  subst Lz
  cases cM r
  refine ra.isInt_k λuu LC LF=>?_
  (clear ra; subst LC)
  subst LF
  refine wpAny_in_of (intKind_is prog w _ _) h t.mapOf ?_
  rw[l4]
  exact hQ _ (.toks s _)
 | dicT ks=>
  replace he:=aU he
  revert he; intro g
  refine af (g) λi r he=>?_
  clear g
  injection he
  refine zJ (rb) λa xs z _ h t v _=>?_
  clear rb
  subst z
  subst v
  refine af (eP ra r) λa' u hk=>?_
  (clear ra; subst u)
  refine wpAny_in_heap (tupleKind_room_in1 (zN hu)) hk h t ?_
  rw[iX]
  exact Eq.mp (congrArg (λb=>Q (.bool b) _) (decide_eq_decide.mpr Iff.rfl)) (hQ _ (.toks s _))
 | dic0=>
  replace he:(if (dB x).isSome||(d8 x).isSome then Out.ok false else .bad) = .ok b:=he
  split at he<;>cases he
  rename_i j
  refine jW (rb) λa q _ h t hd'=>?_
  clear rb
  subst q
  cases h2:dB x with
  | some i=>
   cases cM h2
   refine ra.isInt_k λuu p o=>?_
   (clear ra; subst p)
   subst o
   exact wpAny_in_of (intKind_is prog w _ _) h t.mapOf (hQ _ (.toks s _))
  | none=>
   rw[h2] at j
   refine bK (by simpa using j) λi r=>?_
   refine af (eP ra r) λa' n hk=>?_
   (clear ra; subst n)
   exact wpAny_in_heap (tupleKind_room_in1 (zN hu)) hk h hd' (hQ _ (.toks s _))
 | rule _ _ _=>exact nB he
theorem qe (hu:A.units+200<cLine) (ho:opC o op=true) (he:ck o x y = .ok b) (ra:RV s.heap va x as) (rb:RV s.heap vb y bs)
  (hQ:∀ s',Kp s s'->Q (.bool b) s'):wpAny (model prog w) A (compareOp op va vb) Q Er s:=by
 cases of_decide_eq_true ho
 cases o with
 | eq=>
  replace he:=iw he
  revert he; intro z
  refine aA (z) λx y LM LN he=>?_
  clear z
  subst LM
  subst LN
  split at he<;>cases he
  rename_i g
  simp only[and_eq_true,jQ] at g
  refine aG (g) λLP b1 b2=>?_
  clear g
  refine ae (LP) λa1 a2=>?_
  clear LP
  exact SeqAt.compareEq_reads ra.1.reads rb.1.reads a1 b1 (by have:=min_le_left x.depth y.depth; exact yY hu a2) (hQ s (.refl s))
 | ne=>
  replace he:=iw he
  revert he; intro v
  refine aA (v) λx y LQ LS he=>?_
  clear v
  subst LQ
  subst LS
  split at he<;>cases he
  rename_i g
  simp only[and_eq_true,jQ] at g
  refine aG (g) λLR b1 b2=>?_
  clear g
  refine ae (LR) λa1 a2=>?_
  clear LR
  exact SeqAt.compareNe_reads ra.1.reads rb.1.reads a1 b1 (by have:=min_le_left x.depth y.depth; exact yY hu a2) (hQ s (.refl s))
 | lt=>
  replace he:=iw he
  revert he; intro u
  refine aA (u) λx y LV LY he=>?_
  clear u
  subst LV
  subst LY
  replace he:=eO he
  revert he; intro t
  refine aA (t) λi j L6 L5 he=>?_
  clear t
  subst L6
  subst L5
  injection he; obtain ⟨_,rfl,rfl⟩:=ra.1.isInt; obtain ⟨_,rfl,rfl⟩:=rb.1.isInt
  exact lt_int (hQ s (.refl s))
 | gt=>
  replace he:=iw he
  revert he; intro r
  refine aA (r) λx y L8 Ml he=>?_
  clear r
  subst L8
  subst Ml
  replace he:=eO he
  revert he; intro q
  refine aA (q) λi j Mq Mu he=>?_
  clear q
  subst Mq
  subst Mu
  injection he; obtain ⟨_,rfl,rfl⟩:=ra.1.isInt; obtain ⟨_,rfl,rfl⟩:=rb.1.isInt
  exact gt_int (hQ s (.refl s))
 | ge=>
  replace he:=iw he
  revert he; intro p
  refine aA (p) λx y Mc Md he=>?_
  clear p
  subst Mc
  subst Md
  replace he:=eO he
  revert he; intro n
  refine aA (n) λi j Mi Ma he=>?_
  clear n
  subst Mi
  subst Ma
  injection he; obtain ⟨_,rfl,rfl⟩:=ra.1.isInt; obtain ⟨_,rfl,rfl⟩:=rb.1.isInt
  exact ge_int (hQ s (.refl s))
 | isin=>
  replace he:=aU he
  revert he; intro m
  refine af (m) λx hx he=>?_
  clear m
  cases b9 hx
  exact A6 hu he ra.1 rb hQ
 | notin=>
  replace he:=iw he
  revert he; intro l
  refine aA (l) λkx y LU L9 he=>?_
  clear l
  subst LU
  subst L9
  refine Out.bind_k he λb' g h2=>?_
  (have oc:=Out.ok.inj h2; clear h2; (clear he; subst oc))
  replace g:=aU g
  revert g; intro k
  refine af (k) λxs hy g=>?_
  clear k
  cases bR hy
  split at g<;>cases g
  rename_i g
  simp only[and_eq_true,jQ] at g
  refine aG (g) λLW b1 b2=>?_
  clear g
  refine ae (LW) λa1 a2=>?_
  clear LW
  simp only[PyData.canLay0,PyData.depth] at b1 b2
  exact SeqAt.notIn_list_reads rb.1.reads ra.1.reads b1 a1 (by have:=min_le_left (PyData.depthAll xs) kx.depth; exact zf hu b2) (hQ s (.refl s))
 | isnot=>
  replace he:=iw he
  revert he; intro h
  refine aA (h) λx y M0 Ms he=>?_
  clear h
  subst M0
  subst Ms
  split at he<;>cases he
  cases Be ‹_›
  obtain ⟨ra,_⟩:=ra; obtain ⟨rfl,rfl⟩:=rb.1.isNone
  refine isNot_none ?_
  cases ra<;>exact hQ s (.refl s)
end
section
theorem EP.shift (kp:Kp s o) (e:EP (λa=>P a\/s.heap.get? a=none) o r v sc):EP P s r v sc:=by
 obtain ⟨j,as,a,b,c,d⟩:=e
 refine ⟨kp.trans j,as,a,λx i=>?_,λg=>aA (c g) λa n m l k=>(aM a n m (kp.none l) k),λg=>⟨λx i=>kp.none ((d g).1 x i),(d g).2⟩⟩
 rcases b x i with h | h
 ·exact h
 ·exact .inr (kp.none h)
theorem j6 (hXP:∀ c s s₁ x s',Kp s s₁->XP c s₁ x s'->XP c s x s') {a b:E}(Sa:SimE fns k C XP a) (Sb:SimE fns k C XP b)
  {ea eb:Expr}{A:Around}{env:Env}{σ:St}{P:Addr->Prop}{s:Shared}{Er:Value->Shared->Prop}{G:Value->Value->Shared->Prop}{f:V->V->Out (V×Mode)}
  (oa:okE env.scope.names a ea=true) (ob:okE env.scope.names b eb=true) (X:Cx fns k A P s.heap env σ)
  (nb:((ev C a σ).bind λx=>(ev C b σ).bind λy=>f x.1 y.1)≠.bad)
  (hE:∀ c,((ev C a σ).bind λx=>(ev C b σ).bind λy=>f x.1 y.1) = .exc c->∀ x s',XP c s x s'->Er x s') (hf:∀ x y c,f x y≠.exc c)
  (hG:∀ x y r,((ev C a σ).bind λx=>(ev C b σ).bind λy=>f x.1 y.1) = .ok r->f x y = .ok r->∀ va vb s₂ as bs,Kp s s₂->RV s₂.heap va x as->RV s₂.heap vb y bs ->
   (∀ a∈as,P a\/s.heap.get? a=none)->(∀ a∈bs,P a\/s.heap.get? a=none)->G va vb s₂) :
  wpAny (model prog w) A (eval ea env) (λva s₁=>wpAny (model prog w) A (eval eb env) (λvb s₂=>G va vb s₂) Er s₁) Er s:=by
 refine aP nb λp i=>?_
 refine KQ hXP Sa Sb oa ob X p (λx g=>(a8 (i x g)).1) (λc h=>hE c ?_) λx y g m va vb s₁ s₂ Ea Eb=>?_
 ·rcases h with h | ⟨x,g,h⟩
  ·rw[h]; rfl
  ·rw[g,Out.ok_bind,h]; rfl
 ·have v:=(a8 (i x g)).2 y m
  cases hr:f x.1 y.1 with
  | bad=>exact absurd hr v
  | exc c=>exact absurd hr (hf _ _ _)
  | ok r=>
   obtain ⟨l,as,o,u,_⟩:=Ea
   obtain ⟨j,bs,n,t,_⟩:=Eb
   exact hG x.1 y.1 r (by rw[g,Out.ok_bind,m,Out.ok_bind]; exact hr) hr va vb s₂ as bs (l.trans j) (o.k j.k) n u λz q=>(t z q).imp id l.none
theorem wf:dC o x y≠.exc c:=Ae c
theorem o7:ck o x y≠.exc c:=A2 c
theorem zU {ex:Expr}(h:okE ns (.bin o a b) ex=true):∃ l op r p,ex = .BinOp l op r p/\opB o op=true/\okE ns a l=true/\okE ns b r=true:=by
 replace h:=FW h
 revert h; refine λg=>Or.elim g (λi=>?_) (λh=>?_)
 ·clear g
  refine cq (i) λq n m k j h=>?_
  clear i
  subst j
  simp only[and_eq_true] at h
  exact (iy _ _ _ _ rfl h.1.1 h.1.2 h.2)
 ·cases h
theorem qY (hXP:∀ c s s₁ x s',Kp s s₁->XP c s₁ x s'->XP c s x s') {o:BOp}{a b:E}(Sa:SimE fns k C XP a) (Sb:SimE fns k C XP b):SimE fns k C XP (.bin o a b):=by
 intro ex A env σ P s Q Er m X n q t
 refine gd (zU m) λl op r p g ho z u=>?_
 (clear m; subst g)
 simp only[mw] at n q t
 refine wpAny_BinOp (j6 hXP Sa Sb (f:=λx y=>match x,y with | .d x,.d y=>dC o x y | _,_=>.bad) z u X n t (λx y c=>?_) λx y r hr hf va vb h as bs kp j i ha hb=>?_)
 ·split
  ·exact wf
  ·simp
 ·split at hf
  ·exact w7 ho hf j.1 j.2 i.1 i.2 ha hb λv s' e=>q r hr v s' (.shift kp e)
  ·exact nB hf
theorem rG {ex:Expr}(h:okE ns (.cmp o a b) ex=true):∃ l op r p,ex = .Compare l [op] [r] p/\opC o op=true/\okE ns a l=true/\okE ns b r=true:=by
 replace h:=Id h
 revert h; refine λg=>Or.elim g (λi=>?_) (λh=>?_)
 ·clear g
  refine cq (i) λq n m k j h=>?_
  clear i
  subst j
  simp only[and_eq_true] at h
  exact (iy _ _ _ _ rfl h.1.1 h.1.2 h.2)
 ·cases h
theorem AW:okE ns e (.Set es n p)=false:=by cases e<;>rfl
theorem oR (h:okE ns e x=true):behindInMarks op x=false:=by
 cases x<;>first | rfl | (rw[AW] at h; cases h)
theorem rc (hXP:∀ c s s₁ x s',Kp s s₁->XP c s₁ x s'->XP c s x s') {o:COp}{a b:E}(Sa:SimE fns k C XP a) (Sb:SimE fns k C XP b):SimE fns k C XP (.cmp o a b):=by
 intro ex A env σ P s Q Er ok X m n q
 refine gd (rG ok) λl op r p g ho oa j=>?_
 (clear ok; subst g)
 simp only[jZ] at m n q
 refine wpAny_Compare1 (j6 hXP Sa Sb (f:=λx y=>(ck o x y).bind λb=>.ok (sB b)) oa j X m q (λx y c h=>?_) λx y r hr hf va vb i as bs kp z v ha hb=>?_) (oR j)
 ·rcases bS h with h | ⟨_,_,h⟩
  ·exact o7 h
  ·cases h
 ·refine Out.bind_k hf λt h1 u=>?_
  (have oc:=Out.ok.inj u; clear u; (clear hf; subst oc))
  exact qe X.room.units ho h1 z v λs' e=>n _ hr _ s' (.bool (kp.trans e))
theorem po (hXP:∀ c s s₁ x s',Kp s s₁->XP c s₁ x s'->XP c s x s') {o:COp}{a b:E}(Sa:SimE fns k C XP a) (Sb:SimE fns k C XP b):SimT fns k C XP (.cmp o a b):=by
 intro ex A env z P s Q Er ok X nb hQ u
 refine gd (rG ok) λl op r p j ho oa q=>?_
 (clear ok; subst j)
 have g:=(a8 nb).1
 have i:∀ r,ev C (.cmp o a b) z = .ok r->∀ b,ar r.1 = .ok b->∀ s',Kp s s'->Q b s':=λr m t ht=>hQ t (by rw[m]; exact ht)
 simp only[jZ] at g i u
 refine wpAny_isTrue_Compare1 (j6 hXP Sa Sb (f:=λx y=>(ck o x y).bind λb=>.ok (sB b)) oa q X g u (λx y c h=>?_) λx y r m hf va vb n as bs kp ra rb ha hb=>?_) (oR q)
 ·rcases bS h with h | ⟨_,_,h⟩
  ·exact o7 h
  ·cases h
 ·refine Out.bind_k hf λt h1 v=>?_
  (have oc:=Out.ok.inj v; clear v; (clear hf; subst oc))
  exact qe X.room.units ho h1 ra rb λs' e=>wpAny_truthy_bool (i _ m _ rfl s' (kp.trans e))
theorem AV (Sa:SimE fns k C XP a):SimE fns k C XP (.neg a):=by
 intro ex A env σ P s Q Er j X u y z
 replace j:=zl j
 revert j; refine λg=>Or.elim g (λh=>?_) (λj=>?_)
 ·clear g
  refine av (h) λo n i j=>?_
  clear h
  subst i
  simp only[l8] at u y z
  refine aP u λn1 n2=>?_
  refine wpAny_UnaryOp (Sa j X n1 (λx v va l Ea=>?_) λc hc=>z c (by rw[hc]; rfl))
  have t:=n2 x v
  obtain ⟨ka,as,p,_⟩:=Ea
  obtain ⟨x,m⟩:=x
  dsimp only at t p
  split at t
  ·refine p.1.isInt_k λuu r q=>?_
   (clear p; subst r)
   subst q
   exact neg_int (y _ (by rw[v]; rfl) _ _ (.int (ka.trans (.toks l _))))
  ·exact absurd rfl t
 ·cases j
theorem sD (S:SimE fns k C XP e) (hp:∀ ns ex env (t:Sem Value),okE ns e ex=true->isTrue ex env t=(do let v <- t; standAt ex.pos; holding [v] (truthy v))):SimT fns k C XP e:=by
 intro ex A env z P s Q Er n X o u y
 refine wpAny_isTrue_value (S n X (a8 o).1 (λr p v s' E=>?_) y) (hp _ _ _ _ n)
 have h:=(a8 o).2 r p
 obtain ⟨x,m⟩:=r
 dsimp only at h
 unfold ar at h
 split at h
 ·obtain ⟨q,as,g,_⟩:=E
  refine ae (g) λl _=>?_
  clear g
  refine ae (l.isBool) λj i=>?_
  (clear l; subst j)
  subst i
  exact wpAny_truthy_bool (u _ (by rw[p]; rfl) _ q)
 ·exact absurd rfl h
theorem rD {ex:Expr}(h:okE ns (.not a) ex=true):∃ x p,ex = .UnaryOp .Not x p/\okE ns a x=true:=by
 replace h:=Hb h
 revert h; refine λg=>Or.elim g (λi=>?_) (λh=>?_)
 ·clear g
  refine av (i) λl k j h=>?_
  clear i
  subst j
  exact (aC _ _ rfl h)
 ·cases h
theorem rM (Sa:SimE fns k C XP a):SimE fns k C XP (.not a):=by
 intro ex A env σ P s Q Er o X q t u
 refine av (rD o) λx p l v=>?_
 (clear o; subst l)
 simp only[gL] at q t u
 refine aP q λz y=>?_
 refine wpAny_UnaryOp (Sa v X z (λx r va n Ea=>?_) λc hc=>u c (by rw[hc]; rfl))
 have i:=(a8 (y x r)).1
 obtain ⟨ka,as,j,_⟩:=Ea
 obtain ⟨x,m⟩:=x
 dsimp only at i j
 unfold ar at i
 split at i
 ·refine ae (j.1.isBool) λh g=>?_
  (clear j; subst h)
  subst g
  exact not_value (wpAny_truthy_bool (t _ (by rw[r]; rfl) _ _ (.bool ka)))
 ·exact absurd rfl i
theorem pG (Sa:SimT fns k C XP a):SimT fns k C XP (.not a):=by
 intro ex A u h P s Q Er ok X i j t
 refine av (rD ok) λx p g m=>?_
 (clear ok; subst g)
 have e:((ev C (.not a) h).bind λr=>ar r.1)=((ev C a h).bind λr=>ar r.1).bind λb=>.ok (!b):=by
  simp only[gL]
  cases ev C a h with
  | ok r=>simp only[Out.ok_bind]; cases ar r.1<;>rfl
  | exc c=>rfl
  | bad=>rfl
 rw[e] at i j
 refine wpAny_isTrue_Not (Sa m X (a8 i).1 (λb q l n=>j (!b) (by rw[q]; rfl) l n) λc o=>t c (by simp only[gL]; rw[o]; rfl))
end
section
variable (fns:Fns) (k:Nat) (C:Calls) (XP:String->Shared->Value->Shared->Prop)
noncomputable def SimA (e:E):Prop:=∀ {vs:List Expr}{pos:Pos}{A:Around}{env:Env}{σ:St}{P:Addr->Prop}{s:Shared}{Q:Value->Shared->Prop}{Er:Value->Shared->Prop},
 okA' env.scope.names e vs=true->Cx fns k A P s.heap env σ->((ev C e σ).bind λr=>ar r.1)≠.bad ->
 (∀ b,((ev C e σ).bind λr=>ar r.1) = .ok b->∀ s',Kp s s'->Q (.bool b) s')->(∀ c,ev C e σ = .exc c->∀ x s',XP c s x s'->Er x s') ->
 wpAny (model prog w) A (boolOp pos .And (evalEach vs env)) Q Er s
noncomputable def SimTA (e:E):Prop:=∀ {vs:List Expr}{A:Around}{env:Env}{σ:St}{P:Addr->Prop}{s:Shared}{Q:Bool->Shared->Prop}{Er:Value->Shared->Prop},
 okA' env.scope.names e vs=true->Cx fns k A P s.heap env σ->((ev C e σ).bind λr=>ar r.1)≠.bad ->
 (∀ b,((ev C e σ).bind λr=>ar r.1) = .ok b->∀ s',Kp s s'->Q b s')->(∀ c,ev C e σ = .exc c->∀ x s',XP c s x s'->Er x s') ->
 wpAny (model prog w) A (allTrue .And vs env) Q Er s
noncomputable def SimO (e:E):Prop:=∀ {vs:List Expr}{pos:Pos}{A:Around}{env:Env}{σ:St}{P:Addr->Prop}{s:Shared}{Q:Value->Shared->Prop}{Er:Value->Shared->Prop},
 okO' env.scope.names e vs=true->Cx fns k A P s.heap env σ->((ev C e σ).bind λr=>ar r.1)≠.bad ->
 (∀ b,((ev C e σ).bind λr=>ar r.1) = .ok b->∀ s',Kp s s'->Q (.bool b) s')->(∀ c,ev C e σ = .exc c->∀ x s',XP c s x s'->Er x s') ->
 wpAny (model prog w) A (boolOp pos .Or (evalEach vs env)) Q Er s
noncomputable def SimTO (e:E):Prop:=∀ {vs:List Expr}{A:Around}{env:Env}{σ:St}{P:Addr->Prop}{s:Shared}{Q:Bool->Shared->Prop}{Er:Value->Shared->Prop},
 okO' env.scope.names e vs=true->Cx fns k A P s.heap env σ->((ev C e σ).bind λr=>ar r.1)≠.bad ->
 (∀ b,((ev C e σ).bind λr=>ar r.1) = .ok b->∀ s',Kp s s'->Q b s')->(∀ c,ev C e σ = .exc c->∀ x s',XP c s x s'->Er x s') ->
 wpAny (model prog w) A (allTrue .Or vs env) Q Er s
end
section
variable {fns:Fns}{k:Nat}{C:Calls}{XP:String->Shared->Value->Shared->Prop}
theorem vZ (E:EP P s r v s') (h:ar r.1 = .ok t):v = .bool t/\Kp s s':=by
 obtain ⟨x,m⟩:=r
 dsimp only at h
 unfold ar at h
 split at h
 ·injection h
  obtain ⟨k,as,g,_⟩:=E
  refine ae (g) λi _=>?_
  clear g
  cases i
  exact ⟨rfl,k⟩
 ·exact nB h
theorem m0:ar v≠.exc c:=by unfold ar; split<;>simp
theorem tB (S:SimE fns k C XP e) {ex:Expr}
  (ok:okE env.scope.names e ex=true) (X:Cx fns k A P s.heap env σ) (nb:((ev C e σ).bind λr=>ar r.1)≠.bad)
  (hQ:∀ b,((ev C e σ).bind λr=>ar r.1) = .ok b->∀ s',Kp s s'->Q (.bool b) s') (hE:∀ c,ev C e σ = .exc c->∀ x s',XP c s x s'->Er x s'):wpAny (model prog w) A (eval ex env) Q Er s:=by
 refine aP nb λj i=>?_
 refine S ok X j (λr h v s' E=>?_) hE
 cases ht:ar r.1 with
 | bad=>exact absurd ht (i r h)
 | exc c=>exact absurd ht m0
 | ok t=>
  refine ae (vZ E ht) λg l=>?_
  (clear E; subst g)
  exact hQ t (by rw[h]; exact ht) s' l
theorem lw {M:Model}{A:Around}{pos:Pos}{op:BoolOp}{x:Sem Value}{Q:Value->Shared->Prop}{E:Value->Shared->Prop}{s:Shared}(h:wpAny M A x Q E s):wpAny M A (boolOp pos op [x]) Q E s:=h
theorem r3 {M:Model}{A:Around}{pos:Pos}{x y:Sem Value}{r:List (Sem Value)}{Q:Value->Shared->Prop}{E:Value->Shared->Prop}{s:Shared}
  (h:wpAny M A x (λv s₁=>wpAny M A (truthy v) (λt j=>if t then wpAny M A (boolOp pos .And (y::r)) Q E j else Q v j) E s₁) E s):wpAny M A (boolOp pos .And (x::y::r)) Q E s:=by
 rw[boolOp]
 ·refine wpAny_bind (wpAny_mono h (λv s₁ i=>wpAny_bind (wpAny_standAt (wpAny_bind (wpAny_holding (wpAny_mono i (λt j g=>?_) λuu uu e=>e))))) λuu uu e=>e)
  cases t with
  | false=>exact wpAny_pure g
  | true=>exact g
 ·simp
theorem vp {M:Model}{A:Around}{pos:Pos}{x y:Sem Value}{r:List (Sem Value)}{Q:Value->Shared->Prop}{E:Value->Shared->Prop}{s:Shared}
  (h:wpAny M A x (λv s₁=>wpAny M A (truthy v) (λt j=>if t then Q v j else wpAny M A (boolOp pos .Or (y::r)) Q E j) E s₁) E s):wpAny M A (boolOp pos .Or (x::y::r)) Q E s:=by
 rw[boolOp]
 ·refine wpAny_bind (wpAny_mono h (λv s₁ i=>wpAny_bind (wpAny_standAt (wpAny_bind (wpAny_holding (wpAny_mono i (λt j g=>?_) λuu uu e=>e))))) λuu uu e=>e)
  cases t with
  | false=>exact g
  | true=>exact wpAny_pure g
 ·simp
theorem okA'_inv (h:okA' ns b vs=true):(∃ u,vs=[u]/\okE ns b u=true)\/okA ns b vs=true:=by
 unfold okA' at h
 cases e:bX vs with
 | some u=>rw[e] at h; exact .inl (ah u (bg e) h)
 | none=>rw[e] at h; exact .inr h
theorem okA'_ne (h:okA' ns b vs=true):∃ y r,vs=y::r:=by
 cases vs with
 | nil=>cases b<;>exact Bool.noConfusion (show false=true from h)
 | cons y r=>exact (bN y r rfl)
theorem okO'_inv (h:okO' ns b vs=true):(∃ u,vs=[u]/\okE ns b u=true)\/okO ns b vs=true:=by
 unfold okO' at h
 cases e:bX vs with
 | some u=>rw[e] at h; exact .inl (ah u (bg e) h)
 | none=>rw[e] at h; exact .inr h
theorem okO'_ne (h:okO' ns b vs=true):∃ y r,vs=y::r:=by
 cases vs with
 | nil=>cases b<;>exact Bool.noConfusion (show false=true from h)
 | cons y r=>exact (bN y r rfl)
theorem mU (a b:E) (σ:St):((ev C (.and a b) σ).bind λr=>ar r.1)=((ev C a σ).bind λr=>ar r.1).bind λt=>if t then (ev C b σ).bind λr=>ar r.1 else .ok false:=by
 simp only[gV]
 cases ev C a σ with
 | ok r=>
  simp only[Out.ok_bind]
  cases ar r.1 with
  | ok t=>
   cases t with
   | false=>rfl
   | true=>
    simp only[Out.ok_bind,if_true]
    cases ev C b σ with
    | ok q=>simp only[Out.ok_bind]; cases ar q.1<;>rfl
    | exc c=>rfl
    | bad=>rfl
  | exc c=>rfl
  | bad=>rfl
 | exc c=>rfl
 | bad=>rfl
theorem pe (a b:E) (σ:St):((ev C (.or a b) σ).bind λr=>ar r.1)=((ev C a σ).bind λr=>ar r.1).bind λt=>if t then .ok true else (ev C b σ).bind λr=>ar r.1:=by
 simp only[jv]
 cases ev C a σ with
 | ok r=>
  simp only[Out.ok_bind]
  cases ar r.1 with
  | ok t=>
   cases t with
   | true=>rfl
   | false=>
    simp only[Out.ok_bind,false_eq_true,if_false]
    cases ev C b σ with
    | ok q=>simp only[Out.ok_bind]; cases ar q.1<;>rfl
    | exc c=>rfl
    | bad=>rfl
  | exc c=>rfl
  | bad=>rfl
 | exc c=>rfl
 | bad=>rfl
theorem rB (h:ev C (.and a b) σ = .ok r):∃ t,r=sB t:=by
 simp only[gV] at h
 refine Out.bind_k h λx _ h=>?_
 refine Out.bind_k h λt _ h=>?_
 cases t with
 | false=>exact ⟨false,by simpa using h.symm⟩
 | true=>
  simp only[if_true] at h
  refine Out.bind_k h λy _ h=>?_
  refine Out.bind_k h λu _ h=>?_
  injection h; exact ⟨u,rfl⟩
theorem vP (h:ev C (.or a b) σ = .ok r):∃ t,r=sB t:=by
 simp only[jv] at h
 refine Out.bind_k h λx _ h=>?_
 refine Out.bind_k h λt _ h=>?_
 cases t with
 | true=>exact ⟨true,by simpa using h.symm⟩
 | false=>
  simp only[false_eq_true,if_false] at h
  refine Out.bind_k h λy _ h=>?_
  refine Out.bind_k h λu _ h=>?_
  injection h; exact ⟨u,rfl⟩
theorem dz {o:Out (V×Mode)}{c:String}(h:(o.bind λr=>ar r.1) = .exc c):o = .exc c:=by
 rcases bS h with h | ⟨_,_,h⟩
 ·exact h
 ·exact absurd h m0
section
variable (hXP:∀ c s s₁ x s',Kp s s₁->XP c s₁ x s'->XP c s x s')
include hXP
theorem By (Sa:SimE fns k C XP a) (Ab:SimA fns k C XP b)
  (oa:okE env.scope.names a v=true) (ob:okA' env.scope.names b vs=true) (X:Cx fns k A P s.heap env σ) (nb:((ev C (.and a b) σ).bind λr=>ar r.1)≠.bad)
  (hQ:∀ t,((ev C (.and a b) σ).bind λr=>ar r.1) = .ok t->∀ s',Kp s s'->Q (.bool t) s') (hE:∀ c,ev C (.and a b) σ = .exc c->∀ x s',XP c s x s'->Er x s') :
  wpAny (model prog w) A (boolOp pos .And (evalEach (v::vs) env)) Q Er s:=by
 refine ba (okA'_ne ob) λy r o=>?_
 subst o
 have j:∀ c,((ev C (.and a b) σ).bind λr=>ar r.1) = .exc c->∀ x s',XP c s x s'->Er x s':=λc h=>hE c (dz h)
 rw[mU] at nb hQ j
 refine aP nb λn1 z=>?_
 refine r3 (tB Sa oa X n1 (λt n i g=>wpAny_truthy_bool ?_) λc q=>j c (by rw[q]; rfl))
 cases t with
 | false=>exact hQ false (by rw[n]; rfl) i g
 | true=>
  have u:=z true n
  simp only[if_true] at u ⊢
  refine Ab ob (X.k g.k) u (λt p l m=>hQ t (by rw[n]; simpa using p) l (g.trans m)) λc q x s' hx=>j c (by rw[n]; simp[q]) x s' (hXP c s i x s' g hx)
theorem orL (Sa:SimE fns k C XP a) (Ab:SimO fns k C XP b)
  (oa:okE env.scope.names a v=true) (ob:okO' env.scope.names b vs=true) (X:Cx fns k A P s.heap env σ) (nb:((ev C (.or a b) σ).bind λr=>ar r.1)≠.bad)
  (hQ:∀ t,((ev C (.or a b) σ).bind λr=>ar r.1) = .ok t->∀ s',Kp s s'->Q (.bool t) s') (hE:∀ c,ev C (.or a b) σ = .exc c->∀ x s',XP c s x s'->Er x s') :
  wpAny (model prog w) A (boolOp pos .Or (evalEach (v::vs) env)) Q Er s:=by
 refine ba (okO'_ne ob) λy r o=>?_
 subst o
 have j:∀ c,((ev C (.or a b) σ).bind λr=>ar r.1) = .exc c->∀ x s',XP c s x s'->Er x s':=λc h=>hE c (dz h)
 rw[pe] at nb hQ j
 refine aP nb λn1 z=>?_
 refine vp (tB Sa oa X n1 (λt n i g=>wpAny_truthy_bool ?_) λc q=>j c (by rw[q]; rfl))
 cases t with
 | true=>exact hQ true (by rw[n]; rfl) i g
 | false=>
  have u:=z false n
  simp only[false_eq_true,if_false] at u ⊢
  refine Ab ob (X.k g.k) u (λt p l m=>hQ t (by rw[n]; simpa using p) l (g.trans m)) λc q x s' hx=>j c (by rw[n]; simp[q]) x s' (hXP c s i x s' g hx)
theorem zE (Sa:SimT fns k C XP a) (Ab:SimTA fns k C XP b)
  (oa:okE env.scope.names a v=true) (ob:okA' env.scope.names b vs=true) (X:Cx fns k A P s.heap env σ) (nb:((ev C (.and a b) σ).bind λr=>ar r.1)≠.bad)
  (hQ:∀ t,((ev C (.and a b) σ).bind λr=>ar r.1) = .ok t->∀ s',Kp s s'->Q t s') (hE:∀ c,ev C (.and a b) σ = .exc c->∀ x s',XP c s x s'->Er x s') :
  wpAny (model prog w) A (allTrue .And (v::vs) env) Q Er s:=by
 have j:∀ c,((ev C (.and a b) σ).bind λr=>ar r.1) = .exc c->∀ x s',XP c s x s'->Er x s':=λc h=>hE c (dz h)
 rw[mU] at nb hQ j
 refine aP nb λy u=>?_
 refine wpAny_allTrue_And_cons (Sa oa X y (λt n i g=>?_) λc p=>j c (by rw[p]; rfl))
 cases t with
 | false=>exact hQ false (by rw[n]; rfl) i g
 | true=>
  have q:=u true n
  simp only[if_true] at q ⊢
  refine Ab ob (X.k g.k) q (λt o l m=>hQ t (by rw[n]; simpa using o) l (g.trans m)) λc p x s' z=>j c (by rw[n]; simp[p]) x s' (hXP c s i x s' g z)
theorem B3 (Sa:SimT fns k C XP a) (Ab:SimTO fns k C XP b)
  (oa:okE env.scope.names a v=true) (ob:okO' env.scope.names b vs=true) (X:Cx fns k A P s.heap env σ) (nb:((ev C (.or a b) σ).bind λr=>ar r.1)≠.bad)
  (hQ:∀ t,((ev C (.or a b) σ).bind λr=>ar r.1) = .ok t->∀ s',Kp s s'->Q t s') (hE:∀ c,ev C (.or a b) σ = .exc c->∀ x s',XP c s x s'->Er x s') :
  wpAny (model prog w) A (allTrue .Or (v::vs) env) Q Er s:=by
 have j:∀ c,((ev C (.or a b) σ).bind λr=>ar r.1) = .exc c->∀ x s',XP c s x s'->Er x s':=λc h=>hE c (dz h)
 rw[pe] at nb hQ j
 refine aP nb λy u=>?_
 refine wpAny_allTrue_Or_cons (Sa oa X y (λt n i g=>?_) λc p=>j c (by rw[p]; rfl))
 cases t with
 | true=>exact hQ true (by rw[n]; rfl) i g
 | false=>
  have q:=u false n
  simp only[false_eq_true,if_false] at q ⊢
  refine Ab ob (X.k g.k) q (λt o l m=>hQ t (by rw[n]; simpa using o) l (g.trans m)) λc p x s' z=>j c (by rw[n]; simp[p]) x s' (hXP c s i x s' g z)
theorem rf {ex:Expr}(h:okE ns (.and a b) ex=true):∃ v vs p,ex = .BoolOp .And (v::vs) p/\okE ns a v=true/\okA' ns b vs=true:=by
 replace h:=Iv h
 revert h; refine λg=>Or.elim g (λi=>?_) (λh=>?_)
 ·clear g
  refine bv (i) λm l k j h=>?_
  clear i
  subst j
  simp only[and_eq_true] at h
  exact (cF _ _ _ rfl h.1 h.2)
 ·cases h
theorem uF {ex:Expr}(h:okE ns (.or a b) ex=true):∃ v vs p,ex = .BoolOp .Or (v::vs) p/\okE ns a v=true/\okO' ns b vs=true:=by
 replace h:=J7 h
 revert h; refine λg=>Or.elim g (λi=>?_) (λh=>?_)
 ·clear g
  refine bv (i) λm l k j h=>?_
  clear i
  subst j
  simp only[and_eq_true] at h
  exact (cF _ _ _ rfl h.1 h.2)
 ·cases h
theorem Al (Sa:SimE fns k C XP a) (Ab:SimA fns k C XP b):SimE fns k C XP (.and a b):=by
 intro ex A env m P s Q Er ok X y hQ hE
 refine aV (rf hXP ok) λv vs p j x q=>?_
 (clear ok; subst j)
 rw[arm_eval_BoolOp]
 refine By hXP Sa Ab x q X (λh=>?_) (λt g n z=>?_) hE
 ·cases e:ev C (.and a b) m with
  | ok r=>rw[e] at h; obtain ⟨t,rfl⟩:=rB e; cases h
  | exc c=>rw[e] at h; cases h
  | bad=>exact y e
 ·refine Out.bind_k g λr l g=>?_
  refine ak (rB l) λu i=>?_
  subst i
  injection g
  exact hQ _ l _ n (.bool z)
theorem BY (Sa:SimE fns k C XP a) (Ab:SimO fns k C XP b):SimE fns k C XP (.or a b):=by
 intro ex A env m P s Q Er ok X y hQ hE
 refine aV (uF hXP ok) λv vs p j x q=>?_
 (clear ok; subst j)
 rw[arm_eval_BoolOp]
 refine orL hXP Sa Ab x q X (λh=>?_) (λt g n z=>?_) hE
 ·cases e:ev C (.or a b) m with
  | ok r=>rw[e] at h; obtain ⟨t,rfl⟩:=vP e; cases h
  | exc c=>rw[e] at h; cases h
  | bad=>exact y e
 ·refine Out.bind_k g λr l g=>?_
  refine ak (vP l) λu i=>?_
  subst i
  injection g
  exact hQ _ l _ n (.bool z)
theorem xb (Sa:SimT fns k C XP a) (Ab:SimTA fns k C XP b):SimT fns k C XP (.and a b):=by
 intro ex A o q P s Q Er h X l m n
 refine aV (rf hXP h) λv r p g j i=>?_
 (clear h; subst g)
 exact wpAny_isTrue_BoolOp (zE hXP Sa Ab j i X l m n)
theorem Ad (Sa:SimT fns k C XP a) (Ab:SimTO fns k C XP b):SimT fns k C XP (.or a b):=by
 intro ex A o q P s Q Er h X l m n
 refine aV (uF hXP h) λv r p g j i=>?_
 (clear h; subst g)
 exact wpAny_isTrue_BoolOp (B3 hXP Sa Ab j i X l m n)
end
theorem kI (S:SimE fns k C XP e) (h:∀ {vs:List Expr}{pos:Pos}{A:Around}{env:Env}{σ:St}{P:Addr->Prop}{s:Shared}{Q:Value->Shared->Prop}{Er:Value->Shared->Prop},
  okA env.scope.names e vs=true->Cx fns k A P s.heap env σ->((ev C e σ).bind λr=>ar r.1)≠.bad ->
  (∀ b,((ev C e σ).bind λr=>ar r.1) = .ok b->∀ s',Kp s s'->Q (.bool b) s')->(∀ c,ev C e σ = .exc c->∀ x s',XP c s x s'->Er x s')->wpAny (model prog w) A (boolOp pos .And (evalEach vs env)) Q Er s):SimA fns k C XP e:=by
 intro vs pos A env σ P s Q Er ok X m n o
 replace ok:=okA'_inv ok
 revert ok; refine λg=>Or.elim g (λi=>?_) (λok=>?_)
 ·clear g
  refine af (i) λl j ok=>?_
  clear i
  subst j
  exact lw (tB S ok X m n o)
 ·exact h ok X m n o
theorem kJ (S:SimE fns k C XP e) (h:∀ {vs:List Expr}{pos:Pos}{A:Around}{env:Env}{σ:St}{P:Addr->Prop}{s:Shared}{Q:Value->Shared->Prop}{Er:Value->Shared->Prop},
  okO env.scope.names e vs=true->Cx fns k A P s.heap env σ->((ev C e σ).bind λr=>ar r.1)≠.bad ->
  (∀ b,((ev C e σ).bind λr=>ar r.1) = .ok b->∀ s',Kp s s'->Q (.bool b) s')->(∀ c,ev C e σ = .exc c->∀ x s',XP c s x s'->Er x s')->wpAny (model prog w) A (boolOp pos .Or (evalEach vs env)) Q Er s):SimO fns k C XP e:=by
 intro vs pos A env σ P s Q Er ok X m n o
 replace ok:=okO'_inv ok
 revert ok; refine λg=>Or.elim g (λi=>?_) (λok=>?_)
 ·clear g
  refine af (i) λl j ok=>?_
  clear i
  subst j
  exact lw (tB S ok X m n o)
 ·exact h ok X m n o
theorem jA (S:SimT fns k C XP e) (h:∀ {vs:List Expr}{A:Around}{env:Env}{σ:St}{P:Addr->Prop}{s:Shared}{Q:Bool->Shared->Prop}{Er:Value->Shared->Prop},
  okA env.scope.names e vs=true->Cx fns k A P s.heap env σ->((ev C e σ).bind λr=>ar r.1)≠.bad ->
  (∀ b,((ev C e σ).bind λr=>ar r.1) = .ok b->∀ s',Kp s s'->Q b s')->(∀ c,ev C e σ = .exc c->∀ x s',XP c s x s'->Er x s')->wpAny (model prog w) A (allTrue .And vs env) Q Er s):SimTA fns k C XP e:=by
 intro vs A env σ P s Q Er ok X n m q
 replace ok:=okA'_inv ok
 revert ok; refine λg=>Or.elim g (λi=>?_) (λok=>?_)
 ·clear g
  refine af (i) λl j ok=>?_
  clear i
  subst j
  refine wpAny_allTrue_And_cons (S ok X n (λt p s' o=>?_) q)
  cases t with
  | false=>exact m _ p s' o
  | true=>exact wpAny_allTrue_And_nil (m _ p s' o)
 ·exact h ok X n m q
theorem jl (S:SimT fns k C XP e) (h:∀ {vs:List Expr}{A:Around}{env:Env}{σ:St}{P:Addr->Prop}{s:Shared}{Q:Bool->Shared->Prop}{Er:Value->Shared->Prop},
  okO env.scope.names e vs=true->Cx fns k A P s.heap env σ->((ev C e σ).bind λr=>ar r.1)≠.bad ->
  (∀ b,((ev C e σ).bind λr=>ar r.1) = .ok b->∀ s',Kp s s'->Q b s')->(∀ c,ev C e σ = .exc c->∀ x s',XP c s x s'->Er x s')->wpAny (model prog w) A (allTrue .Or vs env) Q Er s):SimTO fns k C XP e:=by
 intro vs A env σ P s Q Er ok X n m q
 replace ok:=okO'_inv ok
 revert ok; refine λg=>Or.elim g (λi=>?_) (λok=>?_)
 ·clear g
  refine af (i) λl j ok=>?_
  clear i
  subst j
  refine wpAny_allTrue_Or_cons (S ok X n (λt p s' o=>?_) q)
  cases t with
  | false=>exact wpAny_allTrue_Or_nil (m _ p s' o)
  | true=>exact m _ p s' o
 ·exact h ok X n m q
end
section
theorem EP.aList (kp:Kp s s') (hn:s.heap.get? a=none)
  (ha:s'.heap.get? a=some ⟨.type "list", none,.seq vs.toArray n,#[]⟩) (r:RA s'.heap vs xs as) (hl:xs.length<=2^22) (hz:∀ x∈xs,sz x=true) (hP:∀ b∈as,P b/\b≠a) :
  EP P s (.d (.list xs),fresh xs) (.ref a) s':=by
 refine ⟨kp,a::as,⟨.list ha r,sz_list.mpr ⟨hl,hz⟩⟩,?_,?_,?_⟩
 ·intro b h
  rcases mem_cons.mp h with rfl | h
  ·exact .inr hn
  ·exact .inl (hP b h).1
 ·intro _
  exact (aM _ _ rfl hn (λh=>(hP a h).2 rfl))
 ·intro i
  have g:xs.all sx=true:=by
   unfold fresh at i; dsimp only at i; split at i
   ·assumption
   ·cases i
  rw[r.sx_nil g]
  refine ⟨λb h=>?_,by simp⟩
  rcases mem_cons.mp h with rfl | h
  ·exact hn
  ·cases h
theorem R.isList (r:R h v (.list xs) as):∃ a vs n bs,v = .ref a/\h.get? a=some ⟨.type "list", Option.none,.seq vs.toArray n,#[]⟩/\RA h vs xs bs/\as=a::bs:=by
 cases r with
 | list e r=>exact (iy _ _ _ _ rfl e r rfl)
theorem R.isList_k {h:Heap}{v:Value}{xs:List PyData}{as:List Addr}{G:Prop}(r:R h v (.list xs) as) (k:∀ a vs n bs,v = .ref a->h.get? a=some ⟨.type "list", Option.none,.seq vs.toArray n,#[]⟩->RA h vs xs bs->as=a::bs->G):G:=gd (R.isList r) k
theorem R.isTup (r:R h v (.tuple xs) as):∃ a vs n,v = .ref a/\h.get? a=some ⟨.type "tuple", Option.none,.seq vs.toArray n,#[]⟩/\RA h vs xs as:=by
 cases r with
 | tuple e r=>exact (cF _ _ _ rfl e r)
theorem isL {h:Heap}{a:Addr}{vs:List Value}{n:Nat}(e:h.get? a=some ⟨.type "list", none,.seq vs.toArray n,#[]⟩):h.IsList a vs.toArray:=(aF _ e rfl (bV n rfl))
theorem ud:okE ns e (.Slice a b c p)=false:=by cases e<;>rfl
theorem qK:okE ns e (.Starred a p)=false:=by cases e<;>rfl
theorem fk (h:okE ns e x=true) (o i:Value):subscripted x false o i=operate [o,i] (getItem o i):=by
 cases x<;>first | rfl | (rw[ud] at h; cases h)
theorem aH (h:okE ns e x=true) (rest:List Expr) (env:Env):starEach (x::rest) env=(false,eval x env)::starEach rest env:=by
 cases x<;>first | rfl | (rw[qK] at h; cases h)
section
theorem E3 (r:R s.heap v y bs) (z:sz y=true) (h:∀ b∈bs,P b):EP P s (mk (.d y)) v s:=tx (x:=.d y) ⟨r,z⟩ h
def ItemV (h:Heap) (v:Value) (i:Int) (u:Value):Prop:=∃ (a:Addr) (T:String) (vs:List Value) (n k:Nat),v = .ref a/\h.get? a=some ⟨.type T,none,.seq vs.toArray n,#[]⟩/\bj i vs.length=some k/\vs[k]? = some u
theorem fC (h:bj i n=some k):(0<=i/\i<n/\k=i.toNat)\/(i<0/\-(n:Int)<=i/\k=(i+n).toNat):=by
 unfold bj at h
 by_cases h0:0<=i
 ·rw[if_pos h0] at h
  by_cases h1:i<n
  ·rw[if_pos h1] at h; exact .inl ⟨h0,h1,(Option.some.inj h).symm⟩
  ·rw[if_neg h1] at h; exact nN h
 ·rw[if_neg h0] at h
  by_cases h1:-(n:Int)<=i
  ·rw[if_pos h1] at h; exact .inr ⟨by exact F2 h0,h1,(Option.some.inj h).symm⟩
  ·rw[if_neg h1] at h; exact nN h
theorem wX {value slice:Expr}{a:Addr}{vs:List Value}{n k:Nat}{i:Int}{t:Tok}{v:Value}(hs:∀ o i,subscripted slice false o i=operate [o,i] (getItem o i)) (ea:s.heap.get? a=some ⟨.type "list", none,.seq vs.toArray n,#[]⟩) (hl:vs.length<=2^22)
  (hk:bj i vs.length=some k) (hv:vs[k]? = some v) (hQ:Q v s):wpAny (model prog w) A (subscriptTail value slice (.ref a) (.int i t)) Q Er s:=by
 rcases fC hk with ⟨h0,h1,rfl⟩ | ⟨h0,h1,rfl⟩
 ·exact tail_any (isL ea).typeIs slot_list_getitem.lookup (wpAny_getItem_list (isL ea) h0 (GH hl h1) (by simpa using hv) hQ) (hs _ _)
 ·refine tail_any (isL ea).typeIs slot_list_getitem.lookup (wpAny_getItem_list_neg (isL ea) h0 (by rw[size_toArray]; exact h1) (IU hl h1) ?_ hQ) (hs _ _)
  rw[size_toArray]
  simpa using hv
theorem An {value slice:Expr}{a:Addr}{vs:List Value}{n k:Nat}{i:Int}{t:Tok}{v:Value}(hs:∀ o i,subscripted slice false o i=operate [o,i] (getItem o i)) (ea:s.heap.get? a=some ⟨.type "tuple", none,.seq vs.toArray n,#[]⟩) (hl:vs.length<=2^22)
  (hk:bj i vs.length=some k) (hv:vs[k]? = some v) (hQ:Q v s):wpAny (model prog w) A (subscriptTail value slice (.ref a) (.int i t)) Q Er s:=by
 have h:seqIndex? i (vs.toArray).size=some k:=by
  rw[size_toArray]
  rcases fC hk with ⟨h0,h1,rfl⟩ | ⟨h0,h1,rfl⟩
  ·have j:¬ i<0:=by exact zy h0
   simp[seqIndex?,j,h0,h1]
  ·exact seqIndex_neg h0 h1
 have g:-(2^22)<=i/\i<2^22:=by rcases fC hk with ⟨h0,h1,_⟩ | ⟨h0,h1,_⟩<;>lia
 exact tail_any (ah _ ea rfl) slot_tuple_getitem.lookup (PySem.P.getItem_tuple ea (FE g) (HZ g) h (by simpa using hv) hQ) (hs _ _)
theorem pq (hs:∀ o i,subscripted slice false o i=operate [o,i] (getItem o i)) (he:elem x i=some y) (ra:R s.heap va x as) (za:sz x=true)
  (hQ:∀ v ds,ItemV s.heap va i v->R s.heap v y ds->sz y=true->(∀ b∈ds,b∈as)->Q v s):wpAny (model prog w) A (subscriptTail value slice va (.int i t)) Q Er s:=by
 unfold elem at he
 cases hx:asL x with
 | some xs=>
  rw[hx] at he
  cases bR hx
  refine bk he λk hk j=>?_
  refine ra.isList_k λa p n cs z m g u=>?_
  (clear ra; subst z)
  subst u
  refine aA (g.get j) λv ds l q hd=>?_
  have h:=sz_list.mp za
  have hl:=g.length
  rw[<- hl] at hk h
  exact wX hs m h.1 hk l (hQ v ds (tE a _ p n k rfl m hk l) q (h.2 y (mem_of_getElem? j)) λb hb=>.tail _ (hd b hb))
 | none=>
  rw[hx] at he
  cases ht:asT x with
  | none=>rw[ht] at he; exact nN he
  | some xs=>
   rw[ht] at he
   cases gK ht
   refine bk he λk hk j=>?_
   refine aV (ra.isTup) λa p n r m g=>?_
   (clear ra; subst r)
   refine aA (g.get j) λv ds l q hd=>?_
   have h:=sz_tuple.mp za
   have hl:=g.length
   rw[<- hl] at hk h
   exact An hs m h.1 hk l (hQ v ds (tE a _ p n k rfl m hk l) q (h.2 y (mem_of_getElem? j)) hd)
theorem wZ (hs:∀ o i,subscripted slice false o i=operate [o,i] (getItem o i)) (he:fj x i = .ok r) (ra:R s.heap va x as) (za:sz x=true) (rb:R s.heap vb i bs) (ha:∀ a∈as,P a)
  (hQ:∀ v s',EP P s r v s'->Q v s'):wpAny (model prog w) A (subscriptTail value slice va vb) Q Er s:=by
 refine a9 he λk hk he=>?_
 refine a9 he λy m he=>?_
 injection he
 cases cM hk
 refine rb.isInt_k λuu h g=>?_
 (clear rb; subst h)
 subst g
 exact pq hs m ra za λv q _ j z n=>hQ v s (E3 j z λb p=>ha b (n b p))
end
theorem xp:fj x y≠.exc c:=Bb c
theorem rh (hXP:∀ c s s₁ x s',Kp s s₁->XP c s₁ x s'->XP c s x s') {a b:E}(Sa:SimE fns k C XP a) (Sb:SimE fns k C XP b):SimE fns k C XP (.sub a b):=by
 intro ex A env σ P s Q Er g X q t u
 replace g:=DN g
 revert g; refine λh=>Or.elim h (λi=>?_) (λg=>?_)
 ·clear h
  refine bv (i) λn m l j g=>?_
  clear i
  subst j
  simp only[and_eq_true] at g
  simp only[j9] at q t u
  refine Subscript_ (j6 hXP Sa Sb (f:=λx y=>match x,y with | .d x,.d y=>fj x y | _,_=>.bad) g.1 g.2 X q u (λx y c=>?_) λx y r hr hf va vb o as bs kp p z ha hb=>?_)
  ·split
   ·exact xp
   ·simp
  ·split at hf
   ·exact wZ (fk g.2) hf p.1 p.2 z.1 ha λv s' e=>t r hr v s' (.shift kp e)
   ·exact nB hf
 ·cases g
theorem eL {M:Model}{A:Around}{env:Env}{e:Expr}{Q:Value->Shared->Prop}{E:Value->Shared->Prop}{s:Shared}(h:wpAny M A (eval e env) Q E s):wpAny M A (evalPart (some e) env) Q E s:=by rw[evalPart_some]; exact h
theorem b8 {M:Model}{A:Around}{env:Env}{Q:Value->Shared->Prop}{E:Value->Shared->Prop}{s:Shared}(h:Q .none s):wpAny M A (evalPart none env) Q E s:=by rw[evalPart_none]; exact wpAny_pure h
section
theorem iE {value slice:Expr}{xs ys:List PyData}{lo hi st:Option Int}(hs:∃ ops:Value->Value->List Value,∀ o i,subscripted slice false o i=operate (ops o i) (getItem o i)) (ra:R s.heap va (.list xs) as) (za:sz (.list xs)=true) (ha:∀ a∈as,P a)
  (pl:IsPart vl lo) (pu:IsPart vu hi) (pt:IsPart vt st) (h0:st≠some 0) (hy:∀ vs cs,RA s.heap vs xs cs->∃ ws ds,slicePick vs.toArray lo hi st=ws.toArray/\RA s.heap ws ys ds/\∀ b∈ds,b∈cs) (hz:∀ y∈ys,sz y=true) (hl:ys.length<=2^22)
  (hQ:∀ v s',EP P s (.d (.list ys),fresh ys) v s'->Q v s') :
  wpAny (model prog w) A (subscriptTail value slice va (.ref s.heap.objs.size)) Q Er {s with heap:=s.heap.push {cls:=.type "slice", data:=.fields #[vl,vu,vt] } }:=by
 refine ra.isList_k λa vs n cs m t j l=>?_
 (clear ra; subst m)
 subst l
 refine aA (hy vs cs j) λws ds e1 h u=>?_
 revert hs; intro g
 refine ak (g) λops hs=>?_
 clear g
 have k:=(sz_list.mp za).1
 have z:=j.length
 refine tail_any ((isL t).push _).typeIs slot_list_getitem.lookup (wpAny_getItem_list_slice ((isL t).push _) (Heap.IsSliceOf.new ..) pl pu pt h0 ?_ (by rw[size_toArray]; unfold sizeLine; exact x7 k z)) (hs _ _)
 rw[e1]
 refine hQ _ _ (EP.aList (n:=0) (as:=ds) ((Kp.push s _ s.toks).trans (Kp.push _ _ s.toks)) ?_ (Heap.get?_push_size _ rfl) ((h.keep λuu uu e=>Heap.get?_push_of_some _ e).keep λuu uu e=>Heap.get?_push_of_some _ e) hl hz λb p=>⟨ha b (.tail _ (u b p)),?_⟩)
 ·exact Heap.get?_none_of_le (by simp)
 ·refine ba (h.there b p) λuu uu e=>?_
  have r:=lt_size e
  intro q
  have x:b=s.heap.objs.size+1:=q.trans (size_push ..)
  rw[x] at r
  exact Nat.not_lt.mpr (le_succ _) r
end
theorem vX:iG x y≠.exc c:=by unfold iG; split<;>(try split)<;>simp
theorem wj:ie x y≠.exc c:=by unfold ie; split<;>(try split)<;>simp
set_option tactic.hygienic true in
theorem Bd (hXP:∀ c s s₁ x s',Kp s s₁->XP c s₁ x s'->XP c s x s') {a b:E}(Sa:SimE fns k C XP a) (Sb:SimE fns k C XP b):SimE fns k C XP (.slo a b):=by
 intro ex A env σ P s Q Er h X nb hQ hE
 replace h:=IA h
 revert h; refine λm=>Or.elim m (λn=>?_) (λh=>?_)
 ·clear m
  refine cq (n) λv l p pos q h=>?_
  clear n
  subst q
  simp only[and_eq_true] at h
  simp only[mB] at nb hQ hE
  have t:=j6 hXP Sa Sb (f:=λx y=>match x,y with | .d x,.d y=>iG x y | _,_=>.bad) (G:=λva vb g=>wpAny (model prog w) A (subscriptTail v (.Slice (some l) none none p) va (.ref g.heap.objs.size)) Q Er
    {g with heap:=g.heap.push {cls:=.type "slice", data:=.fields #[vb,.none,.none] } }) h.1 h.2 X nb hE (λx y c=>by split; exact vX; simp) λx y r hr hf va vb g as bs kp ra rb ha hb=>by
   split at hf
   ·unfold iG at hf
    split at hf
    ·split at hf<;>cases hf
     rename_i xs i hi
     revert rb; intro j
     refine ae (j) λrb _=>?_
     clear j
     refine rb.isInt_k λuu LD Ly=>?_
     (clear rb; subst LD)
     subst Ly
     refine iE (lo:=some i) (hi:=none) (st:=none) ⟨λo i=>[i,o],λuu uu=>rfl⟩ ra.1 ra.2 ha (.int _ _) .none .none (by simp) (λvs cs r=>?_) (λy hy=>(sz_list.mp ra.2).2 y (mem_of_mem_drop hy)) (by have:=(sz_list.mp ra.2).1; rw[length_drop]; exact EQ this) λv s' e=>hQ _ hr v s' (.shift kp e)
     refine af (r.drop i.toNat) λds rd hd=>?_
     refine (aM _ ds ?_ rd hd)
     have:=slicePick_from' vs.toArray i.toNat
     rw[toNat_of_nonneg hi.1] at this
     exact this
    ·exact nB hf
   ·exact nB hf
  exact Subscript_ (wpAny_mono t (λo s₁ z=>wpAny_Slice (eL (wpAny_mono z (λvb g u=>b8 (b8 u)) λuu uu e=>e))) λuu uu e=>e)
 ·cases h
set_option tactic.hygienic true in
theorem Ak (hXP:∀ c s s₁ x s',Kp s s₁->XP c s₁ x s'->XP c s x s') {a b:E}(Sa:SimE fns k C XP a) (Sb:SimE fns k C XP b):SimE fns k C XP (.shi a b):=by
 intro ex A env σ P s Q Er h X nb hQ hE
 replace h:=DG h
 revert h; refine λm=>Or.elim m (λn=>?_) (λh=>?_)
 ·clear m
  refine cq (n) λv l p pos q h=>?_
  clear n
  subst q
  simp only[and_eq_true] at h
  simp only[mI] at nb hQ hE
  have z:=j6 hXP Sa Sb (f:=λx y=>match x,y with | .d x,.d y=>ie x y | _,_=>.bad) (G:=λva vb g=>wpAny (model prog w) A (subscriptTail v (.Slice none (some l) none p) va (.ref g.heap.objs.size)) Q Er
    {g with heap:=g.heap.push {cls:=.type "slice", data:=.fields #[.none,vb,.none] } }) h.1 h.2 X nb hE (λx y c=>by split; exact wj; simp) λx y r hr hf va vb g as bs kp ra rb ha hb=>by
   split at hf
   ·unfold ie at hf
    split at hf
    ·split at hf<;>cases hf
     rename_i xs i hi
     revert rb; intro j
     refine ae (j) λrb _=>?_
     clear j
     refine rb.isInt_k λuu u t=>?_
     (clear rb; subst u)
     subst t
     refine iE (lo:=none) (hi:=some i) (st:=none) ⟨λo i=>[i,o],λuu uu=>rfl⟩ ra.1 ra.2 ha .none (.int _ _) .none (by simp) (λvs cs r=>?_) (λy hy=>(sz_list.mp ra.2).2 y (mem_of_mem_take hy)) (by have:=(sz_list.mp ra.2).1; rw[length_take]; exact EE this) λv s' e=>hQ _ hr v s' (.shift kp e)
     refine af (r.take i.toNat) λds rd hd=>?_
     refine (aM _ ds ?_ rd hd)
     have:=slicePick_upto' vs.toArray i.toNat
     rw[toNat_of_nonneg hi.1] at this
     exact this
    ·exact nB hf
   ·exact nB hf
  exact Subscript_ (wpAny_mono z (λo s₁ h₁=>wpAny_Slice (b8 (eL (wpAny_mono h₁ (λvb g h₂=>b8 h₂) λuu uu e=>e)))) λuu uu e=>e)
 ·cases h
theorem oJ:∀ l:List Value,(List.range l.length).filterMap (l[·]?)=l
 | []=>rfl
 | x::l=>by
  rw[length_cons,List.range_succ_eq_map,filterMap_cons,List.filterMap_map]
  exact congrArg (x :: ·) (oJ l)
theorem qf {α β:Type}{f g:α->Option β}:∀ {l:List α},(∀ x∈l,f x=g x)->l.filterMap f=l.filterMap g
 | [],_=>rfl
 | x::l,h=>by rw[filterMap_cons,filterMap_cons,h x (.head _),qf λy i=>h y (.tail _ i)]
theorem vQ (l:List Value):slicePick l.toArray none none (some (-1))=l.reverse.toArray:=by
 have j:sliceRange ((l.length:Int)-1) (-1) (-1)=(List.range l.length).map λ(k:Nat)=>((l.length:Int)-1 + -1*(k:Int)).toNat:=by
  unfold sliceRange
  dsimp only
  congr 2
  rw[if_neg (by decide)]
  by_cases h:(l.length:Int)-1 > -1
  ·rw[if_pos h,show (- -1:Int)=1 by decide,Int.ediv_one]; exact GT
  ·rw[if_neg h]; exact G3 h
 have i:slicePick l.toArray none none (some (-1))=((sliceRange ((l.length:Int)-1) (-1) (-1)).filterMap (l.toArray[·]?)).toArray:=rfl
 rw[i,j,List.filterMap_map]
 congr 1
 have g:=oJ l.reverse
 rw[List.length_reverse] at g
 rw[<- g]
 refine qf λk hk=>?_
 have hk:=List.mem_range.mp hk
 show l.toArray[((l.length:Int)-1 + -1*(k:Int)).toNat]? = _
 rw[List.getElem?_toArray,List.getElem?_reverse hk]
 congr 1
 exact FO
theorem AF (Sa:SimE fns k C XP a):SimE fns k C XP (.rev a):=by
 intro ex A env σ P s Q Er h X nb hQ hE
 replace h:=F5 h
 revert h; refine λj=>Or.elim j (λl=>?_) (λh=>?_)
 ·clear j
  refine fX (l) λv i n1 p1 p2 p pos n h=>?_
  clear l
  subst n
  simp only[and_eq_true,beq_iff_eq] at h
  refine ae (h) λu oa=>?_
  clear h
  subst u
  simp only[mD] at nb hQ hE
  refine aP nb λn1 n2=>?_
  refine Subscript_ (Sa oa X n1 (λx hx va g Ea=>?_) λc hc=>hE c (by rw[hc]; rfl))
  have q:=n2 x hx
  obtain ⟨ka,as,t,ha,ht,z⟩:=Ea
  clear ht z
  obtain ⟨x,m⟩:=x
  dsimp only at q t
  split at q
  ·unfold w6 at q
   split at q
   ·rename_i xs
    refine wpAny_Slice (b8 (b8 (eL (wpAny_UnaryOp (wpAny_Constant_int (neg_int ?_))))))
    refine iE (s:={g with toks:=g.toks+1+1 }) (P:=λa=>P a\/s.heap.get? a=none) (ys:=xs.reverse) (lo:=none) (hi:=none) (st:=some (-1)) ⟨λo i=>[o,i],λuu uu=>rfl⟩ t.1 t.2 ha .none .none (.int _ _) (by simp) (λvs cs r=>?_) (λy hy=>(sz_list.mp t.2).2 y (by simpa using hy)) (by simpa using (sz_list.mp t.2).1) λv s' e=>hQ _ (by rw[hx]; rfl) v s' (.shift (ka.trans (.toks g _)) e)
    refine af (r.reverse) λds rd hd=>?_
    exact (aM _ ds (vQ vs) rd hd)
   ·exact absurd rfl q
  ·exact absurd rfl q
 ·cases h
end
section
variable (fns:Fns) (k:Nat) (C:Calls) (XP:String->Shared->Value->Shared->Prop)
noncomputable def fx (es:Es):Prop:=∀ {xs:List Expr}{pos:Pos}{A:Around}{env:Env}{σ:St}{P:Addr->Prop}{s:Shared}{Q:List Value->Shared->Prop}{Er:Value->Shared->Prop},
 dk env.scope.names es xs=true->Cx fns k A P s.heap env σ->evs C es σ≠.bad ->
 (∀ l,evs C es σ = .ok l->∀ vs s',EPs P s l vs s'->Q vs s')->(∀ c,evs C es σ = .exc c->∀ x s',XP c s x s'->Er x s') ->
 wpAny (model prog w) A (spliced (backTo pos (starEach xs env))) Q Er s
end
section
variable {fns:Fns}{k:Nat}{C:Calls}{XP:String->Shared->Value->Shared->Prop}
theorem nC:fx fns k C XP .nil:=by
 intro q m A o p P s Q Er l X r n t
 replace l:=tG l
 revert l; refine λg=>Or.elim g (λi=>?_) (λl=>?_)
 ·clear g
  refine ae (i) λj l=>?_
  clear i
  subst j
  exact wpAny_items_nil (n [] rfl [] s ⟨.refl s,[],.nil,λuu h=>(nomatch h),λuu=>⟨λuu h=>(nomatch h),.nil⟩⟩)
 ·cases l
theorem RV.there (r:RV h v x as):∀ a∈as,∃ o,h.get? a=some o:=by
 intro a ha
 cases x with
 | d x=>obtain ⟨_,_,e⟩:=r.1.there a ha; exact ⟨_,e⟩
 | dic0=>obtain ⟨b,_,rfl,_,⟨o,_,_,e,_⟩,_⟩:=r; rw[mem_singleton.mp ha]; exact ⟨o,e⟩
 | dicI ks=>obtain ⟨b,_,rfl,_,⟨o,_,_,e,_⟩⟩:=r; rw[mem_singleton.mp ha]; exact ⟨o,e⟩
 | dicT ks=>obtain ⟨b,_,_,rfl,_,⟨o,_,_,e,_⟩,_⟩:=r; rw[mem_singleton.mp ha]; exact ⟨o,e⟩
 | rule c d n=>
  refine Ct (r) λx D o m bs t u p h1 i l h4 h5 z y g k=>?_
  clear r
  subst i
  refine bv (g) λj es ep e q=>?_
  clear g
  rcases mem_cons.mp ha with rfl | ha
  ·exact ⟨o,l⟩
  ·rcases mem_cons.mp ha with rfl | ha
   ·exact ⟨j,e⟩
   ·obtain ⟨_,_,e⟩:=k.2.2.2.2.1.there a ha; exact ⟨_,e⟩
theorem RVs.length (r:RVs h xs vs as):vs.length=xs.length:=by
 induction r with
 | nil=>rfl
 | cons a q ih=>exact congrArg (· + 1) ih
theorem k6 (hXP:∀ c s s₁ x s',Kp s s₁->XP c s₁ x s'->XP c s x s') {e:E}{es:Es}(S:SimE fns k C XP e) (Ss:fx fns k C XP es):fx fns k C XP (.cons e es):=by
 intro xs pos A env σ P s Q Er g X nb hQ hE
 replace g:=oP g
 revert g; refine λi=>Or.elim i (λj=>?_) (λg=>?_)
 ·clear i
  refine av (j) λx xs m g=>?_
  clear j
  subst m
  simp only[and_eq_true] at g
  simp only[bl] at nb hQ hE
  refine aP nb λn1 n2=>?_
  refine wpAny_items_cons (S g.1 X n1 (λr q v s₁ Ea=>?_) λc y=>hE c (by rw[y]; rfl)) (aH g.1 xs env)
  refine aP (n2 r q) λn3 _=>?_
  refine Ss g.2 (X.k Ea.keeps.k) n3 (λl hl vs n Eb=>?_) λc y z s' hz=>hE c (by rw[q,Out.ok_bind,y]; rfl) z s' (hXP c s s₁ z s' Ea.keeps hz)
  obtain ⟨p,as,ra,ha,_,hd⟩:=Ea
  obtain ⟨kb,bs,rb,hb,u⟩:=Eb
  refine hQ (r::l) (by rw[q,Out.ok_bind,hl]; rfl) (v::vs) n ⟨p.trans kb,as++bs,.cons (ra.k kb.k) rb,λa h=>(mem_append.mp h).elim (ha a) λh=>(hb a h).imp id p.none,λt=>?_⟩
  simp only[allDeep,List.all_cons,and_eq_true,decide_eq_true_eq] at t
  have d1:=hd t.1
  have d2:=u t.2
  refine ⟨λa h=>(mem_append.mp h).elim (d1.1 a) λh=>p.none (d2.1 a h),nodup_append.mpr ⟨d1.2,d2.2,λa h1 b h2 e=>?_⟩⟩
  subst e
  refine ak (ra.there a h1) λo ho=>?_
  rw[d2.1 a h2] at ho; exact nN ho
 ·cases g
theorem qb:∀ {l:List (V×Mode)}{ds:List PyData}{vs:List Value}{as:List Addr},bY l=some ds->RVs h (l.map (·.1)) vs as->RA h vs ds as/\∀ x∈ds,sz x=true
 | [],ds,_,_,e,r=>by
  cases r; simp[bY] at e; subst e
  exact ⟨.nil,λuu h=>nomatch h⟩
 | (.d x,m)::l,ds,_,_,e,r=>by
  simp only[bY,map_eq_some_iff] at e
  revert e; intro g
  refine af (g) λk e i=>?_
  clear g
  subst i
  cases r with
  | cons r q=>
   refine ae (qb e q) λa b=>?_
   exact ⟨.cons r.1 a,λy j=>(mem_cons.mp j).elim (λq=>q▸r.2) (b y)⟩
 | (.dic0,m)::l,ds,_,_,e,r=>by simp[bY] at e
 | (.dicI _,m)::l,ds,_,_,e,r=>by simp[bY] at e
 | (.dicT _,m)::l,ds,_,_,e,r=>by simp[bY] at e
 | (.rule _ _ _,m)::l,ds,_,_,e,r=>by simp[bY] at e
theorem gw:∀ {l:List (V×Mode)}{ds:List PyData},bY l=some ds->ds.length=l.length
 | [],ds,e=>by simp[bY] at e; subst e; rfl
 | (.d x,m)::l,ds,e=>by
  simp only[bY,map_eq_some_iff] at e
  revert e; intro g
  refine af (g) λi e h=>?_
  clear g
  subst h
  rw[length_cons,length_cons,gw e]
 | (.dic0,m)::l,ds,e=>by simp[bY] at e
 | (.dicI _,m)::l,ds,e=>by simp[bY] at e
 | (.dicT _,m)::l,ds,e=>by simp[bY] at e
 | (.rule _ _ _,m)::l,ds,e=>by simp[bY] at e
theorem iB:∀ {es:Es}{ns:List (Str×NameKind)}{xs:List Expr}{σ:St}{l:List (V×Mode)},dk ns es xs=true->evs C es σ = .ok l->l.length=xs.length
 | .nil,ns,xs,σ,l,ok,e=>by
  replace ok:=tG ok
  revert ok; refine λh=>Or.elim h (λj=>?_) (λok=>?_)
  ·clear h
   refine ae (j) λm ok=>?_
   clear j
   subst m
   simp only[bq] at e; injection e; rfl
  ·cases ok
 | .cons a es,ns,xs,σ,l,ok,e=>by
  replace ok:=oP ok
  revert ok; refine λg=>Or.elim g (λi=>?_) (λok=>?_)
  ·clear g
   refine av (i) λo n k ok=>?_
   clear i
   subst k
   simp only[and_eq_true] at ok
   simp only[bl] at e
   refine Out.bind_k e λx _ e=>?_
   refine Out.bind_k e λr q e=>?_
   injection e
   rw[length_cons,length_cons,iB ok.2 q]
  ·cases ok
set_option tactic.hygienic true in
theorem pW {es:Es}(Ss:fx fns k C XP es):SimE fns k C XP (.list es):=by
 intro ex A env σ P s Q Er g X nb hQ hE
 replace g:=BQ g
 revert g; refine λj=>Or.elim j (λm=>?_) (λg=>?_)
 ·clear j
  refine av (m) λu t o g=>?_
  clear m
  subst o
  simp only[and_eq_true,decide_eq_true_eq] at g
  simp only[cE] at nb hQ hE
  refine aP nb λn1 n2=>?_
  refine wpAny_List (Ss g.2 X n1 (λl x vs i Ea=>?_) λc hc=>hE c (by rw[hc]; rfl))
  have n3:=n2 l x
  split at n3
  ·rename_i ds p
   obtain ⟨q,as,y,ha,hd⟩:=Ea
   refine ae (qb p y) λr z=>?_
   have e1:=y.length
   rw[length_map] at e1
   have e2:=iB g.2 x
   have e3:=gw p
   refine ⟨by unfold sizeLine; exact yo g e1 e2,hQ (.d (.list ds),if allDeep l then .deep else .top) (by rw[x,Out.ok_bind,p]) _ _ ⟨q.trans (.push i _ _),i.heap.objs.size::as,⟨.list (Heap.get?_push_size _ rfl) (r.keep λuu uu e=>Heap.get?_push_of_some _ e),sz_list.mpr ⟨by exact zo g e2 e3,z⟩⟩,?_,?_,?_⟩⟩
   ·intro a h
    rcases mem_cons.mp h with rfl | h
    ·exact .inr (q.none (bi _))
    ·exact ha a h
   ·intro _
    exact (aM _ _ rfl (q.none (bi _)) (λh=>ba (r.there _ h) λuu uu e=>eA e rfl))
   ·intro v
    have n:allDeep l=true:=by
     dsimp only at v
     split at v
     ·assumption
     ·cases v
    refine ⟨λa h=>?_,nodup_cons.mpr ⟨λh=>ba (r.there _ h) λuu uu e=>eA e rfl,(hd n).2⟩⟩
    rcases mem_cons.mp h with rfl | h
    ·exact q.none (bi _)
    ·exact (hd n).1 a h
  ·exact absurd rfl n3
 ·cases g
set_option tactic.hygienic true in
theorem AU (Ss:fx fns k C XP es):SimE fns k C XP (.tup es):=by
 intro ex A env σ P s Q Er g X y hQ hE
 replace g:=EN g
 revert g; refine λh=>Or.elim h (λi=>?_) (λg=>?_)
 ·clear h
  refine bv (i) λu t q j g=>?_
  clear i
  subst j
  simp only[and_eq_true,decide_eq_true_eq] at g
  simp only[g8] at y hQ hE
  refine aP y λn1 n2=>?_
  refine wpAny_Tuple (Ss g.2 X n1 (λl v vs o Ea=>?_) λc hc=>hE c (by rw[hc]; rfl))
  have n3:=n2 l v
  split at n3
  ·rename_i ds n
   obtain ⟨ka,as,x,ha,hd⟩:=Ea
   refine ae (qb n x) λr z=>?_
   have e1:=x.length
   rw[length_map] at e1
   have e2:=iB g.2 v
   have e3:=gw n
   refine ⟨by unfold sizeLine; exact yo g e1 e2,hQ (.d (.tuple ds),if allDeep l then .deep else .sh) (by rw[v,Out.ok_bind,n]) _ _ ⟨ka.trans (.push o _ _),as,⟨.tuple (Heap.get?_push_size _ rfl) (r.keep λuu uu e=>Heap.get?_push_of_some _ e),sz_tuple.mpr ⟨by exact zo g e2 e3,z⟩⟩,ha,?_,?_⟩⟩
   ·intro m
    dsimp only at m
    split at m<;>cases m
   ·intro m
    have p:allDeep l=true:=by
     dsimp only at m
     split at m
     ·assumption
     ·cases m
    exact hd p
  ·exact absurd rfl n3
 ·cases g
theorem xE:SimE fns k C XP .edic:=by
 intro ex A p q P s Q Er l X r o t
 replace l:=BL l
 revert l; refine λg=>Or.elim g (λi=>?_) (λl=>?_)
 ·clear g
  refine af (i) λm j l=>?_
  clear i
  subst j
  have n:=modules_low X.ge.nolim
  refine wpAny_Dict_empty (o (.dic0,.deep) rfl _ _ ⟨.push s _ _,[s.heap.objs.size],(ic _ rfl rfl (beq_eq_false_iff_ne.mpr (ne_of_gt n)) (Heap.DictOf.new _) ?_),λa h=>.inr ?_,λh=>(by cases h),λuu=>⟨λa h=>?_,by simp⟩⟩)
  ·exact (fo _ (#[]) 0 (Heap.get?_push_size _ rfl) ⟨rfl,rfl,rfl⟩ rfl rfl (λuu h=>(nomatch h)) .nil)
  ·rw[mem_singleton.mp h]; exact bi _
  ·rw[mem_singleton.mp h]; exact bi _
 ·cases l
end
theorem fS {α:Type}{r:α->α->Prop}(anti:∀ a b,r a b->r b a->a=b):∀ {l l':List α},l.Perm l'->l.Pairwise r->l'.Pairwise r->l=l'
 | [],l',p,_,_=>by rw[p.nil_eq]
 | a::l,[],p,_,_=>by cases p.eq_nil
 | a::l,b::l',p,h,h'=>by
  refine ae (List.pairwise_cons.mp h) λk j=>?_
  refine ae (List.pairwise_cons.mp h') λg i=>?_
  have e:a=b:=by
   rcases mem_cons.mp (p.mem_iff.mp (mem_cons_self (a:=a) (l:=l))) with e | e
   ·exact e
   ·rcases mem_cons.mp (p.mem_iff.mpr (mem_cons_self (a:=b) (l:=l'))) with e' | e'
    ·exact e'.symm
    ·exact anti a b (k b e') (g a e)
  (clear h' g; subst e)
  rw[fS anti ((List.perm_cons a).mp p) j i]
theorem hW (ns:List Int):(ns.mergeSort (λa b=>decide (a<=b))).Pairwise (·<=·):=by
 have:=List.pairwise_mergeSort (le:=λa b:Int=>decide (a<=b)) (λa b c h1 h2=>by simp at *; exact zx h1 h2) (λa b=>by simp; exact y0) ns
 exact this.imp (by intro a b h; simpa using h)
theorem nK:∀ {xs:List Int}{m:Int},jo xs=some m->m∈xs/\∀ x∈xs,x<=m
 | [],_,h=>by simp[jo] at h
 | x::xs,m,h=>by
  simp only[jo,Option.some.injEq] at h
  have key:∀ (l:List Int) (a:Int),(l.foldl (λa b=>if a<b then b else a) a=a\/l.foldl (λa b=>if a<b then b else a) a∈l)/\a<=l.foldl (λa b=>if a<b then b else a) a/\∀ y∈l,y<=l.foldl (λa b=>if a<b then b else a) a:=by
   intro l
   induction l with
   | nil=>intro a; simp
   | cons b l ih=>
    intro a
    rw[List.foldl_cons]
    refine aG (ih (if a<b then b else a)) λh1 h2 h3=>?_
    refine ⟨?_,?_,λy hy=>?_⟩
    ·rcases h1 with h1 | h1
     ·rw[h1]; split<;>simp
     ·exact .inr (.tail _ h1)
    ·split at h2<;>rename_i hc<;>simp only[hc,if_true,if_false]<;>lia
    ·rcases mem_cons.mp hy with rfl | hy
     ·split at h2<;>rename_i hc<;>simp only[hc,if_true,if_false]<;>lia
     ·exact h3 y hy
  refine aG (key xs x) λh1 h2 h3=>?_
  rw[h] at h1 h2 h3
  exact ⟨h1.elim (λe=>e▸.head _) (.tail _),λy hy=>(mem_cons.mp hy).elim (λe=>e▸h2) (h3 y)⟩
section
theorem fP {env:Env}{x:String}(h:cU env.scope.names x=true):env.kindOf (Str.ofString x)=some .globalImplicit:=by
 unfold cU at h
 exact beq_iff_eq.mp h
theorem nd (h:aX x=true):(Str.ofString x==("__debug__" : Str))=false:=by
 unfold aX at h
 simp only[and_eq_true,Bool.not_eq_true'] at h
 exact h.1
section
theorem iA {id:String}{args:List Expr}(eok:EnvOk env) (ge:GE fns s.heap) (hm:id∈bnames) (hg:cU env.scope.names id=true) (hd:(Str.ofString id==("__debug__" : Str))=false)
  (h:wpAny (model prog w) A (callWith pos (bval id) [] (backTo pos (starEach args env)) []) Q Er s):wpAny (model prog w) A (eval (.Call (.Name (Str.ofString id) p) args [] pos) env) Q Er s:=by
 refine aq (ge.glob) λl i _ g=>?_
 refine af (ge.blt) λm k j=>?_
 exact wpAny_Call_NameR (Calls.Name_function_global eok.kind (fP hg) (Calls.loadGlobal_builtin (eok.glob▸i) (g id hm) (eok.blt▸k) (j id hm) h) hd)
theorem oU {id:String}{x:Expr}{xs:List Expr}{e:E}(ns:List (Str×NameKind)) (hx:okE ns e x=true) (ha:(backTo pos (starEach xs env)).any (·.1)=false)
  (h:wpAny (model prog w) A (spliced (backTo pos (starEach (x::xs) env))) (λvs s₁=>wpAny (model prog w) A (call (.builtin id) vs) Q Er s₁) Er s):wpAny (model prog w) A (callWith pos (.builtin id) [] (backTo pos (starEach (x::xs) env)) []) Q Er s:=by
 rw[aH hx] at h ⊢
 exact Calls.callWith_builtin ha (Calls.evalArgs_plain (wpAny_mono h (λvs s₁ g=>g) λuu uu e=>e))
theorem iK (ns:List (Str×NameKind)) (hx:okE ns e x=true) (ha:(backTo pos (starEach xs env)).any (·.1)=false)
  (h:wpAny (model prog w) A (spliced (backTo pos (starEach (x::xs) env))) (λvs s₁=>wpAny (model prog w) A (call (.type T) vs) Q Er s₁) Er s):wpAny (model prog w) A (callWith pos (.type T) [] (backTo pos (starEach (x::xs) env)) []) Q Er s:=by
 rw[aH hx] at h ⊢
 exact PySem.callWith_type ha (Calls.evalArgs_plain (wpAny_mono h (λvs s₁ g=>g) λuu uu e=>e))
theorem jt (ns:List (Str×NameKind)) (hx:okE ns e x=true) (h:wpAny (model prog w) A (eval x env) (λv s₁=>G [v] s₁) Er s):wpAny (model prog w) A (spliced (backTo pos (starEach [x] env))) G Er s :=
 wpAny_items_cons (wpAny_mono h (λuu uu g=>wpAny_items_nil g) λuu uu e=>e) (aH hx [] env)
end
section
theorem wg (he:b1D .len x = .ok r) (ra:RV s.heap va x as) (hQ:∀ v s',EP P s r v s'->Q v s'):wpAny (model prog w) A (call (.builtin "len") [va]) Q Er s:=by
 replace he:=aU he
 revert he; intro i
 refine af (i) λy z he=>?_
 clear i
 cases b9 z
 cases ht:asT y with
 | none=>
  simp only[ht] at he
  replace he:=aU he
  revert he; intro h
  refine af (h) λt hx he=>?_
  clear h
  cases bR hx
  injection he
  refine ra.1.isList_k λa u n cs m q g l=>?_
  subst m
  subst l
  have j:=g.length
  have p:=(sz_list.mp ra.2).1
  refine Calls.call_len_list (isL q) (by rw[size_toArray]; exact Gm j p) (hQ _ _ ?_)
  rw[size_toArray,j]
  exact .int (.toks s _)
 | some t=>
  simp only[ht] at he
  injection he
  cases gK ht
  refine aV (ra.1.isTup) λa u n k q g=>?_
  subst k
  have j:=g.length
  have p:=(sz_tuple.mp ra.2).1
  refine PySem.P.len_tuple q (by rw[size_toArray]; exact Ia j p) (hQ _ _ ?_)
  rw[size_toArray,j]
  exact .int (.toks s _)
theorem mZ (hT:T = "list" \/ T = "tuple") (ea:s.heap.get? a=some ⟨.type T,none,.seq vs.toArray n,#[]⟩) (ra:RA s.heap vs xs cs) (hl:xs.length<=2^22)
  (hz:∀ x∈xs,sz x=true) (ha:∀ b∈cs,P b) (hQ:∀ v s',EP P s (.d (.list xs),fresh xs) v s'->Q v s'):wpAny (model prog w) A (call (.type "list") [.ref a]) Q Er s:=by
 have e:=ra.length
 refine call_list_seq a hT ea rfl rfl (λj l h k=>hQ _ _ ?_) (by rw[size_toArray]; unfold sizeLine; exact x7 hl e)
 have g:Kp s {s with heap:=j }:=(aC j s.toks rfl (.of h))
 refine EP.aList g (bi _) k (ra.keep h) hl hz λb i=>⟨ha b i,?_⟩
 refine ba (ra.there b i) λuu uu e=>?_
 exact eA e
theorem vU (ra:R s.heap va (.list xs) as) (za:sz (.list xs)=true) (ha:∀ b∈as,P b) (hQ:∀ v s',EP P s (.d (.tuple xs),if xs.all sx then .deep else .sh) v s'->Q v s'):wpAny (model prog w) A (call (.type "tuple") [va]) Q Er s:=by
 refine ra.isList_k λa t n z l y g k=>?_
 (clear ra; subst l)
 subst k
 have e:=g.length
 have r:=sz_list.mp za
 refine call_tuple_list (isL y) (λx p=>hQ _ _ ?_) (by rw[size_toArray]; unfold sizeLine; exact Fi e r)
 have m:Kp s {s with heap:=x.push {cls:=.type "tuple", data:=.seq t.toArray } }:=(aC _ s.toks rfl (.of λb o q=>Heap.get?_push_of_some _ (p b o q)))
 refine ⟨m,z,⟨.tuple (Heap.get?_push_size _ rfl) ((g.keep p).keep λuu uu e=>Heap.get?_push_of_some _ e),sz_tuple.mpr r⟩,λb u=>.inl (ha b (.tail _ u)),λi=>?_,λi=>?_⟩
 ·dsimp only at i; split at i<;>cases i
 ·have j:xs.all sx=true:=by
   dsimp only at i
   split at i
   ·assumption
   ·cases i
  rw[g.sx_nil j]
  exact ⟨λuu h=>(nomatch h),.nil⟩
theorem sG (ra:R s.heap va (.list xs) as) (hi:aY xs=some ns) (h64:xs.length<64) (hQ:∀ v s',EP P s (.d (aa (ns.mergeSort (λa b=>decide (a<=b)))),.deep) v s'->Q v s') :
  wpAny (model prog w) A (call (.builtin "sorted") [va]) Q Er s:=by
 refine ra.isList_k λa vs n cs m ea i l=>?_
 (clear ra; subst m)
 subst l
 have e:=i.length
 refine aG (i.ints hi) λy k j=>?_
 subst k
 subst j
 rw[length_map] at e h64
 refine sorted_ints (isL ea) y (yE h64 e) λg o z r p=>hQ _ _ ?_
 have e':o=ns.mergeSort (λa b=>decide (a<=b)):=fS (λa b h h'=>Int.le_antisymm h h') (r.trans (mergeSort_perm ns _).symm) p (hW ns)
 (clear r p; subst e')
 refine ak (sortedAll_at s.heap vs g) λe x=>?_
 have u:=List.length_mergeSort (le:=λa b:Int=>decide (a<=b)) ns
 have t:EP P s (.d (.list ((ns.mergeSort (λa b=>decide (a<=b))).map .int)),fresh ((ns.mergeSort (λa b=>decide (a<=b))).map .int)) (.ref (s.heap.objs.size+1)) {s with heap:=sortedAll s.heap vs g } :=
  EP.aList (vs:=g.toList) (n:=e) (as:=[]) (aC _ s.toks rfl (.of λuu uu q=>sortedAll_old q)) (Heap.get?_none_of_le (le_succ _)) (by simpa [seqObj] using x) (RA.of_ints z) (by rw[length_map,u]; exact yZ h64) (iz _) λuu h=>(nomatch h)
 have ef:fresh ((ns.mergeSort (λa b=>decide (a<=b))).map .int) = .deep:=by
  unfold fresh
  rw[if_pos]
  rw[all_map,all_eq_true]
  intro _ _; rfl
 rw[ef] at t
 exact t
end
end
section
structure ItP (A:Around) (P:Addr->Prop) (s:Shared) (ds:List PyData) (m:Mode) (it:Value) (s':Shared):Prop where
 keeps:Kp s s'
 walk:∃ (I:Addr) (fp wr:List Addr) (Pw:Nat->Value->Prop) (St:Nat->Heap->Prop) (F:List Addr),it = .ref I/\Walks prog w A I fp wr ds.length Pw St/\St 0 s'.heap /\
  (∀ b∈wr,s.heap.get? b=none/\b∉F/\∀ i h,St i h->∃ o,h.get? b=some o/\(hardB o=true/\o.cls≠.type "code" /\ ∀ C,o.cls≠.ref C)/\∃ fs,o.data = .fields fs)/\(∀ b∈fp,b∈wr\/b∈F)/\(∀ i v,Pw i v->∀ d,ds[i]? = some d->∃ bs,R s'.heap v d bs/\∀ b∈bs,b∈F) /\
  (∀ b∈F,∃ vs n,s'.heap.get? b=some ⟨.type "list", none,.seq vs n,#[]⟩)/\(∀ a∈F,P a\/s.heap.get? a=none)/\(m = .deep->∀ a∈F,s.heap.get? a=none)
 small:ds.length<=2^22/\∀ d∈ds,sz d=true
variable (fns:Fns) (k:Nat) (C:Calls) (XP:String->Shared->Value->Shared->Prop)
noncomputable def d9 (it:It):Prop:=∀ {ex:Expr}{A:Around}{env:Env}{σ:St}{P:Addr->Prop}{s:Shared}{Q:Value->Shared->Prop}{Er:Value->Shared->Prop},
 gu env.scope.names it ex=true->Cx fns k A P s.heap env σ->bh C it σ≠.bad ->
 (∀ q,bh C it σ = .ok q->∀ i s',ItP A P s q.1 q.2 i s'->Q i s')->(∀ c,bh C it σ = .exc c->∀ x s',XP c s x s'->Er x s') ->
 wpAny (model prog w) A (eval ex env) (λx g=>wpAny (model prog w) A (pyIter x) Q Er g) Er s
end
section
theorem tK (k₀:Kp s₀ s) (hh:A.handled=none) (ra:R s.heap va (.list xs) as) (za:sz (.list xs)=true)
  (ha:∀ a∈as,P a\/s₀.heap.get? a=none) (hm:m = .deep->∀ a∈as,s₀.heap.get? a=none) (hQ:∀ it s',ItP A P s₀ xs m it s'->Q it s'):wpAny (model prog w) A (pyIter va) Q Er s:=by
 refine ra.isList_k λa j n cs p x g l=>?_
 subst p
 subst l
 refine wpAny_pyIter_list (isL x) (hQ _ _ ⟨k₀.trans (.push s _ _),⟨s.heap.objs.size,[s.heap.objs.size,a],[s.heap.objs.size],(λi v=>j.toArray[i]? = some v),(λi h=>h.IsListIter s.heap.objs.size a i/\h.IsList a j.toArray),a::cs,rfl,?_,⟨(aF _ (Heap.get?_push_size _ rfl) rfl rfl),(isL x).push _⟩,?_,?_,?_,?_,ha,hm⟩,sz_list.mp za⟩)
 ·have:=Walks.list (prog:=prog) (w:=w) (A:=A) hh s.heap.objs.size a (eA x) j.toArray
  have e:j.toArray.size=xs.length:=by rw[size_toArray,g.length]
  rw[e] at this
  exact this
 ·intro b hb
  rw[mem_singleton.mp hb]
  refine ⟨k₀.none (bi _),λh=>?_,λi h r=>?_⟩
  ·refine ba (ra.there _ h) λuu uu e=>?_
   exact eA e rfl
  ·refine aq (r.1) λo e1 u e2=>?_
   exact (aF o e1 ⟨by unfold hardB; rw[u]; decide,by rw[u]; decide,λuu q=>by rw[u] at q; cases q⟩ (bV _ e2))
 ·intro b hb
  rcases mem_cons.mp hb with rfl | hb
  ·exact .inl (.head _)
  ·rw[mem_singleton.mp hb]; exact .inr (.head _)
 ·intro i v hv d hd
  refine aA (g.get' (by simpa using hv)) λd' bs t h2 h3=>?_
  rw[hd] at t; injection t
  exact (ah bs (h2.keep λuu uu e=>Heap.get?_push_of_some _ e) (λb hb=>.tail _ (h3 b hb)))
 ·intro b hb
  refine ba (ra.there b hb) λk z e=>?_
  exact (bN k z (Heap.get?_push_of_some _ e))
theorem tz {a b:Int}{i:Nat}{d:PyData}(h:(di a b)[i]? = some d):d = .int (a+i):=by
 unfold di at h
 rw[List.getElem?_map] at h
 refine bG h λj m g=>?_
 subst g
 have:j=i:=by
  have l:=(List.getElem?_eq_some_iff.mp m)
  refine ak (l) λn k=>?_
  clear l
  rw[List.getElem_range] at k
  exact k.symm
 rw[this]
theorem iT (a b:Int):(di a b).length=(b-a).toNat:=by simp[di]
theorem tW (a b:Int):∀ d∈di a b,sz d=true:=by
 intro d h
 unfold di at h
 refine aK h λj _ g=>?_
 (clear h; subst g)
 rfl
theorem ll (o:Kp s₀ s) (hh:A.handled=none) (hr:IsRange s.heap r a b 1 t u v)
  (hn:(b-a).toNat<=lim) (ha:-(2^60)<=a/\a<2^60/\-(2^60)<=b/\b<2^60) (hQ:∀ it s',ItP A P s₀ (di a b) .deep it s'->Q it s'):wpAny (model prog w) A (pyIter (.ref r)) Q Er s:=by
 have g:Builtin.Range.rangeSize a b 1=((b-a).toNat:Int):=by rw[rangeSize_one]; split<;>lia
 refine wpAny_pyIter_range hr (small_one (Da ha) (Db ha) (HP ha) (Gg ha)) (hQ _ _ ⟨o.trans (.push s _ _),⟨s.heap.objs.size,[s.heap.objs.size],[s.heap.objs.size],(λi v=>∃ t,v = .int (a+i*1) t),(λi h=>IsRangeIter h s.heap.objs.size (a+(i:Nat)*1) (((b-a).toNat:Int)-(i:Nat)) 1),[],rfl,?_,?_,?_,λb k=>.inl k,?_,λuu h=>(nomatch h),λuu h=>(nomatch h),λuu uu h=>(nomatch h)⟩,⟨by rw[iT]; unfold lim at hn; exact C0 hn,tW a b⟩⟩)
 ·have:=Walks.range (prog:=prog) (w:=w) (A:=A) hh s.heap.objs.size a 1 (b-a).toNat
  rw[iT]
  exact this
 ·have n:(a+((0:Nat):Int)*1)=a:=by simp
  have m:(((b-a).toNat:Int)-((0:Nat):Int))=Builtin.Range.rangeSize a b 1:=by rw[g]; simp
  show IsRangeIter _ _ (a+((0:Nat):Int)*1) (((b-a).toNat:Int)-((0:Nat):Int)) 1
  rw[n,m]
  exact Heap.get?_push_size _ rfl
 ·intro b k
  rw[mem_singleton.mp k]
  exact ⟨o.none (bi _),λh=>(nomatch h),λi h j=>(aF _ j ⟨rfl,by simp⟩ (bV _ rfl))⟩
 ·rintro i v ⟨t,rfl⟩ d l
  rw[tz l]
  exact (ah ([]) (by simpa using R.int (a+i) t) (λuu h=>(nomatch h)))
set_option tactic.hygienic true in
theorem AO (hf:fns.hand=false) (Sa:SimE fns k C XP a):d9 fns k C XP (.e a):=by
 intro ex A j σ P s Q Er i X n q t
 replace i:okE j.scope.names a ex=true:=i
 simp only[g7,fH,fO] at n q t
 refine aP n λn1 z=>?_
 refine Sa i X n1 (λr o v l Ea=>?_) λc hc=>t c (by rw[hc]; rfl)
 have g:=z r o
 obtain ⟨x,m⟩:=r
 obtain ⟨ka,as,h,ha,ht,p⟩:=Ea
 unfold itV at g
 dsimp only at g h p
 split at g
 ·rename_i u hx
  cases eZ hx
  exact tK (m:=m) ka (X.room.1 hf) h.1 h.2 ha (λhm=>(p hm).1) λit y I=>q (u,m) (by rw[o]; rfl) it y I
 ·exact absurd rfl g
theorem mP (h:cu a b = .ok q):q=(di a b,.deep)/\(b-a).toNat<=lim/\-(2^60)<=a/\a<2^60/\-(2^60)<=b/\b<2^60:=by
 unfold cu at h
 split at h
 ·rename_i i; injection h; exact ⟨rfl,i⟩
 ·exact nB h
theorem lq:cu a b≠.exc c:=by unfold cu; split<;>simp
set_option tactic.hygienic true in
theorem wD (hf:fns.hand=false) (Sn:SimE fns k C XP n):d9 fns k C XP (.r1 n):=by
 intro ex A env σ P s Q Er ok X nb hQ hE
 replace ok:=La ok
 revert ok; refine λg=>Or.elim g (λh=>?_) (λok=>?_)
 ·clear g
  refine cq (h) λz y u t j ok=>?_
  clear h
  subst j
  simp only[and_eq_true,beq_iff_eq] at ok
  refine ae (ok) λo on=>?_
  clear ok
  refine ae (o) λLF hg=>?_
  clear o
  subst LF
  simp only[g7,fH,fO] at nb hQ hE
  refine aP nb λn1 n2=>?_
  refine iA X.eok X.ge (by decide) hg (by decide) (iK (T:="range") _ on rfl (jt _ on (Sn on X n1 (λr hr v l Ea=>?_) λc hc=>hE c (by rw[hc]; rfl))))
  have p:=n2 r hr
  obtain ⟨x,m⟩:=r
  obtain ⟨ka,as,ra,hx1,hx2,hx3⟩:=Ea
  clear hx1 hx2 hx3
  dsimp only at p ra
  split at p
  ·rename_i i
   cases hq:cu 0 i with
   | bad=>exact absurd hq p
   | exc c=>exact absurd hq lq
   | ok q=>
    refine aG (mP hq) λLI h1 h2=>?_
    subst LI
    refine ra.1.isInt_k λuu LD Ly=>?_
    (clear ra; subst LD)
    subst Ly
    exact call_range_1 (ll (ka.trans (.push l _ _)) (X.room.1 hf) (IsRange.new ..) h1 h2 λit s' I=>hQ _ (by rw[hr]; exact hq) it s' I)
  ·exact absurd rfl p
 ·cases ok
set_option tactic.hygienic true in
theorem wH (hf:fns.hand=false) (hXP:∀ c s s₁ x s',Kp s s₁->XP c s₁ x s'->XP c s x s') {a b:E}(Sa:SimE fns k C XP a) (Sb:SimE fns k C XP b):d9 fns k C XP (.r2 a b):=by
 intro ex A env σ P s Q Er ok X nb hQ hE
 replace ok:=K8 ok
 revert ok; refine λl=>Or.elim l (λm=>?_) (λok=>?_)
 ·clear l
  refine jN (m) λNa M2 Mt M9 MZ p ok=>?_
  clear m
  subst p
  simp only[and_eq_true,beq_iff_eq] at ok
  refine ae (ok) λo ob=>?_
  clear ok
  refine ae (o) λn oa=>?_
  clear o
  refine ae (n) λu hg=>?_
  clear n
  subst u
  simp only[g7,fH,fO] at nb hQ hE
  refine aP nb λn1 n2=>?_
  refine iA X.eok X.ge (by decide) hg (by decide) (iK (T:="range") _ oa (by rw[aH ob]; rfl) (wpAny_items_cons ?_ (aH oa _ env)))
  refine Sa oa X n1 (λx hx va s₁ Ea=>?_) λc hc=>hE c (by rw[hc]; rfl)
  refine aP (n2 x hx) λn3 n4=>?_
  refine jt _ ob (Sb ob (X.k Ea.keeps.k) n3 (λy hy vb r Eb=>?_) λc hc z s' hz=>hE c (by rw[hx,Out.ok_bind,hc]; rfl) z s' (hXP c s s₁ z s' Ea.keeps hz))
  have n5:=n4 y hy
  obtain ⟨x,mx⟩:=x
  obtain ⟨y,my⟩:=y
  obtain ⟨ka,as,ra,hx1,hx2,hx3⟩:=Ea
  obtain ⟨kb,bs,v,hx4,hx5,hx6⟩:=Eb
  clear hx1 hx2 hx3 hx4 hx5 hx6
  dsimp only at n5 ra v
  split at n5
  ·rename_i i j
   cases hq:cu i j with
   | bad=>exact absurd hq n5
   | exc c=>exact absurd hq lq
   | ok q=>
    refine aG (mP hq) λt h1 h2=>?_
    subst t
    revert ra; intro h
    refine ae (h) λra _=>?_
    clear h
    revert v; intro g
    refine ae (g) λv _=>?_
    clear g
    cases ra; cases v
    exact call_range_2 (ll ((ka.trans kb).trans (.push r _ _)) (X.room.1 hf) (IsRange.new ..) h1 h2 λit s' I=>hQ _ (by rw[hx,Out.ok_bind,hy]; exact hq) it s' I)
  ·exact absurd rfl n5
 ·cases ok
end
theorem dh (h:Str.ofString x=Str.ofString y):x=y:=by
 rw[Str.ofString_eq_toList,Str.ofString_eq_toList] at h
 have k:(x.toList.map Char.toNat).toArray=(y.toList.map Char.toNat).toArray:=by injection h
 have g:x.toList.map Char.toNat=y.toList.map Char.toNat:=by simpa using k
 have j:x.toList=y.toList:=by
  have i:∀ a b:Char,a.toNat=b.toNat->a=b:=λa b e=>Char.ext (UInt32.toNat_inj.mp e)
  generalize x.toList=l at g
  generalize y.toList=m at g
  induction l generalizing m with
  | nil=>cases m with
   | nil=>rfl
   | cons b m=>simp at g
  | cons a l ih=>cases m with
   | nil=>simp at g
   | cons b m=>
    simp only[map_cons,List.cons.injEq] at g
    rw[i a b g.1,ih m g.2]
 exact String.toList_inj.mp j
section
theorem ln (hf:∀ p∈scope.names,p.2 = .free->∃ c,env.cells.lookup p.1=some c) :
  ∃ cl,closureFor scope env=pure cl/\∀ n,(n,NameKind.free)∈scope.names->cl.lookup n=env.cells.lookup n:=by
 suffices H:∀ (names:List (Str×NameKind)) (g:List (Str×Addr)),(∀ p∈names,p.2 = .free->∃ c,env.cells.lookup p.1=some c)->(∀ n c,g.lookup n=some c->env.cells.lookup n=some c) ->
   ∃ cl,(forIn names g (λ(x:Str×NameKind) (z:List (Str×Addr))=>(if (x.2==NameKind.free)=true then (do let c <- cellOf env x.1; pure (ForInStep.yield ((x.1,c)::z))) else pure (ForInStep.yield z):Sem (ForInStep (List (Str×Addr))))))=pure cl /\
    (∀ n c,cl.lookup n=some c->env.cells.lookup n=some c)/\(∀ n,(n,NameKind.free)∈names\/(g.lookup n).isSome->(cl.lookup n).isSome) by
  refine aq (H scope.names [] hf (λn c h=>by simp at h)) λcl l k j=>?_
  refine (ah cl ?_ (λn v=>?_))
  ·unfold closureFor
   have e:(forIn scope.names ([]:List (Str×Addr)) λ(x:Str×NameKind) (r:List (Str×Addr))=>match x with
     | (name,kind)=>if (kind==NameKind.free)=true then (do let c <- cellOf env name; pure (ForInStep.yield ((name,c)::r))) else (pure (ForInStep.yield r):Sem (ForInStep (List (Str×Addr)))))=pure cl:=l
   exact congrArg (λt:Sem (List (Str×Addr))=>t>>=λq=>pure q) e
  ·refine bK (j n (.inl v)) λc i=>?_
   rw[i,k n c i]
 intro names
 induction names with
 | nil=>intro g _ o; exact (aF g rfl o (λn v=>v.elim (λh=>nomatch h) id))
 | cons p r ih=>
  intro g hf o
  obtain ⟨n,y⟩:=p
  by_cases hk:y = .free
  ·subst hk
   refine ak (hf (n,.free) (.head _) rfl) λc i=>?_
   obtain ⟨cl,l,k,j⟩:=ih ((n,c)::g) (λp u=>hf p (.tail _ u)) (λm d h=>by
    rw[lookup_cons] at h
    split at h
    ·rename_i e; injection h; rw[beq_iff_eq.mp e]; exact i
    ·exact o m d h)
   refine (aF cl ?_ k (λm hm=>j m ?_))
   ·rw[forIn_cons,<- l]
    simp only[beq_self_eq_true,if_true,cellOf,i]
    rfl
   ·rcases hm with hm | hm
    ·rcases mem_cons.mp hm with e | hm
     ·cases e; right; simp
     ·exact .inl hm
    ·right
     rw[lookup_cons]
     split
     ·rfl
     ·exact hm
  ·refine aq (ih g (λp u=>hf p (.tail _ u)) o) λcl l k j=>?_
   refine (aF cl ?_ k (λm hm=>j m (hm.imp (λhm=>?_) id)))
   ·rw[forIn_cons,<- l]
    have:(y==NameKind.free)=false:=by simpa using hk
    simp only[this,false_eq_true,if_false]
    rfl
   ·rcases mem_cons.mp hm with e | hm
    ·cases e; exact absurd rfl hk
    ·exact hm
theorem jk:∀ (names:List (Str×NameKind)) (h:Heap) (acc:List (Str×Addr)),(∀ p∈names,p.2 = .cell->p.1=X)->(names.map (·.1)).Nodup ->
  (∀ m,m≠X->(cellsFrom h.objs.size names acc).lookup m=acc.lookup m) /\
  (names.lookup X=some .cell->∃ c,(cellsFrom h.objs.size names acc).lookup X=some c/\(pushCells h names).IsCell c none/\h.objs.size<=c)/\(names.lookup X≠some .cell->cellsFrom h.objs.size names acc=acc)
 | [],h,acc,_,_=>⟨λuu uu=>rfl,λe=>(by cases e),λuu=>rfl⟩
 | (n,kd)::r,h,acc,hc,hn=>by
  rw[map_cons,nodup_cons] at hn
  unfold cellsFrom pushCells
  by_cases hk:kd = .cell
  ·subst hk
   have e:n=X:=hc (n,.cell) (.head _) rfl
   subst e
   have hr:∀ p∈r,p.2≠.cell:=λp hp e=>hn.1 (mem_map.mpr (ah p hp (hc p (.tail _ hp) e)))
   have hl:r.lookup n≠some .cell:=λe=>hr _ (mem_of_lookup e) rfl
   simp only[beq_self_eq_true,if_true]
   have ih:=jk (X:=n) r (h.push {cls:=.type "cell", data:=.cell none }) ((n,h.objs.size)::acc) (λp hp e=>absurd e (hr p hp)) hn.2
   rw[size_push] at ih
   rw[ih.2.2 hl]
   refine ⟨λm hm=>?_,λuu=>(aF h.objs.size (by simp) (ah _ (pushCells_keeps r _ _ _ (Heap.get?_push_size _ rfl)) rfl) (le_refl _)),λhh=>?_⟩
   ·rw[lookup_cons]
    have:(m==n)=false:=by simpa using hm
    rw[this]
   ·exact absurd (by simp) hh
  ·have hb:(kd==NameKind.cell)=false:=by simpa using hk
   simp only[hb,false_eq_true,if_false]
   refine aG (jk r h acc (λp hp=>hc p (.tail _ hp)) hn.2) λh1 h2 h3=>?_
   have e:((n,kd)::r).lookup X=some .cell↔r.lookup X=some .cell:=by
    rw[lookup_cons]
    by_cases hx:X=n
    ·(clear hc; subst hx)
     simp only[beq_self_eq_true]
     constructor
     ·intro e; injection e; exact absurd rfl hk
     ·intro e; exact absurd (mem_map.mpr (ah _ (mem_of_lookup e) rfl)) hn.1
    ·have:(X==n)=false:=by simpa using hx
     rw[this]
   exact ⟨h1,λq=>h2 (e.mp q),λq=>h3 λz=>q (e.mpr z)⟩
theorem Ag
  (h:∀ h',h' = pushCells (s.heap.push {cls:=.type "dict", data:=.dict #[] }) scope.names->Q {scope,locals:=s.heap.objs.size,globals:=env.globals,cells:=cellsFrom (s.heap.objs.size+1) scope.names cl,qual:=env.qual,func:=none,code:=env.code,frame:=env.frame,builtins:=env.builtins } {s with heap:=h' }) :
  wpAny (model prog w) A (newFunctionEnv scope env.globals cl [] env.qual none .none (some env)) Q Er s:=by
 simp only[newFunctionEnv,Option.isSome_some,if_true]
 refine wpAny_bind (wpAny_alloc ?_)
 refine wpAny_bind (wpAny_layCells _ (λi g cells=>by cases hkc:g==NameKind.cell<;>simp) _ _ _ _ ?_)
 rw[show ({s with heap:=s.heap.push {cls:=.type "dict", data:=.dict #[] } }:Shared).heap.objs.size=s.heap.objs.size+1 from size_push ..]
 exact wpAny_bind (wpAny_pure (wpAny_pure (h _ rfl)))
end
section
theorem iC (h:gH ns sc x=true):sc.kind = .function/\(sc.names.map (·.1)).Nodup/\(sc.names.lookup (Str.ofString x)=some .local\/sc.names.lookup (Str.ofString x)=some .cell) /\
  ∀ p∈sc.names,(p.2 = .local/\(p.1=Str.ofString x\/p.1=Str.ofString ".0"))\/p.2 = .globalImplicit\/(p.2 = .cell/\p.1=Str.ofString x)\/(p.2 = .free/\(ns.lookup p.1=some .cell\/ns.lookup p.1=some .free)):=by
 unfold gH at h
 simp only[and_eq_true,beq_iff_eq,decide_eq_true_eq,or_eq_true,all_eq_true] at h
 refine ae (h) λi k=>?_
 clear h
 refine ae (i) λg l=>?_
 clear i
 refine ae (g) λn m=>?_
 clear g
 refine (cZ n m l (λp j=>?_))
 rcases k p j with ((h | h) | h) | h
 ·exact .inl h
 ·exact .inr (.inl h)
 ·exact .inr (.inr (.inl h))
 ·exact .inr (.inr (.inr h))
theorem iQ {α:Type}{l:List (Str×α)}{n:Str}{c:α}(hn:(l.map (·.1)).Nodup) (h:(n,c)∈l):l.lookup n=some c:=by
 induction l with
 | nil=>cases h
 | cons p r ih=>
  rw[map_cons,nodup_cons] at hn
  rw[lookup_cons]
  rcases mem_cons.mp h with e | h
  ·(clear h; subst e); simp
  ·have:(n==p.1)=false:=beq_eq_false_iff_ne.mpr λe=>hn.1 (e▸mem_map.mpr (ah _ h rfl))
   rw[this]
   exact ih hn.2 h
theorem gz:∀ {inner:List (Str×NameKind)}{n:Str},(fg outer inner).lookup n=(inner.lookup n).map λkd=>if kd == .free&&outer.lookup n==some .cell then .cell else kd
 | [],n=>rfl
 | (m,kd)::r,n=>by
  have h:=@gz outer r n
  unfold fg at h ⊢
  rw[map_cons,lookup_cons,lookup_cons]
  by_cases e:n=m
  ·subst e
   by_cases hc:(kd==NameKind.free&&outer.lookup n==some .cell)=true
   ·rw[if_pos hc]; simp only[beq_self_eq_true,map_some]; rw[if_pos hc]
   ·rw[if_neg hc]; simp only[beq_self_eq_true,map_some]; rw[if_neg hc]
  ·have i:(n==m)=false:=by simpa using e
   have g:(n==(if (kd==NameKind.free&&outer.lookup m==some .cell)=true then (m,NameKind.cell) else (m,kd)).1)=false:=by split<;>exact i
   simp only[i,g]
   exact h
theorem fc (hk:env.scope.kind = .function):(relabel scope env).names=fg env.scope.names scope.names:=by
 unfold relabel fg Env.kindOf
 simp[hk]
theorem sK (h:bp f (d::ds) = .ok q) :
  ∃ r q',f d = .ok r/\bp f ds = .ok q'/\((r=none/\q=q')\/∃ y m,r=some (.d y,m)/\q=(y::q'.1,decide (m = .deep)&&q'.2)):=by
 simp only[bp] at h
 refine Out.bind_k h λr j h=>?_
 refine Out.bind_k h λq' i h=>?_
 refine (aM r q' j i ?_)
 split at h
 ·injection h; exact .inl ⟨rfl,rfl⟩
 ·injection h; exact .inr (aC _ _ rfl rfl)
 ·exact nB h
theorem AH
  (hsc:gH env.scope.names sc x=true) (hN:cenv.scope.names=fg env.scope.names sc.names) (hk:cenv.scope.kind = .function) (hg:cenv.globals=env.globals) (hb:cenv.builtins=env.builtins)
  (hc:∀ n,(n,NameKind.free)∈sc.names->cenv.cells.lookup n=env.cells.lookup n) (hx:sc.names.lookup (Str.ofString x)=some .cell->∃ c,cenv.cells.lookup (Str.ofString x)=some c)
  (hcd:cenv.code=env.code) (X:Cx fns k A P h env σ) (kp:K h h') (hv:VarIs h' cenv (Str.ofString x) v) (hr:R h' v d as) (hz:sz d=true) (has:∀ a∈as,P' a) (hP:∀ a,P a->(∃ o,h.get? a=some o)->P' a) :
  Cx fns k A P' h' cenv (upd σ x (mk (.d d))):=by
 refine cG (iC hsc) λuu hnd htg g=>?_
 have z:∀ n,cenv.kindOf n=(sc.names.lookup n).map λkd=>if kd == .free&&env.scope.names.lookup n==some .cell then .cell else kd:=λn=>by
  show cenv.scope.names.lookup n=_
  rw[hN]; exact gz
 refine ⟨X.room,⟨hk,hg.trans X.eok.glob,hb.trans X.eok.blt,λn u=>?_⟩,X.ge.k kp,(λh1=>ak (X.code h1) λq c=>⟨q,hcd▸c.k kp⟩),(λq=>af (X.frm q) λl a b=>(ah l a (b.k kp))),λy p hp j=>?_⟩
 ·rw[z] at u
  cases e:sc.names.lookup n with
  | none=>rw[e] at u; simp at u
  | some kd=>
   have hm:=mem_of_lookup e
   rcases g _ hm with h1 | h1 | h1 | h1
   ·rw[e,show kd=_ from h1.1] at u; simp at u
   ·dsimp only at h1; rw[e,h1] at u; simp at u
   ·revert h1; intro MS
    refine ae (MS) λh1 h2=>?_
    clear MS
    dsimp only at h1 h2
    (clear hm; subst h2)
    exact hx (by rw[e,h1])
   ·revert h1; intro Mm
    refine ae (Mm) λh1 h2=>?_
    clear Mm
    dsimp only at h1 h2
    (clear e; subst h1)
    refine ak (X.eok.cells n h2) λc hcc=>?_
    exact ⟨c,by rw[hc n hm,hcc]⟩
 ·unfold upd at hp
  by_cases hy:y=x
  ·(clear g hsc htg hx; subst hy)
   rw[if_pos rfl] at hp
   injection hp
   exact (aM v as hv ⟨hr,hz⟩ has)
  ·rw[if_neg hy] at hp
   have i:=oZ j
   rw[z] at i
   have t:Str.ofString y≠Str.ofString ".0" := by
    unfold varK at j
    intro e
    rw[e] at j
    simp at j
   cases e:sc.names.lookup (Str.ofString y) with
   | none=>rw[e] at i; simp at i
   | some kd=>
    have hm:=mem_of_lookup e
    rcases g _ hm with h1 | h1 | h1 | h1
    ·exact absurd h1.2 (by
      rintro (h2 | h2)
      ·exact hy (dh h2)
      ·exact t h2)
    ·dsimp only at h1; rw[e,h1] at i; simp at i
    ·exact absurd (dh h1.2) hy
    ·revert h1; intro r
     refine ae (r) λh1 h2=>?_
     clear r
     dsimp only at h1 h2
     subst h1
     have hvo:varK env.scope.names y=true:=by
      unfold varK
      rw[and_eq_true]
      refine ⟨by simpa using t,?_⟩
      rcases h2 with h2 | h2<;>rw[h2]
     refine aA (X.vars y p hp hvo) λv' as' a1 a2 a3=>?_
     refine (aM v' as' ?_ (a2.k kp) (λa ha=>hP a (a3 a ha) (a2.there a ha)))
     cases a1 with
     | loc m b1 b2 b3=>exact absurd b1 (by unfold Env.kindOf; rcases h2 with h2 | h2<;>rw[h2]<;>simp)
     | cell c b1 b2 b3=>
      refine .cell c ?_ (by rw[hc _ hm,b2]) (jr b3 kp)
      rw[z,e]
      rcases h2 with h2 | h2<;>rw[h2]<;>simp
noncomputable def Tgt (cenv:Env) (X:Str) (T:Addr) (h:Heap):Prop :=
 (∃ m,h.Ns cenv.locals m)/\((cenv.kindOf X=some .local/\T=cenv.locals)\/(cenv.kindOf X=some .cell/\cenv.cells.lookup X=some T/\T≠cenv.locals/\∃ g,h.IsCell T g))
theorem Tgt.at (t:Tgt cenv X T h) (k1:∀ o,h.get? T=some o->h'.get? T=some o) (k2:∀ o,h.get? cenv.locals=some o->h'.get? cenv.locals=some o):Tgt cenv X T h':=by
 revert t; intro i
 refine ae (i) λk t=>?_
 clear i
 refine ak (k) λm l=>?_
 clear k
 refine ⟨⟨m,l.at' k2⟩,t.imp id λt=>?_⟩
 refine cG (t) λa b c g=>?_
 clear t
 refine av (g) λj o e d=>?_
 clear g
 exact (cZ a b c (aC j o (k1 _ e) d))
theorem Tgt.onK (t:Tgt cenv X T h) (k:K h h'):Tgt cenv X T h':=by
 revert t; intro i
 refine ae (i) λl t=>?_
 clear i
 refine ak (l) λm n=>?_
 clear l
 refine ⟨⟨m,fM n k⟩,t.imp id λt=>?_⟩
 refine cG (t) λa b c g=>?_
 clear t
 refine ak (g) λj d=>?_
 clear g
 exact (cZ a b c (bV j (jr d k)))
theorem Tgt.nostay (t:Tgt cenv X T h) (o:Obj) (e:h.get? T=some o):¬ Stay o:=by
 revert t; intro i
 refine ae (i) λj t=>?_
 clear i
 refine si (j) λm x y z v r _=>?_
 clear j
 rcases t with t | t
 ·rw[t.2,v] at e; injection e; exact Stay.not_data (λuu q=>by rw[r] at q; cases q) λuu uu q=>by rw[r] at q; cases q
 ·refine cG (t) λuu uu uu g=>?_
  clear t
  refine av (g) λp u n k=>?_
  clear g
  rw[n] at e; injection e; exact Stay.not_data (λuu q=>by rw[k] at q; cases q) λuu uu q=>by rw[k] at q; cases q
theorem Tgt.noseq (t:Tgt cenv X T h) (o:Obj) (e:h.get? T=some o) (vs:Array Value) (n:Nat):o.data≠.seq vs n:=by
 revert t; intro i
 refine ae (i) λj t=>?_
 clear i
 refine si (j) λm y z ep x v _=>?_
 clear j
 intro q
 rcases t with t | t
 ·rw[t.2,x] at e; injection e; rw[v] at q; cases q
 ·refine cG (t) λuu uu uu g=>?_
  clear t
  refine av (g) λr u p l=>?_
  clear g
  rw[p] at e; injection e; rw[l] at q; cases q
theorem uJ (hk:cenv.scope.kind = .function) (t:Tgt cenv X T s.heap)
  (h:∀ h' tk,Heap.SameBut T s.heap h'->Tgt cenv X T h'->VarIs h' cenv X v->Q () {s with heap:=h',toks:=tk }):wpAny (model prog w) A (assign (.Name X px) cenv v) Q Er s:=by
 revert t; intro g
 refine ae (g) λi t=>?_
 clear g
 refine ak (i) λm l=>?_
 clear i
 rcases t with ⟨t1,rfl⟩ | ⟨t1,t2,t3,n,t4⟩
 ·exact wpAny_assign_Name (wpAny_storeName_local t1 l (λh' j k=>h h' _ k ⟨⟨_,j⟩,.inl ⟨t1,rfl⟩⟩ (.loc _ t1 j (by simp))) (by rw[hk]; rfl))
 ·exact wpAny_assign_Name (wpAny_storeName_cell hk t1 t2 t4 λh' j k=>h h' s.toks k ⟨⟨m,l.sameBut k (Ne.symm t3)⟩,.inr (cZ t1 t2 t3 (bV _ j))⟩ (.cell T (.inl t1) t2 j))
noncomputable def CI (f:PyData->Out (Option (V×Mode))) (x:String) (cenv:Env) (P:Addr->Prop) (s sc:Shared) (ds:List PyData) (res:List PyData×Bool) (D T:Addr) (wr:List Addr) (St:Nat->Heap->Prop) (n:Nat) (s':Shared):Prop :=
 ∃ (h:Heap) (tk:Nat) (j:Nat) (vs:List Value) (ys:List PyData) (as:List Addr) (zs:List PyData) (dp b':Bool),s' = {sc with heap:=h,toks:=tk }/\St j h/\j<=ds.length/\n=ds.length+1-j/\h.PlainList D vs.toArray/\RA h vs ys as/\(∀ y∈ys,sz y=true)/\ys.length<=j /\
   (∀ a∈as,a≠D/\(P a\/s.heap.get? a=none))/\(dp=true->(∀ a∈as,s.heap.get? a=none)/\as.Nodup)/\Tgt cenv (Str.ofString x) T h/\KG (λb=>b∉D::T::wr) sc.heap h /\
   bp f (ds.drop j) = .ok (zs,b')/\res=(ys++zs,dp&&b')
set_option maxHeartbeats 2000000 in
theorem vB {f:PyData->Out (Option (V×Mode))}{x:String}{px:Pos}{elt iter:Expr}{ifs:List Expr}{sc:Scope}{pos:Pos}{A:Around}{cenv:Env}{P:Addr->Prop}{s s₃:Shared}{Rr:Result->Shared->Prop}
  {ds:List PyData}{res:List PyData×Bool}{I D T:Addr}{fp wr F:List Addr}{Pw:Nat->Value->Prop}{St:Nat->Heap->Prop}
  (W:Walks prog w A I fp wr ds.length Pw St) (hst:St 0 s₃.heap) (hk:cenv.scope.kind = .function) (ks:K s.heap s₃.heap)
  (hwr:∀ b∈wr,s.heap.get? b=none/\b∉F/\∀ i h,St i h->∃ o,h.get? b=some o/\(hardB o=true/\o.cls≠.type "code" /\ ∀ C,o.cls≠.ref C)/\∃ fs,o.data = .fields fs) (hFl:∀ b∈F,∃ vs n,s₃.heap.get? b=some ⟨.type "list", none,.seq vs n,#[]⟩) (hfp:∀ b∈fp,b∈wr\/b∈F)
  (hPw:∀ i v,Pw i v->∀ d,ds[i]? = some d->∃ bs,R s₃.heap v d bs/\∀ b∈bs,b∈F) (hFP:∀ a∈F,P a\/s.heap.get? a=none)
  (hFo:∀ b∈F,b≠D/\b≠T/\b≠cenv.locals) (hwo:∀ b∈wr,b≠D/\b≠T/\b≠cenv.locals) (hDT:D≠T) (hDL:D≠cenv.locals) (fD:s.heap.get? D=none) (fT:s.heap.get? T=none)
  (hsm:ds.length<=2^22/\∀ d∈ds,sz d=true) (hres:bp f ds = .ok res) (hD:s₃.heap.PlainList D #[]) (hT:Tgt cenv (Str.ofString x) T s₃.heap)
  (step:∀ d r,f d = .ok r->sz d=true->∀ {s₄:Shared}{Q₁:Shared->Prop}{Qb:Value->Shared->Prop}{Er':Value->Shared->Prop}(v:Value) (bs:List Addr),VarIs s₄.heap cenv (Str.ofString x) v->R s₄.heap v d bs->(∀ b∈bs,(P b\/s.heap.get? b=none)/\b≠D)->K s.heap s₄.heap ->
   (r=none->∀ s₅,Kp s₄ s₅->Q₁ s₅)->(∀ y,r=some y->∀ u s₅,EP (λb=>(P b\/s.heap.get? b=none)/\b≠D) s₄ y u s₅->Qb u s₅) ->
   wpAny (model prog w) A (forIn ifs true λc r=>if r=true then do let ok <- isTrue c cenv (eval c cenv); pure (ForInStep.yield ok) else pure (ForInStep.yield r)) (λok s₅=>if ok=true then wpAny (model prog w) A (eval elt cenv) Qb Er' s₅ else Q₁ s₅) Er' s₄)
  (hR:∀ h tk vs as,h.PlainList D vs.toArray->RA h vs res.1 as->(∀ y∈res.1,sz y=true)->res.1.length<=2^22->(∀ a∈as,a≠D/\(P a\/s.heap.get? a=none))->(res.2=true->(∀ a∈as,s.heap.get? a=none)/\as.Nodup)->(∃ m,h.Ns cenv.locals m) ->
   K s.heap h->Rr (.ok .next) {s₃ with heap:=h,toks:=tk }) :
  codeAny (model prog w) A (.compLoop (.ListComp elt [⟨.Name (Str.ofString x) px,iter,ifs,0⟩] sc pos) 0 (.ref I) (.ref D) cenv) Rr s₃:=by
 have offw:∀ i h as,St i h->Off h as wr:=λi h as hs b hb o e=>by
  refine aq ((hwr b hb).2.2 i h hs) λo' e' _ LX=>?_
  refine ak (LX) λfs q=>?_
  clear LX
  rw[e] at e'; injection e'; exact .inl λvs n q'=>by rw[q] at q'; cases q'
 have offT:∀ h as,Tgt cenv (Str.ofString x) T h->Off h as [T]:=λh as t b hb o e=>by
  rw[mem_singleton.mp hb] at e
  exact .inl (t.noseq o e)
 have offD:∀ h as vs,Heap.PlainList h D vs->(∀ a∈as,a≠D)->Off h as [D]:=λh as vs t hn b hb o e=>by
  rw[mem_singleton.mp hb] at e ⊢
  revert t; intro MB
  refine ak (MB) λn t=>?_
  clear MB
  rw[t] at e; injection e
  exact .inr ⟨by simp,λhm=>hn D hm rfl⟩
 have notw:∀ i h,St i h->∀ b∈wr,∀ o,h.get? b=some o->¬ Stay o:=λi h hs b hb o e=>by
  refine aq ((hwr b hb).2.2 i h hs) λo' e' LD MC=>?_
  refine ak (MC) λfs q=>?_
  clear MC
  refine ae (LD) λuu hc=>?_
  clear LD
  rw[e] at e'; (have oc:=Option.some.inj e'; clear e'; (clear uu; subst oc))
  exact λx=>x.elim (λx=>hc.1 x.1) λx=>let ⟨_,vs,n,e⟩:=x; by rw[q] at e; cases e
 have outs:∀ b o,s.heap.get? b=some o->b∉D::T::wr:=λb o e hb=>by
  rcases mem_cons.mp hb with rfl | hb
  ·rw[fD] at e; exact nN e
  rcases mem_cons.mp hb with rfl | hb
  ·rw[fT] at e; exact nN e
  ·rw[(hwr b hb).1] at e; exact nN e
 have outF:∀ b∈F,b∉D::T::wr:=λb hF hb=>by
  rcases mem_cons.mp hb with rfl | hb
  ·exact (hFo _ hF).1 rfl
  rcases mem_cons.mp hb with rfl | hb
  ·exact (hFo _ hF).2.1 rfl
  ·exact (hwr b hb).2.1 hF
 refine codeAny_compLoop_tests
  (CI f x cenv P s s₃ ds res D T wr St) ?_ (ds.length+1)
  (oH s₃.heap s₃.toks 0 ([]) ([]) ([]) res.1 true res.2 rfl hst (zero_le _) rfl hD .nil (λuu h=>(nomatch h)) (le_refl _) (λuu h=>(nomatch h)) (λuu=>⟨λuu h=>(nomatch h),.nil⟩) hT KG.refl (by simpa using hres) (by simp))
 intro n s' Ly
 refine BA (Ly) λh tk j vs ys as zs dp b' LG hst' hj LJ hD' hra hys hyl has hdp hT' hkp hcl hrs=>?_
 clear Ly
 subst LG
 subst LJ
 have hDw:D∉wr:=λh=>(hwo D h).1 rfl
 have hTw:T∉wr:=λh=>(hwo T h).2.1 rfl
 have hLw:cenv.locals∉wr:=λh=>(hwo _ h).2.2 rfl
 have kps:K s.heap h:=ks.step hkp outs
 by_cases hlt:j<ds.length
 ·obtain ⟨d,hd⟩:∃ d,ds[j]? = some d:=⟨_,List.getElem?_eq_getElem hlt⟩
  have hdd:ds.drop j=d::ds.drop (j+1):=by
   rw[drop_eq_getElem_cons hlt]
   rw[List.getElem?_eq_getElem hlt] at hd
   injection hd; rfl
  rw[hdd] at hcl
  refine aA (sK hcl) λr q' hf hq l=>?_
  refine W.item j _ _ _ hlt hst' λv h₁ tka hPv hsta hka=>?_
  have g:∀ b o,b∉wr->h.get? b=some o->h₁.get? b=some o:=hka
  refine uJ hk (hT'.at (λo e=>g _ o hTw e) λo e=>g _ o hLw e) λh₂ tkb hsb hTb hvb=>?_
  have hsb':∀ b o,b∉[T]->h₁.get? b=some o->h₂.get? b=some o:=λb o hb e=>hsb.extBut b o (λq=>hb (by simp[q])) e
  have hstb:St (j+1) h₂:=W.frame _ _ _ hsta λb hb o e=>hsb' b o (λq=>by
   rw[mem_singleton.mp q] at hb
   rcases hfp _ hb with hb | hb
   ·exact hTw hb
   ·exact (hFo _ hb).2.1 rfl) e
  have hrab:RA h₂ vs ys as:=(hra.off (offw j h as hst') g).off (offT h₁ as (hT'.at (λo e=>g _ o hTw e) λo e=>g _ o hLw e)) hsb'
  have kT:KG (λb=>b∉[T]) h₁ h₂:=.ofW hsb' λb hb o e=>by
   rw[mem_singleton.mp hb] at e
   exact (hT'.at (λo e=>g _ o hTw e) λo e=>g _ o hLw e).nostay o e
  have hkpb:KG (λb=>b∉D::T::wr) s₃.heap h₂:=(hkp.trans ((KG.ofW g (notw j h hst')).mono λb hb q=>hb (by simp[q]))).trans (kT.mono λb hb q=>hb (by rw[mem_singleton.mp q]; simp))
  refine af (hPw j v hPv d hd) λbs hrv hbs=>?_
  have hrvb:R h₂ v d bs:=hrv.onG hkpb λb hb=>outF b (hbs b hb)
  have kpsb:K s.heap h₂:=ks.step hkpb outs
  have hfpH:∀ b∈fp,∀ o,h₂.get? b=some o->hardB o=true:=λb hb o e=>by
   rcases hfp b hb with hb | hb
   ·refine aq ((hwr b hb).2.2 _ _ hstb) λo' e' LH _=>?_
    refine ae (LH) λhh _=>?_
    clear LH
    rw[e] at e'; injection e'; exact hh
   ·refine ba (hFl b hb) λvs' n' e'=>?_
    rw[hkpb.hard (.inl (outF b hb)) e' rfl] at e
    injection e; rfl
  have hDb:h₂.PlainList D vs.toArray:=(hD'.at λo e=>g _ o hDw e).at λo e=>hsb' _ o (by simpa using hDT) e
  have hzd:sz d=true:=hsm.2 d (mem_of_getElem? hd)
  refine step d r hf hzd (s₄:={s₃ with heap:=h₂,toks:=tkb }) v bs hvb hrvb (λb hb=>⟨hFP b (hbs b hb),(hFo b (hbs b hb)).1⟩) kpsb (λhr s₅ k₅=>?_) λy hy u s₅ E₅=>?_
  ·(clear hf; subst hr)
   refine av (k₅) λhe tke LK p=>?_
   clear k₅
   subst LK
   rcases l with ⟨_,l⟩ | ⟨_,_,l,_⟩
   ·subst l
    refine (ah (ds.length+1-(j+1)) (rT hlt) (oH he tke (j+1) vs ys as zs dp b' rfl (W.frame _ _ _ hstb λb hb o e=>p.get e (hfpH b hb o e)) hlt rfl (ak (hDb) λn e=>⟨n,p.get e rfl⟩) (hrab.k p) hys (by exact le_succ_of_le ‹_›) has hdp (hTb.onK p) (hkpb.trans (p.mono λuu uu=>trivial)) hq hrs))
   ·exact nN l
  ·obtain ⟨LM,bs',hrve,hb1,hb2,hb3⟩:=E₅
   refine av (LM) λhe tke LN p=>?_
   clear LM
   subst LN
   dsimp only at p hrve hb1 hb2 hb3
   rcases l with ⟨l,_⟩ | ⟨z,m,l,hq2⟩
   ·rw[hy] at l; exact nM l
   ·rw[hy] at l; (have oc:=Option.some.inj l; clear l; (clear hb2 hy; subst oc))
    revert hrve; intro MQ
    refine ae (MQ) λhrve hze=>?_
    clear MQ
    have hDe:he.PlainList D vs.toArray:=ak (hDb) λn e=>⟨n,p.get e rfl⟩
    have hbD:∀ a∈bs',a≠D:=λa ha q=>by
     rcases hb1 a ha with h | h
     ·exact h.2 q
     ·refine ak (hDb) λn e=>?_
      clear hDb
      rw[q,e] at h; exact nM h
    have hrae:=(hrab.k p).append (.cons hrve .nil)
    have hl:vs.length=ys.length:=hra.length
    refine wpAny_list_append_plain (hsz:=by rw[size_toArray,hl]; unfold sizeLine; exact G4 hsm hyl hlt) hDe λh₆ hlf hsf=>?_
    have hsf':∀ b o,b∉[D]->he.get? b=some o->h₆.get? b=some o:=λb o hb e=>hsf.extBut b o (λq=>hb (by simp[q])) e
    have hne:∀ a∈as++(bs'++[]),a≠D:=λa ha=>by
     rcases mem_append.mp ha with ha | ha
     ·exact (has a ha).1
     ·exact hbD a (by simpa using ha)
    cases hq2
    refine (ah (ds.length+1-(j+1)) (rT hlt) (oH h₆ tke (j+1) (vs++[u]) (ys++[z]) (as++(bs'++[])) q'.1 (dp&&decide (m = .deep)) q'.2 rfl ?_ hlt rfl ?_ (hrae.off (offD he _ _ hDe hne) hsf') ?_ ?_ ?_ ?_ ?_ ?_ ?_ ?_))
    ·refine W.frame _ _ _ hstb λb hb o e=>hsf' b o (λq=>?_) (p.get e (hfpH b hb o e))
     rw[mem_singleton.mp q] at hb
     rcases hfp _ hb with hb | hb
     ·exact hDw hb
     ·exact (hFo _ hb).1 rfl
    ·simpa using hlf
    ·intro y hy'
     rcases mem_append.mp hy' with h | h
     ·exact hys y h
     ·rw[mem_singleton.mp h]; exact hze
    ·rw[length_append,length_singleton]; exact jR hyl
    ·intro a ha
     refine ⟨hne a ha,?_⟩
     rcases mem_append.mp ha with ha | ha
     ·exact (has a ha).2
     ·rcases hb1 a (by simpa using ha) with h | h
      ·exact h.1
      ·right
       cases e:s.heap.get? a with
       | none=>rfl
       | some o=>obtain ⟨_,e'⟩:=kpsb.there e; rw[e'] at h; exact nM h
    ·intro hdm
     simp only[and_eq_true,decide_eq_true_eq] at hdm
     refine ae (hdm) λhd1 hd2=>?_
     clear hdm
     refine ae (hdp hd1) λg1 g2=>?_
     refine ae (hb3 hd2) λg3 g4=>?_
     refine ⟨λa ha=>?_,?_⟩
     ·rcases mem_append.mp ha with ha | ha
      ·exact g1 a ha
      ·have h:=g3 a (by simpa using ha)
       cases e:s.heap.get? a with
       | none=>rfl
       | some o=>obtain ⟨_,e'⟩:=kpsb.there e; rw[e'] at h; exact nM h
     ·rw[append_nil,nodup_append]
      refine ⟨g2,g4,λa ha b hb q=>?_⟩
      subst q
      refine ba (hrab.there a ha) λuu uu e=>?_
      rw[g3 a hb] at e; exact nN e
    ·exact (hTb.onK p).at (λo e=>hsf' _ o (by simpa using Ne.symm hDT) e) λo e=>hsf' _ o (by simpa using Ne.symm hDL) e
    ·refine (hkpb.trans (p.mono λuu uu=>trivial)).trans ((KG.ofW hsf' λb hb o e=>?_).mono λb hb q=>hb (by rw[mem_singleton.mp q]; simp))
     refine ak (hDe) λn ee=>?_
     clear hDe
     rw[mem_singleton.mp hb,ee] at e
     injection e
     exact Stay.not_cls (by simp) (by simp)
    ·exact hq
    ·rw[hrs]; simp[Bool.and_assoc]
 ·have hjl:j=ds.length:=by exact zq hj hlt
  (clear hj hlt; subst hjl)
  rw[drop_length] at hcl
  cases hcl
  refine W.done _ _ _ hst' λh₁ tka hka=>?_
  have g:∀ b o,b∉wr->h.get? b=some o->h₁.get? b=some o:=hka
  have e1:res=(ys,dp):=by rw[hrs]; simp
  (clear hres hrs; subst e1)
  refine hR h₁ tka vs as (hD'.at λo e=>g _ o hDw e) (hra.off (offw _ h as hst') g) hys (le_trans hyl hsm.1) has hdp ((hT'.at (λo e=>g _ o hTw e) λo e=>g _ o hLw e).1) (kps.step (KG.ofW g (notw _ h hst')) λb o e q=>by rw[(hwr b q).1] at e; cases e)
end
section
theorem mz {ex:Expr}(ok:gu ns it ex=true) (env:Env) (v:Value):foldedSetIterable ex env v=pure v:=by
 cases ex with
 | Set es p=>
  cases it with
  | e a=>exfalso; cases a<;>exact Bool.noConfusion (show false=true from ok)
  | r1 n=>exact Bool.noConfusion (show false=true from ok)
  | r2 a b=>exact Bool.noConfusion (show false=true from ok)
 | _=>rfl
set_option maxHeartbeats 1000000 in
theorem fq {RR:Value->Addr->Result->Shared->Prop}{f:PyData->Out (Option (V×Mode))}{x:String}{px:Pos}{elt iter:Expr}{ifs:List Expr}{sc:Scope}{pos:Pos}{A:Around}{env:Env}{σ:St}{P:Addr->Prop}{s:Shared}{Er:Value->Shared->Prop}
  {ds:List PyData}{res:List PyData×Bool}(hsc:gH env.scope.names sc x=true) (X:Cx fns k A P s.heap env σ) (hres:bp f ds = .ok res)
  (step:∀ d r,f d = .ok r->∀ {cenv:Env}{s₃:Shared}{P':Addr->Prop}{Q₁:Shared->Prop}{Qb:Value->Shared->Prop}{Er':Value->Shared->Prop},cenv.scope.names=fg env.scope.names sc.names->Cx fns k A P' s₃.heap cenv (upd σ x (mk (.d d))) ->
   (r=none->∀ s₄,Kp s₃ s₄->Q₁ s₄)->(∀ y,r=some y->∀ v s₄,EP P' s₃ y v s₄->Qb v s₄) ->
   wpAny (model prog w) A (forIn ifs true λc r=>if r=true then do let ok <- isTrue c cenv (eval c cenv); pure (ForInStep.yield ok) else pure (ForInStep.yield r)) (λok s₄=>if ok=true then wpAny (model prog w) A (eval elt cenv) Qb Er' s₄ else Q₁ s₄) Er' s₃)
  {m:Mode}{i:Value}{s₂:Shared}(I:ItP A P s ds m i s₂)
  (hR:∀ D C h tk m,EP P s (.d (.list res.1),if res.2 then .deep else .top) (.ref D) {s₂ with heap:=h,toks:=tk }->h.Ns C m->s.heap.get? C=none->RR (.ref D) C (.ok .next) {s₂ with heap:=h,toks:=tk }) {cl:List (Str×Addr)}(hcl:∀ n,(n,NameKind.free)∈sc.names->cl.lookup n=env.cells.lookup n) :
  wpAny (model prog w) A (newObj (.type "list") (.seq #[]) none) (λacc s₃=>
   wpAny (model prog w) A (newFunctionEnv sc env.globals cl [] env.qual none .none (some env)) (λcenv s₄=>
    codeAny (model prog w) A (.compStart (.ListComp elt [⟨.Name (Str.ofString x) px,iter,ifs,0⟩] sc pos) 0 i acc {cenv with scope:=relabel sc env }) (RR acc cenv.locals) s₄) Er s₃) Er s₂:=by
 refine cG (iC hsc) λhk hnd htg hnames=>?_
 obtain ⟨t,LA,hsm⟩:=I
 refine tS (LA) λI fp wr Pw St F Lx W hst hwr hfp hPw hF hFP _=>?_
 clear LA
 subst Lx
 refine wpAny_newObj_type (Ag λu j=>?_)
 have hsz:(s₂.heap.push {cls:=.type "list", data:=.seq #[] }).objs.size=s₂.heap.objs.size+1:=size_push ..
 dsimp only at j ⊢
 rw[hsz]
 generalize hD:s₂.heap.objs.size=D at *
 obtain ⟨c1,c2,c3⟩:=jk (X:=Str.ofString x) sc.names ((s₂.heap.push {cls:=.type "list", data:=.seq #[] }).push {cls:=.type "dict", data:=.dict #[] }) cl (λp hp e=>by
  rcases hnames p hp with h | h | h | h
  ·rw[h.1] at e; cases e
  ·rw[h] at e; cases e
  ·exact h.2
  ·rw[h.1] at e; cases e) hnd
 rw[size_push,hsz] at c1 c2 c3
 rw[<- j] at c2
 have l:∀ b o,s₂.heap.get? b=some o->u.get? b=some o:=λb o e=>by
  rw[j]; exact pushCells_keeps _ _ _ _ (Heap.get?_push_of_some _ (Heap.get?_push_of_some _ e))
 have hDc:u.PlainList D #[]:=⟨0,by rw[j]; exact pushCells_keeps _ _ _ _ (Heap.get?_push_of_some _ (hD▸Heap.get?_push_size _ rfl))⟩
 have z:u.Ns (D+1) (λuu=>none):=by
  have:=Heap.Ns.new (s₂.heap.push {cls:=.type "list", data:=.seq #[] }) (.type "dict")
  rw[hsz] at this
  rw[j]
  exact this.keeps (pushCells_keeps _ _)
 have old:∀ b,(∃ o,s₂.heap.get? b=some o)->b<D:=λb ⟨o,e⟩=>hD▸lt_size e
 have g:∀ b,D<=b->s.heap.get? b=none:=λb hb=>by
  cases e:s.heap.get? b with
  | none=>rfl
  | some o=>exact absurd (old b (t.k.there e)) (Nat.not_lt.mpr hb)
 obtain ⟨T,hT,hTD,hkc⟩:∃ T,Tgt {scope:=relabel sc env,locals:=D+1,globals:=env.globals,cells:=cellsFrom (D+1+1) sc.names cl,qual:=env.qual,func:=none,code:=env.code,frame:=env.frame,builtins:=env.builtins } (Str.ofString x) T u/\D+1<=T /\
   (sc.names.lookup (Str.ofString x)=some .cell->(cellsFrom (D+1+1) sc.names cl).lookup (Str.ofString x)=some T):=by
  have hkd:(relabel sc env).names.lookup (Str.ofString x)=(sc.names.lookup (Str.ofString x)).map λkd=>if kd == .free&&env.scope.names.lookup (Str.ofString x)==some .cell then .cell else kd:=by
   rw[fc X.eok.kind]; exact gz
  rcases htg with ht | ht
  ·refine (aF (D+1) ⟨⟨_,z⟩,.inl ⟨?_,rfl⟩⟩ (le_refl _) (λq=>?_))
   ·show (relabel sc env).names.lookup _=_
    rw[hkd,ht]; rfl
   ·rw[ht] at q; cases q
  ·refine aq (c2 ht) λc g1 g2 g3=>?_
   refine (aF c ⟨⟨_,z⟩,.inr (cZ ?_ g1 ?_ (bV _ g2))⟩ (le_of_succ_le g3) (λuu=>g1))
   ·show (relabel sc env).names.lookup _=_
    rw[hkd,ht]; rfl
   ·exact ne_of_gt g3
 have hstc:St 0 u:=W.frame _ _ _ hst λb _ o e=>l b o e
 refine codeAny_compStart_list ?_ ?_
 all_goals
  first
  | (refine W.self 0 _ _ _ hstc ?_)
  | skip
 all_goals
  refine vB (s:=s) (P:=P) (T:=T) W hstc hk (KG.trans t.k (K.of l)) hwr (λb hb=>ba (hF b hb) λvs n e=>(bN vs n (l _ _ e))) hfp (λi v hv d hd=>af (hPw i v hv d hd) λbs h1 h2=>(ah bs (h1.keep l) h2)) hFP (λb hb=>?_) (λb hb=>?_) (ne_of_lt hTD) (ne_of_lt (Nat.lt_succ_self D)) (g D (le_refl _)) (g T (le_of_succ_le hTD)) hsm hres hDc hT ?_ ?_
  ·refine ba (hF b hb) λuu uu e=>?_
   have:=old b ⟨_,e⟩
   exact ⟨ne_of_lt this,ne_of_lt (lt_of_lt_of_le this (le_of_succ_le hTD)),ne_of_lt (lt_succ_of_lt this)⟩
  ·refine af ((hwr b hb).2.2 0 _ hst) λo e _=>?_
   have:=old b ⟨_,e⟩
   exact ⟨ne_of_lt this,ne_of_lt (lt_of_lt_of_le this (le_of_succ_le hTD)),ne_of_lt (lt_succ_of_lt this)⟩
  ·intro d r hf hz s₄ Q₁ Qb Er' v bs hv hr hbs kps h1 h2
   refine step d r hf (fc X.eok.kind) (AH hsc (fc X.eok.kind) hk rfl rfl (λn hn=>?_) (λq=>⟨T,hkc q⟩) rfl X kps hv hr hz hbs λa ha hex=>⟨.inl ha,λq=>?_⟩) h1 h2
   ·show (cellsFrom (D+1+1) sc.names cl).lookup n=_
    rw[c1 n λq=>?_,hcl n hn]
    subst q
    have:=iQ hnd hn
    rw[this] at htg
    rcases htg with q | q<;>cases q
   ·(clear h2 hDc z hT hTD hbs hkc hsz hv old; subst q)
    refine ak (hex) λo e=>?_
    clear hex
    rw[g _ (le_refl _)] at e; exact nN e
  ·intro h tk vs as hp hra hys hyl has hdp hm hkp
   revert hm; intro Mm
   refine ak (Mm) λm' hm=>?_
   clear Mm
   refine ak (hp) λn hpl=>?_
   clear hp
   refine hR D (D+1) h tk m' ?_ hm (g _ (le_succ D))
   refine av (t) λhhb tkb LB hkkb=>?_
   clear t
   (clear j hF hPw hR l hst hsz old; subst LB)
   refine ⟨(aC h tk rfl hkp),D::as,⟨.list hpl hra,sz_list.mpr ⟨hyl,hys⟩⟩,?_,?_,?_⟩
   ·intro a ha
    rcases mem_cons.mp ha with rfl | ha
    ·exact .inr (g _ (le_refl _))
    ·exact (has a ha).2
   ·exact λuu=>(aM D as rfl (g _ (le_refl _)) (λq=>(has D q).1 rfl))
   ·intro hm'
    dsimp only at hm'
    have hb:res.2=true:=by
     cases e:res.2 with
     | true=>rfl
     | false=>rw[e] at hm'; cases hm'
    refine ⟨λa ha=>?_,nodup_cons.mpr ⟨λq=>(has D q).1 rfl,(hdp hb).2⟩⟩
    rcases mem_cons.mp ha with rfl | ha
    ·exact g _ (le_refl _)
    ·exact (hdp hb).1 a ha
theorem R.sameBut {h h':Heap}{C:Addr}{m:Str->Option Value}{v:Value}{d:PyData}{as:List Addr}(r:R h v d as) (hm:h.Ns C m) (hs:Heap.SameBut C h h'):R h' v d as:=by
 refine r.off (wr:=[C]) (λb g o e=>?_) λb o g e=>hs.extBut b o (λq=>g (by simp[q])) e
 rw[mem_singleton.mp g] at e
 refine aV (hm) λp t u k j _=>?_
 clear hm
 rw[k] at e; injection e
 exact .inl λl n q=>by rw[j] at q; cases q
theorem EP.sameBut {P:Addr->Prop}{s s₂:Shared}{h h':Heap}{tk:Nat}{C:Addr}{m:Str->Option Value}{d:PyData}{md:Mode}{v:Value}(E:EP P s (.d d,md) v {s₂ with heap:=h,toks:=tk }) (hm:h.Ns C m) (hC:s.heap.get? C=none) (hs:Heap.SameBut C h h') :
  EP P s (.d d,md) v {s₂ with heap:=h',toks:=tk }:=by
 obtain ⟨i,as,g,t,p,n⟩:=E
 refine av (i) λhh l e x=>?_
 clear i
 refine ae (g) λr z=>?_
 clear g
 cases s₂; cases s; cases e
 refine aV (id hm) λo' es ep y k _=>?_
 refine ⟨(aC h' tk rfl (K.step x (KG.ofW (wr:=[C]) (λb o j e=>hs.extBut b o (λq=>j (by simp[q])) e) λb j o e=>?_) λb o e q=>?_)),as,⟨R.sameBut r hm hs,z⟩,t,p,n⟩
 ·rw[mem_singleton.mp j,y] at e; injection e
  exact Stay.not_data (λuu q=>by rw[k] at q; cases q) λuu uu q=>by rw[k] at q; cases q
 ·rw[mem_singleton.mp q,hC] at e; exact nN e
theorem nk {elt iter:Expr}
  (hsc:gH env.scope.names sc x=true) (X:Cx fns k A P h env σ) (hset:∀ v,foldedSetIterable iter env v=pure v)
  (h:∀ cl:List (Str×Addr),(∀ n,(n,NameKind.free)∈sc.names->cl.lookup n=env.cells.lookup n)->wpAny (model prog w) A (eval iter env) (λv s₁=>wpAny (model prog w) A (pyIter v) (λi t=>wpAny (model prog w) A (newObj (.type "list") (.seq #[]) none) (λacc u=>
   wpAny (model prog w) A (newFunctionEnv sc env.globals cl [] env.qual none .none (some env)) (λcenv s₄=>
    codeAny (model prog w) A (.compStart (.ListComp elt [⟨.Name (Str.ofString x) px,iter,ifs,0⟩] sc pos) 0 i acc {cenv with scope:=relabel sc env }) (compPost (model prog w) A Er none Q acc cenv.locals) s₄) Er u) Er t) Er s₁) Er s) :
  wpAny (model prog w) A (eval (.ListComp elt [⟨.Name (Str.ofString x) px,iter,ifs,0⟩] sc pos) env) Q Er s:=by
 refine cG (iC hsc) λhk l q g=>?_
 obtain ⟨cl,m,j⟩:=ln (scope:=sc) (env:=env) (λp r e=>by
  rcases g p r with h | h | h | h
  ·rw[h.1] at e; cases e
  ·rw[h] at e; cases e
  ·rw[h.1] at e; cases e
  ·exact X.eok.cells p.1 h.2)
 rw[eval_ListComp]
 exact wpAny_comprehension_free (use:=none) rfl hset m hk (λy o e=>by rw[<- e]; exact iQ l o) (h cl j)
theorem eS {α:Type}{o:Out α}(h:o.calm≠.bad):∃ a,o = .ok a:=by
 cases o with
 | ok a=>exact ⟨a,rfl⟩
 | exc c=>exact absurd rfl h
 | bad=>exact absurd rfl h
theorem xf {elt:E}(Si:d9 fns k C XP it) (Se:SimE fns k C XP elt):SimE fns k C XP (.comp elt x it):=by
 intro ex A env σ P s Q Er ok X nb hQ hE
 replace ok:=uB ok
 revert ok; refine λg=>Or.elim g (λj=>?_) (λok=>?_)
 ·clear g
  refine s6 (j) λMp Mw M6 M8 Nm z n ok=>?_
  clear j
  subst n
  simp only[and_eq_true,beq_iff_eq] at ok
  refine ae (ok) λp oe=>?_
  clear ok
  refine ae (p) λo oi=>?_
  clear p
  refine ae (o) λLD t=>?_
  clear o
  subst LD
  simp only[il] at nb hQ hE
  refine aP nb λn1 n2=>?_
  refine nk t X (mz oi env) λcl hcl=>Si oi X n1 (λq hq i s₂ I=>?_) λc u=>hE c (by rw[u]; rfl)
  refine ak (eS (a8 (n2 q hq)).1) λres l=>?_
  refine fq (RR:=λacc C=>compPost (model prog w) A Er none Q acc C) (ds:=q.1) t X l (λd r hf cenv sc P' Q₁ Qb Er' hN X' h1 h2=>wpAny_tests_nil ?_) I (λD C h tk m E hm hC=>(ah m hm (λh' hs=>hQ _ (by rw[hq,Out.ok_bind,l]; rfl) _ _ (E.sameBut hm hC hs)))) hcl
  rw[if_pos rfl]
  refine Out.bind_k hf λy hy e=>?_
  (have oc:=Out.ok.inj e; clear e; (clear h1 hf; subst oc))
  refine Se (hN▸oe) X' (by rw[hy]; simp) (λr hr v s' E=>h2 r (by rw[hy] at hr; (have oc:=Out.ok.inj hr; clear hr; (clear E; subst oc)); rfl) v s' E) λc u=>by rw[hy] at u; cases u
 ·cases ok
theorem r7 {elt c:E}(Si:d9 fns k C XP it) (Se:SimE fns k C XP elt) (Sc:SimT fns k C XP c):SimE fns k C XP (.compif elt x it c):=by
 intro ex A env σ P s Q Er ok X nb hQ hE
 replace ok:=pR ok
 revert ok; refine λl=>Or.elim l (λn=>?_) (λok=>?_)
 ·clear l
  refine fX (n) λMt M9 MZ Ni Nn Nl No z ok=>?_
  clear n
  subst z
  simp only[and_eq_true,beq_iff_eq] at ok
  refine ae (ok) λLy oe=>?_
  clear ok
  refine ae (Ly) λp j=>?_
  clear Ly
  refine ae (p) λo oi=>?_
  clear p
  refine ae (o) λLH hsc=>?_
  clear o
  subst LH
  simp only[fw] at nb hQ hE
  refine aP nb λn1 n2=>?_
  refine nk hsc X (mz oi env) λcl hcl=>Si oi X n1 (λq hq i s₂ I=>?_) λc hc=>hE c (by rw[hc]; rfl)
  refine ak (eS (a8 (n2 q hq)).1) λres u=>?_
  refine fq (RR:=λacc C=>compPost (model prog w) A Er none Q acc C) (ds:=q.1) hsc X u (λd r hf cenv sc P' Q₁ Qb Er' hN X' h1 h2=>wpAny_tests_one ?_) I (λD C h tk m E hm hC=>(ah m hm (λh' hs=>hQ _ (by rw[hq,Out.ok_bind,u]; rfl) _ _ (E.sameBut hm hC hs)))) hcl
  refine Out.bind_k hf λt ht hf=>?_
  refine Out.bind_k hf λb hb hf=>?_
  refine Sc (hN▸j) X' (by rw[ht,Out.ok_bind,hb]; simp) (λb' hb' s₄ g=>?_) λc hc=>by rw[ht] at hc; cases hc
  rw[ht,Out.ok_bind,hb] at hb'
  injection hb'
  cases b with
  | false=>(have j:=Out.ok.inj hf; clear hf; (clear h2; subst j)); simpa using h1 rfl s₄ g
  | true=>
   rw[if_pos rfl] at hf ⊢
   refine Out.bind_k hf λy hy e=>?_
   (have j:=Out.ok.inj e; clear e; (clear h1; subst j))
   exact Se (hN▸oe) (X'.k g.k) (by rw[hy]; simp) (λr hr v s' E=>h2 r (by rw[hy] at hr; (have j:=Out.ok.inj hr; clear hr; (clear E; subst j)); rfl) v s' (E.after g)) λc hc=>by rw[hy] at hc; cases hc
 ·cases ok
end
theorem jn (val:Nat->Int):∀ k,argBest (λi j=>decide (val i>val j)) k<=k/\∀ j,j<=k->val j<=val (argBest (λi j=>decide (val i>val j)) k)
 | 0=>⟨le_refl _,λj g=>by
  have:j=0:=by exact Hq g
  (clear g; subst this)
  exact Int.le_refl _⟩
 | k+1=>by
  refine ae (jn val k) λl h=>?_
  unfold argBest
  by_cases hc:val (k+1)>val (argBest (λi j=>decide (val i>val j)) k)
  ·rw[if_pos (by simpa using hc)]
   refine ⟨le_refl _,λj g=>?_⟩
   by_cases e:j=k+1
   ·(clear g; subst e); exact Int.le_refl _
   ·have:=h j (ym g e); exact GO hc this
  ·rw[if_neg (by simpa using hc)]
   refine ⟨by exact le_succ_of_le ‹_›,λj g=>?_⟩
   by_cases e:j=k+1
   ·(clear g; subst e); exact Ii hc
   ·exact h j (ym g e)
theorem qt (h:jo ns=some m):ns[argBest (λi j=>decide (ns[i]?.getD 0>ns[j]?.getD 0)) (ns.length-1)]?.getD 0=m:=by
 refine ae (jn (λi=>ns[i]?.getD 0) (ns.length-1)) λu t=>?_
 refine ae (nK h) λl o=>?_
 have r:0<ns.length:=List.length_pos_of_mem l
 generalize argBest (λi j=>decide (ns[i]?.getD 0>ns[j]?.getD 0)) (ns.length-1)=b at *
 have q:ns[b]? = some ns[b]:=List.getElem?_eq_getElem (EZ r u)
 rw[q]
 dsimp only [Option.getD_some]
 have n:=o ns[b] (List.getElem_mem _)
 refine ak (getElem_of_mem l) λj g=>?_
 refine ak (g) λp e=>?_
 clear g
 have k:=t j (sq p)
 rw[q,List.getElem?_eq_getElem p,e] at k
 simp only[Option.getD_some] at k
 exact zh n k
section
theorem Aa (h:IntsAre vs ns):∀ {i:Nat}{v:Value},vs[i]? = some v->∃ t,v = .int (ns[i]?.getD 0) t:=by
 induction h with
 | nil=>intro i v h; simp at h
 | cons n t _ ih=>
  intro i v h
  cases i with
  | zero=>simp at h; exact ⟨t,by simp[<- h]⟩
  | succ i=>simpa using ih (by simpa using h)
theorem uk (hh:A.handled=none) (ra:R s.heap va (.list xs) as) (hi:aY xs=some ns)
  (hG:∀ I fp wr Pw St y,Walks prog w A I fp wr ns.length Pw St->St 0 y.heap->(∀ b∈fp,b<y.heap.objs.size)->(∀ i v,Pw i v->∃ t,v = .int (ns[i]?.getD 0) t)->(∀ b∈wr,s.heap.get? b=none/\∀ o,y.heap.get? b=some o->¬ Stay o)->Kp s y->G (.ref I) y) :
  wpAny (model prog w) A (pyIter va) G Er s:=by
 refine ra.isList_k λa p n x m h g l=>?_
 (clear ra; subst m)
 subst l
 refine aG (g.ints hi) λu k j=>?_
 subst k
 subst j
 have e:p.toArray.size=ns.length:=by rw[size_toArray,g.length,length_map]
 have W:=Walks.list (prog:=prog) (w:=w) (A:=A) hh s.heap.objs.size a (eA h) p.toArray
 rw[e] at W
 refine wpAny_pyIter_list (isL h) (hG _ _ _ _ _ _ W ⟨(aF _ (Heap.get?_push_size _ rfl) rfl rfl),(isL h).push _⟩ ?_ ?_ ?_ (.push s _ _))
 ·intro b hb
  rw[show _=s.heap.objs.size+1 from size_push ..]
  rcases mem_cons.mp hb with rfl | hb
  ·exact Nat.lt_succ_self _
  ·rw[mem_singleton.mp hb]; exact lt_succ_of_lt (lt_size h)
 ·intro i v r
  exact Aa u (by simpa using r)
 ·intro b hb
  rw[mem_singleton.mp hb]
  refine ⟨bi _,λo e=>?_⟩
  rw[show _=some _ from Heap.get?_push_size _ rfl] at e
  injection e
  exact Stay.not_cls (by simp) (by simp)
theorem Kp.after {s j:Shared}{h':Heap}{tk:Nat}{wr:List Addr}(kp:Kp s j) (hwr:∀ b∈wr,s.heap.get? b=Option.none/\∀ o,j.heap.get? b=some o->¬ Stay o) (hk:∀ b o,b∉wr->j.heap.get? b=some o->h'.get? b=some o):Kp s {j with heap:=h',toks:=tk }:=by
 refine av (kp) λh t g k=>?_
 clear kp
 subst g
 exact (aC h' tk rfl (K.step k (KG.ofW hk λb i=>(hwr b i).2) λb o e i=>by rw[(hwr b i).1] at e; cases e))
theorem wL (hh:A.handled=none) (ra:R s.heap va (.list xs) as) (hi:aY xs=some ns) (hm:jo ns=some m) (hQ:∀ v s',EP P s (sI m) v s'->Q v s'):wpAny (model prog w) A (call (.builtin "max") [va]) Q Er s:=by
 refine call_max_walk (uk (A:=A.in1) hh ra hi λI q o Pw St l W j k g i p=>(BB I q o _ Pw St _ rfl W j k (List.length_pos_of_mem (nK hm).1) (CmpOf.ints_gt _ g) (λv u r n hk=>?_)))
 refine ak (g _ _ n) λt h=>?_
 (clear n; subst h)
 rw[qt hm]
 exact hQ _ _ (.int (p.after i hk))
noncomputable def Isi (s:Shared) (t:String) (v:Value) (b:Bool):Prop:=∀ (A:Around) (Q:Value->Shared->Prop) (Er:Value->Shared->Prop),(∀ s',Kp s s'->Q (.bool b) s')->wpAny (model prog w) A (call (.builtin "isinstance") [v,.type t]) Q Er s
theorem jc {t:String}{f:Nat->Bool}(h0:Isi s t .none (f 0)) (h1:∀ b,Isi s t (.bool b) (f 1)) (h2:∀ i u,Isi s t (.int i u) (f 2)) (h3:∀ x u,Isi s t (.str x u) (f 3))
  (h4:∀ {a:Addr}{n:Nat}{vs:List Value},s.heap.get? a=some ⟨.type "list", none,.seq vs.toArray n,#[]⟩->Isi s t (.ref a) (f 4)) (h5:∀ {a:Addr}{n:Nat}{vs:List Value},s.heap.get? a=some ⟨.type "tuple", none,.seq vs.toArray n,#[]⟩->Isi s t (.ref a) (f 5))
  {x:PyData}(ra:R s.heap va x as):Isi s t va (f (qk x)) :=
 (R.ind (M:=λv d _=>Isi s t v (f (qk d))) (N:=λuu uu uu=>True) h0 h1 h2 h3 (λe _ _=>h4 e) (λe _ _=>h5 e) trivial λuu uu uu uu=>trivial).1 ra
theorem xq (he:mj t (qk x)=some b) (ra:R s.heap va x as) (hQ:∀ s',Kp s s'->Q (.bool b) s'):wpAny (model prog w) A (call (.builtin "isinstance") [va,.type t]) Q Er s :=
 have l:=Kp.refl s
 have g:=Kp.toks s (s.toks+1)
 qg he (λq j=>q▸(jc (t:="int") (f:=λk=>(k==2||k==1)) (λA Q Er h=>IsiPair.NoneType_int (h _ g)) (λuu A Q Er h=>IsiPair.bool_int (h _ l)) (λuu i A Q Er h=>IsiPair.int_int (h _ l)) (λuu i A Q Er h=>IsiPair.str_int (h _ g)) (λe A Q Er h=>IsiPair.list_int e rfl (h _ g)) (λe A Q Er h=>IsiPair.tuple_int e rfl (h _ g)) ra) _ _ _ (j▸hQ))
  (λq j=>q▸(jc (t:="bool") (f:=λk=>(k==1)) (λA Q Er h=>IsiPair.NoneType_bool (h _ g)) (λuu A Q Er h=>IsiPair.bool_bool (h _ l)) (λuu i A Q Er h=>IsiPair.int_bool (h _ g)) (λuu i A Q Er h=>IsiPair.str_bool (h _ g)) (λe A Q Er h=>IsiPair.list_bool e rfl (h _ g)) (λe A Q Er h=>IsiPair.tuple_bool e rfl (h _ g)) ra) _ _ _ (j▸hQ))
  (λq j=>q▸(jc (t:="list") (f:=λk=>(k==4)) (λA Q Er h=>IsiPair.NoneType_list (h _ g)) (λuu A Q Er h=>IsiPair.bool_list (h _ g)) (λuu i A Q Er h=>IsiPair.int_list (h _ g)) (λuu i A Q Er h=>IsiPair.str_list (h _ g)) (λe A Q Er h=>IsiPair.list_list e rfl (h _ l)) (λe A Q Er h=>IsiPair.tuple_list e rfl (h _ g)) ra) _ _ _ (j▸hQ))
  (λq j=>q▸(jc (t:="tuple") (f:=λk=>(k==5)) (λA Q Er h=>IsiPair.NoneType_tuple (h _ g)) (λuu A Q Er h=>IsiPair.bool_tuple (h _ g)) (λuu i A Q Er h=>IsiPair.int_tuple (h _ g)) (λuu i A Q Er h=>IsiPair.str_tuple (h _ g)) (λe A Q Er h=>IsiPair.list_tuple e rfl (h _ g)) (λe A Q Er h=>IsiPair.tuple_tuple e rfl (h _ l)) ra) _ _ _ (j▸hQ))
  (λq j=>q▸(jc (t:="str") (f:=λk=>(k==3)) (λA Q Er h=>IsiPair.NoneType_str (h _ g)) (λuu A Q Er h=>IsiPair.bool_str (h _ g)) (λuu i A Q Er h=>IsiPair.int_str (h _ g)) (λuu i A Q Er h=>IsiPair.str_str (h _ l)) (λe A Q Er h=>IsiPair.list_str e rfl (h _ g)) (λe A Q Er h=>IsiPair.tuple_str e rfl (h _ g)) ra) _ _ _ (j▸hQ))
end
noncomputable def rkA (rk:Keyed->Nat) (arr:Array Keyed) (i:Nat):Nat:=match arr[i]? with
 | some p=>rk p
 | none=>0
noncomputable def bB (M:Model) (A:Around) (E:Value->Shared->Prop) (s:Shared) (rk:Keyed->Nat) (ok:Keyed->Prop) (κ:SortKind):Prop :=
 ∀ {x y:Keyed}{st:SortSt}{Q:Option Bool->SortSt->Prop},ok x->ok y->kindOf st=κ->Q (some (decide (rk x<rk y))) st->wpS M A E s (lt' x y) Q st
noncomputable def Up (rk:Keyed->Nat) (l:List Keyed):Prop:=l.Pairwise λx y=>rk x<=rk y
structure Gd (rk:Keyed->Nat) (ok:Keyed->Prop) (κ:SortKind) (st:SortSt):Prop where
 ok:∀ p∈arrOf st,ok p
 kind:kindOf st=κ
noncomputable def SegUp (rk:Keyed->Nat) (arr:Array Keyed) (lo n:Nat):Prop:=∀ i j,lo<=i->i<=j->j<lo+n->rkA rk arr i<=rkA rk arr j
structure SG where
 A:Around
 E:Value->Shared->Prop
 s:Shared
 rk:Keyed->Nat
 ok:Keyed->Prop
 κ:SortKind
noncomputable def gM:Model:=model prog w
noncomputable def SP3 (x:SG):Prop:=bB gM x.A x.E x.s x.rk x.ok x.κ->∀ {st:SortSt}{Q:Unit->SortSt->Prop},Gd x.rk x.ok x.κ st->2<=(arrOf st).size->(arrOf st).size<128->pendingOf st = #[]->failedOf st=none->(∀ st',(arrOf st').Perm (arrOf st)->Up x.rk (arrOf st').toList->failedOf st' = none->Q () st')->wpS gM x.A x.E x.s sortRuns' Q st
noncomputable def lQ (x:SG):Prop:=SP3 x
noncomputable def sg:SG:=@Classical.epsilon SG ⟨⟨{},λ_ _=>True,{},λ_=>0,λ_=>True,oneType'⟩⟩ λx=>¬ lQ x
theorem tH (h:lQ sg):∀ x,lQ x:=λx=>Classical.byContradiction λn=>@Classical.epsilon_spec SG (λx=>¬ lQ x) ⟨x,n⟩ h
noncomputable def gA:Around:=sg.A
noncomputable def gE:Value->Shared->Prop:=sg.E
noncomputable def gs:Shared:=sg.s
noncomputable def gr:Keyed->Nat:=sg.rk
noncomputable def go:Keyed->Prop:=sg.ok
noncomputable def gk:SortKind:=sg.κ
noncomputable def gallop':Bool->Keyed->Array Keyed->Nat->Nat->Nat->StateT SortSt Sem (Option Nat):=sortPriv% PySem.Builtin.gallop
section
theorem aL {arr:Array Keyed}{i:Nat}{st:SortSt}{Q:Keyed->SortSt->Prop}(hi:i<arr.size) (h:Q arr[i] st):wpS gM gA gE gs (elem' arr i) Q st:=by
 rw[elem'_eq,Array.getElem?_eq_getElem hi]
 exact wpS_pure h
theorem eB (hi:i<arr.size):rkA gr arr i=gr arr[i]:=by unfold rkA; rw[Array.getElem?_eq_getElem hi]
theorem Av (hlt:bB gM gA gE gs gr go gk) {left:Bool}{key:Keyed}{arr:Array Keyed}{i:Nat}{st:SortSt}{Q:Option Bool->SortSt->Prop}(hi:i<arr.size) (hok:∀ p∈arr,go p) (hkey:go key) (hk:kindOf st=gk)
  (h:Q (some (if left then decide (rkA gr arr i<gr key) else !decide (gr key<rkA gr arr i))) st):wpS gM gA gE gs (do let x <- elem' arr i; if left=true then lt' x key else do let r <- lt' key x; pure (r.map λb=>!b)) Q st:=by
 refine wpS_bind (aL hi ?_)
 rw[eB hi] at h
 have g:=hok arr[i] (getElem_mem hi)
 cases left with
 | true=>rw[if_pos rfl] at h ⊢; exact hlt g hkey hk h
 | false=>
  rw[if_neg (by decide)] at h ⊢
  exact wpS_bind (hlt hkey g hk (wpS_pure h))
theorem lR (hlt:bB gM gA gE gs gr go gk) {left:Bool}{key:Keyed}{arr:Array Keyed}{base n hint:Nat}{st:SortSt}{Q:Option Nat->SortSt->Prop}(hn:base+n<=arr.size) (hh:hint<n) (hok:∀ p∈arr,go p) (hkey:go key) (hk:kindOf st=gk)
  (bey:Nat->Bool) (hb:∀ i,bey i=if left then decide (rkA gr arr (base+i)<gr key) else !decide (gr key<rkA gr arr (base+i))) (hm:∀ i j,i<=j->j<n->bey j=true->bey i=true)
  (h:∀ k,k<=n->(∀ i,i<k->bey i=true)->(∀ i,k<=i->i<n->bey i=false)->Q (some k) st):wpS gM gA gE gs (gallop' left key arr base n hint) Q st:=by
 unfold gallop'
 have look:∀ {i:Nat}{st:SortSt}{Q:Option Bool->SortSt->Prop},i<n->kindOf st=gk->Q (some (bey i)) st->wpS gM gA gE gs (do let x <- elem' arr (base+i); if left=true then lt' x key else do let r <- lt' key x; pure (r.map λb=>!b)) Q st:=λ{i st Q} m hk h=>Av hlt (zr hn m) hok hkey hk (by rw[<- hb]; exact h)
 have hm':∀ i j,i<=j->j<n->bey i=false->bey j=false:=λi j z y h3=>by
  cases q:bey j with
  | false=>rfl
  | true=>rw[hm i j z y q] at h3; cases h3
 have fin:∀ (g m:Nat) {R:Option (Option Nat)×Nat×Nat->SortSt->Prop}{f:Nat->Option (Option Nat)×Nat×Nat->StateT SortSt Sem (ForInStep (Option (Option Nat)×Nat×Nat))},g<=m->m<=n->(∀ i,i<g->bey i=true)->(∀ i,m<=i->i<n->bey i=false) ->
   (∀ x g m {Q:ForInStep (Option (Option Nat)×Nat×Nat)->SortSt->Prop} , g<m->m<=n->Q (.yield (none,if bey (g+(m-g)/2) then g+(m-g)/2+1 else g,if bey (g+(m-g)/2) then m else g+(m-g)/2)) st->wpS gM gA gE gs (f x (none,g,m)) Q st) ->
   (∀ x g {Q:ForInStep (Option (Option Nat)×Nat×Nat)->SortSt->Prop},Q (.done (none,g,g)) st->wpS gM gA gE gs (f x (none,g,g)) Q st) ->
   (∀ k,k<=n->(∀ i,i<k->bey i=true)->(∀ i,k<=i->i<n->bey i=false)->R (none,k,k) st)->wpS gM gA gE gs (forIn [0:n] (none,g,m) f) R st:=by
  intro g m R f z y h3 h4 hs hd hR
  refine wpS_forRange (I:=λx c o=>o=st/\∃ g m,c=(none,g,m)/\g<=m/\m<=n/\m-g<=n-x/\(∀ i,i<g->bey i=true)/\(∀ i,m<=i->i<n->bey i=false)) ?_ ?_ (aB rfl (ou g m rfl z y (C8 y) h3 h4))
  ·rintro x c o _ hx ⟨rfl,g,m,rfl,u,v,g3,g4,g5⟩
   by_cases e:g=m
   ·(clear u g3; subst e)
    exact hd x g (hR g v g4 g5)
   ·refine hs x g m (IK u e) v (aB rfl (aC _ _ rfl ?_))
    cases q:bey (g+(m-g)/2) with
    | true=>
     simp only[if_true]
     exact (cy (ID u e) v (Fw g3) (λi hi'=>hm i _ (ET hi') (Ga u v e) q) g5)
    | false=>
     simp only[false_eq_true,if_false]
     exact (cy DR (HU u v) (GL g3) g4 (λi z y=>hm' _ i z y q))
  ·rintro c o ⟨rfl,g,m,rfl,u,v,g3,g4,g5⟩
   have:g=m:=by exact Fe u g3
   (clear u g3; subst this)
   exact hR g v g4 g5
 refine wpS_bind (look hh hk ?_)
 dsimp only
 cases hr:bey hint with
 | true=>
  rw[if_pos rfl]
  refine wpS_bind (wpS_mono (wpS_forRange (I:=λx c o=>o=st/\∃ t l,c=(none,t,l)/\t<l/\hint+t<n/\bey (hint+t)=true/\x+1<=l)
   (Q:=λc o=>o=st/\∃ t l,c=(none,t,l)/\t<l/\hint+t<n/\bey (hint+t)=true/\(n-hint<=l\/bey (hint+l)=false)) ?_ ?_ (aB rfl (bP 0 1 rfl yp (CQ hh) hr zD))) ?_)
  ·rintro x c o _ hx ⟨rfl,t,l,rfl,u,v,g3,g4⟩
   dsimp only
   by_cases e:l≥n-hint
   ·rw[if_pos e]; exact wpS_pure (aB rfl (bP t l rfl u v g3 (.inl e)))
   ·rw[if_neg e]
    refine wpS_bind (look (zi e) hk ?_)
    dsimp only
    cases q:bey (hint+l) with
    | false=>exact wpS_pure (aB rfl (bP t l rfl u v g3 (.inr q)))
    | true=>exact wpS_pure (aB rfl (bP l (2*l+1) rfl yh (zi e) q (zT g4)))
  ·rintro c o ⟨rfl,t,l,rfl,u,v,g3,g4⟩
   exact (aB rfl (bP t l rfl u v g3 (.inl (Jf g4))))
  ·rintro c o ⟨rfl,t,l,rfl,u,v,g3,g4⟩
   dsimp only
   refine wpS_bind (fin _ _ (Hz u v) (Jq hh) (λi m=>hm i _ (IV m) v g3) (λi z y=>?_) (λx g m Q z y hQ=>?_) (λx g Q hQ=>?_) λk z y h3=>wpS_pure (h k z y h3))
   ·rcases g4 with g4 | g4
    ·exact Ek z y g4
    ·exact hm' _ i (HJ z y) y g4
   ·dsimp only
    rw[if_neg (yU z)]
    refine wpS_bind (look (yP z y) hk ?_)
    dsimp only
    cases q:bey (g+(m-g)/2) with
    | true=>rw[q] at hQ; exact wpS_pure hQ
    | false=>rw[q] at hQ; exact wpS_pure hQ
   ·dsimp only
    rw[if_pos (le_refl _)]
    exact wpS_pure hQ
 | false=>
  rw[if_neg (by decide)]
  refine wpS_bind (wpS_mono (wpS_forRange (I:=λx c o=>o=st/\∃ t l,c=(none,t,l)/\t<l/\t<=hint/\bey (hint-t)=false/\x+1<=l)
   (Q:=λc o=>o=st/\∃ t l,c=(none,t,l)/\t<l/\t<=hint/\bey (hint-t)=false/\(hint+1<=l\/(l<=hint/\bey (hint-l)=true))) ?_ ?_ (aB rfl (bP 0 1 rfl yp HS hr zD))) ?_)
  ·rintro x c o _ hx ⟨rfl,t,l,rfl,u,v,g3,g4⟩
   dsimp only
   by_cases e:l≥hint+1
   ·rw[if_pos e]; exact wpS_pure (aB rfl (bP t l rfl u v g3 (.inl e)))
   ·rw[if_neg e]
    refine wpS_bind (look (y3 hh) hk ?_)
    dsimp only
    cases q:bey (hint-l) with
    | true=>exact wpS_pure (aB rfl (bP t l rfl u v g3 (.inr ⟨by exact yH e,q⟩)))
    | false=>exact wpS_pure (aB rfl (bP l (2*l+1) rfl yh (yH e) q (zT g4)))
  ·rintro c o ⟨rfl,t,l,rfl,u,v,g3,g4⟩
   exact (aB rfl (bP t l rfl u v g3 (.inl (Io hh g4))))
  ·rintro c o ⟨rfl,t,l,rfl,u,v,g3,g4⟩
   dsimp only
   refine wpS_bind (fin _ _ ?_ (Iz hh) (λi m=>?_) (λi z y=>hm' _ i z y g3) (λx g m Q z y hQ=>?_) (λx g Q hQ=>?_) λk z y h3=>wpS_pure (h k z y h3))
   ·rcases g4 with g4 | ⟨g4,g5⟩
    ·exact Eo g4
    ·exact Fh u
   ·rcases g4 with g4 | ⟨g4,g5⟩
    ·exact DQ m g4
    ·exact hm i (hint-l) (D9 m) (y3 hh) g5
   ·dsimp only
    rw[if_neg (yU z)]
    refine wpS_bind (look (yP z y) hk ?_)
    dsimp only
    cases q:bey (g+(m-g)/2) with
    | true=>rw[q] at hQ; exact wpS_pure hQ
    | false=>rw[q] at hQ; exact wpS_pure hQ
   ·dsimp only
    rw[if_pos (le_refl _)]
    exact wpS_pure hQ
end
noncomputable def mergeLo':Array Keyed->Array Keyed->StateT SortSt Sem (Array Keyed):=sortPriv% PySem.Builtin.mergeLo
theorem Up.le {gr:Keyed->Nat}(h:Up gr l) (hi:i<l.length):∀ y∈l.drop i,gr l[i]<=gr y:=by
 intro y hy
 rw[drop_eq_getElem_cons hi] at hy
 rcases mem_cons.mp hy with rfl | hy
 ·exact le_refl _
 ·have:=pairwise_append.mp (show (l.take (i+1)++l.drop (i+1)).Pairwise _ by rw[take_append_drop]; exact h)
  exact this.2.2 l[i] (by rw[List.take_succ_eq_append_getElem hi]; exact mem_append_right _ (.head _)) y hy
structure MI (gr:Keyed->Nat) (a b o:List Keyed) (i j:Nat):Prop where
 perm:o.Perm (a.take i++b.take j)
 sorted:Up gr o
 la:∀ x∈o,∀ y∈a.drop i,gr x<=gr y
 lb:∀ x∈o,∀ y∈b.drop j,gr x<=gr y
section
theorem take_add' (l:List α) (i k:Nat):l.take (i+k)=l.take i++(l.drop i).take k:=List.take_add ..
theorem MI.swap (h:MI gr a b o i j):MI gr b a o j i:=⟨h.perm.trans perm_append_comm,h.sorted,h.lb,h.la⟩
theorem MI.blockB (h:MI gr a b o i j) (ub:Up gr b) (k:Nat) (hlt:∀ x∈(b.drop j).take k,∀ y∈a.drop i,gr x<=gr y):MI gr a b (o++(b.drop j).take k) i (j+k) where
 perm:=by
  rw[take_add',<- append_assoc]
  exact h.perm.append_right _
 sorted:=pairwise_append.mpr ⟨h.sorted,(ub.sublist (List.drop_sublist j b)).sublist (List.take_sublist ..),λx l y g=>h.lb x l y (mem_of_mem_take g)⟩
 la:=λx l y g=>(mem_append.mp l).elim (λq=>h.la x q y g) λq=>hlt x q y g
 lb:=λx l y g=>(mem_append.mp l).elim (λq=>h.lb x q y (by rw[<- drop_drop] at g; exact mem_of_mem_drop g)) λq=>by
  have:=pairwise_append.mp (show ((b.drop j).take k++(b.drop j).drop k).Pairwise _ by rw[take_append_drop]; exact ub.sublist (List.drop_sublist j b))
  exact this.2.2 x q y (by rw[drop_drop]; exact g)
theorem MI.blockA (h:MI gr a b o i j) (ua:Up gr a) (k:Nat) (hlt:∀ x∈(a.drop i).take k,∀ y∈b.drop j,gr x<=gr y):MI gr a b (o++(a.drop i).take k) (i+k) j:=(h.swap.blockB ua k hlt).swap
theorem fL {α:Type}{l:List α}{i:Nat}(hi:i<l.length):(l.drop i).take 1=[l[i]]:=by rw[drop_eq_getElem_cons hi]; rfl
theorem MI.pushB (h:MI gr a b o i j) (ub:Up gr b) (hj:j<b.length) (hlt:∀ y∈a.drop i,gr b[j]<=gr y):MI gr a b (o++[b[j]]) i (j+1):=by
 have:=h.blockB ub 1 (by rw[fL hj]; intro x g; rw[mem_singleton.mp g]; exact hlt)
 rwa [fL hj] at this
theorem MI.pushA (h:MI gr a b o i j) (ua:Up gr a) (hi:i<a.length) (hlt:∀ y∈b.drop j,gr a[i]<=gr y):MI gr a b (o++[a[i]]) (i+1) j:=(h.swap.pushB ua hi hlt).swap
def Mgd (gr:Keyed->Nat) (a b:List Keyed) (r:Array Keyed):Prop:=r.toList.Perm (a++b)/\Up gr r.toList
theorem MI.doneB (h:MI gr a b o i b.length) (ua:Up gr a):(o++a.drop i).Perm (a++b)/\Up gr (o++a.drop i):=by
 have:=h.blockA ua (a.length-i) (λx _ y g=>by rw[drop_length] at g; cases g)
 rw[take_of_length_le (by rw[length_drop]; exact le_refl _)] at this
 refine ⟨this.perm.trans ?_,this.sorted⟩
 rw[List.take_length,take_of_length_le (show a.length<=i+(a.length-i) by exact CV)]
theorem MI.doneA (h:MI gr a b o a.length j) (ub:Up gr b):(o++b.drop j).Perm (a++b)/\Up gr (o++b.drop j):=by
 obtain ⟨i,g⟩:=h.swap.doneB ub
 exact ⟨i.trans perm_append_comm,g⟩
theorem MI.last (h:MI gr a b o i j) (ua:Up gr a) (ub:Up gr b) (hi:i+1=a.length) (ht:∀ x∈b,∀ y∈a.drop i,gr x<=gr y):(o++b.drop j++a.drop i).Perm (a++b)/\Up gr (o++b.drop j++a.drop i):=by
 have:=h.blockB ub (b.length-j) (λx k y g=>ht x (mem_of_mem_drop (mem_of_mem_take k)) y g)
 rw[take_of_length_le (show (b.drop j).length<=b.length-j by rw[length_drop]; exact le_refl _)] at this
 by_cases hj:j<=b.length
 ·rw[show j+(b.length-j)=b.length by exact jD hj] at this
  exact this.doneB ua
 ·have e:b.drop j=[]:=List.drop_eq_nil_iff.mpr (yT hj)
  have l:MI gr a b o i b.length:=⟨h.perm.trans (by rw[take_of_length_le (show b.length<=j by exact yT hj),List.take_length]),h.sorted,h.la,λx _ y g=>by rw[drop_length] at g; cases g⟩
  rw[e,append_nil]
  exact l.doneB ua
end
section
def Sm (st st':SortSt):Prop:=kindOf st' = kindOf st/\arrOf st' = arrOf st/\pendingOf st' = pendingOf st/\failedOf st' = failedOf st
theorem Sm.refl (st:SortSt):Sm st st:=⟨rfl,rfl,rfl,rfl⟩
theorem Sm.trans (h:Sm x y) (g:Sm y z):Sm x z:=⟨g.1.trans h.1,g.2.1.trans h.2.1,g.2.2.1.trans h.2.2.1,g.2.2.2.trans h.2.2.2⟩
theorem dK {x:String}{st:SortSt}{Q:Unit->SortSt->Prop}(h:Q () st):wpS gM gA gE gs (liftM (rule x):StateT SortSt Sem Unit) Q st:=wpS_pure (M:=gM) (E:=gE) h
noncomputable def setMin':Nat->StateT SortSt Sem Unit:=sortPriv% PySem.Builtin.setMinGallop
theorem fy {g:Nat}{st:SortSt}{Q:Unit->SortSt->Prop}(h:∀ st',Sm st st'->Q () st'):wpS gM gA gE gs (setMin' g) Q st:=wpS_modify (h _ ⟨rfl,rfl,rfl,rfl⟩)
theorem fK {l:List Keyed}{i n:Nat}{P:Keyed->Prop}(h:∀ q (hq:i+q<l.length),q<n->P l[i+q]):∀ x∈(l.drop i).take n,P x:=by
 intro x g
 obtain ⟨q,hq,rfl⟩:=getElem_of_mem g
 rw[length_take,length_drop] at hq
 rw[getElem_take,getElem_drop]
 exact h q (r8 hq) (F0 hq)
theorem drop_mem' {l:List Keyed}{i:Nat}{P:Keyed->Prop}(h:∀ q (hq:i+q<l.length),P l[i+q]):∀ x∈l.drop i,P x:=by
 intro x g
 obtain ⟨q,hq,rfl⟩:=getElem_of_mem g
 rw[length_drop] at hq
 rw[getElem_drop]
 exact h q (oz hq)
theorem cr (hi:i<arr.toList.length):rkA gr arr i=gr arr.toList[i]:=by rw[length_toList] at hi; rw[eB hi]; rfl
theorem bW (a:Array Keyed) (i j:Nat):(a.extract i j).toList=(a.toList.drop i).take (j-i):=by
 rw[Array.toList_extract,List.extract_eq_take_drop]
theorem eM (a:Array Keyed) (i:Nat):(a.extract i a.size).toList=a.toList.drop i:=by
 rw[bW,take_of_length_le (by rw[length_drop,length_toList]; exact le_refl _)]
theorem dF (hlt:bB gM gA gE gs gr go gk) {left:Bool}{key:Keyed}{arr:Array Keyed}{base n hint:Nat}{st:SortSt}{Q:Option Nat->SortSt->Prop}(hn:base+n<=arr.size) (hh:hint<n) (hok:∀ p∈arr,go p) (hkey:go key) (hk:kindOf st=gk) (up:Up gr arr.toList)
  (h:∀ k,k<=n->(∀ q (hq:base+q<arr.toList.length),q<k->if left then gr arr.toList[base+q]<gr key else gr arr.toList[base+q]<=gr key)->(∀ q (hq:base+q<arr.toList.length),k<=q->q<n->if left then gr key<=gr arr.toList[base+q] else gr key<gr arr.toList[base+q])->Q (some k) st) :
  wpS gM gA gE gs (gallop' left key arr base n hint) Q st:=by
 refine lR hlt hn hh hok hkey hk (λi=>if left then decide (rkA gr arr (base+i)<gr key) else !decide (gr key<rkA gr arr (base+i))) (λ_=>rfl) (λi j o u l=>?_) λk o u l=>h k o (λq hq g=>?_) λq hq g r=>?_
 ·have t:base+j<arr.toList.length:=by rw[length_toList]; exact zr hn u
  have v:base+i<arr.toList.length:=by exact Je o t
  have m:rkA gr arr (base+i)<=rkA gr arr (base+j):=by
   rw[cr v,cr t]
   exact up.le v _ (by
    have e:arr.toList[base+j]=(arr.toList.drop (base+i))[j-i]'(by rw[length_drop]; exact Dg o t):=by
     rw[getElem_drop]; congr 1; exact Jx o
    rw[e]; exact List.getElem_mem _)
  cases left with
  | true=>simp at l ⊢; exact yS m l
  | false=>simp at l ⊢; exact x5 m l
 ·have:=u q g
  rw[cr hq] at this
  cases left with
  | true=>simpa using this
  | false=>simpa using this
 ·have:=l q g r
  rw[cr hq] at this
  cases left with
  | true=>simpa using this
  | false=>simpa using this
end
noncomputable def elem':Array Keyed->Nat->StateT SortSt Sem Keyed:=sortPriv% PySem.Builtin.elem
noncomputable def lt':Keyed->Keyed->StateT SortSt Sem (Option Bool):=sortPriv% PySem.Builtin.lt
abbrev G5:Type:=Option (Array Keyed)×Array Keyed×Nat×Nat×Nat
abbrev G6:Type:=Option (Array Keyed)×Array Keyed×Nat×Nat×Nat×Nat
abbrev G7:Type:=Option (Array Keyed)×Array Keyed×Nat×Nat×Nat×Nat×Nat
abbrev SM (α:Type):Type:=StateT SortSt Sem α
noncomputable def loD (a b out:Array Keyed) (ia ib:Nat):Array Keyed:=out++a.extract ia a.size++b.extract ib b.size
noncomputable def loL (a b out:Array Keyed) (ia ib:Nat):Array Keyed:=out++b.extract ib b.size++a.extract ia a.size
noncomputable def zB (a b:Array Keyed) (mg:Nat) (out:Array Keyed) (ia ib bc:Nat):SM (ForInStep G6) :=
 if (ib==b.size)=true then pure (.done (some (loD a b out ia ib),out,ia,ib,0,bc)) else if bc≥mg then pure (.done (none,out,ia,ib,0,bc)) else pure (.yield (none,out,ia,ib,0,bc))
noncomputable def yA (a b:Array Keyed) (mg:Nat) (out:Array Keyed) (ia ib ac:Nat):SM (ForInStep G6) :=
 if (ia+1==a.size)=true then pure (.done (some (loL a b out ia ib),out,ia,ib,ac,0)) else if ac≥mg then pure (.done (none,out,ia,ib,ac,0)) else pure (.yield (none,out,ia,ib,ac,0))
noncomputable def CJ (a b:Array Keyed) (mg:Nat) (out:Array Keyed) (ia ib ac bc:Nat) (w:Bool):SM (ForInStep G6) :=
 if w=true then elem' b ib>>=λx=>zB a b mg (out.push x) ia (ib+1) (bc+1) else elem' a ia>>=λx=>yA a b mg (out.push x) (ia+1) ib (ac+1)
noncomputable def Ka (a b:Array Keyed) (mg:Nat) (out:Array Keyed) (ia ib ac bc:Nat):Option Bool->SM (ForInStep G6)
 | some w=>CJ a b mg out ia ib ac bc w
 | _=>pure (.done (some (loD a b out ia ib),out,ia,ib,ac,bc))
noncomputable def loW (a b:Array Keyed) (mg:Nat) (c:G6):SM (ForInStep G6) :=
 elem' b c.2.2.2.1>>=λp=>elem' a c.2.2.1>>=λq=>lt' p q>>=Ka a b mg c.2.1 c.2.2.1 c.2.2.2.1 c.2.2.2.2.1 c.2.2.2.2.2
noncomputable def loT4' (a b:Array Keyed) (mg k l:Nat) (out:Array Keyed) (ia ib:Nat):SM (ForInStep G7) :=
 if (ia+1==a.size)=true then pure (.done (some (loL a b out ia ib),out,ia,ib,mg,k,l))
 else if (decide (k<7)&&decide (l<7))=true then pure (.done (none,out,ia,ib,mg,k,l)) else pure (.yield (none,out,ia,ib,mg,k,l))
noncomputable def xy (a b:Array Keyed) (mg k l:Nat) (out:Array Keyed) (ia ib:Nat):SM (ForInStep G7):=elem' a ia>>=λx=>loT4' a b mg k l (out.push x) (ia+1) ib
noncomputable def loT3' (a b:Array Keyed) (mg k l:Nat) (out:Array Keyed) (ia ib:Nat):SM (ForInStep G7) :=
 if (ib==b.size)=true then pure (.done (some (loD a b out ia ib),out,ia,ib,mg,k,l)) else xy a b mg k l out ia ib
noncomputable def B6 (a b:Array Keyed) (mg k l:Nat) (out:Array Keyed) (ia ib:Nat):SM (ForInStep G7) :=
 if l>0 then loT3' a b mg k l (out++b.extract ib (ib+l)) ia (ib+l) else xy a b mg k l out ia ib
noncomputable def GD (a b:Array Keyed) (mg k bc:Nat) (out:Array Keyed) (ia ib:Nat):Option Nat->SM (ForInStep G7)
 | some l=>B6 a b mg k l out ia ib
 | _=>pure (.done (some (loD a b out ia ib),out,ia,ib,mg,k,bc))
noncomputable def loT2' (a b:Array Keyed) (mg k bc:Nat) (out:Array Keyed) (ia ib:Nat):SM (ForInStep G7) :=
 if (ib==b.size)=true then pure (.done (some (loD a b out ia ib),out,ia,ib,mg,k,bc)) else elem' a ia>>=λy=>gallop' true y b ib (b.size-ib) 0>>=GD a b mg k bc out ia ib
noncomputable def tn (a b:Array Keyed) (mg k bc:Nat) (out:Array Keyed) (ia ib:Nat):SM (ForInStep G7):=elem' b ib>>=λx=>loT2' a b mg k bc (out.push x) ia (ib+1)
noncomputable def loT1' (a b:Array Keyed) (mg k bc:Nat) (out:Array Keyed) (ia ib:Nat):SM (ForInStep G7) :=
 if (ia+1==a.size)=true then pure (.done (some (loL a b out ia ib),out,ia,ib,mg,k,bc))
 else if (ia==a.size)=true then pure (.done (some (loD a b out ia ib),out,ia,ib,mg,k,bc)) else tn a b mg k bc out ia ib
noncomputable def Dq (a b:Array Keyed) (mg ac bc:Nat) (out:Array Keyed) (ia ib:Nat):Option Nat->SM (ForInStep G7)
 | some k=>if k>0 then loT1' a b mg k bc (out++a.extract ia (ia+k)) (ia+k) ib else tn a b mg k bc out ia ib
 | _=>pure (.done (some (loD a b out ia ib),out,ia,ib,mg,ac,bc))
noncomputable def wm (a b:Array Keyed) (ac bc:Nat) (out:Array Keyed) (ia ib mg:Nat):SM (ForInStep G7) :=
 setMin' mg>>=λ_=>elem' b ib>>=λx=>gallop' false x a ia (a.size-ia) 0>>=Dq a b mg ac bc out ia ib
noncomputable def loG (a b:Array Keyed) (c:G7):SM (ForInStep G7) :=
 if c.2.2.2.2.1>1 then wm a b c.2.2.2.2.2.1 c.2.2.2.2.2.2 c.2.1 c.2.2.1 c.2.2.2.1 (c.2.2.2.2.1-1) else wm a b c.2.2.2.2.2.1 c.2.2.2.2.2.2 c.2.1 c.2.2.1 c.2.2.2.1 c.2.2.2.2.1
noncomputable def Ld (c:G7):Option (Array Keyed)->SM (ForInStep G5)
 | some r=>pure (.done (some r,c.2.1,c.2.2.1,c.2.2.2.1,c.2.2.2.2.1))
 | none=>setMin' (c.2.2.2.2.1+1)>>=λ_=>pure (.yield (none,c.2.1,c.2.2.1,c.2.2.2.1,c.2.2.2.2.1+1))
noncomputable def Ki (a b:Array Keyed) (mg:Nat) (c:G6):Option (Array Keyed)->SM (ForInStep G5)
 | some r=>pure (.done (some r,c.2.1,c.2.2.1,c.2.2.2.1,mg))
 | none=>(liftM (rule "list.sort.gallop"):SM Unit)>>=λ_=>forIn [:a.size+b.size] ((none,c.2.1,c.2.2.1,c.2.2.2.1,mg+1,c.2.2.2.2.1,c.2.2.2.2.2):G7) (λ_ c=>loG a b c)>>=λd=>Ld d d.1
noncomputable def loB (a b:Array Keyed) (c:G5):SM (ForInStep G5) :=
 forIn [:a.size+b.size] ((none,c.2.1,c.2.2.1,c.2.2.2.1,0,0):G6) (λ_ d=>loW a b c.2.2.2.2 d)>>=λd=>Ki a b c.2.2.2.2 d d.1
noncomputable def loE (c:Option (Array Keyed)):SM (Array Keyed):=match c with
 | some r=>pure r
 | none=>liftM (unsupported "internal:list.sort.merge-bound" : Sem (Array Keyed))
noncomputable def Bs:SortSt->Nat:=sortPriv% PySem.Builtin.SortState.minGallop
noncomputable def loM (a b:Array Keyed) (x:Keyed):SM (Array Keyed) :=
 if (1==b.size)=true then pure (loD a b #[x] 0 1) else if (0+1==a.size)=true then pure (loL a b #[x] 0 1) else (get:SM SortSt)>>=λg=>forIn [:a.size+b.size] ((none,#[x],0,1,Bs g):G5) (λ_ c=>loB a b c)>>=λc=>loE c.1
noncomputable def F6 (a b:Array Keyed):SM (Array Keyed):=(liftM (rule "list.sort.merge-lo"):SM Unit)>>=λ_=>elem' b 0>>=loM a b
theorem sr (a b:Array Keyed):mergeLo' a b=F6 a b:=by kernel_rfl
section
theorem aI {σ α:Type}{c:Prop} [Decidable c] {x y:StateT σ Sem α}{Q:α->σ->Prop}{st:σ}(h1:c->wpS gM gA gE gs x Q st) (h2:¬ c->wpS gM gA gE gs y Q st):wpS gM gA gE gs (if c then x else y) Q st:=by
 by_cases h:c
 ·rw[if_pos h]; exact h1 h
 ·rw[if_neg h]; exact h2 h
structure Two (gr:Keyed->Nat) (go:Keyed->Prop) (a b:Array Keyed):Prop where
 ha:1<=a.size
 hb:1<=b.size
 oa:∀ p∈a,go p
 ob:∀ p∈b,go p
 ua:Up gr a.toList
 ub:Up gr b.toList
 h0:∀ y∈a.toList,gr (b[0]'hb)<=gr y
 h1:∀ x∈b.toList,gr x<=gr (a[a.size-1]'(Nat.sub_one_lt_of_lt ha))
structure LoS (gr:Keyed->Nat) (a b:Array Keyed) (st:SortSt) (n:Nat) (out:Array Keyed) (ia ib:Nat) (st':SortSt):Prop where
 sm:Sm st st'
 mi:MI gr a.toList b.toList out.toList ia ib
 ga:ia+1<a.size
 gb:ib<b.size
 gn:n<=ia+ib
def LoR (gr:Keyed->Nat) (a b:Array Keyed) (st:SortSt) (r:Array Keyed) (st':SortSt):Prop:=Sm st st'/\Mgd gr a.toList b.toList r
def Lo6 (gr:Keyed->Nat) (a b:Array Keyed) (st:SortSt) (n:Nat) (c:G6) (st':SortSt):Prop:=c.1=none/\LoS gr a b st n c.2.1 c.2.2.1 c.2.2.2.1 st'
def Lo7 (gr:Keyed->Nat) (a b:Array Keyed) (st:SortSt) (n:Nat) (c:G7) (st':SortSt):Prop:=c.1=none/\LoS gr a b st n c.2.1 c.2.2.1 c.2.2.2.1 st'
def En (I:Nat->Option (Array Keyed)×α->SortSt->Prop) (n:Nat) (R:Array Keyed->SortSt->Prop) (c:Option (Array Keyed)×α) (st':SortSt):Prop:=(∃ r,c.1=some r/\R r st')\/I n c st'
def Po (I:Nat->Option (Array Keyed)×α->SortSt->Prop) (n m:Nat) (R:Array Keyed->SortSt->Prop) (r:ForInStep (Option (Array Keyed)×α)) (st':SortSt):Prop:=match r with
 | .done c=>En I n R c st'
 | .yield c=>I m c st'
theorem LoS.less {a b out:Array Keyed}{st st':SortSt}{n m ia ib:Nat}(h:LoS gr a b st n out ia ib st') (hm:m<=n):LoS gr a b st m out ia ib st':=⟨h.sm,h.mi,h.ga,h.gb,le_trans hm h.gn⟩
section
variable {a b:Array Keyed}{st st':SortSt}{out:Array Keyed}{ia ib n m x mg k l ac bc:Nat}
theorem jU (T:Two gr go a b) (sm:Sm st st') (mi:MI gr a.toList b.toList out.toList ia ib) (e:(ib==b.size)=true):LoR gr a b st (loD a b out ia ib) st':=by
 have e:ib=b.toList.length:=by rw[length_toList]; exact beq_iff_eq.mp e
 subst e
 have:=mi.doneB T.ua
 refine ⟨sm,?_⟩
 unfold Mgd loD
 rw[toList_append,toList_append,eM,eM,drop_length,append_nil]
 exact this
theorem Bg (T:Two gr go a b) (sm:Sm st st') (mi:MI gr a.toList b.toList out.toList ia ib) (e:(ia==a.size)=true):LoR gr a b st (loD a b out ia ib) st':=by
 have e:ia=a.toList.length:=by rw[length_toList]; exact beq_iff_eq.mp e
 subst e
 have:=mi.doneA T.ub
 refine ⟨sm,?_⟩
 unfold Mgd loD
 rw[toList_append,toList_append,eM,eM,drop_length,append_nil]
 exact this
theorem j8 (T:Two gr go a b) (sm:Sm st st') (mi:MI gr a.toList b.toList out.toList ia ib) (e:(ia+1==a.size)=true):LoR gr a b st (loL a b out ia ib) st':=by
 have e:ia+1=a.toList.length:=by rw[length_toList]; exact beq_iff_eq.mp e
 have h:a.toList.length=a.size:=length_toList ..
 have:=mi.last T.ua T.ub e (λx i y g=>by
  have j:a.toList.drop ia=[a[a.size-1]'(Nat.sub_one_lt_of_lt T.ha)]:=by
   rw[drop_eq_getElem_cons (Gu e),List.drop_eq_nil_iff.mpr (D6 e)]
   congr 1
   rw[Array.getElem_toList]; congr 1; exact Hk e h
  rw[j] at g
  rw[mem_singleton.mp g]
  exact T.h1 x i)
 refine ⟨sm,?_⟩
 unfold Mgd loL
 rw[toList_append,toList_append,eM,eM]
 exact this
theorem aT (h:¬ (x==y)=true):x≠y:=λe=>h (beq_iff_eq.mpr e)
theorem vG (T:Two gr go a b) (hn:x<=m) (sm:Sm st st') (mi:MI gr a.toList b.toList out.toList ia ib) (ga:ia+1<a.size) (gb:ib<=b.size) (gn:m<=ia+ib):wpS gM gA gE gs (zB a b mg out ia ib bc) (Po (Lo6 gr a b st) x m (LoR gr a b st)) st' :=
 aI (λc=>wpS_pure (.inl ⟨_,rfl,jU T sm mi c⟩)) λc=>by
  have S:LoS gr a b st m out ia ib st':=⟨sm,mi,ga,by have:=aT c; exact zH gb this,gn⟩
  exact aI (λ_=>wpS_pure (.inr ⟨rfl,S.less hn⟩)) λ_=>wpS_pure ⟨rfl,S⟩
theorem vn (T:Two gr go a b) (hn:x<=m) (sm:Sm st st') (mi:MI gr a.toList b.toList out.toList ia ib) (ga:ia<a.size) (gb:ib<b.size) (gn:m<=ia+ib):wpS gM gA gE gs (yA a b mg out ia ib ac) (Po (Lo6 gr a b st) x m (LoR gr a b st)) st' :=
 aI (λc=>wpS_pure (.inl ⟨_,rfl,j8 T sm mi c⟩)) λc=>by
  have S:LoS gr a b st m out ia ib st':=⟨sm,mi,by have:=aT c; exact yx ga this,gb,gn⟩
  exact aI (λ_=>wpS_pure (.inr ⟨rfl,S.less hn⟩)) λ_=>wpS_pure ⟨rfl,S⟩
theorem Bm (hlt:bB gM gA gE gs gr go gk) (T:Two gr go a b) (hk:kindOf st=gk) (hn:x<=n+1) (S:Lo6 gr a b st n c st'):wpS gM gA gE gs (loW a b mg c) (Po (Lo6 gr a b st) x (n+1) (LoR gr a b st)) st':=by
 obtain ⟨z,l,i,o,v,u⟩:=c
 obtain ⟨t,k,m,j,h,r⟩:=S
 dsimp only at t m j h r
 have g:i<a.size:=Nat.lt_of_succ_lt j
 refine wpS_bind (aL h (wpS_bind (aL g (wpS_bind (hlt (T.ob _ (getElem_mem _)) (T.oa _ (getElem_mem _)) (k.1.trans hk) ?_)))))
 show wpS gM gA gE gs (CJ a b mg l i o v u (decide (gr b[o]<gr a[i]))) _ st'
 refine aI (λw=>wpS_bind (aL h ?_)) λw=>wpS_bind (aL g ?_)
 ·replace w:=of_decide_eq_true w
  refine vG T hn k ?_ j h (CM r)
  rw[toList_push]
  exact m.pushB T.ub (by rw[length_toList]; exact h) (λy p=>le_trans (le_of_lt w) (T.ua.le (by rw[length_toList]; exact g) y p))
 ·replace w:¬ gr b[o]<gr a[i]:=λq=>w (decide_eq_true q)
  refine vn T hn k ?_ j h (yQ r)
  rw[toList_push]
  exact m.pushA T.ua (by rw[length_toList]; exact g) (λy p=>le_trans (le_of_not_lt w) (T.ub.le (by rw[length_toList]; exact h) y p))
theorem pf (T:Two gr go a b) (hn:x<=n+1) (S:LoS gr a b st n out ia ib st') (kA:∀ y∈b.toList.drop ib,∀ h:ia<a.size,gr a[ia]<=gr y):wpS gM gA gE gs (xy a b mg k l out ia ib) (Po (Lo7 gr a b st) x (n+1) (LoR gr a b st)) st':=by
 obtain ⟨j,o,m,r,q⟩:=S
 have g:ia<a.size:=Nat.lt_of_succ_lt m
 refine wpS_bind (aL g ?_)
 have i:MI gr a.toList b.toList (out.push a[ia]).toList (ia+1) ib:=by
  rw[toList_push]
  exact o.pushA T.ua (by rw[length_toList]; exact g) λy p=>kA y p g
 refine aI (λc=>wpS_pure (.inl ⟨_,rfl,j8 T j i c⟩)) λc=>?_
 have S:LoS gr a b st (n+1) (out.push a[ia]) (ia+1) ib st':=⟨j,i,by have:=aT c; exact Fz m this,r,by exact yQ q⟩
 exact aI (λ_=>wpS_pure (.inr ⟨rfl,S.less hn⟩)) λ_=>wpS_pure ⟨rfl,S⟩
theorem qs (hlt:bB gM gA gE gs gr go gk) (T:Two gr go a b) (hk:kindOf st=gk) (hn:x<=n+1) (S:LoS gr a b st n out ia ib st') (kB:∀ y∈a.toList.drop ia,∀ h:ib<b.size,gr b[ib]<=gr y):wpS gM gA gE gs (tn a b mg k bc out ia ib) (Po (Lo7 gr a b st) x (n+1) (LoR gr a b st)) st':=by
 obtain ⟨r,mi,ga,t,gn⟩:=S
 have o:ia<a.size:=Nat.lt_of_succ_lt ga
 refine wpS_bind (aL t ?_)
 have g:MI gr a.toList b.toList (out.push b[ib]).toList ia (ib+1):=by
  rw[toList_push]
  exact mi.pushB T.ub (by rw[length_toList]; exact t) λy i=>kB y i t
 generalize out.push b[ib]=out2 at g ⊢
 refine aI (λc=>wpS_pure (.inl ⟨_,rfl,jU T r g c⟩)) λc=>?_
 have m:ib+1<b.size:=by have:=aT c; exact yx t this
 clear c mi
 refine wpS_bind (aL o (wpS_bind (dF hlt (Dk m) (Df m) T.ob (T.oa _ (getElem_mem _)) (r.1.trans hk) T.ub λl l1 v l3=>?_)))
 simp only[if_true] at v l3
 have z:∀ y∈b.toList.drop (ib+1+l),∀ h:ia<a.size,gr a[ia]<=gr y:=λy i _=>drop_mem' (P:=λy=>gr a[ia]<=gr y) (λq p=>by
  have lb:b.toList.length=b.size:=length_toList ..
  have:=l3 (l+q) (HH p) oB (C3 p lb)
  simp only[<- add_assoc] at this
  exact this) y i
 show wpS gM gA gE gs (B6 a b mg k l out2 ia (ib+1)) _ st'
 refine aI (λu=>aI (λc=>wpS_pure (.inl ⟨_,rfl,jU T r ?_ c⟩)) λc=>pf T hn ⟨r,?_,ga,by have:=aT c; exact Ip l1 u this,by exact C5 gn⟩ z) λu=>pf T hn ⟨r,g,ga,m,by exact Gs gn⟩ ?_
 ·rw[toList_append,bW,add_sub_cancel_left]
  exact g.blockB T.ub l (fK λq p j y i=>le_trans (le_of_lt (v q p j)) (T.ua.le (by rw[length_toList]; exact o) y i))
 ·rw[toList_append,bW,add_sub_cancel_left]
  exact g.blockB T.ub l (fK λq p j y i=>le_trans (le_of_lt (v q p j)) (T.ua.le (by rw[length_toList]; exact o) y i))
 ·have e0:l=0:=Nat.eq_zero_of_not_pos u
  rw[e0,add_zero] at z
  exact z
theorem pk (hlt:bB gM gA gE gs gr go gk) (T:Two gr go a b) (hk:kindOf st=gk) (hn:x<=n+1) (S:LoS gr a b st n out ia ib st'):wpS gM gA gE gs (wm a b ac bc out ia ib mg) (Po (Lo7 gr a b st) x (n+1) (LoR gr a b st)) st':=by
 obtain ⟨i,mi,v,m,gn⟩:=S
 refine wpS_bind (fy λg o=>?_)
 replace i:=i.trans o
 refine wpS_bind (aL m (wpS_bind (dF hlt (HL v) (Hx v) T.oa (T.ob _ (getElem_mem _)) (i.1.trans hk) T.ua λk k1 k2 k3=>?_)))
 simp only[false_eq_true,if_false] at k2 k3
 have p:∀ y∈a.toList.drop (ia+k),∀ h:ib<b.size,gr b[ib]<=gr y:=λy t _=>drop_mem' (P:=λy=>gr b[ib]<=gr y) (λq l=>by
  have la:a.toList.length=a.size:=length_toList ..
  have:=k3 (k+q) (Jk l) oB (ES l la)
  simp only[<- add_assoc] at this
  exact le_of_lt this) y t
 show wpS gM gA gE gs (if k>0 then loT1' a b mg k bc (out++a.extract ia (ia+k)) (ia+k) ib else tn a b mg k bc out ia ib) _ g
 refine aI (λr=>?_) λr=>qs hlt T hk hn ⟨i,mi,v,m,gn⟩ ?_
 ·have j:MI gr a.toList b.toList (out++a.extract ia (ia+k)).toList (ia+k) ib:=by
   rw[toList_append,bW,add_sub_cancel_left]
   exact mi.blockA T.ua k (fK λq l u y t=>le_trans (k2 q l u) (T.ub.le (by rw[length_toList]; exact m) y t))
  exact aI (λc=>wpS_pure (.inl ⟨_,rfl,j8 T i j c⟩)) λc=>aI (λz=>wpS_pure (.inl ⟨_,rfl,Bg T i j z⟩)) λz=>qs hlt T hk hn ⟨i,j,by have:=aT c; have:=aT z; exact C6 k1 r ‹_› this,m,by exact IM gn⟩ p
 ·have e0:k=0:=Nat.eq_zero_of_not_pos r
  rw[e0,add_zero] at p
  exact p
theorem A5 (hlt:bB gM gA gE gs gr go gk) (T:Two gr go a b) (hk:kindOf st=gk) (hn:x<=n+1) (S:Lo7 gr a b st n c st'):wpS gM gA gE gs (loG a b c) (Po (Lo7 gr a b st) x (n+1) (LoR gr a b st)) st' :=
 aI (λ_=>pk hlt T hk hn S.2) λ_=>pk hlt T hk hn S.2
theorem dO {α:Type}{I:Nat->Option (Array Keyed)×α->SortSt->Prop}{R:Array Keyed->SortSt->Prop}{t n z:Nat}{f:Option (Array Keyed)×α->SM (ForInStep (Option (Array Keyed)×α))}{c:Option (Array Keyed)×α}(h0:I n c st') (hend:∀ c st',¬ I (n+t) c st')
  (hs:∀ y c st',y<t->I (n+y) c st'->wpS gM gA gE gs (f c) (Po I z (n+y+1) R) st'):wpS gM gA gE gs (forIn [:t] c λ_ c=>f c) (En I z R) st' :=
 wpS_forRange (λy c st'=>I (n+y) c st') (λy c st' _ g i=>wpS_mono (hs y c st' g i) λr st' h=>by cases r<;>exact h) (λc st' h=>absurd (by rwa [Nat.max_eq_right (zero_le t)] at h) (hend c st')) h0
def Lo5 (gr:Keyed->Nat) (a b:Array Keyed) (st:SortSt) (n:Nat) (c:G5) (st':SortSt):Prop:=c.1=none/\LoS gr a b st n c.2.1 c.2.2.1 c.2.2.2.1 st'
theorem LoS.over (S:LoS gr a b st n out ia ib st') (h:a.size+b.size<=n+1):False:=by have:=S.ga; have:=S.gb; have:=S.gn; exact Dr h ‹_› ‹_› this
theorem AC (hlt:bB gM gA gE gs gr go gk) (T:Two gr go a b) (hk:kindOf st=gk) (z:Nat) (S:Lo5 gr a b st (n+1) c st'):wpS gM gA gE gs (loB a b c) (Po (Lo5 gr a b st) z (n+2) (LoR gr a b st)) st':=by
 refine wpS_bind (wpS_mono (dO (I:=Lo6 gr a b st) (n:=n+1) (z:=n+2) (R:=LoR gr a b st) ⟨rfl,S.2⟩ (λc st' h=>h.2.over F1) λy c st' k h=>Bm hlt T hk yi h) λd g h=>?_)
 rcases h with ⟨r,e,h⟩ | ⟨e,S⟩
 ·rw[e]; exact wpS_pure (.inl ⟨r,rfl,h⟩)
 ·rw[e]
  refine wpS_bind (dK (wpS_bind (wpS_mono (dO (I:=Lo7 gr a b st) (n:=n+2) (z:=n+2) (R:=LoR gr a b st) ⟨rfl,S⟩ (λc st' h=>h.2.over Fl) λy c st' k h=>A5 hlt T hk y7 h) λd g h=>?_)))
  rcases h with ⟨r,e,h⟩ | ⟨e,S⟩
  ·rw[e]; exact wpS_pure (.inl ⟨r,rfl,h⟩)
  ·rw[e]
   exact wpS_bind (fy λi j=>wpS_pure ⟨rfl,S.sm.trans j,S.mi,S.ga,S.gb,S.gn⟩)
end
theorem qJ (hlt:bB gM gA gE gs gr go gk) {a b:Array Keyed}{st:SortSt}{Q:Array Keyed->SortSt->Prop}(ha:1<=a.size) (hb:1<=b.size) (oa:∀ p∈a,go p) (ob:∀ p∈b,go p) (hk:kindOf st=gk) (ua:Up gr a.toList) (ub:Up gr b.toList)
  (h0:∀ y∈a.toList,gr (b[0]'hb)<=gr y) (h1:∀ x∈b.toList,gr x<=gr (a[a.size-1]'(by exact th ha))) (h:∀ r st',Sm st st'->Mgd gr a.toList b.toList r->Q r st'):wpS gM gA gE gs (mergeLo' a b) Q st:=by
 have T:Two gr go a b:=⟨ha,hb,oa,ob,ua,ub,h0,h1⟩
 rw[sr]
 refine wpS_bind (dK (wpS_bind (aL hb ?_)))
 have j:MI gr a.toList b.toList (#[b[0]'hb]:Array Keyed).toList 0 1:=by
  have l:MI gr a.toList b.toList [] 0 0:=⟨.nil,.nil,λ_ h=>(nomatch h),λ_ h=>(nomatch h)⟩
  exact l.pushB ub (by rw[length_toList]; exact hb) (by rw[drop_zero]; exact h0)
 have g:∀ r st',LoR gr a b st r st'->Q r st':=λr st' q=>h r st' q.1 q.2
 refine aI (λc=>wpS_pure (g _ _ (jU T (.refl st) j c))) λc=>aI (λk=>wpS_pure (g _ _ (j8 T (.refl st) j k))) λk=>?_
 refine wpS_bind (wpS_get (wpS_bind (wpS_mono (dO (I:=Lo5 gr a b st) (n:=1) (z:=a.size+b.size+1) (R:=LoR gr a b st) ⟨rfl,.refl st,j,by have:=aT k; lia,by have:=aT c; lia,le_refl _⟩ (λc st' h=>h.2.over Ev) λy c st' m h=>?_) λd i h=>?_)))
 ·rw[add_comm 1 y] at h ⊢
  exact AC hlt T hk _ h
 ·rcases h with ⟨r,e,h⟩ | ⟨e,S⟩
  ·rw[e]; exact wpS_pure (g _ _ h)
  ·exact (S.over C1).elim
end
noncomputable def mergeHi':Array Keyed->Array Keyed->StateT SortSt Sem (Array Keyed):=sortPriv% PySem.Builtin.mergeHi
theorem Up.ge {gr:Keyed->Nat}(h:Up gr l) (hi:i<l.length):∀ y∈l.take (i+1),gr y<=gr l[i]:=by
 intro y hy
 rw[List.take_succ_eq_append_getElem hi] at hy
 rcases mem_append.mp hy with hy | hy
 ·have:=pairwise_append.mp (show (l.take i++l.drop i).Pairwise _ by rw[take_append_drop]; exact h)
  exact this.2.2 y hy l[i] (by rw[drop_eq_getElem_cons hi]; exact .head _)
 ·rw[mem_singleton.mp hy]; exact le_refl _
structure MH (gr:Keyed->Nat) (a b o:List Keyed) (i j:Nat):Prop where
 perm:o.Perm (a.drop i++b.drop j)
 sorted:Up gr o.reverse
 la:∀ x∈a.take i,∀ y∈o,gr x<=gr y
 lb:∀ x∈b.take j,∀ y∈o,gr x<=gr y
section
theorem MH.swap (h:MH gr a b o i j):MH gr b a o j i:=⟨h.perm.trans perm_append_comm,h.sorted,h.lb,h.la⟩
theorem qw {α:Type}{l:List α}{c i:Nat}(hc:c<=i):l.take i=l.take c++(l.drop c).take (i-c):=by
 have:=take_add' l c (i-c)
 rwa [show c+(i-c)=i by exact jD hc] at this
theorem xG {α:Type}{l:List α}{c i:Nat}(hc:c<=i):l.drop c=(l.drop c).take (i-c)++l.drop i:=by
 have:=(take_append_drop (i-c) (l.drop c)).symm
 rwa [drop_drop,show c+(i-c)=i by exact jD hc] at this
theorem MH.blockA (h:MH gr a b o i j) (ua:Up gr a) (c:Nat) (hc:c<=i) (hlt:∀ x∈(a.drop c).take (i-c),∀ y∈b.take j,gr y<=gr x):MH gr a b (o++((a.drop c).take (i-c)).reverse) c j where
 perm:=by
  have e:a.drop c++b.drop j=(a.drop c).take (i-c)++(a.drop i++b.drop j):=by
   rw[<- append_assoc]
   exact congrArg (· ++ b.drop j) (xG hc)
  rw[e]
  exact (h.perm.append (List.reverse_perm _)).trans perm_append_comm
 sorted:=by
  rw[List.reverse_append,List.reverse_reverse]
  refine pairwise_append.mpr ⟨(ua.sublist (List.drop_sublist c a)).sublist (List.take_sublist ..),h.sorted,λx hx y hy=>h.la x ?_ y (List.mem_reverse.mp hy)⟩
  rw[qw hc]; exact mem_append_right _ hx
 la:=λx hx y hy=>(mem_append.mp hy).elim (λq=>h.la x (by rw[qw hc]; exact mem_append_left _ hx) y q) λq=>by
  have:=pairwise_append.mp (show (a.take c++a.drop c).Pairwise _ by rw[take_append_drop]; exact ua)
  exact this.2.2 x hx y (mem_of_mem_take (List.mem_reverse.mp q))
 lb:=λx hx y hy=>(mem_append.mp hy).elim (λq=>h.lb x hx y q) λq=>hlt y (List.mem_reverse.mp q) x hx
theorem MH.blockB (h:MH gr a b o i j) (ub:Up gr b) (c:Nat) (hc:c<=j) (hlt:∀ x∈(b.drop c).take (j-c),∀ y∈a.take i,gr y<=gr x):MH gr a b (o++((b.drop c).take (j-c)).reverse) i c:=(h.swap.blockA ub c hc hlt).swap
theorem MH.pushA (h:MH gr a b o (i+1) j) (ua:Up gr a) (hi:i<a.length) (hlt:∀ y∈b.take j,gr y<=gr a[i]):MH gr a b (o++[a[i]]) i j:=by
 have:=h.blockA ua i Fy (by rw[show i+1-i=1 by exact yX,fL hi]; intro x g; rw[mem_singleton.mp g]; exact hlt)
 rwa [show i+1-i=1 by exact yX,fL hi] at this
theorem MH.pushA' (h:MH gr a b o i j) (ua:Up gr a) (h0:0<i) (hi:i-1<a.length) (hlt:∀ y∈b.take j,gr y<=gr a[i-1]):MH gr a b (o++[a[i-1]]) (i-1) j :=
 MH.pushA (by rw[sub_add_cancel h0]; exact h) ua hi hlt
theorem MH.pushB' (h:MH gr a b o i j) (ub:Up gr b) (h0:0<j) (hj:j-1<b.length) (hlt:∀ y∈a.take i,gr y<=gr b[j-1]):MH gr a b (o++[b[j-1]]) i (j-1):=(h.swap.pushA' ub h0 hj hlt).swap
theorem MH.doneA (h:MH gr a b o 0 j) (ub:Up gr b):(b.take j++o.reverse).Perm (a++b)/\Up gr (b.take j++o.reverse):=by
 have:=h.blockB ub 0 (zero_le _) (λx _ y g=>by rw[List.take_zero] at g; cases g)
 rw[drop_zero,Nat.sub_zero] at this
 have e:(o++(b.take j).reverse).reverse=b.take j++o.reverse:=by rw[List.reverse_append,List.reverse_reverse]
 rw[<- e]
 exact ⟨(List.reverse_perm _).trans (by have:=this.perm; rwa [drop_zero] at this),this.sorted⟩
theorem MH.doneB (h:MH gr a b o i 0) (ua:Up gr a):(a.take i++o.reverse).Perm (a++b)/\Up gr (a.take i++o.reverse):=by
 obtain ⟨j,g⟩:=h.swap.doneA ua
 exact ⟨j.trans perm_append_comm,g⟩
theorem MH.first (h:MH gr a b o i 1) (ua:Up gr a) (ub:Up gr b) (ht:∀ x∈b.take 1,∀ y∈a,gr x<=gr y):(b.take 1++a.take i++o.reverse).Perm (a++b)/\Up gr (b.take 1++a.take i++o.reverse):=by
 have:=h.blockA ua 0 (zero_le _) (λx j y g=>ht y g x (mem_of_mem_take j))
 rw[drop_zero,Nat.sub_zero] at this
 have:=this.doneA ub
 rwa [List.reverse_append,List.reverse_reverse,<- append_assoc] at this
end
section
theorem dQ (a:Array Keyed) (i:Nat):(a.extract 0 i).toList=a.toList.take i:=by rw[bW,drop_zero,Nat.sub_zero]
theorem pA {l:List Keyed}{n:Nat}{P:Keyed->Prop}(h:∀ q (hq:q<l.length),q<n->P l[q]):∀ x∈l.take n,P x:=by
 intro x g
 obtain ⟨q,hq,rfl⟩:=getElem_of_mem g
 rw[length_take] at hq
 rw[getElem_take]
 exact h q (HC hq) (FC hq)
abbrev H5:Type:=Option (Array Keyed)×Nat×Nat×Array Keyed×Nat
abbrev H6:Type:=Option (Array Keyed)×Nat×Nat×Array Keyed×Nat×Nat
abbrev H7:Type:=Option (Array Keyed)×Nat×Nat×Array Keyed×Nat×Nat×Nat
noncomputable def hiD (a b out:Array Keyed) (na nb:Nat):Array Keyed:=a.extract 0 na++b.extract 0 nb++out.reverse
noncomputable def hiF (a b out:Array Keyed) (na nb:Nat):Array Keyed:=b.extract 0 nb++a.extract 0 na++out.reverse
noncomputable def zm (a b:Array Keyed) (mg na nb:Nat) (out:Array Keyed) (ac:Nat):SM (ForInStep H6) :=
 if (na==0)=true then pure (.done (some (hiD a b out na nb),na,nb,out,ac,0)) else if ac≥mg then pure (.done (none,na,nb,out,ac,0)) else pure (.yield (none,na,nb,out,ac,0))
noncomputable def ze (a b:Array Keyed) (mg na nb:Nat) (out:Array Keyed) (bc:Nat):SM (ForInStep H6) :=
 if (nb==1)=true then pure (.done (some (hiF a b out na nb),na,nb,out,0,bc)) else if bc≥mg then pure (.done (none,na,nb,out,0,bc)) else pure (.yield (none,na,nb,out,0,bc))
noncomputable def CB (a b:Array Keyed) (mg na nb:Nat) (out:Array Keyed) (ac bc:Nat) (w:Bool):SM (ForInStep H6) :=
 if w=true then elem' a (na-1)>>=λx=>zm a b mg (na-1) nb (out.push x) (ac+1) else elem' b (nb-1)>>=λx=>ze a b mg na (nb-1) (out.push x) (bc+1)
noncomputable def KM (a b:Array Keyed) (mg na nb:Nat) (out:Array Keyed) (ac bc:Nat):Option Bool->SM (ForInStep H6)
 | some w=>CB a b mg na nb out ac bc w
 | _=>pure (.done (some (hiD a b out na nb),na,nb,out,ac,bc))
noncomputable def hiW (a b:Array Keyed) (mg:Nat) (c:H6):SM (ForInStep H6) :=
 elem' b (c.2.2.1-1)>>=λp=>elem' a (c.2.1-1)>>=λq=>lt' p q>>=KM a b mg c.2.1 c.2.2.1 c.2.2.2.1 c.2.2.2.2.1 c.2.2.2.2.2
noncomputable def hiT4' (a b:Array Keyed) (mg k l na nb:Nat) (out:Array Keyed):SM (ForInStep H7) :=
 if (na==0)=true then pure (.done (some (hiD a b out na nb),na,nb,out,mg,k,l))
 else if (decide (k<7)&&decide (l<7))=true then pure (.done (none,na,nb,out,mg,k,l)) else pure (.yield (none,na,nb,out,mg,k,l))
noncomputable def sJ (a b:Array Keyed) (mg k l na nb:Nat) (out:Array Keyed):SM (ForInStep H7):=elem' a (na-1)>>=λx=>hiT4' a b mg k l (na-1) nb (out.push x)
noncomputable def hiT3' (a b:Array Keyed) (mg k l na nb:Nat) (out:Array Keyed):SM (ForInStep H7) :=
 if (nb==1)=true then pure (.done (some (hiF a b out na nb),na,nb,out,mg,k,l)) else if (nb==0)=true then pure (.done (some (hiD a b out na nb),na,nb,out,mg,k,l)) else sJ a b mg k l na nb out
noncomputable def Ew (a b:Array Keyed) (mg k bc na nb:Nat) (out:Array Keyed):Option Nat->SM (ForInStep H7)
 | some l=>if nb-l>0 then hiT3' a b mg k (nb-l) na l (out++(b.extract l nb).reverse) else sJ a b mg k (nb-l) na nb out
 | _=>pure (.done (some (hiD a b out na nb),na,nb,out,mg,k,bc))
noncomputable def hiT2' (a b:Array Keyed) (mg k bc na nb:Nat) (out:Array Keyed):SM (ForInStep H7) :=
 if (nb==1)=true then pure (.done (some (hiF a b out na nb),na,nb,out,mg,k,bc)) else elem' a (na-1)>>=λy=>gallop' true y b 0 nb (nb-1)>>=Ew a b mg k bc na nb out
noncomputable def sb (a b:Array Keyed) (mg k bc na nb:Nat) (out:Array Keyed):SM (ForInStep H7):=elem' b (nb-1)>>=λx=>hiT2' a b mg k bc na (nb-1) (out.push x)
noncomputable def hiT1' (a b:Array Keyed) (mg k bc na nb:Nat) (out:Array Keyed):SM (ForInStep H7) :=
 if (na==0)=true then pure (.done (some (hiD a b out na nb),na,nb,out,mg,k,bc)) else sb a b mg k bc na nb out
noncomputable def HF (a b:Array Keyed) (mg ac bc na nb:Nat) (out:Array Keyed):Option Nat->SM (ForInStep H7)
 | some k=>if na-k>0 then hiT1' a b mg (na-k) bc k nb (out++(a.extract k na).reverse) else sb a b mg (na-k) bc na nb out
 | _=>pure (.done (some (hiD a b out na nb),na,nb,out,mg,ac,bc))
noncomputable def xu (a b:Array Keyed) (ac bc na nb:Nat) (out:Array Keyed) (mg:Nat):SM (ForInStep H7) :=
 setMin' mg>>=λ_=>elem' b (nb-1)>>=λx=>gallop' false x a 0 na (na-1)>>=HF a b mg ac bc na nb out
noncomputable def hiG (a b:Array Keyed) (c:H7):SM (ForInStep H7) :=
 if c.2.2.2.2.1>1 then xu a b c.2.2.2.2.2.1 c.2.2.2.2.2.2 c.2.1 c.2.2.1 c.2.2.2.1 (c.2.2.2.2.1-1) else xu a b c.2.2.2.2.2.1 c.2.2.2.2.2.2 c.2.1 c.2.2.1 c.2.2.2.1 c.2.2.2.2.1
noncomputable def Km (c:H7):Option (Array Keyed)->SM (ForInStep H5)
 | some r=>pure (.done (some r,c.2.1,c.2.2.1,c.2.2.2.1,c.2.2.2.2.1))
 | none=>setMin' (c.2.2.2.2.1+1)>>=λ_=>pure (.yield (none,c.2.1,c.2.2.1,c.2.2.2.1,c.2.2.2.2.1+1))
noncomputable def K4 (a b:Array Keyed) (mg:Nat) (c:H6):Option (Array Keyed)->SM (ForInStep H5)
 | some r=>pure (.done (some r,c.2.1,c.2.2.1,c.2.2.2.1,mg))
 | none=>(liftM (rule "list.sort.gallop"):SM Unit)>>=λ_=>forIn [:a.size+b.size] ((none,c.2.1,c.2.2.1,c.2.2.2.1,mg+1,c.2.2.2.2.1,c.2.2.2.2.2):H7) (λ_ c=>hiG a b c)>>=λd=>Km d d.1
noncomputable def hiB (a b:Array Keyed) (c:H5):SM (ForInStep H5) :=
 forIn [:a.size+b.size] ((none,c.2.1,c.2.2.1,c.2.2.2.1,0,0):H6) (λ_ d=>hiW a b c.2.2.2.2 d)>>=λd=>K4 a b c.2.2.2.2 d d.1
noncomputable def hiM (a b:Array Keyed) (x:Keyed):SM (Array Keyed) :=
 if (a.size-1==0)=true then pure (hiD a b #[x] (a.size-1) b.size) else if (b.size==1)=true then pure (hiF a b #[x] (a.size-1) b.size) else (get:SM SortSt)>>=λg=>forIn [:a.size+b.size] ((none,a.size-1,b.size,#[x],Bs g):H5) (λ_ c=>hiB a b c)>>=λc=>loE c.1
noncomputable def Hl (a b:Array Keyed):SM (Array Keyed):=(liftM (rule "list.sort.merge-hi"):SM Unit)>>=λ_=>elem' a (a.size-1)>>=hiM a b
theorem sf (a b:Array Keyed):mergeHi' a b=Hl a b:=by kernel_rfl
structure HiS (gr:Keyed->Nat) (a b:Array Keyed) (st:SortSt) (n na nb:Nat) (out:Array Keyed) (st':SortSt):Prop where
 sm:Sm st st'
 mi:MH gr a.toList b.toList out.toList na nb
 ga:0<na
 ga':na<=a.size
 gb:1<nb
 gb':nb<=b.size
 gn:n+na+nb<=a.size+b.size
def Hi5 (gr:Keyed->Nat) (a b:Array Keyed) (st:SortSt) (n:Nat) (c:H5) (st':SortSt):Prop:=c.1=none/\HiS gr a b st n c.2.1 c.2.2.1 c.2.2.2.1 st'
def Hi6 (gr:Keyed->Nat) (a b:Array Keyed) (st:SortSt) (n:Nat) (c:H6) (st':SortSt):Prop:=c.1=none/\HiS gr a b st n c.2.1 c.2.2.1 c.2.2.2.1 st'
def Hi7 (gr:Keyed->Nat) (a b:Array Keyed) (st:SortSt) (n:Nat) (c:H7) (st':SortSt):Prop:=c.1=none/\HiS gr a b st n c.2.1 c.2.2.1 c.2.2.2.1 st'
section
variable {a b:Array Keyed}{st st':SortSt}{out:Array Keyed}{na nb n m x mg k l ac bc:Nat}
theorem HiS.less (h:HiS gr a b st n na nb out st') (hm:m<=n):HiS gr a b st m na nb out st':=⟨h.sm,h.mi,h.ga,h.ga',h.gb,h.gb',by have:=h.gn; exact HW hm this⟩
theorem HiS.over (S:HiS gr a b st n na nb out st') (h:a.size+b.size<=n):False:=by have:=S.ga; have:=S.gb; have:=S.gn; exact Et h ‹_› this
theorem jT (T:Two gr go a b) (sm:Sm st st') (m:MH gr a.toList b.toList out.toList na nb) (e:(na==0)=true):LoR gr a b st (hiD a b out na nb) st':=by
 cases beq_iff_eq.mp e
 have:=m.doneA T.ub
 refine ⟨sm,?_⟩
 unfold Mgd hiD
 rw[toList_append,toList_append,dQ,dQ,List.take_zero,List.nil_append,toList_reverse]
 exact this
theorem z5 (T:Two gr go a b) (sm:Sm st st') (m:MH gr a.toList b.toList out.toList na nb) (e:(nb==0)=true):LoR gr a b st (hiD a b out na nb) st':=by
 cases beq_iff_eq.mp e
 have:=m.doneB T.ua
 refine ⟨sm,?_⟩
 unfold Mgd hiD
 rw[toList_append,toList_append,dQ,dQ,List.take_zero,append_nil,toList_reverse]
 exact this
theorem jG (T:Two gr go a b) (sm:Sm st st') (m:MH gr a.toList b.toList out.toList na nb) (e:(nb==1)=true):LoR gr a b st (hiF a b out na nb) st':=by
 cases beq_iff_eq.mp e
 have:=m.first T.ua T.ub (λx g y h=>by
  have j:b.toList.take 1=[b[0]'T.hb]:=by
   have:=fL (l:=b.toList) (i:=0) (by rw[length_toList]; exact T.hb)
   rw[drop_zero] at this
   rw[this]; rfl
  rw[j] at g
  rw[mem_singleton.mp g]
  exact T.h0 y h)
 refine ⟨sm,?_⟩
 unfold Mgd hiF
 rw[toList_append,toList_append,dQ,dQ,toList_reverse]
 exact this
theorem jC {c:Array Keyed}(u:Up gr c.toList) {i:Nat}(h0:0<i) (hi:i-1<c.size):∀ y∈c.toList.take i,gr y<=gr c[i-1]:=λy g=>u.ge (i:=i-1) (by rw[length_toList]; exact hi) y (by rwa [sub_add_cancel h0])
theorem vA (T:Two gr go a b) (hn:x<=m) (sm:Sm st st') (mi:MH gr a.toList b.toList out.toList na nb) (ga':na<=a.size) (gb:1<nb) (gb':nb<=b.size) (gn:m+na+nb<=a.size+b.size):wpS gM gA gE gs (zm a b mg na nb out ac) (Po (Hi6 gr a b st) x m (LoR gr a b st)) st' :=
 aI (λc=>wpS_pure (.inl ⟨_,rfl,jT T sm mi c⟩)) λc=>by
  have S:HiS gr a b st m na nb out st':=⟨sm,mi,by have:=aT c; exact sY this,ga',gb,gb',gn⟩
  exact aI (λ_=>wpS_pure (.inr ⟨rfl,S.less hn⟩)) λ_=>wpS_pure ⟨rfl,S⟩
theorem vJ (T:Two gr go a b) (hn:x<=m) (sm:Sm st st') (mi:MH gr a.toList b.toList out.toList na nb) (ga:0<na) (ga':na<=a.size) (gb:0<nb) (gb':nb<=b.size) (gn:m+na+nb<=a.size+b.size):wpS gM gA gE gs (ze a b mg na nb out bc) (Po (Hi6 gr a b st) x m (LoR gr a b st)) st' :=
 aI (λc=>wpS_pure (.inl ⟨_,rfl,jG T sm mi c⟩)) λc=>by
  have S:HiS gr a b st m na nb out st':=⟨sm,mi,ga,ga',by have:=aT c; exact HQ gb this,gb',gn⟩
  exact aI (λ_=>wpS_pure (.inr ⟨rfl,S.less hn⟩)) λ_=>wpS_pure ⟨rfl,S⟩
theorem Bn (hlt:bB gM gA gE gs gr go gk) (T:Two gr go a b) (hk:kindOf st=gk) (hn:x<=n+1) (S:Hi6 gr a b st n c st'):wpS gM gA gE gs (hiW a b mg c) (Po (Hi6 gr a b st) x (n+1) (LoR gr a b st)) st':=by
 obtain ⟨c0,m,l,p,ac,z⟩:=c
 obtain ⟨v,o,r,j,i,h,g,u⟩:=S
 dsimp only at v r j i h g u
 have k:m-1<a.size:=by exact r5 j i
 have pb:l-1<b.size:=by exact sj h g
 refine wpS_bind (aL pb (wpS_bind (aL k (wpS_bind (hlt (T.ob _ (getElem_mem _)) (T.oa _ (getElem_mem _)) (o.1.trans hk) ?_)))))
 show wpS gM gA gE gs (CB a b mg m l p ac z (decide (gr b[l-1]<gr a[m-1]))) _ st'
 refine aI (λw=>wpS_bind (aL k ?_)) λw=>wpS_bind (aL pb ?_)
 ·replace w:=of_decide_eq_true w
  refine vA T hn o ?_ (ov k) h g (x6 j u)
  rw[toList_push]
  exact r.pushA' T.ua j (by rw[length_toList]; exact k) (λy t=>le_trans (jC T.ub (oF h) pb y t) (le_of_lt w))
 ·replace w:¬ gr b[l-1]<gr a[m-1]:=λq=>w (decide_eq_true q)
  refine vJ T hn o ?_ j i (DO h) (ov pb) (EV h u)
  rw[toList_push]
  exact r.pushB' T.ub (oF h) (by rw[length_toList]; exact pb) (λy t=>le_trans (jC T.ua j k y t) (le_of_not_lt w))
theorem o0 (T:Two gr go a b) (hn:x<=n+1) (S:HiS gr a b st n na nb out st') (kA:∀ y∈b.toList.take nb,∀ h:na-1<a.size,gr y<=gr a[na-1]):wpS gM gA gE gs (sJ a b mg k l na nb out) (Po (Hi7 gr a b st) x (n+1) (LoR gr a b st)) st':=by
 obtain ⟨p,q,o,m,u,j,t⟩:=S
 have i:na-1<a.size:=by exact r5 o m
 refine wpS_bind (aL i ?_)
 have g:MH gr a.toList b.toList (out.push a[na-1]).toList (na-1) nb:=by
  rw[toList_push]
  exact q.pushA' T.ua o (by rw[length_toList]; exact i) λy r=>kA y r i
 refine aI (λc=>wpS_pure (.inl ⟨_,rfl,jT T p g c⟩)) λc=>?_
 have S:HiS gr a b st (n+1) (na-1) nb (out.push a[na-1]) st':=⟨p,g,by have:=aT c; exact GM this,by exact ov i,u,j,by exact x6 o t⟩
 exact aI (λ_=>wpS_pure (.inr ⟨rfl,S.less hn⟩)) λ_=>wpS_pure ⟨rfl,S⟩
theorem oG (hlt:bB gM gA gE gs gr go gk) (T:Two gr go a b) (hk:kindOf st=gk) (hn:x<=n+1) (S:HiS gr a b st n na nb out st') (kB:∀ y∈a.toList.take na,∀ h:nb-1<b.size,gr y<=gr b[nb-1]):wpS gM gA gE gs (sb a b mg k bc na nb out) (Po (Hi7 gr a b st) x (n+1) (LoR gr a b st)) st':=by
 obtain ⟨o,mi,t,m,gb,gb',gn⟩:=S
 have pa:na-1<a.size:=by exact r5 t m
 have pb:nb-1<b.size:=by exact sj gb gb'
 refine wpS_bind (aL pb ?_)
 have g:MH gr a.toList b.toList (out.push b[nb-1]).toList na (nb-1):=by
  rw[toList_push]
  exact mi.pushB' T.ub (oF gb) (by rw[length_toList]; exact pb) λy p=>kB y p pb
 generalize out.push b[nb-1]=out2 at g ⊢
 refine aI (λc=>wpS_pure (.inl ⟨_,rfl,jG T o g c⟩)) λc=>?_
 have r:1<nb-1:=by have:=aT c; exact Fc gb this
 clear c mi kB
 refine wpS_bind (aL pa (wpS_bind (dF hlt (CP pb) (EC r) T.ob (T.oa _ (getElem_mem _)) (o.1.trans hk) T.ub λl v l2 l3=>?_)))
 simp only[if_true,zero_add] at l2 l3
 have z:∀ y∈b.toList.take l,∀ h:na-1<a.size,gr y<=gr a[na-1]:=λy p _=>pA (P:=λy=>gr y<=gr a[na-1]) (λq hq j=>le_of_lt (l2 q hq j)) y p
 show wpS gM gA gE gs (if nb-1-l>0 then hiT3' a b mg k (nb-1-l) na l (out2++(b.extract l (nb-1)).reverse) else sJ a b mg k (nb-1-l) na (nb-1) out2) _ st'
 refine aI (λu=>?_) λu=>o0 T hn ⟨o,g,t,m,r,by exact ov pb,by exact EJ gn⟩ ?_
 ·have i:MH gr a.toList b.toList (out2++(b.extract l (nb-1)).reverse).toList na l:=by
   rw[toList_append,toList_reverse,bW]
   exact g.blockB T.ub l v (fK λq hq j y p=>le_trans (jC T.ua t pa y p) (l3 (l+q) hq (le_add_right l q) (HI j)))
  exact aI (λc=>wpS_pure (.inl ⟨_,rfl,jG T o i c⟩)) λc=>aI (λc'=>wpS_pure (.inl ⟨_,rfl,z5 T o i c'⟩)) λc'=>o0 T hn ⟨o,i,t,m,by have:=aT c; have:=aT c'; exact Ju ‹_› this,by exact JF pb v,by exact Jg gn u⟩ z
 ·have e0:l=nb-1:=by exact EM v u
  rw[e0] at z
  exact z
theorem pC (hlt:bB gM gA gE gs gr go gk) (T:Two gr go a b) (hk:kindOf st=gk) (hn:x<=n+1) (S:HiS gr a b st n na nb out st'):wpS gM gA gE gs (xu a b ac bc na nb out mg) (Po (Hi7 gr a b st) x (n+1) (LoR gr a b st)) st':=by
 obtain ⟨m,mi,ga,l,r,j,gn⟩:=S
 have pb:nb-1<b.size:=by exact sj r j
 refine wpS_bind (fy λg t=>?_)
 replace m:=m.trans t
 refine wpS_bind (aL pb (wpS_bind (dF hlt (Eg l) (DJ ga) T.oa (T.ob _ (getElem_mem _)) (m.1.trans hk) T.ua λk p k2 k3=>?_)))
 simp only[false_eq_true,if_false,zero_add] at k2 k3
 have u:∀ y∈a.toList.take k,∀ h:nb-1<b.size,gr y<=gr b[nb-1]:=λy v _=>pA (P:=λy=>gr y<=gr b[nb-1]) (λq z i=>k2 q z i) y v
 show wpS gM gA gE gs (if na-k>0 then hiT1' a b mg (na-k) bc k nb (out++(a.extract k na).reverse) else sb a b mg (na-k) bc na nb out) _ g
 refine aI (λk0=>?_) λk0=>oG hlt T hk hn ⟨m,mi,ga,l,r,j,gn⟩ ?_
 ·have o:MH gr a.toList b.toList (out++(a.extract k na).reverse).toList k nb:=by
   rw[toList_append,toList_reverse,bW]
   exact mi.blockA T.ua k p (fK λq z i y v=>le_trans (jC T.ub (oF r) pb y v) (le_of_lt (k3 (k+q) z (le_add_right k q) (oz i))))
  exact aI (λc=>wpS_pure (.inl ⟨_,rfl,jT T m o c⟩)) λc=>oG hlt T hk hn ⟨m,o,by have:=aT c; exact sY this,by exact G9 l p,r,j,by exact Is gn p⟩ u
 ·have e0:k=na:=by exact Dh p k0
  rw[e0] at u
  exact u
theorem zV (hlt:bB gM gA gE gs gr go gk) (T:Two gr go a b) (hk:kindOf st=gk) (hn:x<=n+1) (S:Hi7 gr a b st n c st'):wpS gM gA gE gs (hiG a b c) (Po (Hi7 gr a b st) x (n+1) (LoR gr a b st)) st' :=
 aI (λ_=>pC hlt T hk hn S.2) λ_=>pC hlt T hk hn S.2
theorem Ax (hlt:bB gM gA gE gs gr go gk) (T:Two gr go a b) (hk:kindOf st=gk) (z:Nat) (S:Hi5 gr a b st (n+1) c st'):wpS gM gA gE gs (hiB a b c) (Po (Hi5 gr a b st) z (n+2) (LoR gr a b st)) st':=by
 refine wpS_bind (wpS_mono (dO (I:=Hi6 gr a b st) (n:=n+1) (z:=n+2) (R:=LoR gr a b st) ⟨rfl,S.2⟩ (λc st' h=>h.2.over DT) λy c st' k h=>Bn hlt T hk yi h) λd g h=>?_)
 rcases h with ⟨r,e,h⟩ | ⟨e,S⟩
 ·rw[e]; exact wpS_pure (.inl ⟨r,rfl,h⟩)
 ·rw[e]
  refine wpS_bind (dK (wpS_bind (wpS_mono (dO (I:=Hi7 gr a b st) (n:=n+2) (z:=n+2) (R:=LoR gr a b st) ⟨rfl,S⟩ (λc st' h=>h.2.over DV) λy c st' k h=>zV hlt T hk y7 h) λd g h=>?_)))
  rcases h with ⟨r,e,h⟩ | ⟨e,S⟩
  ·rw[e]; exact wpS_pure (.inl ⟨r,rfl,h⟩)
  ·rw[e]
   exact wpS_bind (fy λi j=>wpS_pure ⟨rfl,S.sm.trans j,S.mi,S.ga,S.ga',S.gb,S.gb',S.gn⟩)
end
theorem qL (hlt:bB gM gA gE gs gr go gk) {a b:Array Keyed}{st:SortSt}{Q:Array Keyed->SortSt->Prop}(ha:1<=a.size) (hb:1<=b.size) (oa:∀ p∈a,go p) (ob:∀ p∈b,go p) (hk:kindOf st=gk) (ua:Up gr a.toList) (ub:Up gr b.toList)
  (h0:∀ y∈a.toList,gr (b[0]'hb)<=gr y) (h1:∀ x∈b.toList,gr x<=gr (a[a.size-1]'(by exact th ha))) (h:∀ r st',Sm st st'->Mgd gr a.toList b.toList r->Q r st'):wpS gM gA gE gs (mergeHi' a b) Q st:=by
 have T:Two gr go a b:=⟨ha,hb,oa,ob,ua,ub,h0,h1⟩
 rw[sf]
 have i:a.size-1<a.size:=Nat.sub_one_lt_of_lt ha
 refine wpS_bind (dK (wpS_bind (aL i ?_)))
 have k:MH gr a.toList b.toList (#[a[a.size-1]]:Array Keyed).toList (a.size-1) b.size:=by
  have o:MH gr a.toList b.toList [] a.size b.size:=⟨by rw[<- length_toList,<- length_toList,drop_length,drop_length]; exact .nil,.nil,λ_ _ _ h=>(nomatch h),λ_ _ _ h=>(nomatch h)⟩
  exact o.pushA' ua ha (by rw[length_toList]; exact i) (λy m=>h1 y (mem_of_mem_take m))
 have g:∀ r st',LoR gr a b st r st'->Q r st':=λr st' q=>h r st' q.1 q.2
 refine aI (λc=>wpS_pure (g _ _ (jT T (.refl st) k c))) λc=>aI (λl=>wpS_pure (g _ _ (jG T (.refl st) k l))) λl=>?_
 refine wpS_bind (wpS_get (wpS_bind (wpS_mono (dO (I:=Hi5 gr a b st) (n:=1) (z:=a.size+b.size+1) (R:=LoR gr a b st) ⟨rfl,.refl st,k,by have:=aT c; lia,by lia,by have:=aT l; lia,le_refl _,by lia⟩ (λc st' h=>h.2.over Gv) λy c st' m h=>?_) λd j h=>?_)))
 ·rw[add_comm 1 y] at h ⊢
  exact Ax hlt T hk _ h
 ·rcases h with ⟨r,e,h⟩ | ⟨e,S⟩
  ·rw[e]; exact wpS_pure (g _ _ h)
  ·exact (S.over IR).elim
end
section
structure Wn (lo hi:Nat) (st st':SortSt):Prop where
 kind:kindOf st' = kindOf st
 pend:pendingOf st' = pendingOf st
 fail:failedOf st' = failedOf st
 perm:(arrOf st').Perm (arrOf st)
 out:∀ k,(k<lo\/hi<=k)->(arrOf st')[k]? = (arrOf st)[k]?
theorem Wn.refl (lo hi:Nat) (st:SortSt):Wn lo hi st st:=⟨rfl,rfl,rfl,.refl _,λuu uu=>rfl⟩
theorem Wn.trans {lo hi:Nat}{x y z:SortSt}(h:Wn lo hi x y) (g:Wn lo hi y z):Wn lo hi x z:=⟨g.kind.trans h.kind,g.pend.trans h.pend,g.fail.trans h.fail,g.perm.trans h.perm,λk hk=>(g.out k hk).trans (h.out k hk)⟩
theorem Gd.of {lo hi:Nat}{st st':SortSt}(g:Gd gr go gk st) (h:Wn lo hi st st'):Gd gr go gk st':=⟨λp i=>g.ok p (h.perm.mem_iff.mp i),h.kind.trans g.kind⟩
theorem Wn.size {lo hi:Nat}{st st':SortSt}(h:Wn lo hi st st'):(arrOf st').size=(arrOf st).size:=h.perm.size_eq
theorem cA (h:xs[i]? = ys[j]?):rkA gr xs i=rkA gr ys j:=by unfold rkA; rw[h]
theorem hM (hlt:bB gM gA gE gs gr go gk) {st:SortSt}{i j:Nat}{Q:Option Bool->SortSt->Prop}(g:Gd gr go gk st) (hi:i<(arrOf st).size) (hj:j<(arrOf st).size) (h:Q (some (decide (rkA gr (arrOf st) i<rkA gr (arrOf st) j))) st):wpS gM gA gE gs (ltAt' i j) Q st:=by
 rw[ltAt'_eq]
 refine wpS_bind (wpS_get (wpS_bind (aL hi (wpS_bind (aL hj (hlt (g.ok _ (getElem_mem _)) (g.ok _ (getElem_mem _)) g.kind ?_))))))
 rw[eB hi,eB hj] at h
 exact h
def SegDn (gr:Keyed->Nat) (arr:Array Keyed) (lo n:Nat):Prop:=∀ i j,lo<=i->i<=j->j<lo+n->rkA gr arr j<=rkA gr arr i
theorem SegUp.succ {arr:Array Keyed}{lo n:Nat}(h:SegUp gr arr lo n) (h1:1<=n) (hn:rkA gr arr (lo+n-1)<=rkA gr arr (lo+n)):SegUp gr arr lo (n+1):=by
 intro i j k g l
 by_cases e:j=lo+n
 ·(clear l; subst e)
  by_cases e':i=lo+n
  ·(clear k g; subst e'); exact le_refl _
  ·exact le_trans (h i (lo+n-1) k (yG g e') (rV h1)) hn
 ·exact h i j k g (yB l e)
theorem SegDn.succ {arr:Array Keyed}{lo n:Nat}(h:SegDn gr arr lo n) (h1:1<=n) (hn:rkA gr arr (lo+n)<=rkA gr arr (lo+n-1)):SegDn gr arr lo (n+1):=by
 intro i j k g l
 by_cases e:j=lo+n
 ·(clear l; subst e)
  by_cases e':i=lo+n
  ·(clear k g; subst e'); exact le_refl _
  ·exact le_trans hn (h i (lo+n-1) k (yG g e') (rV h1))
 ·exact h i j k g (yB l e)
theorem jX {i j:Nat}{st:SortSt}{Q:Unit->SortSt->Prop}(h:Q () (setArr st (mirror (arrOf st) i j ((j-i)/2)))):wpS gM gA gE gs (reverseSlice' i j) Q st:=by
 rw[reverseSlice'_eq]; exact wpS_modify h
noncomputable def uP (lo nrem n:Nat):StateT SortSt Sem (Option Nat):=do
 let mut n:=n
 reverseSlice' lo (lo+n)
 for _ in [n:nrem] do
  let some smaller <- ltAt' (lo+n) (lo+n-1) | return none
  if smaller then break
  n:=n+1
 return some n
noncomputable def vD (lo nrem n:Nat):StateT SortSt Sem (Option Nat):=do
 let mut n:=n
 rule "list.sort.descending-run"
 n:=n+1
 let mut neq:=0
 for _ in [n:nrem] do
  let some smaller <- ltAt' (lo+n) (lo+n-1) | return none
  if smaller then
   if neq>0 then reverseSlice' (lo+n-(neq+1)) (lo+n)
   neq:=0
  else
   let some larger <- ltAt' (lo+n-1) (lo+n) | return none
   if larger then break
   neq:=neq+1
  n:=n+1
 if neq>0 then reverseSlice' (lo+n-(neq+1)) (lo+n)
 reverseSlice' lo (lo+n)
 for _ in [n:nrem] do
  let some smaller <- ltAt' (lo+n) (lo+n-1) | return none
  if smaller then break
  n:=n+1
 return some n
theorem iP (hj:j<=xs.size) (he:∀ k,i<=k->k<j->rkA gr xs k=rkA gr xs (j-1)) (k:Nat):rkA gr (mirror xs i j ((j-i)/2)) k=rkA gr xs k:=by
 by_cases c:i<=k/\k<j
 ·rw[cA (j:=i+j-1-k) (ys:=xs) (by rw[getElem?_mirror_all hj,if_pos c]),he (i+j-1-k) (Im c) (E8 c),he k c.1 c.2]
 ·exact cA (by rw[getElem?_mirror_all hj,if_neg c])
theorem fZ {lo hi i j:Nat}{st:SortSt}(hj:j<=(arrOf st).size) (h1:lo<=i) (h2:j<=hi):Wn lo hi st (setArr st (mirror (arrOf st) i j ((j-i)/2))):=⟨rfl,rfl,rfl,mirror_perm _ _ _ _,λk hk=>by
 show (mirror _ _ _ _)[k]? = _
 rw[getElem?_mirror_all hj,if_neg (FN h1 h2 hk)]⟩
theorem lc (hlt:bB gM gA gE gs gr go gk) {lo nrem n:Nat}{st:SortSt}{Q:Option Nat->SortSt->Prop}(g:Gd gr go gk st) (hn:lo+nrem<=(arrOf st).size) (h1:1<=n) (h2:n<=nrem) (dn:SegDn gr (arrOf st) lo n)
  (h:∀ n st',1<=n->n<=nrem->Wn lo (lo+nrem) st st'->SegUp gr (arrOf st') lo n->Q (some n) st'):wpS gM gA gE gs (uP lo nrem n) Q st:=by
 unfold uP
 refine wpS_bind (jX ?_)
 have m:lo+n<=(arrOf st).size:=by exact Ib hn h2
 have o:Wn lo (lo+nrem) st (setArr st (mirror (arrOf st) lo (lo+n) ((lo+n-lo)/2))):=fZ m (le_refl _) (by exact add_le_add_left ‹_› _)
 have k:SegUp gr (mirror (arrOf st) lo (lo+n) ((lo+n-lo)/2)) lo n:=by
  intro i j hi hij hj
  rw[cA (j:=lo+(lo+n)-1-i) (ys:=arrOf st) (by rw[getElem?_mirror_all m,if_pos ⟨hi,by exact lt_of_le_of_lt ‹_› ‹_›⟩]),cA (i:=j) (j:=lo+(lo+n)-1-j) (ys:=arrOf st) (by rw[getElem?_mirror_all m,if_pos ⟨by exact le_trans ‹_› ‹_›,hj⟩])]
  exact dn _ _ (Ha hj) (Hp hij) (FS h1 hi)
 generalize hst:setArr st (mirror (arrOf st) lo (lo+n) ((lo+n-lo)/2))=st2 at o ⊢
 have k:SegUp gr (arrOf st2) lo n:=by rw[<- hst]; exact k
 have g2:=g.of o
 have l:=o.size
 refine wpS_bind (wpS_mono (wpS_forRange (I:=λx c st'=>st' = st2/\c=(none,x)/\x<=nrem/\SegUp gr (arrOf st2) lo x)
  (Q:=λc st'=>st' = st2/\∃ n,c=(none,n)/\1<=n/\n<=nrem/\SegUp gr (arrOf st2) lo n) ?_ ?_ (cZ rfl rfl h2 k)) ?_)
 ·intro x c st' hx1 r q
  refine cG (q) λLx LB gx t=>?_
  clear q
  (clear k o; subst Lx)
  subst LB
  refine wpS_bind (hM hlt g2 (adl r (le_trans hn (le_of_eq l.symm))) (o4 (adl r (le_trans hn (le_of_eq l.symm)))) ?_)
  dsimp only
  by_cases w:rkA gr (arrOf st') (lo+x)<rkA gr (arrOf st') (lo+x-1)
  ·rw[decide_eq_true w,if_pos rfl]
   exact wpS_pure (aB rfl (bw x rfl (by exact lt_of_lt_of_le ‹_› ‹_›) gx t))
  ·rw[decide_eq_false w,if_neg (by decide)]
   exact wpS_pure (cZ rfl rfl ‹_› (t.succ (by exact lt_of_lt_of_le ‹_› ‹_›) (le_of_not_lt w)))
 ·intro c st' p
  refine cG (p) λLC LF gx t=>?_
  clear p
  (clear g2 l k o; subst LC)
  subst LF
  rw[show max n nrem=nrem by exact D0 gx] at *
  exact (aB rfl (bw nrem rfl (by exact lt_of_lt_of_le ‹_› ‹_›) (le_refl _) t))
 ·intro c st' z
  obtain ⟨y,n',v,p1,p2,u⟩:=z
  (clear g2 l k; subst y)
  subst v
  exact wpS_pure (h n' st' p1 p2 o u)
theorem SegDn.congr {xs ys:Array Keyed}{lo n:Nat}(h:SegDn gr xs lo n) (e:∀ k,rkA gr ys k=rkA gr xs k):SegDn gr ys lo n:=λi j a b c=>by rw[e,e]; exact h i j a b c
theorem lF (hlt:bB gM gA gE gs gr go gk) {lo nrem n:Nat}{st:SortSt}{Q:Option Nat->SortSt->Prop}(g:Gd gr go gk st) (hn:lo+nrem<=(arrOf st).size) (h1:1<=n) (h2:n<nrem) (dn:SegDn gr (arrOf st) lo (n+1))
  (h:∀ n st',1<=n->n<=nrem->Wn lo (lo+nrem) st st'->SegUp gr (arrOf st') lo n->Q (some n) st'):wpS gM gA gE gs (vD lo nrem n) Q st:=by
 unfold vD
 refine wpS_bind (dK ?_)
 refine wpS_bind (wpS_mono (wpS_forRange (I:=λx c m=>∃ l,c=(none,x,l)/\Wn lo (lo+nrem) st m/\(∀ k,rkA gr (arrOf m) k=rkA gr (arrOf st) k)/\x<=nrem/\l+1<=x/\SegDn gr (arrOf st) lo x/\∀ k,x-(l+1)<=k->k<x->rkA gr (arrOf st) (lo+k)=rkA gr (arrOf st) (lo+x-1))
  (Q:=λc m=>∃ x l,c=(none,x,l)/\Wn lo (lo+nrem) st m/\(∀ k,rkA gr (arrOf m) k=rkA gr (arrOf st) k)/\x<=nrem/\l+1<=x/\SegDn gr (arrOf st) lo x/\∀ k,x-(l+1)<=k->k<x->rkA gr (arrOf st) (lo+k)=rkA gr (arrOf st) (lo+x-1)) ?_ ?_ (s9 0 rfl (.refl ..) (λuu=>rfl) ‹_› (succ_pos _) dn (λk v z=>by rw[show lo+k=lo+(n+1)-1 by exact yO v z]))) ?_)
 ·intro x c m hx1 r LG
  refine zP (LG) λl LJ p e gx y dn eq=>?_
  clear LG
  subst LJ
  have g':=g.of p
  have o:=p.size
  dsimp only
  refine wpS_bind (hM hlt g' (oE hn r o) (yf hn r o) ?_)
  dsimp only
  rw[e,e]
  by_cases w:rkA gr (arrOf st) (lo+x)<rkA gr (arrOf st) (lo+x-1)
  ·rw[decide_eq_true w,if_pos rfl]
   have fin:∀ t,Wn lo (lo+nrem) st t->(∀ k,rkA gr (arrOf t) k=rkA gr (arrOf st) k)->∃ neq',((none:Option (Option Nat)),x+1,0)=(none,x+1,neq')/\Wn lo (lo+nrem) st t/\(∀ k,rkA gr (arrOf t) k=rkA gr (arrOf st) k)/\x+1<=nrem/\neq'+1<=x+1/\SegDn gr (arrOf st) lo (x+1)/\∀ k,x+1-(neq'+1)<=k->k<x+1->rkA gr (arrOf st) (lo+k)=rkA gr (arrOf st) (lo+(x+1)-1) :=
    λt w3 e3=>(s9 0 rfl w3 e3 ‹_› (succ_pos _) (dn.succ (by exact lt_trans ‹_› ‹_›) (le_of_lt w)) (λk v z=>by rw[show lo+k=lo+(x+1)-1 by exact yO v z]))
   by_cases c1:l>0
   ·rw[if_pos c1]
    refine wpS_bind (jX (wpS_pure (fin _ (p.trans (fZ (x9 hn r o) (zQ y) (by exact add_le_add_left ‹_› _))) λk=>?_)))
    show rkA gr (mirror _ _ _ _) k=_
    rw[iP (x9 hn r o) λk v z=>by rw[e,e]; have:=eq (k-lo) (zO v) (zA hx1 z); rwa [show lo+(k-lo)=k by exact yM y v] at this]
    exact e k
   ·rw[if_neg c1]
    exact wpS_pure (fin _ p e)
  ·rw[decide_eq_false w,if_neg (by decide)]
   refine wpS_bind (hM hlt g' (yf hn r o) (oE hn r o) ?_)
   dsimp only
   rw[e,e]
   by_cases w':rkA gr (arrOf st) (lo+x-1)<rkA gr (arrOf st) (lo+x)
   ·rw[decide_eq_true w',if_pos rfl]
    exact wpS_pure (gc x l rfl p e gx y dn eq)
   ·rw[decide_eq_false w',if_neg (by decide)]
    refine wpS_pure (s9 (l+1) rfl p e ‹_› (by exact lt_succ_of_le ‹_›) (dn.succ (by exact lt_trans ‹_› ‹_›) (le_of_not_lt w')) (λk v z=>?_))
    have q:rkA gr (arrOf st) (lo+x-1)=rkA gr (arrOf st) (lo+x):=by exact EB w w'
    rw[show lo+(x+1)-1=lo+x by exact Jy]
    by_cases e':k=x
    ·rw[e']
    ·rw[<- q]; exact eq k (IW v) (Ef z e')
 ·intro c m LH
  refine zP (LH) λl LK p e gx y dn eq=>?_
  clear LH
  subst LK
  rw[show max (n+1) nrem=nrem by exact E2 gx] at *
  exact (gc nrem l rfl p e gx y dn eq)
 ·intro c m LM
  refine rX (LM) λx l LN p e gx y dn eq=>?_
  clear LM
  subst LN
  have g':=g.of p
  have o:=p.size
  dsimp only
  by_cases c1:l>0
  ·rw[if_pos c1]
   have w3:=p.trans (fZ (lo:=lo) (hi:=lo+nrem) (i:=lo+x-(l+1)) (j:=lo+x) (st:=m) (yD hn gx o) (zQ y) (by exact add_le_add_left ‹_› _))
   refine wpS_bind (jX ?_)
   refine lc hlt (g.of w3) (by have:=w3.size; exact rY hn this) (by exact lt_trans ‹_› ‹_›) gx (dn.congr λk=>?_) λn st' a b w4 u=>h n st' a b (w3.trans w4) u
   show rkA gr (mirror _ _ _ _) k=_
   rw[iP (yD hn gx o) λk v z=>by rw[e,e]; have:=eq (k-lo) (zO v) (zA y z); rwa [show lo+(k-lo)=k by exact yM y v] at this]
   exact e k
  ·rw[if_neg c1]
   exact lc hlt g' (rY hn o) (GI y) gx (dn.congr e) λn st' a b w4 u=>h n st' a b (p.trans w4) u
theorem kD (hlt:bB gM gA gE gs gr go gk) {lo nrem:Nat}{st:SortSt}{Q:Option Nat->SortSt->Prop}(g:Gd gr go gk st) (hn:lo+nrem<=(arrOf st).size) (h1:1<=nrem)
  (h:∀ n st',1<=n->n<=nrem->Wn lo (lo+nrem) st st'->SegUp gr (arrOf st') lo n->Q (some n) st'):wpS gM gA gE gs (countRun' lo nrem) Q st:=by
 rw[countRun'_eq]
 refine wpS_bind (wpS_mono (wpS_forRange (I:=λx c st'=>st' = st/\c=(none,x)/\x<=nrem/\SegUp gr (arrOf st) lo x)
  (Q:=λc st'=>st' = st/\∃ n,c=(none,n)/\1<=n/\n<=nrem/\SegUp gr (arrOf st) lo n/\(n=nrem\/rkA gr (arrOf st) (lo+n)<rkA gr (arrOf st) (lo+n-1))) ?_ ?_ (cZ rfl rfl h1 (λi j _ _ _=>by rw[show i=j by exact yR ‹_› ‹_› ‹_›]; exact le_refl _))) ?_)
 ·intro x c st' hx1 hx2 o
  refine cG (o) λLQ LS gx l=>?_
  clear o
  (clear h; subst LQ)
  subst LS
  refine wpS_bind (hM hlt g (by exact adl hx2 ‹_›) (by exact o4 (adl hx2 ‹_›)) ?_)
  dsimp only
  by_cases w:rkA gr (arrOf st') (lo+x)<rkA gr (arrOf st') (lo+x-1)
  ·rw[decide_eq_true w,if_pos rfl]
   exact wpS_pure (aB rfl (ic x rfl hx1 gx l (.inr w)))
  ·rw[decide_eq_false w,if_neg (by decide)]
   exact wpS_pure (cZ rfl rfl ‹_› (l.succ hx1 (le_of_not_lt w)))
 ·intro c st' m
  refine cG (m) λLV z gx l=>?_
  clear m
  (clear g h hn; subst LV)
  subst z
  rw[show max 1 nrem=nrem by exact FK gx] at *
  exact (aB rfl (ic nrem rfl h1 (le_refl _) l (.inl rfl)))
 ·intro c st' y
  obtain ⟨v,n,t,p,r,l,q⟩:=y
  subst v
  subst t
  dsimp only
  by_cases c1:(n==nrem)=true
  ·rw[if_pos c1]
   exact wpS_pure (h n st' p r (.refl ..) l)
  rw[if_neg c1]
  have hn3:n<nrem:=by have:n≠nrem:=λe=>c1 (beq_iff_eq.mpr e); exact zH r this
  have hdn:=q.resolve_left (by exact ne_of_lt ‹_›)
  by_cases c2:n>1
  ·rw[if_pos c2]
   refine wpS_bind (hM hlt g (Gy h1 hn) (Jw p r hn) ?_)
   dsimp only
   by_cases w:rkA gr (arrOf st') lo<rkA gr (arrOf st') (lo+n-1)
   ·rw[decide_eq_true w,if_pos rfl]
    exact wpS_pure (h n st' p r (.refl ..) l)
   rw[decide_eq_false w,if_neg (by decide)]
   have eq:∀ k,lo<=k->k<lo+n->rkA gr (arrOf st') k=rkA gr (arrOf st') (lo+n-1):=λk k1 k2=>by
    have a:=l lo k (le_refl _) k1 k2
    have b:=l k (lo+n-1) k1 (GX k2) (rV p)
    exact Fk w a b
   have w3:Wn lo (lo+nrem) st' (setArr st' (mirror (arrOf st') lo (lo+n) ((lo+n-lo)/2))):=fZ (yk r hn) (le_refl _) (by exact add_le_add_left ‹_› _)
   have e3:∀ k,rkA gr (mirror (arrOf st') lo (lo+n) ((lo+n-lo)/2)) k=rkA gr (arrOf st') k:=iP (yk r hn) eq
   refine wpS_bind (jX ?_)
   refine lF hlt (g.of w3) (by have:=w3.size; exact rY hn this) p hn3 ?_ λn st' a b w4 u=>h n st' a b (w3.trans w4) u
   have d1:SegDn gr (arrOf st') lo n:=λi j a b c=>by rw[eq i a (by exact lt_of_le_of_lt ‹_› ‹_›),eq j (by exact le_trans ‹_› ‹_›) c]; exact le_refl _
   exact (d1.succ p (le_of_lt hdn)).congr e3
  rw[if_neg c2]
  have e1:n=1:=by exact CT p c2
  (clear c1 c2 q r l; subst e1)
  refine lF hlt g hn p hn3 ?_ h
  have d1:SegDn gr (arrOf st') lo 1:=λi j _ _ _=>by rw[show i=j by exact yR ‹_› ‹_› ‹_›]; exact le_refl _
  exact d1.succ (le_refl _) (le_of_lt hdn)
theorem xe {src dst:Nat}{st:SortSt}{Q:Unit->SortSt->Prop}(h:Q () (setArr st (bubble (arrOf st) src (src-dst)))):wpS gM gA gE gs (moveDown' src dst) Q st:=by
 rw[moveDown'_eq]; exact wpS_modify h
theorem BP (h:l<r):l<=(l+r)/2/\(l+r)/2<r:=by exact GS h
theorem nV (hlt:bB gM gA gE gs gr go gk) {lo n oo:Nat}{st:SortSt}{Q:Bool->SortSt->Prop}(g:Gd gr go gk st) (hn:lo+n<=(arrOf st).size) (hok:oo<=n) (hs:SegUp gr (arrOf st) lo oo)
  (h:∀ st',Wn lo (lo+n) st st'->SegUp gr (arrOf st') lo n->Q true st'):wpS gM gA gE gs (binarySort' lo n oo) Q st:=by
 rw[binarySort'_eq]
 refine wpS_bind (wpS_mono (wpS_forRange (I:=λk c st'=>c=(none,())/\Wn lo (lo+n) st st'/\SegUp gr (arrOf st') lo (min k n))
  (Q:=λc st'=>c=(none,())/\Wn lo (lo+n) st st'/\SegUp gr (arrOf st') lo n) ?_ ?_ ⟨rfl,.refl ..,?_⟩) ?_)
 ·intro k c st' hk1 q L7
  refine aG (L7) λL0 z y=>?_
  clear L7
  subst L0
  have g':=g.of z
  have hsz:=z.size
  rw[show min k n=k by exact C4 q] at y
  refine wpS_bind (wpS_mono (wpS_forRange (I:=λx c o=>o=st'/\∃ l r,c=(none,l,r)/\l<=r/\r<=k/\r-l<=k-x/\(∀ i,i<l->rkA gr (arrOf st') (lo+i)<=rkA gr (arrOf st') (lo+k))/\(∀ i,r<=i->i<k->rkA gr (arrOf st') (lo+k)<rkA gr (arrOf st') (lo+i)))
   (Q:=λc o=>o=st'/\∃ l r,c=(none,l,r)/\l<=k/\(∀ i,i<l->rkA gr (arrOf st') (lo+i)<=rkA gr (arrOf st') (lo+k))/\(∀ i,l<=i->i<k->rkA gr (arrOf st') (lo+k)<rkA gr (arrOf st') (lo+i))) ?_ ?_ (aB rfl (ou 0 k rfl (zero_le _) (le_refl _) (le_refl _) (λi hi=>by exact Hm hi) (λi h1 h2=>by exact Hw h1 h2)))) ?_)
  ·intro x c o _ hx Mn
   obtain ⟨L8,l,r,Ml,lr,rk',pr,t,v⟩:=Mn
   (clear z; subst L8)
   subst Ml
   dsimp only
   by_cases c1:l≥r
   ·rw[if_pos c1]
    exact wpS_pure (aB rfl (be l r rfl (by exact le_trans ‹_› ‹_›) t (λi h1 h2=>v i (by exact le_trans ‹_› ‹_›) h2)))
   rw[if_neg c1]
   refine ae (BP (lt_of_not_le c1)) λm1 m2=>?_
   generalize (l+r)/2=m at m1 m2 ⊢
   refine wpS_bind (hM hlt g' (oE hn q hsz) (FR hn q rk' hsz m2) ?_)
   dsimp only
   by_cases w:rkA gr (arrOf o) (lo+k)<rkA gr (arrOf o) (lo+m)
   ·rw[decide_eq_true w,if_pos rfl]
    exact wpS_pure (aB rfl (ou _ _ rfl ‹_› (Dv rk' m2) (Ex pr m2) t (λi h1 h2=>lt_of_lt_of_le w (y _ _ (le_add_right _ _) (by exact add_le_add_left ‹_› _) (by exact add_le_add_left ‹_› _)))))
   ·rw[decide_eq_false w,if_neg (by decide)]
    exact wpS_pure (aB rfl (ou _ _ rfl ‹_› ‹_› (EY pr m1) (λi h1=>le_trans (y _ (lo+m) (le_add_right _ _) (HD h1) (DY rk' m2)) (le_of_not_lt w)) v))
  ·intro c o Mq
   obtain ⟨Mu,l,r,Mc,lr,rk',pr,t,v⟩:=Mq
   (clear g' hsz z; subst Mu)
   subst Mc
   exact (aB rfl (be l r rfl (by exact le_trans ‹_› ‹_›) t (λi h1 h2=>v i (FA pr h1) h2)))
  ·intro c o Md
   obtain ⟨Mi,l,r,Ma,lk,t,v⟩:=Md
   (clear g'; subst Mi)
   subst Ma
   dsimp only
   have hsrc:lo+k<(arrOf o).size:=by exact oE hn q hsz
   refine wpS_bind (xe (wpS_pure ⟨rfl,z.trans ⟨rfl,rfl,rfl,bubble_perm _ _ _,λj u=>?_⟩,?_⟩))
   ·show (bubble _ _ _)[j]? = _
    rw[getElem?_bubble hsrc _ (sub_le _ _),if_neg (HY q u),if_neg (DP q u)]
   ·rw[show min (k+1) n=k+1 by exact Ft q]
    show SegUp gr (bubble (arrOf o) (lo+k) (lo+k-(lo+l))) lo (k+1)
    have at':∀ j,rkA gr (bubble (arrOf o) (lo+k) (lo+k-(lo+l))) j=if j=lo+l then rkA gr (arrOf o) (lo+k) else if lo+l<j/\j<=lo+k then rkA gr (arrOf o) (j-1) else rkA gr (arrOf o) j:=λj=>by
     have:=getElem?_bubble hsrc (lo+k-(lo+l)) (sub_le _ _) j
     rw[show lo+k-(lo+k-(lo+l))=lo+l by exact De lk] at this
     by_cases e1:j=lo+l
     ·rw[if_pos e1] at this ⊢; exact cA this
     ·rw[if_neg e1] at this ⊢
      by_cases e2:lo+l<j/\j<=lo+k
      ·rw[if_pos e2] at this ⊢; exact cA this
      ·rw[if_neg e2] at this ⊢; exact cA this
    intro i j hi p u
    rw[at',at']
    by_cases e1:i=lo+l
    ·rw[if_pos e1]
     by_cases e2:j=lo+l
     ·rw[if_pos e2]; exact le_refl _
     ·rw[if_neg e2,if_pos (DU p u e1 e2)]
      have:=v (j-1-lo) (CZ p e1 e2) (DK p u e1 e2)
      rw[show lo+(j-1-lo)=j-1 by exact FT p e1 e2] at this
      exact le_of_lt this
    ·rw[if_neg e1]
     by_cases e2:j=lo+l
     ·rw[if_pos e2,if_neg (HK p e2)]
      have:=t (i-lo) (Jp hi p e1 e2)
      rwa [show lo+(i-lo)=i by exact jD hi] at this
     ·rw[if_neg e2]
      by_cases e3:lo+l<i
      ·rw[if_pos (EI p u e3),if_pos (Ep p u e3)]
       exact y _ _ (FZ e3) (GU p) (DZ p u e3)
      ·rw[if_neg (yC e3)]
       by_cases e4:lo+l<j
       ·rw[if_pos (E0 u e4)]
        exact y _ _ ‹_› (Dp e3 e4) (GR u e4)
       ·rw[if_neg (yC e4)]
        exact y _ _ ‹_› ‹_› (CU lk e2 e4)
 ·intro c st' LU
  refine aG (LU) λL9 z y=>?_
  clear LU
  subst L9
  rw[show min (max (max oo 1) n) n=n by exact Gp] at y
  exact ⟨rfl,z,y⟩
 ·intro i j hi p u
  by_cases e:oo=0
  ·rw[show i=j by exact Gb hi p u e]; exact le_refl _
  ·exact hs i j hi p (Em u e)
 ·intro c st' LW
  refine aG (LW) λMo z y=>?_
  clear LW
  subst Mo
  exact wpS_pure (h st' z y)
end
section
theorem pE (base:Nat) (hf:∀ a p j,f a (p,j)=a.setIfInBounds (base+j) p):∀ (r:List Keyed) (off:Nat) (arr:Array Keyed),base+off+r.length<=arr.size ->
  ((r.zipIdx off).foldl f arr).toList=arr.toList.take (base+off)++r++arr.toList.drop (base+off+r.length)
 | [],off,arr,_=>by rw[List.zipIdx_nil,List.foldl_nil,append_nil,List.length_nil,add_zero,take_append_drop]
 | p::r,off,arr,h=>by
  rw[length_cons] at h
  have g:base+off<arr.toList.length:=by rw[length_toList]; exact Fr h
  rw[List.zipIdx_cons,List.foldl_cons,hf,pE base hf r (off+1) _ (by rw[Array.size_setIfInBounds]; exact DB h),Array.toList_setIfInBounds,List.set_eq_take_append_cons_drop,if_pos g]
  have k:(arr.toList.take (base+off)++p::arr.toList.drop (base+off+1)).take (base+(off+1))=arr.toList.take (base+off)++[p]:=by
   rw[List.take_append,length_take,min_eq_left (le_of_lt g),show base+(off+1)-(base+off)=1 by exact Gx,take_of_length_le (by rw[length_take]; exact F3)]
   rfl
  have i:(arr.toList.take (base+off)++p::arr.toList.drop (base+off+1)).drop (base+(off+1)+r.length)=arr.toList.drop (base+off+(p::r).length):=by
   rw[List.drop_append,length_take,min_eq_left (le_of_lt g),List.drop_eq_nil_iff.mpr (by rw[length_take]; exact HE),List.nil_append,show base+(off+1)+r.length-(base+off)=r.length+1 by exact Fu,List.drop_succ_cons,drop_drop]
   congr 1
   rw[length_cons]; exact CX
  rw[k,i,append_assoc,append_assoc,append_assoc]
  rfl
theorem gO {arr:Array Keyed}{lo n:Nat}(h:SegUp gr arr lo n) (hn:lo+n<=arr.size):Up gr ((arr.toList.drop lo).take n):=by
 unfold Up
 rw[List.pairwise_iff_getElem]
 intro i j l g k
 rw[length_take,length_drop,length_toList] at l g
 rw[getElem_take,getElem_take,getElem_drop,getElem_drop]
 have:=h (lo+i) (lo+j) (le_add_right _ _) (add_le_add_left (le_of_lt k) lo) (add_lt_add_left (lt_of_lt_of_le g (min_le_left _ _)) lo)
 rwa [cr (by rw[length_toList]; exact lt_of_lt_of_le (add_lt_add_left (lt_of_lt_of_le l (min_le_left _ _)) lo) hn),cr (by rw[length_toList]; exact lt_of_lt_of_le (add_lt_add_left (lt_of_lt_of_le g (min_le_left _ _)) lo) hn)] at this
theorem gQ (hlt:bB gM gA gE gs gr go gk) {left:Bool}{key:Keyed}{arr:Array Keyed}{base n hint:Nat}{st:SortSt}{Q:Option Nat->SortSt->Prop}(hn:base+n<=arr.size) (hh:hint<n) (hok:∀ p∈arr,go p) (hkey:go key) (hk:kindOf st=gk) (up:SegUp gr arr base n)
  (h:∀ k,k<=n->(∀ q,q<k->if left then rkA gr arr (base+q)<gr key else rkA gr arr (base+q)<=gr key)->(∀ q,k<=q->q<n->if left then gr key<=rkA gr arr (base+q) else gr key<rkA gr arr (base+q))->Q (some k) st) :
  wpS gM gA gE gs (gallop' left key arr base n hint) Q st:=by
 refine lR hlt hn hh hok hkey hk (λi=>if left then decide (rkA gr arr (base+i)<gr key) else !decide (gr key<rkA gr arr (base+i))) (λuu=>rfl) (λi j t r l=>?_) λk t r l=>h k t (λq g=>?_) λq g o=>?_
 ·have m:=up (base+i) (base+j) (le_add_right _ _) (by exact add_le_add_left ‹_› _) (by exact add_le_add_left ‹_› _)
  cases left with
  | true=>simp at l ⊢; exact yS m l
  | false=>simp at l ⊢; exact x5 m l
 ·have:=r q g
  cases left with
  | true=>simpa using this
  | false=>simpa using this
 ·have:=l q g o
  cases left with
  | true=>simpa using this
  | false=>simpa using this
theorem gY {arr:Array Keyed}{lo n:Nat}{x:Keyed}(hx:x∈(arr.toList.drop lo).take n):∃ i,lo<=i/\i<lo+n/\i<arr.size/\gr x=rkA gr arr i:=by
 obtain ⟨q,g,h⟩:=getElem_of_mem hx
 subst h
 rw[length_take,length_drop,length_toList] at g
 refine ⟨lo+q,by exact le_add_right _ _,by exact I8 g,by exact r8 g,?_⟩
 rw[cr (by rw[length_toList]; exact r8 g),getElem_take,getElem_drop]
theorem ny (hx:x∈arr.toList.take n):∃ i,i<n/\i<arr.size/\gr x=rkA gr arr i:=by
 obtain ⟨i,_,j,h,g⟩:=gY (lo:=0) (n:=n) (by rw[drop_zero]; exact hx)
 exact ⟨i,by exact sU j,h,g⟩
theorem wS (hx:x∈arr.toList.drop n):∃ i,n<=i/\i<arr.size/\gr x=rkA gr arr i:=by
 obtain ⟨q,h,g⟩:=getElem_of_mem hx
 subst g
 rw[length_drop,length_toList] at h
 refine ⟨n+q,by exact le_add_right _ _,by exact oz h,?_⟩
 rw[cr (by rw[length_toList]; exact oz h),getElem_drop]
theorem A3 {st st':SortSt}{Q:PUnit->SortSt->Prop}(h:Q ⟨⟩ st'):wpS gM gA gE gs (set st':StateT SortSt Sem PUnit) Q st:=by
 unfold wpS; rw[StateT.run_set]; exact wpAny_pure ⟨rfl,h⟩
theorem wpS_set' {st x:SortSt}{Q:PUnit->SortSt->Prop}(h:∀ st',kindOf st' = kindOf x->arrOf st' = arrOf x->pendingOf st' = pendingOf x->failedOf st' = failedOf x->Q ⟨⟩ st'):wpS gM gA gE gs (set x:StateT SortSt Sem PUnit) Q st:=A3 (h x rfl rfl rfl rfl)
theorem Cq (hsz:n1+n2=arr.size) (u1:SegUp gr arr 0 n1) (u2:SegUp gr arr n1 n2) (h:∀ i j,i<n1->n1<=j->j<arr.size->rkA gr arr i<=rkA gr arr j):Up gr arr.toList:=by
 have l:SegUp gr arr 0 arr.size:=by
  intro i j _ g k
  by_cases e1:j<n1
  ·exact u1 i j (zero_le _) g (zR e1)
  ·by_cases e2:i<n1
   ·exact h i j e2 (by exact le_of_not_lt ‹_›) (sU k)
   ·exact u2 i j (by exact le_of_not_lt ‹_›) g (FJ hsz k)
 have:=gO l HX
 rwa [drop_zero,take_of_length_le (by rw[length_toList]; exact le_refl _)] at this
theorem qM (hlt:bB gM gA gE gs gr go gk) {st:SortSt}{n1 n2 p1 p2:Nat}{Q:Bool->SortSt->Prop}(g:Gd gr go gk st) (hp:pendingOf st = #[(0,n1,p1),(n1,n2,p2)]) (hsz:n1+n2=(arrOf st).size) (h1:1<=n1) (h2:1<=n2) (u1:SegUp gr (arrOf st) 0 n1) (u2:SegUp gr (arrOf st) n1 n2) (hf:failedOf st=none)
  (h:∀ st',(arrOf st').Perm (arrOf st)->Up gr (arrOf st').toList->(pendingOf st').size=1->failedOf st' = none->kindOf st' = gk->Q true st'):wpS gM gA gE gs (mergeAt' 0) Q st:=by
 unfold mergeAt'
 refine wpS_bind (wpS_get ?_)
 have q0:(pendingOf st)[0]? = some (0,n1,p1):=by rw[hp]; rfl
 have q1:(pendingOf st)[0+1]? = some (n1,n2,p2):=by rw[hp]; rfl
 rw[q0,q1]
 dsimp only
 refine wpS_bind (wpS_set' λst1 f1 f2 f3 f4=>?_)
 have a1:arrOf st1=arrOf st:=f2
 have a2:kindOf st1=gk:=f1.trans g.kind
 have a3:(pendingOf st1).size=1:=by
  rw[f3]
  show (((pendingOf st).setIfInBounds 0 (0,n1+n2,p1)).eraseIdxIfInBounds (0+1)).size=1
  rw[hp]; simp[Array.eraseIdxIfInBounds]
 have a4:failedOf st1=none:=f4.trans hf
 clear f1 f2 f3 f4 q0 q1 hp
 have hn1:n1<(arrOf st).size:=by exact IB hsz h2
 refine wpS_bind (aL hn1 (wpS_bind (gQ (arr:=arrOf st) hlt (Ir hsz) ‹_› g.ok (g.ok _ (getElem_mem _)) a2 u1 λk k1 k2 k3=>?_)))
 dsimp only
 simp only[false_eq_true,if_false,zero_add] at k2 k3
 have eb:gr (arrOf st)[n1]=rkA gr (arrOf st) n1:=(eB hn1).symm
 rw[eb] at k2 k3
 have plain:∀ (_:∀ i j,i<n1->n1<=j->j<(arrOf st).size->rkA gr (arrOf st) i<=rkA gr (arrOf st) j),Q true st1:=λhh=>h st1 (by rw[a1]) (by rw[a1]; exact Cq hsz u1 u2 hh) a3 a4 a2
 by_cases c1:(n1-k==0)=true
 ·rw[if_pos c1]
  have e:k=n1:=by have:=beq_iff_eq.mp c1; exact El k1 this
  subst e
  exact wpS_pure (plain λi j hi v u=>le_trans (k2 i hi) (u2 _ _ (le_refl _) v (sa hsz u)))
 rw[if_neg c1]
 have o:k<n1:=by have:n1-k≠0:=λe=>c1 (beq_iff_eq.mpr e); exact Jm this
 have hla:0+k+(n1-k)-1<(arrOf st).size:=by exact GP hn1 o
 have t:0+k+(n1-k)-1=n1-1:=by exact DF o
 refine wpS_bind (aL hla (wpS_bind (gQ (arr:=arrOf st) hlt (C9 hsz) (th h2) g.ok (g.ok _ (getElem_mem _)) a2 u2 λl l1 l2 l3=>?_)))
 dsimp only
 simp only[if_true] at l2 l3
 have el:gr (arrOf st)[0+k+(n1-k)-1]=rkA gr (arrOf st) (n1-1):=(eB hla).symm.trans (by rw[t])
 rw[el] at l2 l3
 by_cases c2:(l==0)=true
 ·rw[if_pos c2]
  have e:=beq_iff_eq.mp c2
  subst e
  refine wpS_pure (plain λi j hi v u=>le_trans (u1 i (n1-1) (zero_le _) (sq hi) (yK h1)) ?_)
  have:=l3 (j-n1) (zero_le _) (zz hsz h2 u)
  rwa [show n1+(j-n1)=j by exact jD v] at this
 rw[if_neg c2]
 have hl0:0<l:=by have:l≠0:=λe=>c2 (beq_iff_eq.mpr e); exact sY this
 rw[zero_add]
 have lx:((arrOf st).extract k n1).toList=((arrOf st).toList.drop k).take (n1-k):=bW ..
 have ly:((arrOf st).extract n1 (n1+l)).toList=((arrOf st).toList.drop n1).take l:=by rw[bW,add_sub_cancel_left]
 have sx:((arrOf st).extract k n1).size=n1-k:=by rw[Array.size_extract]; exact F8 hsz
 have sy:((arrOf st).extract n1 (n1+l)).size=l:=by rw[Array.size_extract]; exact Hv hsz l1
 have ux:Up gr ((arrOf st).extract k n1).toList:=by
  rw[lx]
  exact gO (λi j hi hij v=>u1 i j (zero_le _) hij (Gr h1 t v)) (FL hsz o)
 have uy:Up gr ((arrOf st).extract n1 (n1+l)).toList:=by
  rw[ly]
  exact gO (λi j hi hij v=>u2 i j hi hij (DW l1 v)) (FB hsz l1)
 have ox:∀ p∈(arrOf st).extract k n1,go p:=λp hp=>g.ok p (by
  have:p∈((arrOf st).extract k n1).toList:=mem_toList_iff.mpr hp
  rw[lx] at this
  exact mem_toList_iff.mp (mem_of_mem_drop (mem_of_mem_take this)))
 have oy:∀ p∈(arrOf st).extract n1 (n1+l),go p:=λp hp=>g.ok p (by
  have:p∈((arrOf st).extract n1 (n1+l)).toList:=mem_toList_iff.mpr hp
  rw[ly] at this
  exact mem_toList_iff.mp (mem_of_mem_drop (mem_of_mem_take this)))
 have hy0:gr (((arrOf st).extract n1 (n1+l))[0]'(zt hl0 sy))=rkA gr (arrOf st) n1:=by rw[Array.getElem_extract,<- eb]; rfl
 have hx1:gr (((arrOf st).extract k n1)[((arrOf st).extract k n1).size-1]'(zg o sx))=rkA gr (arrOf st) (n1-1):=by
  rw[Array.getElem_extract,<- eB (arr:=arrOf st) (i:=k+(((arrOf st).extract k n1).size-1)) (Ja hsz h1 h2 t sx)]
  congr 1
  exact EX o sx
 have p0:∀ y∈((arrOf st).extract k n1).toList,gr (((arrOf st).extract n1 (n1+l))[0]'(zt hl0 sy))<=gr y:=λy hy=>by
  rw[lx] at hy
  refine bQ (gY hy) λi i1 i2 i3 i4=>?_
  rw[hy0,i4]
  exact le_of_lt (k3 i i1 (Ee h1 t i2))
 have p1:∀ x∈((arrOf st).extract n1 (n1+l)).toList,gr x<=gr (((arrOf st).extract k n1)[((arrOf st).extract k n1).size-1]'(zg o sx)):=λx hx=>by
  rw[ly] at hx
  refine bQ (gY hx) λi i1 i2 i3 i4=>?_
  rw[hx1,i4]
  have:=l2 (i-n1) (II i1 i2)
  rw[show n1+(i-n1)=i by exact jD i1] at this
  exact le_of_lt this
 have fin:∀ (r:Array Keyed) (z:SortSt) (f:Array Keyed->Keyed×Nat->Array Keyed),(∀ a p j,f a (p,j)=a.setIfInBounds (k+j) p)->Mgd gr ((arrOf st).extract k n1).toList ((arrOf st).extract n1 (n1+l)).toList r->arrOf z=List.foldl f (arrOf st) r.toList.zipIdx->(pendingOf z).size=1->failedOf z=none->kindOf z=gk->Q true z:=λr z f hf' hm e1 e2 e3 e4=>by
  have hlen:r.toList.length=n1-k+l:=by
   have:=hm.1.length_eq
   simp only[length_append,length_toList,sx,sy] at this
   rw[length_toList]; exact this
  have hto:=pE k hf' r.toList 0 (arrOf st) (by rw[hlen]; exact HB hsz h1 t l1)
  rw[<- e1,add_zero,hlen,show k+(n1-k+l)=n1+l by exact zI h1 t] at hto
  have hL:(arrOf st).toList=(arrOf st).toList.take k++(((arrOf st).toList.drop k).take (n1-k)++((arrOf st).toList.drop n1).take l)++(arrOf st).toList.drop (n1+l):=by
   have e5:((arrOf st).toList.drop k).take (n1-k)++((arrOf st).toList.drop n1).take l=((arrOf st).toList.drop k).take (n1-k+l):=by
    rw[take_add' ((arrOf st).toList.drop k) (n1-k) l,drop_drop,show k+(n1-k)=n1 by exact GF h1 t]
   rw[e5,<- take_add',show k+(n1-k+l)=n1+l by exact zI h1 t,take_append_drop]
  refine h z ?_ ?_ e2 e3 e4
  ·refine Array.perm_iff_toList_perm.mpr ?_
   rw[hto]
   have:=hm.1
   rw[lx,ly] at this
   refine List.Perm.trans ?_ (List.Perm.of_eq hL.symm)
   exact (this.append_left _).append_right _
  ·rw[hto]
   have inXY:∀ x∈r.toList,∃ i,k<=i/\i<n1+l/\gr x=rkA gr (arrOf st) i:=λx hx=>by
    have:=hm.1.mem_iff.mp hx
    rw[lx,ly] at this
    rcases mem_append.mp this with q | q
    ·refine bQ (gY q) λi i1 i2 _ i4=>?_
     exact ⟨i,i1,by exact Fp h1 t i2,i4⟩
    ·refine bQ (gY q) λi i1 i2 _ i4=>?_
     exact ⟨i,by exact le_trans ‹_› ‹_›,by assumption,i4⟩
   have lowXY:∀ i j,i<k->k<=j->j<(arrOf st).size->rkA gr (arrOf st) i<=rkA gr (arrOf st) j:=λi j hi v u=>by
    by_cases e:j<n1
    ·exact u1 i j (zero_le _) (EA hi v) (zR e)
    ·exact le_trans (k2 i hi) (u2 _ _ (le_refl _) (by exact le_of_not_lt ‹_›) (sa hsz u))
   have highXY:∀ i j,i<n1+l->n1+l<=j->j<(arrOf st).size->rkA gr (arrOf st) i<=rkA gr (arrOf st) j:=λi j hi v u=>by
    by_cases e:i<n1
    ·refine le_trans (u1 i (n1-1) (zero_le _) (sq e) (yK h1)) ?_
     have:=l3 (j-n1) (Fx v) (zz hsz h2 u)
     rwa [show n1+(j-n1)=j by exact Iu v] at this
    ·exact u2 i j (by exact le_of_not_lt ‹_›) (EU hi v) (sa hsz u)
   refine pairwise_append.mpr ⟨pairwise_append.mpr ⟨?_,hm.2,λx hx y hy=>?_⟩,?_,λx hx y hy=>?_⟩
   ·have:=gO (arr:=arrOf st) (lo:=0) (n:=k) (λi j hi hij v=>u1 i j hi hij (F4 o v)) (Dz hsz o)
    rwa [drop_zero] at this
   ·refine aq (ny hx) λi i1 i2 i3=>?_
    refine aq (inXY y hy) λj j1 j2 j3=>?_
    rw[i3,j3]
    exact lowXY i j i1 j1 (JD hsz l1 j2)
   ·have:=gO (arr:=arrOf st) (lo:=n1+l) (n:=n2-l) (λi j hi hij v=>u2 i j (Fs hi) hij (Do l1 v)) (DI hsz l1)
    rwa [take_of_length_le (by rw[length_drop,length_toList]; exact Ij hsz)] at this
   ·refine aq (wS hy) λj j1 j2 j3=>?_
    rw[j3]
    rcases mem_append.mp hx with hx | hx
    ·refine aq (ny hx) λi i1 i2 i3=>?_
     rw[i3]
     exact lowXY i j i1 (Gn o j1) j2
    ·refine aq (inXY x hx) λi i1 i2 i3=>?_
     rw[i3]
     exact highXY i j i2 j1 j2
 by_cases c3:n1-k<=l
 all_goals first
  | (
   rw[if_pos c3]
   refine wpS_bind (qJ (a:=(arrOf st).extract k n1) (b:=(arrOf st).extract n1 (n1+l)) hlt (by rw[sx]; exact Hi o) (by rw[sy]; exact yq hl0) ox oy a2 ux uy p0 p1 λr m sm hm=>?_))
  | (
   rw[if_neg c3]
   refine wpS_bind (qL (a:=(arrOf st).extract k n1) (b:=(arrOf st).extract n1 (n1+l)) hlt (by rw[sx]; exact GW c3) (by rw[sy]; exact yq hl0) ox oy a2 ux uy p0 p1 λr m sm hm=>?_))
 all_goals
  refine wpS_bind (wpS_modify (wpS_bind (wpS_get ?_)))
  have ef:failedOf m=none:=sm.2.2.2.trans a4
  have key:=fin r (SortSt.mk' (kindOf m) (List.foldl (λa x=>match x with | (p,j)=>a.setIfInBounds (k+j) p) (arrOf m) r.toList.zipIdx) (pendingOf m) (gallopOf m) (failedOf m)) (λa x=>match x with | (p,j)=>a.setIfInBounds (k+j) p) (λuu uu uu=>rfl) hm (by show List.foldl _ (arrOf m) _=_; rw[sm.2.1,a1]) (by show (pendingOf m).size=1; rw[sm.2.2.1]; exact a3) ef (sm.1.trans a2)
  refine wpS_pure ?_
  show Q (failedOf m).isNone _
  rw[show (failedOf m).isNone=true by rw[ef]; rfl]
  exact key
end
section
theorem qD (h2:2<=n) (h:n<128):1<=minRun' n n 0/\minRun' n n 0<=n/\n<=2*minRun' n n 0:=by
 obtain ⟨f,rfl⟩:∃ f,n=f+1:=⟨n-1,by exact DS h2⟩
 rw[minRun'_succ]
 by_cases c:f+1<64
 ·rw[if_pos c]; exact HR
 ·rw[if_neg c]
  obtain ⟨e,rfl⟩:∃ e,f=e+1:=⟨f-1,by exact GY h2⟩
  rw[minRun'_succ,if_pos (HT h)]
  exact H8
structure Ph1 (gr:Keyed->Nat) (st st':SortSt) (n1:Nat):Prop where
 perm:(arrOf st').Perm (arrOf st)
 kind:kindOf st' = kindOf st
 fail:failedOf st' = none
 pend:pendingOf st' = #[(0,n1,0)]
 up:SegUp gr (arrOf st') 0 n1
structure Ph2 (gr:Keyed->Nat) (st st':SortSt):Prop where
 perm:(arrOf st').Perm (arrOf st)
 kind:kindOf st' = kindOf st
 fail:failedOf st' = none
 runs:∃ n1 n2 pw,pendingOf st' = #[(0,n1,pw),(n1,n2,0)]/\1<=n1/\1<=n2/\n1+n2=(arrOf st).size/\SegUp gr (arrOf st') 0 n1/\SegUp gr (arrOf st') n1 n2
structure Dn (gr:Keyed->Nat) (st st':SortSt):Prop where
 perm:(arrOf st').Perm (arrOf st)
 fail:failedOf st' = none
 pend:(pendingOf st').size=1
 up:Up gr (arrOf st').toList
theorem Gd.perm {st st':SortSt}(g:Gd gr go gk st) (hp:(arrOf st').Perm (arrOf st)) (hk:kindOf st' = kindOf st):Gd gr go gk st':=⟨λp h=>g.ok p (hp.mem_iff.mp h),hk.trans g.kind⟩
theorem B7 {α:Type}{c:Prop}{dc:Decidable c}{A:StateT SortSt Sem α}{jp:Nat->StateT SortSt Sem α}{n:Nat}(m:Nat) (P:SortSt->Prop) {st:SortSt}{Q:α->SortSt->Prop}(h1:c->(∀ st2,P st2->wpS gM gA gE gs (jp m) Q st2)->wpS gM gA gE gs A Q st) (h2:¬ c->n=m/\P st) (J:∀ st2,P st2->wpS gM gA gE gs (jp m) Q st2) :
  wpS gM gA gE gs (@ite _ c dc A (jp n)) Q st:=by
 by_cases q:c
 ·rw[if_pos q]
  exact h1 q J
 ·rw[if_neg q,(h2 q).1]
  exact J st (h2 q).2
theorem r6 (hlt:bB gM gA gE gs gr go gk) {st:SortSt}{Q:Unit->SortSt->Prop}(g:Gd gr go gk st) (h2:2<=(arrOf st).size) (h128:(arrOf st).size<128) (hp:pendingOf st = #[]) (hf:failedOf st=none)
  (h:∀ st',(arrOf st').Perm (arrOf st)->Up gr (arrOf st').toList->failedOf st' = none->Q () st'):wpS gM gA gE gs sortRuns' Q st:=by
 rw[sortRuns'_eq]
 refine wpS_bind (wpS_get ?_)
 refine aG (qD h2 h128) λm1 m2 m3=>?_
 dsimp only
 generalize hN:(arrOf st).size=N at *
 generalize minRun' N N 0=mr at *
 refine wpS_bind (wpS_mono (wpS_forRange (I:=λx c st'=>(x=0/\c=(none,0)/\st' = st)\/(∃ l,c=(none,l)/\Ph1 gr st st' l/\mr<=l/\l<=N/\(x=1\/l=N))\/(c=(none,N)/\Ph2 gr st st'))
  (Q:=λc st'=>c=(none,N)/\(Ph1 gr st st' N\/Ph2 gr st st')) ?_ ?_ (.inl ⟨rfl,rfl,rfl⟩)) ?_)
 ·rintro x c st' _ hx (⟨rfl,rfl,rfl⟩ | ⟨l,rfl,p,q1,q2,q3⟩ | ⟨rfl,p2⟩)
  ·dsimp only
   rw[if_neg (by exact Nat.not_le_of_lt ‹_›)]
   refine wpS_bind (kD hlt g (E5 hN) ‹_› λn o l n2 t up=>?_)
   dsimp only
   by_cases c:n<mr
   ·rw[if_pos c]
    refine wpS_bind (dK (wpS_bind (nV hlt (g.of t) (by rw[t.size]; exact Jo hN) (Ji m2 c) up λk r u=>?_)))
    rw[if_neg (by decide)]
    refine wpS_bind (wpS_get ?_)
    have ep:pendingOf k = #[]:=by rw[r.pend,t.pend,hp]
    have em:min (N-0) mr=mr:=by exact Ho m2
    rw[em] at u ⊢
    rw[show (pendingOf k).back? = none by rw[ep]; rfl]
    refine wpS_bind (wpS_modify (wpS_pure (.inr (.inl ⟨mr,by rw[zero_add],⟨r.perm.trans t.perm,r.kind.trans t.kind,r.fail.trans (t.fail.trans hf),?_,u⟩,le_refl _,m2,.inl rfl⟩))))
    show (pendingOf k).push (0,mr,0)=_
    rw[ep]; rfl
   ·rw[if_neg c]
    refine wpS_bind (wpS_get ?_)
    have ep:pendingOf o = #[]:=by rw[t.pend,hp]
    rw[show (pendingOf o).back? = none by rw[ep]; rfl]
    refine wpS_bind (wpS_modify (wpS_pure (.inr (.inl ⟨n,by rw[zero_add],⟨t.perm,t.kind,t.fail.trans hf,?_,up⟩,by exact le_of_not_lt ‹_›,by assumption,.inl rfl⟩))))
    show (pendingOf o).push (0,n,0)=_
    rw[ep]; rfl
  ·dsimp only
   by_cases c0:l≥N
   ·rw[if_pos c0]
    have e:l=N:=by exact DM q2 c0
    subst e
    exact wpS_pure ⟨rfl,.inl p⟩
   rw[if_neg c0]
   have g1:=g.perm p.perm p.kind
   have v:(arrOf st').size=N:=by rw[p.perm.size_eq,hN]
   refine wpS_bind (kD hlt g1 (IS c0 v) (E7 c0) λn o k1 k2 t up=>?_)
   dsimp only
   have fin:∀ (k:SortSt) (pw:Nat),Wn l (l+(N-l)) st' k->SegUp gr (arrOf k) l (N-l)->Ph2 gr st (setPending (setPending k ((pendingOf k).modify ((pendingOf k).size-1) λx=>(x.1,x.2.1,pw))) (((pendingOf k).modify ((pendingOf k).size-1) λx=>(x.1,x.2.1,pw)).push (l,N-l,0))):=λk pw z u2=>by
    refine ⟨z.perm.trans p.perm,z.kind.trans p.kind,z.fail.trans p.fail,l,N-l,pw,?_,by exact Gw m1 q1,by exact lt_of_lt_of_le ‹_› ‹_›,by exact G8 hN k1 k2,?_,u2⟩
    ·show ((pendingOf k).modify ((pendingOf k).size-1) λx=>(x.1,x.2.1,pw)).push (l,N-l,0)=_
     rw[z.pend,p.pend]
     apply toList_inj.mp
     rw[toList_push,Array.toList_modify]
     rfl
    ·intro i j hi hij hj
     show rkA gr (arrOf k) i<=rkA gr (arrOf k) j
     rw[cA (z.out i (.inl (D8 hij hj))),cA (z.out j (.inl (sU hj)))]
     exact p.up i j hi hij hj
   apply B7 (n:=n) (N-l) (λk=>Wn l (l+(N-l)) st' k/\SegUp gr (arrOf k) l (N-l))
   ·intro c J
    refine wpS_bind (dK (wpS_bind (nV hlt (g1.of t) (by rw[t.size]; exact CO v k1 k2) (Ff m3 q1 k2) up λk r u=>?_)))
    rw[if_neg (by decide)]
    have em:min (N-l) mr=N-l:=Ix m3 q1
    rw[em] at r u ⊢
    exact J k ⟨t.trans r,u⟩
   ·intro c
    have em:n=N-l:=EF m3 q1 k2 c
    clear fin
    refine ⟨em,t,?_⟩
    rw[em] at up
    exact up
   ·intro k hI
    refine ae hI λz u=>?_
    clear hI
    refine wpS_bind (wpS_get ?_)
    have ep:pendingOf k = #[(0,l,0)]:=by rw[z.pend,p.pend]
    rw[show (pendingOf k).back? = some (0,l,0) by rw[ep]; rfl]
    dsimp only
    refine wpS_bind (wpS_mono (wpS_forRange (I:=λx c m=>m=k/\c=(none,())) (Q:=λc m=>m=k/\c=(none,())) ?_ ?_ ⟨rfl,rfl⟩) ?_)
    ·intro x c m _ _ LA
     refine ae (LA) λLx LB=>?_
     clear LA
     subst Lx
     subst LB
     refine wpS_bind (wpS_get ?_)
     rw[if_neg (λq=>by rw[ep] at q; exact absurd q (lt_irrefl 1))]
     exact wpS_pure ⟨rfl,rfl⟩
    ·rintro c m h; exact h
    ·intro c m Lz
     refine ae (Lz) λLC LF=>?_
     clear Lz
     subst LC
     subst LF
     dsimp only
     refine wpS_bind (wpS_modify (wpS_bind (wpS_modify (wpS_pure (.inr (.inr ⟨by rw[show l+(N-l)=N by lia],fin m _ z u⟩))))))
  ·dsimp only
   rw[if_pos (le_refl _)]
   exact wpS_pure ⟨rfl,.inr p2⟩
 ·rintro c st' (⟨e,_⟩ | ⟨l,rfl,p,q1,q2,q3⟩ | ⟨rfl,p2⟩)
  ·exact IY h2 e
  ·have e:l=N:=by exact Jj h2 q3
   subst e
   exact ⟨rfl,.inl p⟩
  ·exact ⟨rfl,.inr p2⟩
 ·intro c st' LI
  refine ae (LI) λLD hph=>?_
  clear LI
  subst LD
  dsimp only
  refine wpS_bind (wpS_mono (wpS_forRange (I:=λx c st'=>c=(none,())/\(Dn gr st st'\/(x=0/\Ph2 gr st st'))) (Q:=λc st'=>c=(none,())/\Dn gr st st') ?_ ?_ ⟨rfl,?_⟩) ?_)
  ·intro x c o _ hx Ly
   refine ae (Ly) λLG y=>?_
   clear Ly
   subst LG
   refine wpS_bind (wpS_get ?_)
   rcases y with y | ⟨rfl,p2⟩
   ·rw[if_pos (by rw[y.pend]; exact le_refl _)]
    exact wpS_pure ⟨rfl,y⟩
   ·refine cK (p2.runs) λl n2 pw e1 e2 e3 e4 e5 e6=>?_
    have es:(pendingOf o).size=2:=by rw[e1]; rfl
    rw[if_neg (Il es),es]
    have v:(arrOf o).size=N:=by rw[p2.perm.size_eq,hN]
    refine wpS_bind (qM hlt (g.perm p2.perm p2.kind) e1 (DE hN e4 v) e2 e3 e5 e6 p2.fail λk f1 f2 f3 f4 f5=>?_)
    exact wpS_pure ⟨rfl,.inl ⟨f1.trans p2.perm,f4,f3,f2⟩⟩
  ·intro c o LJ
   refine ae (LJ) λLH y=>?_
   clear LJ
   subst LH
   refine ⟨rfl,y.resolve_right λq=>?_⟩
   have:=q.1
   exact IJ h2 q
  ·rcases hph with p | p2
   ·left
    refine ⟨p.perm,p.fail,by rw[p.pend]; rfl,?_⟩
    have v:(arrOf st').size=N:=by rw[p.perm.size_eq,hN]
    have:=gO p.up (IN v)
    rwa [drop_zero,take_of_length_le (by rw[length_toList]; exact Ej v)] at this
   ·exact .inr ⟨rfl,p2⟩
  ·intro c o LK
   refine ae (LK) λLM y=>?_
   clear LK
   subst LM
   exact wpS_pure (h o y.perm y.up y.fail)
end
theorem mf:∀ a:List Int,ltL a a=false
 | []=>rfl
 | a::as=>by simp[ltL,mf as]
theorem fV:∀ {a b c:List Int},ltL a b=true->ltL b c=true->ltL a c=true
 | [],[],_,h,_=>by simp[ltL] at h
 | [],_::_,[],_,h=>by simp[ltL] at h
 | [],_::_,_::_,_,_=>rfl
 | _::_,[],_,h,_=>by simp[ltL] at h
 | _::_,_::_,[],_,h=>by simp[ltL] at h
 | a::as,b::bs,c::cs,h1,h2=>by
  unfold ltL at h1 h2 ⊢
  by_cases e1:a=b
  ·subst e1
   rw[if_pos rfl] at h1
   by_cases e2:a=c
   ·rw[if_pos e2] at h2 ⊢; exact fV h1 h2
   ·rw[if_neg e2] at h2 ⊢; exact h2
  ·rw[if_neg e1] at h1
   by_cases e2:b=c
   ·subst e2; rw[if_neg e1]; exact h1
   ·rw[if_neg e2] at h2
    simp only[decide_eq_true_eq] at h1 h2
    rw[if_neg (GN h1 h2)]
    simp only[decide_eq_true_eq]; exact GC h1 h2
theorem jM:∀ {a b:List Int},ltL a b=false->ltL b a=false->a=b
 | [],[],_,_=>rfl
 | [],_::_,h,_=>by simp[ltL] at h
 | _::_,[],_,h=>by simp[ltL] at h
 | a::as,b::bs,h1,h2=>by
  unfold ltL at h1 h2
  by_cases e:a=b
  ·subst e
   rw[if_pos rfl] at h1 h2
   rw[jM h1 h2]
  ·rw[if_neg e] at h1
   rw[if_neg (Ne.symm e)] at h2
   simp only[decide_eq_false_iff_not] at h1 h2
   exact I6 e h1 h2
noncomputable def rkL (ks:List (List Int)) (k:List Int):Nat:=ks.countP λx=>ltL x k
theorem nR:∀ {l:List α},(∀ x∈l,p x=true->q x=true)->l.countP p<=l.countP q
 | [],_=>le_refl _
 | x::l,h=>by
  have g:=nR λy i=>h y (.tail _ i)
  rw[List.countP_cons,List.countP_cons]
  cases hp:p x with
  | true=>rw[h x (.head _) hp]; simp; exact g
  | false=>simp; exact FU g
theorem nX:∀ {l:List α}{y:α},(∀ x∈l,p x=true->q x=true)->y∈l->p y=false->q y=true->l.countP p<l.countP q
 | x::l,y,h,hy,h1,h2=>by
  rw[List.countP_cons,List.countP_cons]
  rcases mem_cons.mp hy with rfl | hy
  ·rw[h1,h2]
   have:=nR λz g=>h z (.tail _ g)
   simp; exact yv this
  ·have i:=nX (λz g=>h z (.tail _ g)) hy h1 h2
   cases hp:p x with
   | true=>rw[h x (.head _) hp]; simp; exact i
   | false=>simp; exact Hr i
theorem uN (ha:a∈ks) (hb:b∈ks):ltL a b=decide (rkL ks a<rkL ks b):=by
 have g:∀ {a b:List Int},a∈ks->ltL a b=true->rkL ks a<rkL ks b:=λ{a b} ha h=>nX (λx _ i=>fV i h) ha (mf a) h
 cases h:ltL a b with
 | true=>rw[decide_eq_true (g ha h)]
 | false=>
  refine (decide_eq_false λq=>?_).symm
  cases h':ltL b a with
  | true=>have:=g hb h'; exact Fd q this
  | false=>rw[jM h h'] at q; exact lt_irrefl _ q
noncomputable def iv:List Int->List Int->Option Bool
 | a::as,b::bs=>if a=b then iv as bs else some (decide (a<b))
 | _,_=>none
theorem oK:∀ a b:List Int,ltL a b=(iv a b).getD (decide (a.length<b.length))
 | [],[]=>rfl
 | [],_::_=>by simp[ltL,iv]
 | _::_,[]=>by simp[ltL,iv]
 | a::as,b::bs=>by
  unfold ltL iv
  by_cases e:a=b
  ·rw[if_pos e,if_pos e,oK as bs]; simp
  ·rw[if_neg e,if_neg e]; rfl
noncomputable def KeyOf (h:Heap) (v:Value) (k:List Int):Prop:=∃ a vs n,v = .ref a/\h.get? a=some ⟨.type "tuple", none,.seq vs.toArray n,#[]⟩/\IntsAre vs k
noncomputable def js (v:Value):Int:=match v with
 | .int i _=>i
 | _=>0
theorem IntsAre.read (h:IntsAre vs k):k=vs.map js:=by
 induction h with
 | nil=>rfl
 | cons n t r ih=>exact congrArg (n :: ·) ih
theorem IntsAre.fn (a:IntsAre vs k) (b:IntsAre vs k'):k=k':=(IntsAre.read a).trans (IntsAre.read b).symm
theorem KeyOf.fn (a:KeyOf h v k) (b:KeyOf h v k'):k=k':=by
 refine aV (a) λx m n j e i=>?_
 clear a
 subst j
 refine aV (b) λuu g p q l o=>?_
 clear b
 cases q
 rw[e] at l
 have:m=g:=by cases l; rfl
 subst this
 exact IntsAre.fn i o
theorem KeyOf.ofR (r:R h v (.tuple (k.map .int)) as):KeyOf h v k:=by
 cases r with
 | @tuple a n xs as vs e ra=>
  have g:aY (k.map PyData.int)=some k:=by
   clear ra e
   induction k with
   | nil=>rfl
   | cons x k ih=>show (aY (k.map PyData.int)).map (x :: ·)=_; rw[ih]; rfl
  exact (cF a vs n rfl e ((ra.ints g).1))
section
variable {A:Around}{E:Value->Shared->Prop}{s:Shared}
theorem lK (c:Bool) (h:Q (decide (a<b)) s):wpAny (model prog w) A (oneLt' c (.int a t) (.int b u)) Q E s:=by
 cases c with
 | true=>exact oneLt_int h
 | false=>
  rw[oneLt'_eq]
  simp only[false_eq_true,if_false]
  exact wpAny_bind (wpAny_lt_int (wpAny_truthy_bool h))
theorem qo (c:Bool) (x y:Value):keyLt' (tuples' c) x y=(do
  let xs <- Builtin.List.listItems x; let ys <- Builtin.List.listItems y
  for ((p,q),i) in (xs.toList.zip ys.toList).zipIdx do
   if !(<- eqBool p q) then return <- oneLt' (c&&i==0) p q
  return xs.size<ys.size):=rfl
theorem v5 {body:(Value×Value)×Nat->Option Bool×Unit->Sem (ForInStep (Option Bool×Unit))}{R:Option Bool×Unit->Shared->Prop}
  (hb:∀ (a b:Int) (t u:Tok) (i:Nat) (R':ForInStep (Option Bool×Unit)->Shared->Prop),R' (if a=b then .yield (none,()) else .done (some (decide (a<b)),())) s->wpAny (model prog w) A (body ((.int a t,.int b u),i) (none,())) R' E s)
  {vs:List Value}{k:List Int}(ia:IntsAre vs k):∀ {us:List Value}{k':List Int}(i:Nat),IntsAre us k'->R (iv k k',()) s->wpAny (model prog w) A (forIn ((vs.zip us).zipIdx i) (none,()) body) R E s:=by
 induction ia with
 | nil=>
  intro us k' i g h
  rw[List.zip_nil_left,List.zipIdx_nil,List.forIn_nil]
  exact wpAny_pure h
 | cons a t r ih=>
  intro us k' i g h
  induction g with
  | nil=>
   rw[List.zip_nil_right,List.zipIdx_nil,List.forIn_nil]
   exact wpAny_pure h
  | cons b u q ih'=>
   rw[zip_cons_cons,List.zipIdx_cons,forIn_cons]
   refine wpAny_bind (hb a b t u i _ ?_)
   by_cases e:a=b
   ·rw[if_pos e]
    exact ih (i+1) q (by rw[iv,if_pos e] at h; exact h)
   ·rw[if_neg e]
    exact wpAny_pure (by rw[iv,if_neg e] at h; exact h)
theorem ve (c:Bool) (hx:KeyOf s.heap x k) (hy:KeyOf s.heap y k') (h:Q (ltL k k') s):wpAny (model prog w) A (keyLt' (tuples' c) x y) Q E s:=by
 refine aV (hx) λa vs n l ea v=>?_
 clear hx
 subst l
 refine aV (hy) λb us m j eb o=>?_
 clear hy
 subst j
 rw[qo]
 refine wpAny_bind (listItems_at ea rfl (wpAny_bind (listItems_at eb rfl ?_)))
 simp only[List.toList_toArray]
 refine wpAny_bind (v5 (λp q t u i R' g=>?_) v 0 o ?_)
 ·dsimp only
  refine wpAny_bind (wpAny_eqBool_int ?_)
  by_cases e:p=q
  ·subst e
   rw[if_pos rfl] at g
   rw[if_neg (by simp)]
   exact wpAny_pure g
  ·rw[if_neg e] at g
   rw[if_pos (by simpa using e)]
   exact wpAny_bind (lK _ (wpAny_pure g))
 ·rw[oK] at h
  have l1:=v.length
  have z:=o.length
  cases e:iv k k' with
  | none=>
   rw[e] at h
   refine wpAny_pure ?_
   simp only[size_toArray]
   rw[<- l1,<- z] at h
   exact h
  | some r=>rw[e] at h; exact wpAny_pure h
theorem xC (v:Value):firstOfTuple' v=(do
  if (<- typeOf v) != .type "tuple" then return none
  return (<- Builtin.List.listItems v)[0]?):=rfl
theorem ku:∀ {ks:List (List Int)}{vs:List Value},vs.length=ks.length->(∀ (i:Nat) (v:Value) (k:List Int),vs[i]? = some v->ks[i]? = some k->KeyOf s.heap v k/\k≠[])->(∀ fs:List Value,fs.length=vs.length->(∀ f∈fs,∃ a t,f = .int a t)->Q (fs.map some) s)->wpAny (model prog w) A (vs.mapM firstOfTuple') Q E s
 | [],[],_,_,h=>by rw[List.mapM_nil]; exact wpAny_pure (h [] rfl λuu q=>nomatch q)
 | [],_::_,hl,_,_=>by simp at hl
 | _::_,[],hl,_,_=>by simp at hl
 | k::ks,v::vs,hl,hk,h=>by
  refine ae (hk 0 v k rfl rfl) λg l=>?_
  refine aV (g) λa us n j p u=>?_
  clear g
  subst j
  rw[List.mapM_cons]
  refine wpAny_bind ?_
  rw[xC]
  refine wpAny_bind (wpAny_typeOf (T:="tuple") (ah _ p rfl) ?_)
  rw[if_neg (by decide)]
  refine wpAny_bind (listItems_at p rfl (wpAny_pure ?_))
  cases u with
  | nil=>exact absurd rfl l
  | cons x t r=>
   refine wpAny_bind (ku (ks:=ks) (vs:=vs) (by simpa using hl) (λi v k z y=>hk (i+1) v k (by simpa using z) (by simpa using y)) λfs o m=>wpAny_pure ?_)
   have:=h (.int x t::fs) (by simp[o]) (λf hf=>(mem_cons.mp hf).elim (λe=>(bN x t e)) (m f))
   simpa using this
theorem nZ:∀ {fs:List Value},(∀ f∈fs,∃ a t,f = .int a t)->Q (fs.map λuu=>.type "int") s->wpAny (model prog w) A (fs.mapM typeOf) Q E s
 | [],_,h=>by rw[List.mapM_nil]; exact wpAny_pure h
 | f::fs,hf,h=>by
  refine ba (hf f (.head _)) λa t g=>?_
  subst g
  rw[List.mapM_cons]
  refine wpAny_bind (wpAny_pure (wpAny_bind (nZ (fs:=fs) (λf h=>hf f (.tail _ h)) (wpAny_pure h))))
theorem ul {ks:List (List Int)}{vs:List Value}{Q:SortKind->Shared->Prop}(hl:vs.length=ks.length) (h1:1<=vs.length) (hk:∀ (i:Nat) (v:Value) (k:List Int),vs[i]? = some v->ks[i]? = some k->KeyOf s.heap v k/\k≠[]) (h:Q (tuples' true) s):wpAny (model prog w) A (keyKind' vs.toArray) Q E s:=by
 rw[keyKind'_eq,List.mapM_toArray,map_eq_pure_bind]
 refine wpAny_bind (wpAny_bind (ku hl hk λo m p=>wpAny_pure ?_))
 have n:((o.map some).toArray.all λx=>x.isSome)=true:=by simp
 rw[if_pos n]
 refine wpAny_bind (wpAny_rule ?_)
 have q:((o.map some).toArray.filterMap id)=o.toArray:=by simp
 rw[q,oneTypeOnly'_eq,List.mapM_toArray,map_eq_pure_bind]
 refine wpAny_bind (wpAny_bind (wpAny_bind (nZ p (wpAny_pure ?_))))
 obtain ⟨g,l,rfl⟩:∃ g l,o=g::l:=by
  cases o with
  | nil=>simp at m; exact EO h1 m
  | cons g l=>exact (bN g l rfl)
 have j:((List.map (λuu=>Value.type "int") (g::l)).toArray.all λx=>x==Value.type "int")=true:=by
  simp only[List.all_toArray,all_map,all_eq_true]
  intro _ _
  rfl
 have r:(List.map (λuu=>Value.type "int") (g::l)).toArray[0]? = some (Value.type "int"):=by simp
 rw[r]
 simp only[j,if_true]
 exact wpAny_pure (wpAny_pure h)
end
section
end
theorem qU:lQ sg:=λj _ _ g l i k hf h=>r6 j g l i k hf h
section
variable {A:Around}{E:Value->Shared->Prop}{s:Shared}{rk:Keyed->Nat}{ok:Keyed->Prop}{κ:SortKind}
theorem rZ (hlt:bB (model prog w) A E s rk ok κ) {st:SortSt}{Q:Unit->SortSt->Prop}(g:Gd rk ok κ st) (h2:2<=(arrOf st).size) (h64:(arrOf st).size<64) (hp:pendingOf st = #[]) (hf:failedOf st=none)
  (h:∀ st',(arrOf st').Perm (arrOf st)->Up rk (arrOf st').toList->failedOf st' = none->Q () st'):wpS (model prog w) A E s sortRuns' Q st:=tH qU ⟨A,E,s,rk,ok,κ⟩ hlt g h2 (lt_trans h64 (by decide)) hp hf h
theorem o9 (hlt:bB (model prog w) A E s rk ok κ) {st:SortSt}{Q:Unit->SortSt->Prop}(g:Gd rk ok κ st) (h2:2<=(arrOf st).size) (h128:(arrOf st).size<128) (hp:pendingOf st = #[]) (hf:failedOf st=none)
  (h:∀ st',(arrOf st').Perm (arrOf st)->Up rk (arrOf st').toList->failedOf st' = none->Q () st'):wpS (model prog w) A E s sortRuns' Q st:=tH qU ⟨A,E,s,rk,ok,κ⟩ hlt g h2 h128 hp hf h
end
section
variable {A:Around}{E:Value->Shared->Prop}{s:Shared}
noncomputable def l9 (v:Value):Nat:=match v with
 | .int i _=>i.toNat
 | _=>0
theorem ur (x y:Value):keyLt' oneType' x y=oneLt' true x y:=rfl
theorem uM:bB (model prog w) A E s (λp=>l9 p.1) (λp=>∃ i t,p.1 = .int i t/\0<=i) oneType':=by
 intro x y n Q k g hk h
 refine av (k) λi t ex m=>?_
 clear k
 refine av (g) λj u l o=>?_
 clear g
 have e:(some (decide (l9 x.1<l9 y.1)))=some (decide (i<j)):=by
  rw[ex,l]
  show some (decide (i.toNat<j.toNat))=_
  rw[decide_eq_decide.mpr (show i.toNat<j.toNat↔i<j by exact Hf m)]
 dsimp only at h
 rw[e] at h
 rw[lt'_eq]
 refine wpS_bind (wpS_get ?_)
 rw[hk,ex,l,ur]
 refine wpS_bind (wpS_lift (wpAny_attempt (lK true ⟨rfl,?_⟩)))
 exact wpS_pure h
end
section
theorem Kp.wr (k:Kp s0 s) (e:s.heap.get? a=some (seqObj "list" xs n)) (h0:s0.heap.get? a=Option.none) (hs:Heap.SameBut a s.heap h'):Kp s0 {s with heap:=h' }:=by
 revert k; intro g
 refine av (g) λh j i k=>?_
 clear g
 subst i
 refine ⟨h',j,rfl,K.same k hs h0 λo q=>?_⟩
 rw[e] at q; injection q; exact Stay.not_list
theorem xL {α:Type}{R:α->α->Prop}{l:List α}(h:l.length<=1):l.Pairwise R:=by
 rcases l with _ | ⟨x,_ | ⟨y,l⟩⟩
 ·exact .nil
 ·exact List.pairwise_singleton ..
 ·cases h with
  | step h=>cases h
theorem eH (a:Array α) (b:List β):(a.zip b.toArray).toList=a.toList.zip b:=by
 first
  | simp
  | (cases a; simp)
theorem rE {α β:Type}{a:List α}{b:List β}{i:Nat}{x:α}{y:β}(h1:a[i]? = some x) (h2:b[i]? = some y):(a.zip b)[i]? = some (x,y):=List.getElem?_zip_eq_some.mpr ⟨h1,h2⟩
end
section
end
theorem gh:∀ {ns:List Str}{vs:List α}{n:Str},vs.length=ns.length->n∈ns->((ns.zip vs).lookup n).isNone=false
 | [],_,_,_,h=>nomatch h
 | m::ns,[],_,h,_=>by simp at h
 | m::ns,v::vs,n,hl,h=>by
  rw[zip_cons_cons,lookup_cons]
  by_cases e:n=m
  ·(clear h hl; subst e); simp
  ·have g:(n==m)=false:=by simpa using e
   rw[g]
   exact gh (by simpa using hl) ((mem_cons.mp h).resolve_left e)
theorem iU:∀ {ns:List Str}{vs:List Value},ns.Nodup->vs.length=ns.length->(ns.filterMap λn=>((ns.zip vs).lookup n).map (n,·))=ns.zip vs
 | [],_,_,_=>rfl
 | m::ns,[],_,h=>by simp at h
 | m::ns,v::vs,hn,hl=>by
  rw[nodup_cons] at hn
  rw[filterMap_cons]
  simp only[zip_cons_cons,lookup_cons,beq_self_eq_true,map_some]
  congr 1
  have k:=iU hn.2 (vs:=vs) (by simpa using hl)
  have i:∀ (l:List Str),(∀ n∈l,n≠m)->(l.filterMap λn=>(match n==m with | true=>some v | false=>(ns.zip vs).lookup n).map (n,·))=l.filterMap λn=>((ns.zip vs).lookup n).map (n,·):=by
   intro l g
   induction l with
   | nil=>rfl
   | cons n l ihl=>
    have p:(n==m)=false:=beq_eq_false_iff_ne.mpr (g n (.head _))
    rw[filterMap_cons,filterMap_cons,ihl λx o=>g x (.tail _ o)]
    simp only[p]
  exact (i ns λn j e=>hn.1 (e▸j)).trans k
theorem pb (a:α) (f:α->Sem β):((pure a:Sem α)>>=f)=f a:=rfl
theorem BT {α β γ:Type}{l:List α}{i:β}{f:α->β->Sem (ForInStep β)}{k:β->Sem γ}{z:Sem γ}(h:l=[]) (e:k i=z):(forIn l i f>>=k)=z:=by subst h; exact e
theorem uf [Decidable c] (h:¬ c) (e:y=z):(if c then x else y)=z:=(if_neg h).trans e
theorem rR {ps:List Str}(h1:fd.params.posonlyargs=[]) (h2:fd.params.args.map (·.arg)=ps) (h3:fd.params.vararg=none) (h4:fd.params.kwonlyargs=[]) (h5:fd.params.kwarg=none) (h6:fd.defaults = .none)
  (hn:ps.Nodup) (hl:vals.length=ps.length):bindArgs fd ⟨vals,[]⟩=pure (ps.zip vals):=by
 obtain ⟨v,r,⟨t,g,p,z,kd,y,df⟩,bd,q,gl,cl,de,j,o,u,an,cd,ct,bu⟩:=fd
 dsimp only at h1 h2 h3 h4 h5 h6
 subst h1 h3 h4 h5 h6
 have m:(ps.take ps.length).filter (λn=>((ps.zip vals).lookup n).isNone)=[]:=by
  rw[List.take_length,List.filter_eq_nil_iff]
  intro n h
  rw[gh hl h]
  simp
 have k:(ps++[]).filterMap (λn=>((ps.zip vals).lookup n).map λx=>(n,x))=ps.zip vals:=by rw[append_nil]; exact iU hn hl
 subst h2
 refine uf (c:=(decide (vals.length>(g.map (·.arg)).length)&&true)=true) (by rw[hl]; simp) ?_
 have i:List.drop (0-(g.map (·.arg)).length) ([]:List Value)=[]:=drop_nil
 refine uf (c:=(!(((g.map (·.arg)).take ((g.map (·.arg)).length-(List.drop (0-(g.map (·.arg)).length) ([]:List Value)).length)).filter λn=>(((g.map (·.arg)).zip vals).lookup n).isNone).isEmpty)=true) (by rw[i]; show ¬ (!(((g.map (·.arg)).take (g.map (·.arg)).length).filter λn=>(((g.map (·.arg)).zip vals).lookup n).isNone).isEmpty)=true; rw[m]; simp) ?_
 refine BT (l:=((g.map (·.arg)).drop ((g.map (·.arg)).length-(List.drop (0-(g.map (·.arg)).length) ([]:List Value)).length)).zip (List.drop (0-(g.map (·.arg)).length) ([]:List Value))) (by rw[i]; exact List.zip_nil_right) ?_
 exact congrArg (λx=>(pure x:Sem _)) k
section
end
section
end
section
end
def RawD (h:Heap) (d:Addr) (es:Array DictEntry) (ep:Nat):Prop:=∃ o,h.get? d=some o/\o.cls = .type "dict" /\ o.data = .dict es ep
theorem RawD.typ {s:Shared}{d:Addr}{es:Array DictEntry}{ep:Nat}(x:RawD s.heap d es ep):s.TypeIs (.ref d) "dict" := aq (x) λo h g uu=>(ah o h g)
theorem RawD.at (x:RawD h d es ep) (k:∀ o,h.get? d=some o->h'.get? d=some o):RawD h' d es ep:=af (x) λo g r=>(ah o (k o g) r)
section
variable {A:Around}{E:Value->Shared->Prop}{s:Shared}{d it:Addr}{es:Array DictEntry}{ep i:Nat}
theorem xN {Q:Value->Shared->Prop}(hd:(d==sysModules)=false) (hm:RawD s.heap d es ep)
  (hQ:Q (.ref s.heap.objs.size) {s with heap:=s.heap.push {cls:=.type "dict_keyiterator", data:=.fields #[.ref d,.int 0 0,.int es.size 0,.int ep 0] } }) :
  wpAny (model prog w) A (pyIter (.ref d)) Q E s:=by
 have h:=hm.typ
 refine aq (hm) λo i j g=>?_
 clear hm
 refine wpAny_pyIter_slot h F.slot_dict_iter (wpAny_call_entry F.slot_dict_iter h F.entry_dict_iter ?_ (F.args_dict_iter_1 _))
 unfold Builtin.«dict.__iter__»
 refine wpAny_bind ?_
 unfold Builtin.Dict.dictSlotNone
 refine wpAny_bind (wpAny_notOrdered_dict h (wpAny_pure ?_))
 show wpAny _ _ (Builtin.Dict.showsAll d>>=_) _ _ s
 unfold Builtin.Dict.showsAll
 rw[if_neg (by rw[hd]; exact Bool.false_ne_true)]
 refine wpAny_bind (wpAny_pure (wpAny_bind (wpAny_dictEntries i g (wpAny_bind (wpAny_dictEpoch i g ?_)))))
 refine wpAny_bind (wpAny_newObj_type (wpAny_pure (ah _ rfl (aM ("dict_keyiterator") _ (ah _ (Heap.get?_push_size _ rfl) rfl) F.slot_dict_keyiterator_next.lookup ?_))))
 simpa [rawInt] using hQ
theorem pN (hh:A.handled=none) (hit:s.heap.IsKeyIter it d i es.size ep) (hm:RawD s.heap d es ep)
  (hQ:∀ (hi:i<es.size) h',h'.IsKeyIter it d (i+1) es.size ep->Heap.SameBut it s.heap h'->Q (some es[i].key) {s with heap:=h' })
  (hE:es.size<=i->∀ h',Heap.ExtBut it s.heap h'->Q none {s with heap:=h' }):wpAny (model prog w) A (pyNext (.ref it)) Q E s:=by
 refine aq (id hit) λo p r n=>?_
 refine aq (hm) λt j q l=>?_
 clear hm
 unfold pyNext
 refine wpAny_bind (wpAny_attempt (wpAny_callSpecial?_slot (name:=Str.ofString "__next__") hit.typeIs F.slot_dict_keyiterator_next
  (wpAny_call_entry F.slot_dict_keyiterator_next hit.typeIs F.entry_dict_keyiterator_next ?_ (F.args_dict_keyiterator_next_1 _))))
 refine wpAny_bind (wpAny_pure (wpAny_bind (wpAny_bind ?_)))
 first | refine wpAny_bind (wpAny_typeNameOfWhole_keyiter hit.typeIs (wpAny_pure ?_)) | refine wpAny_bind (wpAny_typeNameOf_keyiter hit.typeIs (wpAny_pure ?_))
 refine wpAny_bind (wpAny_fieldsOf p n ?_)
 have h:Builtin.Dict_items.ownsTuple "dict_keyiterator" = false:=by decide
 rw[h,if_neg Bool.false_ne_true]
 show wpAny _ _ (if (Value.ref d==Value.none)=true then _ else _) _ _ s
 rw[if_neg (show ¬ ((Value.ref d==Value.none)=true) from Bool.false_ne_true)]
 refine wpAny_bind (wpAny_pure (wpAny_bind (wpAny_dictEntries j l ?_)))
 rw[if_neg (by simp)]
 refine wpAny_bind (wpAny_pure (wpAny_bind (wpAny_dictEpoch j l ?_)))
 rw[if_neg (by simp)]
 refine wpAny_pure ?_
 by_cases hi:i<es.size
 ·dsimp only
  rw[if_neg (show ¬ ((i:Int)<0) from by exact yz),Int.toNat_natCast,Array.getElem?_eq_getElem hi]
  dsimp only
  refine wpAny_bind ?_
  first | refine wpAny_bind (wpAny_typeNameOfWhole_keyiter hit.typeIs (wpAny_pure ?_)) | refine wpAny_bind (wpAny_typeNameOf_keyiter hit.typeIs (wpAny_pure ?_))
  refine wpAny_bind (wpAny_isOneOf_keyiter hit.typeIs ?_)
  show wpAny _ _ (setField (.ref it) 1 (rawInt ((i:Int)+1))>>=_) _ _ s
  refine wpAny_bind (wpAny_setField p n (by simp) ?_)
  have g:(s.heap.update it (Obj.mapFields (·.setIfInBounds 1 (rawInt ((i:Int)+1))))).IsKeyIter it d (i+1) es.size ep :=
   (aF _ (Heap.get?_update_self _ p (Obj.isFreed_of_fields (Obj.data_mapFields n _))) ((Obj.cls_mapFields ..).trans r) (by rw[Obj.data_mapFields n]; simp[rawInt]))
  refine wpAny_bind (wpAny_holding (wpAny_bind (wpAny_isOneOf_keyiter (s:={s with heap:=s.heap.update it (Obj.mapFields (·.setIfInBounds 1 (rawInt ((i:Int)+1)))) }) g.typeIs ?_)))
  show wpAny _ _ (pure es[i].key) _ _ _
  exact wpAny_pure (wpAny_pure (ah _ rfl (wpAny_pure (hQ hi _ g (Heap.SameBut.update ..)))))
 ·have k:es.size<=i:=by exact DX hi
  dsimp only
  rw[if_neg (show ¬ ((i:Int)<0) from by exact yz),Int.toNat_natCast,Array.getElem?_eq_none k]
  dsimp only
  refine wpAny_bind ?_
  first | refine wpAny_bind (wpAny_typeNameOfWhole_keyiter hit.typeIs (wpAny_pure ?_)) | refine wpAny_bind (wpAny_typeNameOf_keyiter hit.typeIs (wpAny_pure ?_))
  show wpAny _ _ (setField (.ref it) 0 .none>>=_) _ _ s
  refine wpAny_bind (wpAny_setField p n (by simp) ?_)
  show wpAny _ _ (newExc (.type "StopIteration") []>>=_) _ _ _
  refine wpAny_bind ?_
  simp only[newExc,newTuple]
  refine wpAny_bind (wpAny_newObj_type ?_ (by size_fits))
  refine wpAny_bind (m:=firstArgMember _ _) (wpAny_of_eq (a:=Value.none) (by first | rfl | (simp only[firstArgMember]; rfl)) ?_)
  refine wpAny_newObj_type ?_ (by size_fits)
  simp only[raiseNew]
  refine wpAny_bind (wpAny_handled ?_)
  rw[show A.in1.handled=none from hh]
  refine wpAny_bind (wpAny_pure (wpAny_throw ?_))
  refine wpAny_bind (wpAny_isInstance (T:="StopIteration") (b:=true) (ah _ (Heap.get?_push_size _ rfl) rfl) isSubtype_stop ?_)
  exact wpAny_pure (hE k _ (((Heap.SameBut.update ..).extBut.push _).push _))
end
theorem uR {A:Around}(hh:A.handled=none) (I d:Addr) (hne:d≠I) (es:Array DictEntry) (ep:Nat) :
  Walks prog w A I [I,d] [I] es.size (λi v=>∃ hi:i<es.size,v=es[i].key) (λi h=>h.IsKeyIter I d i es.size ep/\RawD h d es ep) where
 sub:=λb j=>by simp at j; simp[j]
 frame:=λuu uu uu g hk=>⟨g.1.at λo e=>hk I (by simp) o e,g.2.at λo e=>hk d (by simp) o e⟩
 item:=λi s Q E hi g m=>pN hh g.1 g.2 (λn r l k=>m _ r s.toks ⟨n,rfl⟩ ⟨l,g.2.at λo e=>k.extBut d o hne e⟩ λb o j e=>k.extBut b o (λh=>j (by simp[h])) e) λp=>absurd hi (Nat.not_lt.mpr p)
 done:=λs Q E g m=>pN hh g.1 g.2 (λhi=>absurd hi (lt_irrefl _)) λuu r q=>m r s.toks λb o j e=>q b o (λh=>j (by simp[h])) e
 self:=λuu uu uu uu g m=>wpAny_pyIter_keyiter g.1 m
section
variable {A:Around}{E:Value->Shared->Prop}{s:Shared}{d S:Addr}{es:Array DictEntry}{ep:Nat}
theorem vI (hT:s.TypeIs (.ref d) "dict") (h:Q false s):wpAny (model prog w) A (Builtin.List.listLengthHint (.ref d)) Q E s:=by
 unfold Builtin.List.listLengthHint
 refine wpAny_bind (wpAny_specialOf hT PySem.F.slot_dict_len.lookup ?_)
 generalize g:("dict.__len__" : String)=id0
 wp_delta
 rw[show splitId id0=some ("dict", "__len__") from by subst g; decide +kernel]
 subst g
 refine wpAny_bind (wpAny_isInstance (T:="dict") (b:=true) hT (by rw[isSubtype_type]; kernel_rfl) ?_)
 refine wpAny_ite_split (λq=>absurd q (by decide)) λuu=>wpAny_ite_split (λuu=>wpAny_bind (wpAny_typeOf hT (wpAny_pure h))) λq=>absurd (by decide +kernel) q
theorem rW {R:Result->Shared->Prop}(lo:(d==sysModules)=false) (hh:A.handled=none) (hm:RawD s.heap d es ep) (hn:es.size<=sizeLine) (hSd:S≠d) {co:Nat}(hS:s.heap.get? S=some {cls:=.type "list", data:=.seq #[] co })
  (hR:∀ h' tk acc' c',(∀ b o,b≠S->s.heap.get? b=some o->h'.get? b=some o)->h'.get? S=some {cls:=.type "list", dict:=none,data:=.seq acc' c',slots:=#[] }->ItemsOf (λi v=>∃ hi:i<es.size,v=es[i].key) acc' es.size->R (.ok (.ret .none)) {s with heap:=h',toks:=tk }) :
  wpAny (model prog w) A.in1 (Builtin.List.listExtendWith (.ref S) (.ref d) .none)
   (λfin s'=>match fin with | .done f=>R (.ok f) s' | .again c'=>c'.quiet=true/\codeAny (model prog w) A c' R s') (λe s'=>R (.error e) s') s:=by
 have z:S≠s.heap.objs.size:=ne_of_lt (lt_size hS)
 have y:d≠s.heap.objs.size:=af (hm) λuu e uu=>ne_of_lt (lt_size e)
 have t:S∉[s.heap.objs.size,d]:=by simp only[mem_cons,not_mem_nil,or_false,not_or]; exact ⟨z,hSd⟩
 have W:=uR (A:=A.in1) hh s.heap.objs.size d y es ep
 have l:∀ (h:Heap) (k tk:Nat),(h.IsKeyIter s.heap.objs.size d 0 es.size ep/\RawD h d es ep)->(∀ b o,b≠S->s.heap.get? b=some o->h.get? b=some o) ->
   h.get? S=some {cls:=.type "list", data:=.seq #[] k }->codeAny (model prog w) A (.builtin "list.extend.loop" ⟨[.ref S,.ref s.heap.objs.size,.none],[]⟩) R {s with heap:=h,toks:=tk }:=λh k tk x hk g=>by
  refine codeAny_extend_loopS W.toS hn S t .none es.size 0 _ #[] k rfl (zero_le _) x g (ItemsOf.nil _) λs' acc' c' p hS' r=>?_
  rw[Moved.eq_with p]
  refine hR s'.heap s'.toks acc' c' (λb o m e=>p.heap b o (λhmem=>?_) (hk b o m e)) hS' r
  rcases mem_cons.mp hmem with e' | hmem
  ·exact m e'
  ·exact absurd (lt_size e) (by rw[mem_singleton.mp hmem]; exact lt_irrefl _)
 unfold Builtin.List.listExtendWith
 refine wpAny_bind (wpAny_typeOf (T:="dict") hm.typ ?_)
 have h1:Builtin.List.listSameRef (.ref S) (.ref d)=false:=by simp[Builtin.List.listSameRef,hSd]
 simp only[h1,show (Value.type "dict" == Value.type "list")=false by decide,show (Value.type "dict" == Value.type "tuple")=false by decide,Bool.or_false,false_eq_true,if_false]
 refine wpAny_bind (xN lo hm ?_)
 have g:=Heap.get?_push_of_some {cls:=.type "dict_keyiterator", data:=.fields #[.ref d,.int 0 0,.int es.size 0,.int ep 0] } hS
 have u:(s.heap.push {cls:=.type "dict_keyiterator", data:=.fields #[.ref d,.int 0 0,.int es.size 0,.int ep 0] }).IsKeyIter s.heap.objs.size d 0 es.size ep/\RawD (s.heap.push {cls:=.type "dict_keyiterator", data:=.fields #[.ref d,.int 0 0,.int es.size 0,.int ep 0] }) d es ep:=⟨(aF _ (Heap.get?_push_size _ rfl) rfl rfl),hm.at λo e=>Heap.get?_push_of_some _ e⟩
 refine wpAny_bind (wpAny_holding (vI u.2.typ ?_))
 refine wpAny_ite_split (λuu=>?_) (λuu=>wpAny_pure ⟨plainId_quiet PySem.F.plain_extend_loop _,l _ co _ u (λb o _ e=>Heap.get?_push_of_some _ e) g⟩)
 refine wpAny_bind (wpAny_rule (wpAny_bind ?_))
 show wpAny _ _ (updateSeq S (·.push .none)>>=λuu=>updateSeq S (·.pop)) _ _ _
 refine wpAny_bind (wpAny_updateSeq g rfl ?_)
 have j:=Heap.get?_update_self (Obj.mapSeq (·.push Value.none)) g rfl
 refine wpAny_updateSeq (hz:=by seq_fits) j rfl ?_
 have n:=Heap.get?_update_self (Obj.mapSeq (·.pop)) j rfl
 refine wpAny_pure ⟨plainId_quiet PySem.F.plain_extend_loop _,l _ _ _ ?_ (λb o m e=>?_) n⟩
 ·refine W.frame 0 _ _ u λb m o e=>?_
  have q:b≠S:=λh=>t (h▸m)
  exact (Heap.get?_update_other _ _ (Ne.symm q)).trans ((Heap.get?_update_other _ _ (Ne.symm q)).trans e)
 ·exact (Heap.get?_update_other _ _ (Ne.symm m)).trans ((Heap.get?_update_other _ _ (Ne.symm m)).trans (Heap.get?_push_of_some _ e))
theorem wG (lo:(d==sysModules)=false) (hh:A.handled=none) (hm:RawD s.heap d es ep) (hn:es.size<=sizeLine)
  (hQ:∀ h' tk acc' c',(∀ b o,s.heap.get? b=some o->h'.get? b=some o)->h'.get? s.heap.objs.size=some {cls:=.type "list", dict:=none,data:=.seq acc' c',slots:=#[] }->ItemsOf (λi v=>∃ hi:i<es.size,v=es[i].key) acc' es.size->Q (.ref s.heap.objs.size) {s with heap:=h',toks:=tk }) :
  wpAny (model prog w) A (call (.type "list") [.ref d]) Q E s:=by
 refine callType_codes (Q₁:=λl g=>l = .ref s.heap.objs.size/\g = {s with heap:=s.heap.push {cls:=.type "list", data:=.seq #[] } }) PySem.F.called_list (PySem.F.typeCall_list_1 _) PySem.F.entry_list_init
  (code_list_new _ ⟨rfl,rfl⟩) λl g h=>?_
 refine ae (h) λr q=>?_
 clear h
 subst r
 subst q
 have p:(s.heap.push {cls:=.type "list", data:=.seq #[] }).get? s.heap.objs.size=some {cls:=.type "list", data:=.seq #[] }:=Heap.get?_push_size _ rfl
 have m:s.heap.objs.size≠d:=af (hm) λuu e uu=>ne_of_gt (lt_size e)
 refine ⟨(ah _ p rfl),PySem.F.args_list_init_2 _ _,?_⟩
 show wpAny _ _ (do let old <- Builtin.List.listItems (.ref s.heap.objs.size); Builtin.List.listUpdate (.ref s.heap.objs.size) (λuu=>#[]); letGo old.toList.reverse; Builtin.List.listExtendWith (.ref s.heap.objs.size) (.ref d) .none) _ _ _
 refine wpAny_bind ?_
 unfold Builtin.List.listItems
 refine wpAny_bind (wpAny_seqItems p rfl (wpAny_pure ?_))
 show wpAny _ _ (updateSeq s.heap.objs.size (λuu=>#[])>>=λuu=>letGo (#[]:Array Value).toList.reverse>>=λuu=>Builtin.List.listExtendWith (.ref s.heap.objs.size) (.ref d) .none) _ _ _
 refine wpAny_bind (wpAny_updateSeq p rfl ?_)
 have j:=Heap.get?_update_self (Obj.mapSeq (λuu=>(#[]:Array Value))) p rfl
 have k:∀ b o,b≠s.heap.objs.size->s.heap.get? b=some o->((s.heap.push {cls:=.type "list", data:=.seq #[] }).update s.heap.objs.size (Obj.mapSeq (λuu=>(#[]:Array Value)))).get? b=some o :=
  λb o u e=>(Heap.get?_update_other _ _ (Ne.symm u)).trans (Heap.get?_push_of_some _ e)
 refine wpAny_bind (wpAny_letGo ?_)
 refine rW (A:=A.in1) (S:=s.heap.objs.size) (s:={s with heap:=(s.heap.push {cls:=.type "list", data:=.seq #[] }).update s.heap.objs.size (Obj.mapSeq (λuu=>(#[]:Array Value))) }) lo hh (hm.at λo e=>k d o m.symm e) hn m j λh' tk acc' c' hk t n=>?_
 exact ⟨rfl,hQ h' tk acc' c' (λb o e=>hk b o (ne_of_lt (lt_size e)) (k b o (ne_of_lt (lt_size e)) e)) t n⟩
end
section
variable {A:Around}{E:Value->Shared->Prop}
theorem vS {rd:Value->List Int}{vs:List Value}{ks:List (List Int)}(hl:vs.length=ks.length) (hkey:∀ (i:Nat) (v:Value) (k:List Int),vs[i]? = some v->ks[i]? = some k->rd v=k):(vs.zip vs).map (λp=>(rd p.1,p.2))=ks.zip vs:=by
 apply List.ext_getElem?
 intro i
 rw[List.getElem?_map]
 by_cases hi:i<ks.length
 ·have h:ks[i]? = some ks[i]:=List.getElem?_eq_getElem hi
  have g:vs[i]? = some vs[i]:=List.getElem?_eq_getElem (FH hl hi)
  rw[rE g g,rE h g]
  simp only[map_some]
  rw[hkey i _ _ g h]
 ·rw[List.getElem?_eq_none (by rw[length_zip]; exact IG hl hi),List.getElem?_eq_none (by rw[length_zip]; exact I9 hi)]
  rfl
theorem pU {s0 s:Shared}{D:Addr}{vs:List Value}{ks:List (List Int)}{e1:Nat}{st:SortSt}{rd:Value->List Int}{P:PySem.Fin->Shared->Prop}(k0:Kp s0 s) (hD:s.heap.get? D=some (seqObj "list" #[] e1)) (f2:s0.heap.get? D=none)
  (hl:vs.length=ks.length) (h64:vs.length<64) (hkey:∀ (i:Nat) (v:Value) (k:List Int),vs[i]? = some v->ks[i]? = some k->rd v=k)
  (hp:(arrOf st).Perm (vs.toArray.zip vs.toArray)) (hu:(arrOf st).toList.Pairwise λx y=>ltL (rd y.1) (rd x.1)=false) (hf:failedOf st=none)
  (h:∀ s' out c,Kp s0 s'->s'.heap.get? D=some (seqObj "list" out c)->(∃ ps:List (List Int×Value),ps.Perm (ks.zip vs)/\out.toList=ps.map (·.2)/\ps.Pairwise λx y=>ltL y.1 x.1=false)->P (.done (.ret .none)) s') :
  wpAny (model prog w) A (do
   let sorted:=(arrOf st).map (·.2)
   let touched:=(<- seqEpoch D) != e1
   Builtin.List.listUpdate (.ref D) λuu=>sorted
   if let some e:=failedOf st then rule "list.sort.comparison-raised"; throw e
   if touched then rule "list.sort.modified"; raiseError "ValueError" "list modified during sort"
   ret .none) P E s:=by
 have n:=Heap.SameBut.update s.heap D (Obj.mapSeq λuu=>(arrOf st).map (·.2))
 obtain ⟨m,l⟩:∃ m,(s.heap.update D (Obj.mapSeq λuu=>(arrOf st).map (·.2))).get? D=some (seqObj "list" ((arrOf st).map (·.2)) m):=⟨_,get?_update_seq hD λuu=>(arrOf st).map (·.2)⟩
 have g:(arrOf st).size=vs.length:=by rw[hp.size_eq,size_zip]; simp
 have o:=Kp.wr k0 hD f2 n
 dsimp only
 refine wpAny_bind (seqEpoch_at hD rfl ?_)
 refine wpAny_bind (listUpdate_at hD rfl ?_ (zero_le _) (by rw[Array.size_map,g,sizeLine_eq]; exact F7 h64))
 rw[hf]
 simp only[bne_self_eq_false,false_eq_true,if_false]
 refine wpAny_pure (h _ _ m o l (aF ((arrOf st).toList.map λp=>(rd p.1,p.2)) ?_ ?_ ?_))
 ·have j:(arrOf st).toList.Perm (vs.zip vs):=by
   have:=Array.perm_iff_toList_perm.mp hp
   rwa [eH] at this
  exact (j.map _).trans (List.Perm.of_eq (vS hl hkey))
 ·rw[Array.toList_map,map_map]; rfl
 ·rw[pairwise_map]; exact hu
structure Keys (κ:SortKind) (Kd:Heap->Value->List Int->Prop) (ne:Prop):Prop where
 fn:∀ {h:Heap}{v:Value}{k k':List Int},Kd h v k->Kd h v k'->k=k'
 kind:∀ {A:Around}{E:Value->Shared->Prop}{s:Shared}{ks:List (List Int)}{vs:List Value}{Q:SortKind->Shared->Prop},vs.length=ks.length->1<=vs.length->(ne->[]∉ks)->(∀ (i:Nat) (v:Value) (k:List Int),vs[i]? = some v->ks[i]? = some k->Kd s.heap v k)->Q κ s->wpAny (model prog w) A (keyKind' vs.toArray) Q E s
 lt:∀ {A:Around}{E:Value->Shared->Prop}{s:Shared}{x y:Value}{k k':List Int}{Q:Bool->Shared->Prop},A.units<cLine->Kd s.heap x k->Kd s.heap y k'->Q (ltL k k') s->wpAny (model prog w) A (keyLt' κ x y) Q E s
section
variable {κ:SortKind}{Kd:Heap->Value->List Int->Prop}{ne:Prop}
open Classical in
noncomputable def dU (Kd:Heap->Value->List Int->Prop) (h:Heap) (v:Value):List Int:=if q:∃ k,Kd h v k then q.choose else []
theorem Keys.read (K:Keys κ Kd ne) (x:Kd h v k):dU Kd h v=k:=by
 unfold dU
 have q:∃ k,Kd h v k:=⟨k,x⟩
 rw[dif_pos q]
 exact K.fn q.choose_spec x
theorem Keys.ltOk (K:Keys κ Kd ne) (hu:A.units<cLine) (ks:List (List Int)):bB (model prog w) A E s (λp=>rkL ks (dU Kd s.heap p.1)) (λp=>∃ k∈ks,Kd s.heap p.1 k) κ:=by
 intro x y q Q l j hk h
 revert l; intro i
 refine af (i) λk o l=>?_
 clear i
 revert j; intro g
 refine af (g) λn m j=>?_
 clear g
 have e:(some (decide ((λp:Keyed=>rkL ks (dU Kd s.heap p.1)) x<(λp:Keyed=>rkL ks (dU Kd s.heap p.1)) y)))=some (ltL k n):=by
  rw[uN o m,<- K.read l,<- K.read j]
 rw[e] at h
 rw[lt'_eq]
 refine wpS_bind (wpS_get ?_)
 rw[hk]
 refine wpS_bind (wpS_lift (wpAny_attempt (K.lt hu l j ⟨rfl,?_⟩)))
 exact wpS_pure h
set_option maxHeartbeats 4000000 in
theorem mv (K:Keys κ Kd ne) {s0 s:Shared}{D:Addr}{vs:List Value}{ks:List (List Int)}{n:Nat}{P:PySem.Fin->Shared->Prop}(hun:A.units<cLine) (ho:s.heap.get? D=some (seqObj "list" vs.toArray n)) (f2:s0.heap.get? D=none) (k0:Kp s0 s)
  (hl:vs.length=ks.length) (h64:vs.length<64) (hne:ks.length<2\/(ne->[]∉ks)) (hkey:∀ H,KG (λb=>b≠D) s.heap H->∀ (i:Nat) (v:Value) (k:List Int),vs[i]? = some v->ks[i]? = some k->Kd H v k)
  (h:∀ s' out c,Kp s0 s'->s'.heap.get? D=some (seqObj "list" out c)->(∃ ps:List (List Int×Value),ps.Perm (ks.zip vs)/\out.toList=ps.map (·.2)/\ps.Pairwise λx y=>ltL y.1 x.1=false)->P (.done (.ret .none)) s') :
  wpAny (model prog w) A (Builtin.«list.sort» ⟨[.ref D],[]⟩) P E s:=by
 rw[list_sort_plain]
 have s1:=Heap.SameBut.update s.heap D (Obj.mapSeq λuu=>(#[]:Array Value))
 obtain ⟨e1,ho1⟩:∃ e1,(s.heap.update D (Obj.mapSeq λuu=>(#[]:Array Value))).get? D=some (seqObj "list" #[] e1):=⟨_,get?_update_seq ho λuu=>#[]⟩
 have k1:=Kp.wr k0 ho f2 s1
 refine wpAny_bind (listItems_at ho rfl ?_)
 refine wpAny_bind (listUpdate_at ho rfl ?_ (by rw[size_toArray,sizeLine_eq]; exact yu h64) (zero_le _))
 refine wpAny_bind (seqEpoch_at ho1 rfl ?_)
 refine wpAny_bind (wpAny_newTuple ?_ (by show vs.length<=_; rw[sizeLine_eq]; exact yu h64))
 refine wpAny_bind (wpAny_newList ?_ (zero_le _))
 refine wpAny_holding ?_
 have k3:Kp s0 {s with heap:=((s.heap.update D (Obj.mapSeq λuu=>(#[]:Array Value))).push (seqObj "tuple" vs.toArray 0)).push (seqObj "list" #[] 0) }:=(k1.trans (.push _ _ s.toks)).trans (.push _ _ s.toks)
 have r:(((s.heap.update D (Obj.mapSeq λuu=>(#[]:Array Value))).push (seqObj "tuple" vs.toArray 0)).push (seqObj "list" #[] 0)).get? D=some (seqObj "list" #[] e1):=Heap.get?_push_of_some _ (Heap.get?_push_of_some _ ho1)
 have kg:KG (λb=>b≠D) s.heap (((s.heap.update D (Obj.mapSeq λuu=>(#[]:Array Value))).push (seqObj "tuple" vs.toArray 0)).push (seqObj "list" #[] 0)) :=
  (KG.same s1 (λq=>q rfl) λo q=>by rw[ho] at q; injection q; exact Stay.not_list).trans (.of λb o _ e=>Heap.get?_push_of_some _ (Heap.get?_push_of_some _ e))
 generalize ((s.heap.update D (Obj.mapSeq λuu=>(#[]:Array Value))).push (seqObj "tuple" vs.toArray 0)).push (seqObj "list" #[] 0)=H at k3 r kg
 have g:=hkey H kg
 have hrd:∀ (i:Nat) (v:Value) (k:List Int),vs[i]? = some v->ks[i]? = some k->dU Kd H v=k:=λi v k a b=>K.read (g i v k a b)
 show wpAny (model prog w) A _ P E {s with heap:=H }
 by_cases h2:vs.toArray.size<2
 ·rw[if_pos h2,if_pos h2]
  refine wpAny_bind (wpAny_pure ?_)
  dsimp only
  rw[StateT.run_pure]
  refine wpAny_bind (wpAny_pure ?_)
  dsimp only
  refine pU (s:={s with heap:=H }) (st:=SortSt.mk' general' (vs.toArray.zip vs.toArray) #[] 7 none) k3 r f2 hl h64 hrd (Array.Perm.refl _) ?_ rfl h
  have hz:(vs.toArray.zip vs.toArray).toList.length<=1:=by
   rw[eH,length_zip]; rw[size_toArray] at h2; simp; exact DH h2
  show ((vs.toArray.zip vs.toArray).toList).Pairwise _
  exact xL hz
 ·rw[if_neg h2,if_neg h2]
  rw[size_toArray] at h2
  refine wpAny_bind (K.kind (s:={s with heap:=H }) (ks:=ks) hl (GB h2) (hne.resolve_left (Du hl h2)) g ?_)
  have z:(vs.toArray.zip vs.toArray).size=vs.length:=by rw[size_zip]; simp
  have u:∀ p∈vs.zip vs,∃ k∈ks,Kd H p.1 k:=λp t=>by
   refine ak (List.getElem?_of_mem t) λi hi=>?_
   refine ae (List.getElem?_zip_eq_some.mp hi) λq1 q2=>?_
   have hil:i<ks.length:=by rw[<- hl]; exact (List.getElem?_eq_some_iff.mp q1).1
   exact (ah (ks[i]) (List.getElem_mem hil) (g i _ _ q1 (List.getElem?_eq_getElem hil)))
  refine wpAny_bind (wpAny_mono (rZ (K.ltOk (E:=E) (s:={s with heap:=H }) hun ks) (st:=SortSt.mk' κ (vs.toArray.zip vs.toArray) #[] 7 none)
   (Q:=λuu j=>(arrOf j).Perm (vs.toArray.zip vs.toArray)/\failedOf j=none/\Up (λp=>rkL ks (dU Kd H p.1)) (arrOf j).toList) ⟨λp t=>?_,rfl⟩ (by show 2<=(vs.toArray.zip vs.toArray).size; rw[z]; exact Go h2) (by show (vs.toArray.zip vs.toArray).size<64; rw[z]; exact h64) rfl rfl λj a1 a2 a3=>⟨a1,a3,a2⟩) ?_ λuu uu e=>e)
  ·have l:p∈(vs.toArray.zip vs.toArray).toList:=Array.mem_def.mp t
   rw[eH] at l
   exact u p l
  ·rintro ⟨⟨⟩,j⟩ s'' ⟨rfl,t,hf,hu⟩
   dsimp only
   refine pU (s:={s with heap:=H }) k3 r f2 hl h64 hrd t ?_ hf h
   have hm:∀ p∈(arrOf j).toList,∃ k∈ks,Kd H p.1 k:=λp l=>by
    have:=(Array.perm_iff_toList_perm.mp t).mem_iff.mp l
    rw[eH] at this
    exact u p this
   refine List.Pairwise.imp_of_mem (λ{a b} ha hb hab=>?_) hu
   refine af (hm a ha) λk hk x=>?_
   refine af (hm b hb) λk' hk' y=>?_
   have m:rkL ks (dU Kd H a.1)<=rkL ks (dU Kd H b.1):=hab
   rw[K.read x,K.read y] at m ⊢
   rw[uN hk' hk]
   exact decide_eq_false (GG m)
end
theorem xU:Keys (tuples' true) KeyOf True where
 fn:=KeyOf.fn
 kind hl h1 hne hk h:=ul hl h1 (λi v k a b=>⟨hk i v k a b,λq=>hne trivial (q▸mem_of_getElem? b)⟩) h
 lt _ hx hy h:=ve true hx hy h
theorem RA.ofSub {h:Heap}{G:Addr->Prop}:∀ {vs:List Value}{ds:List PyData},vs.length=ds.length->(∀ (i:Nat) (v:Value) (d:PyData),vs[i]? = some v->ds[i]? = some d->∃ bs,R h v d bs/\∀ b∈bs,G b)->∃ cs,RA h vs ds cs/\∀ b∈cs,G b
 | [],[],_,_=>(ah ([]) .nil (λuu q=>nomatch q))
 | v::vs,d::ds,hl,hr=>by
  refine af (hr 0 v d rfl rfl) λbs r k=>?_
  refine af (RA.ofSub (vs:=vs) (ds:=ds) (by simpa using hl) λi u e m l=>hr (i+1) u e m l) λcs g j=>?_
  exact (ah _ (.cons r g) (λb q=>(mem_append.mp q).elim (k b) (j b)))
 | [],_::_,hl,_=>by cases hl
 | _::_,[],hl,_=>by cases hl
theorem RA.eachSub (r:RA h vs ds as):∀ (i:Nat) (v:Value) (d:PyData),vs[i]? = some v->ds[i]? = some d->∃ bs,R h v d bs/\∀ b∈bs,b∈as :=
 RA.ind (N:=λvs ds as=>∀ (i:Nat) (v:Value) (d:PyData),vs[i]? = some v->ds[i]? = some d->∃ bs,R h v d bs/\∀ b∈bs,b∈as) (λi v d g uu=>by simp at g) (λ{v vs d ds as bs} r o l i u e g j=>by
  cases i with
  | zero=>exact (ah as (Option.some.inj g▸Option.some.inj j▸r) (λb q=>mem_append_left _ q))
  | succ i=>
   refine af (l i u e g j) λn k m=>?_
   exact (ah n k (λb q=>mem_append_right _ (m b q)))) r
theorem RA.ofEach:∀ {vs:List Value}{ds:List PyData},vs.length=ds.length->(∀ (i:Nat) (v:Value) (d:PyData),vs[i]? = some v->ds[i]? = some d->R h v d [])->RA h vs ds []
 | [],[],_,_=>.nil
 | v::vs,d::ds,hl,hr=>RA.cons (as:=[]) (bs:=[]) (hr 0 v d rfl rfl) (RA.ofEach (by simpa using hl) λi u e j g=>hr (i+1) u e j g)
 | [],_::_,hl,_=>by cases hl
 | _::_,[],hl,_=>by cases hl
theorem xB (h:d8 x=some k):x=aR k:=by
 cases x with
 | tuple g=>
  have l:∀ {g:List PyData}{k:List Int},aY g=some k->g=k.map .int:=λ{g}=>by
   induction g with
   | nil=>intro k h; injection h; rfl
   | cons y g ih=>
    intro k h
    cases y with
    | int i=>
     simp only[aY,map_eq_some_iff] at h
     refine af (h) λo n j=>?_
     clear h
     subst j
     rw[ih n]; rfl
    | _=>exact nN h
  show PyData.tuple g = .tuple (k.map .int)
  rw[l h]
 | _=>exact nN h
theorem lN:∀ {xs:List PyData}{ks:List (List Int)},dW xs=some ks->xs=ks.map aR
 | [],ks,h=>by injection h; rfl
 | x::xs,ks,h=>by
  simp only[dW] at h
  refine bk h λk hk h=>?_
  refine bG h λj l g=>?_
  (clear h; subst g)
  rw[map_cons,<- lN l,xB hk]
theorem Cy (h:k.length<=2^22):sz (aR k)=true:=sz_tuple.mpr ⟨by rw[length_map]; exact h,iz k⟩
theorem uS (hh:A.handled=none) (ra:RV s.heap va (.dicT ks) as) (hk:ks.length<=lim) (hQ:∀ v s',EP P s (.d (.list (ks.map aR)),fresh (ks.map aR)) v s'->Q v s'):wpAny (model prog w) A (call (bval (b1n .list)) [va]) Q Er s:=by
 refine rX (ra) λa xs LB _ lo l z hks htu=>?_
 clear ra
 subst LB
 refine cK (l) λo es ep e t hd he _ _=>?_
 clear l
 subst z
 have u:RawD s.heap a es ep:=(aF o e t.1 hd)
 have p:es.size=xs.length:=size_of_entries he
 rw[length_map] at hk
 unfold lim at hk
 refine wG lo hh u (by rw[p,sizeLine_eq]; exact FD hk) λh' tk r c' q hS g=>hQ _ _ ?_
 refine EP.aList (vs:=r.toList) (n:=c') (as:=[]) (aC h' tk rfl (.of q)) (Heap.get?_none_of_le (le_refl _)) (by simpa using hS) (RA.ofEach ?_ λi v d hi j=>?_) (by rw[length_map,length_map]; exact yl hk) (λx t=>?_) λuu h=>nomatch h
 ·rw[length_toList,length_map,length_map,g.1,p]
 ·obtain ⟨hi',rfl⟩:=g.2 i v (by rw[<- Array.getElem?_toList]; exact hi)
  have ee:=entry_at he i
  rw[Array.getElem?_eq_getElem hi'] at ee
  refine bG ee.symm λx m hxe=>?_
  have ek:es[i].key = .ref x.2.1:=by rw[<- hxe]; rfl
  rw[List.getElem?_map,List.getElem?_map,m] at j
  injection j
  rw[ek]
  exact (htu x (mem_of_getElem? m)).keep q
 ·refine aK t λk hk' y=>?_
  (clear t; subst y)
  exact Cy (hks k hk')
theorem xv (ks:List (List Int)):(bM ks).Pairwise λa b=>ltL b a=false:=by
 have:=List.pairwise_mergeSort (le:=λa b:List Int=>!ltL b a) (λa b c g i=>by
  simp only[Bool.not_eq_true'] at g i ⊢
  cases q:ltL c a with
  | false=>rfl
  | true=>
   cases q2:ltL b c with
   | true=>rw[fV q2 q] at g; exact nT g
   | false=>rw[jM i q2,g] at q; cases q) (λa b=>by
  cases q:ltL b a with
  | false=>rfl
  | true=>
   cases q2:ltL a b with
   | false=>rfl
   | true=>have:=fV q q2; rw[mf] at this; cases this) ks
 exact this.imp λh=>by simpa using h
theorem sX (K:Keys κ Kd ne) (hkd:∀ {h:Heap}{v:Value}{k:List Int}{bs:List Addr},R h v (g k) bs->Kd h v k) (hu:A.units+200<cLine) (ra:R s.heap va (.list (ks.map g)) as) (ha:∀ b∈as,P b) (hz:sz (.list (ks.map g))=true) (h64:ks.length<64) (hne:ks.length<2\/(ne->[]∉ks)) (hQ:∀ v s',EP P s (.d (.list ((bM ks).map g)),fresh ((bM ks).map g)) v s'->Q v s') :
  wpAny (model prog w) A (call (.builtin "sorted") [va]) Q Er s:=by
 refine ra.isList_k λa vs n cs LI ea z LD=>?_
 (clear ra; subst LI)
 subst LD
 have hl:vs.length=ks.length:=by have:=z.length; rw[length_map] at this; exact Jb this
 have y:∀ (i:Nat) (v:Value) (k:List Int),vs[i]? = some v->ks[i]? = some k->∃ bs,R s.heap v (g k) bs/\∀ b∈bs,b∈cs:=λi v k p t=>z.eachSub i v (g k) p (by rw[List.getElem?_map,t]; rfl)
 have old:∀ b∈cs,∃ o,s.heap.get? b=some o:=λb u=>ba (z.there b u) λuu uu e=>⟨_,e⟩
 refine Calls.call_function_entry kind_sorted plain_sorted entry_sorted (args_sorted1 _) ?_
 unfold Builtin.«sorted»
 refine wpAny_bind (m:=checkCount "sorted" 1 1 _) (wpAny_pure ?_)
 refine wpAny_bind (collect_list (isL ea) ?_ (by rw[sizeLine_eq]; exact yg h64 hl))
 refine wpAny_bind (wpAny_newList ?_ (by rw[sizeLine_eq]; exact yg h64 hl))
 have hsz:((s.heap.push (seqObj "list" #[] 0)).update s.heap.objs.size (Obj.mapSeq (· ++ vs.toArray))).objs.size=s.heap.objs.size+1:=by
  rw[Heap.size_update,size_push']
 have hoL:(((s.heap.push (seqObj "list" #[] 0)).update s.heap.objs.size (Obj.mapSeq (· ++ vs.toArray))).push (seqObj "list" vs.toArray 0)).get? (s.heap.objs.size+1)=some (seqObj "list" vs.toArray 0):=by
  rw[<- hsz]; exact Heap.get?_push_size _ rfl
 have keep:∀ b o,s.heap.get? b=some o->(((s.heap.push (seqObj "list" #[] 0)).update s.heap.objs.size (Obj.mapSeq (· ++ vs.toArray))).push (seqObj "list" vs.toArray 0)).get? b=some o:=λb o q=>by
  have hlt:b<s.heap.objs.size:=lt_size q
  rw[Heap.get?_push_ne _ _ _ (by rw[hsz]; exact ne_of_lt (lt_succ_of_lt hlt)),Heap.get?_update_ne _ _ _ _ (ne_of_lt hlt),Heap.get?_push_ne _ _ _ (ne_of_lt hlt)]
  exact q
 have l:s.heap.get? (s.heap.objs.size+1)=none:=Heap.get?_none_of_le (le_succ _)
 show wpAny _ _ _ _ _ {s with heap:=((s.heap.push (seqObj "list" #[] 0)).update s.heap.objs.size (Obj.mapSeq (· ++ vs.toArray))).push (seqObj "list" vs.toArray 0) }
 rw[hsz]
 refine wpAny_bind (wpAny_holding (wpAny_call_entry slot_list_sort (ah _ hoL rfl) entry_list_sort ?body (args_list_sort _)))
 case body=>
  refine mv K (s0:=s) (s:={s with heap:=((s.heap.push (seqObj "list" #[] 0)).update s.heap.objs.size (Obj.mapSeq (· ++ vs.toArray))).push (seqObj "list" vs.toArray 0) }) (by show A.units+1+1<cLine; exact Hj hu) hoL l (.of keep) hl (yE h64 hl) hne (λH kg i v k p t=>?_) λs' out c kp hD hps=>(ah _ rfl (wpAny_pure (ah _ rfl ?_)))
  ·refine af (y i v k p t) λbs r u=>?_
   refine hkd ((r.keep keep).onG kg λb q e=>?_)
   refine ak (old b (u b q)) λo eo=>?_
   rw[e,l] at eo; exact nN eo
  refine aq (hps) λps p1 p2 p3=>?_
  clear hps
  have q1:(ps.map (·.1)).Perm ks:=by
   have:=p1.map (·.1)
   rwa [List.map_fst_zip (GJ hl)] at this
  have q2:ps.map (·.1)=bM ks:=fS (r:=λa b=>ltL b a=false) (λa b p t=>jM t p) (q1.trans (mergeSort_perm ks _).symm) (pairwise_map.mpr p3) (xv ks)
  have hlen:ps.length=ks.length:=by rw[<- q1.length_eq,length_map]
  obtain ⟨cs',rs,hcs⟩:=RA.ofSub (h:=s'.heap) (G:=λb=>b∈cs) (vs:=out.toList) (ds:=(bM ks).map g) (by rw[p2,length_map,length_map,<- q2,length_map]) λi v d p t=>by
   rw[<- q2,map_map,List.getElem?_map] at t
   rw[p2,List.getElem?_map] at p
   cases hp:ps[i]? with
   | none=>rw[hp] at p; exact nN p
   | some q=>
    rw[hp] at p t
    injection p; injection t
    refine ak (List.getElem?_of_mem (p1.mem_iff.mp (mem_of_getElem? hp))) λj hj=>?_
    refine ae (List.getElem?_zip_eq_some.mp hj) λj1 j2=>?_
    refine af (y j _ _ j2 j1) λbs r u=>?_
    exact (ah bs (r.k kp.k) u)
  refine hQ _ _ (EP.aList (vs:=out.toList) (n:=c) (as:=cs') kp l (by simpa [seqObj] using hD) rs ?_ (λx hx=>?_) λb u=>⟨ha b (.tail _ (hcs b u)),λe=>?_⟩)
  ·rw[length_map,<- q2,length_map,hlen]; exact yZ h64
  ·refine aK hx λk hk' Ly=>?_
   (clear hx; subst Ly)
   refine (sz_list.mp hz).2 _ (mem_map.mpr (ah k ?_ rfl))
   exact (mergeSort_perm ks _).mem_iff.mp hk'
  ·refine ak (old b (hcs b u)) λo eo=>?_
   rw[e,l] at eo; exact nN eo
theorem sQ (hu:A.units+200<cLine) (ra:R s.heap va (.list xs) as) (ha:∀ b∈as,P b) (hz:sz (.list xs)=true) (hk:dW xs=some ks) (h64:xs.length<64) (hne:ks.length<2\/[]∉ks) (hQ:∀ v s',EP P s (.d (.list ((bM ks).map aR)),fresh ((bM ks).map aR)) v s'->Q v s') :
  wpAny (model prog w) A (call (.builtin "sorted") [va]) Q Er s:=by
 cases lN hk
 rw[length_map] at h64
 exact sX xU (λr=>KeyOf.ofR r) hu ra ha hz h64 (hne.imp id λh _=>h) hQ
end
section
variable {A:Around}{E:Value->Shared->Prop}
theorem qT (h:IntsAre vs ns):(∀ i∈ns,0<=i)->∀ p∈vs.zip vs,∃ i t,p.1 = .int i t/\0<=i:=by
 induction h with
 | nil=>exact λuu p hp=>nomatch hp
 | cons n t r ih=>
  intro g p hp
  rcases mem_cons.mp (show p∈(Value.int n t,Value.int n t)::_ from hp) with rfl | hp
  ·exact (aC n t rfl (g n (.head _)))
  ·exact ih (λi j=>g i (.tail _ j)) p hp
theorem lM:∀ (vs:List Value),(∀ v∈vs,∃ i t,v = .int i t)->IntsAre vs (vs.map js)
 | [],_=>.nil
 | v::vs,h=>by
  obtain ⟨i,t,rfl⟩:=h v (.head _)
  exact .cons i t (lM vs λu g=>h u (.tail _ g))
theorem w9 {vs:List Value}{p:Value×Value}(h:p∈vs.zip vs):p.1=p.2/\p.2∈vs:=by
 induction vs with
 | nil=>exact nomatch h
 | cons v vs ih=>
  rcases mem_cons.mp (show p∈(v,v)::_ from h) with rfl | h
  ·exact ⟨rfl,.head _⟩
  ·exact ⟨(ih h).1,.tail _ (ih h).2⟩
theorem qE {ps:List (Value×Value)}(hI:IntsAre vs ns) (h0:∀ i∈ns,0<=i) (hp:ps.Perm (vs.zip vs)) (hu:ps.Pairwise λx y=>l9 x.1<=l9 y.1):IntsAre (ps.map (·.2)) (ns.mergeSort λa b=>decide (a<=b)):=by
 have n:∀ p∈ps,∃ i t,p.1 = .int i t/\0<=i/\p.2 = .int i t:=λp l=>by
  have g:=hp.mem_iff.mp l
  refine av (qT hI h0 p g) λi t e hi=>?_
  exact ⟨i,t,e,hi,by rw[<- (w9 g).1]; exact e⟩
 have hA:=lM (ps.map (·.2)) λv hv=>aK hv λp l e=>by
  obtain ⟨i,t,_,_,o⟩:=n p l
  exact ⟨i,t,e▸o⟩
 have z:((vs.zip vs).map (·.2))=vs:=List.map_snd_zip (le_refl _)
 have pr:((ps.map (·.2)).map js).Perm ns:=by
  have:=(hp.map (·.2)).map js
  rw[z,<- IntsAre.read hI] at this
  exact this
 have r:((ps.map (·.2)).map js).Pairwise (·<=·):=by
  rw[map_map,pairwise_map]
  refine List.Pairwise.imp_of_mem (λ{p q} m k h=>?_) hu
  obtain ⟨i,t,e1,i0,o⟩:=n p m
  obtain ⟨j,u,e3,j0,e4⟩:=n q k
  rw[e1,e3] at h
  show js p.2<=js q.2
  rw[o,e4]
  replace h:i.toNat<=j.toNat:=h
  show i<=j
  exact DL j0 h
 have eq:(ps.map (·.2)).map js=ns.mergeSort λa b=>decide (a<=b):=by
  exact (pr.trans (mergeSort_perm ns _).symm).eq_of_pairwise (λa b _ _ g h2=>Int.le_antisymm g h2) r (hW ns)
 rw[<- eq]; exact hA
set_option maxHeartbeats 4000000 in
theorem ms (ho:s.heap.get? D=some (seqObj "list" vs.toArray n)) (f2:s0.heap.get? D=none) (k0:Kp s0 s)
  (hI:IntsAre vs ns) (h2:2<=vs.length) (h128:vs.length<128) (h0:∀ i∈ns,0<=i)
  (h:∀ s' c vs',Kp s0 s'->IntsAre vs' (ns.mergeSort λa b=>decide (a<=b))->s'.heap.get? D=some (seqObj "list" vs'.toArray c)->P (.done (.ret .none)) s') :
  wpAny (model prog w) A (Builtin.«list.sort» ⟨[.ref D],[]⟩) P E s:=by
 rw[list_sort_plain]
 have s1:=Heap.SameBut.update s.heap D (Obj.mapSeq λuu=>(#[]:Array Value))
 obtain ⟨e1,q⟩:∃ e1,(s.heap.update D (Obj.mapSeq λuu=>(#[]:Array Value))).get? D=some (seqObj "list" #[] e1):=⟨_,get?_update_seq ho λuu=>#[]⟩
 have k1:=Kp.wr k0 ho f2 s1
 refine wpAny_bind (listItems_at ho rfl ?_)
 refine wpAny_bind (listUpdate_at ho rfl ?_ (by rw[size_toArray,sizeLine_eq]; exact zj h128) (zero_le _))
 refine wpAny_bind (seqEpoch_at q rfl ?_)
 refine wpAny_bind (wpAny_newTuple ?_ (by show vs.length<=_; rw[sizeLine_eq]; exact zj h128))
 refine wpAny_bind (wpAny_newList ?_ (zero_le _))
 refine wpAny_holding ?_
 have k3:Kp s0 {s with heap:=((s.heap.update D (Obj.mapSeq λuu=>(#[]:Array Value))).push (seqObj "tuple" vs.toArray 0)).push (seqObj "list" #[] 0) }:=(k1.trans (.push _ _ s.toks)).trans (.push _ _ s.toks)
 have j:(((s.heap.update D (Obj.mapSeq λuu=>(#[]:Array Value))).push (seqObj "tuple" vs.toArray 0)).push (seqObj "list" #[] 0)).get? D=some (seqObj "list" #[] e1):=Heap.get?_push_of_some _ (Heap.get?_push_of_some _ q)
 generalize ((s.heap.update D (Obj.mapSeq λuu=>(#[]:Array Value))).push (seqObj "tuple" vs.toArray 0)).push (seqObj "list" #[] 0)=H at k3 j
 show wpAny (model prog w) A _ P E {s with heap:=H }
 have r:¬ vs.toArray.size<2:=by rw[size_toArray]; exact Fo h2
 rw[if_neg r,if_neg r]
 have y:keyKind' vs.toArray=pure oneType':=by
  rcases vs with _ | ⟨a,_ | ⟨b,vs⟩⟩
  ·simp at h2
  ·simp at h2
  ·exact keyKind_ints hI
 rw[y]
 refine wpAny_bind (wpAny_pure ?_)
 have l:(vs.toArray.zip vs.toArray).size=vs.length:=by rw[size_zip]; simp
 refine wpAny_bind (wpAny_mono (o9 (uM (A:=A) (E:=E) (s:={s with heap:=H })) (st:=SortSt.mk' oneType' (vs.toArray.zip vs.toArray) #[] 7 none)
   (Q:=λuu g=>(arrOf g).Perm (vs.toArray.zip vs.toArray)/\Up (λp=>l9 p.1) (arrOf g).toList/\failedOf g=none) ⟨λp hp=>?_,rfl⟩ (by show 2<=(vs.toArray.zip vs.toArray).size; rw[l]; exact HA h2) (by show (vs.toArray.zip vs.toArray).size<128; rw[l]; exact h128) rfl rfl λg a1 a2 a3=>⟨a1,a2,a3⟩) ?_ λuu uu e=>e)
 ·have o:p∈(vs.toArray.zip vs.toArray).toList:=Array.mem_def.mp hp
  rw[eH] at o
  exact qT hI h0 p o
 ·rintro ⟨⟨⟩,g⟩ s'' ⟨rfl,ha,hu,hf⟩
  dsimp only
  have m:(arrOf g).toList.Perm (vs.zip vs):=by
   have:=Array.perm_iff_toList_perm.mp ha
   rwa [eH] at this
  have u:=qE hI h0 m hu
  have t:((arrOf g).toList.map (·.2)).length=vs.length:=by rw[length_map,m.length_eq,length_zip,Nat.min_self]
  obtain ⟨k,eus,v⟩:∃ k:List Value,(arrOf g).map (·.2)=k.toArray/\k=(arrOf g).toList.map (·.2):=⟨_,by apply toList_inj.mp; rw[Array.toList_map],rfl⟩
  rw[<- v] at u t
  have s2:=Heap.SameBut.update H D (Obj.mapSeq λuu=>k.toArray)
  obtain ⟨c2,z⟩:∃ c2,(H.update D (Obj.mapSeq λuu=>k.toArray)).get? D=some (seqObj "list" k.toArray c2):=⟨_,get?_update_seq j λuu=>k.toArray⟩
  have k4:=Kp.wr (s:={s with heap:=H }) k3 j f2 s2
  refine wpAny_bind (seqEpoch_at (s:={s with heap:=H }) j rfl ?_)
  rw[show (arrOf g).map (λx=>x.2)=k.toArray from eus]
  refine wpAny_bind (listUpdate_at (s:={s with heap:=H }) j rfl ?_ (zero_le _) (by rw[size_toArray,t,sizeLine_eq]; exact FQ h128))
  rw[show failedOf g=none from hf]
  simp only[bne_self_eq_false,false_eq_true,if_false]
  exact wpAny_pure (h _ c2 k k4 u z)
theorem sE (ra:R s.heap va (.list xs) as) (hi:aY xs=some ns) (h64:¬ xs.length<64) (h128:xs.length<128) (h0:∀ i∈ns,0<=i) (hQ:∀ v s',EP P s (.d (aa (ns.mergeSort λa b=>decide (a<=b))),.deep) v s'->Q v s') :
  wpAny (model prog w) A (call (.builtin "sorted") [va]) Q Er s:=by
 refine ra.isList_k λa vs n cs y ea k x=>?_
 (clear ra; subst y)
 subst x
 have r:=k.length
 refine aG (k.ints hi) λhI u t=>?_
 subst u
 subst t
 rw[length_map] at r h64 h128
 refine Calls.call_function_entry kind_sorted plain_sorted entry_sorted (args_sorted1 _) ?_
 unfold Builtin.«sorted»
 refine wpAny_bind (m:=checkCount "sorted" 1 1 _) (wpAny_pure ?_)
 refine wpAny_bind (collect_list (isL ea) ?_ (by rw[sizeLine_eq]; exact yF h128 r))
 refine wpAny_bind (wpAny_newList ?_ (by rw[sizeLine_eq]; exact yF h128 r))
 have g:((s.heap.push (seqObj "list" #[] 0)).update s.heap.objs.size (Obj.mapSeq (· ++ vs.toArray))).objs.size=s.heap.objs.size+1:=by
  rw[Heap.size_update,size_push']
 have p:(((s.heap.push (seqObj "list" #[] 0)).update s.heap.objs.size (Obj.mapSeq (· ++ vs.toArray))).push (seqObj "list" vs.toArray 0)).get? (s.heap.objs.size+1)=some (seqObj "list" vs.toArray 0):=by
  rw[<- g]; exact Heap.get?_push_size _ rfl
 have l:∀ b o,s.heap.get? b=some o->(((s.heap.push (seqObj "list" #[] 0)).update s.heap.objs.size (Obj.mapSeq (· ++ vs.toArray))).push (seqObj "list" vs.toArray 0)).get? b=some o:=λb o q=>by
  have j:b<s.heap.objs.size:=lt_size q
  rw[Heap.get?_push_ne _ _ _ (by rw[g]; exact ne_of_lt (lt_succ_of_lt j)),Heap.get?_update_ne _ _ _ _ (ne_of_lt j),Heap.get?_push_ne _ _ _ (ne_of_lt j)]
  exact q
 show wpAny _ _ _ _ _ {s with heap:=((s.heap.push (seqObj "list" #[] 0)).update s.heap.objs.size (Obj.mapSeq (· ++ vs.toArray))).push (seqObj "list" vs.toArray 0) }
 rw[g]
 refine wpAny_bind (wpAny_holding (wpAny_call_entry slot_list_sort (ah _ p rfl) entry_list_sort ?body (args_list_sort _)))
 case body=>
  refine ms (s0:=s) (s:={s with heap:=((s.heap.push (seqObj "list" #[] 0)).update s.heap.objs.size (Obj.mapSeq (· ++ vs.toArray))).push (seqObj "list" vs.toArray 0) }) p (Heap.get?_none_of_le (le_succ _)) (.of l) hI (IE h64 r) (Dm h128 r) h0 λs' c us kp z hD=>(ah _ rfl (wpAny_pure (ah _ rfl (hQ _ _ ?_))))
  have ep:EP P s (.d (.list ((ns.mergeSort λa b=>decide (a<=b)).map .int)),fresh ((ns.mergeSort λa b=>decide (a<=b)).map .int)) (.ref (s.heap.objs.size+1)) s' :=
   EP.aList (vs:=us) (n:=c) (as:=[]) kp (Heap.get?_none_of_le (le_succ _)) (by simpa [seqObj] using hD) (RA.of_ints z) (by rw[length_map,(mergeSort_perm ns _).length_eq]; exact Ey h128) (iz _) λuu h=>(nomatch h)
  have ef:fresh ((ns.mergeSort λa b=>decide (a<=b)).map .int) = .deep:=by
   unfold fresh
   rw[if_pos]
   rw[all_map,all_eq_true]
   intro _ _; rfl
  rw[ef] at ep
  exact ep
end
section
variable (fns:Fns) (k:Nat) (C:Calls) (XP:String->Shared->Value->Shared->Prop)
noncomputable def cI:Prop:=∀ f g,C f=some g->1<=k/\(f = "law" -> fns.lam=true)/\(f∈aO->f∈SF.excN)/\(f∉aO->∃ a,adr fns f=some a/\∀ {A:Around}{P:Addr->Prop}{s:Shared}{Q:Value->Shared->Prop}{Er:Value->Shared->Prop}{xs:List V}{vals:List Value}{as:List Addr},
 Room fns.hand k A->(∃ l,A.frames=some l/\FrOk s.heap l)->GE fns s.heap->RVs s.heap xs vals as->(∀ a∈as,P a)->g xs≠.bad->(∀ r,g xs = .ok r->∀ v s',EP P s r v s'->Q v s')->(∀ c,g xs = .exc c->∀ x s',XP c s x s'->Er x s') ->
 wpAny (model prog w) A (call (.ref a) vals []) Q Er s)
end
section
theorem nU (hs:lT a=true) (ok:okE ns a v=true):attributeBase v n env (eval v env)=eval v env:=by
 cases a with
 | name x=>
  refine Or.elim (uQ ok) (λi=>?_) (λq=>?_)
  ·refine av (i) λt r k p=>?_
   clear i
   (clear ok; subst k)
   rfl
  ·cases q
 | call f es=>
  refine Or.elim (uo ok) (λg=>?_) (λq=>?_)
  ·refine cq (g) λo m u l j h=>?_
   clear g
   (clear ok; subst j)
   simp only[and_eq_true,Bool.not_eq_true'] at h
   cases u with
   | nil=>have:=h.1.1.2; exact nT this
   | cons x u=>rfl
  ·cases q
 | _=>exact nF hs
theorem n8 (r:RV h v (.rule c d n) as):∃ x D vf bs t u mA,v = .ref x/\as=x::D::bs/\h.Inst x SF.rule mA/\mA "count" = some (.int c t)/\mA "full" = some vf/\mA "size" = some (.int n u)/\(∀ m∈methNames,mA (Str.ofString m)=none)/\R h vf d bs/\sz d=true:=by
 refine iW (r) λx D o vf bs t u mA h1 h2 h3 h4 h5 z y q p l k j i g=>?_
 clear r
 exact ⟨x,D,vf,bs,t,u,mA,h1,h2,(bw o h3 h4 h5 (.inr (aF D z y q))),p,l,k,j,i,g⟩
theorem lj:typeLookup (.type "object") "count" = pure none:=by rw[typeLookup_type,builtinLookup_eq_fast]; kernel_rfl
theorem nA:typeLookup (.type "object") "full" = pure none:=by rw[typeLookup_type,builtinLookup_eq_fast]; kernel_rfl
theorem nL:typeLookup (.type "object") "size" = pure none:=by rw[typeLookup_type,builtinLookup_eq_fast]; kernel_rfl
theorem vE (hm:m∈methNames):typeLookup (.type "object") (Str.ofString m)=pure none:=by
 simp only[methNames,mem_cons,not_mem_nil,or_false] at hm
 rcases hm with rfl | rfl | rfl | rfl | rfl<;>(rw[typeLookup_type,builtinLookup_eq_fast]; kernel_rfl)
theorem uG (ge:GE fns s.heap) (hi:fns.init.isSome=true) (he:jH x n = .ok r) (ra:RV s.heap va x as) (ha:∀ a∈as,P a)
  (hQ:∀ v s',EP P s r v s'->Q v s'):wpAny (model prog w) A (getAttr va (Str.ofString n) expr) Q Er s:=by
 replace he:=aU he
 revert he; intro j
 refine af (j) λz hq he=>?_
 clear j
 obtain ⟨c,d,sz'⟩:=z
 cases lp hq
 dsimp only at he ra
 refine vM (n8 ra) λy D vf bs t u mA p o I f1 f2 f3 f4 rd zd=>?_
 subst p
 subst o
 refine aA (ge.cls (.inr hi)) λN mN m i _=>?_
 obtain ⟨k,hn⟩:=m
 refine ew (k) λnm q bs' sn sub col dd k0 k1 k2 k3 k5 hC=>?_
 clear k
 obtain ⟨hh,g,dr,tk,os⟩:=s
 have ga:=i "__getattribute__" (by simp)
 by_cases e1:n = "count"
 ·subst e1
  rw[if_pos rfl] at he; injection he
  exact load_attr hC hn ga (i "count" (by simp)) lj I f1 rfl (hQ _ _ (.int (.toks _ _)))
 rw[if_neg e1] at he
 by_cases e2:n = "full"
 ·(clear e1; subst e2)
  rw[if_pos rfl] at he; injection he
  have hf:handedOut vf=pure vf:=by cases rd<;>rfl
  refine load_attr hC hn ga (i "full" (by simp)) nA I f2 hf (hQ _ _ ?_)
  exact .after (.toks ⟨hh,g,dr,tk,os⟩ _) (tx (s:=⟨hh,g,dr,tk+1,os⟩) (x:=.d d) ⟨rd,zd⟩ λa h=>ha a (.tail _ (.tail _ h)))
 rw[if_neg e2] at he
 by_cases e3:n = "size"
 ·(clear e1 e2; subst e3)
  rw[if_pos rfl] at he; injection he
  exact load_attr hC hn ga (i "size" (by simp)) nL I f3 rfl (hQ _ _ (.int (.toks _ _)))
 rw[if_neg e3] at he
 exact nB he
theorem xh (hC:cI fns k C XP) (Sa:SimE fns k C XP a):SimE fns k C XP (.attr a n):=by
 intro ex A env σ P s Q Er ok X o p t
 replace ok:=BX ok
 revert ok; refine λi=>Or.elim i (λj=>?_) (λok=>?_)
 ·clear i
  refine aZ (j) λy u l hn hs oa=>?_
  clear j
  subst l
  simp only[kN] at o p t
  cases hR:C "Rule" with
  | none=>rw[hR] at o; exact absurd rfl o
  | some g=>
  have hi:fns.init.isSome=true:=by
   refine af ((hC "Rule" g hR).2.2.2 (by decide)) λfa m _=>?_
   unfold adr at m
   rw[if_pos rfl] at m
   refine bG m λuu q _=>?_
   rw[q]; rfl
  rw[hR] at o p t
  simp only[au] at o p t
  refine aP o λn1 n2=>?_
  rw[arm_eval_Attribute,nU hs oa]
  refine wpAny_bind (Sa oa X n1 (λx hx va z Ea=>?_) λc hc=>t c (by rw[hc]; rfl))
  obtain ⟨ka,as,ra,ha,_⟩:=Ea
  have:∃ r,jH x.1 n = .ok r:=by
   cases h:jH x.1 n with
   | ok r=>exact ⟨r,rfl⟩
   | exc c=>exact absurd h (wt c)
   | bad=>exact absurd h (n2 x hx)
  refine ak (this) λr hr=>?_
  clear this
  refine wpAny_bind (wpAny_standAt (wpAny_bind (wpAny_holding (uG (P:=λa=>P a\/s.heap.get? a=none) (X.ge.k ka.k) hi hr ra ha λv s' E=>?_))))
  exact wpAny_bind (wpAny_letTemporaryGo (wpAny_pure (p r (by rw[hx]; exact hr) v s' (E.shift ka))))
 ·cases ok
theorem kL:∀ {es:Es}{xs:List Expr},dk ns es xs=true->∀ pos:Pos,(backTo pos (starEach xs env)).any (·.1)=false/\(backTo pos (starEach xs env)).all (λx=>!x.1)=true
 | .nil,xs,h,pos=>by
  refine Or.elim (tG h) (λi=>?_) (λq=>?_)
  ·refine ae (i) λk l=>?_
   clear i
   (clear h; subst k)
   exact ⟨rfl,rfl⟩
  ·cases q
 | .cons e es,xs,h,pos=>by
  refine Or.elim (oP h) (λg=>?_) (λq=>?_)
  ·refine av (g) λx m j h=>?_
   clear g
   subst j
   refine cb h λo n=>?_
   refine ae (kL (env:=env) n pos) λa b=>?_
   rw[aH o]
   constructor
   ·show (false||(backTo pos (starEach m env)).any (·.1))=false
    rw[a]; rfl
   ·show (!false&&(backTo pos (starEach m env)).all (λx=>!x.1))=true
    rw[b]; rfl
  ·cases q
theorem od {A:Around}{env:Env}{pos:Pos}{e:Expr}{rest:List Expr}{Q:Value->Shared->Prop}{E:Value->Shared->Prop}{s:Shared}{Cl N:Addr}{mN:Str->Option Value}(he:starEach (e::rest) env=(false,eval e env)::starEach rest env) (hp:(backTo pos (starEach rest env)).any (·.1)=false)
  (h:wpAny (model prog w) A (spliced (backTo pos (starEach (e::rest) env))) (λvs s₁=>ClsAt s₁.heap Cl N mN/\wpAny (model prog w) A (call (.ref Cl) vs) Q E s₁) E s) :
  wpAny (model prog w) A (callWith pos (.ref Cl) [] (backTo pos (starEach (e::rest) env)) []) Q E s:=by
 rw[he] at h ⊢
 have m:((backTo pos ((false,eval e env)::starEach rest env)).any (λx=>x.fst)||([]:List (Option Str×Sem Value)).any λx=>x.fst.isNone)=false:=by
  show ((false||(backTo pos (starEach rest env)).any (·.1))||false)=false
  rw[hp]; rfl
 unfold callWith
 refine wpAny_bind (wpAny_holding (Calls.evalArgs_plain (wpAny_mono h (λvs s₁ i=>?_) λuu uu x=>x)))
 obtain ⟨v,g,d,t,p⟩:=s₁
 revert i; intro j
 refine ae (j) λl i=>?_
 clear j
 obtain ⟨k,_⟩:=l
 refine ew (k) λnm q bs z o y dd k0 k1 k2 k3 k5 n=>?_
 clear k
 have f1:=tc_lookup
 have hT:(⟨v,g,d,t,p⟩:Shared).TypeIs (.ref Cl) "type" := (ah _ n rfl)
 refine wpAny_bind (wpAny_standAt ?_)
 show wpAny _ _ (keeperOf (.ref Cl)>>=_) _ _ _
 unfold keeperOf specialOf
 repeat (any_goals (first | assumption | with_reducible refine wpAny_loadPart_at n ?_ | with_reducible refine wpAny_load' n ?_ | wp_step))
 rw[if_pos (by rfl),m]
 show wpAny _ _ (call (.ref Cl) vs []>>=λr=>do holding [r] point; pure r) _ _ _
 exact wpAny_bind (wpAny_mono i (λr s' u=>wpAny_bind (wpAny_holding (wpAny_point (wpAny_pure u)))) λuu uu x=>x)
theorem wx (hf:fns.hand=false) (hC:cI fns k C XP) (hXP:∀ c s s₁ x s',Kp s s₁->XP c s₁ x s'->XP c s x s') {a:E}{m:String}{es:Es}(Sa:SimE fns k C XP a) (Ss:fx fns k C XP es):SimE fns k C XP (.meth a m es):=by
 intro ex A env σ P s Q Er ok X nb hQ hE
 replace ok:=BS ok
 revert ok; refine λMg=>Or.elim Mg (λMh=>?_) (λok=>?_)
 ·clear Mg
  refine uw (Mh) λv p xs pos M4 hl hm hne hlt hs oa oes=>?_
  clear Mh
  subst M4
  simp only[kH] at nb hQ hE
  refine aP nb λn1 n2=>?_
  rw[arm_eval_Call,nU hs oa]
  refine wpAny_bind (Sa oa X n1 (λx hx va s₁ Ea=>?_) λc hc=>hE c (by rw[hc]; rfl))
  replace n2:=n2 x hx
  rw[hx] at hQ hE
  simp only[Out.ok_bind] at hQ hE
  obtain ⟨ka,as,ra,ha,_⟩:=Ea
  refine wpAny_bind (wpAny_standAt ?_)
  have Xa:=X.k ka.k
  by_cases hq:∃ q g,fU x.1=some q/\C m=some g
  ·revert hq; intro Mx
   refine av (Mx) λLD g hq hg=>?_
   clear Mx
   obtain ⟨c,d,n⟩:=LD
   have hx1:=lp hq
   rw[hx1] at ra
   rw[hq,hg] at n2 hQ hE
   simp only[au] at n2 hQ hE
   refine aP n2 λn3 n4=>?_
   obtain ⟨fa,hfa,hcall⟩:=(hC m g hg).2.2.2 (by
    simp only[methNames,mem_cons,not_mem_nil,or_false] at hm
    rcases hm with rfl | rfl | rfl | rfl | rfl<;>decide)
   have hmR:m ≠ "Rule" := by
    rintro rfl
    simp[methNames] at hm
   rw[qX hmR hm] at hfa
   refine bG hfa λpm hpm Ly=>?_
   subst Ly
   refine vM (n8 ra) λy D vf bs t u mA LG LJ I f1 f2 f3 f4 rd zd=>?_
   subst LG
   (clear deep top; subst LJ)
   refine aZ (Xa.ge.cls (.inl (bN m pm hpm))) λN mN LH quiet _ hmth=>?_
   obtain ⟨LK,hn⟩:=LH
   refine ew (LK) λnm q bs' sn sub col dd k0 k1 k2 k3 k5 hCl=>?_
   clear LK
   refine bQ (hmth m pm hpm) λof g1 g2 g3 g4=>?_
   have hform:methodCallForm (xs.length+([]:List Keyword).length) (backTo pos (starEach xs env)) (backToKw pos (keywordEach [] env))=true:=by
    unfold methodCallForm
    rw[(kL (env:=env) oes pos).2]
    show (true&&true&&decide (xs.length+0+0<30))=true
    simp; exact Ec hlt
   have hpos:methodCallPos true v env p pos=pure pos:=by unfold methodCallPos; simp[hl]
   unfold methodCall
   rw[hform]
   obtain ⟨hh,gg,dr,tk,os⟩:=s₁
   refine wpAny_bind (wpAny_holding (method_of hCl hn (quiet "__getattribute__" (by simp)) (quiet "__getattr__" (by simp)) g1 g3 g4 (vE hm) I (f4 m hm) ?_))
   refine wpAny_bind (wpAny_of_eq hpos ?_)
   refine aA (g2) λo fd ho hfd _=>?_
   clear g2
   refine Calls.callWith_function (o:=o) (fd:=fd) ?_
   cases xs with
   | nil=>simp at hne
   | cons y' ys=>
    cases es with
    | nil=>exact Bool.noConfusion (show false=true from oes)
    | cons e es=>
     have oy:okE env.scope.names e y' = true:=(and_eq_true_iff.mp (show (okE env.scope.names e y'&&dk env.scope.names es ys)=true from oes)).1
     have hS:=Ss (pos:=pos) (A:=A) (P:=P) (s:=⟨hh,gg,dr,tk,os⟩) (Er:=Er) (Q:=λvs j=>(j.heap.get? pm.1=some o/\o.data = .func fd)/\wpAny (model prog w) A (call (.ref pm.1) ([.ref y]++vs) []) Q Er j) oes Xa n3 (λl hl vs j Es=>?_) λc hc z s' hz=>hE c (by rw[hc]; rfl) z s' (hXP c s _ z s' ka hz)
     ·rw[aH oy] at hS ⊢
      exact Calls.evalArgs_plain hS
     ·obtain ⟨ks,bsb,rs,hb,_⟩:=Es
      refine ⟨⟨ks.k.exact ho (λuu q=>by rw[hfd] at q; cases q) λuu uu q=>(by rw[hfd] at q; cases q),hfd⟩,?_⟩
      have hnb':=n4 l hl
      rw[hl] at hQ hE
      simp only[Out.ok_bind] at hQ hE
      rw[hx1] at hQ hE hnb'
      have i:=ka.trans ks
      refine hcall (P:=λa=>P a\/s.heap.get? a=none) X.room (af (X.frm hf) λl' a' b'=>(ah l' a' (b'.k i.k))) (X.ge.k i.k) (.cons (ra.k ks.k) rs) (λb h=>?_) hnb' (λr hr v s' E=>hQ r hr v s' (E.shift i)) λc hc z s' hz=>hE c hc z s' (hXP c s _ z s' i hz)
      rcases mem_append.mp h with h | h
      ·exact ha b h
      ·exact (hb b h).imp id ka.none
  ·exfalso
   cases h1:fU x.1 with
   | none=>rw[h1] at n2; exact n2 rfl
   | some q=>
    cases h2:C m with
    | none=>rw[h1,h2] at n2; exact n2 rfl
    | some g=>exact hq (aC q g h1 h2)
 ·cases ok
end
section
theorem Ap:b1V f x≠.exc c:=BK c
theorem b1_list' (h:(au (asD v) λx=>au (asL x) f) = .ok r):∃ xs,v = .d (.list xs)/\f xs = .ok r:=by
 refine a9 h λx i h=>?_
 refine a9 h λxs g h=>?_
 exact (ah xs (by rw[b9 i,bR g]) h)
set_option tactic.hygienic true in
theorem AE (hh:A.handled=none) (hu:A.units+200<cLine) (he:b1V f x = .ok r) (ra:RV s.heap va x as) (ha:∀ a∈as,P a)
  (hQ:∀ v s',EP P s r v s'->Q v s'):wpAny (model prog w) A (call (bval (b1n f)) [va]) Q Er s:=by
 unfold b1V at he
 cases hd:sW x with
 | some ks=>
  rw[hd] at he
  cases wh hd
  simp only[ot] at he
  split at he
  ·rename_i hk
   revert hk; intro u
   refine ae (u) λLA hk=>?_
   clear u
   subst LA
   injection he
   exact uS hh ra hk hQ
  ·exact nB he
 | none=>
 rw[hd] at he
 dsimp only at he
 cases f with
 | len=>exact wg he ra hQ
 | list=>
  replace he:=aU he
  revert he; intro t
  refine af (t) λy hy he=>?_
  clear t
  cases b9 hy
  cases ht:asT y with
  | none=>
   simp only[ht] at he
   replace he:=aU he
   revert he; intro q
   refine af (q) λm hx he=>?_
   clear q
   cases bR hx
   injection he
   refine ra.1.isList_k λa vs n cs Lx ea l LB=>?_
   subst Lx
   subst LB
   have z:=sz_list.mp ra.2
   exact mZ (.inl rfl) ea l z.1 z.2 (λb hb=>ha b (.tail _ hb)) hQ
  | some m=>
   simp only[ht] at he
   injection he
   cases gK ht
   refine aV (ra.1.isTup) λa vs n Lz ea l=>?_
   subst Lz
   have z:=sz_tuple.mp ra.2
   exact mZ (.inr rfl) ea l z.1 z.2 ha hQ
 | tuple=>
  replace he:=b1_list' he
  revert he; intro p
  refine af (p) λm LC he=>?_
  clear p
  (clear hd; subst LC)
  injection he
  exact vU ra.1 ra.2 ha hQ
 | sorted=>
  replace he:=b1_list' he
  revert he; intro o
  refine af (o) λm LF he=>?_
  clear o
  (clear hd; subst LF)
  unfold dM at he
  split at he
  ·rename_i h
   split at he
   ·rename_i ns hn
    injection he
    exact sG ra.1 hn h hQ
   ·unfold fz at he
    cases ht:dW m with
    | some ks=>
     rw[ht] at he
     dsimp only at he
     split at he
     ·rename_i hc
      injection he
      exact sQ hu ra.1 ha ra.2 ht h hc hQ
     ·exact nB he
    | none=>
     rw[ht] at he
     dsimp only at he
     exact nB he
  ·rename_i h
   split at he
   ·rename_i h128
    refine a9 he λns hn he=>?_
    split at he
    ·rename_i hc
     injection he
     exact sE ra.1 hn h h128 hc hQ
    ·exact nB he
   ·exact nB he
 | max=>
  replace he:=b1_list' he
  revert he; intro k
  refine af (k) λm LI he=>?_
  clear k
  (clear hd; subst LI)
  replace he:=aU he
  revert he; intro j
  refine af (j) λi hi he=>?_
  clear j
  refine bk hi λns hi1 hi2=>?_
  injection he
  exact wL hh ra.1 hi1 hi2 hQ
theorem CE (f:B1):b1n f∈bnames:=by cases f<;>decide
theorem Jz (f:B1):(Str.ofString (b1n f)==("__debug__" : Str))=false:=by cases f<;>decide
theorem rz (hf:fns.hand=false) (Sa:SimE fns k C XP a):SimE fns k C XP (.bi1 f a):=by
 intro ex A env σ P s Q Er ok X nb hQ hE
 replace ok:=zn ok
 revert ok; refine λi=>Or.elim i (λj=>?_) (λok=>?_)
 ·clear i
  refine cq (j) λz y x u l ok=>?_
  clear j
  subst l
  simp only[and_eq_true,beq_iff_eq] at ok
  refine ae (ok) λo t=>?_
  clear ok
  refine ae (o) λp hg=>?_
  clear o
  subst p
  simp only[jV] at nb hQ hE
  refine aP nb λn1 n2=>?_
  have m:∀ {B:Value},B=bval (b1n f)->∀ {n:Pos},wpAny (model prog w) A (spliced (backTo n (starEach [_] env))) (λvs g=>wpAny (model prog w) A (call B vs) Q Er g) Er s:=λ{B} hB {n}=>by
   subst hB
   refine jt _ t (Sa t X n1 (λr hr v g Ea=>?_) λc hc=>hE c (by rw[hc]; rfl))
   have n3:=n2 r hr
   cases h:b1V f r.1 with
   | bad=>exact absurd h n3
   | exc c=>exact absurd h Ap
   | ok q=>
    obtain ⟨ka,as,ra,ha,_⟩:=Ea
    exact AE (P:=λa=>P a\/s.heap.get? a=none) (X.room.1 hf) X.room.units h ra ha λv s' E=>hQ q (by rw[hr]; exact h) v s' (E.shift ka)
  refine iA X.eok X.ge (CE f) hg (Jz f) ?_
  cases f with
  | list=>exact iK (T:="list") _ t rfl (m rfl)
  | tuple=>exact iK (T:="tuple") _ t rfl (m rfl)
  | _=>exact oU _ t rfl (m rfl)
 ·cases ok
theorem wp:gy x t≠.exc c:=AS c
theorem xW (h:mj t k=some b):t∈bnames/\bval t = .type t :=
 qg h (λe uu=>e▸⟨by decide,rfl⟩) (λe uu=>e▸⟨by decide,rfl⟩) (λe uu=>e▸⟨by decide,rfl⟩) (λe uu=>e▸⟨by decide,rfl⟩) λe uu=>e▸⟨by decide,rfl⟩
theorem tO {id:Str}{p:Pos}(xs:List Expr) (env:Env):starEach (.Name id p::xs) env=(false,eval (.Name id p) env)::starEach xs env:=rfl
theorem Ay (Sa:SimE fns k C XP a):SimE fns k C XP (.isi a t):=by
 intro ex A r σ P s Q Er ok X nb hQ hE
 replace ok:=Ht ok
 revert ok; refine λg=>Or.elim g (λi=>?_) (λok=>?_)
 ·clear g
  refine s6 (i) λNh Nj z y v u o ok=>?_
  clear i
  subst o
  simp only[and_eq_true,beq_iff_eq] at ok
  refine ae (ok) λn hdt=>?_
  clear ok
  refine ae (n) λm hgt=>?_
  clear n
  refine ae (m) λl q=>?_
  clear m
  refine ae (l) λj oa=>?_
  clear l
  refine ae (j) λp hg=>?_
  clear j
  subst p
  subst q
  simp only[mF] at nb hQ hE
  refine aP nb λn1 n2=>?_
  refine iA X.eok X.ge (id:="isinstance") (by decide) hg (by decide) (oU (id:="isinstance") _ oa rfl (wpAny_items_cons ?_ (aH oa _ r)))
  refine Sa oa X n1 (λx hx va s₁ Ea=>?_) λc hc=>hE c (by rw[hc]; rfl)
  cases h:gy x.1 t with
  | bad=>exact absurd h (a8 (n2 x hx)).1
  | exc c=>exact absurd h wp
  | ok b=>
   refine af (xk h) λxd hxd hi=>?_
   refine ae (xW hi) λhm hb=>?_
   have ge:=X.ge.k Ea.keeps.k
   refine aq (ge.glob) λmg g1 _ g3=>?_
   refine af (ge.blt) λmb b1 b2=>?_
   refine wpAny_items_cons ?_ (tO [] r)
   refine Calls.Name_function_global X.eok.kind (fP hgt) (Calls.loadGlobal_builtin (X.eok.glob▸g1) (g3 t hm) (X.eok.blt▸b1) (b2 t hm) ?_) (nd hdt)
   refine wpAny_items_nil ?_
   obtain ⟨ka,as,ra,ha,_⟩:=Ea
   rw[hxd] at ra
   rw[hb]
   exact xq hi ra.1 λs' kp=>hQ (sB b) (by rw[hx,Out.ok_bind,h]; rfl) _ _ (.bool (ka.trans kp))
 ·cases ok
set_option tactic.hygienic true in
theorem vW (hf:fns.hand=false) (hC:cI fns k C XP) (hXP:∀ c s s₁ x s',Kp s s₁->XP c s₁ x s'->XP c s x s') {f:String}{es:Es}(Ss:fx fns k C XP es):SimE fns k C XP (.call f es):=by
 intro ex A env σ P s Q Er ok X nb hQ hE
 replace ok:=uo ok
 revert ok; refine λn=>Or.elim n (λt=>?_) (λok=>?_)
 ·clear n
  refine cq (t) λNk p xs pos Nc ok=>?_
  clear t
  subst Nc
  simp only[and_eq_true,beq_iff_eq,Bool.not_eq_true',decide_eq_false_iff_not] at ok
  refine ae (ok) λLU m=>?_
  clear ok
  refine ae (LU) λL9 hl=>?_
  clear LU
  refine ae (L9) λLW hne=>?_
  clear L9
  refine ae (LW) λMo hx=>?_
  clear LW
  refine ae (Mo) λMv hm=>?_
  clear Mo
  refine ae (Mv) λu hd=>?_
  clear Mv
  refine ae (u) λMs hg=>?_
  clear u
  subst Ms
  simp only[kW] at nb hQ hE
  split at nb
  ·rename_i g hCf
   rw[hCf] at hQ hE
   dsimp only at hQ hE
   refine aP nb λn1 n2=>?_
   refine af ((hC f g hCf).2.2.2 hx) λfa h i=>?_
   refine aq (X.ge.glob) λmg g1 g2 _=>?_
   refine wpAny_Call_NameR (Calls.Name_function_global X.eok.kind (fP hg) (Calls.loadGlobal_global (X.eok.glob▸g1) (g2 f fa hm h) ?_) (nd hd))
   cases xs with
   | nil=>simp at hne
   | cons y ys=>
    cases es with
    | nil=>exact Bool.noConfusion (show false=true from m)
    | cons e es=>
     refine cb (show (okE env.scope.names e y&&dk env.scope.names es ys)=true from m) λoy oys=>?_
     have fin:∀ l,evs C (.cons e es) σ = .ok l->∀ j s₁,EPs P s l j s₁->wpAny (model prog w) A (call (.ref fa) j []) Q Er s₁:=λl hl j s₁ Es=>by
      obtain ⟨ks,as,rs,ha,_⟩:=Es
      exact i (P:=λa=>P a\/s.heap.get? a=none) X.room (af (X.frm hf) λl' a' b'=>(ah l' a' (b'.k ks.k))) (X.ge.k ks.k) rs ha (n2 l hl) (λr hr v s' E=>hQ r (by rw[hl]; exact hr) v s' (E.shift ks)) λc hc z s' hz=>hE c (by rw[hl]; exact hc) z s' (hXP c s s₁ z s' ks hz)
     by_cases hR:f = "Rule"
     ·have hi:fns.init.isSome=true:=by
       unfold adr at h
       rw[if_pos hR] at h
       refine bG h λuu q _=>?_
       rw[q]; rfl
      have hfr:fa=SF.rule:=by
       unfold adr at h
       rw[if_pos hR] at h
       refine bG h λuu uu q=>?_
       exact q.symm
      refine av (X.ge.cls (.inr hi)) λN mN hcl _=>?_
      rw[<- hfr] at hcl
      exact od (aH oy _ env) (kL oys pos).1 (Ss (pos:=pos) m X n1 (λl hl j s₁ Es=>⟨re hcl Es.keeps.k,fin l hl j s₁ Es⟩) λc hc=>hE c (by rw[hc]; rfl))
     ·rw[ue hR hm] at h
      refine bG h λq hq Nf=>?_
      (clear i; subst Nf)
      refine aA (X.ge.funs f q hq) λo fd ho hfd _=>?_
      refine Calls.callWith_function (o:=o) (fd:=fd) ?_
      have hS:=Ss (pos:=pos) (A:=A) (P:=P) (s:=s) (Er:=Er) (Q:=λj s₁=>(s₁.heap.get? q.1=some o/\o.data = .func fd)/\wpAny (model prog w) A (call (.ref q.1) ([]++j) []) Q Er s₁) m X n1 (λl hl j s₁ Es=>?_) λc hc=>hE c (by rw[hc]; rfl)
      ·rw[aH oy] at hS ⊢
       exact Calls.evalArgs_plain hS
      ·refine ⟨⟨Es.keeps.k.exact ho (λuu q=>by rw[hfd] at q; cases q) λuu uu q=>(by rw[hfd] at q; cases q),hfd⟩,?_⟩
       rw[List.nil_append]
       exact fin l hl j s₁ Es
  ·exact absurd rfl nb
 ·cases ok
noncomputable def uz:Expr->Bool
 | .UnaryOp .Not _ _=>false
 | .BoolOp _ _ _=>false
 | .IfExp _ _ _ _=>false
 | .Compare _ _ _ _=>false
 | _=>true
theorem pS {ex:Expr}(h:uz ex=true) (env:Env) (t:Sem Value):isTrue ex env t=(do let v <- t; standAt ex.pos; holding [v] (truthy v)):=by
 cases ex with
 | UnaryOp op x p=>cases op<;>first | rfl | exact nF h
 | _=>first | rfl | exact nF h
noncomputable def uI:E->Bool
 | .not _ | .cmp _ _ _ | .and _ _ | .or _ _=>false
 | _=>true
theorem wU {ex:Expr}(hp:uI e=true) (h:okE ns e ex=true):uz ex=true:=by
 cases ex with
 | UnaryOp op x p=>
  cases e with
  | not _=>exact nF hp
  | neg a=>
   refine Or.elim (zl h) (λg=>?_) (λq=>?_)
   ·refine av (g) λk j q i=>?_
    clear g
    cases q; rfl
   ·cases q
  | _=>exact Bool.noConfusion (show false=true from h)
 | BoolOp _ _ _=>
  cases e with
  | and _ _=>exact nF hp
  | or _ _=>exact nF hp
  | _=>exact Bool.noConfusion (show false=true from h)
 | Compare _ _ _ _=>
  cases e with
  | cmp _ _ _=>exact nF hp
  | _=>exact Bool.noConfusion (show false=true from h)
 | IfExp _ _ _ _=>cases e<;>exact Bool.noConfusion (show false=true from h)
 | _=>rfl
variable (fns k C XP)
structure SimAll (ee:E):Prop where
 e:SimE fns k C XP ee
 t:SimT fns k C XP ee
 a:SimA fns k C XP ee
 o:SimO fns k C XP ee
 ta:SimTA fns k C XP ee
 to:SimTO fns k C XP ee
variable {fns k C XP}
noncomputable def qj:E->Bool
 | .and _ _=>false
 | _=>true
noncomputable def sM:E->Bool
 | .or _ _=>false
 | _=>true
theorem f7 (h:qj e=true):okA ns e vs=false:=by cases e<;>first | rfl | exact nF h
theorem fY (h:sM e=true):okO ns e vs=false:=by cases e<;>first | rfl | exact nF h
theorem SimAll.ofET {e:E}(S:SimE fns k C XP e) (T:SimT fns k C XP e) (ha:qj e=true) (ho:sM e=true):SimAll fns k C XP e where
 e:=S
 t:=T
 a:=kI S λg=>by rw[f7 ha] at g; exact nF g
 o:=kJ S λg=>by rw[fY ho] at g; exact nF g
 ta:=jA T λg=>by rw[f7 ha] at g; exact nF g
 to:=jl T λg=>by rw[fY ho] at g; exact nF g
theorem SimAll.ofE {e:E}(S:SimE fns k C XP e) (hp:uI e=true) (ha:qj e=true) (ho:sM e=true):SimAll fns k C XP e :=
 .ofET S (sD S λuu uu g t h=>pS (wU hp h) g t) ha ho
section
variable (hf:fns.hand=false) (hC:cI fns k C XP) (hXP:∀ c s s₁ x s',Kp s s₁->XP c s₁ x s'->XP c s x s')
include hXP
theorem lB (Sa:SimAll fns k C XP a) (Sb:SimAll fns k C XP b):SimAll fns k C XP (.and a b) :=
  have S:SimE fns k C XP (.and a b):=Al hXP Sa.e Sb.a
  have T:SimT fns k C XP (.and a b):=xb hXP Sa.t Sb.ta
  {e:=S,t:=T,o:=kJ S λg=>(by rw[fY rfl] at g; cases g),to:=jl T λg=>(by rw[fY rfl] at g; cases g),
   a:=kI S λ{z} _ _ _ _ _ _ _ _ g X v x y=>(by
    replace g:=i_A g
    revert g; refine λi=>Or.elim i (λl=>?_) (λg=>?_)
    ·clear i
     refine av (l) λu r n g=>?_
     clear l
     subst n
     simp only[and_eq_true] at g
     exact By hXP Sa.e Sb.a g.1 g.2 X v x y
    ·cases g),
   ta:=jA T λ{z} _ _ _ _ _ _ _ g X v x y=>(by
    replace g:=i_A g
    revert g; refine λh=>Or.elim h (λj=>?_) (λg=>?_)
    ·clear h
     refine av (j) λq p m g=>?_
     clear j
     subst m
     simp only[and_eq_true] at g
     exact zE hXP Sa.t Sb.ta g.1 g.2 X v x y
    ·cases g) }
theorem nw (Sa:SimAll fns k C XP a) (Sb:SimAll fns k C XP b):SimAll fns k C XP (.or a b) :=
  have S:SimE fns k C XP (.or a b):=BY hXP Sa.e Sb.o
  have T:SimT fns k C XP (.or a b):=Ad hXP Sa.t Sb.to
  {e:=S,t:=T,a:=kI S λg=>(by rw[f7 rfl] at g; cases g),ta:=jA T λg=>(by rw[f7 rfl] at g; cases g),
   o:=kJ S λ{z} _ _ _ _ _ _ _ _ g X v x y=>(by
    replace g:=i_O g
    revert g; refine λj=>Or.elim j (λl=>?_) (λg=>?_)
    ·clear j
     refine av (l) λu r n g=>?_
     clear l
     subst n
     simp only[and_eq_true] at g
     exact orL hXP Sa.e Sb.o g.1 g.2 X v x y
    ·cases g),
   to:=jl T λ{z} _ _ _ _ _ _ _ g X v x y=>(by
    replace g:=i_O g
    revert g; refine λh=>Or.elim h (λi=>?_) (λg=>?_)
    ·clear h
     refine av (i) λq p m g=>?_
     clear i
     subst m
     simp only[and_eq_true] at g
     exact B3 hXP Sa.t Sb.to g.1 g.2 X v x y
    ·cases g) }
mutual
theorem dG:∀ e:E,hOk e=true->SimAll fns k C XP e
 | .name x,_=>.ofE (kS x) rfl rfl rfl
 | .int i,_=>.ofE (me i) rfl rfl rfl
 | .bool b,_=>.ofE (pQ b) rfl rfl rfl
 | .bin o a b,h=>.ofE (qY hXP (dG a (and_eq_true_iff.mp h).1).e (dG b (and_eq_true_iff.mp h).2).e) rfl rfl rfl
 | .not a,h=>.ofET (rM (dG a h).e) (pG (dG a h).t) rfl rfl
 | .cmp o a b,h=>.ofET (rc hXP (dG a (and_eq_true_iff.mp h).1).e (dG b (and_eq_true_iff.mp h).2).e) (po hXP (dG a (and_eq_true_iff.mp h).1).e (dG b (and_eq_true_iff.mp h).2).e) rfl rfl
 | .and a b,h=>lB hXP (dG a (and_eq_true_iff.mp h).1) (dG b (and_eq_true_iff.mp h).2)
 | .or a b,h=>nw hXP (dG a (and_eq_true_iff.mp h).1) (dG b (and_eq_true_iff.mp h).2)
 | .list es,h=>.ofE (pW (y5 es h)) rfl rfl rfl
 | .str _,h | .none,h | .neg _,h | .tup _,h | .edic,h | .comp _ _ _,h | .compif _ _ _ _,h | .sub _ _,h | .slo _ _,h | .shi _ _,h | .rev _,h | .attr _ _,h | .bi1 _ _,h | .isi _ _,h | .call _ _,h | .meth _ _ _,h=>Bool.noConfusion h
termination_by structural e=>e
theorem y5:∀ es:Es,wF es=true->fx fns k C XP es
 | .nil,_=>nC
 | .cons e es,h=>k6 hXP (dG e (and_eq_true_iff.mp h).1).e (y5 es (and_eq_true_iff.mp h).2)
termination_by structural es=>es
end
include hf hC
mutual
theorem aw:∀ e:E,SimAll fns k C XP e
 | .name x=>.ofE (kS x) rfl rfl rfl
 | .int i=>.ofE (me i) rfl rfl rfl
 | .str s=>.ofE (Ba s) rfl rfl rfl
 | .bool b=>.ofE (pQ b) rfl rfl rfl
 | .none=>.ofE xY rfl rfl rfl
 | .bin o a b=>.ofE (qY hXP (aw a).e (aw b).e) rfl rfl rfl
 | .neg a=>.ofE (AV (aw a).e) rfl rfl rfl
 | .not a=>.ofET (rM (aw a).e) (pG (aw a).t) rfl rfl
 | .cmp o a b=>.ofET (rc hXP (aw a).e (aw b).e) (po hXP (aw a).e (aw b).e) rfl rfl
 | .and a b=>lB hXP (aw a) (aw b)
 | .or a b=>nw hXP (aw a) (aw b)
 | .list es=>.ofE (pW (gU es)) rfl rfl rfl
 | .tup es=>.ofE (AU (gU es)) rfl rfl rfl
 | .edic=>.ofE xE rfl rfl rfl
 | .comp elt x it=>.ofE (xf (eG it) (aw elt).e) rfl rfl rfl
 | .compif elt x it c=>.ofE (r7 (eG it) (aw elt).e (aw c).t) rfl rfl rfl
 | .sub a i=>.ofE (rh hXP (aw a).e (aw i).e) rfl rfl rfl
 | .slo a i=>.ofE (Bd hXP (aw a).e (aw i).e) rfl rfl rfl
 | .shi a i=>.ofE (Ak hXP (aw a).e (aw i).e) rfl rfl rfl
 | .rev a=>.ofE (AF (aw a).e) rfl rfl rfl
 | .attr a n=>.ofE (xh hC (aw a).e) rfl rfl rfl
 | .bi1 f a=>.ofE (rz hf (aw a).e) rfl rfl rfl
 | .isi a t=>.ofE (Ay (aw a).e) rfl rfl rfl
 | .call f es=>.ofE (vW hf hC hXP (gU es)) rfl rfl rfl
 | .meth a m es=>.ofE (wx hf hC hXP (aw a).e (gU es)) rfl rfl rfl
termination_by structural e=>e
theorem gU:∀ es:Es,fx fns k C XP es
 | .nil=>nC
 | .cons e es=>k6 hXP (aw e).e (gU es)
termination_by structural es=>es
theorem eG:∀ it:It,d9 fns k C XP it
 | .e a=>AO hf (aw a).e
 | .r1 n=>wD hf (aw n).e
 | .r2 a b=>wH hf hXP (aw a).e (aw b).e
termination_by structural it=>it
end
end
end
theorem ja {σ τ:St}{x:String}{v:V×Mode}{ns:List String}(h:∀ y∈ns,σ y=τ y):∀ y∈ns,upd σ x v y=upd τ x v y:=by
 intro y g
 unfold upd
 split
 ·rfl
 ·exact h y g
mutual
theorem az (C:Calls):∀ (e:E) (σ τ:St),(∀ y∈fv e,σ y=τ y)->ev C e σ=ev C e τ
 | .name x,σ,τ,h=>by simp only[dH]; rw[h x (by simp[ip])]
 | .int _,_,_,_=>by simp only[eh]
 | .str _,_,_,_=>by simp only[AG]
 | .bool _,_,_,_=>by simp only[pO]
 | .none,_,_,_=>by simp only[pz]
 | .bin o a b,σ,τ,h=>by
  simp only[Bf,mem_append] at h
  simp only[mw]; rw[az C a σ τ λy g=>h y (.inl g),az C b σ τ λy g=>h y (.inr g)]
 | .neg a,σ,τ,h=>by simp only[z3] at h; simp only[l8]; rw[az C a σ τ h]
 | .not a,σ,τ,h=>by simp only[Au] at h; simp only[gL]; rw[az C a σ τ h]
 | .cmp o a b,σ,τ,h=>by
  simp only[AZ,mem_append] at h
  simp only[jZ]; rw[az C a σ τ λy g=>h y (.inl g),az C b σ τ λy g=>h y (.inr g)]
 | .and a b,σ,τ,h=>by
  simp only[AI,mem_append] at h
  simp only[gV]; rw[az C a σ τ λy g=>h y (.inl g),az C b σ τ λy g=>h y (.inr g)]
 | .or a b,σ,τ,h=>by
  simp only[Cv,mem_append] at h
  simp only[jv]; rw[az C a σ τ λy g=>h y (.inl g),az C b σ τ λy g=>h y (.inr g)]
 | .list es,σ,τ,h=>by simp only[xg] at h; simp only[cE]; rw[eW C es σ τ h]
 | .tup es,σ,τ,h=>by simp only[z8] at h; simp only[g8]; rw[eW C es σ τ h]
 | .edic,_,_,_=>by simp only[pT]
 | .comp elt x it,σ,τ,h=>by
  simp only[wn,mem_append] at h
  simp only[il]
  rw[ec C it σ τ λy g=>h y (.inl g)]
  have e:∀ d,(ev C elt (upd σ x (mk (.d d))))=ev C elt (upd τ x (mk (.d d))):=λd=>az C elt _ _ (ja λy g=>h y (.inr g))
  simp only[e]
 | .compif elt x it c,σ,τ,h=>by
  simp only[tD,mem_append] at h
  simp only[fw]
  rw[ec C it σ τ λy g=>h y (.inl g)]
  have e:∀ d,(ev C elt (upd σ x (mk (.d d))))=ev C elt (upd τ x (mk (.d d))):=λd=>az C elt _ _ (ja λy g=>h y (.inr (.inr g)))
  have i:∀ d,(ev C c (upd σ x (mk (.d d))))=ev C c (upd τ x (mk (.d d))):=λd=>az C c _ _ (ja λy g=>h y (.inr (.inl g)))
  simp only[e,i]
 | .sub a b,σ,τ,h=>by
  simp only[rN,mem_append] at h
  simp only[j9]; rw[az C a σ τ λy g=>h y (.inl g),az C b σ τ λy g=>h y (.inr g)]
 | .slo a b,σ,τ,h=>by
  simp only[Aq,mem_append] at h
  simp only[mB]; rw[az C a σ τ λy g=>h y (.inl g),az C b σ τ λy g=>h y (.inr g)]
 | .shi a b,σ,τ,h=>by
  simp only[Bj,mem_append] at h
  simp only[mI]; rw[az C a σ τ λy g=>h y (.inl g),az C b σ τ λy g=>h y (.inr g)]
 | .rev a,σ,τ,h=>by simp only[At] at h; simp only[mD]; rw[az C a σ τ h]
 | .attr a n,σ,τ,h=>by simp only[wW] at h; simp only[kN]; rw[az C a σ τ h]
 | .bi1 f a,σ,τ,h=>by simp only[Bi] at h; simp only[jV]; rw[az C a σ τ h]
 | .isi a t,σ,τ,h=>by simp only[z6] at h; simp only[mF]; rw[az C a σ τ h]
 | .call f es,σ,τ,h=>by simp only[xK] at h; simp only[kW]; rw[eW C es σ τ h]
 | .meth a m es,σ,τ,h=>by
  simp only[wE,mem_append] at h
  simp only[kH]; rw[az C a σ τ λy g=>h y (.inl g),eW C es σ τ λy g=>h y (.inr g)]
termination_by structural e=>e
theorem eW (C:Calls):∀ (es:Es) (σ τ:St),(∀ y∈fvs es,σ y=τ y)->evs C es σ=evs C es τ
 | .nil,_,_,_=>by simp only[bq]
 | .cons e es,σ,τ,h=>by
  simp only[uE,mem_append] at h
  simp only[bl]; rw[az C e σ τ λy g=>h y (.inl g),eW C es σ τ λy g=>h y (.inr g)]
termination_by structural es=>es
theorem ec (C:Calls):∀ (it:It) (σ τ:St),(∀ y∈bZ it,σ y=τ y)->bh C it σ=bh C it τ
 | .e a,σ,τ,h=>by simp only[jO] at h; simp only[g7]; rw[az C a σ τ h]
 | .r1 a,σ,τ,h=>by simp only[xi] at h; simp only[fH]; rw[az C a σ τ h]
 | .r2 a b,σ,τ,h=>by
  simp only[vR,mem_append] at h
  simp only[fO]; rw[az C a σ τ λy g=>h y (.inl g),az C b σ τ λy g=>h y (.inr g)]
termination_by structural it=>it
end
noncomputable def cD (σ:St) (ns:List String):St:=λx=>if x∈ns then σ x else none
theorem b0 (σ:St) (ns:List String):∀ y∈ns,cD σ ns y=σ y:=λy g=>by unfold cD; rw[if_pos g]
theorem nW {M:Model}{A:Around}{E:Value->Shared->Prop}{s:Shared}{a:Addr}{m:Str->Option Value}{name:Str}{v:Value}{T:Value}{Q:Unit->Shared->Prop}(hn:s.heap.Ns a m) (hc:∃ o,s.heap.get? a=some o/\o.cls=T)
  (h:∀ h',h'.Ns a (λx=>if x=name then some v else m x)->Heap.SameBut a s.heap h'->(∃ o,h'.get? a=some o/\o.cls=T)->Q () {s with heap:=h',toks:=s.toks+1 }):wpAny M A (nsSet a name v) Q E s:=by
 refine eV (hn) λo es ep ho hd hk hm=>?_
 clear hn
 refine af (hc) λo' ho' hT=>?_
 clear hc
 rw[ho] at ho'
 obtain rfl:=Option.some.inj ho'
 have hany:es.any (·.refKey)=false:=by
  rw[Array.any_eq_false']; intro e he; obtain ⟨n,t,h⟩:=hk e he; simp[DictEntry.refKey,h]
 intro Γ p _
 simp only[nsSet,strHash,Sem.wp_bind',Sem.wp_cmd_ask,Sem.wp_pure',Sem.wp_cmd_mkText]
 rw[Sem.wp_loadPart_of M Γ _ p {s with toks:=s.toks+1 } (o:=o) _ ho]
 simp only[hd,aRefKeyMayBeTheName_eq,aRefKeyMayBeTheNameByArray,hany,Bool.and_false,false_eq_true,if_false,Sem.wp_cmd_updatePart]
 refine ⟨by rw[ho]; rfl,h _ ?_ (Heap.SameBut.update ..) ?_⟩
 ·obtain ⟨c,d,dt,sl⟩:=o
  (clear hT ho'; subst hd)
  cases hi:es.findIdx? (·.key.isStr name) with
  | some i=>
   refine (gf _ _ ep (Heap.get?_update_self _ ho (by simp only[Obj.putName_eq,Obj.putNameByArray,hi]; rfl)) (by simp only[Obj.putName_eq,Obj.putNameByArray,hi]; rfl) (hk.modify _ _) (λx=>?_))
   show _=if x=name then some v else m x
   rw[<- hm]; exact findBy_modify (λn v=>v.isStr n) Value.isStr_inj es name x v i hi
  | none=>
   refine (gf _ _ (ep+1) (Heap.get?_update_self _ ho (by simp only[Obj.putName_eq,Obj.putNameByArray,hi]; rfl)) (by simp only[Obj.putName_eq,Obj.putNameByArray,hi]; rfl) (hk.push _ _ _ _) (λx=>?_))
   show _=if x=name then some v else m x
   rw[<- hm]
   exact findBy_push (λn v=>v.isStr n) es name x _ _ v (λy=>by
    show (name==y)=decide (y=name)
    by_cases h:y=name
    ·(clear hi; subst h); simp
    ·have:¬ name=y:=λe=>h e.symm
     simp[h,this]) hi
 ·obtain ⟨c,d,dt,sl⟩:=o
  (clear ho'; subst hd)
  cases hi:es.findIdx? (·.key.isStr name) with
  | some i=>exact (ah _ (Heap.get?_update_self _ ho (by simp only[Obj.putName_eq,Obj.putNameByArray,hi]; rfl)) (by simp only[Obj.putName_eq,Obj.putNameByArray,hi]; exact hT))
  | none=>exact (ah _ (Heap.get?_update_self _ ho (by simp only[Obj.putName_eq,Obj.putNameByArray,hi]; rfl)) (by simp only[Obj.putName_eq,Obj.putNameByArray,hi]; exact hT))
structure Loc (env:Env) (Z:Addr->Prop) (h:Heap) (vals:String->Option Value):Prop where
 cls:∃ o,h.get? env.locals=some o/\o.cls = .type "frame"
 ns:∃ m,h.Ns env.locals m/\∀ x v,vals x=some v->env.kindOf (Str.ofString x)=some .local->m (Str.ofString x)=some v
 nz:¬ Z env.locals
 cell:∀ n c,env.kindOf n=some .cell->env.cells.lookup n=some c->c≠env.locals/\¬ Z c/\∃ v,h.IsCell c v
 cval:∀ x v c,vals x=some v->env.kindOf (Str.ofString x)=some .cell->env.cells.lookup (Str.ofString x)=some c->h.IsCell c (some v)
 apart:∀ n n' c,env.cells.lookup n=some c->env.cells.lookup n' = some c->n=n'
 kinds:∀ x v,vals x=some v->env.kindOf (Str.ofString x)=some .local\/env.kindOf (Str.ofString x)=some .cell
noncomputable def ey (vals:String->Option Value) (x:String) (v:Value):String->Option Value:=λy=>if y=x then some v else vals y
noncomputable def wu (T:Addr) (h h':Heap):Prop:=(∃ v,h.IsCell T v)->∀ o,h.get? T=some o->∃ o',h'.get? T=some o'/\o'.cls=o.cls/\o'.dict=o.dict/\∀ c,o'.data≠.cls c
theorem wQ {M:Model}{A:Around}{E:Value->Shared->Prop}{s:Shared}{env:Env}{name:Str}{c:Addr}{l:Option Value}{v:Value}{Q:Unit->Shared->Prop}(hk:env.scope.kind = .function) (hl:env.kindOf name=some .cell) (hc:env.cells.lookup name=some c) (hv:s.heap.IsCell c l)
  (h:∀ h',h'.IsCell c (some v)->Heap.SameBut c s.heap h'->wu c s.heap h'->Q () {s with heap:=h' }):wpAny M A (storeName env name v) Q E s:=by
 unfold storeName
 simp only[hl,hk]
 refine wpAny_bind (wpAny_cellOf hc ?_)
 refine af (hv) λo g j=>?_
 clear hv
 unfold cellSet
 refine wpAny_bind (wpAny_load g ?_)
 rw[j]
 refine wpAny_update g (h _ (ah ({o with data:=.cell (some v) }) (Heap.get?_update_self _ g rfl) rfl) (.update ..) λuu k e=>?_)
 rw[g] at e; injection e
 exact (bw ({o with data:=.cell (some v) }) (Heap.get?_update_self _ g rfl) rfl rfl (λuu q=>by cases q))
noncomputable def Spot (env:Env) (h:Heap) (T:Addr):Prop:=(T=env.locals/\∃ m,h.Ns T m)\/∃ v,h.IsCell T v
theorem Spot.noseq (t:Spot env h T) (o:Obj) (e:h.get? T=some o) (vs:Array Value) (n:Nat):o.data≠.seq vs n:=by
 intro q
 rcases t with ⟨_,m,o',es,ep,e',hd,_⟩ | ⟨v,o',e',hd⟩
 ·rw[e'] at e; injection e; rw[hd] at q; cases q
 ·rw[e'] at e; injection e; rw[hd] at q; cases q
theorem Spot.nostay (t:Spot env h T) (o:Obj) (e:h.get? T=some o):¬ Stay o:=by
 rcases t with ⟨_,m,o',es,ep,e',hd,_⟩ | ⟨v,o',e',hd⟩
 ·rw[e'] at e; injection e; exact Stay.not_dict hd
 ·rw[e'] at e; injection e; exact Stay.not_data (λuu q=>by rw[hd] at q; cases q) λuu uu q=>by rw[hd] at q; cases q
section
theorem Loc.onK {env:Env}{Z:Addr->Prop}{h h':Heap}{vals:String->Option Value}(L:Loc env Z h vals) (kp:K h h'):Loc env Z h' vals where
 cls:=af (L.cls) λo e c=>af (kp _ o (.inl trivial) e) λg i l=>(ah g i (l.cls.trans c))
 ns:=af (L.ns) λm a b=>(ah m (fM a kp) b)
 nz:=L.nz
 cell:=λn c a b=>let ⟨h1,h2,v,h3⟩:=L.cell n c a b; (cg h1 h2 (bV v (jr h3 kp)))
 cval:=λx v c a b d=>jr (L.cval x v c a b d) kp
 apart:=L.apart
 kinds:=L.kinds
theorem Loc.var (L:Loc env Z h vals) (eok:EnvOk env) (hv:vals x=some v):VarIs h env (Str.ofString x) v:=by
 rcases L.kinds x v hv with hk | hk
 ·refine af (L.ns) λm a b=>?_
  exact .loc m hk a (b x v hv hk)
 ·refine ak (eok.cells _ (.inl hk)) λc g=>?_
  exact .cell c (.inl hk) g (L.cval x v c hv hk g)
theorem Loc.store (L:Loc env Z s.heap vals) (eok:EnvOk env)
  (hx:env.kindOf (Str.ofString x)=some .local\/env.kindOf (Str.ofString x)=some .cell)
  (hQ:∀ T h' tk,Heap.SameBut T s.heap h'->Spot env s.heap T->wu T s.heap h'->¬ Z T->Loc env Z h' (ey vals x v)->Q () {s with heap:=h',toks:=tk }):wpAny (model prog w) A (storeName env (Str.ofString x) v) Q Er s:=by
 have inj:∀ y,Str.ofString y=Str.ofString x->y=x:=λy e=>dh e
 have kinds':∀ y u,ey vals x v y=some u->env.kindOf (Str.ofString y)=some .local\/env.kindOf (Str.ofString y)=some .cell:=λy u hu=>by
  unfold ey at hu
  split at hu
  ·rename_i e; (clear hQ inj; subst e); exact hx
  ·exact L.kinds y u hu
 refine af (L.ns) λm hm hmv=>?_
 rcases hx with hk | hk
 ·rw[storeName_local hk (by rw[eok.kind]; rfl)]
  refine nW hm L.cls (λh' hn hs hcl=>hQ env.locals h' _ hs (.inl (aB rfl (bV m hm))) (λ⟨u,o,e,q⟩=>by obtain ⟨o',es,ep,e',q',_⟩:=hm; rw[e] at e'; injection e'; rw[q] at q'; cases q') L.nz ?_)
  refine ⟨hcl,(ah _ hn (λy u hu hky=>?_)),L.nz,λn c hkn hc=>?_,λy u c hu hky hc=>?_,L.apart,kinds'⟩
  ·unfold ey at hu
   split at hu
   ·rename_i e; (clear hQ hk hn inj kinds'; subst e); injection hu; simp
   ·rename_i e
    rw[if_neg λq=>e (inj y q)]
    exact hmv y u hu hky
  ·refine aG (L.cell n c hkn hc) λh1 h2 MK=>?_
   refine av (MK) λu o h3 h4=>?_
   clear MK
   exact (cg h1 h2 (aC u o (hs.extBut c o h1 h3) h4))
  ·unfold ey at hu
   split at hu
   ·rename_i e; (clear hQ hn inj kinds'; subst e); rw[hk] at hky; cases hky
   ·refine ae (L.cell _ c hky hc) λh1 _=>?_
    refine af (L.cval y u c hu hky hc) λo h3 h4=>?_
    exact (ah o (hs.extBut c o h1 h3) h4)
 ·refine ak (eok.cells _ (.inl hk)) λco hco=>?_
  refine aG (L.cell _ co hk hco) λh1 h2 My=>?_
  refine ak (My) λg h3=>?_
  clear My
  refine wQ eok.kind hk hco h3 λh' hn hs hkp=>hQ co h' s.toks hs (.inr ⟨g,h3⟩) hkp h2 ?_
  refine ⟨(af (L.cls) λo e c=>(ah o (hs.extBut _ o (Ne.symm h1) e) c)),(ah m (hm.sameBut hs (Ne.symm h1)) (λy u hu hky=>?_)),L.nz,λn c hkn hc=>?_,λy u c hu hky hc=>?_,L.apart,kinds'⟩
  ·unfold ey at hu
   split at hu
   ·rename_i e; (clear hQ hco inj kinds'; subst e); rw[hk] at hky; cases hky
   ·exact hmv y u hu hky
  ·refine aG (L.cell n c hkn hc) λg1 g2 LX=>?_
   refine av (LX) λu o g3 g4=>?_
   clear LX
   by_cases e:c=co
   ·(clear h1 h2 h3 hco hkp hs; subst e); exact (cg g1 g2 (bV _ hn))
   ·exact (cg g1 g2 (aC u o (hs.extBut c o e g3) g4))
  ·unfold ey at hu
   split at hu
   ·rename_i e; (clear hQ hk inj kinds'; subst e); injection hu
    rw[hco] at hc; injection hc
    exact hn
   ·rename_i e
    refine af (L.cval y u c hu hky hc) λo g3 g4=>?_
    refine (ah o (hs.extBut c o (λq=>?_) g3) g4)
    (clear h1 h2 h3 hkp hn hs; subst q)
    exact e (inj y (L.apart _ _ c hc hco))
theorem RV.spot (r:RV h v x as) (tt:Spot env h T) (hkp:wu T h h') (hL:∀ a∈as,a≠env.locals) (hs:Heap.SameBut T h h'):RV h' v x as:=by
 have i:∀ b o,b≠T->h.get? b=some o->h'.get? b=some o:=λb o k e=>hs.extBut b o k e
 have l:∀ a∈as,∀ o p z,h.get? a=some o->o.data = .dict p z->a≠T:=λa ha o p z e m q=>by
  (clear hkp hs i; subst q)
  rcases tt with ⟨t,_⟩ | ⟨v,g,e',hd'⟩
  ·exact hL a ha t
  ·rw[e'] at e; injection e; rw[hd'] at m; cases m
 have key:∀ ks a,IsTupleKey (intKind prog w) h ks a->IsTupleKey (intKind prog w) h' ks a:=λks a hk=>by
  refine aV (hk) λo it n a1 a2 a3=>?_
  clear hk
  refine (cF o it n (i a o (λq=>?_) a1) a2 a3)
  (clear l hkp hs i; subst q)
  exact tt.noseq o a1 _ _ a3.1
 cases x with
 | d x=>exact ⟨r.1.off (wr:=[T]) (λb k o e=>.inl (by rw[mem_singleton.mp k] at e; exact tt.noseq o e)) λb o k e=>i b o (λq=>k (by simp[q])) e,r.2⟩
 | dic0=>
  refine jW (r) λa h1 h2 h3 LA Lx=>?_
  clear r
  refine eV (LA) λo p z e hx m hr=>?_
  clear LA
  refine cK (Lx) λg es' ep' e' h4 h5 h6 h7 h8=>?_
  clear Lx
  (clear hL; subst h2)
  have j:=l a (.head _) o p z e m
  exact (ic a h1 rfl h3 (gf o p z (i a o j e) hx m hr) (fo g es' ep' (i a g j e') h4 h5 h6 (λy hy=>key _ _ (h7 y hy)) h8))
 | dicI ks=>
  refine bQ (r) λa h1 h2 h3 LB=>?_
  clear r
  refine eV (LB) λo p z e hx m hr=>?_
  clear LB
  (clear hL; subst h2)
  have j:=l a (.head _) o p z e m
  exact (bw a h1 rfl h3 (gf o p z (i a o j e) hx m hr))
 | dicT ks=>
  refine lU (r) λa xs h1 h2 h3 Lz h9=>?_
  clear r
  refine cK (Lz) λg es' ep' e' h4 h5 h6 h7 h8=>?_
  clear Lz
  (clear hL; subst h2)
  have j:=l a (.head _) g es' ep' e' h5
  exact (gc a xs h1 rfl h3 (fo g es' ep' (i a g j e') h4 h5 h6 (λy hy=>key _ _ (h7 y hy)) h8) h9.1 h9.2.1 (λx hx=>(h9.2.2 x hx).off (wr:=[T]) (λb k o e=>.inl (by rw[mem_singleton.mp k] at e; exact tt.noseq o e)) λb o k e=>i b o (λq=>k (by simp[q])) e))
 | rule c d n=>
  refine iW (r) λx D o vf bs t u mA h1 h2 h3 h4 h5 h6 h7 LC h9 h10 h11 h12 h13 h14=>?_
  clear r
  refine bv (LC) λoD p z e m=>?_
  clear LC
  subst h2
  have hneD:D≠T:=l D (.tail _ (.head _)) oD p z e m.1
  have hx:∃ g,h'.get? x=some g/\g.cls = .ref SF.rule/\g.dict=some D/\∀ c,g.data≠.cls c:=by
   by_cases q:x=T
   ·(clear l hneD hs i; subst q)
    revert tt; refine λL1=>Or.elim L1 (λLL=>?_) (λtt=>?_)
    ·clear L1
     refine ae (LL) λtt Mp=>?_
     clear LL
     exact absurd tt (hL x (.head _))
    ·refine bQ (hkp tt o h3) λg k1 k2 k3 k4=>?_
     exact (bw g k1 (k2.trans h4) (k3.trans h6) k4)
   ·exact (bw o (i x o q h3) h4 h6 h5)
  refine bQ (hx) λg x1 x2 x3 x4=>?_
  clear hx
  exact (jy x D g vf bs t u mA h1 rfl x1 x2 x4 x3 h7 (cz oD p z (i D oD hneD e) m) h9 h10 h11 h12 (h13.off (wr:=[T]) (λb k o e=>.inl (by rw[mem_singleton.mp k] at e; exact tt.noseq o e)) λb o k e=>i b o (λq=>k (by simp[q])) e) h14)
end
section
variable (fns:Fns) (k:Nat)
structure SOK (h0:Heap) (P Z:Addr->Prop) (A:Around) (env:Env) (h:Heap) (σ:St) (vals:String->Option Value) (fp:String->List Addr):Prop where
 room:Room fns.hand k A
 eok:EnvOk env
 ge:GE fns h0
 z0:∀ b o,h0.get? b=some o->Z b
 kp0:K h0 h
 code:fns.lam=true->∃ q,CodeOk h0 env.code q
 out:fns.hand=false->∃ l,A.frames=some (env::l)/\FrOk h0 l/\env.frame=some env.locals/\¬ SF.old env.locals
 zdom:∀ b,Z b->∃ o,h.get? b=some o
 loc:Loc env Z h vals
 val:∀ x p,σ x=some p->varK env.scope.names x=true/\∃ v,vals x=some v/\RV h v p.1 (fp x)/\∀ a∈fp x,a≠env.locals/\(P a\/h0.get? a=none)
 top:∀ x p,σ x=some p->p.2 = .top->∃ a bs,fp x=a::bs/\¬ Z a/\a∉bs/\∀ y q,y≠x->σ y=some q->a∉fp y
 deep:∀ x p,σ x=some p->p.2 = .deep->(∀ a∈fp x,¬ Z a/\∀ y q,y≠x->σ y=some q->a∉fp y)/\(fp x).Nodup
noncomputable def Stp (Z:Addr->Prop) (s s':Shared):Prop:=∃ h' tk,s' = {s with heap:=h',toks:=tk }/\KG Z s.heap h'
noncomputable def ma (h0:Heap) (P:Addr->Prop) (r:V×Mode) (v:Value) (s':Shared):Prop :=
 ∃ as,RV s'.heap v r.1 as/\(∀ a∈as,P a\/h0.get? a=none)/\(r.2 = .top->∃ a bs,as=a::bs/\h0.get? a=none/\a∉bs)/\(r.2 = .deep->(∀ a∈as,h0.get? a=none)/\as.Nodup)
end
theorem Stp.refl (Z:Addr->Prop) (s:Shared):Stp Z s s:=(aC s.heap s.toks rfl KG.refl)
theorem Stp.trans (a:Stp Z s s₁) (b:Stp Z s₁ n):Stp Z s n:=by
 refine av (a) λh t i k=>?_
 clear a
 subst i
 refine av (b) λm j g l=>?_
 clear b
 subst g
 exact (aC m j rfl (k.trans l))
theorem Kp.stp (a:Kp s s₁):Stp Z s s₁:=by
 refine av (a) λh t g k=>?_
 clear a
 subst g
 exact (aC h t rfl (k.mono λuu uu=>trivial))
theorem Stp.mono (a:Stp Z' s s₁) (h:∀ b,Z b->Z' b):Stp Z s s₁:=by
 refine av (a) λi t g k=>?_
 clear a
 subst g
 exact (aC i t rfl (k.mono h))
theorem Stp.same (st:Stp Z s s₁) (hs:Heap.SameBut a s₁.heap h') (hz:¬ Z a) (hn:∀ o,s₁.heap.get? a=some o->¬ Stay o):Stp Z s {s₁ with heap:=h',toks:=tk }:=by
 refine av (st) λh t g k=>?_
 clear st
 subst g
 exact (aC h' tk rfl (k.trans (KG.same hs hz hn)))
section
theorem SOK.onK (K:SOK fns k h0 P Z A env h σ vals fp) (kp:KG (λuu=>True) h h'):SOK fns k h0 P Z A env h' σ vals fp where
 room:=K.room
 eok:=K.eok
 ge:=K.ge
 z0:=K.z0
 kp0:=KG.trans K.kp0 kp
 code:=K.code
 out:=K.out
 zdom:=λb i=>ak (K.zdom b i) λuu e=>Internal.K.there kp e
 loc:=K.loc.onK kp
 val:=λx p g=>let ⟨a,v,b,c,d⟩:=K.val x p g; (aB a (aF v b (c.k kp) d))
 top:=K.top
 deep:=K.deep
theorem SOK.h0n (K:SOK fns k h0 P Z A env h σ vals fp) (ha:¬ Z a):h0.get? a=none:=by
 cases q:h0.get? a with
 | none=>rfl
 | some o=>exact absurd (K.z0 a o q) ha
theorem fA (h:(mk v).2 = .deep):sA v=true:=by
 unfold mk at h; dsimp only at h
 split at h
 ·assumption
 ·cases h
theorem hY:(mk v).2≠.top:=by
 unfold mk; dsimp only; split<;>simp
theorem RV.scal_nil (r:RV h v x as) (hs:sA x=true):as=[]:=by
 cases x with
 | d x=>exact r.1.sx_nil hs
 | _=>exact nF hs
theorem b6 (h:demote σ ns x=some p):∃ q,σ x=some q/\p.1=q.1/\((x∈ns/\p=mk q.1)\/(x∉ns/\p=q)):=by
 unfold demote at h
 split at h
 ·refine bG h λq i g=>?_
  subst g
  exact (aF q i rfl (.inl ⟨by assumption,rfl⟩))
 ·exact (aF p h rfl (.inr ⟨by assumption,rfl⟩))
theorem eu {σ:St}{ns:List String}{x:String}{p:V×Mode}{G:Prop}(h:demote σ ns x=some p) (k:∀ q,σ x=some q->p.1=q.1->((x∈ns/\p=mk q.1)\/(x∉ns/\p=q))->G):G:=aq (b6 h) k
theorem SOK.demote (K:SOK fns k h0 P Z A env h σ vals fp) (ns:List String):SOK fns k h0 P Z A env h (demote σ ns) vals fp where
 room:=K.room
 eok:=K.eok
 ge:=K.ge
 z0:=K.z0
 kp0:=K.kp0
 code:=K.code
 out:=K.out
 zdom:=K.zdom
 loc:=K.loc
 val:=λx p m=>by
  refine eu m λq j e _=>?_
  rw[e]
  exact K.val x q j
 top:=λx p m ht=>by
  refine eu m λq j e u=>?_
  rcases u with ⟨_,rfl⟩ | ⟨_,rfl⟩
  ·exact absurd ht hY
  ·refine aZ (K.top x p j ht) λa bs n z h3 h4=>?_
   refine (be a bs n z h3 (λy r t l=>?_))
   refine af (b6 l) λo i _=>?_
   exact h4 y o t i
 deep:=λx p m hd=>by
  refine eu m λq j e u=>?_
  rcases u with ⟨_,rfl⟩ | ⟨_,rfl⟩
  ·refine ae (K.val x q j) λuu g=>?_
   refine aq (g) λv _ l _=>?_
   clear g
   rw[l.scal_nil (fA hd)]
   exact ⟨λuu h=>(nomatch h),.nil⟩
  ·refine ae (K.deep x p j hd) λn z=>?_
   refine ⟨λa ha=>⟨(n a ha).1,λy r t l=>?_⟩,z⟩
   refine af (b6 l) λo i _=>?_
   exact (n a ha).2 y o t i
theorem SOK.consume (K:SOK fns k h0 P Z A env h σ vals fp) (ns:List String) (m:Mode):SOK fns k h0 P Z A env h (consume σ ns m) vals fp:=by
 unfold Internal.consume
 split
 ·exact K
 ·exact K.demote ns
noncomputable def Own (σ:St) (fp:String->List Addr) (ns:List String) (a:Addr):Prop:=∃ y q,y∈ns/\σ y=some q/\a∈fp y
theorem SOK.cx {s:Shared}(K:SOK fns k h0 P Z A env s.heap σ vals fp) (ns:List String):Cx fns k A (Own σ fp ns) s.heap env (cD σ ns) where
 room:=K.room
 eok:=K.eok
 ge:=K.ge.k K.kp0
 code:=λe=>ak (K.code e) λq c=>⟨q,c.k K.kp0⟩
 frm:=λe=>by
  refine bQ (K.out e) λl h1 h2 h3 h4=>?_
  refine (ah _ h1 (λj he=>?_))
  rcases mem_cons.mp he with rfl | he
  ·refine af (K.loc.ns) λm h _=>?_
   refine aV (h) λo es ep r e2 _=>?_
   clear h
   refine af (K.loc.cls) λo' n e4=>?_
   rw[r] at n; injection n
   exact (aB K.eok.kind (j4 _ _ es ep h3 h4 r e4 e2))
  ·exact (h2.k K.kp0) j he
 vars:=λx p i _=>by
  unfold cD at i
  split at i
  ·refine ae (K.val x p i) λuu g=>?_
   refine aq (g) λv u y _=>?_
   clear g
   exact (aM v (fp x) (K.loc.var K.eok u) y (λa z=>(aM x p ‹_› i z)))
  ·exact nN i
theorem SOK.eval (K:SOK fns k h0 P Z A env s.heap σ vals fp) (S:SimE fns k C XP e) (ok:okE env.scope.names e exx=true) (he:ev C e σ = .ok r)
  (hQ:∀ v s',EP (Own σ fp (fv e)) s r v s'->Q v s'):wpAny (model prog w) A (eval exx env) Q Er s:=by
 have h:ev C e (cD σ (fv e)) = .ok r:=by rw[az C e _ σ (b0 σ (fv e))]; exact he
 exact S ok (K.cx (fv e)) (by rw[h]; simp) (λl g v s' E=>by rw[h] at g; injection g; exact hQ v s' E) λc i=>by rw[h] at i; cases i
theorem SOK.evalT (K:SOK fns k h0 P Z A env s.heap σ vals fp) (S:SimT fns k C XP e) (ok:okE env.scope.names e exx=true) (he:((ev C e σ).bind λr=>ar r.1) = .ok b)
  (hQ:∀ s',Kp s s'->Q b s'):wpAny (model prog w) A (isTrue exx env (PySem.eval exx env)) Q Er s:=by
 have h:ev C e (cD σ (fv e))=ev C e σ:=az C e _ σ (b0 σ (fv e))
 refine S ok (K.cx (fv e)) (by rw[h,he]; simp) (λm g s' l=>by rw[h,he] at g; injection g; exact hQ s' l) λc i=>?_
 rw[h] at i; rw[i] at he; exact nE he
theorem SOK.own (K:SOK fns k h0 P Z A env h σ vals fp) (ha:Own σ fp ns a):(∃ o,h.get? a=some o)/\a≠env.locals/\(P a\/h0.get? a=none):=by
 refine aA (ha) λy q _ l i=>?_
 clear ha
 refine ae (K.val y q l) λuu g=>?_
 refine aq (g) λv _ j m=>?_
 clear g
 exact ⟨j.there a i,m a i⟩
noncomputable def Frm (Z:Addr->Prop) (xs:List String) (σ:St) (vals:String->Option Value) (fp:String->List Addr) (σ':St) (vals':String->Option Value) (fp':String->List Addr):Prop :=
 (∀ y,y∉xs->vals' y=vals y/\fp' y=fp y)/\∀ b,Z b->(∀ z q,σ z=some q->b∉fp z)->∀ z q,σ' z=some q->b∉fp' z
section
theorem Frm.id (h:∀ z q,σa z=some q->∃ q',σ z=some q'):Frm Z xs σ vals fp σa vals fp :=
 ⟨λuu uu=>⟨rfl,rfl⟩,λb _ j z q i=>ak (h z q i) λq' g=>j z q' g⟩
theorem Frm.more (f:Frm Z xs σ vals fp σa valsa fpa) (h:∀ y∈xs,y∈ys):Frm Z ys σ vals fp σa valsa fpa:=⟨λy g=>f.1 y λq=>g (h y q),f.2⟩
theorem Frm.trans (f:Frm Z xs σ vals fp σa valsa fpa) (g:Frm Z ys σa valsa fpa σb valsb fpb):Frm Z (xs++ys) σ vals fp σb valsb fpb :=
 ⟨λy i=>let a:=f.1 y λq=>i (mem_append_left _ q); let b:=g.1 y λq=>i (mem_append_right _ q); ⟨b.1.trans a.1,b.2.trans a.2⟩,λb h j=>g.2 b h (f.2 b h j)⟩
theorem Frm.less (f:Frm Z' xs σ vals fp σa valsa fpa) (h:∀ b,Z b->Z' b):Frm Z xs σ vals fp σa valsa fpa:=⟨f.1,λb g=>f.2 b (h b g)⟩
theorem Frm.one (hv:∀ y,y≠x->valsa y=vals y) (h:∀ z q,σa z=some q->∃ q',σ z=some q') (ha:∀ b∈as,Z b->∃ z q,σ z=some q/\b∈fp z) :
  Frm Z [x] σ vals fp (upd σa x r) valsa (λy=>if y=x then as else fp y):=by
 refine ⟨λy l=>⟨hv y λq=>l (by simp[q]),if_neg λq=>l (by simp[q])⟩,λb o m z q j g=>?_⟩
 unfold upd at j
 dsimp only at g
 by_cases e:z=x
 ·have k:b∈as:=by rwa [if_pos e] at g
  refine av (ha b k o) λn q' t p=>?_
  exact m n q' t p
 ·rw[if_neg e] at j g
  refine ak (h z q j) λq' i=>?_
  exact m z q' i g
end
theorem db (hq:Internal.consume σ ns m y=some q):∃ q',σ y=some q':=by
 unfold Internal.consume at hq
 split at hq
 ·exact ⟨q,hq⟩
 ·obtain ⟨q',g,_⟩:=b6 hq; exact ⟨q',g⟩
theorem SOK.put (K:SOK fns k h0 P Z A env s.heap σ vals fp)
  (hvk:varK env.scope.names x=true) (hk:env.kindOf (Str.ofString x)=some .local\/env.kindOf (Str.ofString x)=some .cell)
  (rv:RV s.heap v r.1 as) (ha:∀ a∈as,a≠env.locals/\(P a\/h0.get? a=none))
  (ht:r.2 = .top->∃ a bs,as=a::bs/\¬ Z a/\a∉bs/\∀ y q,y≠x->σ y=some q->a∉fp y) (hd:r.2 = .deep->(∀ a∈as,¬ Z a/\∀ y q,y≠x->σ y=some q->a∉fp y)/\as.Nodup)
  (hdis:∀ y q,y≠x->σ y=some q->(q.2 = .top->∀ a bs,fp y=a::bs->a∉as)/\(q.2 = .deep->∀ a∈fp y,a∉as))
  (hQ:∀ s',Stp Z s s'->(∀ b o,b≠env.locals->(∀ u,o.data≠.cell u)->s.heap.get? b=some o->s'.heap.get? b=some o)->SOK fns k h0 P Z A env s'.heap (upd σ x r) (ey vals x v) (λy=>if y=x then as else fp y)->Q () s'):wpAny (model prog w) A (storeName env (Str.ofString x) v) Q Er s:=by
 refine K.loc.store K.eok hk λT h' tk hs hT hKp hZ L=>hQ _ ((Stp.refl Z s).same hs hZ hT.nostay) (λb o hb hc e=>hs.extBut b o (λq=>?_) e) ?_
 ·rcases hT with ⟨hT,_⟩ | ⟨u,o',e',hd'⟩
  ·exact hb (q.trans hT)
  ·(clear hKp hZ hs; subst q)
   rw[e'] at e; injection e
   exact hc u hd'
 have h0n:∀ a,¬ Z a->h0.get? a=none:=λa ha=>by
  cases q:h0.get? a with
  | none=>rfl
  | some o=>exact absurd (K.z0 a o q) ha
 have kz:∀ b o,Z b->s.heap.get? b=some o->h'.get? b=some o:=λb o hb e=>hs.extBut b o (λq=>hZ (q▸hb)) e
 refine ⟨K.room,K.eok,K.ge,K.z0,Internal.K.same K.kp0 hs (h0n _ hZ) hT.nostay,K.code,K.out,λb hb=>ak (K.zdom b hb) λo e=>⟨o,kz b o hb e⟩,L,λy p g=>?_,λy p g htp=>?_,λy p g hdp=>?_⟩
 ·unfold upd at g
  by_cases hy:y=x
  ·(clear L hQ hd hdis hk ht; subst hy)
   rw[if_pos rfl] at g; injection g
   refine (aB hvk (aF v (by simp[ey]) ?_ ?_))
   ·rw[if_pos rfl]; exact rv.spot hT hKp (λa h=>(ha a h).1) hs
   ·rw[if_pos rfl]; exact ha
  ·rw[if_neg hy] at g
   refine ae (K.val y p g) λj l=>?_
   refine aq (l) λu n h3 h4=>?_
   clear l
   refine (aB j (aF u (by simpa [ey,hy] using n) ?_ ?_))
   ·rw[if_neg hy]; exact h3.spot hT hKp (λa h=>(h4 a h).1) hs
   ·rw[if_neg hy]; exact h4
 ·unfold upd at g
  by_cases hy:y=x
  ·(clear L hQ hd hdis hk hvk; subst hy)
   rw[if_pos rfl] at g; injection g
   refine aZ (ht htp) λa bs j n h3 h4=>?_
   refine (be a bs (by rw[if_pos rfl]; exact j) n h3 (λz q m i=>?_))
   unfold upd at i
   rw[if_neg m] at i ⊢
   exact h4 z q m i
  ·rw[if_neg hy] at g
   refine aZ (K.top y p g htp) λa bs j n h3 h4=>?_
   refine (be a bs (by rw[if_neg hy]; exact j) n h3 (λz q m i=>?_))
   unfold upd at i
   by_cases hzx:z=x
   ·rw[if_pos hzx]
    exact (hdis y p hy g).1 htp a bs j
   ·rw[if_neg hzx] at i ⊢
    exact h4 z q m i
 ·unfold upd at g
  by_cases hy:y=x
  ·(clear L hQ hdis hk ht hvk; subst hy)
   rw[if_pos rfl] at g; injection g
   refine ae (hd hdp) λj n=>?_
   rw[if_pos rfl]
   refine ⟨λa h=>⟨(j a h).1,λz q m i=>?_⟩,n⟩
   unfold upd at i
   rw[if_neg m] at i ⊢
   exact (j a h).2 z q m i
  ·rw[if_neg hy] at g ⊢
   refine ae (K.deep y p g hdp) λj n=>?_
   refine ⟨λa h=>⟨(j a h).1,λz q m i=>?_⟩,n⟩
   unfold upd at i
   by_cases hzx:z=x
   ·rw[if_pos hzx]
    exact (hdis y p hy g).2 hdp a h
   ·rw[if_neg hzx] at i ⊢
    exact (j a h).2 z q m i
theorem SOK.put_ep (K:SOK fns k h0 P Z A env s.heap σ vals fp)
  (hvk:varK env.scope.names x=true) (hk:env.kindOf (Str.ofString x)=some .local\/env.kindOf (Str.ofString x)=some .cell) (E:EP (Own σ fp ns) s r v s₁)
  (hQ:∀ s' as,RV s₁.heap v r.1 as->Stp Z s₁ s'->(∀ b o,b≠env.locals->(∀ u,o.data≠.cell u)->s₁.heap.get? b=some o->s'.heap.get? b=some o)->SOK fns k h0 P Z A env s'.heap (upd (Internal.consume σ ns r.2) x r) (ey vals x v) (λy=>if y=x then as else fp y)->Frm Z [x] σ vals fp (upd (Internal.consume σ ns r.2) x r) (ey vals x v) (λy=>if y=x then as else fp y)->Q () s'):wpAny (model prog w) A (storeName env (Str.ofString x) v) Q Er s₁:=by
 obtain ⟨kp,as,rv,ha,ht,hd⟩:=E
 have K₁:=(K.onK kp.k).consume ns r.2
 have nz:∀ a,s.heap.get? a=none->¬ Z a:=λa e hz=>by
  refine ak (K.zdom a hz) λo t=>?_
  rw[e] at t; exact nN t
 have nf:∀ a,s.heap.get? a=none->∀ y q,σ y=some q->a∉fp y:=λa e y q i hm=>by
  refine ae (K.val y q i) λuu n=>?_
  refine aq (n) λu _ hr _=>?_
  clear n
  refine ak (hr.there a hm) λo t=>?_
  rw[e] at t; exact nN t
 have cs:∀ y q,Internal.consume σ ns r.2 y=some q->∃ l,σ y=some l:=λy q i=>by
  unfold Internal.consume at i
  split at i
  ·exact ⟨q,i⟩
  ·obtain ⟨l,g,_⟩:=b6 i; exact ⟨l,g⟩
 refine af (K.loc.ns) λmL hmL _=>?_
 refine K₁.put hvk hk rv (λa h=>?_) (λhtop=>?_) (λhdeep=>?_) (λy q hy i=>?_) (λs' st kk K'=>hQ s' as rv st kk K' (.one (λy hy=>if_neg hy) (λz q i=>db i) λb hb hz=>(ha b hb).elim (λ⟨y,q,_,h1,h2⟩=>(aC y q h1 h2)) λe=>absurd hz (nz b e)))
 ·rcases ha a h with h1 | h1
  ·exact (K.own h1).2
  ·refine ⟨λq=>?_,.inr ?_⟩
   ·refine bv (hmL) λo _ _ e _=>?_
    clear hmL
    rw[<- q] at e
    rw[h1] at e; exact nN e
   ·cases e:h0.get? a with
    | none=>rfl
    | some o=>obtain ⟨_,t⟩:=Internal.K.there K.kp0 e; rw[t] at h1; exact nM h1
 ·refine aA (ht htop) λa bs h1 h2 h3=>?_
  exact (be a bs h1 (nz a h2) h3 (λy q _ i=>ak (cs y q i) λl g=>nf a h2 y l g))
 ·refine ae (hd hdeep) λh1 h2=>?_
  exact ⟨λa h=>⟨nz a (h1 a h),λy q _ i=>ak (cs y q i) λl g=>nf a (h1 a h) y l g⟩,h2⟩
 ·have main:∀ a,(a∈as)->(∀ y' l,σ y' = some l->a∈fp y'->y'≠y\/(y'∈ns/\r.2≠.deep))\/True:=λuu uu=>.inr trivial
  clear main
  by_cases hdp:r.2 = .deep
  ·have h1:=(hd hdp).1
   refine ak (cs y q i) λl g=>?_
   exact ⟨λuu a bs e hm=>nf a (h1 a hm) y l g (by rw[e]; exact .head _),λuu a j hm=>nf a (h1 a hm) y l g j⟩
  ·have hq2:Internal.demote σ ns y=some q:=by unfold Internal.consume at i; rwa [if_neg hdp] at i
   refine eu hq2 λl g e1 hc=>?_
   rcases hc with ⟨_,rfl⟩ | ⟨hn,rfl⟩
   ·refine ⟨λh=>absurd h hY,λh a j=>?_⟩
    refine ae (K.val y l g) λuu m=>?_
    refine aq (m) λu _ hr _=>?_
    clear m
    rw[hr.scal_nil (fA h)] at j
    cases j
   ·refine ⟨λh a bs e hm=>?_,λh a j hm=>?_⟩
    ·refine Or.elim (ha a hm) (λLL=>?_) (λh1=>?_)
     ·refine aA (LL) λz p hz hp hf=>?_
      clear LL
      refine aZ (K.top y q g h) λa' bs' t _ _ h4=>?_
      rw[e] at t; cases t
      exact h4 z p (λq=>hn (q▸hz)) hp hf
     ·exact nf a h1 y q g (by rw[e]; exact .head _)
    ·refine Or.elim (ha a hm) (λLO=>?_) (λh1=>?_)
     ·refine aA (LO) λz p hz hp hf=>?_
      clear LO
      exact ((K.deep y q g h).1 a j).2 z p (λq=>hn (q▸hz)) hp hf
     ·exact nf a h1 y q g j
theorem SOK.freeze (K:SOK fns k h0 P Z A env h σ vals fp) {G:Addr->Prop}(hdom:∀ b,G b->∃ o,h.get? b=some o) (hL:¬ G env.locals) (hc:∀ n c,env.kindOf n=some .cell->env.cells.lookup n=some c->¬ G c)
  (ht:∀ x p,σ x=some p->p.2 = .top->∀ a bs,fp x=a::bs->¬ G a) (hd:∀ x p,σ x=some p->p.2 = .deep->∀ a∈fp x,¬ G a):SOK fns k h0 P (λb=>Z b\/G b) A env h σ vals fp where
 room:=K.room
 eok:=K.eok
 ge:=K.ge
 z0:=λb o e=>.inl (K.z0 b o e)
 kp0:=K.kp0
 code:=K.code
 out:=K.out
 zdom:=λb y=>y.elim (K.zdom b) (hdom b)
 loc:={K.loc with
  nz:=λq=>q.elim K.loc.nz hL
  cell:=λn c a b=>by
   refine aG (K.loc.cell n c a b) λi m g=>?_
   refine av (g) λv o u t=>?_
   clear g
   exact (cg i (λq=>q.elim m (hc n c a b)) (aC v o u t)) }
 val:=K.val
 top:=λx p l j=>by
  refine aZ (K.top x p l j) λa bs i m u t=>?_
  exact (be a bs i (λq=>q.elim m (ht x p l j a bs i)) u t)
 deep:=λx p l j=>by
  refine ae (K.deep x p l j) λi m=>?_
  exact ⟨λa r=>⟨λq=>q.elim (i a r).1 (hd x p l j a r),(i a r).2⟩,m⟩
theorem SOK.thaw {Z':Addr->Prop}(K:SOK fns k h0 P Z' A env h σ vals fp) (hz:∀ b,Z b->Z' b) (h0z:∀ b o,h0.get? b=some o->Z b):SOK fns k h0 P Z A env h σ vals fp where
 room:=K.room
 eok:=K.eok
 ge:=K.ge
 z0:=h0z
 kp0:=K.kp0
 code:=K.code
 out:=K.out
 zdom:=λb t=>K.zdom b (hz b t)
 loc:={K.loc with
  nz:=λq=>K.loc.nz (hz _ q)
  cell:=λn c a b=>by
   refine aG (K.loc.cell n c a b) λg i m=>?_
   exact ⟨g,λq=>i (hz _ q),m⟩ }
 val:=K.val
 top:=λx p l j=>by
  refine aZ (K.top x p l j) λa v g i m u=>?_
  exact (be a v g (λq=>i (hz _ q)) m u)
 deep:=λx p l j=>by
  refine ae (K.deep x p l j) λg i=>?_
  exact ⟨λa r=>⟨λq=>(g a r).1 (hz _ q),(g a r).2⟩,i⟩
end
section
theorem RV.offA (r:RV h v x as) (ho:h.get? a=some o) (hc:o.cls≠.type "tuple") (hn:a∉as) (hs:Heap.SameBut a h h'):RV h' v x as:=by
 have k:∀ b o,b≠a->h.get? b=some o->h'.get? b=some o:=λb o i e=>hs.extBut b o i e
 have key:∀ ks b,IsTupleKey (intKind prog w) h ks b->IsTupleKey (intKind prog w) h' ks b:=λks b hk=>by
  refine aV (hk) λj it n a1 a2 a3=>?_
  clear hk
  refine (cF j it n (k b j (λq=>?_) a1) a2 a3)
  (clear hn hs k; subst q)
  rw[ho] at a1; (have l:=Option.some.inj a1; clear a1; (clear a3; subst l))
  exact hc a2
 cases x with
 | d x=>exact ⟨r.1.off (wr:=[a]) (λb i j e=>.inr (by
   rw[mem_singleton.mp i] at e ⊢
   rw[ho] at e; injection e
   exact ⟨hc,hn⟩)) λb o i e=>k b o (λq=>i (by simp[q])) e,r.2⟩
 | dic0=>
  refine jW (r) λb z p m LA Lx=>?_
  clear r
  refine bv (LA) λo es ep e hr=>?_
  clear LA
  refine cK (Lx) λj es' ep' e' h4 h5 h6 h7 h8=>?_
  clear Lx
  subst p
  have g:b≠a:=λq=>hn (by simp[q])
  exact (ic b z rfl m (cz o es ep (k b o g e) hr) (fo j es' ep' (k b j g e') h4 h5 h6 (λy hy=>key _ _ (h7 y hy)) h8))
 | dicI ks=>
  refine bQ (r) λb z p m LB=>?_
  clear r
  refine bv (LB) λo es ep e hr=>?_
  clear LB
  subst p
  have g:b≠a:=λq=>hn (by simp[q])
  exact (bw b z rfl m (cz o es ep (k b o g e) hr))
 | dicT ks=>
  refine lU (r) λb xs z p m Lz h9=>?_
  clear r
  refine cK (Lz) λj es' ep' e' h4 h5 h6 h7 h8=>?_
  clear Lz
  subst p
  have g:b≠a:=λq=>hn (by simp[q])
  exact (gc b xs z rfl m (fo j es' ep' (k b j g e') h4 h5 h6 (λy hy=>key _ _ (h7 y hy)) h8) h9.1 h9.2.1 (λx hx=>(h9.2.2 x hx).off (wr:=[a]) (λb i j e=>.inr (by
   rw[mem_singleton.mp i] at e ⊢
   rw[ho] at e; injection e
   exact ⟨hc,λq=>nomatch q⟩)) λb o i e=>k b o (λq=>i (by simp[q])) e))
 | rule c d n=>
  refine iW (r) λy D oy vf bs t u mA z p m h4 h5 h6 h7 LC h9 h10 h11 h12 h13 h14=>?_
  clear r
  refine bv (LC) λoD es ep e hd=>?_
  clear LC
  subst p
  have n1:y≠a:=λq=>hn (by simp[q])
  have n2:D≠a:=λq=>hn (by simp[q])
  exact (jy y D oy vf bs t u mA z rfl (k y oy n1 m) h4 h5 h6 h7 (cz oD es ep (k D oD n2 e) hd) h9 h10 h11 h12 (h13.off (wr:=[a]) (λb i j e=>.inr (by
   rw[mem_singleton.mp i] at e ⊢
   rw[ho] at e; injection e
   exact ⟨hc,λq=>hn (.tail _ (.tail _ q))⟩)) λb o i e=>k b o (λq=>i (by simp[q])) e) h14)
theorem Loc.offA {a:Addr}{o:Obj}(L:Loc env Z h vals) (ho:h.get? a=some o) (hc:∀ v,o.data≠.cell v) (hL:a≠env.locals) (hs:Heap.SameBut a h h'):Loc env Z h' vals where
 cls:=af (L.cls) λo e c=>(ah o (hs.extBut _ o (Ne.symm hL) e) c)
 ns:=af (L.ns) λm x y=>(ah m (x.sameBut hs (Ne.symm hL)) y)
 nz:=L.nz
 cell:=λn c x y=>by
  refine aG (L.cell n c x y) λu t g=>?_
  refine av (g) λv j i k=>?_
  clear g
  refine (cg u t (aC v j (hs.extBut c j (λq=>?_) i) k))
  (clear hL hs; subst q)
  rw[ho] at i; injection i
  exact hc v k
 cval:=λx v c p q r=>by
  refine af (L.cval x v c p q r) λj i k=>?_
  refine (ah j (hs.extBut c j (λq=>?_) i) k)
  (clear hL hs; subst q)
  rw[ho] at i; injection i
  exact hc _ k
 apart:=L.apart
 kinds:=L.kinds
theorem SOK.write (K:SOK fns k h0 P Z A env h σ vals fp) (hp:σ x=some p) (hval:vals x=some (.ref a)) (ho:h.get? a=some o) (hoc:o.cls≠.type "tuple") (hst:¬ Stay o) (hod:∀ v,o.data≠.cell v)
  (hnz:¬ Z a) (hne:∀ y q,y≠x->σ y=some q->a∉fp y) (haL:a≠env.locals/\(P a\/h0.get? a=none)) (hs:Heap.SameBut a h h') (rv:RV h' (.ref a) v' (a::bs')) (hb:∀ b∈bs',b≠env.locals/\(P b\/h0.get? b=none))
  (ht:m' = .top->a∉bs') (hd:m' = .deep->(∀ b∈bs',¬ Z b/\∀ y q,y≠x->σ y=some q->b∉fp y)/\(a::bs').Nodup)
  (hdis:∀ y q,y≠x->σ y=some q->(q.2 = .top->∀ b cs,fp y=b::cs->b∉bs')/\(q.2 = .deep->∀ b∈fp y,b∉bs')) :
  SOK fns k h0 P Z A env h' (upd σ x (v',m')) vals (λy=>if y=x then a::bs' else fp y):=by
 have h0n:h0.get? a=none:=by
  cases q:h0.get? a with
  | none=>rfl
  | some o=>exact absurd (K.z0 a o q) hnz
 have kz:∀ b o,Z b->h.get? b=some o->h'.get? b=some o:=λb o hb e=>hs.extBut b o (λq=>hnz (q▸hb)) e
 refine ⟨K.room,K.eok,K.ge,K.z0,Internal.K.same K.kp0 hs h0n (λo' e=>by rw[ho] at e; injection e; exact hst),K.code,K.out,λb hb=>ak (K.zdom b hb) λo e=>⟨o,kz b o hb e⟩,K.loc.offA ho hod haL.1 hs,λy q i=>?_,λy q i htp=>?_,λy q i hdp=>?_⟩
 ·unfold upd at i
  by_cases hy:y=x
  ·(clear hd hdis hne; subst hy)
   rw[if_pos rfl] at i; injection i
   rw[if_pos rfl]
   refine (aB ((K.val y p hp).1) (aF (.ref a) hval rv (λb g=>?_)))
   rcases mem_cons.mp g with rfl | g
   ·exact haL
   ·exact hb b g
  ·rw[if_neg hy] at i ⊢
   refine ae (K.val y q i) λn m=>?_
   refine aq (m) λu h2 h3 h4=>?_
   clear m
   exact (aB n (aF u h2 (h3.offA ho hoc (hne y q hy i) hs) h4))
 ·unfold upd at i
  by_cases hy:y=x
  ·(clear hd hdis hp hval; subst hy)
   rw[if_pos rfl] at i; injection i
   rw[if_pos rfl]
   refine (be a bs' rfl hnz (ht htp) (λz r l j=>?_))
   unfold upd at j
   rw[if_neg l] at j ⊢
   exact hne z r l j
  ·rw[if_neg hy] at i ⊢
   refine aZ (K.top y q i htp) λb cs n h2 h3 h4=>?_
   refine (be b cs n h2 h3 (λz r l j=>?_))
   unfold upd at j
   by_cases hzx:z=x
   ·rw[if_pos hzx]
    intro hm
    rcases mem_cons.mp hm with e | hm
    ·exact hne y q hy i (by rw[n,e]; exact .head _)
    ·exact (hdis y q hy i).1 htp b cs n hm
   ·rw[if_neg hzx] at j ⊢
    exact h4 z r l j
 ·unfold upd at i
  by_cases hy:y=x
  ·(clear hdis hp hval; subst hy)
   rw[if_pos rfl] at i; injection i
   rw[if_pos rfl]
   refine ae (hd hdp) λn h2=>?_
   refine ⟨λb g=>?_,h2⟩
   rcases mem_cons.mp g with rfl | g
   ·refine ⟨hnz,λz r l j=>?_⟩
    unfold upd at j
    rw[if_neg l] at j ⊢
    exact hne z r l j
   ·refine ⟨(n b g).1,λz r l j=>?_⟩
    unfold upd at j
    rw[if_neg l] at j ⊢
    exact (n b g).2 z r l j
  ·rw[if_neg hy] at i ⊢
   refine ae (K.deep y q i hdp) λn h2=>?_
   refine ⟨λb g=>⟨(n b g).1,λz r l j=>?_⟩,h2⟩
   unfold upd at j
   by_cases hzx:z=x
   ·rw[if_pos hzx]
    intro hm
    rcases mem_cons.mp hm with e | hm
    ·exact hne y q hy i (e▸g)
    ·exact (hdis y q hy i).2 hdp b g hm
   ·rw[if_neg hzx] at j ⊢
    exact (n b g).2 z r l j
theorem SOK.head (K:SOK fns k h0 P Z A env h σ vals fp) (hp:σ x=some (.d (.list xs),m)) (hm:m≠.sh) :
  ∃ a vs n bs,vals x=some (.ref a)/\h.get? a=some ⟨.type "list", none,.seq vs.toArray n,#[]⟩/\RA h vs xs bs/\fp x=a::bs/\sz (.list xs)=true/\¬ Z a/\a∉bs/\(∀ y q,y≠x->σ y=some q->a∉fp y)/\(∀ b∈a::bs,b≠env.locals/\(P b\/h0.get? b=none)) /\
   (m = .deep->(∀ b∈bs,¬ Z b/\∀ y q,y≠x->σ y=some q->b∉fp y)/\bs.Nodup):=by
 refine ae (K.val x _ hp) λuu g=>?_
 refine aq (g) λv hv l o=>?_
 clear g
 refine ae (l) λr z=>?_
 clear l
 refine r.isList_k λa vs n bs p ea u e=>?_
 (clear r; subst p)
 refine ⟨a,vs,n,bs,hv,ea,u,e,z,?_⟩
 rw[e] at o
 cases m with
 | sh=>exact absurd rfl hm
 | top=>
  refine aZ (K.top x _ hp rfl) λa' bs' t j i h3=>?_
  rw[e] at t; cases t
  exact (cy j i h3 o (λh=>(by cases h)))
 | deep=>
  refine ae (K.deep x _ hp rfl) λj i=>?_
  rw[e] at j i
  rw[nodup_cons] at i
  exact (cy ((j a (.head _)).1) i.1 ((j a (.head _)).2) o (λuu=>⟨λb o=>j b (.tail _ o),i.2⟩))
end
section
variable (fns:Fns) (k:Nat) (C:Calls)
noncomputable def cX (st:S):Prop:=∀ {stmt:Stmt}{h0:Heap}{P Z:Addr->Prop}{A:Around}{env:Env}{σ:St}{vals:String->Option Value}{fp:String->List Addr}{s:Shared}{Q:Flow->Shared->Prop}{Er:Value->Shared->Prop}{σ':St}{fl:Flw},
 okS env.scope.names st stmt=true->SOK fns k h0 P Z A env s.heap σ vals fp->ex C st σ = .ok (σ',fl) ->
 (fl = .next->∀ s' vals' fp',Stp Z s s'->SOK fns k h0 P Z A env s'.heap σ' vals' fp'->Frm Z (asg st) σ vals fp σ' vals' fp'->Q .next s')->(∀ r,fl = .ret r->∀ v s',Stp Z s s'->ma h0 P r v s'->Q (.ret v) s') ->
 wpAny (model prog w) A (exec stmt env) Q Er s
noncomputable def eN (st:Ss):Prop:=∀ {stmts:List Stmt}{h0:Heap}{P Z:Addr->Prop}{A:Around}{env:Env}{σ:St}{vals:String->Option Value}{fp:String->List Addr}{s:Shared}{Q:Flow->Shared->Prop}{Er:Value->Shared->Prop}{σ':St}{fl:Flw},
 cV env.scope.names st stmts=true->SOK fns k h0 P Z A env s.heap σ vals fp->exs C st σ = .ok (σ',fl) ->
 (fl = .next->∀ s' vals' fp',Stp Z s s'->SOK fns k h0 P Z A env s'.heap σ' vals' fp'->Frm Z (ig st) σ vals fp σ' vals' fp'->Q .next s')->(∀ r,fl = .ret r->∀ v s',Stp Z s s'->ma h0 P r v s'->Q (.ret v) s') ->
 wpAny (model prog w) A (execs stmts env) Q Er s
end
section
theorem bnd {env:Env}{x:String}(h:bD env.scope.names x=true):varK env.scope.names x=true/\aX x=true/\(env.kindOf (Str.ofString x)=some .local\/env.kindOf (Str.ofString x)=some .cell):=by
 unfold bD at h
 simp only[and_eq_true,or_eq_true,beq_iff_eq] at h
 exact ⟨h.1.1,h.1.2,h.2⟩
theorem fm {env:Env}{x:String}{G:Prop}(h:bD env.scope.names x=true) (k:varK env.scope.names x=true->aX x=true->(env.kindOf (Str.ofString x)=some .local\/env.kindOf (Str.ofString x)=some .cell)->G):G:=aG (bnd h) k
theorem AB (K:SOK fns k h0 P Z A env s.heap σ vals fp) (E:EP (Own σ fp ns) s r v s') :
  ma h0 P r v s':=by
 obtain ⟨y,as,j,m,l,i⟩:=E
 have g:∀ a,s.heap.get? a=none->h0.get? a=none:=λa e=>by
  cases q:h0.get? a with
  | none=>rfl
  | some o=>obtain ⟨_,u⟩:=Internal.K.there K.kp0 q; rw[u] at e; exact nM e
 exact (bw as j (λa h=>(m a h).elim (λq=>(K.own q).2.2) λq=>.inr (g a q)) (λq=>aA (l q) λa x t p n=>(aM a x t (g a p) n)) (λq=>⟨λa h=>g a ((i q).1 a h),(i q).2⟩))
theorem jh {σa σ':St}{fl:Flw}{l:List String}{h0:Heap}{P Z:Addr->Prop}{A:Around}{env:Env}{σ:St}{vals:String->Option Value}{fp:String->List Addr}{s:Shared}{Q:Flow->Shared->Prop}(he:(Out.ok (σa,Flw.next):Out (St×Flw)) = .ok (σ',fl))
  (hN:fl = .next->∀ s' vals' fp',Stp Z s s'->SOK fns k h0 P Z A env s'.heap σ' vals' fp'->Frm Z l σ vals fp σ' vals' fp'->Q .next s'):∀ s' vals' fp',Stp Z s s'->SOK fns k h0 P Z A env s'.heap σa vals' fp'->Frm Z l σ vals fp σa vals' fp'->Q .next s':=by
 cases he
 exact hN rfl
theorem Ik {σa σ':St}{fl:Flw}{r:V×Mode}{N:V×Mode->Prop}(he:(Out.ok (σa,Flw.ret r):Out (St×Flw)) = .ok (σ',fl)) (hN:∀ r,fl = .ret r->N r):N r:=by
 cases he
 exact hN r rfl
theorem o6 (S:SimE fns k C XP e):cX fns k C (.ret e):=by
 intro p h0 P Z A y z o fp s Q Er q fl j K l hN x
 replace j:=tP j
 revert j; refine λg=>Or.elim g (λh=>?_) (λj=>?_)
 ·clear g
  refine av (h) λn m i j=>?_
  clear h
  subst i
  simp only[jJ] at l
  refine Out.bind_k l λr u l=>?_
  exact wpAny_Return_some (K.eval S j u λv t E=>Ik l x v t E.keeps.stp (AB K E))
 ·cases j
theorem su:cX fns k C (.raise c):=by
 intro i q P Z A l m h r s Q Er j t n K g p o
 exfalso
 simp only[dT] at g
 refine a9 g λuu uu g=>?_
 split at g<;>cases g
set_option tactic.hygienic true in
theorem vr:cX fns k C (.retn x):=by
 intro stmt h0 P Z A env σ vals fp s Q Er σ' fl i K n hN hR
 replace i:=AD i
 revert i; refine λj=>Or.elim j (λl=>?_) (λi=>?_)
 ·clear j
  refine bv (l) λu t p m i=>?_
  clear l
  subst m
  simp only[and_eq_true,beq_iff_eq] at i
  refine ae (i) λy hb=>?_
  clear i
  subst y
  refine fm hb λh1 h2 h3=>?_
  simp only[kQ] at n
  split at n
  ·rename_i r hr
   cases n
   refine ae (K.val x r hr) λuu g=>?_
   refine aq (g) λv hv z hd=>?_
   clear g
   have nh:∀ a,¬ Z a->h0.get? a=none:=λa e=>by
    cases q:h0.get? a with
    | none=>rfl
    | some o=>exact absurd (K.z0 a o q) e
   refine wpAny_Return_some (cC K.eok.kind h2 (K.loc.var K.eok hv) (hR r rfl v s (.refl Z s) (bw (fp x) z (λa h=>(hd a h).2) (λq=>?_) (λq=>?_))))
   ·refine aZ (K.top x r hr q) λa bs e1 e2 e3 _=>?_
    exact (aM a bs e1 (nh a e2) e3)
   ·refine ae (K.deep x r hr q) λe1 e2=>?_
    exact ⟨λa h=>nh a (e1 a h).1,e2⟩
  ·exact nB n
 ·cases i
theorem xI (T:SimT fns k C XP c) (Sa:eN fns k C a) (Sb:eN fns k C b):cX fns k C (.ite c a b):=by
 intro stmt h0 P Z A env σ vals fp s Q Er σ' fl h K i hN hR
 replace h:=tT h
 revert h; refine λj=>Or.elim j (λl=>?_) (λh=>?_)
 ·clear j
  refine cq (l) λMt z x u o h=>?_
  clear l
  subst o
  simp only[and_eq_true] at h
  simp only[eK] at i
  refine Out.bind_k i λr hr i=>?_
  refine Out.bind_k i λt ht i=>?_
  refine wpAny_If (K.evalT T h.1.1 (b:=t) (by rw[hr]; exact ht) λs₁ q=>?_)
  have K₁:=K.onK q.k
  cases t with
  | true=>
   rw[if_pos rfl] at i ⊢
   exact Sa h.1.2 K₁ i (λe n g p m K' F=>hN e n g p (q.stp.trans m) K' (F.more λy hy=>mem_append_left _ hy)) λr e v n m R=>hR r e v n (q.stp.trans m) R
  | false=>
   simp only[false_eq_true,if_false] at i ⊢
   exact Sb h.2 K₁ i (λe n g p m K' F=>hN e n g p (q.stp.trans m) K' (F.more λy hy=>mem_append_right _ hy)) λr e v n m R=>hR r e v n (q.stp.trans m) R
 ·cases h
theorem vg:eN fns k C .nil:=by
 intro n y P Z A u v m t s Q Er p fl l K o r x
 replace l:=CG l
 revert l; refine λg=>Or.elim g (λi=>?_) (λl=>?_)
 ·clear g
  refine ae (i) λj l=>?_
  clear i
  subst j
  simp only[dm] at o
  cases o
  exact wpAny_execs_nil (r rfl s m t (.refl Z s) K (.id λz q h=>⟨q,h⟩))
 ·cases l
theorem rU {st:S}{r:Ss}(S:cX fns k C st) (T:eN fns k C r):eN fns k C (.cons st r):=by
 intro z h0 P Z A env σ vals fp s Q Er σ' fl h K o hN hR
 replace h:=qZ h
 revert h; refine λi=>Or.elim i (λj=>?_) (λh=>?_)
 ·clear i
  refine av (j) λx u n h=>?_
  clear j
  subst n
  simp only[and_eq_true] at h
  simp only[bz] at o
  refine Out.bind_k o λLy h1 o=>?_
  obtain ⟨t,fla⟩:=Ly
  dsimp only at o
  refine wpAny_execs_cons (S h.1 K h1 (λe s' y fp' st K' F=>?_) λq e v s' st R=>?_)
  ·(clear h1; subst e)
   dsimp only at o ⊢
   exact T h.2 K' o (λe m g p l K'' F'=>hN e m g p (st.trans l) K'' (F.trans F')) λr e v m l R=>hR r e v m (st.trans l) R
  ·(clear h1; subst e)
   cases o
   exact hR q rfl v s' st R
 ·cases h
theorem uL (S:SimE fns k C XP e):cX fns k C (.expr e):=by
 intro stmt h0 P Z A env σ m fp s Q Er σ' fl l K n y hR
 replace l:=l7 l
 revert l; refine λg=>Or.elim g (λi=>?_) (λl=>?_)
 ·clear g
  refine jN (i) λx u t p o j l=>?_
  clear i
  subst j
  simp only[c8] at n
  refine Out.bind_k n λr hr n=>?_
  replace y:=jh n y
  clear n hR
  have hi:interactive env=false:=by unfold interactive; rw[K.eok.kind]; rfl
  exact wpAny_Expr_any (K.eval S l hr λv s' E=>y s' m fp E.keeps.stp ((K.onK E.keeps.k).consume _ _) (.id λz q h=>db h)) hi
 ·cases l
theorem SOK.same (K:SOK fns k h0 P Z A env h σ vals fp) (hm:h.Ns D m) (hZ:¬ Z D) (hL:D≠env.locals) (hf:∀ y q,σ y=some q->D∉fp y)
  (hs:Heap.SameBut D h h'):SOK fns k h0 P Z A env h' σ vals fp:=by
 have kz:∀ b o,Z b->h.get? b=some o->h'.get? b=some o:=λb o j e=>hs.extBut b o (λq=>hZ (q▸j)) e
 have i:=hm
 refine aV (i) λo es ep t x _=>?_
 clear i
 refine ⟨K.room,K.eok,K.ge,K.z0,Internal.K.same K.kp0 hs (K.h0n hZ) (λz e=>by rw[t] at e; injection e; exact Stay.not_dict x),K.code,K.out,λb j=>ak (K.zdom b j) λo e=>⟨o,kz b o j e⟩,K.loc.offA t (λv q=>by rw[x] at q; cases q) hL hs,λy q r=>?_,K.top,K.deep⟩
 refine ae (K.val y q r) λh1 g=>?_
 refine aq (g) λu h2 h3 h4=>?_
 clear g
 exact (aB h1 (aF u h2 (h3.spot (env:={env with locals:=D }) (.inl (aB rfl (bV m hm))) (λ⟨u,o,e,q⟩=>by obtain ⟨z,es,ep,n,p,_⟩:=hm; rw[e] at n; injection n; rw[q] at p; cases p) (λa ha (e:a=D)=>hf y q r (e▸ha)) hs) h4))
end
noncomputable def TrAt (N:Addr->Prop) (h:Heap) (e:Addr) (vs:Array Value) (fl:Value):Prop :=
 ∃ T oT ts,vs[1]? = some (.ref T)/\¬ N T/\T≠e/\h.get? T=some oT/\oT.cls = .type "traceback" /\ oT.data = .fields ts/\ts[3]? = some fl
noncomputable def Ex0 (N:Addr->Prop) (h:Heap) (c:String) (e:Addr) (vs:Array Value):Prop:=¬ N e/\c∈SF.excN/\∃ oe,h.get? e=some oe/\oe.cls = .ref (SF.exc c)/\oe.data = .fields vs
noncomputable def Exc (N:Addr->Prop) (h:Heap) (c:String) (L:Addr) (x:Value):Prop:=∃ e vs,x = .ref e/\Ex0 N h c e vs/\(vs[1]? = some .none\/∃ fl,(fl = .none\/fl=rawInt L)/\TrAt N h e vs fl)
noncomputable def FlyA (N:Addr->Prop) (h:Heap) (c:String) (fl:Value) (x:Value):Prop:=∃ e vs,x = .ref e/\Ex0 N h c e vs/\TrAt N h e vs fl
noncomputable def Fly (N:Addr->Prop) (h:Heap) (c:String) (x:Value):Prop:=FlyA N h c .none x
theorem Fly.exc (f:Fly N h c x):Exc N h c L x:=aA (f) λe g k j i=>(aM e g k j (.inr (ah _ (.inl rfl) i)))
theorem FlyA.exc {N:Addr->Prop}{h:Heap}{c:String}{L:Addr}{x:Value}(f:FlyA N h c (rawInt L) x):Exc N h c L x:=aA (f) λe g k j i=>(aM e g k j (.inr (ah _ (.inr rfl) i)))
theorem TrAt.old (t:TrAt N h e vs fl) (hn:∀ b,N' b->N b):TrAt N' h e vs fl:=aV (t) λT g ts a b r=>(cF T g ts a (λq=>b (hn _ q)) r)
theorem FlyA.old (f:FlyA N h c fl x) (hn:∀ b,N' b->N b):FlyA N' h c fl x:=aA (f) λe i k g j=>(aM e i k ⟨λq=>g.1 (hn _ q),g.2⟩ (j.old hn))
theorem Exc.old (f:Exc N h c L x) (hn:∀ b,N' b->N b):Exc N' h c L x:=aA (f) λe i k g j=>(aM e i k ⟨λq=>g.1 (hn _ q),g.2⟩ (j.imp id λ⟨l,q,t⟩=>(ah l q (t.old hn))))
noncomputable def Chg (N:Addr->Prop) (h h':Heap):Prop:=∀ b o,h.get? b=some o->h'.get? b=some o\/(∃ es ep,¬ SF.old b/\o.cls = .type "frame" /\ o.data = .dict es ep/\∃ sl,h'.get? b=some {o with slots:=sl })\/(¬ N b/\¬ Stay o/\∃ fs,o.data = .fields fs)
theorem Chg.kg (c:Chg N h h'):KG N h h':=λb o g e=>by
 rcases c b o e with q | ⟨es,ep,h1,h2,h3,sl,h4⟩ | ⟨h1,h2,_⟩
 ·exact (ah o q (.same rfl))
 ·exact (ah _ h4 (.frame es ep h1 h2 h3 rfl rfl rfl))
 ·exact absurd g (λq=>q.elim h1 h2)
theorem Chg.frames (c:Chg N h h') (x:FrOk h l):FrOk h' l:=λi t=>by
 obtain ⟨n,L,o,p,r,m,k,u,j,g⟩:=x i t
 rcases c L o u with q | ⟨_,_,_,_,_,sl,q⟩ | ⟨_,_,fs,q⟩
 ·exact (aB n (j4 L o p r m k q j g))
 ·exact (aB n (j4 L _ p r m k q j g))
 ·rw[g] at q; cases q
noncomputable def noH (h:Heap):Heap:={h with objs:=#[] }
theorem A7 (h:Heap) (b:Addr):(noH h).get? b=none:=rfl
theorem FrOk.fun:∀ {l:List Env},FrOk h l->h.FunFrames (noH h) l
 | [],_=>trivial
 | env::l,x=>by
  obtain ⟨m,L,o,t,u,k,r,j,p,i⟩:=x env (.head _)
  exact ⟨by rw[m]; decide,(be L o k (A7 h L) j (λn q=>by rw[i] at q; cases q)),FrOk.fun λy g=>x y (.tail _ g)⟩
section
variable {M:Model}{A:Around}{E:Value->Shared->Prop}{env:Env}{l:List Env}{h:Heap}{g:Array GenState}{dr:Drawn}{tk:Nat}{os:OsState}{c:String}{x:Value}{Q:Unit->Shared->Prop}{N:Addr->Prop}{L:Addr}
theorem yc (hN:∀ b,N b->∃ o,h.get? b=some o) (hfr:A.frames=some (env::l)) (hF:FrOk h (env::l)) (hf:env.frame=some L) (he:Ex0 N h c e vs) (hsz:1<vs.size)
  (hQ:∀ h',FlyA N h' c (rawInt L) (.ref e)->Chg N h h'->Q () ⟨h',g,dr,tk,os⟩) :
  wpAny M A (do let a <- frameOf env; let pl <- entryPlaceOf L hadNext; let b <- EntryCells.newEntry head a .none (rawInt L) .none pl; setField (.ref e) 1 b) Q E ⟨h,g,dr,tk,os⟩:=by
 refine aG (he) λne cn m=>?_
 clear he
 refine aq (m) λoe ee hc hd=>?_
 clear m
 have hl:=hF.fun
 have notf:∀ b o fs,h.get? b=some o->o.data = .fields fs->b∉(env::l).filterMap (·.frame):=λb o fs u hb hm=>by
  refine ae (hl.mem hm) λuu k=>?_
  refine af (k) λz y hnf=>?_
  clear k
  rw[u] at y; injection y
  exact hnf fs hb
 refine wpAny_bind (wpAny_frameOf_fun (s:=⟨h,g,dr,tk,os⟩) hfr hl hf λi j=>?_)
 refine wpAny_bind (wpAny_entryPlaceOf λpl hpl=>?_)
 unfold EntryCells.newEntry newFields
 refine wpAny_bind (wpAny_newObj_type ?_ (hpl.sizeOk5 _ _ _ _ _))
 generalize hts:([head,.ref L,.none,rawInt L,.none]++(if pl.isEmpty then List.replicate 6 Value.none else pl)).toArray=ts
 have h3:ts[3]? = some (rawInt L):=by rw[<- hts]; simp
 have r:i.get? e=some oe:=(j.2.1 e (notf e oe vs ee hd)).trans ee
 have p:=Heap.get?_push_of_some (h:=i) {cls:=.type "traceback", dict:=none,data:=.fields ts } r
 have x:i.objs.size≠e:=ne_of_gt (lt_size r)
 have hTN:¬ N i.objs.size:=λq=>by
  refine ak (hN _ q) λo eo=>?_
  have:=lt_size eo
  rw[j.1] at this
  exact lt_irrefl _ this
 have n:=Obj.data_mapFields hd (·.setIfInBounds 1 (Value.ref i.objs.size))
 refine wpAny_setField p hd hsz (hQ _ (aM e _ rfl (cg ne cn (aF _ (Heap.get?_update_self _ p (Obj.isFreed_of_fields n)) ((Obj.cls_mapFields _ _).trans hc) n)) (lZ i.objs.size _ ts (by simp[hsz]) hTN x ((Heap.get?_update_other _ _ (Ne.symm x)).trans (Heap.get?_push_size i rfl)) rfl rfl h3)) λb o u=>?_)
 by_cases hbe:b=e
 ·(clear r p hQ x; subst hbe)
  rw[ee] at u; injection u
  exact .inr (.inr (cg ne (Stay.not_cls (by rw[hc]; simp) (by rw[hc]; simp)) (bV vs hd)))
 ·have t:∀ z,i.get? b=some z->((i.push {cls:=.type "traceback", dict:=none,data:=.fields ts }).update e (Obj.mapFields (·.setIfInBounds 1 (Value.ref i.objs.size)))).get? b=some z:=λz y=>by
   rw[Heap.get?_update_other _ _ (Ne.symm hbe)]
   exact Heap.get?_push_of_some _ y
  by_cases hm:b∈(env::l).filterMap (·.frame)
  ·refine af (List.mem_filterMap.mp hm) λenv' he' hb'=>?_
   obtain ⟨_,L',z,es,ep,f1,f2,f3,f4,f5⟩:=hF env' he'
   rw[hb'] at f1; injection f1
   rw[u] at f3; injection f3
   refine ak (j.2.2 b o u) λsl y=>?_
   exact .inr (.inl (be es ep f2 f4 f5 (bV sl (t _ y))))
  ·exact .inl (t o ((j.2.1 b hm).trans u))
theorem Chg.upd {ts:Array Value}(ht:h.get? T=some oT) (hc:oT.cls = .type "traceback") (hd:oT.data = .fields ts) (hn:¬ N T):Chg N h (h.update T (Obj.mapFields (·.setIfInBounds 3 v))):=λb o g=>by
 by_cases hb:b=T
 ·subst hb
  rw[ht] at g; injection g
  exact .inr (.inr (cg hn (Stay.not_cls (by rw[hc]; simp) (by rw[hc]; simp)) (bV ts hd)))
 ·exact .inl ((Heap.get?_update_other _ _ (Ne.symm hb)).trans g)
theorem xO (hN:∀ b,N b->∃ o,h.get? b=some o) (hfr:A.frames=some (env::l)) (hF:FrOk h (env::l)) (hf:env.frame=some L) (hx:Exc N h c L x)
  (hQ:∀ h',FlyA N h' c (rawInt L) x->KG N h h'->FrOk h' (env::l)->Q () ⟨h',g,dr,tk,os⟩):wpAny M A (noteFrame x env) Q E ⟨h,g,dr,tk,os⟩:=by
 refine aA (hx) λe vs p h0 n=>?_
 clear hx
 subst p
 refine aG (h0) λt v i=>?_
 clear h0
 refine aq (i) λr m u j=>?_
 clear i
 unfold noteFrame
 simp only[hf]
 rcases n with n | ⟨fl,hfl,T,oT,ts,h1,hTN,hTe,hT,hTc,hTd,h3⟩
 ·refine wpAny_bind (wpAny_field m j n ?_)
  rw[if_neg (by decide)]
  exact yc hN hfr hF hf (cg t v (aF r m u j)) (Array.getElem?_eq_some_iff.mp n).1 λh' f k=>hQ h' f k.kg (k.frames hF)
 ·refine wpAny_bind (wpAny_field m j h1 ?_)
  rw[if_pos (show (Value.ref T != Value.none)=true from by simp)]
  refine wpAny_bind (wpAny_field hT hTd h3 ?_)
  rcases hfl with rfl | rfl
  ·rw[if_neg (show ¬ ((Value.none==rawInt L)=true) from by simp[rawInt])]
   refine wpAny_bind (wpAny_setField hT hTd (Array.getElem?_eq_some_iff.mp h3).1 ?_)
   have y:Chg N h (h.update T (Obj.mapFields (·.setIfInBounds 3 Value.none))):=Chg.upd hT hTc hTd hTN
   refine yc (λb z=>?_) hfr (y.frames hF) hf (cg t v (aF r ((Heap.get?_update_other _ _ hTe).trans m) u j)) (Array.getElem?_eq_some_iff.mp h1).1 λh' f k=>hQ h' f (y.kg.trans k.kg) (k.frames (y.frames hF))
   refine ak (hN b z) λo e=>?_
   exact ⟨o,(Heap.get?_update_other _ _ (show T≠b from λq=>hTN (by rw[q]; exact z))).trans e⟩
  ·rw[if_pos (show (rawInt L==rawInt L)=true from by simp)]
   exact wpAny_pure (hQ h (aM e vs rfl (cg t v (aF r m u j)) (lZ T oT ts h1 hTN hTe hT hTc hTd h3)) .refl hF)
theorem lX (hF:FrOk h l) (hx:FlyA N h c fl x) (hQ:∀ h',FlyA N h' c (fr.elim .none λf=>rawInt f) x->KG N h h'->FrOk h' l->Q () ⟨h',g,dr,tk,os⟩):wpAny M A (setFlight x fr) Q E ⟨h,g,dr,tk,os⟩:=by
 obtain ⟨e,z,q,k,T,oT,ts,u,p,n,r,o,j,h3⟩:=hx
 subst q
 refine aG (k) λne cn i=>?_
 clear k
 refine aq (i) λoe v hc t=>?_
 clear i
 unfold setFlight
 refine wpAny_bind (wpAny_field v t u ?_)
 rw[if_pos (show (Value.ref T != Value.none)=true from by simp)]
 have m:=(Array.getElem?_eq_some_iff.mp h3).1
 have y:Chg N h (h.update T (Obj.mapFields (·.setIfInBounds 3 (fr.elim .none λf=>rawInt f)))):=Chg.upd r o j p
 exact wpAny_setField r j m (hQ _ (aM e z rfl (cg ne cn (aF oe ((Heap.get?_update_other _ _ n).trans v) hc t)) (lZ T _ _ u p n (Heap.get?_update_self _ r (Obj.isFreed_of_fields (Obj.data_mapFields j _))) ((Obj.cls_mapFields _ _).trans o) (Obj.data_mapFields j _) (by simp[m]))) y.kg (y.frames hF))
theorem C2 (hN:∀ b,N b->∃ o,h.get? b=some o) (hfr:A.frames=some (env::l)) (hF:FrOk h (env::l)) (hf:env.frame=some L) (hx:Exc N h c L x)
  (hQ:∀ h',Fly N h' c x->KG N h h'->Q () ⟨h',g,dr,tk,os⟩):wpAny M A (leaving env x) Q E ⟨h,g,dr,tk,os⟩:=by
 unfold leaving
 exact wpAny_bind (xO hN hfr hF hf hx λp n j q=>lX q n λk m i _=>hQ k m (j.trans i))
theorem Jv (hN:∀ b,N b->∃ o,h.get? b=some o) (hfr:A.frames=some (env::l)) (hF:FrOk h (env::l)) (hf:env.frame=some L) (hx:Exc N h c L x)
  (hQ:∀ h',Exc N h' c L x->KG N h h'->FrOk h' (env::l)->E' x ⟨h',g,dr,tk,os⟩):notedBy (model prog w) A env (cameBackBy (model prog w) A env E') x ⟨h,g,dr,tk,os⟩:=by
 refine xO hN hfr hF hf hx λv k p F₁=>?_
 refine aA (k) λe vs t m j=>?_
 clear k
 refine bv (j) λT oT ts z u=>?_
 clear j
 (clear hx; subst t)
 refine aG (m) λne cn i=>?_
 clear m
 refine aq (i) λoe ee hc y=>?_
 clear i
 refine wpAny_bind (wpAny_field ee y z ?_)
 rw[if_neg (show ¬ (Value.ref T==Value.none)=true from by simp),hf]
 exact lX F₁ (aM e vs rfl (cg ne cn (aF oe ee hc y)) (cz T oT ts z u)) λq r n F₂=>hQ q r.exc (p.trans n) F₂
end
noncomputable def dom (h:Heap) (b:Addr):Prop:=∃ o,h.get? b=some o
noncomputable def XPc (c:String) (s:Shared) (x:Value) (s':Shared):Prop:=Kp s s'/\Fly (dom s.heap) s'.heap c x
theorem XPc.of (k:Kp s s₁) (h:XPc c s₁ x s'):XPc c s x s':=⟨k.trans h.1,h.2.old λuu ⟨_,e⟩=>af (k.k _ _ (.inl trivial) e) λg i uu=>⟨g,i⟩⟩
theorem bE:∀ (c:String) (s s₁:Shared) (x:Value) (s':Shared),Kp s s₁->XPc c s₁ x s'->XPc c s x s':=λuu uu uu uu uu k h=>.of k h
noncomputable def Lv (A:Around) (env:Env) (h:Heap):Prop:=∃ l,A.frames=some (env::l)/\FrOk h (env::l)/\env.frame=some env.locals
section
variable (fns:Fns) (k:Nat) (C:Calls)
noncomputable def cS (st:S):Prop:=∀ {stmt:Stmt}{h0:Heap}{P Z:Addr->Prop}{A:Around}{env:Env}{σ:St}{vals:String->Option Value}{fp:String->List Addr}{s:Shared}{Q:Flow->Shared->Prop}{Er:Value->Shared->Prop}{c:String},
 okS env.scope.names st stmt=true->SOK fns k h0 P Z A env s.heap σ vals fp->ex C st σ = .exc c->(∀ x s',Stp Z s s'->Lv A env s'.heap->Exc Z s'.heap c env.locals x->Er x s')->wpAny (model prog w) A (exec stmt env) Q Er s
noncomputable def eU (st:Ss):Prop:=∀ {stmts:List Stmt}{h0:Heap}{P Z:Addr->Prop}{A:Around}{env:Env}{σ:St}{vals:String->Option Value}{fp:String->List Addr}{s:Shared}{Q:Flow->Shared->Prop}{Er:Value->Shared->Prop}{c:String},
 cV env.scope.names st stmts=true->SOK fns k h0 P Z A env s.heap σ vals fp->exs C st σ = .exc c->(∀ x s',Stp Z s s'->Lv A env s'.heap->Exc Z s'.heap c env.locals x->Er x s')->wpAny (model prog w) A (execs stmts env) Q Er s
end
section
noncomputable def t8:Expr->Bool
 | .ListComp .. | .SetComp .. | .DictComp ..=>false
 | _=>true
theorem gv (h:t8 v=true) (t:Option Expr) (l:Nat) (env:Env):swapsWith v t l env=pure false:=by
 cases v<;>first | rfl | exact nF h
theorem lm {gs:List Comprehension}:swapsWith (.ListComp e gs sc p) (some (.Name t q)) l env=pure true\/swapsWith (.ListComp e gs sc p) (some (.Name t q)) l env=pure false:=by
 have g:swapsWith (.ListComp e gs sc p) (some (.Name t q)) l env=pure (env.blockKind == .function&&env.kindOf t==some .local&&q.line==(Expr.ListComp e gs sc p).pos.line && !(sc.names.any λ(n,k)=>n==t&&(k == .local||k == .cell))):=rfl
 rw[g]
 generalize (env.blockKind == .function&&env.kindOf t==some .local&&q.line==(Expr.ListComp e gs sc p).pos.line && !(sc.names.any λ(n,k)=>n==t&&(k == .local||k == .cell)))=b
 cases b
 ·exact .inr rfl
 ·exact .inl rfl
theorem jB {ex:Expr}(hp:gZ e=false) (h:okE ns e ex=true):t8 ex=true:=by
 cases ex with
 | ListComp _ _ _ _=>
  cases e with
  | comp _ _ _=>exact nT hp
  | compif _ _ _ _=>exact nT hp
  | _=>exact Bool.noConfusion (show false=true from h)
 | _=>first | rfl | (cases e<;>exact Bool.noConfusion (show false=true from h))
theorem lO {px pt:Pos}{elt iter:Expr}
  (hsc:gH env.scope.names sc x=true) (X:Cx fns k A P h env σ) (hset:∀ v,foldedSetIterable iter env v=pure v) (hsw:swapsWith (.ListComp elt [⟨.Name (Str.ofString x) px,iter,ifs,0⟩] sc pos) (some (.Name (Str.ofString t) pt)) spos.line env=pure true)
  (h:∀ cl:List (Str×Addr),(∀ n,(n,NameKind.free)∈sc.names->cl.lookup n=env.cells.lookup n)->wpAny (model prog w) A (eval iter env) (λv s₁=>wpAny (model prog w) A (pyIter v) (λi z=>wpAny (model prog w) A (newObj (.type "list") (.seq #[]) none) (λacc s₃=>
   wpAny (model prog w) A (newFunctionEnv sc env.globals cl [] env.qual none .none (some env)) (λcenv s₄=>
    codeAny (model prog w) A (.compStart (.ListComp elt [⟨.Name (Str.ofString x) px,iter,ifs,0⟩] sc pos) 0 i acc {cenv with scope:=relabel sc env }) (compPost (model prog w) A Er (some (assign (.Name (Str.ofString t) pt) env)) (λuu s'=>Q .next s') acc cenv.locals) s₄) Er s₃) Er z) Er s₁) Er s) :
  wpAny (model prog w) A (exec (.Assign [.Name (Str.ofString t) pt] (.ListComp elt [⟨.Name (Str.ofString x) px,iter,ifs,0⟩] sc pos) spos) env) Q Er s:=by
 refine cG (iC hsc) λhk l q g=>?_
 obtain ⟨cl,m,j⟩:=ln (scope:=sc) (env:=env) (λp u e=>by
  rcases g p u with h | h | h | h
  ·rw[h.1] at e; cases e
  ·rw[h] at e; cases e
  ·rw[h.1] at e; cases e
  ·exact X.eok.cells p.1 h.2)
 rw[exec_Assign_Name_used _ _ _ _ hsw]
 refine wpAny_bind (wpAny_standAt (wpAny_bind ?_))
 show wpAny _ A (do let _ <- comprehension (.ListComp elt [⟨.Name (Str.ofString x) px,iter,ifs,0⟩] sc pos) sc env _ (newList []) false (eval iter env) (some (assign (.Name (Str.ofString t) pt) env))) _ _ s
 exact wpAny_bind (wpAny_mono (wpAny_comprehension_free (use:=some (assign (.Name (Str.ofString t) pt) env)) (Q:=λuu s'=>Q .next s') rfl hset m hk (λy o e=>by rw[<- e]; exact iQ l o) (h cl j)) (λuu s' r=>wpAny_pure (wpAny_pure r)) λuu uu e=>e)
theorem pM {h0:Heap}{P Z:Addr->Prop}{A:Around}{env:Env}{σ:St}{vals:String->Option Value}{fp:String->List Addr}{s s₂:Shared}{Q:Flow->Shared->Prop}{Er:Value->Shared->Prop}{x:String}{px:Pos}{ns:List String}{d:PyData}{md:Mode}{v:Value}{h:Heap}{tk:Nat}{D:Addr}{m:Str->Option Value}
  (K:SOK fns k h0 P Z A env s.heap σ vals fp) (hb:bD env.scope.names x=true) (E:EP (Own σ fp ns) s (.d d,md) v {s₂ with heap:=h,toks:=tk }) (hm:h.Ns D m) (hD:s.heap.get? D=none)
  (hN:∀ s' vals' fp',Stp Z s s'->SOK fns k h0 P Z A env s'.heap (upd (consume σ ns md) x (.d d,md)) vals' fp'->Frm Z [x] σ vals fp (upd (consume σ ns md) x (.d d,md)) vals' fp'->Q .next s') :
  compPost (model prog w) A Er (some (assign (.Name (Str.ofString x) px) env)) (λuu s'=>Q .next s') v D (.ok .next) {s₂ with heap:=h,toks:=tk }:=by
 refine fm hb λh1 h2 h3=>?_
 show wpAny _ A (assign (.Name (Str.ofString x) px) env v) _ _ _
 refine wpAny_assign_Name (K.put_ep h1 h3 E λs' as rv st kk K' F=>?_)
 have dL:D≠env.locals:=λq=>by
  refine af (K.loc.ns) λm' p _=>?_
  refine bv (p) λo _ _ e _=>?_
  clear p
  rw[<- q] at e
  rw[hD] at e; exact nN e
 have r:=hm
 refine aV (r) λo es ep ho z hr=>?_
 clear r
 have j:=kk D o dL (λu q=>by rw[z] at q; cases q) ho
 have t:s'.heap.Ns D m:=(cF o es ep j z hr)
 refine (ah m t (λh' hs=>hN _ _ _ ?_ (K'.same t (λhz=>?_) dL (λy q l hf=>?_) hs) F))
 ·refine (E.keeps.stp.trans st).same hs (λhz=>?_) λo' e=>by rw[j] at e; injection e; exact Stay.not_dict z
  refine ak (K.zdom D hz) λo e=>?_
  rw[hD] at e; exact nN e
 ·refine ak (K.zdom D hz) λo e=>?_
  rw[hD] at e; exact nN e
 ·split at hf
  ·refine ba (rv.1.there D hf) λuu uu e=>?_
   rw[ho] at e; (have oc:=Option.some.inj e; clear e; (clear ho j; subst oc)); cases z
  ·rename_i hy
   unfold upd at l
   rw[if_neg hy] at l
   have:∃ n,σ y=some n:=by
    unfold consume at l
    split at l
    ·exact ⟨q,l⟩
    ·obtain ⟨n,i,_⟩:=b6 l; exact ⟨n,i⟩
   refine ak (this) λn i=>?_
   clear this
   refine ae (K.val y n i) λuu g=>?_
   refine aq (g) λu _ hr _=>?_
   clear g
   refine ak (hr.there D hf) λo e=>?_
   rw[hD] at e; exact nN e
theorem tu (h:gZ e=true):(∃ elt y it,e = .comp elt y it)\/∃ elt y it c,e = .compif elt y it c:=by
 cases e with
 | comp elt y it=>exact .inl ⟨_,_,_,rfl⟩
 | compif elt y it c=>exact .inr ⟨_,_,_,_,rfl⟩
 | _=>exact nF h
theorem kv (S:SimE fns k C XP e) (Sc:(∀ elt y it,e = .comp elt y it->d9 fns k C XP it/\SimE fns k C XP elt)/\∀ elt y it c,e = .compif elt y it c->d9 fns k C XP it/\SimE fns k C XP elt/\SimT fns k C XP c):cX fns k C (.assign x e):=by
 intro stmt h0 P Z A env σ vals fp s Q Er σ' fl ok K he hN hR
 replace ok:=jw ok
 revert ok; refine λL1=>Or.elim L1 (λLL=>?_) (λok=>?_)
 ·clear L1
  refine cq (LL) λt pt v spos Mr ok=>?_
  clear LL
  subst Mr
  simp only[and_eq_true,beq_iff_eq] at ok
  refine ae (ok) λLx oe=>?_
  clear ok
  refine ae (Lx) λLB hb=>?_
  clear Lx
  subst LB
  refine fm hb λh1 h2 h3=>?_
  simp only[a7] at he
  refine Out.bind_k he λr hr he=>?_
  replace hr:=Bz hr
  replace hN:=jh he hN
  clear he hR
  have n:swapsWith v (some (.Name (Str.ofString x) pt)) spos.line env=pure false->wpAny (model prog w) A (exec (.Assign [.Name (Str.ofString x) pt] v spos) env) Q Er s:=λhsw=>by
   refine wpAny_Assign_Name (K.eval S oe hr λu s' E=>?_) hsw
   exact K.put_ep h1 h3 E λs'' as rv st kk K' F=>hN s'' _ _ (E.keeps.stp.trans st) K' F
  cases hc:gZ e with
  | false=>exact n (gv (jB hc oe) _ _ _)
  | true=>
   refine Or.elim (tu hc) (λq0=>?_) (λq0=>?_)
   ·refine Jt (q0) λelt y it e0=>?_
    clear q0
    refine ae (Sc.1 elt y it e0) λSi Se=>?_
    clear Sc S hc
    subst e0
    replace oe:=uB oe
    revert oe; refine λMf=>Or.elim Mf (λLO=>?_) (λoe=>?_)
    ·clear Mf
     refine s6 (LO) λee ty py iter sc pos Nd oe=>?_
     clear LO
     subst Nd
     rcases lm (e:=ee) (gs:=[⟨.Name ty py,iter,[],0⟩]) (sc:=sc) (p:=pos) (t:=Str.ofString x) (q:=pt) (l:=spos.line) (env:=env) with hsw | hsw
     ·simp only[and_eq_true,beq_iff_eq] at oe
      revert oe; intro MV
      refine ae (MV) λLz oe=>?_
      clear MV
      refine ae (Lz) λLC oi=>?_
      clear Lz
      refine ae (LC) λLF hsc=>?_
      clear LC
      (clear n; subst LF)
      have X:=K.cx (fv (.comp elt y it))
      have e1:ev C (.comp elt y it) (cD σ (fv (.comp elt y it))) = .ok r:=by rw[az C _ _ σ (b0 σ _)]; exact hr
      simp only[il] at e1
      refine Out.bind_k e1 λq hq e1=>?_
      refine Out.bind_k e1 λres g e1=>?_
      (have j:=Out.ok.inj e1; clear e1; (clear hr; subst j))
      refine lO hsc X (mz oi env) hsw λcl hcl=>Si oi X (by rw[hq]; simp) (λq' hq' i s₂ I=>?_) λc hc=>by rw[hq] at hc; cases hc
      rw[hq] at hq'; injection hq'
      obtain ⟨res',o⟩:=eS (by rw[g]; simp:(bp _ q.1).calm≠.bad)
      rw[o] at g; injection g
      refine fq (RR:=λacc C=>compPost (model prog w) A Er (some (assign (.Name (Str.ofString x) pt) env)) (λuu s'=>Q .next s') acc C) (ds:=q.1) hsc X o (λd r hf cenv s₃ P' Q₁ Qb Er' hNm X' g1 g2=>wpAny_tests_nil ?_) I (λD C h tk m E hm hC=>pM K hb E hm hC λs' vals' fp' st K' F=>hN s' vals' fp' st K' F) hcl
      rw[if_pos rfl]
      refine Out.bind_k hf λz hz e=>?_
      (have j:=Out.ok.inj e; clear e; (clear g1 hf; subst j))
      exact Se (hNm▸oe) X' (by rw[hz]; simp) (λr hr v s' E=>g2 r (by rw[hz] at hr; (have j:=Out.ok.inj hr; clear hr; (clear E; subst j)); rfl) v s' E) λc hc=>by rw[hz] at hc; cases hc
     ·exact n hsw
    ·cases oe
   ·refine H0 (q0) λelt y it c e0=>?_
    clear q0
    refine aG (Sc.2 elt y it c e0) λSi Se Sc'=>?_
    clear Sc S hc
    subst e0
    replace oe:=pR oe
    revert oe; refine λMe=>Or.elim Me (λLZ=>?_) (λoe=>?_)
    ·clear Me
     refine fX (LZ) λee ty py iter ff sc pos Ng oe=>?_
     clear LZ
     subst Ng
     rcases lm (e:=ee) (gs:=[⟨.Name ty py,iter,[ff],0⟩]) (sc:=sc) (p:=pos) (t:=Str.ofString x) (q:=pt) (l:=spos.line) (env:=env) with hsw | hsw
     ·simp only[and_eq_true,beq_iff_eq] at oe
      revert oe; intro MP
      refine ae (MP) λLI oe=>?_
      clear MP
      refine ae (LI) λLD j=>?_
      clear LI
      refine ae (LD) λLy oi=>?_
      clear LD
      refine ae (Ly) λLG hsc=>?_
      clear Ly
      (clear n; subst LG)
      have X:=K.cx (fv (.compif elt y it c))
      have e1:ev C (.compif elt y it c) (cD σ (fv (.compif elt y it c))) = .ok r:=by rw[az C _ _ σ (b0 σ _)]; exact hr
      simp only[fw] at e1
      refine Out.bind_k e1 λq hq e1=>?_
      refine Out.bind_k e1 λres g e1=>?_
      (have j:=Out.ok.inj e1; clear e1; (clear hr; subst j))
      refine lO hsc X (mz oi env) hsw λcl hcl=>Si oi X (by rw[hq]; simp) (λq' hq' i s₂ I=>?_) λc hc=>by rw[hq] at hc; cases hc
      rw[hq] at hq'; injection hq'
      obtain ⟨res',o⟩:=eS (by rw[g]; simp:(bp _ q.1).calm≠.bad)
      rw[o] at g; injection g
      refine fq (RR:=λacc C=>compPost (model prog w) A Er (some (assign (.Name (Str.ofString x) pt) env)) (λuu s'=>Q .next s') acc C) (ds:=q.1) hsc X o (λd r hf cenv s₃ P' Q₁ Qb Er' hNm X' g1 g2=>wpAny_tests_one ?_) I (λD C h tk m E hm hC=>pM K hb E hm hC λs' vals' fp' st K' F=>hN s' vals' fp' st K' F) hcl
      refine Out.bind_k hf λt ht hf=>?_
      refine Out.bind_k hf λb hb' hf=>?_
      refine Sc' (hNm▸j) X' (by rw[ht,Out.ok_bind,hb']; simp) (λb'' hb'' s₄ kd=>?_) λc hc=>by rw[ht] at hc; cases hc
      rw[ht,Out.ok_bind,hb'] at hb''
      injection hb''
      cases b with
      | false=>(have j:=Out.ok.inj hf; clear hf; (clear g2; subst j)); simpa using g1 rfl s₄ kd
      | true=>
       rw[if_pos rfl] at hf ⊢
       refine Out.bind_k hf λz hz e=>?_
       (have j:=Out.ok.inj e; clear e; (clear g1; subst j))
       exact Se (hNm▸oe) (X'.k kd.k) (by rw[hz]; simp) (λr hr v s' E=>g2 r (by rw[hz] at hr; (have j:=Out.ok.inj hr; clear hr; (clear E; subst j)); rfl) v s' (E.after kd)) λc hc=>by rw[hz] at hc; cases hc
     ·exact n hsw
    ·cases oe
 ·cases ok
end
section
variable {fns:Fns}{k:Nat}{C:Calls}{XP:String->Shared->Value->Shared->Prop}
variable {h0:Heap}{P Z:Addr->Prop}{A:Around}{env:Env}{σ:St}{vals:String->Option Value}{fp:String->List Addr}
theorem SOK.putl {s s₂:Shared}{h':Heap}{ns:List String}{x:String}{xs zs:List PyData}{mx m:Mode}{as:List Addr}{σ':St}{fl:Flw}{a:Addr}{vs vs':List Value}{n n':Nat}{bs bs':List Addr}
  (K:SOK fns k h0 P Z A env s.heap σ vals fp) (kp:Kp s s₂) (ha:∀ b∈as,Own σ fp ns b\/s.heap.get? b=none) (hdp:m = .deep->(∀ b∈as,s.heap.get? b=none)/\as.Nodup)
  (hx:σ x=some (.d (.list xs),mx)) (hput:gB σ x ns mx zs m = .ok (σ',fl)) (hm:mx≠.sh)
  (hv:vals x=some (.ref a)) (ea:s.heap.get? a=some ⟨.type "list", none,.seq vs.toArray n,#[]⟩) (hfp:fp x=a::bs) (hZ:¬ Z a) (hab:a∉bs) (hne:∀ y q,y≠x->σ y=some q->a∉fp y) (hP:∀ b∈a::bs,b≠env.locals/\(P b\/h0.get? b=none))
  (hdx:mx = .deep->(∀ b∈bs,¬ Z b/\∀ y q,y≠x->σ y=some q->b∉fp y)/\bs.Nodup)
  (hs:Heap.SameBut a s₂.heap h') (ea':h'.get? a=some ⟨.type "list", none,.seq vs'.toArray n',#[]⟩) (rr:RA s₂.heap vs' zs bs') (hz:∀ z∈zs,sz z=true) (hbs:∀ b∈bs',b∈bs\/b∈as) (hnd:(bs++as).Nodup->bs'.Nodup) :
  fl = .next/\∃ fp',SOK fns k h0 P Z A env h' σ' vals fp'/\Frm Z [x] σ vals fp σ' vals fp':=by
 have nz:∀ a,s.heap.get? a=none->¬ Z a:=λa e hz=>by
  refine ak (K.zdom a hz) λo e'=>?_
  rw[e] at e'; exact nN e'
 have nf:∀ a,s.heap.get? a=none->∀ y q,σ y=some q->a∉fp y:=λa e y q r hm=>by
  refine ae (K.val y q r) λuu MF=>?_
  refine aq (MF) λu _ hr _=>?_
  clear MF
  refine ak (hr.there a hm) λo e'=>?_
  rw[e] at e'; exact nN e'
 unfold gB at hput
 split at hput
 ·rename_i hlen
  have l:=kp.k.get ea rfl
  have main:∀ (g:m = .deep\/x∉ns),a∉as:=λg hm=>by
   refine Or.elim (ha a hm) (λLL=>?_) (λh1=>?_)
   ·refine aA (LL) λz q hz r hf=>?_
    clear LL
    rcases g with hc | hc
    ·have:=(hdp hc).1 a hm
     rw[ea] at this; exact nM this
    ·exact hne z q (λe=>hc (e▸hz)) r hf
   ·rw[ea] at h1; exact nM h1
  have rv':(g:m = .deep\/x∉ns)->RV h' (.ref a) (.d (.list zs)) (a::bs'):=λg=>by
   refine ⟨.list ea' (rr.off (wr:=[a]) (λb hb o e=>.inr ?_) λb o hb e=>hs.extBut b o (λq=>hb (by simp[q])) e),sz_list.mpr ⟨?_,hz⟩⟩
   ·rw[mem_singleton.mp hb] at e ⊢
    rw[l] at e; injection e
    exact ⟨by simp,λhm=>(hbs a hm).elim hab (main g)⟩
   ·unfold lim at hlen; exact yl hlen
  have pb:∀ b∈bs',b≠env.locals/\(P b\/h0.get? b=none):=λb hb=>by
   rcases hbs b hb with h1 | h1
   ·exact hP b (.tail _ h1)
   ·rcases ha b h1 with h2 | h2
    ·exact (K.own h2).2
    ·refine ⟨λq=>?_,.inr ?_⟩
     ·refine af (K.loc.ns) λm' LA _=>?_
      refine bv (LA) λo _ _ e _=>?_
      clear LA
      rw[<- q] at e
      rw[h2] at e; exact nN e
     ·cases e:h0.get? b with
      | none=>rfl
      | some o=>obtain ⟨_,e'⟩:=Internal.K.there K.kp0 e; rw[e'] at h2; exact nM h2
  have abs:(g:m = .deep\/x∉ns)->a∉bs':=λg hm=>(hbs a hm).elim hab (main g)
  have org:∀ b∈a::bs',Z b->∃ z q,σ z=some q/\b∈fp z:=λb hb hz=>by
   rcases mem_cons.mp hb with rfl | hb
   ·exact absurd hz hZ
   ·rcases hbs b hb with hb | hb
    ·exact (aC x _ hx (by rw[hfp]; exact .tail _ hb))
    ·refine Or.elim (ha b hb) (λLO=>?_) (λh1=>?_)
     ·refine aA (LO) λy q Mp h1 h2=>?_
      clear LO
      exact (aC y q h1 h2)
     ·exact absurd hz (nz b h1)
  split at hput
  ·rename_i v
   cases hput
   refine (aB rfl (ah _ ?_ (.one (λuu uu=>rfl) (λz q h=>⟨q,h⟩) org)))
   refine ((K.onK kp.k).write hx hv l (by simp) Stay.not_list (λuu q=>by cases q) hZ hne (hP a (.head _)) hs (rv' (.inl v)) pb (λuu=>abs (.inl v)) (λj=>?_) λt q hy r=>?_)
   ·refine ae (hdx j) λg1 g2=>?_
    refine ae (hdp v) λg3 g4=>?_
    refine ⟨λb hb=>?_,nodup_cons.mpr ⟨abs (.inl v),hnd (nodup_append.mpr ⟨g2,g4,λb hb c hc q=>?_⟩)⟩⟩
    ·rcases hbs b hb with h1 | h1
     ·exact g1 b h1
     ·exact ⟨nz b (g3 b h1),λy q _ r=>nf b (g3 b h1) y q r⟩
    ·subst q
     exact nf b (g3 b hc) x _ hx (by rw[hfp]; exact .tail _ hb)
   ·have g3:=(hdp v).1
    refine ⟨λht b cs e hm=>?_,λhd b hb hm=>?_⟩
    ·refine aZ (K.top t q r ht) λb' cs' e' _ _ h4=>?_
     rw[e] at e'; cases e'
     rcases hbs b hm with h1 | h1
     ·exact h4 x _ (Ne.symm hy) hx (by rw[hfp]; exact .tail _ h1)
     ·exact nf b (g3 b h1) t q r (by rw[e]; exact .head _)
    ·rcases hbs b hm with h1 | h1
     ·exact ((K.deep t q r hd).1 b hb).2 x _ (Ne.symm hy) hx (by rw[hfp]; exact .tail _ h1)
     ·exact nf b (g3 b h1) t q r hb
  ·split at hput
   ·exact nB hput
   ·rename_i v hxn
    cases hput
    have hx':Internal.demote σ ns x=some (V.d (.list xs),mx):=by unfold Internal.demote; rw[if_neg hxn]; exact hx
    refine (aB rfl (ah _ ?_ (.one (λuu uu=>rfl) (λz q h=>af (b6 h) λq' h' uu=>⟨q',h'⟩) org)))
    refine (((K.onK kp.k).demote ns).write hx' hv l (by simp) Stay.not_list (λuu q=>by cases q) hZ (λt q hy r=>?_) (hP a (.head _)) hs (rv' (.inr hxn)) pb (λuu=>abs (.inr hxn)) (λj=>by cases j) λt q hy r=>?_)
    ·refine af (b6 r) λq' i _=>?_
     exact hne t q' hy i
    ·refine eu r λq' i e1 hc=>?_
     rcases hc with ⟨_,rfl⟩ | ⟨hn,rfl⟩
     ·refine ⟨λh=>absurd h hY,λh b hb=>?_⟩
      refine ae (K.val t q' i) λuu Mz=>?_
      refine aq (Mz) λu _ hr _=>?_
      clear Mz
      rw[hr.scal_nil (fA h)] at hb
      cases hb
     ·refine ⟨λht b cs e hm=>?_,λhd b hb hm=>?_⟩
      ·refine aZ (K.top t q i ht) λb' cs' e' _ _ h4=>?_
       rw[e] at e'; cases e'
       rcases hbs b hm with h1 | h1
       ·exact h4 x _ (Ne.symm hy) hx (by rw[hfp]; exact .tail _ h1)
       ·refine Or.elim (ha b h1) (λLZ=>?_) (λh2=>?_)
        ·refine aA (LZ) λz p hz hp hf=>?_
         clear LZ
         exact h4 z p (λq=>hn (q▸hz)) hp hf
        ·exact nf b h2 t q i (by rw[e]; exact .head _)
      ·rcases hbs b hm with h1 | h1
       ·exact ((K.deep t q i hd).1 b hb).2 x _ (Ne.symm hy) hx (by rw[hfp]; exact .tail _ h1)
       ·refine Or.elim (ha b h1) (λMj=>?_) (λh2=>?_)
        ·refine aA (Mj) λz p hz hp hf=>?_
         clear Mj
         exact ((K.deep t q i hd).1 b hb).2 z p (λq=>hn (q▸hz)) hp hf
        ·exact nf b h2 t q i hb
 ·exact nB hput
theorem lu (eok:EnvOk env):interactive env=false:=by unfold interactive; rw[eok.kind]; rfl
set_option tactic.hygienic true in
theorem qA (S:SimE fns k C XP e):cX fns k C (.append x e):=by
 intro stmt h0 P Z A env σ vals fp s Q Er σ' fl j K i hN hR
 replace j:=mT j
 revert j; refine λl=>Or.elim l (λp=>?_) (λj=>?_)
 ·clear l
  refine fX (p) λt pt mm ap v pos spos q j=>?_
  clear p
  subst q
  simp only[and_eq_true,beq_iff_eq] at j
  refine ae (j) λLx oe=>?_
  clear j
  refine ae (Lx) λLB hb=>?_
  clear Lx
  refine ae (LB) λLz LC=>?_
  clear LB
  refine ae (Lz) λLF hl=>?_
  clear Lz
  subst LF
  subst LC
  refine fm hb λh1 h2 h3=>?_
  simp only[fu] at i
  refine fN i λr hr i=>?_
  obtain ⟨ry,m⟩:=r
  dsimp only at i
  split at i
  ·rename_i y vv mx hx0
   split at i
   rotate_left
   ·exact nB i
   rename_i xs hxx
   cases eZ hxx
   have hx:=hx0
   split at i
   ·exact nB i
   ·rename_i hmx
    refine ld (K.head hx hmx) λa vs n bs hv ea ra hfp hz hZ hab hne hP hdx=>?_
    refine wpAny_Expr_any (wpAny_Call_append rfl (by rw[aH oe]; rfl) (by simpa using hl) (by rw[aH oe]; rfl) ?_) (lu K.eok)
    refine cC K.eok.kind h2 (K.loc.var K.eok hv) (aM a vs.toArray rfl (be _ n ea rfl rfl rfl) (K.eval S oe hr λu s₂ E=>?_))
    obtain ⟨kp,as,LI,ha,ht,hd⟩:=E
    refine ae (LI) λru zu=>?_
    clear LI
    have hlen:=ra.length
    have hzl:=(sz_list.mp hz)
    refine wpAny_list_append_plain (hsz:=by rw[size_toArray,hlen]; unfold sizeLine; exact om hzl) ⟨n,kp.k.get ea rfl⟩ λh' hp hs=>?_
    refine ak (hp) λn' ep=>?_
    clear hp
    have:=K.putl kp ha hd hx i hmx hv ea hfp hZ hab hne hP hdx hs (vs':=vs++[u]) (by simpa using ep) ((ra.k kp.k).append (.cons ru .nil)) (λz hz'=>by
     rcases mem_append.mp hz' with h | h
     ·exact hzl.2 z h
     ·rw[mem_singleton.mp h]; exact zu) (λb hb=>by
     rcases mem_append.mp hb with h | h
     ·exact .inl h
     ·exact .inr (by simpa using h)) (λh=>by simpa using h)
    refine ae (this) λhfl g=>?_
    clear this
    refine af (g) λfp' K' F'=>?_
    clear g
    exact hN hfl _ vals fp' (kp.stp.same hs hZ λo e=>by rw[kp.k.get ea rfl] at e; injection e; exact Stay.not_list) K' F'
  ·exact nB i
 ·cases j
theorem RA.split (r:RA h vs xs bs) (i:Nat):∃ b1 b2,bs=b1++b2/\RA h (vs.take i) (xs.take i) b1/\RA h (vs.drop i) (xs.drop i) b2 :=
 RA.ind (N:=λvs xs bs=>∀ i,∃ b1 b2,bs=b1++b2/\RA h (vs.take i) (xs.take i) b1/\RA h (vs.drop i) (xs.drop i) b2) (λi=>(aM ([]) ([]) rfl (by rw[take_nil,take_nil]; exact RA.nil) (by rw[drop_nil,drop_nil]; exact RA.nil))) (λ{v vs d m as bs} x r l i=>by
  cases i with
  | zero=>exact (aM ([]) (as++bs) rfl RA.nil (RA.cons x r))
  | succ i=>
   refine aA (l i) λb1 b2 g k j=>?_
   exact (aM (as++b1) b2 (by rw[append_assoc,g]) (RA.cons x k) j)) r i
theorem B8 (l:List Value) (k:Nat) (y:Value):(l.toArray.extract 0 k).push y++l.toArray.extract k=(l.take k++y::l.drop k).toArray:=by
 apply toList_inj.mp
 simp
 exact take_of_length_le (by simp)
set_option tactic.hygienic true in
theorem qB (hXP:∀ c s s₁ x s',Kp s s₁->XP c s₁ x s'->XP c s x s') {x:String}{i e:E}(Si:SimE fns k C XP i) (S:SimE fns k C XP e):cX fns k C (.insert x i e):=by
 intro stmt h0 P Z A env σ vals fp s Q Er σ' fl ok K he hN hR
 replace ok:=um ok
 revert ok; refine λMg=>Or.elim Mg (λMh=>?_) (λok=>?_)
 ·clear Mg
  refine Co (Mh) λt pt mm ap vi v pos spos M5 ok=>?_
  clear Mh
  subst M5
  simp only[and_eq_true,beq_iff_eq] at ok
  refine ae (ok) λLy oe=>?_
  clear ok
  refine ae (Ly) λLG oi=>?_
  clear Ly
  refine ae (LG) λLJ hb=>?_
  clear LG
  refine ae (LJ) λLH LK=>?_
  clear LJ
  refine ae (LH) λLM hl=>?_
  clear LH
  subst LM
  subst LK
  refine fm hb λh1 h2 h3=>?_
  simp only[ik] at he
  refine fN he λq hq he1=>?_
  clear he
  refine fN he1 λr hr he=>?_
  clear he1
  obtain ⟨ri,mi⟩:=q
  obtain ⟨ry,m⟩:=r
  dsimp only at he
  split at he
  ·rename_i j y vv mx hx0
   split at he
   rotate_left
   ·exact nB he
   rename_i g hxx
   cases eZ hxx
   have hx:=hx0
   split at he
   ·exact nB he
   ·rename_i hmx
    have hmx':mx≠.sh:=λq=>hmx (.inl q)
    have hj0:0<=j:=by
     apply not_lt.mp
     exact λq=>hmx (.inr (.inl q))
    have hjl:j<=g.length:=by
     apply not_lt.mp
     exact λq=>hmx (.inr (.inr q))
    refine ld (K.head hx hmx') λa vs n bs hv ea ra hfp hz hZ hab hne hP hdx=>?_
    have hlen:=ra.length
    have hzl:=(sz_list.mp hz)
    refine wpAny_Expr_any (wpAny_Call_method (T:="list") (id:="list.insert") rfl (by rw[aH oi,aH oe]; rfl) (by simpa using hl) F.plainAttrs_list F.slot_list_insert F.type_list_insert ?_) (lu K.eok)
    refine cC K.eok.kind h2 (K.loc.var K.eok hv) ⟨(ah _ ea rfl),λb hb=>?_,?_⟩
    ·cases hb; exact (ah _ ea rfl)
    have fin:wpAny (model prog w) A (spliced (backTo pos (starEach [vi,v] env))) (λws s₁=>wpAny (model prog w) A (call (.builtin "list.insert") ([.ref a]++ws)) (λuu=>Q .next) Er s₁) Er s:=by
     refine wpAny_items_cons ?_ (aH oi _ env)
     refine K.eval Si oi hq λvj s₁ Ei=>?_
     refine jt _ oe ((K.onK Ei.keeps.k).eval S oe hr λu s₂ E=>?_)
     obtain ⟨ki,is,LN,_⟩:=Ei
     refine ae (LN) λrj _=>?_
     clear LN
     cases rj
     obtain ⟨kp,as,LP,ha,ht,hd⟩:=E
     refine ae (LP) λru zu=>?_
     clear LP
     have kk:=ki.trans kp
     refine call_meets F.slot_list_insert (ah _ (kk.k.get ea rfl) rfl) F.entry_list_insert (F.args_list_insert_3 _ _ _) (AutoSeq1.list_insert_list_int_val_1 a _ n j _ u ?_ ?_) ⟨kk.k.get ea rfl,?_⟩
     ·have:Builtin.List.listFitsIndex j=true:=by
       unfold Builtin.List.listFitsIndex
       simp
       exact DA hmx hzl
      simp[this]
     ·rw[size_toArray,hlen]; unfold sizeLine; exact om hzl
     ·refine aA ((ra.k kk.k).split j.toNat) λb1 b2 hb12 q1 q2=>?_
      have hup:=IsL.update (kk.k.get ea rfl) (λg:Array Value=>(g.extract 0 (if j<0 then (j+((g.size:Nat):Int)).toNat else min j.toNat g.size)).push u++g.extract (if j<0 then (j+((g.size:Nat):Int)).toNat else min j.toNat g.size))
      have hmin:(if j<0 then (j+((vs.toArray.size:Nat):Int)).toNat else min j.toNat vs.toArray.size)=j.toNat:=by
       rw[if_neg (Ih hmx),size_toArray,hlen]; exact D7 hmx
      obtain ⟨n',hup'⟩:∃ n',IsL (s₂.heap.update a (Obj.mapSeq λg:Array Value=>(g.extract 0 (if j<0 then (j+((g.size:Nat):Int)).toNat else min j.toNat g.size)).push u++g.extract (if j<0 then (j+((g.size:Nat):Int)).toNat else min j.toNat g.size))) a (vs.take j.toNat++u::vs.drop j.toNat).toArray n':=by
       have:=hup
       rw[hmin,B8] at this
       exact ⟨_,this⟩
      have:=K.putl kk (as:=as) (λb hb=>(ha b hb).imp (λh=>h) ki.none) (λh=>⟨λb hb=>ki.none ((hd h).1 b hb),(hd h).2⟩) hx he hmx' hv ea hfp hZ hab hne hP hdx (Heap.SameBut.update ..) hup' (q1.append (.cons ru q2)) (λz hz'=>by
       rcases mem_append.mp hz' with h | h
       ·exact hzl.2 z (mem_of_mem_take h)
       rcases mem_cons.mp h with rfl | h
       ·exact zu
       ·exact hzl.2 z (mem_of_mem_drop h)) (λb hb=>by
       rw[hb12]
       rcases mem_append.mp hb with h | h
       ·exact .inl (mem_append_left _ h)
       rcases mem_append.mp h with h | h
       ·exact .inr h
       ·exact .inl (mem_append_right _ h)) (λh=>by
       rw[hb12] at h
       have p:(b1++b2++as).Perm (b1++(as++b2)):=by
        rw[append_assoc]
        exact List.Perm.append_left b1 perm_append_comm
       exact p.nodup_iff.mp h)
      refine ae (this) λhfl l=>?_
      clear this
      refine af (l) λfp' K' F'=>?_
      clear l
      exact hN hfl _ vals fp' (kk.stp.same (Heap.SameBut.update ..) hZ λo e=>by rw[kk.k.get ea rfl] at e; injection e; exact Stay.not_list) K' F'
    rw[aH oi] at fin ⊢
    exact Calls.callWith_builtin (by rw[aH oe]; rfl) (Calls.evalArgs_plain (wpAny_mono fin (λvs s₁ h₁=>h₁) λuu uu e=>e))
  ·exact nB he
 ·cases ok
end
section
theorem RA.erase (i:Nat) (r:RA h vs xs bs):∃ bs',RA h (vs.eraseIdx i) (xs.eraseIdx i) bs'/\∀ b∈bs',b∈bs :=
 RA.ind (N:=λvs xs bs=>∀ i,∃ bs',RA h (vs.eraseIdx i) (xs.eraseIdx i) bs'/\∀ b∈bs',b∈bs) (λuu=>(ah ([]) RA.nil (λuu h=>(nomatch h)))) (λx r j i=>by
  cases i with
  | zero=>exact (ah _ r (λb g=>mem_append_right _ g))
  | succ i=>
   refine af (j i) λbs' q k=>?_
   exact (ah _ (RA.cons x q) (λb g=>(mem_append.mp g).elim (mem_append_left _) λh=>mem_append_right _ (k b h)))) r i
theorem wd (l:List Value) (i:Nat):l.toArray.eraseIdxIfInBounds i=(l.eraseIdx i).toArray:=by
 apply toList_inj.mp
 unfold Array.eraseIdxIfInBounds
 split
 ·simp
 ·rename_i h
  simp at h
  simp[List.eraseIdx_of_length_le h]
set_option tactic.hygienic true in
theorem xA (Si:SimE fns k C XP i):cX fns k C (.pop x i):=by
 intro stmt h0 P Z A env σ vals fp s Q Er σ' fl v K he hN hR
 replace v:=CA v
 revert v; refine λL1=>Or.elim L1 (λLL=>?_) (λv=>?_)
 ·clear L1
  refine fX (LL) λt pt mm ap vi pos spos Nb v=>?_
  clear LL
  subst Nb
  simp only[and_eq_true,beq_iff_eq] at v
  refine ae (v) λLA oi=>?_
  clear v
  refine ae (LA) λLx l=>?_
  clear LA
  refine ae (Lx) λLB Lz=>?_
  clear Lx
  refine ae (LB) λLC hl=>?_
  clear LB
  subst LC
  subst Lz
  refine fm l λh1 h2 h3=>?_
  simp only[l6] at he
  refine fN he λq hq g=>?_
  clear he
  obtain ⟨ri,mi⟩:=q
  dsimp only at g
  split at g
  ·rename_i j vv mx hx0
   split at g
   rotate_left
   ·exact nB g
   rename_i u hxx
   cases eZ hxx
   have hx:=hx0
   split at g
   ·exact nB g
   ·rename_i p
    replace hN:=jh g hN
    clear g hR
    have hmx':mx≠.sh:=λq=>p (.inl q)
    have hj0:0<=j:=not_lt.mp λq=>p (.inr (.inl q))
    have hjl:j<u.length:=not_le.mp λq=>p (.inr (.inr q))
    refine ld (K.head hx hmx') λa vs n bs hv ea ra hfp hz hZ hab hne hP hdx=>?_
    have r:=ra.length
    have hzl:=(sz_list.mp hz)
    refine wpAny_Expr_any (wpAny_Call_method (T:="list") (id:="list.pop") rfl (by rw[aH oi]; rfl) (by simpa using hl) F.plainAttrs_list F.slot_list_pop F.type_list_pop ?_) (lu K.eok)
    refine cC K.eok.kind h2 (K.loc.var K.eok hv) ⟨(ah _ ea rfl),λb l=>?_,?_⟩
    ·cases l; exact (ah _ ea rfl)
    have fin:wpAny (model prog w) A (spliced (backTo pos (starEach [vi] env))) (λws s₁=>wpAny (model prog w) A (call (.builtin "list.pop") ([.ref a]++ws)) (λuu=>Q .next) Er s₁) Er s:=by
     refine jt _ oi (K.eval Si oi hq λvj m Ei=>?_)
     obtain ⟨y,is,LF,_⟩:=Ei
     refine ae (LF) λrj _=>?_
     clear LF
     cases rj
     have hlt:j.toNat<vs.length:=by exact JB p r
     refine call_meets F.slot_list_pop (ah _ (y.k.get ea rfl) rfl) F.entry_list_pop (F.args_list_pop_2 _ _) (PySem.MeetsSeq.list_pop_at a vs.toArray n j _ j.toNat vs[j.toNat] ?_ ?_ ?_ ?_) ⟨y.k.get ea rfl,?_⟩
     ·unfold Builtin.List.listFitsIndex
      simp
      exact Hy p hzl
     ·unfold seqIndex?
      rw[size_toArray,r]
      simp only[if_neg (not_lt.mpr hj0)]
      simp[hj0,hjl]
     ·simp[hlt]
     ·rw[size_toArray,r]; unfold sizeLine; exact om hzl
     ·refine af ((ra.k y.k).erase j.toNat) λbs' q1 q2=>?_
      obtain ⟨n',hup⟩:∃ n',IsL (m.heap.update a (Obj.mapSeq λu=>u.eraseIdxIfInBounds j.toNat)) a (vs.eraseIdx j.toNat).toArray n':=by
       have:=IsL.update (y.k.get ea rfl) (λu:Array Value=>u.eraseIdxIfInBounds j.toNat)
       rw[wd] at this
       exact ⟨_,this⟩
      have hs:Heap.SameBut a m.heap (m.heap.update a (Obj.mapSeq λu=>u.eraseIdxIfInBounds j.toNat)):=Heap.SameBut.update ..
      have hab':a∉bs':=λh=>hab (q2 a h)
      have rv:RV (m.heap.update a (Obj.mapSeq λu=>u.eraseIdxIfInBounds j.toNat)) (.ref a) (.d (.list (u.eraseIdx j.toNat))) (a::bs'):=by
       refine ⟨.list hup (q1.off (wr:=[a]) (λb l o e=>.inr ?_) λb o l e=>hs.extBut b o (λq=>l (by simp[q])) e),sz_list.mpr ⟨le_trans (List.length_eraseIdx_le ..) hzl.1,λz hz=>hzl.2 z (List.mem_of_mem_eraseIdx hz)⟩⟩
       rw[mem_singleton.mp l] at e ⊢
       rw[y.k.get ea rfl] at e; injection e
       exact ⟨by simp,hab'⟩
      have K':=(K.onK y.k).write (m':=.top) hx hv (y.k.get ea rfl) (by simp) Stay.not_list (λuu q=>by cases q) hZ hne (hP a (.head _)) hs rv (λb l=>hP b (.tail _ (q2 b l))) (λuu=>hab') (λh=>by cases h) λy' q hy hq=>⟨λht b cs e hm=>by
       refine aZ (K.top y' q hq ht) λb' cs' e' _ _ h4=>?_
       rw[e] at e'; cases e'
       exact h4 x _ (Ne.symm hy) hx (by rw[hfp]; exact .tail _ (q2 b hm)),λhd b l hm=>((K.deep y' q hq hd).1 b l).2 x _ (Ne.symm hy) hx (by rw[hfp]; exact .tail _ (q2 b hm))⟩
      exact hN _ vals _ (y.stp.same hs hZ λo e=>by rw[y.k.get ea rfl] at e; injection e; exact Stay.not_list) K' (.one (λuu uu=>rfl) (λz q h=>⟨q,h⟩) λb l hz=>(mem_cons.mp l).elim (λq=>absurd hz (q▸hZ)) λl=>(aC x _ hx (by rw[hfp]; exact .tail _ (q2 b l))))
    rw[aH oi] at fin ⊢
    exact Calls.callWith_builtin rfl (Calls.evalArgs_plain (wpAny_mono fin (λvs s₁ ha=>ha) λuu uu e=>e))
  ·exact nB g
 ·cases v
theorem SOK.dict (K:SOK fns k h0 P Z A env h σ vals fp) (hx:σ x=some (v,.deep)) (hfp:fp x=[a]) :
  ¬ Z a/\(∀ y q,y≠x->σ y=some q->a∉fp y)/\a≠env.locals/\(P a\/h0.get? a=none):=by
 refine ae (K.deep x _ hx rfl) λj _=>?_
 refine ae (K.val x _ hx) λuu g=>?_
 refine aq (g) λu _ _ l=>?_
 clear g
 have i:a∈fp x:=by rw[hfp]; exact .head _
 exact ⟨(j a i).1,(j a i).2,l a i⟩
theorem qQ (ks:List Int) (i:Int):stored (ks.map λk=>(k,Value.bool true)) i (.bool true)=(if i∈ks then ks else ks++[i]).map λk=>(k,.bool true):=by
 unfold stored
 by_cases hi:i∈ks
 ·rw[if_pos (by simpa using hi),if_pos hi,map_map]
  apply List.map_congr_left
  intro a _
  simp only[Function.comp]
  split<;>rfl
 ·rw[if_neg (by simpa using hi),if_neg hi,map_append]
  rfl
theorem oL (ho:h.get? a=some o) (hd:o.data = .dict es ep) (hs:Heap.SameBut a h h') (r:R h (.ref a') (aR t) []) (hx:∀ x∈xs,R h (.ref x.2.1) (aR x.1) []):∀ x∈storedH xs t a' v,R h' (.ref x.2.1) (aR x.1) []:=by
 have off:∀ {v:Value}{d:PyData},R h v d []->R h' v d []:=λr=>r.off (wr:=[a]) (λb g l e=>.inl λk n q=>by rw[mem_singleton.mp g,ho] at e; injection e; rw[hd] at q; cases q) λb o g e=>hs.extBut b o (λq=>g (by simp[q])) e
 intro x j
 rcases mem_storedH j with ⟨y,hy,e1,e2⟩ | ⟨e1,e2⟩
 ·rw[e1,e2]; exact off (hx y hy)
 ·rw[e1,e2]; exact off r
theorem jf (xs:List (List Int×Addr×Value)) (t:List Int) (a:Addr) (v:Value):(storedH xs t a v).map (·.1)=if t∈xs.map (·.1) then xs.map (·.1) else xs.map (·.1)++[t]:=by
 unfold storedH
 rw[iX]
 by_cases hi:t∈xs.map (·.1)
 ·rw[if_pos (by simpa using hi),if_pos hi,map_map]
  apply List.map_congr_left
  intro y _
  simp only[Function.comp,putAt]
  split<;>rfl
 ·rw[if_neg (by simpa using hi),if_neg hi,map_append]
  rfl
theorem ls:∀ {xs:List PyData}{ns:List Int},aY xs=some ns->ns.length=xs.length
 | [],ns,h=>by simp[aY] at h; subst h; rfl
 | y::xs,ns,h=>by
  cases y<;>simp only[aY] at h<;>try (cases h)
  refine bG h λi e g=>?_
  (clear h; subst g)
  rw[length_cons,length_cons,ls e]
theorem pH (h:d8 x=some t) (z:sz x=true):t.length<=2^22:=by
 cases x<;>simp only[d8] at h<;>try (cases h)
 rw[ls h]
 exact (sz_tuple.mp z).1
set_option tactic.hygienic true in
theorem pg (S:SimE fns k C XP e):cX fns k C (.setitem x e):=by
 intro stmt h0 P Z A env σ vals fp s Q Er σ' fl ok K he hN hR
 replace ok:=tq ok
 revert ok; refine λMf=>Or.elim Mf (λLO=>?_) (λok=>?_)
 ·clear Mf
  refine fX (LO) λt pt ix ps c1 c2 spos M3 ok=>?_
  clear LO
  subst M3
  simp only[and_eq_true,beq_iff_eq] at ok
  refine ae (ok) λLD oe=>?_
  clear ok
  refine ae (LD) λLy hb=>?_
  clear LD
  subst Ly
  refine fm hb λh1 h2 h3=>?_
  simp only[cP] at he
  refine fN he λr hr g=>?_
  clear he
  obtain ⟨ri,mi⟩:=r
  dsimp only at g
  split at g
  ·rename_i kd v hx
   refine wpAny_Assign_Subscript (wpAny_Constant_bool ?_)
   refine ae (K.val x _ hx) λuu LX=>?_
   refine aq (LX) λu hv hrv _=>?_
   clear LX
   dsimp only at hrv
   refine cC K.eok.kind h2 (K.loc.var K.eok hv) (K.eval S oe hr λvk s₂ E=>?_)
   obtain ⟨kk,is,LG,_⟩:=E
   refine ae (LG) λrk zk=>?_
   clear LG
   have K₂:=K.onK kk.k
   have l:=hrv.k kk.k
   have fin:∀ {a:Addr}{o:Obj}{v':V}{h':Heap}{tk':Nat},u = .ref a->fp x=[a]->s₂.heap.get? a=some o->o.ExactDict->(∃ es ep,o.data = .dict es ep)->Heap.SameBut a s₂.heap h'->RV h' (.ref a) v' [a]->(Out.ok (upd σ x (v',.deep),Flw.next):Out (St×Flw)) = .ok (σ',fl)->Q .next {s₂ with heap:=h',toks:=tk' }:=λ{a} {o} {v'} {h'} {tk'} hu hfp ho p j hs rv he=>by
    (clear hrv l; subst hu)
    refine cG (K.dict hx hfp) λd1 d2 d3 d4=>?_
    have hoc:o.cls≠.type "tuple" := λq=>by
     rw[p.1] at q; simp at q
    have hod:∀ v,o.data≠.cell v:=λv q=>by
     refine ba (j) λes ep e=>?_
     clear j
     rw[e] at q; cases q
    have K':=K₂.write (m':=.deep) (bs':=[]) hx hv ho hoc (j.elim λes j=>j.elim λep j=>Stay.not_dict j) hod d1 d2 ⟨d3,d4⟩ hs rv (λuu h=>(nomatch h)) (λuu h=>(nomatch h)) (λuu=>⟨λuu h=>(nomatch h),by simp⟩) λy q hy hq=>⟨λuu uu uu uu h=>(nomatch h),λuu uu uu h=>(nomatch h)⟩
    exact jh he hN _ vals _ (kk.stp.same hs d1 λo' e=>by rw[ho] at e; injection e; exact j.elim λes j=>j.elim λep j=>Stay.not_dict j) K' (.one (λuu uu=>rfl) (λz q h=>⟨q,h⟩) λb hb hz=>absurd hz (mem_singleton.mp hb▸d1))
   cases v with
   | dic0=>
    refine jW (l) λa LJ hfp hsm hdI hdT=>?_
    clear l
    (clear hrv hv; subst LJ)
    simp only[fI] at g
    split at g
    ·rename_i i hi
     (have oc:=cM hi; (clear hr zk; subst oc))
     refine R.isInt_k rk λti oqi _=>?_
     (clear rk; subst oqi)
     have m:=hdI
     refine eV (m) λo es ep ho p j _=>?_
     clear m
     refine wpAny_setItem_pairs (intKind_is prog w _ _) hdI (λh' hm' hs=>fin (v':=.dicI [_]) rfl hfp ho p (bN _ _ j) hs (bw a rfl rfl hsm ?_) g) (by simp[sizeLine])
     simpa [stored] using hm'
    ·split at g
     ·rename_i t ht
      refine af (eP rk ht) λa' LH hk=>?_
      subst LH
      have m:=hdT
      refine eV (m) λo es ep ho p j _=>?_
      clear m
      refine wpAny_setItem_heap (tupleKind_room_in1 (rm1 K.room.2.2)) hk hdT (λh' hm' hs=>fin (v':=.dicT [_]) rfl hfp ho p (bN _ _ j) hs (gc a _ rfl rfl hsm hm' ?_ ?_ ?_) g) (by simp[sizeLine])
      ·rw[jf]; simp
      ·intro z hz
       rw[mem_singleton.mp hz]
       exact pH ht zk
      ·exact oL ho j hs (rI rk ht) λx hx=>nomatch hx
     ·exact nB g
   | dicI ks=>
    refine bQ (l) λa LK hfp hsm hdI=>?_
    clear l
    (clear hrv hv; subst LK)
    simp only[fI] at g
    split at g
    ·rename_i i hi
     split at g
     ·rename_i n
      (have oc:=cM hi; (clear hr zk; subst oc))
      refine R.isInt_k rk λti oqi _=>?_
      (clear rk; subst oqi)
      have m:=hdI
      refine eV (m) λo es ep ho p j _=>?_
      clear m
      refine wpAny_setItem_pairs (intKind_is prog w _ _) hdI (λh' hm' hs=>fin (v':=.dicI _) rfl hfp ho p (bN _ _ j) hs (bw a rfl rfl hsm ?_) g) (by rw[length_map]; unfold lim at n; unfold sizeLine; exact x8 n)
      rw[qQ] at hm'
      exact hm'
     ·exact nB g
    ·exact nB g
   | dicT ks=>
    refine rX (l) λa xs LM hfp hsm hdT LN hks htu=>?_
    clear l
    (clear hrv hv; subst LM)
    subst LN
    simp only[fI] at g
    split at g
    ·rename_i t ht
     split at g
     ·rename_i n
      refine af (eP rk ht) λa' LP hk=>?_
      subst LP
      have m:=hdT
      refine eV (m) λo es ep ho p j _=>?_
      clear m
      refine wpAny_setItem_heap (tupleKind_room_in1 (rm1 K.room.2.2)) hk hdT (λh' hm' hs=>fin (v':=.dicT _) rfl hfp ho p (bN _ _ j) hs (gc a _ rfl rfl hsm hm' ?_ ?_ ?_) g) (by rw[length_map] at n; unfold lim at n; unfold sizeLine; exact x8 n)
      ·rw[jf]
      ·intro z hz
       split at hz
       ·exact hks z hz
       ·rcases mem_append.mp hz with h | h
        ·exact hks z h
        ·rw[mem_singleton.mp h]; exact pH ht zk
      ·exact oL ho j hs (rI rk ht) htu
     ·exact nB g
    ·exact nB g
   | _=>simp only[fI] at g; exact nB g
  ·exact nB g
 ·cases ok
def AtV (h:Heap):List Int->Value->Value->Prop
 | [],v,u=>u=v
 | k::p,v,u=>∃ v1,ItemV h v k v1/\AtV h p v1 u
theorem AtV.snoc {h:Heap}{k:Int}{u u1:Value}(i:ItemV h u k u1):∀ {p:List Int}{v:Value},AtV h p v u->AtV h (p++[k]) v u1
 | [],v,a=>(ah u1 (a▸i) rfl)
 | j::p,v,a=>af (a) λg b a=>(ah g b (AtV.snoc i a))
theorem ItemV.keep (i:ItemV h v k u) (kp:K h h'):ItemV h' v k u:=G1 (i) λa T g n j o m l=>⟨a,T,g,n,j,o,kp.exact m (by simp) (by simp),l⟩
theorem AtV.keep {h h':Heap}{u:Value}(kp:K h h'):∀ {p:List Int}{v:Value},AtV h p v u->AtV h' p v u
 | [],_,a=>a
 | _::_,_,a=>af (a) λv1 b a=>(ah v1 (b.keep kp) (AtV.keep kp a))
theorem rJ (S:∀ i,SimE fns k C XP i) {s:Shared}{x:String}{d:PyData}{v0:Value}{Er:Value->Shared->Prop}(K:SOK fns k h0 P Z A env s.heap σ vals fp) (hv:vals x=some v0) (hr:R s.heap v0 d (fp x)) (hz:sz d=true) :
  ∀ {is:Es}{exx:Expr}{p:List Int×PyData},okP env.scope.names x is exx=true->evP C d is σ = .ok p->∀ {Q:Value->Shared->Prop},(∀ u s' bs,Kp s s'->AtV s'.heap p.1 v0 u->R s'.heap u p.2 bs->sz p.2=true->Q u s')->wpAny (model prog w) A (eval exx env) Q Er s
 | .nil,exx,p,ok,g,Q,hQ=>by
  refine aj ok λn e1 h=>?_
  refine cb h λh1 h2=>?_
  rw[a6 e1,beq_iff_eq.mp h1]
  injection g
  exact cC K.eok.kind (bnd h2).2.1 (K.loc.var K.eok hv) (hQ v0 s (fp x) (.refl s) rfl hr hz)
 | .cons i r,exx,p,ok,g,Q,hQ=>by
  refine aj ok λq e1 h=>?_
  refine cb h λo1 o2=>?_
  rw[ej e1]
  refine Out.bind_k g λp1 hp1 g=>?_
  refine Out.bind_k g λr1 y g=>?_
  refine a9 g λk1 hk1 g=>?_
  refine a9 g λk2 hk2 g=>?_
  refine a9 g λe2 he2 g=>?_
  injection g
  refine Subscript_ (rJ S K hv hr hz o1 hp1 λu s₁ bs kp at1 ru zu=>?_)
  refine (K.onK kp.k).eval (S i) o2 y λvb l E=>?_
  obtain ⟨j,cs,rb,_⟩:=E
  rw[b9 hk1,cM hk2] at rb
  refine rb.1.isInt_k λt m _=>?_
  subst m
  exact pq (fk o2) he2 (ru.k j.k) zu λv ds it rv z hd=>hQ v l ds (kp.trans j) (.snoc it (at1.keep j.k)) rv z
theorem RA.setAt (r:RA h vs xs bs):∀ (j:Nat) {v:Value}{e:PyData},vs[j]? = some v->xs[j]? = some e->∃ b1 c b2,bs=b1++(c++b2)/\R h v e c /\
  ∀ h' e',(∀ u d cs,(∀ b∈cs,b∈b1\/b∈b2)->R h u d cs->R h' u d cs)->R h' v e' c->RA h' vs (xs.set j e') bs:=by
 refine RA.ind (N:=λvs xs bs=>∀ (j:Nat) {v:Value}{e:PyData},vs[j]? = some v->xs[j]? = some e->∃ b1 c b2,bs=b1++(c++b2)/\R h v e c /\
  ∀ h' e',(∀ u d cs,(∀ b∈cs,b∈b1\/b∈b2)->R h u d cs->R h' u d cs)->R h' v e' c->RA h' vs (xs.set j e') bs) (λj v e n=>by cases n) (λ{v vs d o as bs} x r y j u e n t=>?_) r
 have l:∀ (B:Addr->Prop) (h':Heap) {vs:List Value}{o:List PyData}{bs:List Addr},RA h vs o bs->(∀ b∈bs,B b)->(∀ u d cs,(∀ b∈cs,B b)->R h u d cs->R h' u d cs)->RA h' vs o bs:=λB h' _ _ _ r=>RA.ind (N:=λvs o bs=>(∀ b∈bs,B b)->(∀ u d cs,(∀ b∈cs,B b)->R h u d cs->R h' u d cs)->RA h' vs o bs) (λuu uu=>.nil)
  (λx _ i g k=>.cons (k _ _ _ (λb q=>g b (mem_append_left _ q)) x) (i (λb q=>g b (mem_append_right _ q)) k)) r
 cases j with
 | zero=>
  injection n; injection t
  exact (cF ([]) as bs rfl x (λh' e' k q=>.cons q (l (λb=>b∈[]\/b∈bs) h' r (λb g=>.inr g) k)))
 | succ j=>
  refine aV (y j n t) λb1 c b2 m q1 z=>?_
  (clear y r; subst m)
  exact (cF (as++b1) c b2 (by rw[append_assoc]) q1 (λh' e' k q=>.cons (k _ _ _ (λb g=>.inl (mem_append_left _ g)) x) (z h' e' (λu d cs hc=>k u d cs λb g=>(hc b g).imp (mem_append_right _) id) q)))
theorem R.modP:∀ (p:List Int) {v:Value}{d d':PyData}{as:List Addr},R h v d as->as.Nodup->modP y p d=some d'->AtV h p v u ->
  ∃ a vs n,u = .ref a/\h.get? a=some ⟨.type "list", Option.none,.seq vs.toArray n,#[]⟩/\a∈as/\vs.length<lim /\
   ∀ (h':Heap) (w:Value) (n':Nat),KG (λb=>b≠a) h h'->h'.get? a=some ⟨.type "list", Option.none,.seq (vs++[w]).toArray n',#[]⟩->R h' w y []->R h' v d' as
 | [],v,d,d',as,r,nd,g,l=>by
  replace g:=bind_eq_some_iff.mp g
  revert g; intro MG
  refine af (MG) λxs hx g=>?_
  clear MG
  cases bR hx
  by_cases hl:xs.length<lim
  ·rw[if_pos hl] at g
   injection g
   refine r.isList_k λa vs n bs LR ea x LV=>?_
   (clear r; subst LR)
   subst LV
   subst l
   refine (sw a vs n rfl ea (.head _) (by rw[x.length]; exact hl) (λh' w n' z t o=>?_))
   have q:RA h' vs xs bs:=x.onG z λb hb q=>(nodup_cons.mp nd).1 (q▸hb)
   have:=R.list t (q.append (.cons o .nil))
   rwa [append_nil,append_nil] at this
  ·rw[if_neg hl] at g; exact nN g
 | k::p,v,d,d',as,r,nd,g,l=>by
  revert l; intro MA
  refine af (MA) λv1 LY l=>?_
  clear MA
  refine s7 (LY) λa0 T vs0 n0 j0 L6 ea0 hj0 hv0=>?_
  clear LY
  subst L6
  unfold Internal.modP at g
  cases hx:asL d with
  | some xs=>
   rw[hx] at g
   cases bR hx
   replace g:=bind_eq_some_iff.mp g
   revert g; intro MO
   refine af (MO) λj hj g=>?_
   clear MO
   replace g:=bind_eq_some_iff.mp g
   revert g; intro MU
   refine af (MU) λe he g=>?_
   clear MU
   replace g:=map_eq_some_iff.mp g
   refine af (g) λe' he' L5=>?_
   clear g
   subst L5
   refine r.isList_k λa1 vs n bs e1 ea x Mb=>?_
   (clear r; subst Mb)
   cases e1
   rw[ea] at ea0
   have hvs:vs=vs0:=by cases ea0; rfl
   subst hvs
   rw[x.length] at hj0
   cases hj.symm.trans hj0
   refine aV (x.setAt j0 hv0 he) λb1 c b2 L7 q1 q2=>?_
   subst L7
   have nd2:=(nodup_cons.mp nd).2
   refine aG (nodup_append.mp nd2) λn1 n2 n3=>?_
   refine aG (nodup_append.mp n2) λn4 n5 n6=>?_
   refine sF (R.modP p q1 n4 he' l) λa ws m L0 eb i hl hu=>?_
   (clear l; subst L0)
   refine (sw a ws m rfl eb (.tail _ (mem_append_right _ (mem_append_left _ i))) hl (λh' w n' z t o=>?_))
   refine .list (z.hard (.inl λq=>(nodup_cons.mp nd).1 (q▸mem_append_right _ (mem_append_left _ i))) ea rfl) (q2 h' e' (λu d cs hc ru=>ru.onG z λb hb q=>?_) (hu h' w n' z t o))
   subst q
   exact (hc b hb).elim (λh1=>n3 b h1 b (mem_append_left _ i) rfl) λh1=>n6 b i b h1 rfl
  | none=>
   rw[hx] at g
   replace g:=bind_eq_some_iff.mp g
   revert g; intro MT
   refine af (MT) λxs ht g=>?_
   clear MT
   cases gK ht
   replace g:=bind_eq_some_iff.mp g
   revert g; intro ML
   refine af (ML) λj hj g=>?_
   clear ML
   replace g:=bind_eq_some_iff.mp g
   revert g; intro ME
   refine af (ME) λe he g=>?_
   clear ME
   replace g:=map_eq_some_iff.mp g
   refine af (g) λe' he' Mn=>?_
   clear g
   subst Mn
   refine aV (r.isTup) λa1 vs n e1 ea x=>?_
   cases e1
   rw[ea] at ea0
   have hvs:vs=vs0:=by cases ea0; rfl
   subst hvs
   rw[x.length] at hj0
   cases hj.symm.trans hj0
   refine aV (x.setAt j0 hv0 he) λb1 c b2 L8 q1 q2=>?_
   (clear r x; subst L8)
   refine aG (nodup_append.mp nd) λn1 n2 n3=>?_
   refine aG (nodup_append.mp n2) λn4 n5 n6=>?_
   refine sF (R.modP p q1 n4 he' l) λa ws m Ml eb i hl hu=>?_
   (clear l; subst Ml)
   refine (sw a ws m rfl eb (mem_append_right _ (mem_append_left _ i)) hl (λh' w n' z t o=>?_))
   refine .tuple (z.stay ea (.inr (aB rfl (bN _ _ rfl)))) (q2 h' e' (λu d cs hc ru=>ru.onG z λb hb q=>?_) (hu h' w n' z t o))
   subst q
   exact (hc b hb).elim (λh1=>n3 b h1 b (mem_append_left _ i) rfl) λh1=>n6 b i b h1 rfl
theorem ml (hy:sz y=true):∀ (p:List Int) {d d':PyData},modP y p d=some d'->sz d=true->sz d' = true
 | [],d,d',g,hd=>by
  replace g:=bind_eq_some_iff.mp g
  revert g; intro t
  refine af (t) λxs i g=>?_
  clear t
  cases bR i
  by_cases hl:xs.length<lim
  ·rw[if_pos hl] at g
   injection g
   have h:=sz_list.mp hd
   unfold lim at hl
   exact sz_list.mpr ⟨by rw[length_append,length_singleton]; exact y8 hl,λx i=>(mem_append.mp i).elim (h.2 x) λq=>mem_singleton.mp q▸hy⟩
  ·rw[if_neg hl] at g; exact nN g
 | k::p,d,d',g,hd=>by
  unfold modP at g
  cases i:asL d with
  | some xs=>
   rw[i] at g
   cases bR i
   replace g:=bind_eq_some_iff.mp g
   revert g; intro r
   refine af (r) λj hj g=>?_
   clear r
   replace g:=bind_eq_some_iff.mp g
   revert g; intro o
   refine af (o) λe he g=>?_
   clear o
   replace g:=map_eq_some_iff.mp g
   refine af (g) λe' u z=>?_
   clear g
   subst z
   have h:=sz_list.mp hd
   exact sz_list.mpr ⟨by rw[length_set]; exact h.1,λx i=>(List.mem_or_eq_of_mem_set i).elim (h.2 x) λq=>q▸ml hy p u (h.2 e (mem_of_getElem? he))⟩
  | none=>
   rw[i] at g
   replace g:=bind_eq_some_iff.mp g
   revert g; intro n
   refine af (n) λxs ht g=>?_
   clear n
   cases gK ht
   replace g:=bind_eq_some_iff.mp g
   revert g; intro m
   refine af (m) λj hj g=>?_
   clear m
   replace g:=bind_eq_some_iff.mp g
   revert g; intro l
   refine af (l) λe he g=>?_
   clear l
   replace g:=map_eq_some_iff.mp g
   refine af (g) λe' u v=>?_
   clear g
   subst v
   have h:=sz_tuple.mp hd
   exact sz_tuple.mpr ⟨by rw[length_set]; exact h.1,λx i=>(List.mem_or_eq_of_mem_set i).elim (h.2 x) λq=>q▸ml hy p u (h.2 e (mem_of_getElem? he))⟩
theorem SOK.inner (K:SOK fns k h0 P Z A env h σ vals fp) (hx:σ x=some (V0,.deep)) (hv:vals x=some v0) (ha:a∈fp x) (ho:h.get? a=some o) (hoc:o.cls≠.type "tuple") (hst:¬ Stay o) (hod:∀ v,o.data≠.cell v)
  (hs:Heap.SameBut a h h') (rv:RV h' v0 V1 (fp x)):SOK fns k h0 P Z A env h' (upd σ x (V1,.deep)) vals fp:=by
 refine ae (K.deep x _ hx rfl) λj t=>?_
 have hnz:=(j a ha).1
 have kz:∀ b o,Z b->h.get? b=some o->h'.get? b=some o:=λb o hb e=>hs.extBut b o (λq=>hnz (q▸hb)) e
 have g:∀ y q,y≠x->upd σ x (V1,.deep) y=some q->σ y=some q:=λy q m l=>(if_neg m).symm.trans l
 have i:∀ q,upd σ x (V1,.deep) x=some q->q=(V1,.deep):=λq l=>(Option.some.inj ((if_pos rfl).symm.trans l)).symm
 refine ⟨K.room,K.eok,K.ge,K.z0,Internal.K.same K.kp0 hs (K.h0n hnz) (λo' e=>by rw[ho] at e; injection e; exact hst),K.code,K.out,λb hb=>ak (K.zdom b hb) λo e=>⟨o,kz b o hb e⟩,K.loc.offA ho hod ((K.val x _ hx).2.choose_spec.2.2 a ha).1 hs,λy q l=>?_,λy q l htp=>?_,λy q l hdp=>?_⟩
 ·by_cases m:y=x
  ·(clear g ha j t; subst m)
   cases i q l
   refine ae (K.val y _ hx) λh1 p=>?_
   refine aq (p) λu h2 h3 h4=>?_
   clear p
   exact (aB h1 (aF v0 hv rv h4))
  ·refine ae (K.val y q (g y q m l)) λh1 n=>?_
   refine aq (n) λu h2 h3 h4=>?_
   clear n
   exact (aB h1 (aF u h2 (h3.offA ho hoc ((j a ha).2 y q m (g y q m l)) hs) h4))
 ·by_cases m:y=x
  ·(clear g ha j t hv hx rv; subst m)
   cases i q l
   cases htp
  ·refine aZ (K.top y q (g y q m l) htp) λb cs h1 h2 h3 h4=>?_
   refine (be b cs h1 h2 h3 (λz r hz hr=>?_))
   by_cases hzx:z=x
   ·(clear g ha j t i l hr hv m rv; subst hzx); exact h4 z _ hz hx
   ·exact h4 z r hz (g z r hzx hr)
 ·by_cases m:y=x
  ·(clear ha i l hv hx rv; subst m)
   refine ⟨λb hb=>⟨(j b hb).1,λz r hz hr=>(j b hb).2 z r hz (g z r hz hr)⟩,t⟩
  ·refine ae (K.deep y q (g y q m l) hdp) λh1 h2=>?_
   refine ⟨λb hb=>⟨(h1 b hb).1,λz r hz hr=>?_⟩,h2⟩
   by_cases hzx:z=x
   ·(clear g ha j t i l hr hv m rv; subst hzx); exact (h1 b hb).2 z _ hz hx
   ·exact (h1 b hb).2 z r hz (g z r hzx hr)
theorem ol (Si:∀ i,SimE fns k C XP i) (S:SimE fns k C XP e):cX fns k C (.appendAt x is e):=by
 intro stmt h0 P Z A env σ vals fp s Q Er σ' fl ok K g hN hR
 replace ok:=qC ok
 rcases ok with ⟨yy,ii,pp,mm,ap,v,pos,sp,rfl,ok⟩ | ok
 rotate_left
 ·cases ok
 simp only[and_eq_true,beq_iff_eq] at ok
 refine ae (ok) λMc oe=>?_
 clear ok
 refine ae (Mc) λMd op=>?_
 clear Mc
 refine ae (Md) λMi hl=>?_
 clear Md
 subst Mi
 cases hx:σ x with
 | none=>simp only[dX,hx] at g; exact nB g
 | some q=>
  obtain ⟨vx,mx⟩:=q
  simp only[dX,hx] at g
  cases mx with
  | sh=>exact nB g
  | top=>exact nB g
  | deep=>
   refine a9 g λd hd g=>?_
   refine fN g λp1 hp1 g=>?_
   refine fN g λr hr g=>?_
   refine a9 g λy hy g=>?_
   by_cases hsy:sx y=true
   ·rw[if_pos hsy] at g
    refine a9 g λd' hd' g=>?_
    cases g
    cases b9 hd
    refine ae (K.val x _ hx) λuu j=>?_
    refine aq (j) λv0 hv0 Ma hb=>?_
    clear j
    refine ae (Ma) λhr0 hz0=>?_
    clear Ma
    refine ae (K.deep x _ hx rfl) λhd1 hd2=>?_
    refine wpAny_Expr_any (wpAny_Call_append rfl (by rw[aH oe]; rfl) (by simpa using hl) (by rw[aH oe]; rfl) ?_) (lu K.eok)
    refine rJ Si K hv0 hr0 hz0 op hp1 λu s₁ bs kp at1 ru zu=>?_
    refine sF (R.modP p1.1 (hr0.k kp.k) hd2 hd' at1) λa vs n LU ea ham hlen hup=>?_
    (clear at1 ru; subst LU)
    refine (aM a vs.toArray rfl (be _ n ea rfl rfl rfl) ((K.onK kp.k).eval S oe hr λu2 s₂ E=>?_))
    obtain ⟨p,as2,m,_⟩:=E
    rw[b9 hy] at m
    revert m; intro MR
    refine ae (MR) λm zu2=>?_
    clear MR
    cases m.sx_nil hsy
    unfold lim at hlen
    refine wpAny_list_append_plain (hsz:=by rw[size_toArray]; unfold sizeLine; exact G0 hlen) ⟨n,p.k.get ea rfl⟩ λh' hp hs=>?_
    refine ak (hp) λn' ep=>?_
    clear hp
    have t:=p.k.get ea rfl
    have ru3:R h' u2 y []:=m.off (wr:=[a]) (λb hb o l=>.inr (by
     rw[mem_singleton.mp hb] at l ⊢
     rw[t] at l; injection l
     exact ⟨by simp,λhm=>by cases hm⟩)) λb o hb l=>hs.extBut b o (λq=>hb (by simp[q])) l
    have rn:=hup h' u2 n' ((p.k.mono λuu uu=>trivial).trans (KG.same hs (λq=>q rfl) λo l=>by rw[t] at l; injection l; exact Stay.not_list)) (by simpa using ep) ru3
    have K':=((K.onK kp.k).onK p.k).inner hx hv0 ham t (by simp) Stay.not_list (λuu q=>by cases q) hs (V1:=.d d') ⟨rn,ml zu2 p1.1 hd' hz0⟩
    exact hN rfl _ vals fp ((kp.trans p).stp.same hs (hd1 a ham).1 λo l=>by rw[t] at l; injection l; exact Stay.not_list) K' (.id λz q h=>by
     by_cases ez:z=x
     ·exact ⟨_,ez▸hx⟩
     ·exact ⟨q,(if_neg ez).symm.trans h⟩)
   ·rw[if_neg hsy] at g; exact nB g
end
section
end
section
theorem SOK.lv (hf:fns.hand=false) (K:SOK fns k h0 P Z A env h σ vals fp):Lv A env h:=by
 refine bQ (K.out hf) λl x v p u=>?_
 refine (aF l x (λj g=>?_) p)
 rcases mem_cons.mp g with rfl | g
 ·refine af (K.loc.ns) λm i _=>?_
  refine aV (i) λo y z e r _=>?_
  clear i
  refine af (K.loc.cls) λo' n t=>?_
  rw[e] at n; injection n
  exact (aB K.eok.kind (j4 _ o y z p u e t r))
 ·exact v.k K.kp0 j g
theorem SOK.zd (K:SOK fns k h0 P Z A env h σ vals fp) (b:Addr) (hb:Z b):dom h b:=K.zdom b hb
theorem SOK.evalX (hf:fns.hand=false) (K:SOK fns k h0 P Z A env s.heap σ vals fp) (S:SimE fns k C XPc e) (ok:okE env.scope.names e exx=true) (he:ev C e σ = .exc c)
  (hE:∀ x s',Stp Z s s'->Lv A env s'.heap->Exc Z s'.heap c env.locals x->Er x s'):wpAny (model prog w) A (PySem.eval exx env) Q Er s:=by
 have g:ev C e (cD σ (fv e)) = .exc c:=by rw[az C e _ σ (b0 σ (fv e))]; exact he
 refine S ok (K.cx (fv e)) (by rw[g]; simp) (λr h=>by rw[g] at h; cases h) λj i x s' X=>?_
 rw[g] at i; cases i
 exact hE x s' X.1.stp ((K.onK X.1.k).lv hf) (Fly.exc (X.2.old K.zd))
theorem SOK.evalTX (hf:fns.hand=false) (K:SOK fns k h0 P Z A env s.heap σ vals fp) (S:SimT fns k C XPc e) (ok:okE env.scope.names e exx=true) (he:ev C e σ = .exc c)
  (hE:∀ x s',Stp Z s s'->Lv A env s'.heap->Exc Z s'.heap c env.locals x->Er x s'):wpAny (model prog w) A (isTrue exx env (PySem.eval exx env)) Q Er s:=by
 have g:ev C e (cD σ (fv e)) = .exc c:=by rw[az C e _ σ (b0 σ (fv e))]; exact he
 refine S ok (K.cx (fv e)) (by rw[g]; simp) (λr h=>by rw[g] at h; cases h) λj i x s' X=>?_
 rw[g] at i; cases i
 exact hE x s' X.1.stp ((K.onK X.1.k).lv hf) (Fly.exc (X.2.old K.zd))
theorem wc:NE (ar v):=λc h=>by
 unfold ar at h
 split at h<;>cases h
theorem wT (hf:fns.hand=false) (S:SimE fns k C XPc e):cS fns k C (.ret e):=by
 intro p u P Z A r t o v s Q Er c j K l q
 replace j:=tP j
 revert j; refine λg=>Or.elim g (λh=>?_) (λj=>?_)
 ·clear g
  refine av (h) λn m i j=>?_
  clear h
  subst i
  simp only[jJ] at l
  rcases bS l with l | ⟨_,_,l⟩
  ·exact wpAny_Return_some (K.evalX hf S j l q)
  ·cases l
 ·cases j
theorem uZ (hf:fns.hand=false) (S:SimE fns k C XPc e):cS fns k C (.expr e):=by
 intro u z P Z A r y t fp s Q Er c j K l x
 replace j:=l7 j
 revert j; refine λg=>Or.elim g (λh=>?_) (λj=>?_)
 ·clear g
  refine jN (h) λq p o n m i j=>?_
  clear h
  subst i
  simp only[c8] at l
  have v:interactive r=false:=by unfold interactive; rw[K.eok.kind]; rfl
  rcases bS l with l | ⟨_,_,l⟩
  ·exact wpAny_Expr_any (K.evalX hf S j l x) v
  ·cases l
 ·cases j
theorem qP (hf:fns.hand=false) (S:SimE fns k C XPc e):cS fns k C (.assign x e):=by
 intro u h0 P Z A env σ t fp s Q Er c g K j z
 replace g:=jw g
 revert g; refine λh=>Or.elim h (λi=>?_) (λg=>?_)
 ·clear h
  refine cq (i) λq p o n l g=>?_
  clear i
  subst l
  simp only[and_eq_true,beq_iff_eq] at g
  refine ae (g) λm v=>?_
  clear g
  refine ae (m) λr hb=>?_
  clear m
  subst r
  simp only[a7] at j
  rcases bS j with j | ⟨_,_,j⟩
  ·refine ae (rC j) λj y=>?_
   exact wpAny_Assign_Name (K.evalX hf S v j z) (gv (jB y v) _ _ _)
  ·cases j
 ·cases g
theorem ww (hf:fns.hand=false) (T:SimT fns k C XPc c) (Xa:eU fns k C a) (Xb:eU fns k C b):cS fns k C (.ite c a b):=by
 intro stmt h0 P Z A env σ z fp s Q Er c' h K g y
 replace h:=tT h
 revert h; refine λi=>Or.elim i (λj=>?_) (λh=>?_)
 ·clear i
  refine cq (j) λp o n m l h=>?_
  clear j
  subst l
  simp only[and_eq_true] at h
  simp only[eK] at g
  rcases bS g with g | ⟨r,hr,g⟩
  ·exact wpAny_If (K.evalTX hf T h.1.1 g y)
  ·rcases bS g with g | ⟨t,ht,g⟩
   ·exact absurd g (wc c')
   ·refine wpAny_If (K.evalT T h.1.1 (b:=t) (by rw[hr]; exact ht) λs₁ v=>?_)
    have K₁:=K.onK v.k
    cases t with
    | true=>
     rw[if_pos rfl] at g ⊢
     exact Xa h.1.2 K₁ g λx u q=>y x u (v.stp.trans q)
    | false=>
     simp only[false_eq_true,if_false] at g ⊢
     exact Xb h.2 K₁ g λx u q=>y x u (v.stp.trans q)
 ·cases h
theorem rP {st:S}{r:Ss}(S:cX fns k C st) (X:cS fns k C st) (Xr:eU fns k C r):eU fns k C (.cons st r):=by
 intro p h0 P Z A env σ y fp s Q Er c g K j z
 replace g:=qZ g
 revert g; refine λh=>Or.elim h (λi=>?_) (λg=>?_)
 ·clear h
  refine av (i) λn m l g=>?_
  clear i
  subst l
  simp only[and_eq_true] at g
  simp only[bz] at j
  rcases bS j with j | ⟨⟨σa,fla⟩,h1,j⟩
  ·exact wpAny_execs_cons (X g.1 K j z)
  ·dsimp only at j
   cases fla with
   | ret v=>cases j
   | next=>
    refine wpAny_execs_cons (S g.1 K h1 (λuu s' o fp' st K' F=>?_) λq e=>by cases e)
    exact Xr g.2 K' j λx u t=>z x u (st.trans t)
 ·cases g
theorem vL:eU fns k C .nil:=by
 intro g o P Z A j l h p s Q Er c m K i n
 simp only[dm] at i
 cases i
theorem sL (hf:fns.hand=false) (hC:cI fns k C XPc):cS fns k C (.raise c):=by
 intro x h0 P Z A env σ v fp s Q Er c' h K l hE
 replace h:=wO h
 revert h; refine λi=>Or.elim i (λj=>?_) (λh=>?_)
 ·clear i
  refine fX (j) λr np t kk p2 cp pos m h=>?_
  clear j
  subst m
  simp only[and_eq_true,beq_iff_eq,decide_eq_true_eq] at h
  refine ae (h) λp hl=>?_
  clear h
  refine ae (p) λn hd=>?_
  clear p
  refine ae (n) λu hg=>?_
  clear n
  subst u
  simp only[dT] at l
  cases hc:C c with
  | none=>rw[hc] at l; cases l
  | some g=>
   rw[hc] at l
   simp only[au] at l
   split at l
   ·rename_i hn
    cases l
    have z:=(hC c g hc).2.2.1 hn
    have ge:=K.ge.k K.kp0
    refine aq (ge.exc) λmg g1 g2 _=>?_
    obtain ⟨gm,N,nm,q,bs,hdct,sn,sub,ab,col,dd,k0,k1,k2,k3,k5,mN,e1,e2,e3,e4⟩:=g2 c z
    refine wpAny_Raise_call_subT (C:=SF.exc c) (nm:=nm) (q:=q) (N:=N) (bs:=bs) (bm:=eJ c) (hdct:=hdct) (sn:=sn) (sub:=sub) (ab:=ab) (col:=col) (dd:=dd) (k0:=k0) (k1:=k1) (k2:=k2) (k3:=k3) (k5:=k5)
     PySem.F.excBase_ValueError (mN:=mN) (e4.hasType PySem.F.excBase_ValueError.hasBase) (K.room.1 hf) rfl e3 (Calls.Name_function_global K.eok.kind (fP hg) (Calls.loadGlobal_global (K.eok.glob▸g1) gm ⟨rfl,?_⟩) (nd hd))
    refine Calls.evalArgs_plain (wpAny_items_cons (wpAny_Constant_str (wpAny_items_nil (lG rfl (by show 1<=sizeLine; rw[sizeLine_eq]; exact GQ) e1 e2 e4 (λh' e Mk=>?_)))) rfl)
    refine aq (Mk.there) λtt m1 m2 m3=>?_
    have y:Kp s {s with heap:=h',toks:=s.toks+1 }:=.of Mk.keeps
    refine hE _ _ y.stp ((K.onK y.k).lv hf) (aM e _ rfl (cg (λq=>(by obtain ⟨o,eo⟩:=K.zdom e q; rw[Mk.new] at eo; cases eo)) z (aF _ m1 rfl rfl)) (.inl rfl))
   ·cases l
 ·cases h
theorem n9 {α β:Type}{o:Out α}{f:α->Out β}{c:String}(h:o.calm.bind f = .exc c):∃ a,f a = .exc c:=by
 cases o with
 | ok a=>exact ⟨a,h⟩
 | exc c=>cases h
 | bad=>cases h
theorem du {α β:Type}{o:Out α}{f:α->Out β}{c:String}{G:Prop}(h:o.calm.bind f = .exc c) (k:∀ a,f a = .exc c->G):G:=ak (n9 h) k
theorem qr (h:au o f = .exc c):∃ a,f a = .exc c:=by
 cases o with
 | some a=>exact ⟨a,h⟩
 | none=>cases h
theorem bJ {α β:Type}{o:Option α}{f:α->Out β}{c:String}{G:Prop}(h:au o f = .exc c) (k:∀ a,f a = .exc c->G):G:=ak (qr h) k
theorem Bk {σ:St}{x:String}{v:V}{k:PyData}{c:String}(h:fI σ x v k = .exc c):False:=by
 unfold fI at h
 repeat' (split at h)
 all_goals cases h
theorem rt (h:gB σ x ns mx xs m = .exc c):False:=by
 unfold gB at h
 repeat' (split at h)
 all_goals cases h
theorem dv {st:S}(h:∀ σ c,ex C st σ≠.exc c):cS fns k C st:=by
 intro i o P Z A l σ g p s Q Er c m K j n
 exact absurd j (h σ c)
theorem oV:cS fns k C (.setitem x e):=dv λg c h=>by
 simp only[cP] at h
 refine du h λr h=>?_
 split at h
 ·exact Bk h
 ·cases h
theorem qF:cS fns k C (.append x e):=dv λg c h=>by
 simp only[fu] at h
 refine du h λr h=>?_
 split at h
 ·split at h
  ·split at h
   ·cases h
   ·exact rt h
  ·cases h
 ·cases h
theorem oj:cS fns k C (.appendAt x is e):=dv λg c h=>by
 simp only[dX] at h
 split at h
 ·refine bJ h λd h=>?_
  refine du h λp h=>?_
  refine du h λr h=>?_
  refine bJ h λy h=>?_
  split at h
  ·obtain ⟨i,h⟩:=qr h; cases h
  ·cases h
 ·cases h
theorem qI:cS fns k C (.insert x i e):=dv λg c h=>by
 simp only[ik] at h
 refine du h λq h=>?_
 refine du h λr h=>?_
 split at h
 ·split at h
  ·split at h
   ·cases h
   ·exact rt h
  ·cases h
 ·cases h
theorem wy:cS fns k C (.pop x i):=dv λg c h=>by
 simp only[l6] at h
 refine du h λq h=>?_
 split at h
 ·split at h
  ·split at h<;>cases h
  ·cases h
 ·cases h
theorem vK:cS fns k C (.retn x):=dv λg c h=>by
 simp only[kQ] at h
 split at h<;>cases h
theorem xJ:cS fns k C .bad:=dv λg c h=>by simp only[Aj] at h; cases h
end
section
theorem iN {y z:String}{q:V×Mode}{G:Prop}(h:rem σ y z=some q) (k:z≠y->σ z=some q->G):G:=by
 unfold rem at h
 by_cases e:z=y
 ·rw[if_pos e] at h; exact nN h
 ·rw[if_neg e] at h; exact k e h
theorem SOK.forget {h:Heap}(K:SOK fns k h0 P Z A env h σ vals fp) (y:String):SOK fns k h0 P Z A env h (rem σ y) vals fp where
 room:=K.room
 eok:=K.eok
 ge:=K.ge
 z0:=K.z0
 kp0:=K.kp0
 code:=K.code
 out:=K.out
 zdom:=K.zdom
 loc:=K.loc
 val:=λx p g=>iN g λ_ g=>K.val x p g
 top:=λx p g o=>iN g λ_ g=>aZ (K.top x p g o) λa v j m u t=>be a v j m u λz q l i=>iN i λ_ i=>t z q l i
 deep:=λx p g r=>iN g λ_ g=>ae (K.deep x p g r) λj m=>aB (λa n=>aB (j a n).1 λz q l i=>iN i λ_ i=>(j a n).2 z q l i) m
theorem Ar (h:x≠y) (r:V×Mode):rem (upd σ x r) y=upd (rem σ y) x r:=by
 funext z
 show (if z=y then none else if z=x then some r else σ z)=if z=x then some r else if z=y then none else σ z
 by_cases e:z=y
 ·rw[if_pos e,if_neg (λg=>h (g.symm.trans e)),if_pos e]
 ·rw[if_neg e,if_neg e]
theorem tR:cX fns k C (.appM x y):=by
 intro stmt h0 P Z A env σ vals fp s Q Er σ' fl ok K l hN hR
 replace ok:=mT (AY ok)
 refine fX (ok.resolve_right id) λt pt mm ap v pos spos M7 ok1=>?_
 clear ok
 subst M7
 simp only[and_eq_true,beq_iff_eq] at ok1
 refine ae (ok1) λLx oe=>?_
 clear ok1
 refine ae (Lx) λm hb=>?_
 clear Lx
 refine ae (m) λLz LC=>?_
 clear m
 refine ae (Lz) λLF hl=>?_
 clear Lz
 subst LF
 subst LC
 refine fm hb λh1 h2 h3=>?_
 have sp:=aH oe
 refine aq (iD oe) λp m hvy hdy=>?_
 clear oe
 subst m
 simp only[kU] at l
 unfold k9 at l
 refine a9 l λpx hx he1=>?_
 clear l
 refine a9 he1 λpy hy he2=>?_
 clear he1
 refine a9 he2 λxs hxs he3=>?_
 clear he2
 refine a9 he3 λd hd l=>?_
 clear he3
 obtain ⟨vx,mx⟩:=px
 obtain ⟨vy,my⟩:=py
 cases eZ hxs
 cases b9 hd
 by_cases hc:x≠y/\xs.length<lim/\mx = .deep/\my = .deep
 ·rw[if_pos hc] at l
  refine cG hc λr hlim c3 c4=>?_
  subst c3 c4
  replace hN:=jh l hN
  rw[Ar r] at hN
  clear l hR
  refine ld (K.head hx (by decide)) λa vs n bs hv ea ra hfp i hZ hab hne hP hdx=>?_
  refine ae (K.val y _ hy) λuu ow=>?_
  refine aq ow λu hu oru hub=>?_
  refine ae (K.deep y _ hy rfl) λdy1 dy2=>?_
  refine ae (hdx rfl) λg1 g2=>?_
  refine wpAny_Expr_any (wpAny_Call_append rfl (by rw[sp]; rfl) (by simpa using hl) (by rw[sp]; rfl) ?_) (lu K.eok)
  refine cC K.eok.kind h2 (K.loc.var K.eok hv) (aM a vs.toArray rfl (be _ n ea rfl rfl rfl) (cC K.eok.kind hdy (K.loc.var K.eok hu) ?_))
  have hlen:=ra.length
  have hzl:=(sz_list.mp i)
  refine wpAny_list_append_plain (hsz:=by rw[size_toArray,hlen]; unfold sizeLine; exact om hzl) ⟨n,ea⟩ λh' hp hs=>?_
  refine ak (hp) λn' ep=>?_
  clear hp
  have hay:a∉fp y:=hne y _ (Ne.symm r) hy
  have ru:R s.heap u d (fp y):=oru.1
  have rr:RA s.heap (vs++[u]) (xs++[d]) (bs++(fp y++[])):=ra.append (.cons ru .nil)
  rw[append_nil] at rr
  have hx':rem σ y x=some (.d (.list xs),.deep):=(if_neg r).trans hx
  have g:∀ {z:String}{q:V×Mode},rem σ y z=some q->z≠y/\σ z=some q:=λh=>iN h λa b=>⟨a,b⟩
  have dis:∀ b∈bs,b∉fp y:=λb hb=>(g1 b hb).2 y _ (Ne.symm r) hy
  have K':=(K.forget y).write (h':=h') (v':=.d (.list (xs++[d]))) (m':=.deep) (bs':=bs++fp y) hx' hv ea (by simp) Stay.not_list (λuu q=>by cases q) hZ (λz q i j=>hne z q i (g j).2) (hP a (.head _)) hs
   ⟨.list (by simpa using ep) (rr.off (wr:=[a]) (λb hb o e=>.inr (by
    rw[mem_singleton.mp hb] at e ⊢
    rw[ea] at e; injection e
    exact ⟨by simp,λhm=>(mem_append.mp hm).elim hab hay⟩)) λb o hb e=>hs.extBut b o (λq=>hb (by simp[q])) e),
    sz_list.mpr ⟨by rw[length_append]; unfold lim at hlim; show xs.length+1<=_; exact y8 hlim,λz hz'=>(mem_append.mp hz').elim (hzl.2 z) λh=>by rw[mem_singleton.mp h]; exact oru.2⟩⟩
   (λb hb=>(mem_append.mp hb).elim (λh=>hP b (.tail _ h)) λh=>hub b h) (λq=>by cases q)
   (λ_=>⟨λb hb=>(mem_append.mp hb).elim (λh=>⟨(g1 b h).1,λz q i j=>(g1 b h).2 z q i (g j).2⟩) λh=>⟨(dy1 b h).1,λz q i j=>(dy1 b h).2 z q (g j).1 (g j).2⟩,
    nodup_cons.mpr ⟨λhm=>(mem_append.mp hm).elim hab hay,nodup_append.mpr ⟨g2,dy2,λb hb c hc q=>dis b hb (q▸hc)⟩⟩⟩)
   (λz q i j=>⟨λht b cs e hm=>by
    refine aZ (K.top z q (g j).2 ht) λb' cs' e' _ _ h4=>?_
    rw[e] at e'; cases e'
    exact (mem_append.mp hm).elim (λh=>h4 x _ (Ne.symm i) hx (by rw[hfp]; exact .tail _ h)) λh=>h4 y _ (Ne.symm (g j).1) hy h,
    λhd b hb hm=>(mem_append.mp hm).elim (λh=>(g1 b h).2 z q i (g j).2 hb) λh=>(dy1 b h).2 z q (g j).1 (g j).2 hb⟩)
  refine hN _ vals _ ((Kp.refl s).stp.same hs hZ λo e=>by rw[ea] at e; injection e; exact Stay.not_list) K' (.one (λuu uu=>rfl) (λz q h=>iN h λ_ h=>⟨q,h⟩) λb hb i=>?_)
  ·rcases mem_cons.mp hb with rfl | hb
   ·exact absurd i hZ
   ·exact (mem_append.mp hb).elim (λh=>absurd i (g1 b h).1) λh=>absurd i (dy1 b h).1
 ·rw[if_neg hc] at l; exact nB l
theorem vd:cS fns k C (.appM x y):=dv λg c h=>by
 simp only[kU] at h
 unfold k9 at h
 refine bJ h λ_ h=>bJ h λ_ h=>bJ h λ_ h=>bJ h λ_ h=>?_
 split at h<;>cases h
end
section
variable {M:Model}{A:Around}{E:Value->Shared->Prop}{g:Array GenState}{dr:Drawn}{tk:Nat}{os:OsState}
theorem qz
  (hC:h.get? C=some (excClassObj nm q C N bs bm hdct sn sub ab col dd k0 k1 k2 k3 k5 ni)) (hD:h.get? D=some (excClassObj nm' q' D N' bs' bm' hdct' sn' sub' ab' col' dd' j0 j1 j2 j3 j5 ni')) (he:h.get? e=some oe) (hcls:oe.cls = .ref C) (hbase:bm'.contains (.type "BaseException")=true)
  (hq:Q ((Value.ref C::bm).contains (.ref D)) ⟨h,g,dr,tk,os⟩):wpAny M A (excMatches (.ref e) (.ref D)) Q E ⟨h,g,dr,tk,os⟩:=by
 have i:(Value.ref D::bm').contains (.type "BaseException")=true:=by rw[List.contains_cons,hbase,Bool.or_true]
 have f:=tc_notTuple
 unfold excMatches
 repeat (first | (with_reducible refine wpAny_loadPart_at he ?_; rw[hcls]) | with_reducible refine wpAny_loadPart_at hD ?_ | (with_reducible refine wpAny_isSubtype_exc hD ?_; rw[i]) | with_reducible refine wpAny_isSubtype_exc hC ?_ | wp_step)
 cases hb:(Value.ref C::bm).contains (.ref D)<;>(rw[hb] at hq; wp_walk; exact hq)
end
section
theorem SOK.hand (hf:fns.hand=false) {h:Heap}(K:SOK fns k h0 P Z A env h σ vals fp) (v:Value):SOK {fns with hand:=true } k h0 P Z (A.mark (some v)) env h σ vals fp where
 room:=by
  refine ae (K.room.at hf) λi g=>?_
  refine ⟨(λq=>by cases q),?_,?_⟩
  ·show A.depth+2*k+1<_; exact Js i
  ·show A.units+100*k+200<_; exact Hn g
 eok:=K.eok
 ge:=K.ge.flag _ _
 z0:=K.z0
 kp0:=K.kp0
 code:=K.code
 out:=λq=>by exact nT q
 zdom:=K.zdom
 loc:=K.loc
 val:=K.val
 top:=K.top
 deep:=K.deep
theorem SOK.back {h ha:Heap}{σa:St}{valsa:String->Option Value}{fpa:String->List Addr}{v:Value}(K:SOK {fns with hand:=true } k h0 P Z (A.mark (some v)) env h σ vals fp) (g:SOK fns k h0 P Z A env ha σa valsa fpa):SOK fns k h0 P Z A env h σ vals fp where
 room:=g.room
 eok:=K.eok
 ge:=g.ge
 z0:=K.z0
 kp0:=K.kp0
 code:=K.code
 out:=g.out
 zdom:=K.zdom
 loc:=K.loc
 val:=K.val
 top:=K.top
 deep:=K.deep
theorem calm_bind_ok' {α β:Type}{o:Out α}{f:α->Out β}{b:β}(h:o.calm.bind f = .ok b):∃ a,o = .ok a/\f a = .ok b:=by
 cases o with
 | ok a=>exact (ah a rfl h)
 | exc c=>exact nB h
 | bad=>exact nB h
theorem zF:∀ (b:List H1) {stmts:List Stmt}{h0:Heap}{P Z:Addr->Prop}{A:Around}{env:Env}{σ:St}{vals:String->Option Value}{fp:String->List Addr}{s:Shared}{Q:Flow->Shared->Prop}{Er:Value->Shared->Prop}{σ':St}{fl:Flw},
  xQ env.scope.names b stmts=true->SOK fns k h0 P Z A env s.heap σ vals fp->exH b σ = .ok (σ',fl) ->
  (fl = .next->∀ s' vals' fp',Stp Z s s'->SOK fns k h0 P Z A env s'.heap σ' vals' fp'->Frm Z (w2 b) σ vals fp σ' vals' fp'->Q .next s')->(∀ r,fl = .ret r->∀ v s',Stp Z s s'->ma h0 P r v s'->Q (.ret v) s') ->
  wpAny (model prog w) A (execs stmts env) Q Er s
 | [],stmts,h0,P,Z,A,env,σ,vals,fp,s,Q,Er,σ',fl,ok,K,g,hN,hR=>by
  refine bK (show (dI stmts).isSome=true from ok) λuu e=>?_
  rw[ce e]
  cases g
  exact wpAny_execs_nil (hN rfl s vals fp (.refl Z s) K (.id λz q h=>⟨q,h⟩))
 | .asg x e::r,stmts,h0,P,Z,A,env,σ,vals,fp,s,Q,Er,σ',fl,ok,K,g,hN,hR=>by
  refine aj ok λq t ok=>?_
  refine cb ok λm o2=>?_
  rw[cJ t]
  unfold exH at g
  split at g
  ·rename_i o
   refine af (calm_bind_ok' g) λv n g=>?_
   have S:SimE fns k noC XPc e:=(dG bE e o).e
   refine wpAny_execs_cons (kv (x:=x) S ⟨λuu uu uu q=>(by (clear S hN g n m ok; subst q); cases o),λuu uu uu uu q=>(by (clear S hN g n m ok; subst q); cases o)⟩ (show okS env.scope.names (.assign x e) q.1=true from m) K (σ':=upd (consume σ (fv e) v.2) x v) (fl:=.next) (by simp only[a7]; rw[gS n]; rfl) (λuu y j p i K₁ F₁=>?_) λr q=>by cases q)
   exact zF r o2 K₁ g (λe s' vals' fp' l K' F=>hN e s' vals' fp' (i.trans l) K' (F₁.trans F)) λr e v s' l=>hR r e v s' (i.trans l)
  ·exact nB g
 | .ret e::r,stmts,h0,P,Z,A,env,σ,vals,fp,s,Q,Er,σ',fl,ok,K,g,hN,hR=>by
  refine aj ok λq t ok=>?_
  refine cb ok λm o2=>?_
  rw[cJ t]
  unfold exH at g
  split at g
  ·rename_i o
   refine af (calm_bind_ok' g) λv n g=>?_
   cases g
   have S:SimE fns k noC XPc e:=(dG bE e o).e
   exact wpAny_execs_cons (o6 S (show okS env.scope.names (.ret e) q.1=true from m) K (σ':=σ) (fl:=.ret v) (by simp only[jJ]; rw[n]; rfl) (λq=>by cases q) λr q u s' l R=>hR r q u s' l R)
  ·exact nB g
noncomputable def K5 (fns:Fns) (k:Nat) (C:Calls) (st:S):Prop:=∀ {stmt:Stmt}{h0:Heap}{P Z:Addr->Prop}{A:Around}{env:Env}{σ:St}{vals:String->Option Value}{fp:String->List Addr}{s:Shared}{Q:Flow->Shared->Prop}{Er:Value->Shared->Prop}{c:String},
 okS env.scope.names st stmt=true->SOK fns k h0 P Z A env s.heap σ vals fp->ex C st σ = .exc c->(∀ x s',XPc c s x s'->Er x s')->wpAny (model prog w) A (exec stmt env) Q Er s
theorem SOK.evalK (K:SOK fns k h0 P Z A env s.heap σ vals fp) (S:SimE fns k C XPc e) (ok:okE env.scope.names e exx=true) (he:ev C e σ = .exc c)
  (hE:∀ x s',XPc c s x s'->Er x s'):wpAny (model prog w) A (PySem.eval exx env) Q Er s:=by
 have g:ev C e (cD σ (fv e)) = .exc c:=by rw[az C e _ σ (b0 σ (fv e))]; exact he
 refine S ok (K.cx (fv e)) (by rw[g]; simp) (λr h=>by rw[g] at h; cases h) λj i x s' X=>?_
 rw[g] at i; cases i
 exact hE x s' X
theorem wA (hb:pF b=true) (Se:∀ e,b = .expr e->SimE fns k C XPc e) (Sa:∀ x e,b = .assign x e->SimE fns k C XPc e):K5 fns k C b:=by
 intro stmt h0 P Z A env σ vals fp s Q Er c g K h hE
 cases b with
 | expr e=>
  replace g:=l7 g
  revert g; refine λj=>Or.elim j (λm=>?_) (λg=>?_)
  ·clear j
   refine jN (m) λMp Mw z y v o g=>?_
   clear m
   subst o
   simp only[c8] at h
   have hi:interactive env=false:=by unfold interactive; rw[K.eok.kind]; rfl
   rcases bS h with h | ⟨_,_,h⟩
   ·exact wpAny_Expr_any (K.evalK (Se e rfl) g h hE) hi
   ·cases h
  ·cases g
 | assign x e=>
  replace g:=jw g
  revert g; refine λi=>Or.elim i (λl=>?_) (λg=>?_)
  ·clear i
   refine cq (l) λu t r q n g=>?_
   clear l
   subst n
   simp only[and_eq_true,beq_iff_eq] at g
   refine ae (g) λp oe=>?_
   clear g
   refine ae (p) λLx hb=>?_
   clear p
   subst Lx
   simp only[a7] at h
   rcases bS h with h | ⟨_,_,h⟩
   ·refine ae (rC h) λh hc=>?_
    exact wpAny_Assign_Name (K.evalK (Sa x e rfl) oe h hE) (gv (jB hc oe) _ _ _)
   ·cases h
  ·cases g
 | _=>exact nF hb
theorem vT (inj:∀ c∈SF.excN,∀ c' ∈ "PickError" :: SF.excN,SF.exc c=SF.exc c'->c=c') (hc:c∈SF.excN) (hd:d∈SF.excN):(Value.ref (SF.exc c)::eJ c).contains (.ref (SF.exc d))=decide (d=c\/d = "PickError"):=by
 have g:bmV.contains (.ref (SF.exc d))=false:=by unfold bmV; simp
 by_cases h1:d=c
 ·(clear hc; subst h1); simp
 ·have h:SF.exc d≠SF.exc c:=λq=>h1 (inj d hd c (.tail _ hc) q)
  rw[List.contains_cons]
  have i:(Value.ref (SF.exc d)==Value.ref (SF.exc c))=false:=by simpa using h
  rw[i,Bool.false_or]
  unfold eJ
  by_cases h2:d = "PickError"
  ·(clear i g hd h; subst h2)
   have:c ≠ "PickError" := λq=>h1 q.symm
   rw[if_neg this]
   simp
  ·have j:SF.exc d≠SF.exc "PickError" := λq=>h2 (inj d hd _ (.head _) q)
   have:decide (d=c\/d = "PickError")=false:=by simp[h1,h2]
   rw[this]
   split
   ·exact g
   ·rw[List.contains_cons,g,Bool.or_false]
    simpa using j
theorem uA (hf:fns.hand=false) (hC:cI fns k C XPc) (K₀:SOK fns k h0 P Z A env s.heap σ vals fp):∀ (hs:List (String×List H1)) (ds:List ExceptHandler) {h:Heap}{tk:Nat},sN env.scope.names hs ds=true ->
  K s.heap h->FlyA (dom s.heap) h c .none x->FrOk h l->iL C c hs σ = .ok (σ',fl) ->
  (fl = .next->∀ s' vals' fp',Stp Z s s'->SOK fns k h0 P Z A env s'.heap σ' vals' fp'->Frm Z (se hs) σ vals fp σ' vals' fp'->Q .next s')->(∀ r,fl = .ret r->∀ v s',Stp Z s s'->ma h0 P r v s'->Q (.ret v) s') ->
  wpAny (model prog w) A (handleBy x env ds) Q Er {s with heap:=h,toks:=tk }
 | [],ds,h,tk,ok,kk,fly,fr,m,hN,hR=>by exact nB m
 | p::r,[],h,tk,ok,kk,fly,fr,m,hN,hR=>by exact nF ok
 | p::r,d::ds,h,tk,ok,kk,fly,fr,m,hN,hR=>by
  refine cb ok λu o2=>?_
  refine aj u λq e1 u=>?_
  refine aj u λn e2 u=>?_
  simp only[and_eq_true,beq_iff_eq] at u
  refine ae (u) λLB ob=>?_
  clear u
  refine ae (LB) λLz hd=>?_
  clear LB
  refine ae (Lz) λhn hg=>?_
  clear Lz
  refine ak (wl e1) λpos e3=>?_
  rw[e3,a6 e2,hn]
  unfold iL at m
  refine a9 m λgC hgC m=>?_
  split at m
  ·rename_i hne
   have hdN:=(hC p.1 gC hgC).2.2.1 hne
   have ge:=K₀.ge.k (KG.trans K₀.kp0 kk)
   refine aq (ge.exc) λmg g1 g2 g3=>?_
   obtain ⟨gm,N',nm',q',bs',hdct',sn',sub',ab',col',dd',j0,j1,j2,j3,j5,mN',d1,d2,d3,d4⟩:=g2 p.1 hdN
   have t:=fly
   refine aA (fly) λe vs LC LF _=>?_
   clear fly
   subst LC
   refine aG (LF) λne cn j=>?_
   clear LF
   refine aq (j) λoe ee hc hdt=>?_
   clear j
   obtain ⟨_,N,nm,qn,bs,hdct,sn,sub,ab,col,dd,k0,k1,k2,k3,k5,mN,c1,c2,c3,c4⟩:=g2 c cn
   refine wpAny_handleBy_cons (codeAny_handlers_test (Calls.Name_function_global K₀.eok.kind (fP hg) (Calls.loadGlobal_global (K₀.eok.glob▸g1) gm ?_) (nd hd))) (by intro q; cases q)
   refine qz c1 d1 ee hc (d4.hasType PySem.F.excBase_ValueError.hasBase) ?_
   rw[vT g3 cn hdN]
   split at m
   ·rename_i hm
    rw[decide_eq_true hm]
    refine codeAny_handlers_suite (lX (l:=l) fr t λg fd kd F₄=>?_)
    have k04:K s.heap g:=Internal.K.step kk kd λb o e=>⟨o,e⟩
    have i:Stp Z s {s with heap:=g,toks:=tk }:=(aC g tk rfl (k04.mono λuu uu=>trivial))
    refine zF (fns:={fns with hand:=true }) (s:={s with heap:=g,toks:=tk }) p.2 ob ((K₀.onK k04).hand hf (.ref e)) m (λe s' vals' fp' z K' F=>?_) λr e v s' z R=>hR r e v s' (i.trans z) R
    (clear hR; subst e)
    exact hN rfl s' vals' fp' (i.trans z) (K'.back K₀) (F.more λy hy=>mem_append_left _ hy)
   ·rename_i hm
    rw[decide_eq_false hm]
    exact uA hf hC K₀ r ds o2 kk t fr m (λe s' vals' fp' z K' F=>hN e s' vals' fp' z K' (F.more λy hy=>mem_append_right _ hy)) hR
  ·exact nB m
theorem AM (h:orH C b hs σ o = .ok r):o = .ok r\/∃ c,o = .exc c/\pF b=true/\iL C c hs σ = .ok r:=by
 cases o with
 | ok a=>exact .inl h
 | exc c=>
  simp only[orH] at h
  split at h
  ·rename_i q; exact .inr (aF c rfl q h)
  ·exact nB h
 | bad=>exact nB h
theorem xZ (hf:fns.hand=false) (hC:cI fns k C XPc) (Sb:cX fns k C b) (Se:∀ e,b = .expr e->SimE fns k C XPc e) (Sa:∀ x e,b = .assign x e->SimE fns k C XPc e):cX fns k C (.tryS b hs):=by
 intro stmt h0 P Z A env σ vals fp s Q Er σ' fl ok K j hN hR
 refine si (Bu ok) λt d ds p LI ob oh=>?_
 (clear ok; subst LI)
 simp only[iI] at j
 refine wpAny_Try_except (wpAny_execs_cons ?_)
 rcases AM j with j | ⟨c,j,h1,h2⟩
 ·refine Sb ob K j (λe n g i m K' F=>?_) λr e v n m R=>hR r e v n m R
  exact wpAny_execs_nil (wpAny_execs_nil (hN e n g i m K' (F.more λy hy=>mem_append_left _ hy)))
 ·refine wA h1 Se Sa ob K j λx s₁ X=>?_
  refine ae (X) λq fly=>?_
  clear X
  refine av (q) λha tka Ly h=>?_
  clear q
  subst Ly
  refine aq ((K.onK h).lv hf) λl l1 l2 l3=>?_
  have hN':∀ b,dom s.heap b->∃ o,ha.get? b=some o:=λb ⟨o,e⟩=>af (h b o (.inl trivial) e) λo' e' uu=>⟨o',e'⟩
  refine xO hN' l1 l2 l3 (Fly.exc fly) λhb f₂ z F₂=>lX F₂ f₂ λhc f₃ u F₃=>?_
  exact uA hf hC K hs (d::ds) oh (Internal.K.step (Internal.K.step h z λb o e=>⟨o,e⟩) u λb o e=>⟨o,e⟩) f₃ F₃ h2 (λe n g i m K' F=>hN e n g i m K' (F.more λy hy=>mem_append_right _ hy)) hR
theorem t9:∀ (b:List H1) (σ:St),exH b σ≠.exc c
 | [],σ,h=>by cases h
 | .asg x e::r,σ,h=>by
  unfold exH at h
  split at h
  ·refine du h λq h=>?_
   exact t9 r _ h
  ·cases h
 | .ret e::r,σ,h=>by
  unfold exH at h
  split at h
  ·refine du h λq h=>?_
   cases h
  ·cases h
theorem qS:∀ (hs:List (String×List H1)) (σ:St),iL C c hs σ≠.exc c'
 | [],σ,h=>by cases h
 | p::r,σ,h=>by
  unfold iL at h
  refine bJ h λuu h=>?_
  split at h
  ·split at h
   ·exact t9 _ _ h
   ·exact qS r σ h
  ·cases h
theorem wi:cS fns k C (.tryS b hs):=dv λg c h=>by
 simp only[iI] at h
 cases o:ex C b g with
 | ok a=>rw[o] at h; cases h
 | exc c=>
  rw[o] at h
  simp only[orH] at h
  split at h
  ·exact qS _ _ h
  ·cases h
 | bad=>rw[o] at h; cases h
end
section
theorem RV.fields {h h':Heap}{wr:List Addr}{v:Value}{x:V}{as:List Addr}(r:RV h v x as) (hw:∀ b∈wr,∃ o,h.get? b=some o/\(∀ C,o.cls≠.ref C)/\∃ fs,o.data = .fields fs) (kp:∀ b o,b∉wr->h.get? b=some o->h'.get? b=some o):RV h' v x as:=by
 have j:∀ b o,h.get? b=some o->(∀ fs,o.data≠.fields fs)->b∉wr:=λb o e z hm=>by
  refine aq (hw b hm) λi g _ p=>?_
  refine ak (p) λfs q=>?_
  clear p
  rw[e] at g; injection g
  exact z fs q
 have key:∀ ks b,IsTupleKey (intKind prog w) h ks b->IsTupleKey (intKind prog w) h' ks b:=λks b hk=>by
  refine aV (hk) λi it n a1 a2 a3=>?_
  clear hk
  exact (cF i it n (kp b i (j b i a1 λfs q=>by rw[a3.1] at q; cases q) a1) a2 a3)
 cases x with
 | d x=>exact ⟨r.1.off (wr:=wr) (λb hb o e=>.inl λvs n q=>by
   refine aq (hw b hb) λi g _ m=>?_
   refine ak (m) λfs q'=>?_
   clear m
   rw[e] at g; injection g
   rw[q] at q'; cases q') kp,r.2⟩
 | dic0=>
  refine jW (r) λb h1 h2 h3 LA Lx=>?_
  clear r
  refine eV (LA) λo es ep e hx z hr=>?_
  clear LA
  refine cK (Lx) λi es' ep' g h4 h5 h6 h7 h8=>?_
  clear Lx
  exact (ic b h1 h2 h3 (gf o es ep (kp b o (j b o e λfs q=>by rw[z] at q; cases q) e) hx z hr) (fo i es' ep' (kp b i (j b i g λfs q=>by rw[h5] at q; cases q) g) h4 h5 h6 (λy hy=>key _ _ (h7 y hy)) h8))
 | dicI ks=>
  refine bQ (r) λb h1 h2 h3 LB=>?_
  clear r
  refine eV (LB) λo es ep e hx z hr=>?_
  clear LB
  exact (bw b h1 h2 h3 (gf o es ep (kp b o (j b o e λfs q=>by rw[z] at q; cases q) e) hx z hr))
 | dicT ks=>
  refine lU (r) λb xs h1 h2 h3 Lz h9=>?_
  clear r
  refine cK (Lz) λi es' ep' g h4 h5 h6 h7 h8=>?_
  clear Lz
  exact (gc b xs h1 h2 h3 (fo i es' ep' (kp b i (j b i g λfs q=>by rw[h5] at q; cases q) g) h4 h5 h6 (λy hy=>key _ _ (h7 y hy)) h8) h9.1 h9.2.1 (λx hx=>(h9.2.2 x hx).off (wr:=wr) (λb hb o e=>.inl λvs n q=>by
   refine aq (hw b hb) λi g _ l=>?_
   refine ak (l) λfs q'=>?_
   clear l
   rw[e] at g; injection g
   rw[q] at q'; cases q') kp))
 | rule c d n=>
  refine iW (r) λx D o vf bs t u mA h1 h2 h3 h4 h5 h6 h7 LC h9 h10 h11 h12 h13 h14=>?_
  clear r
  refine bv (LC) λoD es ep e z=>?_
  clear LC
  have nx:x∉wr:=λhm=>by
   refine aq (hw x hm) λi g hn _=>?_
   rw[h3] at g; injection g
   exact hn _ h4
  have nD:D∉wr:=j D oD e λfs q=>by rw[z.1] at q; cases q
  exact (jy x D o vf bs t u mA h1 h2 (kp x o nx h3) h4 h5 h6 h7 (cz oD es ep (kp D oD nD e) z) h9 h10 h11 h12 (h13.off (wr:=wr) (λb hb o e=>.inl λvs n q=>by
   refine aq (hw b hb) λi g _ k=>?_
   refine ak (k) λfs q'=>?_
   clear k
   rw[e] at g; injection g
   rw[q] at q'; cases q') kp) h14)
theorem SOK.iter {h h':Heap}{wr:List Addr}(K:SOK fns k h0 P Z A env h σ vals fp) (hw:∀ b∈wr,∃ o,h.get? b=some o/\(∀ C,o.cls≠.ref C)/\∃ fs,o.data = .fields fs) (hw':∀ b∈wr,Z b->∃ o,h'.get? b=some o) (hw0:∀ b∈wr,h0.get? b=none) (hns:∀ b∈wr,∀ o,h.get? b=some o->¬ Stay o) (kp:∀ b o,b∉wr->h.get? b=some o->h'.get? b=some o):SOK fns k h0 P Z A env h' σ vals fp:=by
 have out:∀ b o,h.get? b=some o->(∀ fs,o.data≠.fields fs)->b∉wr:=λb o e y u=>by
  refine aq (hw b u) λo' t _ j=>?_
  refine ak (j) λfs q=>?_
  clear j
  rw[e] at t; injection t
  exact y fs q
 refine ⟨K.room,K.eok,K.ge,K.z0,Internal.K.step K.kp0 (KG.ofW kp hns) (λb o e u=>by rw[hw0 b u] at e; cases e),K.code,K.out,λb hb=>?_,⟨(let ⟨m,⟨o',es,ep,t,y,_⟩,_⟩:=K.loc.ns; af (K.loc.cls) λo e c=>(ah o (kp _ o (out _ o e λfs q=>by rw[e] at t; injection t; rw[y] at q; cases q) e) c)),?_,K.loc.nz,λn c a b=>?_,λx v c a b d=>?_,K.loc.apart,K.loc.kinds⟩,λx p hp=>?_,K.top,K.deep⟩
 ·by_cases u:b∈wr
  ·exact hw' b u hb
  ·refine ak (K.zdom b hb) λo e=>?_
   exact ⟨o,kp b o u e⟩
 ·refine af (K.loc.ns) λm z hv=>?_
  refine aV (z) λo es ep e y hr=>?_
  clear z
  exact (ah m (cF o es ep (kp _ o (out _ o e λfs q=>by rw[y] at q; cases q) e) y hr) hv)
 ·refine aG (K.loc.cell n c a b) λh1 h2 i=>?_
  refine av (i) λv o r l=>?_
  clear i
  exact (cg h1 h2 (aC v o (kp c o (out c o r λfs q=>by rw[l] at q; cases q) r) l))
 ·refine af (K.loc.cval x v c a b d) λo r l=>?_
  exact (ah o (kp c o (out c o r λfs q=>by rw[l] at q; cases q) r) l)
 ·refine ae (K.val x p hp) λh1 g=>?_
  refine aq (g) λv h2 r l=>?_
  clear g
  exact (aB h1 (aF v h2 (r.fields hw kp) l))
theorem SOK.excl {s:Shared}{ns:List String}{m:Mode}{F:List Addr}(K:SOK fns k h0 P Z A env s.heap σ vals fp) (ha:∀ a∈F,Own σ fp ns a\/s.heap.get? a=none) (hd:m = .deep->∀ a∈F,s.heap.get? a=none) :
  ∀ y q,Internal.consume σ ns m y=some q->(q.2 = .top->∀ a bs,fp y=a::bs->a∉F)/\(q.2 = .deep->∀ a∈fp y,a∉F):=by
 have nf:∀ a,s.heap.get? a=none->∀ y q,σ y=some q->a∉fp y:=λa e y q hq hm=>by
  refine ae (K.val y q hq) λuu MY=>?_
  refine aq (MY) λu _ hr _=>?_
  clear MY
  refine ak (hr.there a hm) λo e'=>?_
  rw[e] at e'; exact nN e'
 intro y q hq
 by_cases hdp:m = .deep
 ·have hq':σ y=some q:=by unfold Internal.consume at hq; rwa [if_pos hdp] at hq
  exact ⟨λuu a bs e hm=>nf a (hd hdp a hm) y q hq' (by rw[e]; exact .head _),λuu a ha' hm=>nf a (hd hdp a hm) y q hq' ha'⟩
 ·have hq2:Internal.demote σ ns y=some q:=by unfold Internal.consume at hq; rwa [if_neg hdp] at hq
  refine eu hq2 λq' hq' e1 hc=>?_
  rcases hc with ⟨_,rfl⟩ | ⟨hn,rfl⟩
  ·refine ⟨λh=>absurd h hY,λh a ha'=>?_⟩
   refine ae (K.val y q' hq') λuu MX=>?_
   refine aq (MX) λu _ hr _=>?_
   clear MX
   rw[hr.scal_nil (fA h)] at ha'
   cases ha'
  ·refine ⟨λh a bs e hm=>?_,λh a ha' hm=>?_⟩
   ·refine Or.elim (ha a hm) (λLL=>?_) (λh1=>?_)
    ·refine aA (LL) λz p hz hp hf=>?_
     clear LL
     refine aZ (K.top y q hq' h) λa' bs' e' _ _ h4=>?_
     rw[e] at e'; cases e'
     exact h4 z p (λq=>hn (q▸hz)) hp hf
    ·exact nf a h1 y q hq' (by rw[e]; exact .head _)
   ·refine Or.elim (ha a hm) (λLO=>?_) (λh1=>?_)
    ·refine aA (LO) λz p hz hp hf=>?_
     clear LO
     exact ((K.deep y q hq' h).1 a ha').2 z p (λq=>hn (q▸hz)) hp hf
    ·exact nf a h1 y q hq' ha'
noncomputable def FI (fns:Fns) (k:Nat) (C:Calls) (h0:Heap) (P Z:Addr->Prop) (A:Around) (env:Env) (x:String) (b:Ss) (s h:Shared) (ds:List PyData) (F wr:List Addr) (L:Addr->Prop) (St:Nat->Heap->Prop) (out:Out (Internal.St×Flw)) (σo:Internal.St) (vals:String->Option Value) (fp:String->List Addr) (n:Nat) (s':Shared):Prop :=
 ∃ (j:Nat) (σj:Internal.St) (vals':String->Option Value) (fp':String->List Addr),Stp Z s s'/\SOK fns k h0 P (λb=>Z b\/(b∈F\/b∈wr\/L b)) A env s'.heap σj vals' fp'/\St j s'.heap/\j<=ds.length/\n=ds.length+1-j /\
    c6 (λy g=>exs C b (upd g x (mk (.d y)))) (ds.drop j) σj=out/\KG (λb=>Z b\/(b∈F\/L b)) h.heap s'.heap/\Frm (λb=>Z b\/L b) (x::ig b) σo vals fp σj vals' fp'
set_option maxHeartbeats 1000000 in
theorem vq (Si:d9 fns k C XP it) (Sb:eN fns k C b) (Xb:eU fns k C b) (L:Addr->Prop)
  (ok:okS env.scope.names (.for1 x it b) stmt=true) (K:SOK fns k h0 P Z A env s.heap σ vals fp) (e1:bh C it (cD σ (bZ it)) = .ok (ds,md)) (he1:c6 (λy σ=>exs C b (upd σ x (mk (.d y)))) ds σo=out) (hnb:out≠.bad)
  (hK:∀ h',Internal.K s.heap h'->SOK fns k h0 P Z A env h' σo vals fp) (cs:∀ y q,σo y=some q->∃ q',σ y=some q')
  (hex:∀ F:List Addr,(∀ a∈F,Own σ fp (bZ it) a\/s.heap.get? a=none)->(md = .deep->∀ a∈F,s.heap.get? a=none)->∀ y q,σo y=some q->(q.2 = .top->∀ a bs,fp y=a::bs->a∉F)/\(q.2 = .deep->∀ a∈fp y,a∉F))
  (hL1:∀ a,L a->a≠env.locals/\∃ vs n,s.heap.get? a=some ⟨.type "list", none,.seq vs n,#[]⟩) (hL2:∀ y q,σo y=some q->∀ a∈fp y,¬ L a) (hsc:(∀ d∈ds,sx d=true)\/∀ y q,σ y=some q->∃ q',σo y=some q')
  (hN:∀ σ',out = .ok (σ',.next)->∀ s' vals' fp',Stp Z s s'->KG (λb=>Z b\/L b) s.heap s'.heap->SOK fns k h0 P Z A env s'.heap σ' vals' fp'->Frm (λb=>Z b\/L b) (x::ig b) σo vals fp σ' vals' fp'->Q .next s')
  (hR:∀ σ' r,out = .ok (σ',.ret r)->∀ v s',Stp Z s s'->ma h0 P r v s'->Q (.ret v) s') (hX:∀ c,out = .exc c->∀ x s',Stp Z s s'->Lv A env s'.heap->Exc Z s'.heap c env.locals x->Er x s'):wpAny (model prog w) A (exec stmt env) Q Er s:=by
 replace ok:=qW ok
 revert ok; refine λMe=>Or.elim Me (λLZ=>?_) (λok=>?_)
 ·clear Me
  refine jN (LZ) λt pt iter body spos M1 ok=>?_
  clear LZ
  subst M1
  simp only[and_eq_true,beq_iff_eq] at ok
  refine ae (ok) λLI ob=>?_
  clear ok
  refine ae (LI) λLD oi=>?_
  clear LI
  refine ae (LD) λLy hb=>?_
  clear LD
  subst Ly
  refine fm hb λg1 g2 g3=>?_
  refine wpAny_For (Si oi (K.cx (bZ it)) (by rw[e1]; simp) (λq' hq' i s₂ I=>?_) λc hc=>by rw[e1] at hc; cases hc) (mz oi env)
  rw[e1] at hq'; injection hq'
  obtain ⟨kpb,LG,hsm⟩:=I
  refine tS (LG) λI fpw wr Pw St F LJ W hst hwr hfp hPw hF hFP hFd=>?_
  clear LG
  subst LJ
  have exists_s:∀ b o,s.heap.get? b=some o->b∉wr:=λb o e hm=>by rw[(hwr b hm).1] at e; exact nN e
  have hLs:∃ o es ep,s.heap.get? env.locals=some o/\o.data = .dict es ep:=by
   refine af (K.loc.ns) λm LH _=>?_
   refine aV (LH) λo es ep e hd _=>?_
   clear LH
   exact (cz o es ep e hd)
  have hFL:env.locals∉F:=λhm=>by
   refine bv (hLs) λo es ep e hd=>?_
   clear hLs
   refine ba (hF _ hm) λvs n e'=>?_
   obtain ⟨_,e1,d1,_⟩:=kpb.k.data e λfs q=>by rw[hd] at q; cases q
   rw[e1] at e'; (have oc:=Option.some.inj e'; clear e'; (clear e1 right; subst oc)); rw[hd] at d1; cases d1
  have ex0:=hex F hFP hFd
  have nf:∀ y q,σo y=some q->∀ a∈fp y,a∉wr:=λy q hq a ha hm=>by
   refine ak (cs y q hq) λq' hq'=>?_
   refine ae (K.val y q' hq') λuu MW=>?_
   refine aq (MW) λu _ hr _=>?_
   clear MW
   refine ak (hr.there a ha) λo e=>?_
   exact exists_s a o e hm
  have wz:∀ b∈wr,¬ Z b:=λb hm hz=>by
   refine ak (K.zdom b hz) λo e=>?_
   exact exists_s b o e hm
  have w0:∀ b∈wr,h0.get? b=none:=λb hm=>by
   cases e:h0.get? b with
   | none=>rfl
   | some o=>exact absurd (K.z0 b o e) (wz b hm)
  have K₂:SOK fns k h0 P (λb=>Z b\/(b∈F\/b∈wr\/L b)) A env s₂.heap σo vals fp:=by
   refine (hK _ kpb.k).freeze (λb hb=>?_) (λhm=>?_) (λn c hkn hc hm=>?_) (λy q hq hqt a bs e hm=>?_) (λy q hq hqd a ha hm=>?_)
   ·rcases hb with hb | hb | hb
    ·obtain ⟨vs,n,e⟩:=hF b hb; exact ⟨_,e⟩
    ·obtain ⟨o,e,_⟩:=(hwr b hb).2.2 0 _ hst; exact ⟨o,e⟩
    ·obtain ⟨_,vs,n,e⟩:=hL1 b hb; exact ⟨_,kpb.k.get e rfl⟩
   ·rcases hm with hm | hm | hm
    ·exact hFL hm
    ·refine bv (hLs) λo es ep e hd=>?_
     clear hLs
     exact exists_s _ o e hm
    ·exact (hL1 _ hm).1 rfl
   ·refine aG (K.loc.cell n c hkn hc) λuu uu MJ=>?_
    refine av (MJ) λv o e hd=>?_
    clear MJ
    rcases hm with hm | hm | hm
    ·refine ba (hF c hm) λvs n e'=>?_
     obtain ⟨_,e1,d1,_⟩:=kpb.k.data e λfs q=>by rw[hd] at q; cases q
     rw[e1] at e'; (have oc:=Option.some.inj e'; clear e'; (clear e1 right; subst oc)); rw[hd] at d1; cases d1
    ·exact exists_s c o e hm
    ·refine ae (hL1 c hm) λuu MD=>?_
     refine ba (MD) λvs n e'=>?_
     clear MD
     rw[e] at e'; (have oc:=Option.some.inj e'; clear e'; (clear e; subst oc)); cases hd
   ·rcases hm with hm | hm | hm
    ·exact (ex0 y q hq).1 hqt a bs e hm
    ·exact nf y q hq a (by rw[e]; exact .head _) hm
    ·exact hL2 y q hq a (by rw[e]; exact .head _) hm
   ·rcases hm with hm | hm | hm
    ·exact (ex0 y q hq).2 hqd a ha hm
    ·exact nf y q hq a ha hm
    ·exact hL2 y q hq a ha hm
  have FP:∀ a∈F,a≠env.locals/\(P a\/h0.get? a=none):=λa ha=>by
   refine ⟨λq=>hFL (q▸ha),?_⟩
   rcases hFP a ha with h | h
   ·exact (K.own h).2.2
   ·right
    cases e:h0.get? a with
    | none=>rfl
    | some o=>obtain ⟨_,e'⟩:=Internal.K.there K.kp0 e; rw[e'] at h; exact nM h
  have stpb:Stp Z s s₂:=kpb.stp
  refine codeAny_forLoop_any
   (FI fns k C h0 P Z A env x b s s₂ ds F wr L St out σo vals fp) ?_ (ds.length+1)
   (pj 0 _ vals fp stpb K₂ hst (zero_le _) rfl (by simpa using he1) KG.refl (.id λz q h=>⟨q,h⟩))
  intro n s' LK
  refine uw (LK) λj σj vals' fp' stp' K' hst' hj LM p hkp hfr=>?_
  clear LK
  subst LM
  have hLw:∀ b,L b->b∉wr:=λb hb=>let ⟨_,vs,n,e⟩:=hL1 b hb; exists_s b _ e
  have hwf:∀ b∈wr,∃ o,s'.heap.get? b=some o/\(∀ C,o.cls≠.ref C)/\∃ fs,o.data = .fields fs:=λb hm=>aq ((hwr b hm).2.2 j _ hst') λo e g f=>(aF o e g.2.2 f)
  have hFw:∀ a∈F,a∉wr:=λa ha hm=>(hwr a hm).2.1 ha
  have hns:∀ b∈wr,∀ o,s'.heap.get? b=some o->¬ Stay o:=λb hm o e=>by
   refine aq ((hwr b hm).2.2 j _ hst') λo' e' LN MM=>?_
   refine ak (MM) λfs q=>?_
   clear MM
   refine ae (LN) λuu hc=>?_
   clear LN
   rw[e] at e'; (have oc:=Option.some.inj e'; clear e'; (clear uu; subst oc))
   exact λx=>x.elim (λx=>hc.1 x.1) λx=>let ⟨_,vs,n,e⟩:=x; by rw[q] at e; cases e
  have step1:∀ h₁ tka,(∀ b∈wr,∃ o,h₁.get? b=some o)->(∀ b o,b∉wr->s'.heap.get? b=some o->h₁.get? b=some o)->SOK fns k h0 P (λb=>Z b\/(b∈F\/b∈wr\/L b)) A env h₁ σj vals' fp'/\Stp Z s {s' with heap:=h₁,toks:=tka }:=λh₁ tka hwa hka=>by
   refine ⟨K'.iter hwf (λb hm _=>hwa b hm) w0 hns hka,?_⟩
   refine av (stp') λhh tk' LP kk=>?_
   clear stp'
   (clear K' hkp hst' hwf; subst LP)
   exact (aC h₁ tka rfl (kk.trans ((KG.ofW hka hns).mono λb hz hm=>wz b hm hz)))
  by_cases hlt:j<ds.length
  ·obtain ⟨d,hd⟩:∃ d,ds[j]? = some d:=⟨_,List.getElem?_eq_getElem hlt⟩
   have hdd:ds.drop j=d::ds.drop (j+1):=by
    rw[drop_eq_getElem_cons hlt]
    rw[List.getElem?_eq_getElem hlt] at hd
    injection hd; rfl
   rw[hdd] at p
   simp only[c6] at p
   refine W.item j _ _ _ hlt hst' λv h₁ tka hPv hsta hka=>?_
   obtain ⟨K₁,stpa⟩:=step1 h₁ tka (λb hm=>af ((hwr b hm).2.2 (j+1) h₁ hsta) λo e uu=>⟨o,e⟩) hka
   refine af (hPw j v hPv d hd) λbs hrv hbs=>?_
   have hkpa:KG (λb=>Z b\/(b∈F\/L b)) s₂.heap h₁:=hkp.trans ((KG.ofW hka hns).mono λb hb hm=>hb.elim (wz b hm) λhf=>hf.elim (λhf=>hFw b hf hm) λhf=>hLw b hf hm)
   have hrva:R h₁ v d bs:=hrv.onG hkpa λb hb=>.inr (.inl (hbs b hb))
   have hfpH:∀ b∈fpw,∀ o,h₁.get? b=some o->hardB o=true:=λb hb o e=>by
    rcases hfp b hb with hb | hb
    ·refine aq ((hwr b hb).2.2 _ _ hsta) λo' e' LQ _=>?_
     refine ae (LQ) λhh _=>?_
     clear LQ
     rw[e] at e'; injection e'; exact hh
    ·refine ba (hF b hb) λvs' n' e'=>?_
     rw[hkpa.hard (.inl (.inr (.inl hb))) e' rfl] at e
     injection e; rfl
   have hzd:sz d=true:=hsm.2 d (mem_of_getElem? hd)
   refine wpAny_of_eq rfl ?_
   refine wpAny_assign_Name (K₁.put (r:=mk (.d d)) (as:=bs) g1 g3 ⟨hrva,hzd⟩ (λa ha=>FP a (hbs a ha)) (λh=>absurd h hY) (λh=>?_) (λy q hy hq=>⟨λht a cs e hm=>?_,λhdp a ha hm=>?_⟩) λsc stc kkc K₃=>?_)
   ·have:bs=[]:=hrva.sx_nil (fA h)
    (clear hbs hrv hrva; subst this)
    exact ⟨λuu h=>(nomatch h),.nil⟩
   ·refine aA (K₁.top y q hq ht) λa' bs' e' h1 _=>?_
    rw[e] at e'; cases e'
    exact h1 (.inr (.inl (hbs a hm)))
   ·exact ((K₁.deep y q hq hdp).1 a ha).1 (.inr (.inl (hbs a hm)))
   ·have hfx:Frm (λb=>Z b\/L b) (x::ig b) σo vals fp (upd σj x (mk (.d d))) (ey vals' x v) (λy=>if y=x then bs else fp' y):=by
     refine ⟨λy hy=>?_,λb' hz hb' z q hq hm=>?_⟩
     ·have hyx:y≠x:=λq=>hy (q▸.head _)
      have:=hfr.1 y hy
      exact ⟨(if_neg hyx).trans this.1,(if_neg hyx).trans this.2⟩
     ·unfold upd at hq
      dsimp only at hm
      by_cases e:z=x
      ·rw[if_pos e] at hm
       rcases hsc with h | h
       ·rw[hrva.sx_nil (h d (mem_of_getElem? hd))] at hm; cases hm
       ·refine Or.elim (hFP b' (hbs b' hm)) (λMj=>?_) (λh1=>?_)
        ·refine aA (Mj) λy q M2 h1 h2=>?_
         clear Mj
         refine ak (h y q h1) λq' hq'=>?_
         exact hb' y q' hq' h2
        ·rcases hz with hz | hz
         ·refine ak (K.zdom b' hz) λo e=>?_
          rw[h1] at e; exact nN e
         ·refine ae (hL1 b' hz) λuu MN=>?_
          refine ba (MN) λvs n e=>?_
          clear MN
          rw[h1] at e; exact nN e
      ·rw[if_neg e] at hq hm
       exact hfr.2 b' hz hb' z q hq hm
    have bodyc:∀ s₄,Stp (λb=>Z b\/(b∈F\/b∈wr\/L b)) sc s₄->Stp Z s s₄/\St (j+1) s₄.heap/\KG (λb=>Z b\/(b∈F\/L b)) s₂.heap s₄.heap:=λs₄ std=>by
     have st:=stc.trans std
     refine ⟨stpa.trans (st.mono λb hb=>.inl hb),?_,?_⟩
     ·refine av (st) λh₄ tkd LS kkd=>?_
      clear st
      (clear std; subst LS)
      exact W.frame _ _ _ hsta λb hb o e=>kkd.hard (.inl (.inr ((hfp b hb).elim (λh=>.inr (.inl h)) .inl))) e (hfpH b hb o e)
     ·refine av (st) λh₄ tkd LR kkd=>?_
      clear st
      (clear std; subst LR)
      exact hkpa.trans (kkd.mono λb hb=>hb.imp id λh=>h.imp id .inr)
    cases hbody:exs C b (upd σj x (mk (.d d))) with
    | bad=>rw[hbody] at p; exact absurd p.symm hnb
    | exc c=>
     rw[hbody] at p
     refine Xb ob K₃ hbody λz s₄ std lv exc=>?_
     refine aq (lv) λl l1 l2 l3=>?_
     clear lv
     refine av ((bodyc s₄ std).1) λh₄ tkd ed kkd=>?_
     (clear std; subst ed)
     refine Jv (N:=Z) (λb hb=>?_) l1 l2 l3 (exc.old λb hb=>.inl hb) λh' ex' kg' fr'=>hX c p.symm z _ (aC h' tkd rfl (kkd.trans kg')) (aF l l1 fr' l3) ex'
     refine ak (K.zdom b hb) λo e=>?_
     refine af (kkd b o (.inl hb) e) λo' e' _=>?_
     exact ⟨o',e'⟩
    | ok o=>
    obtain ⟨σa,fla⟩:=o
    rw[hbody] at p
    simp only[Out.ok_bind] at p
    refine Sb ob K₃ hbody (λe s₄ valsd fpd std Kd F₄=>?_) λr e v s₄ std Rd=>?_
    ·(clear hbody; subst e)
     refine aG (bodyc s₄ std) λq1 q2 q3=>?_
     refine (ah (ds.length+1-(j+1)) (rT hlt) (pj (j+1) σa valsd fpd q1 Kd q2 hlt rfl p q3 ((hfx.trans (F₄.less λb hb=>hb.imp id λh=>.inr (.inr h))).more λy hy=>(mem_append.mp hy).elim (λh=>h) (.tail _))))
    ·(clear hbody; subst e)
     exact hR σa r p.symm v s₄ (bodyc s₄ std).1 Rd
  ·have hjl:j=ds.length:=by exact zq hj hlt
   (clear hj hlt; subst hjl)
   rw[drop_length] at p
   simp only[c6] at p
   refine W.done _ _ _ hst' λh₁ tka hka=>?_
   have st1:Stp Z s {s' with heap:=h₁,toks:=tka }:=by
    refine av (stp') λhh tk' LV kk=>?_
    clear stp'
    (clear K' hkp hst' hwf step1; subst LV)
    exact (aC h₁ tka rfl (kk.trans ((KG.ofW hka hns).mono λb hz hm=>wz b hm hz)))
   have kgL:KG (λb=>Z b\/L b) s.heap h₁:=((kpb.k.mono λuu uu=>trivial).trans (hkp.mono λb hb=>hb.imp id .inr)).trans ((KG.ofW hka hns).mono λb hb hm=>hb.elim (wz b hm) λh=>hLw b h hm)
   exact wpAny_execs_nil (hN σj p.symm {s' with heap:=h₁,toks:=tka } vals' fp' st1 kgL ((K'.thaw (Z:=Z) (λb hb=>.inl hb) K.z0).iter hwf (λb hm hz=>absurd hz (wz b hm)) w0 hns hka) hfr)
 ·cases ok
theorem yd (y:String) (q:V×Mode) (hy:σ y=some q):∃ q',Internal.consume σ ns md y=some q':=by
 unfold Internal.consume
 split
 ·exact ⟨q,hy⟩
 ·unfold Internal.demote
  split
  ·exact ⟨_,by rw[hy]; rfl⟩
  ·exact ⟨q,hy⟩
theorem w5 (Si:d9 fns k C XP it) (Sb:eN fns k C b) (Xb:eU fns k C b):cX fns k C (.for1 x it b):=by
 intro u h0 P Z A env m t fp s Q Er σ' fl ok K he hN hR
 simp only[im] at he
 refine Out.bind_k he λj l o=>?_
 obtain ⟨ds,v⟩:=j
 have e1:bh C it (cD m (bZ it)) = .ok (ds,v):=by rw[ec C it _ m (b0 m _)]; exact l
 exact vq Si Sb Xb (λuu=>False) ok K e1 o (by simp) (λh' kp=>(K.onK kp).consume (bZ it) v) (λy q l=>db l) (λF h1 h2=>K.excl h1 h2) (λa h=>h.elim) (λuu uu uu uu uu h=>h) (.inr yd)
  (λi e s' g p st _ K' F=>by cases e; exact hN rfl s' g p st K' ⟨F.1,λb hz hb=>F.2 b (.inl hz) λz q l=>ak (db l) λq' n=>hb z q' n⟩) (λi r e=>by cases e; exact hR r rfl) λc e=>by cases e
theorem wv (hf:fns.hand=false) (Si:d9 fns k C XPc it) (Sb:eN fns k C b) (Xb:eU fns k C b):cS fns k C (.for1 x it b):=by
 intro stmt h0 P Z A env l vals fp s Q Er c ok K p hE
 simp only[im] at p
 rcases bS p with p | ⟨⟨ds,md⟩,hq,he1⟩
 ·replace ok:=qW ok
  revert ok; refine λg=>Or.elim g (λi=>?_) (λok=>?_)
  ·clear g
   refine jN (i) λMt z v u t j ok=>?_
   clear i
   subst j
   simp only[and_eq_true,beq_iff_eq] at ok
   have o:bh C it (cD l (bZ it)) = .exc c:=by rw[ec C it _ l (b0 l _)]; exact p
   refine wpAny_For (Si ok.1.2 (K.cx (bZ it)) (by rw[o]; simp) (λq' n=>by rw[o] at n; cases n) λc' hc x s' X=>?_) (mz ok.1.2 env)
   rw[o] at hc; cases hc
   exact hE x s' X.1.stp ((K.onK X.1.k).lv hf) (Fly.exc (X.2.old K.zd))
  ·cases ok
 ·have o:bh C it (cD l (bZ it)) = .ok (ds,md):=by rw[ec C it _ l (b0 l _)]; exact hq
  exact vq Si Sb Xb (λuu=>False) ok K o he1 (by simp) (λh' kp=>(K.onK kp).consume (bZ it) md) (λy q hq=>db hq) (λF h1 h2=>K.excl h1 h2) (λa h=>h.elim) (λuu uu uu uu uu h=>h) (.inr yd)
   (λm e=>by cases e) (λm r e=>by cases e) λc' e=>by cases e; exact hE
section
variable (hf:fns.hand=false) (hC:cI fns k C XPc)
include hf hC
mutual
theorem fW:∀ st:S,cX fns k C st/\cS fns k C st
 | .assign x e=>⟨kv (aw hf hC bE e).e ⟨λelt y g _=>⟨eG hf hC bE g,(aw hf hC bE elt).e⟩,λelt y g c _=>⟨eG hf hC bE g,(aw hf hC bE elt).e,(aw hf hC bE c).t⟩⟩,qP hf (aw hf hC bE e).e⟩
 | .setitem x e=>⟨pg (aw hf hC bE e).e,oV⟩
 | .append x e=>⟨qA (aw hf hC bE e).e,qF⟩
 | .appM x y=>⟨tR,vd⟩
 | .appendAt x is e=>⟨ol (λi=>(aw hf hC bE i).e) (aw hf hC bE e).e,oj⟩
 | .insert x i e=>⟨qB bE (aw hf hC bE i).e (aw hf hC bE e).e,qI⟩
 | .pop x i=>⟨xA (aw hf hC bE i).e,wy⟩
 | .expr e=>⟨uL (aw hf hC bE e).e,uZ hf (aw hf hC bE e).e⟩
 | .ret e=>⟨o6 (aw hf hC bE e).e,wT hf (aw hf hC bE e).e⟩
 | .retn x=>⟨vr,vK⟩
 | .ite c a b=>⟨xI (aw hf hC bE c).t (bf a).1 (bf b).1,ww hf (aw hf hC bE c).t (bf a).2 (bf b).2⟩
 | .for1 x g b=>⟨w5 (eG hf hC bE g) (bf b).1 (bf b).2,wv hf (eG hf hC bE g) (bf b).1 (bf b).2⟩
 | .raise _=>⟨su,sL hf hC⟩
 | .tryS b hs=>⟨xZ hf hC (fW b).1 (λe _=>(aw hf hC bE e).e) (λx e _=>(aw hf hC bE e).e),wi⟩
 | .bad=>⟨λh=>Bool.noConfusion (show false=true from h),xJ⟩
termination_by structural s=>s
theorem bf:∀ st:Ss,eN fns k C st/\eU fns k C st
 | .nil=>⟨vg,vL⟩
 | .cons s r=>⟨rU (fW s).1 (bf r).1,rP (fW s).1 (fW s).2 (bf r).2⟩
termination_by structural s=>s
end
theorem nq (st:Ss):eN fns k C st:=(bf hf hC st).1
theorem mR (st:Ss):eU fns k C st:=(bf hf hC st).2
end
end
structure InF (s₀:Shared) (L:Addr) (m:Str->Option Value) (cs:List (Str×Addr)) (cm:Str->Option Value) (s:Shared):Prop where
 x:InCallC s₀ L m cs cm s
 c:∃ o,s.heap.get? L=some o/\o.cls = .type "frame"
section
variable {M:Model}{A:Around}{E:Value->Shared->Prop}{s₀:Shared}{env:Env}
theorem ji (f:Str×Value->PUnit->Sem (ForInStep PUnit)) (hf:∀ n v u,f (n,v) u=(do storeName env n v; pure (.yield ⟨⟩))) (hk:env.scope.kind = .function) :
  ∀ (binds:List (Str×Value)) (m cm:Str->Option Value) (s:Shared) (Q:PUnit->Shared->Prop),InF s₀ env.locals m env.cells cm s ->
   (∀ x∈binds,env.kindOf x.1=some .local\/(env.kindOf x.1=some .cell/\(env.cells.lookup x.1).isSome=true)) ->
   (∀ s',InF s₀ env.locals (bindL env.kindOf binds m) env.cells (bindC env.kindOf binds cm) s'->Q ⟨⟩ s')->wpAny M A (forIn binds ⟨⟩ f) Q E s
 | [],m,cm,s,Q,x,_,h=>by rw[List.forIn_nil]; exact wpAny_pure (h s x)
 | (n,v)::r,m,cm,s,Q,⟨x,c⟩,hkind,h=>by
  rw[forIn_cons,hf]
  have hr:∀ y∈r,env.kindOf y.1=some .local\/(env.kindOf y.1=some .cell/\(env.cells.lookup y.1).isSome=true):=λy hy=>hkind y (List.mem_cons_of_mem _ hy)
  refine ba (x.toInCall.same) λha tk l=>?_
  rcases hkind (n,v) mem_cons_self with hl | ⟨hl,j⟩
  ·refine wpAny_bind (wpAny_bind ?_)
   rw[storeName_local hl (by rw[hk]; rfl)]
   refine nW x.toInCall.ns c λh' hn' g hc'=>wpAny_pure (ji f hf hk r (λx=>if x=n then some v else m x) cm _ Q ⟨⟨⟨(bN h' (s.toks+1) (by rw[l])),hn',λb o e=>?_,x.toInCall.fresh⟩,λk c j=>?_,x.apart,x.above⟩,hc'⟩ hr λt p=>h t ?_)
   ·exact g.extBut b o (ne_of_lt (lt_of_lt_of_le (lt_size e) x.toInCall.fresh)) (x.toInCall.keep b o e)
   ·exact (x.cell k c j).sameBut g (ne_of_gt (x.above k c (mem_of_lookup j)))
   ·unfold bindL bindC; rw[if_pos hl,if_pos hl]; exact p
  ·refine bK j λcc j=>?_
   have z:¬ env.kindOf n=some .local:=by rw[hl]; decide
   have hLc:=x.above n cc (mem_of_lookup j)
   refine wpAny_bind (wpAny_bind (wpAny_storeName_cell hk hl j (x.cell n cc j) λh' hc' g=>wpAny_pure (ji f hf hk r m (λy=>if y=n then some v else cm y) _ Q ⟨⟨⟨(bN h' s.toks (by rw[l])),x.toInCall.ns.sameBut g (ne_of_lt hLc),λb o e=>?_,x.toInCall.fresh⟩,λk c' i=>?_,x.apart,x.above⟩,af (c) λo e q=>(ah o (g.extBut _ o (ne_of_lt hLc) e) q)⟩ hr λt p=>h t ?_)))
   ·exact g.extBut b o (ne_of_lt (lt_trans (lt_of_lt_of_le (lt_size e) x.toInCall.fresh) hLc)) (x.toInCall.keep b o e)
   ·by_cases hkn:k=n
    ·(clear h hkind hl z; subst hkn)
     rw[j] at i; injection i
     show h'.IsCell _ (if _=_ then some v else cm _)
     rw[if_pos rfl]; exact hc'
    ·show h'.IsCell _ (if _=_ then some v else cm _)
     rw[if_neg hkn]
     exact (x.cell k c' i).sameBut g λe=>hkn (name_of_addr x.apart (mem_of_lookup i) (e▸mem_of_lookup j))
   ·unfold bindL bindC; rw[if_neg z,if_neg z]; exact p
end
section
theorem ro {R:Result->Shared->Prop}{a:Addr}{o:Obj}{fd:FuncData}{body:List Stmt}{vals:List Value}{binds:List (Str×Value)}
  (hroom:A.depth<recursionLimit) (ho:s.heap.get? a=some o) (hdata:o.data = .func fd) (hlim:s.heap.NoLimit) (hcd:s.heap.CodeRec fd.code fd.qualname)
  (hbody:fd.body = .stmts body) (hbind:bindArgs fd ⟨vals,[]⟩=pure binds) (hclo:fd.closure=[])
  (hkind:∀ x∈binds,fd.scope.names.lookup x.1=some .local\/(fd.scope.names.lookup x.1=some .cell/\((cellsFrom (s.heap.objs.size+1) fd.scope.names []).lookup x.1).isSome=true))
  (h:∀ s₁,InF s (callEnvC fd s.heap.objs.size a).locals (bindL (callEnvC fd s.heap.objs.size a).kindOf binds λuu=>none) (callEnvC fd s.heap.objs.size a).cells
    (bindC (callEnvC fd s.heap.objs.size a).kindOf binds λuu=>none) s₁ ->
   wpAny (model prog w) (A.deeper (callEnvC fd s.heap.objs.size a)) (execs body (callEnvC fd s.heap.objs.size a)) (λf s'=>R (.ok (.ret (match f with | .ret v=>v | _=>.none))) s')
    (λe s'=>wpAny (model prog w) (A.deeper (callEnvC fd s.heap.objs.size a)) (leaving (callEnvC fd s.heap.objs.size a) e) (λuu s''=>R (.error e) s'') (λe' s''=>R (.error e') s'') s') s₁)
  (hco:fd.scope.isCoroutine=false) (hgen:fd.scope.isGenerator=false) (hk:fd.scope.kind = .function) :
  codeAny (model prog w) A (.call (.ref a) ⟨vals,[]⟩) R s:=by
 refine codeAny_call_function hroom ho hdata hco hgen hbody hcd ?_
 rw[hbind,hclo]
 refine wpAny_pure ?_
 simp only[newFunctionEnv,Option.isSome_none,false_eq_true,if_false]
 refine wpAny_bind (wpAny_alloc ?_)
 refine wpAny_bind (wpAny_layCells _ (λi kind cells=>by cases hkc:kind==NameKind.cell<;>simp[hkc]) _ _ _ _ ?_)
 have ok:=cellsFrom_ok fd.scope.names (s.heap.push {cls:=.type "frame", data:=.dict #[] }) (s.heap.objs.size+1) [] ⟨λuu uu g=>(nomatch g),List.Pairwise.nil⟩ (by rw[size_push]; exact le_refl _)
 rw[size_push] at ok
 rw[show ({s with heap:=s.heap.push {cls:=.type "frame", data:=.dict #[] } }:Shared).heap.objs.size=s.heap.objs.size+1 from size_push ..]
 refine wpAny_bind (ji (s₀:=s) (env:=callEnvC fd s.heap.objs.size a) _ (λuu uu uu=>rfl) hk binds (λuu=>none) (λuu=>none) _ _
  ⟨⟨⟨(bN _ _ rfl),(Heap.Ns.new s.heap (.type "frame")).keeps (pushCells_keeps _ _),λb o e=>pushCells_keeps _ _ b o (Heap.get?_push_of_some _ e),le_refl _⟩,
   λn c j=>(ok.empty n c (mem_of_lookup j)).1,ok.apart,λn c g=>(ok.empty n c g).2⟩,_,pushCells_keeps _ _ _ _ (Heap.get?_push_size _ rfl),rfl⟩
  hkind λs' x=>wpAny_pure ⟨hlim.keeps x.x.toInCall.keep,codeAny_func (h s' x)⟩)
end
theorem dA:∀ (names:List (Str×NameKind)) (k:Nat) (acc:List (Str×Addr)),(names.lookup n=some .cell\/(acc.lookup n).isSome=true)->((cellsFrom k names acc).lookup n).isSome=true
 | [],_,acc,h=>h.elim (λe=>by cases e) id
 | (m,kd)::r,k,acc,h=>by
  unfold cellsFrom
  by_cases hk:kd = .cell
  ·subst hk
   simp only[beq_self_eq_true,if_true]
   by_cases e:n=m
   ·(clear h; subst e)
    exact dA r _ _ (.inr (by simp))
   ·have g:(n==m)=false:=by simpa using e
    refine dA r _ _ (h.imp (λh=>?_) λh=>?_)
    ·rw[lookup_cons,g] at h; exact h
    ·rw[lookup_cons,g]; exact h
  ·have i:(kd==NameKind.cell)=false:=by simpa using hk
   simp only[i,false_eq_true,if_false]
   by_cases e:n=m
   ·subst e
    rcases h with h | h
    ·simp at h; exact absurd h hk
    ·exact dA r _ _ (.inr h)
   ·have g:(n==m)=false:=by simpa using e
    refine dA r _ _ (h.imp (λh=>?_) id)
    rw[lookup_cons,g] at h; exact h
theorem kq:∀ (bs:List (Str×Value)) (m:Str->Option Value),(∀ p∈bs,p.1≠y)->bindL kd bs m y=m y
 | [],_,_=>rfl
 | (n,v)::r,m,h=>by
  unfold bindL
  rw[kq r _ λp g=>h p (.tail _ g)]
  split
  ·exact if_neg λ(e:y=n)=>h (n,v) (.head _) e.symm
  ·rfl
theorem kE:∀ (bs:List (Str×Value)) (m:Str->Option Value),(∀ p∈bs,p.1≠y)->bindC kd bs m y=m y
 | [],_,_=>rfl
 | (n,v)::r,m,h=>by
  unfold bindC
  rw[kE r _ λp g=>h p (.tail _ g)]
  split
  ·rfl
  ·exact if_neg λ(e:y=n)=>h (n,v) (.head _) e.symm
theorem uh {ps:List String}(h:p∉ps):∀ q∈(ps.map Str.ofString).zip vs,q.1≠Str.ofString p:=by
 intro q i e
 have:=(List.of_mem_zip i).1
 refine aK this λy g j=>?_
 exact h (dh (j.trans e)▸g)
theorem nP:∀ (ps:List String) (vs:List Value) (m:Str->Option Value),ps.Nodup->(ps.zip vs).lookup x=some v->kd (Str.ofString x)=some .local->bindL kd ((ps.map Str.ofString).zip vs) m (Str.ofString x)=some v
 | [],_,_,_,h,_=>by simp at h
 | _::_,[],_,_,h,_=>by simp at h
 | p::ps,u::vs,m,hn,h,hk=>by
  rw[nodup_cons] at hn
  rw[zip_cons_cons,lookup_cons] at h
  rw[map_cons,zip_cons_cons]
  unfold bindL
  by_cases e:x=p
  ·subst e
   simp at h
   subst h
   rw[kq _ _ (uh hn.1),if_pos hk]
   simp
  ·have g:(x==p)=false:=by simpa using e
   rw[g] at h
   exact nP ps vs _ hn.2 h hk
theorem nO:∀ (ps:List String) (vs:List Value) (m:Str->Option Value),ps.Nodup->(ps.zip vs).lookup x=some v->kd (Str.ofString x)=some .cell->bindC kd ((ps.map Str.ofString).zip vs) m (Str.ofString x)=some v
 | [],_,_,_,h,_=>by simp at h
 | _::_,[],_,_,h,_=>by simp at h
 | p::ps,u::vs,m,hn,h,hk=>by
  rw[nodup_cons] at hn
  rw[zip_cons_cons,lookup_cons] at h
  rw[map_cons,zip_cons_cons]
  unfold bindC
  by_cases e:x=p
  ·subst e
   simp at h
   subst h
   rw[kE _ _ (uh hn.1),if_neg (by rw[hk]; simp)]
   simp
  ·have g:(x==p)=false:=by simpa using e
   rw[g] at h
   exact nO ps vs _ hn.2 h hk
section
theorem pX (rs:RVs h xs vals as):∀ {ps:List String}{σ:St},bF ps xs=some σ ->
  vals.length=ps.length/\∃ fp:String->List Addr,∀ x q,σ x=some q->x∈ps/\∃ V v,q=mk V/\(ps.zip vals).lookup x=some v/\RV h v V (fp x)/\∀ a∈fp x,a∈as:=by
 induction rs with
 | nil=>
  intro ps σ j
  cases ps with
  | nil=>exact (aB rfl (bV (λuu=>[]) (λx q h=>nN ((congrFun (Option.some.inj j) x).trans h))))
  | cons p ps=>exact nN j
 | @cons V xs v vs a1 bs r rs IH=>
  intro ps σ j
  cases ps with
  | nil=>exact nN j
  | cons p ps=>
  replace j:=map_eq_some_iff.mp (show (bF ps xs).map _=_ from j)
  refine af (j) λu m l=>?_
  clear j
  subst l
  obtain ⟨hl,g,z⟩:=IH m
  refine (aB (by rw[length_cons,length_cons,hl]) (bV (λx=>if x=p then a1 else g x) (λx q k=>?_)))
  unfold upd at k
  by_cases e:x=p
  ·subst e
   rw[if_pos rfl] at k; injection k
   have t:(if x=x then a1 else g x)=a1:=if_pos rfl
   refine (aB (.head _) (be V v rfl (by simp) ?_ (λa n=>?_)))
   ·show RV h v V (if x=x then a1 else g x)
    rw[t]; exact r
   ·have i:a∈(if x=x then a1 else g x):=n
    rw[t] at i
    exact mem_append_left _ i
  ·rw[if_neg e] at k
   obtain ⟨h1,V',o,h2,h3,h4,h5⟩:=z x q k
   have e':(x==p)=false:=by simpa using e
   exact (aB (.tail _ h1) (be V' o h2 (by rw[zip_cons_cons,lookup_cons,e']; exact h3) (by show RV h o V' (if x=p then a1 else g x); rw[if_neg e]; exact h4) (λa n=>mem_append_right _ (h5 a (by have i:a∈(if x=p then a1 else g x):=n; rwa [if_neg e] at i)))))
theorem mS {ft:FnT}{fd:FuncData}{fa:Addr}{A:Around}{P:Addr->Prop}{s:Shared}{ha:Heap}{tka:Nat}{σ:St}{pn:List String}{pv:List Value}{fp:String->List Addr}
  (hf:fns.hand=false) (hnd:pn.Nodup) (hpb:∀ x∈pn,bD ft.scope.names x=true) (hfree:∀ p∈ft.scope.names,(p.2 != .free)=true) (hh:fns.hand=false->A.handled=none) (r1:A.depth+2*k+5<recursionLimit) (r2:A.units+100*k+303<cLine) (hfr:∃ l,A.frames=some l/\FrOk s.heap l) (ge:GE fns s.heap)
  (hsc:fd.scope=ft.scope) (hgl:fd.globals=mainGlobals) (hbl:fd.builtins=builtinsNs) (hkind:fd.scope.kind = .function) (hcode:ft.lam=true->CodeOk s.heap fd.code fd.qualname)
  (X:InF s (callEnvC fd s.heap.objs.size fa).locals (bindL (callEnvC fd s.heap.objs.size fa).kindOf ((pn.map Str.ofString).zip pv) λuu=>none) (callEnvC fd s.heap.objs.size fa).cells (bindC (callEnvC fd s.heap.objs.size fa).kindOf ((pn.map Str.ofString).zip pv) λuu=>none) {s with heap:=ha,toks:=tka })
  (hfp:∀ x q,σ x=some q->x∈pn/\∃ V v,q=mk V/\(pn.zip pv).lookup x=some v/\RV s.heap v V (fp x)/\∀ a∈fp x,P a) :
  SOK {fns with lam:=ft.lam } k s.heap P (λb=>∃ o,s.heap.get? b=some o) (A.deeper (callEnvC fd s.heap.objs.size fa)) (callEnvC fd s.heap.objs.size fa) ha σ (λx=>(pn.zip pv).lookup x) fp:=by
 have r:=X.x.toInCall
 have m:(callEnvC fd s.heap.objs.size fa).scope.names=ft.scope.names:=by show fd.scope.names=_; rw[hsc]
 have i:(callEnvC fd s.heap.objs.size fa).locals=s.heap.objs.size:=rfl
 have y:∀ n,(callEnvC fd s.heap.objs.size fa).kindOf n=ft.scope.names.lookup n:=λn=>by show fd.scope.names.lookup n=_; rw[hsc]
 have j:∀ n,(callEnvC fd s.heap.objs.size fa).kindOf n≠some .free:=λn e=>by
  rw[y] at e
  have:=hfree _ (mem_of_lookup e)
  simp at this
 have hold:¬ SF.old s.heap.objs.size:=λq=>by
  refine ak (ge.old _ q) λo e=>?_
  rw[bi] at e; exact nN e
 refine ⟨⟨hh,?_,?_⟩,⟨hkind,hgl,hbl,λn hn=>?_⟩,ge.flag ft.lam fns.hand,λb o e=>⟨o,e⟩,.of r.keep,λq=>⟨_,hcode q⟩,λuu=>?_,λb ⟨o,e⟩=>⟨o,r.keep b o e⟩,⟨X.c,(ah _ r.ns (λx v g hk=>?_)),λ⟨o,e⟩=>?_,λn c hk hc=>?_,λx v c g hk hc=>?_,λn n' c h1 h2=>?_,λx v g=>?_⟩,λx p t=>?_,λx p t ht=>?_,λx p t hdp=>?_⟩
 ·show A.depth+1+2*k+(if fns.hand then 1 else 4)<_
  rw[hf]; simp only[false_eq_true,if_false]; exact IL r1
 ·show A.units+3+100*k+(if fns.hand then 200 else 300)<_
  rw[hf]; simp only[false_eq_true,if_false]; exact ER r2
 ·rcases hn with hn | hn
  ·rw[y] at hn
   exact Option.isSome_iff_exists.mp (by show ((cellsFrom _ fd.scope.names []).lookup n).isSome=true; rw[hsc]; exact dA _ _ _ (.inl hn))
  ·exact absurd hn (j n)
 ·refine af (hfr) λl e1 e2=>?_
  clear hfr
  exact (bw l (Around.frames_deeper e1) e2 rfl hold)
 ·exact nP pn pv _ hnd g hk
 ·rw[i] at e
  rw[bi] at e; exact nN e
 ·have hm:=mem_of_lookup hc
  have u:=X.x.above n c hm
  refine (cg (ne_of_gt u) (λ⟨o,e⟩=>?_) (bV _ (X.x.cell n c hc)))
  have:=lt_size e
  rw[i] at u
  exact lt_irrefl _ (lt_trans this u)
 ·have:=X.x.cell _ c hc
  rw[nO pn pv _ hnd g hk] at this
  exact this
 ·exact name_of_addr X.x.apart (mem_of_lookup h1) (mem_of_lookup h2)
 ·have hm:x∈pn:=by
   have:(x,v)∈pn.zip pv:=by
    generalize pn.zip pv=l at g
    induction l with
    | nil=>exact nN g
    | cons q l ih=>
     rw[lookup_cons] at g
     split at g
     ·rename_i e
      (have oc:=Option.some.inj g; clear g; (clear ih; subst oc))
      rw[beq_iff_eq.mp e]
      exact .head _
     ·exact .tail _ (ih g)
   exact (List.of_mem_zip this).1
  have z:=hpb x hm
  unfold bD at z
  simp only[and_eq_true,or_eq_true,beq_iff_eq] at z
  rw[y]
  exact z.2
 ·obtain ⟨h1,V,v,Lx,h3,h4,h5⟩:=hfp x p t
  (clear t; subst Lx)
  have z:=hpb x h1
  unfold bD at z
  simp only[and_eq_true] at z
  refine (aB (by rw[m]; exact z.1.1) (aF v h3 (h4.keep r.keep) (λa h=>⟨λq=>?_,.inl (h5 a h)⟩)))
  refine ak (h4.there a h) λo e=>?_
  rw[q,i,bi] at e; exact nN e
 ·obtain ⟨h1,V,v,LB,_⟩:=hfp x p t
  (clear t; subst LB)
  exact absurd ht hY
 ·obtain ⟨h1,V,v,Lz,h3,h4,h5⟩:=hfp x p t
  (clear t; subst Lz)
  rw[h4.scal_nil (fA hdp)]
  exact ⟨λuu h=>(nomatch h),.nil⟩
theorem lf {ft:FnT}{fd:FuncData}{pn:List String}{vals:List Value}{n:Nat}(hsc:fd.scope=ft.scope) (hbk:∀ x∈pn,bD ft.scope.names x=true):∀ x∈(pn.map Str.ofString).zip vals,fd.scope.names.lookup x.1=some .local\/(fd.scope.names.lookup x.1=some .cell/\((cellsFrom n fd.scope.names []).lookup x.1).isSome=true):=by
 intro x j
 refine aK (List.of_mem_zip j).1 λy i e=>?_
 have g:=hbk y i
 unfold bD at g
 simp only[and_eq_true,or_eq_true,beq_iff_eq] at g
 rw[hsc,<- e]
 rcases g.2 with h | h
 ·exact .inl h
 ·exact .inr ⟨h,dA _ _ _ (.inl h)⟩
section
theorem we (h:bF f.params vs=some σ) (e:exs C f.body σ = .bad):ax C f vs = .bad:=by unfold ax; rw[h]; dsimp only; rw[e]; rfl
theorem wB (h:bF f.params vs=some σ) (e:exs C f.body σ = .exc c):ax C f vs = .exc c:=by unfold ax; rw[h]; dsimp only; rw[e]; rfl
theorem uX (h:bF f.params vs=some σ) (e:exs C f.body σ = .ok (σ',.next)):ax C f vs = .ok (.d .none,.deep):=by unfold ax; rw[h]; dsimp only; rw[e]; rfl
theorem xa (h:bF f.params vs=some σ) (e:exs C f.body σ = .ok (σ',.ret r)):ax C f vs = .ok r:=by unfold ax; rw[h]; dsimp only; rw[e]; rfl
theorem wN (h:bF f.params vs=some σ) (e:exs C f.body σ = .bad):cT C f vs = .bad:=by unfold cT; rw[h]; dsimp only; rw[e]; rfl
theorem wk (h:bF f.params vs=some σ) (e:exs C f.body σ = .exc c):cT C f vs = .exc c:=by unfold cT; rw[h]; dsimp only; rw[e]; rfl
theorem mY (h:bF f.params vs=some σ) (e:exs C f.body σ = .ok (σ',.next)):cT C f vs=e7 σ':=by unfold cT; rw[h]; dsimp only; rw[e]; rfl
theorem v9 (h:bF f.params vs=some σ) (e:exs C f.body σ = .ok (σ',.ret r)):cT C f vs = .bad:=by unfold cT; rw[h]; dsimp only; rw[e]; rfl
end
theorem pZ {A:Around}{env:Env}{s s₁:Shared}{c:String}{x:Value}{R:Shared->Prop}{E:Value->Shared->Prop}(kp:Kp s s₁) (lv:Lv A env s₁.heap) (ex:Exc (dom s.heap) s₁.heap c env.locals x) (hR:∀ s',XPc c s x s'->R s') :
  wpAny (model prog w) A (leaving env x) (λuu s'=>R s') E s₁:=by
 refine aq (lv) λl q p n=>?_
 clear lv
 refine av (kp) λj h i g=>?_
 clear kp
 subst i
 refine C2 (N:=dom s.heap) (λb k=>?_) q p n ex λt u r=>hR _ ⟨(aC t h rfl (Internal.K.step g r λb o e=>⟨o,e⟩)),u⟩
 refine ak (k) λo e=>?_
 clear k
 refine af (g b o (.inl trivial) e) λm v _=>?_
 exact ⟨m,v⟩
set_option maxHeartbeats 1000000 in
theorem mu (hf:fns.hand=false) (hC:cI {fns with lam:=ft.lam } k C XPc) (hok:okF ft fn=true)
  (hroom:Room fns.hand (k+1) A) (hfr:∃ l,A.frames=some l/\FrOk s.heap l) (ge:GE fns s.heap) (hfa:FnAt s.heap ft fa) (rs:RVs s.heap xs vals as) (ha:∀ a∈as,P a) (nb:ax C fn xs≠.bad) (hQ:∀ r,ax C fn xs = .ok r->∀ v s',EP P s r v s'->Q v s') (hE:∀ c,ax C fn xs = .exc c->∀ x s',XPc c s x s'->Er x s') :
  wpAny (model prog w) A (call (.ref fa) vals []) Q Er s:=by
 unfold okF at hok
 simp only[and_eq_true,decide_eq_true_eq,all_eq_true] at hok
 refine ae (hok) λLF p=>?_
 clear hok
 refine ae (LF) λz u=>?_
 clear LF
 refine ae (z) λy hnd=>?_
 clear z
 refine ae (y) λhps hbk=>?_
 clear y
 cases hσ:bF fn.params xs with
 | none=>exact absurd (by unfold ax; rw[hσ]) nb
 | some σ=>
 obtain ⟨hlen,fp,hfp⟩:=pX rs hσ
 refine uj (hfa) λo fd ho hd hbd n hgl hcl hbl hcr t i hco hgen g=>?_
 clear hfa
 rw[hps] at i
 refine wpAny_call (ro (by have:=hroom.at hf; exact H9 this) ho hd ge.nolim hcr hbd (i vals hlen) hcl (lf n hbk) (λs₁ X=>?_) hco hgen g)
 refine ba (X.x.toInCall.same) λh₁ m Ly=>?_
 subst Ly
 have K:=mS (k:=k) (ft:=ft) (fa:=fa) (σ:=σ) (pn:=fn.params) (pv:=vals) (fp:=fp) (P:=P) hf hnd hbk p hroom.1 (lt_of_le_of_lt (le_succ _) (hroom.at hf).1) (lt_of_le_of_lt DD (hroom.at hf).2) hfr ge n hgl hbl g t X λx q hq=>by
  obtain ⟨h1,V,v,h2,h3,h4,h5⟩:=hfp x q hq
  exact (aB h1 (be V v h2 h3 h4 (λa h=>ha a (h5 a h))))
 have kp:∀ s',Stp (λb=>∃ o,s.heap.get? b=some o) {s with heap:=h₁,toks:=m } s'->Kp s s':=λs' j=>by
  refine av (j) λh' tk' LG kk=>?_
  clear j
  subst LG
  exact (aC h' tk' rfl (Internal.K.step (Internal.K.of X.x.toInCall.keep) kk λb o e=>⟨o,e⟩))
 have okb:cV (callEnvC fd s.heap.objs.size fa).scope.names fn.body ft.body=true:=by show cV fd.scope.names fn.body ft.body=true; rw[n]; exact u
 cases hex:exs C fn.body σ with
 | bad=>exact absurd (we hσ hex) nb
 | exc c=>exact mR (fns:={fns with lam:=ft.lam }) hf hC fn.body okb K hex λx s' j lv ex=>pZ (kp s' j) lv ex λs'' X=>hE c (wB hσ hex) x s'' X
 | ok o=>
  obtain ⟨σ',fl⟩:=o
  refine nq (fns:={fns with lam:=ft.lam }) hf hC fn.body okb K hex (λe s' vals' fp' j K' _=>?_) λq e v s' j R=>?_
  ·subst e
   exact hQ _ (uX hσ hex) _ _ (.scalar (kp s' j) .none rfl (by simp))
  ·subst e
   refine bQ (R) λas' h1 h2 h3 h4=>?_
   clear R
   exact hQ _ (xa hσ hex) _ _ ⟨kp s' j,as',h1,h2,h3,h4⟩
end
theorem m8:∀ (l1 l2:List Stmt),execs (l1++l2) env=(execs l1 env>>=λf=>match f with | .next=>execs l2 env | f=>pure f)
 | [],l2=>rfl
 | st::l1,l2=>by
  rw[List.cons_append,execs_cons,execs_cons,bind_assoc]
  congr 1
  funext f
  cases f with
  | next=>exact m8 l1 l2
  | _=>rfl
section
noncomputable def But2 (x D:Addr) (h h':Heap):Prop:=∀ b o,b≠x->b≠D->h.get? b=some o->h'.get? b=some o
theorem But2.kk (a:But2 x D h h') (k:K h0 h) (hx:h0.get? x=none) (hD:h0.get? D=none) (nx:∀ o,h.get? x=some o->¬ Stay o) (nD:∀ o,h.get? D=some o->¬ Stay o):K h0 h' :=
 K.step k (G:=λb=>b≠x/\b≠D) (.of λb o g e=>a b o (λq=>g.elim (λh=>h.1 q) (nx o (q▸e))) (λq=>g.elim (λh=>h.2 q) (nD o (q▸e))) e) λb o e=>⟨λq=>(by rw[q,hx] at e; cases e),λq=>(by rw[q,hD] at e; cases e)⟩
theorem Loc.but2 {x D:Addr}{h h':Heap}{env:Env}{Z:Addr->Prop}{vals:String->Option Value}(L:Loc env Z h vals) (a:But2 x D h h') (hx:Z x) (hD:Z D):Loc env Z h' vals where
 cls:=af (L.cls) λo e c=>(ah o (a _ o (λq=>L.nz (q▸hx)) (λq=>L.nz (q▸hD)) e) c)
 ns:=let ⟨m,⟨o,es,ep,e,r⟩,q⟩:=L.ns; (ah m (cz o es ep (a _ o (λq=>L.nz (q▸hx)) (λq=>L.nz (q▸hD)) e) r) q)
 nz:=L.nz
 cell:=λn c k j=>by
  refine aG (L.cell n c k j) λp i g=>?_
  refine av (g) λv o e r=>?_
  clear g
  exact (cg p i (aC v o (a c o (λq=>i (q▸hx)) (λq=>i (q▸hD)) e) r))
 cval:=λy v c k j l=>by
  refine aG (L.cell _ c j l) λuu i _=>?_
  refine af (L.cval y v c k j l) λo e r=>?_
  exact (ah o (a c o (λq=>i (q▸hx)) (λq=>i (q▸hD)) e) r)
 apart:=L.apart
 kinds:=L.kinds
theorem iV {A:Around}{h:Heap}{g:Array GenState}{dr:Drawn}{tk:Nat}{os:OsState}{E:Value->Shared->Prop}{x D:Addr}{mA:Str->Option Value}{n:String}{v:Value}{Q:Unit->Shared->Prop}{ns:List Str}(ge:RuleAt fns h) (hn:n∈fieldNames) (hw:Within mA ns) (hs:ns.length<=8) (hxC:x≠SF.rule)
  (I:h.Inst x SF.rule mA) (hd:∀ o,h.get? x=some o->o.dict=some D)
  (hQ:∀ h' tk',h'.Inst x SF.rule (λy=>if y=Str.ofString n then some v else mA y)->But2 x D h h'->(∀ o,h'.get? x=some o->o.dict=some D)->Q () ⟨h',g,dr,tk',os⟩) :
  wpAny (model prog w) A (setAttr (.ref x) (Str.ofString n) v) Q E ⟨h,g,dr,tk,os⟩:=by
 refine aA (ge) λN mN t i _=>?_
 clear ge
 obtain ⟨m,hN⟩:=t
 refine ew (m) λnm q bs' sn sub col dd k0 k1 k2 k3 k5 hC=>?_
 clear m
 have hB:typeLookup (.type "object") (Str.ofString n)=pure none:=by
  simp only[fieldNames,mem_cons,not_mem_nil,or_false] at hn
  rcases hn with rfl | rfl | rfl
  ·exact lj
  ·exact nA
  ·exact nL
 have hq:mN (Str.ofString n)=none:=i n (by
  simp only[fieldNames,mem_cons,not_mem_nil,or_false] at hn
  rcases hn with rfl | rfl | rfl<;>simp)
 refine store_attr PySem.F.store_object hC hN (i "__setattr__" (by simp)) hq hB hxC I (λh' tk' I' hk l=>?_) hw (by rw[sizeLine_eq]; exact FX hs)
 refine af (I) λo e _=>?_
 clear I
 have r:=hd o e
 refine hQ h' tk' I' (λb ob h1 h2 eb=>hk b ob h1 (λoo dx k z=>by rw[e] at k; injection k; rw[r] at z; injection z; exact h2) eb) λo' e'=>?_
 refine jW (l o e) λoa j _ _ _ u=>?_
 rw[e'] at j; injection j
 exact u D r
theorem Inst.ns1 {h:Heap}{x Cl D:Addr}{mA:Str->Option Value}(I:h.Inst x Cl mA) (hd:∀ o,h.get? x=some o->o.dict=some D):∃ o,h.get? x=some o/\o.cls = .ref Cl/\(∀ c,o.data≠.cls c)/\o.dict=some D/\D≠x/\h.Ns1 D mA:=by
 refine bQ (I) λo e k j i=>?_
 clear I
 have:=hd o e
 rcases i with ⟨q,_⟩ | ⟨d,q1,q2,q3⟩
 ·rw[this] at q; exact nM q
 ·rw[this] at q1; injection q1
  exact (jI o e k j this q2 q3)
theorem Inst.kk {h h':Heap}{x Cl D:Addr}{mA:Str->Option Value}(I:h.Inst x Cl mA) (hd:∀ o,h.get? x=some o->o.dict=some D) (k:K h h'):h'.Inst x Cl mA/\∀ o,h'.get? x=some o->o.dict=some D:=by
 refine iu (Inst.ns1 I hd) λo e n v m u g=>?_
 refine aV (g) λoD y z eD i r=>?_
 clear g
 have p:=K.get k e (by unfold hardB; rw[n])
 obtain ⟨j,l,q,_⟩:=K.data k eD λfs q=>by rw[i] at q; cases q
 exact ⟨(bw o p n v (.inr (aF D m u (cF j y z l (q.trans i) r)))),λo' q=>by rw[p] at q; injection q; exact m⟩
theorem uv (h:e7 σ = .exc c):False:=by
 unfold e7 at h
 refine bJ h λuu h=>?_
 refine bJ h λuu h=>?_
 refine bJ h λuu h=>?_
 refine bJ h λuu h=>?_
 refine bJ h λuu h=>?_
 refine bJ h λuu h=>?_
 refine bJ h λuu h=>?_
 refine bJ h λuu h=>?_
 split at h<;>cases h
set_option maxHeartbeats 2000000 in
theorem tm (h:e7 σ = .ok r):∃ ci mc rows ys,r=(.rule ci (.list rows) (ys:List PyData).length,.deep)/\σ "count" = some (.d (.int ci),mc)/\σ "full" = some (.d (.list rows),.deep)/\rows[0]? = some (.list ys):=by
 unfold e7 at h
 obtain ⟨⟨pc,mc⟩,j,h⟩:=aU h
 obtain ⟨dc,o,h⟩:=aU h
 obtain ⟨ci,n,h⟩:=aU h
 obtain ⟨⟨z,u⟩,i,h⟩:=aU h
 obtain ⟨df,m,h⟩:=aU h
 obtain ⟨rows,l,h⟩:=aU h
 obtain ⟨p,g,h⟩:=aU h
 obtain ⟨ys,k,h⟩:=aU h
 by_cases hd:u = .deep
 ·rw[if_pos hd] at h
  have t:=b9 o
  have y:=cM n
  have q:=b9 m
  have x:=bR l
  have v:=bR k
  dsimp only at t q
  rw[t,y] at j
  rw[q,x,hd] at i
  rw[v] at g
  exact (iy ci mc rows ys ((Out.ok.inj h).symm) j i g)
 ·rw[if_neg hd] at h; exact nB h
theorem wM (hf1:σ "full" = some (.d (.list rows),.deep)) (hf4:rows[0]? = some (.list ys)):ev C eI (cD σ ["full"]) = .ok (sI ys.length):=by
 have i:cD σ ["full"] "full" = some (.d (.list rows),.deep):=by unfold cD; rw[if_pos (by simp)]; exact hf1
 have h:elem (.list rows) 0=some (.list ys):=by
  show (bj 0 rows.length).bind (λk=>rows[k]?)=_
  have g:0<rows.length:=(List.getElem?_eq_some_iff.mp hf4).1
  unfold bj
  rw[if_pos (Int.le_refl 0),if_pos (la3 g)]
  exact hf4
 unfold eI
 rw[jV,j9,dH,eh,i]
 show ((fj (.list rows) (.int 0)).bind _)=_
 unfold fj
 rw[show dB (.int 0)=some 0 from rfl]
 simp only[au,h,Out.ok_bind]
 rfl
theorem ut (C:Calls) (hf:fns.hand=false) {A:Around}{env:Env}{P:Addr->Prop}{hh h' hs:Heap}{g:Array GenState}{dr:Drawn}{tk tk':Nat}{os:OsState}{x D:Addr}{σ:St}{vals:String->Option Value}{fp:String->List Addr}{Q:Flow->Shared->Prop}{Er:Value->Shared->Prop}
  {ci:Int}{mc:Mode}{rows ys:List PyData}{a3 b3 c3:Stmt}(Mk:Heap.MadeObj hh h' x D SF.rule) (hxC:x≠SF.rule) (kh:K h' hs) (ge:GE fns hh) (R0:RuleAt fns hh) (hlam:fns.lam=false)
  (K':SOK fns k h' P (λb=>∃ o,h'.get? b=some o) A env hs σ vals fp) (hfr:∃ l,A.frames=some (env::l)/\FrOk hh l) (hvs:vals "self" = some (.ref x))
  (hc1:σ "count" = some (.d (.int ci),mc)) (hf1:σ "full" = some (.d (.list rows),.deep)) (hf4:rows[0]? = some (.list ys))
  (o1:eF env.scope.names "count" (.name "count") a3=true) (o2:eF env.scope.names "full" (.name "full") b3=true) (o3:eF env.scope.names "size" eI c3=true)
  (hQ:∀ s',EP P ⟨hh,g,dr,tk,os⟩ (.rule ci (.list rows) ys.length,.deep) (.ref x) s'->Q .next s'):wpAny (model prog w) A (execs [a3,b3,c3] env) Q Er ⟨hs,g,dr,tk',os⟩:=by
 have kM:K hh h':=.of Mk.keeps
 have Zx:∃ o,h'.get? x=some o:=by obtain ⟨o,e,_⟩:=Mk.inst; exact ⟨o,e⟩
 refine iu (Inst.ns1 Mk.inst Mk.dict) λox ex hxc hxd hxdict hDx hNs=>?_
 have ZD:∃ o,h'.get? D=some o:=by obtain ⟨o,_,_,e,_⟩:=hNs; exact ⟨o,e⟩
 have kall:K hh hs:=KG.trans kM kh
 refine ae (K'.val "count" _ hc1) λuu z=>?_
 refine aq (z) λvc hvc LP _=>?_
 clear z
 refine ae (LP) λrvc _=>?_
 clear LP
 refine rvc.isInt_k λtc LQ _=>?_
 (clear rvc; subst LQ)
 refine ae (K'.val "full" _ hf1) λuu u=>?_
 refine aq (u) λvf hvf LS _=>?_
 clear u
 refine ae (LS) λrvf zvf=>?_
 clear LS
 refine ae (K'.deep "full" _ hf1 rfl) λdp1 dp2=>?_
 refine ae (Inst.kk Mk.inst Mk.dict kh) λI1 D1=>?_
 refine cq (kO o1) λq1 q2 v1 q3 LR ov1=>?_
 (clear o1; subst LR)
 refine cq (kO o2) λq4 q5 v2 q6 LV ov2=>?_
 (clear o2; subst LV)
 refine cq (kO o3) λq7 q8 v3 q9 LY ov3=>?_
 (clear o3; subst LY)
 refine aq (iD ov1) λq10 L6 _ nd1=>?_
 subst L6
 refine aq (iD ov2) λq11 L5 _ nd2=>?_
 subst L5
 have nds:aX "self" = true:=by decide
 have p:∀ {h:Heap}{mA:Str->Option Value},h.Inst x SF.rule mA->∀ o,h.get? x=some o->¬ Stay o:=λI o e=>by
  refine aq (I) λo' e' c' _=>?_
  clear I
  rw[e] at e'; injection e'
  exact Stay.not_cls (by rw[c']; simp) (by rw[c']; simp)
 have j:∀ {h:Heap}{mA:Str->Option Value},h.Inst x SF.rule mA->(∀ o,h.get? x=some o->o.dict=some D)->(∀ o,h.get? D=some o->¬ Stay o)/\∀ o,h.get? D=some o->∀ vs n,o.data≠.seq vs n:=λI d=>by
  obtain ⟨_,_,_,_,_,_,o',es,ep,e',hd',_⟩:=Inst.ns1 I d
  exact ⟨λo e=>by rw[e] at e'; injection e'; exact Stay.not_dict hd',λo e vs n q=>by rw[e] at e'; injection e'; rw[hd'] at q; cases q⟩
 have nxf:x∉fp "full" := λq=>(dp1 x q).1 Zx
 have nDf:D∉fp "full" := λq=>(dp1 D q).1 ZD
 have t:∀ {h h2:Heap}{mA:Str->Option Value},h.Inst x SF.rule mA->(∀ o,h.get? x=some o->o.dict=some D)->But2 x D h h2->R h vf (.list rows) (fp "full")->R h2 vf (.list rows) (fp "full"):=λI d b r=>by
  refine r.on2 λa o ha ⟨vs,n,hs⟩ e=>b a o (λq=>?_) (λq=>?_) e
  ·(clear D1 I1 Mk Zx b d j ex hDx hQ hvs hxC p; subst q)
   refine aq (I) λo' e' c' _=>?_
   clear I
   rw[e] at e'; injection e'
   rcases ha with ha | ha
   ·exact nxf ha
   ·rw[c'] at ha; cases ha
  ·(clear D1 Mk ZD b hDx hNs hxdict nDf; subst q)
   exact (j I d).2 o e vs n hs
 refine wpAny_execs_cons (plainObj_wpAny_Assign_Attribute (cC K'.eok.kind nd1 (K'.loc.var K'.eok hvc) (cC K'.eok.kind nds (K'.loc.var K'.eok hvs) (iV (fns:=fns) (R0.k kall) (by simp[fieldNames]) Within.nil (by simp) hxC I1 D1 λh2 tk2 I2 b2 D2=>?_))) rfl)
 have k2:K hh h2:=b2.kk kall Mk.newX Mk.newD (p I1) (j I1 D1).1
 have L2:=K'.loc.but2 b2 Zx ZD
 refine wpAny_execs_cons (plainObj_wpAny_Assign_Attribute (cC K'.eok.kind nd2 (L2.var K'.eok hvf) (cC K'.eok.kind nds (L2.var K'.eok hvs) (iV (fns:=fns) (R0.k k2) (by simp[fieldNames]) (Within.cons _ _ Within.nil) (by simp) hxC I2 D2 λh3 tk3 I3 b3 D3=>?_))) rfl)
 have k3:K hh h3:=b3.kk k2 Mk.newX Mk.newD (p I2) (j I2 D2).1
 have L3:=L2.but2 b3 Zx ZD
 have rf3:R h3 vf (.list rows) (fp "full"):=t I2 D2 b3 (t I1 D1 b2 rvf)
 have he:ev C eI (cD σ ["full"]) = .ok (sI ys.length):=wM hf1 hf4
 have cx3:Cx fns k A (λuu=>True) h3 env (cD σ ["full"]):=by
  refine ⟨K'.room,K'.eok,ge.k k3,(λq=>by rw[hlam] at q; cases q),λq=>?_,λy py hy _=>?_⟩
  ·refine bQ (K'.out q) λl e1 e2 e3 e4=>?_
   refine af (hfr) λl' f1 f2=>?_
   refine (ah _ f1 (λenv' he'=>?_))
   rcases mem_cons.mp he' with rfl | he'
   ·refine af (L3.ns) λm Mb _=>?_
    refine aV (Mb) λo es ep g1 g2 _=>?_
    refine af (L3.cls) λo' g3 g4=>?_
    rw[g1] at g3; injection g3
    exact (aB K'.eok.kind (j4 _ _ es ep e3 e4 g1 g4 g2))
   ·exact (f2.k k3) env' he'
  ·unfold cD at hy
   split at hy
   ·rename_i hm
    rw[mem_singleton.mp hm] at hy ⊢
    rw[hf1] at hy; injection hy
    exact (aM vf (fp "full") (L3.var K'.eok hvf) ⟨rf3,zvf⟩ (λuu uu=>trivial))
   ·exact nN hy
 have S3:SimE fns k C XPc eI:=rz hf (rh bE (kS "full") (me 0))
 refine wpAny_execs_cons (plainObj_wpAny_Assign_Attribute (S3 ov3 cx3 (by rw[he]; simp) (λr hr v s4 E4=>?_) (λc hc=>by rw[he] at hc; cases hc)) (by
  refine Or.elim (zn ov3) (λLL=>?_) (λq=>?_)
  ·refine cq (LL) λMp Mw M6 M8 Mr Na=>?_
   clear LL
   subst Mr
   rfl
  ·cases q))
 rw[he] at hr; injection hr
 obtain ⟨L7,as4,L0,_⟩:=E4
 refine av (L7) λh4 tk4 Mn k34=>?_
 clear L7
 subst Mn
 refine ae (L0) λrv4 _=>?_
 clear L0
 refine rv4.isInt_k λt4 L8 _=>?_
 (clear rv4; subst L8)
 refine ae (Inst.kk I3 D3 k34) λI4 D4=>?_
 have k4:K hh h4:=KG.trans k3 k34
 have L4:=L3.onK k34
 refine cC K'.eok.kind nds (L4.var K'.eok hvs) (iV (fns:=fns) (R0.k k4) (by simp[fieldNames]) (Within.cons _ _ (Within.cons _ _ Within.nil)) (by simp) hxC I4 D4 λh5 tk5 I5 b5 D5=>?_)
 have k5':K hh h5:=b5.kk k4 Mk.newX Mk.newD (p I4) (j I4 D4).1
 have rf5:R h5 vf (.list rows) (fp "full"):=t I4 D4 b5 (rf3.k k34)
 refine iu (Inst.ns1 I5 D5) λo5 e5 c5 d5 di5 ne5 ns5=>?_
 have nh:∀ a,¬ (∃ o,h'.get? a=some o)->hh.get? a=none:=λa q=>by
  cases e:hh.get? a with
  | none=>rfl
  | some o=>exact absurd ⟨o,Mk.keeps a o e⟩ q
 refine wpAny_execs_nil (hQ _ ⟨(aC h5 tk5 rfl k5'),x::D::fp "full", (jy x D o5 vf (fp "full") tc t4 _ rfl rfl e5 c5 d5 di5 ne5 ns5 ?_ ?_ ?_ ?_ rf5 zvf),λa i=>.inr ?_,(λq=>by cases q),λuu=>⟨λa i=>?_,?_⟩⟩)
 ·rfl
 ·rfl
 ·rfl
 ·intro m hm
  simp only[methNames,mem_cons,not_mem_nil,or_false] at hm
  rcases hm with rfl | rfl | rfl | rfl | rfl<;>rfl
 ·rcases mem_cons.mp i with rfl | i
  ·exact Mk.newX
  ·rcases mem_cons.mp i with rfl | i
   ·exact Mk.newD
   ·exact nh a (dp1 a i).1
 ·rcases mem_cons.mp i with rfl | i
  ·exact Mk.newX
  ·rcases mem_cons.mp i with rfl | i
   ·exact Mk.newD
   ·exact nh a (dp1 a i).1
 ·refine nodup_cons.mpr ⟨λq=>?_,nodup_cons.mpr ⟨nDf,dp2⟩⟩
  rcases mem_cons.mp q with q | q
  ·exact ne5 q.symm
  ·exact nxf q
theorem uH (hf:fns.hand=false) (hp:fns.init=some p) (hC:cI {fns with lam:=p.2.lam } k C XPc) (hok:okI p.2 fn=true)
  (hroom:Room fns.hand (k+1) A) (hfr:∃ l,A.frames=some l/\FrOk s.heap l) (ge:GE fns s.heap) (rs:RVs s.heap xs vals as) (ha:∀ a∈as,P a) (nb:cT C fn xs≠.bad) (hQ:∀ r,cT C fn xs = .ok r->∀ v s',EP P s r v s'->Q v s') (hE:∀ c,cT C fn xs = .exc c->∀ x s',XPc c s x s'->Er x s') :
  wpAny (model prog w) A (call (.ref SF.rule) vals []) Q Er s:=by
 unfold okI at hok
 simp only[and_eq_true,decide_eq_true_eq,all_eq_true,Bool.not_eq_true'] at hok
 refine ae (hok) λLz hlam=>?_
 clear hok
 refine ae (Lz) λLC hfree=>?_
 clear Lz
 refine ae (LC) λLF hself=>?_
 clear LC
 refine ae (LF) λLI hlast=>?_
 clear LF
 refine ae (LI) λLD hbody=>?_
 clear LI
 refine ae (LD) λLy hnd=>?_
 clear LD
 refine ae (Ly) λn hbk=>?_
 clear Ly
 refine eV (AL hlast) λa3 b3 c3 hl3 o1 o2 o3=>?_
 cases hσ:bF fn.params xs with
 | none=>exact absurd (by unfold cT; rw[hσ]) nb
 | some σ=>
  refine ae (pX rs hσ) λhlen m=>?_
  refine ak (m) λfp hfp=>?_
  clear m
  have R0:=ge.cls (.inr (by rw[hp]; rfl))
  refine aZ (R0) λN mN LG quiet LJ _=>?_
  clear R0
  obtain ⟨LH,hN⟩:=LG
  refine ew (LH) λnm q bs' sn sub col dd k0 k1 k2 k3 k5 hCl=>?_
  clear LH
  refine lU (LJ) λp' oI i1 i2 i3 i4 i5=>?_
  clear LJ
  rw[hp] at i1; injection i1
  obtain ⟨hh,g,dr,tk,os⟩:=s
  refine wpAny_call_obj_init PySem.F.objNew hCl hN i2 i4 i5 λh' x D Mk=>?_
  have hxC:x≠SF.rule:=λq=>by have:=Mk.newX; rw[q] at this; rw[this] at hCl; exact nN hCl
  have kM:K hh h':=.of Mk.keeps
  refine uj (i3.k kM) λo fd ho hd hbd i hgl hcl hbl hcr hcode z hco hgen u=>?_
  rw[n] at z
  refine ae (hroom.at hf) λr1 r2=>?_
  have ge':GE fns h':=ge.k kM
  have K0fp:∀ y q,σ y=some q->y ∈ "self" :: fn.params/\∃ V v,q=mk V/\(("self" :: fn.params).zip (.ref x::vals)).lookup y=some v/\RV h' v V (fp y)/\∀ a∈fp y,P a:=λy q hq=>by
   refine ae (hfp y q hq) λh1 j=>?_
   refine aZ (j) λV v h2 h3 h4 h5=>?_
   clear j
   have hys:y ≠ "self" := λe=>by
    rw[n] at hnd
    exact (nodup_cons.mp hnd).1 (e▸h1)
   refine (aB (.tail _ h1) (be V v h2 ?_ (h4.k kM) (λa h=>ha a (h5 a h))))
   rw[zip_cons_cons,lookup_cons,beq_eq_false_iff_ne.mpr hys]
   exact h3
  have hu:(A.under (.builtin "type.__call__" ⟨.ref SF.rule::vals,[]⟩)).units<=A.units+50:=by
   have:(Code.builtin "type.__call__" ⟨.ref SF.rule::vals,[]⟩).cUnits<=50:=by
    have:(Code.builtin "type.__call__" ⟨.ref SF.rule::vals,[]⟩).cUnits=1+3*(Code.builtin "type.__call__" ⟨.ref SF.rule::vals,[]⟩).frames:=rfl
    rw[this]
    have:(Code.builtin "type.__call__" ⟨.ref SF.rule::vals,[]⟩).frames<=1:=by first | exact le_refl _ | exact zero_le _
    exact Jd this
   show A.units+_<=_
   exact Jh this
  refine wpAny_call (ro (s:=⟨h',g,dr,tk,os⟩) (A:=A.under (.builtin "type.__call__" ⟨.ref SF.rule::vals,[]⟩)) (by rw[depth_under_make]; exact Hg r1) ho hd (rg ge.nolim kM) hcr hbd (z (.ref x::vals) (by rw[length_cons,length_cons,hlen])) hcl (lf i (λy hy=>hbk y (n▸hy))) (λs₁ X=>?_) hco hgen u)
  refine ba (X.x.toInCall.same) λh₁ tka LK=>?_
  subst LK
  have t:=X.x.toInCall.keep
  have KS:=mS (k:=k) (ft:=p.2) (fa:=p.1) (σ:=σ) (pn:="self" :: fn.params) (pv:=.ref x::vals) (fp:=fp) (P:=P) (s:=⟨h',g,dr,tk,os⟩) hf (n▸hnd) (λy hy=>hbk y (n▸hy)) hfree (A:=A.under (.builtin "type.__call__" ⟨.ref SF.rule::vals,[]⟩)) hroom.1 (by rw[depth_under_make]; exact Di r1) (lt_of_le_of_lt (EK hu) r2) (by
   refine af (hfr) λl e1 e2=>?_
   clear hfr
   exact (ah l e1 (e2.k kM))) ge' i hgl hbl u hcode X K0fp
  have hsplit:p.2.body=p.2.body.take (p.2.body.length-3)++[a3,b3,c3]:=by rw[<- hl3]; exact (take_append_drop _ _).symm
  rw[hsplit,m8]
  refine wpAny_bind ?_
  have okb:cV (callEnvC fd h'.objs.size p.1).scope.names fn.body (p.2.body.take (p.2.body.length-3))=true:=by show cV fd.scope.names fn.body _=true; rw[i]; exact hbody
  cases hex:exs C fn.body σ with
  | bad=>exact absurd (wN hσ hex) nb
  | exc c=>
   refine mR (fns:={fns with lam:=p.2.lam }) hf hC fn.body okb KS hex λx s' st lv ex=>?_
   have kp:Kp ⟨h',g,dr,tk,os⟩ s':=by
    refine av (st) λhb tk' LM kk=>?_
    clear st
    (clear ex lv; subst LM)
    exact (aC hb tk' rfl (Internal.K.step (Internal.K.of t) kk λb o e=>⟨o,e⟩))
   exact pZ kp lv ex λs'' X=>hE c (wk hσ hex) x s'' (.of (aC h' tk rfl kM) X)
  | ok o=>
  obtain ⟨σ',fl⟩:=o
  cases fl with
  | ret q=>exact absurd (v9 hσ hex) nb
  | next=>
  cases hfl:e7 σ' with
  | bad=>exact absurd ((mY hσ hex).trans hfl) nb
  | exc c=>
   exact (uv hfl).elim
  | ok r=>
  replace hQ:=hQ r ((mY hσ hex).trans hfl)
  refine gd (tm hfl) λci mc rows ys er hc1 hf1 hf4=>?_
  refine nq (fns:={fns with lam:=p.2.lam }) hf hC fn.body okb KS hex (λuu s' vals' fp' st K' F=>?_) λq e=>by cases e
  refine av (st) λhs' tk' LN kgs=>?_
  (clear st; subst LN)
  rw[er] at hQ
  have R0:=ge.cls (.inr (by rw[hp]; rfl))
  refine ut (fns:={fns with lam:=p.2.lam }) C hf Mk hxC (Internal.K.step (Internal.K.of t) kgs λb o e=>⟨o,e⟩) (ge.flag _ _) R0 hlam K' ?_ ?_ hc1 hf1 hf4 (by show eF fd.scope.names _ _ _=true; rw[i]; exact o1) (by show eF fd.scope.names _ _ _=true; rw[i]; exact o2) (by show eF fd.scope.names _ _ _=true; rw[i]; exact o3) λs' E=>⟨rfl,hQ _ _ E⟩
  ·refine af (hfr) λl' f1 f2=>?_
   exact (ah l' (Around.frames_deeper (A:=A.under (.builtin "type.__call__" ⟨.ref SF.rule::vals,[]⟩)) f1) f2)
  ·rw[(F.1 "self" hself).1]
   show (("self" :: fn.params).zip (Value.ref x::vals)).lookup "self" = _
   rw[zip_cons_cons,lookup_cons,beq_self_eq_true]
end
section
noncomputable def zC (fns:Fns) (L:List (String×Fn)):Prop:=∀ f fn,L.lookup f=some fn->(f∈aO->f∈SF.excN)/\(f∉aO->if f = "Rule" then ∃ p,fns.init=some p/\okI p.2 fn=true else if f∈methNames then ∃ p,fns.mth f=some p/\okF p.2 fn=true/\p.2.lam=false else ∃ p,fns.fn f=some p/\okF p.2 fn=true/\p.2.lam=true)
theorem Ao (h:okI ft f=true):ft.lam=false:=by
 unfold okI at h
 simp only[and_eq_true,Bool.not_eq_true'] at h
 exact h.2
theorem vN (hf:fns.hand=false) (hL:zC fns L):∀ n,cI {fns with lam:=true } n (mkC L n) XPc/\cI {fns with lam:=false } n (aE (mkC L n)) XPc
 | 0=>⟨(λf g h=>by cases h),λf g h=>by
  unfold aE at h
  split at h<;>cases h⟩
 | n+1=>by
  refine ae (vN hf hL n) λi1 i2=>?_
  have u:∀ (b:Bool) (f:String) (g:List V->Out (V×Mode)),mkC L (n+1) f=some g->(f∈aO->f∈SF.excN)/\(f∉aO->∃ a,adr {fns with lam:=b } f=some a/\∀ {A:Around}{P:Addr->Prop}{s:Shared}{Q:Value->Shared->Prop}{Er:Value->Shared->Prop}{j:List V}{vals:List Value}{as:List Addr},
    Room fns.hand (n+1) A->(∃ l,A.frames=some l/\FrOk s.heap l)->GE {fns with lam:=b } s.heap->RVs s.heap j vals as->(∀ a∈as,P a)->g j≠.bad->(∀ r,g j = .ok r->∀ v s',EP P s r v s'->Q v s')->(∀ c,g j = .exc c->∀ x s',XPc c s x s'->Er x s') ->
    wpAny (model prog w) A (call (.ref a) vals []) Q Er s):=λb f g h=>by
   refine bG (show (L.lookup f).map (λfn vs=>cW f (mkC L n) fn vs)=some g from h) λfn hfn LA=>?_
   (clear h; subst LA)
   refine ae (hL f fn hfn) λh1 m=>?_
   refine ⟨h1,λhe=>?_⟩
   replace m:=m he
   by_cases hr:f = "Rule"
   ·rw[if_pos hr] at m
    refine af (m) λp t k=>?_
    clear m
    refine (ah SF.rule (by unfold adr; rw[if_pos hr]; show (fns.init).map _=_; rw[t]; rfl) (λi fr y z ha o hQ hE=>?_))
    have hk:∀ j,cW f (mkC L n) fn j=cT (aE (mkC L n)) fn j:=λj=>by unfold cW; rw[if_pos hr]
    dsimp only at o
    rw[hk] at o
    refine uH (fns:={fns with lam:=b }) hf (p:=p) t (by rw[Ao k]; exact i2) k i fr y z ha o (λr e=>hQ r ((hk _).trans e)) λc e=>hE c ((hk _).trans e)
   ·rw[if_neg hr] at m
    by_cases hm:f∈methNames
    ·rw[if_pos hm] at m
     refine aq (m) λp t k hl=>?_
     clear m
     refine (ah p.1 (by rw[qX hr hm]; show (fns.mth f).map _=_; rw[t]; rfl) (λi fr y z ha o hQ hE=>?_))
     have hk:∀ j,cW f (mkC L n) fn j=ax (aE (mkC L n)) fn j:=λj=>by unfold cW; rw[if_neg hr,if_pos hm]
     dsimp only at o
     rw[hk] at o
     refine aZ (y.cls (.inl (bN f p t))) λuu uu uu uu uu hmt=>?_
     refine aq (hmt f p t) λuu uu hat _=>?_
     exact mu (fns:={fns with lam:=b }) hf (ft:=p.2) (by rw[hl]; exact i2) k i fr y hat z ha o (λr e=>hQ r ((hk _).trans e)) λc e=>hE c ((hk _).trans e)
    ·rw[if_neg hm] at m
     refine aq (m) λp t k hl=>?_
     clear m
     refine (ah p.1 (by rw[ue hr hm]; show (fns.fn f).map _=_; rw[t]; rfl) (λi fr y z ha o hQ hE=>?_))
     have hk:∀ j,cW f (mkC L n) fn j=ax (mkC L n) fn j:=λj=>by unfold cW; rw[if_neg hr,if_neg hm]
     dsimp only at o
     rw[hk] at o
     exact mu (fns:={fns with lam:=b }) hf (ft:=p.2) (by rw[hl]; exact i1) k i fr y (y.funs f p t) z ha o (λr e=>hQ r ((hk _).trans e)) λc e=>hE c ((hk _).trans e)
  refine ⟨λf g h=>⟨le_add_left 1 n,λuu=>rfl,u true f g h⟩,λf g h=>?_⟩
  unfold aE at h
  split at h
  ·exact nN h
  ·rename_i hn
   exact ⟨le_add_left 1 n,λq=>absurd q hn,u false f g h⟩
end
noncomputable def cf (p:Program) (loose:List Str) (mg mN:Str->Option Value) (L:List (String×Fn)):Fns where
 fn f:=if f = "Rule" \/ f∈methNames\/f∈aO then none else (L.lookup f).bind λfn=>((recsOf p).find? λd=>d.name==Str.ofString f).bind λd=>(fG (mg (Str.ofString f))).map λa=>(a,⟨fn.params,d.body,d.scope,true⟩)
 mth m:=if m∈methNames then (L.lookup m).bind λfn=>(dP p loose m).bind λr=>(fG (mN (Str.ofString m))).map λa=>(a,⟨fn.params,r.body,r.scope,false⟩) else none
 init:=(L.lookup "Rule").bind λfn=>(dP p loose "__init__").bind λr=>(fG (mN "__init__")).map λa=>(a,⟨"self" :: fn.params,r.body,r.scope,false⟩)
 lam:=true
 hand:=false
theorem gG:∀ {l:List (String×α)}{x:String}{v:α},l.lookup x=some v->(x,v)∈l
 | (y,u)::l,x,v,h=>by
  rw[lookup_cons] at h
  split at h
  ·rename_i e; injection h; rw[beq_iff_eq.mp e]; exact .head _
  ·exact .tail _ (gG h)
theorem tj {ps:List String}(h:ps.Nodup):(ps.map Str.ofString).Nodup:=pairwise_map.mpr (List.Pairwise.imp (λh e=>h (dh e)) h)
theorem rL {ps:List String}(h:fR fd.params ps=true) (hd:fd.defaults = .none) (hn:ps.Nodup) (vals:List Value) (hl:vals.length=ps.length):bindArgs fd ⟨vals,[]⟩=pure ((ps.map Str.ofString).zip vals):=by
 unfold fR at h
 simp only[and_eq_true,beq_iff_eq,isEmpty_iff,isNone_iff_eq_none] at h
 refine ae (h) λj k=>?_
 clear h
 refine ae (j) λi l=>?_
 clear j
 refine ae (i) λg m=>?_
 clear i
 refine ae (g) λo n=>?_
 clear g
 exact rR o n m l k hd (tj hn) (by rw[length_map]; exact hl)
theorem nr (h:okF ft f=true):f.params.Nodup:=by
 unfold okF at h
 simp only[and_eq_true,decide_eq_true_eq] at h
 exact h.1.1.2
theorem ug (h:okI ft f=true):ft.params.Nodup:=by
 unfold okI at h
 simp only[and_eq_true,decide_eq_true_eq] at h
 exact h.1.1.1.1.1.2
theorem lz (h:fF sc=true):sc.isCoroutine=false/\sc.isGenerator=false/\sc.kind = .function:=by
 unfold fF at h
 simp only[and_eq_true,Bool.not_eq_true',beq_iff_eq] at h
 exact ⟨h.1.1,h.1.2,h.2⟩
section
theorem HM (hS:∀ c P,h.TableAt c P #[]->SF.tab P) (T:Top p loose mean mg mb h) {f:String}{ps:List String}{d:DefRec}(hd:(recsOf p).find? (λd=>d.name==Str.ofString f)=some d) (hn:ps.Nodup) (h1:fR d.params ps=true) (h2:fF d.scope=true) :
  ∃ a,mg (Str.ofString f)=some (.ref a)/\FnAt h ⟨ps,d.body,d.scope,true⟩ a:=by
 have y:=List.mem_of_find?_eq_some hd
 have j:=List.find?_some hd
 simp only[beq_iff_eq] at j
 refine s7 (T.fn d y) λa o pm k doc x v u t=>?_
 have g:CodeOk h k d.name:=by
  refine Cb (T.tab d y) λa' o' fd c P r l n u4 z m=>?_
  rw[x] at r; cases r
  rw[v] at l; injection l
  rw[u] at n; cases n
  exact ⟨c,P,#[],u4,t,z,m,⟨trivial,λpos cv q=>by cases q⟩,hS c P m⟩
 refine aG (lz h2) λh7 h8 h9=>?_
 exact ⟨a,by rw[<- j]; exact x,o,_,v,u,rfl,rfl,rfl,rfl,rfl,t,λuu=>g,λi hl=>rL h1 rfl hn i hl,h7,h8,h9⟩
theorem qV (P:PlainAt h c C N mN) {ps:List String}(hr:c.meths.find? (λr=>r.name==Str.ofString m)=some r) (hn:ps.Nodup) (h1:fR r.params ps=true) (h2:fF r.scope=true) :
  ∃ a o,mN (Str.ofString m)=some (.ref a)/\FnAt h ⟨ps,r.body,r.scope,false⟩ a/\h.get? a=some o/\o.cls = .type "function" := by
 have i:=List.find?_some hr
 simp only[beq_iff_eq] at i
 refine Cn (P.meths r (List.mem_of_find?_eq_some hr)) λa o z cd y p j n l k=>?_
 refine aG (lz h2) λx v u=>?_
 exact ⟨a,o,by rw[<- i]; exact p,⟨o,_,j,l,rfl,rfl,rfl,rfl,rfl,k,(λq=>by cases q),λg t=>rL h1 rfl hn g t,x,v,u⟩,j,n⟩
theorem AQ (TE:TopE p loose mg h) (Y:gp (bC L) h) (T:Top p loose mean mg mb h) (hr:(fB p loose).isSome=true):∃ c C N mN,fB p loose=some c/\mg "Rule" = some (.ref C)/\PlainAt h c C N mN/\∀ n∈fieldNames,mN (Str.ofString n)=none:=by
 refine bK hr λc k=>?_
 have x:=List.mem_of_find?_eq_some k
 have m:=List.find?_some k
 simp only[beq_iff_eq] at m
 refine bv (TE c x) λC N mN l P=>?_
 rw[m] at l
 refine ⟨c,C,N,mN,k,l,P.ofCmp,λn hf=>?_⟩
 obtain ⟨i,g',ad,_,_,C',o,cd,j,b1,t,b3,b4,b5⟩:=Y
 have y:i=mg:=g'.eq_nsMap.trans T.g.eq_nsMap.symm
 (clear T TE; subst y)
 have r:i "Rule" = some (.ref C):=l
 rw[b1] at r; cases r
 refine ew (P.cls.obj) λnm q bs sn u col dd k0 k1 k2 k3 k5 e=>?_
 rw[t] at e; (have v:=Option.some.inj e; clear e; (clear t; subst v))
 cases b3
 have z:j=mN:=b4.eq_nsMap.trans P.cls.ns.eq_nsMap.symm
 rw[<- z]
 exact b5 n hf
theorem Ci (Y:gp (bC L) h) (T:Top p loose mean mg mb h) (ht:lL p loose L=true) {ad:String->Addr}(had:∀ c∈bC L,mg (Str.ofString c)=some (.ref (ad c))) (hP:bC L=[] \/ "PickError" ∈ bC L) (hSF:∀ c,SF.exc c=ad c) :
  (∀ c∈bC L,ExcAt h c)/\∀ c∈bC L,∀ c' ∈ "PickError" :: bC L,ad c=ad c'->c=c':=by
 obtain ⟨mg',g',m,a1,a2,_⟩:=Y
 have hg:mg' = mg:=g'.eq_nsMap.trans T.g.eq_nsMap.symm
 subst hg
 have t:∀ c∈bC L,m c=ad c:=λc i=>by
  refine av (a1 c i) λuu uu q _=>?_
  rw[had c i] at q
  exact (Value.ref.inj (Option.some.inj q)).symm
 refine ⟨λc i=>?_,λc i c' hc' q=>?_⟩
 ·have l : "PickError" ∈ bC L:=hP.resolve_left λq=>by rw[q] at i; cases i
  refine aZ (a1 c i) λo cd b1 v b3 u=>?_
  refine qh i λr hce=>?_
  refine aK r λz hq y=>?_
  obtain ⟨f,fn⟩:=z
  (clear r; subst y)
  have k:=all_eq_true.mp ht _ hq
  unfold g9 at k
  rw[if_pos (of_decide_eq_true hce),beq_iff_eq] at k
  refine af (T.ownAt k) λC O _=>?_
  obtain ⟨bm,N,nm,q,bs,n,sn,x,ab,col,dd,k0,k1,k2,k3,k5,mN,c1,c2,c3,c4⟩:=O.obj
  have eC:=O.bound
  rw[b1] at eC; cases eC
  rw[v] at c1; injection c1
  cases b3
  dsimp only at u
  injection u with _ u
  have e1:SF.exc f=m f:=by rw[hSF,t f i]
  have e2:SF.exc "PickError" = m "PickError" := by rw[hSF,t _ l]
  have e3:bm=eJ f:=by rw[u]; unfold eJ; rw[e2]
  subst e3
  rw[<- e1] at v
  exact ⟨N,nm,q,bs,n,sn,x,ab,col,dd,k0,k1,k2,k3,k5,mN,by rw[e1] at v ⊢; exact v,c2,c3 _ (.head _),c4.tail⟩
 ·have l : "PickError" ∈ bC L:=hP.resolve_left λq=>by rw[q] at i; cases i
  have j:c'∈bC L:=(mem_cons.mp hc').elim (λq=>q▸l) id
  exact a2 c i c' j (by rw[t c i,t c' j]; exact q)
theorem Ah (Y:gp (bC L) h) (T:Top p loose mean mg mb h):∀ c∈bC L,∃ a,mg (Str.ofString c)=some (.ref a):=λc k=>by
 obtain ⟨i,l,m,n,_⟩:=Y
 have j:i=mg:=l.eq_nsMap.trans T.g.eq_nsMap.symm
 (clear T; subst j)
 refine av (n c k) λuu uu q _=>?_
 exact ⟨_,q⟩
theorem mC (ht:lL p loose L=true) (hf:L.lookup f=some fn):g9 p loose f fn=true:=all_eq_true.mp ht _ (gG hf)
theorem xw (hf:L.lookup f=some fn) (he:f∈aO):f∈bC L:=mem_filter.mpr ⟨mem_map.mpr ⟨_,gG hf,rfl⟩,decide_eq_true he⟩
theorem tN (hS:∀ c P,h.TableAt c P #[]->SF.tab P) (hO:∀ b,SF.old b->∃ o,h.get? b=some o) (T:Top p loose mean mg mb h) (TE:TopE p loose mg h) (Y:gp (bC L) h) (ht:lL p loose L=true) (hb:xl p loose=true) (hr:(fB p loose).isSome=true) (hL:(L.lookup "Rule").isSome=true) (hP:bC L=[] \/ "PickError" ∈ bC L)
  (hN:SF.excN=bC L) (hA:∀ c,SF.exc c=((fG (mg (Str.ofString c))).getD 0)) (hR:SF.rule=(fG (mg "Rule")).getD 0):∃ mN,GE (cf p loose mg mN L) h/\zC (cf p loose mg mN L) L:=by
 refine gd (AQ TE Y T hr) λc C N mN hc hC Pl t=>?_
 have eR:SF.rule=C:=by rw[hR,hC]; rfl
 have had:∀ c∈bC L,mg (Str.ofString c)=some (.ref (SF.exc c)):=λc hc=>by
  refine ak (Ah Y T c hc) λa e=>?_
  rw[hA,e]; rfl
 refine ae (Ci Y T ht (ad:=SF.exc) had hP λuu=>rfl) λx1 x2=>?_
 have mrec:∀ m,dP p loose m=c.meths.find? λr=>r.name==Str.ofString m:=λm=>by unfold dP; rw[hc]; rfl
 have tM:∀ m fn,L.lookup m=some fn->m∈methNames->∃ a o r,dP p loose m=some r/\mN (Str.ofString m)=some (.ref a)/\FnAt h ⟨fn.params,r.body,r.scope,false⟩ a/\h.get? a=some o/\o.cls = .type "function" /\ okF ⟨fn.params,r.body,r.scope,false⟩ fn=true:=λm fn hm hmm=>by
  have i:=mC ht hm
  have n1:m∉aO:=λq=>by
   simp only[methNames,mem_cons,not_mem_nil,or_false] at hmm
   rcases hmm with rfl | rfl | rfl | rfl | rfl<;>revert q<;>decide
  have n2:m ≠ "Rule" := λq=>by (clear i hm n1; subst q); revert hmm; decide
  unfold g9 at i
  rw[if_neg n1,if_neg n2,if_pos hmm] at i
  refine aj i λr hr i=>?_
  simp only[and_eq_true] at i
  refine aZ (qV Pl ((mrec m).symm.trans hr) (nr i.1.1) i.1.2 i.2) λa o u l v z=>?_
  exact ⟨a,o,r,hr,u,l,v,z,i.1.1⟩
 have tI:∀ fn,L.lookup "Rule" = some fn->∃ a o r,dP p loose "__init__" = some r/\mN "__init__" = some (.ref a)/\FnAt h ⟨"self" :: fn.params,r.body,r.scope,false⟩ a/\h.get? a=some o/\o.cls = .type "function" /\ okI ⟨"self" :: fn.params,r.body,r.scope,false⟩ fn=true:=λfn hm=>by
  have i:=mC ht hm
  unfold g9 at i
  rw[if_neg (by decide),if_pos rfl] at i
  refine aj i λr hr i=>?_
  simp only[and_eq_true] at i
  refine aZ (qV Pl (ps:="self" :: fn.params) ((mrec "__init__").symm.trans hr) (ug i.1.1) i.1.2 i.2) λa o u l v z=>?_
  exact ⟨a,o,r,hr,u,l,v,z,i.1.1⟩
 have tF:∀ f fn,L.lookup f=some fn->¬ (f = "Rule" \/ f∈methNames\/f∈aO)->∃ a d,(recsOf p).find? (λd=>d.name==Str.ofString f)=some d/\mg (Str.ofString f)=some (.ref a)/\FnAt h ⟨fn.params,d.body,d.scope,true⟩ a/\okF ⟨fn.params,d.body,d.scope,true⟩ fn=true:=λf fn hm y=>by
  have i:=mC ht hm
  unfold g9 at i
  rw[if_neg (λq=>y (.inr (.inr q))),if_neg (λq=>y (.inl q)),if_neg (λq=>y (.inr (.inl q)))] at i
  refine aj i λd hd i=>?_
  simp only[and_eq_true] at i
  refine af (HM hS T hd (nr i.1.1) i.1.2 i.2) λa u l=>?_
  exact ⟨a,d,hd,u,l,i.1.1⟩
 have gF:∀ f k,(cf p loose mg mN L).fn f=some k->¬ (f = "Rule" \/ f∈methNames\/f∈aO)/\mg (Str.ofString f)=some (.ref k.1)/\FnAt h k.2 k.1:=λf k j=>by
  simp only[cf] at j
  split at j
  ·exact nN j
  ·rename_i y
   refine bk j λfn t j=>?_
   refine aZ (tF f fn t y) λa d u l v _=>?_
   rw[u,l] at j
   injection j
   exact ⟨y,l,v⟩
 have gM:∀ m k,(cf p loose mg mN L).mth m=some k->m∈methNames/\∃ o,mN (Str.ofString m)=some (.ref k.1)/\FnAt h k.2 k.1/\h.get? k.1=some o/\o.cls = .type "function" := λm k j=>by
  simp only[cf] at j
  split at j
  ·rename_i y
   refine bk j λfn t j=>?_
   refine cK (tM m fn t y) λa o r u l v z e5 _=>?_
   rw[u,l] at j
   injection j
   exact ⟨y,o,l,v,z,e5⟩
  ·exact nN j
 have gI:∀ k,(cf p loose mg mN L).init=some k->∃ o,mN "__init__" = some (.ref k.1)/\FnAt h k.2 k.1/\h.get? k.1=some o/\o.cls = .type "function" := λk j=>by
  simp only[cf] at j
  refine bk j λfn t j=>?_
  refine cK (tI fn t) λa o r u l v z e5 _=>?_
  rw[u,l] at j
  injection j
  exact ⟨o,l,v,z,e5⟩
 refine ⟨mN,⟨⟨mg,T.g,λf a hf hq=>?_,λx hx=>?_⟩,λf k j=>(gF f k j).2.2,λuu=>?_,⟨mb,T.b,λx hx=>?_⟩,T.nolimit,hO,⟨mg,T.g,λc hc=>?_,?_⟩,zJ (T.bmain) λbm ob a b c d e f=>⟨mg,bm,ob,T.g,a,b,c,d,e,f⟩⟩,λf fn hf=>⟨λhe=>by rw[hN]; exact xw hf he,λhe=>?_⟩⟩
 ·unfold adr at hq
  by_cases i:f = "Rule"
  ·rw[if_pos i] at hq
   refine bG hq λuu uu LD=>?_
   subst LD
   rw[i,eR]; exact hC
  ·rw[if_neg i,if_neg hf] at hq
   refine bG hq λk j Ly=>?_
   subst Ly
   exact (gF f k j).2.1
 ·have:=all_eq_true.mp hb x hx
  simp only[and_eq_true,Bool.not_eq_true',List.contains_eq_mem,decide_eq_false_iff_not] at this
  refine ae (this) λLG h5=>?_
  clear this
  refine ae (LG) λLJ h4=>?_
  clear LG
  refine ae (LJ) λLH h3=>?_
  clear LJ
  refine ae (LH) λi h2=>?_
  clear LH
  exact T.free _ i h2 h3 h4 h5
 ·refine bK hL λfn hfn'=>?_
  refine cK (tI fn hfn') λa o r u l v z e5 _=>?_
  refine ⟨N,mN,eR▸Pl.cls,λn y=>?_,⟨(a,⟨"self" :: fn.params,r.body,r.scope,false⟩),o,?_,l,v,z,e5⟩,λm k j=>(gM m k j).2⟩
  ·simp only[mem_cons,not_mem_nil,or_false] at y
   rcases y with rfl | rfl | rfl | rfl | rfl | rfl
   ·exact Pl.quiet _ (mem_append_left _ (.head _))
   ·exact Pl.quiet _ (mem_append_left _ (.tail _ (.head _)))
   ·exact Pl.quiet _ (mem_append_left _ (.tail _ (.tail _ (.head _))))
   ·exact t _ (.head _)
   ·exact t _ (.tail _ (.head _))
   ·exact t _ (.tail _ (.tail _ (.head _)))
  ·simp only[cf,hfn',u,l,bind_some,fG,map_some]
 ·simp only[bnames,mem_cons,not_mem_nil,or_false] at hx
  rcases hx with rfl | rfl | rfl | rfl | rfl | rfl | rfl | rfl | rfl | rfl | rfl | rfl<;>(rw[T.builtins _ (by decide +kernel)]; kernel_rfl)
 ·rw[hN] at hc
  exact ⟨had c hc,x1 c hc⟩
 ·rw[hN]; exact x2
 ·by_cases i:f = "Rule"
  ·rw[if_pos i]
   (clear he; subst i)
   refine cK (tI fn hf) λa o r u l v z e5 e6=>?_
   exact ⟨(a,⟨"self" :: fn.params,r.body,r.scope,false⟩),by simp only[cf,hf,u,l,bind_some,fG,map_some],e6⟩
  ·rw[if_neg i]
   by_cases h2:f∈methNames
   ·rw[if_pos h2]
    refine cK (tM f fn hf h2) λa o r u l v z e5 e6=>?_
    exact ⟨(a,⟨fn.params,r.body,r.scope,false⟩),by simp only[cf,if_pos h2,hf,u,l,bind_some,fG,map_some],e6,rfl⟩
   ·rw[if_neg h2]
    refine aZ (tF f fn hf λq=>q.elim i λq=>q.elim h2 he) λa d u l v e6=>?_
    exact ⟨(a,⟨fn.params,d.body,d.scope,true⟩),by simp only[cf,if_neg (show ¬ (f = "Rule" \/ f∈methNames\/f∈aO) from λq=>q.elim i λq=>q.elim h2 he),hf,u,l,bind_some,fG,map_some],e6,rfl⟩
theorem qG (h:n<=60):Room false n callerA:=⟨λuu=>rfl,by show 1+claimMargin+2*n+4<recursionLimit; unfold claimMargin recursionLimit; exact DC h,by show 4+100*n+300<cLine; unfold cLine; exact E1 h⟩
theorem CC:pB gl:=by
 intro p g mean mg mb L s fn fa a n ns vs m Q Er i T TE Y ht hb hr hL hP hf hmg hn j ea hI hlen hQ
 replace i:SF=pV mg L s.heap:=i
 show wpAny (model prog w) callerA (call (.ref fa) [.ref a]) Q Er s
 refine af (tN (λc P x=>by rw[i]; exact ⟨c,x⟩) (λb hb=>by rw[i] at hb; exact hb) T TE Y ht hb hr hL hP (by rw[i]; rfl) (λuu=>by rw[i]; rfl) (by rw[i]; rfl)) λmN ge tab=>?_
 obtain ⟨k,hp,hok,z⟩:∃ k,(cf p g mg mN L).fn "law" = some k/\okF k.2 fn=true/\k.2.lam=true:=(tab "law" fn hf).2 (by decide)
 have ha:k.1=fa:=by
  have:(cf p g mg mN L).fn "law" = some k:=hp
  simp only[cf] at this
  rw[if_neg (by decide),hf] at this
  refine bk (show ((recsOf p).find? _).bind _=some k from this) λd _ this=>?_
  rw[hmg] at this
  (have oc:=Option.some.inj this; clear this; (clear z hok hp; subst oc)); rfl
 have hC:cI { (cf p g mg mN L) with lam:=k.2.lam } n (mkC L n) XPc:=by rw[z]; exact (vN (fns:=cf p g mg mN L) rfl tab n).1
 have rs:RVs s.heap [.d (aa ns)] [.ref a] ([a]++[]):=by
  refine .cons ⟨.list ea (RA.of_ints hI),?_⟩ .nil
  exact sz_list.mpr ⟨by rw[length_map]; exact hlen,iz ns⟩
 have hat:FnAt s.heap k.2 fa:=ha▸ge.funs "law" k hp
 refine mu (fns:=cf p g mg mN L) (P:=λuu=>True) rfl hC hok (qG (Gi hn)) ⟨[],rfl,λuu h=>nomatch h⟩ ge hat rs (λuu uu=>trivial) (by rw[j]; simp) (λr hr v s' E=>?_) λc hc=>by rw[j] at hc; cases hc
 rw[j] at hr; injection hr
 obtain ⟨y,as,u,_⟩:=E
 refine av (y) λh' tk LN kp=>?_
 clear y
 subst LN
 refine ae (u) λr _=>?_
 clear u
 cases r
 refine hQ h' tk ⟨λb o e=>?_,λb o e=>K.there kp e⟩
 refine af (kp b o (.inl trivial) e) λo' e' l=>?_
 cases l with
 | same q=>exact .inl (q▸e')
 | tab ps more q1 q2 q3 _=>
  rw[i] at q1; revert q1; intro t
  refine ak (t) λc q1=>?_
  clear t
  (clear e; subst q2 q3)
  exact .inr (.inl ⟨q1.isCodeTable,rfl,ps,more,rfl,e'⟩)
 | frame es ep q1 _ _ _ _ _=>rw[i] at q1; exact absurd ⟨o,e⟩ q1
end
theorem r4 {P:Params}{h:Heap}{a:Addr}{vs:List Value}{xs:List W.WData}(x:W.Well P h (.ref a) (.list xs)) (hL:h.IsList a vs.toArray):h.get? a=some {cls:=.type "list", data:=.seq vs.toArray }:=by
 obtain ⟨o,e,j,n,g⟩:=hL
 cases x with
 | list e' _=>
  rw[e] at e'; (have i:=Option.some.inj e'; clear e'; (clear j; subst i))
  dsimp only at g
  injection g with h1 h2
  rw[e,h1]
theorem xH {w:World}{prog:Program}(T:Top p loose mean mg mb s.heap) (TE:TopE p loose mg s.heap) (Y:gp (bC L) s.heap) (ht:lL p loose L=true) (hb:xl p loose=true) (hr:(fB p loose).isSome=true) (hL:(L.lookup "Rule").isSome=true) (hP:bC L=[] \/ "PickError" ∈ bC L)
  (hf:L.lookup "law" = some fn) (hmg:mg (Str.ofString "law")=some (.ref fa)) (hn:n<=50) (hrun:ax (mkC L n) fn [.d (aa ns)] = .ok (.d (.bool true),m)) (ea:s.heap.get? a=some {cls:=.type "list", data:=.seq vs.toArray }) (hI:IntsAre vs ns) (hlen:ns.length<=2^22)
  (hQ:∀ h' tk,OldK s.heap h'->Q (.bool true) {s with heap:=h',toks:=tk }):wpAny (model prog w) callerA (call (.ref fa) [.ref a]) Q Er s :=
 Cp CC ⟨prog,w,pV mg L s.heap⟩ rfl T TE Y ht hb hr hL hP hf hmg hn hrun ea hI hlen hQ
theorem gJ:∀ {xs:List PyData},(∀ x∈xs,x.depth<=n)->PyData.depthAll xs<=n
 | [],_=>by simp[PyData.depthAll]
 | x::xs,h=>by
  rw[PyData.depthAll]
  exact Nat.max_le.mpr ⟨h x (.head _),gJ λy g=>h y (.tail _ g)⟩
theorem fh:∀ {xs:List PyData},(∀ x∈xs,x.canLay0=true)->PyData.canLayAll0 xs=true
 | [],_=>by simp[PyData.canLayAll0]
 | x::xs,h=>by
  rw[PyData.canLayAll0,h x (.head _),fh λy g=>h y (.tail _ g)]; rfl
noncomputable def Low (n:Nat) (d:PyData):Prop:=d.canLay0=true/\d.depth<=n
theorem Low.okc (h:Low n d) (hn:n<=64:=by decide):okc d=true:=by
 unfold Internal.okc
 rw[h.1,decide_eq_true (le_trans h.2 hn)]; rfl
theorem Low.int (i:Int) (n:Nat):Low (n+1) (.int i):=⟨rfl,by simp[PyData.depth]⟩
theorem Low.list (h:∀ x∈xs,Low n x):Low (n+1) (.list xs) :=
 ⟨by rw[PyData.canLay0]; exact fh λx g=>(h x g).1,by rw[PyData.depth]; have:=gJ λx g=>(h x g).2; exact jR this⟩
theorem Low.tuple (h:∀ x∈xs,Low n x):Low (n+1) (.tuple xs) :=
 ⟨by rw[PyData.canLay0]; exact fh λx g=>(h x g).1,by rw[PyData.depth]; have:=gJ λx g=>(h x g).2; exact jR this⟩
theorem kX (ns:List Int) (n:Nat):Low (n+2) (aa ns):=.list λx h=>by
 refine aK h λi _ g=>?_
 (clear h; subst g)
 exact .int i n
theorem wa (t:List (List Int)) (n:Nat):Low (n+3) (ag t):=.list λx h=>by
 refine aK h λi _ g=>?_
 (clear h; subst g)
 exact kX i n
@[simp] theorem gP (i:Int):okc (.int i)=true:=(Low.int i 0).okc
@[simp] theorem KH:okc .none=true:=rfl
@[simp] theorem c7 (ns:List Int):okc (aa ns)=true:=(kX ns 0).okc
@[simp] theorem okc_ints' (ns:List Int):okc (.list (ns.map .int))=true:=c7 ns
@[simp] theorem ei (t:List (List Int)):okc (ag t)=true:=(wa t 0).okc
@[simp] theorem okc_rows' (t:List (List Int)):okc (.list (t.map aa))=true:=ei t
@[simp] theorem Lj:okc (.list [])=true:=c7 []
@[simp] theorem jL (a b:Int):PyData.eqv (.int a) (.int b)=decide (a=b):=by
 rw[PyData.eqv]; by_cases h:a=b<;>simp[h]
theorem kl:∀ (a b:List Int),PyData.eqvAll (a.map .int) (b.map .int)=decide (a=b)
 | [],[]=>by simp[PyData.eqvAll]
 | [],y::b=>by simp[PyData.eqvAll]
 | x::a,[]=>by simp[PyData.eqvAll]
 | x::a,y::b=>by
  rw[map_cons,map_cons,PyData.eqvAll,kl a b,jL]
  by_cases h1:x=y<;>by_cases h2:a=b<;>simp[h1,h2]
@[simp] theorem eg (a b:List Int):PyData.eqv (aa a) (aa b)=decide (a=b):=by
 unfold aa; rw[PyData.eqv]; exact kl a b
@[simp] theorem eqv_ints' (a b:List Int):PyData.eqv (.list (a.map .int)) (.list (b.map .int))=decide (a=b):=eg a b
theorem kj:∀ (a b:List (List Int)),PyData.eqvAll (a.map aa) (b.map aa)=decide (a=b)
 | [],[]=>by simp[PyData.eqvAll]
 | [],y::b=>by simp[PyData.eqvAll]
 | x::a,[]=>by simp[PyData.eqvAll]
 | x::a,y::b=>by
  rw[map_cons,map_cons,PyData.eqvAll,kj a b,eg]
  by_cases h1:x=y<;>by_cases h2:a=b<;>simp[h1,h2]
@[simp] theorem oQ (a b:List (List Int)):PyData.eqv (ag a) (ag b)=decide (a=b):=by
 unfold ag; rw[PyData.eqv]; exact kj a b
@[simp] theorem Ca (a:List Int):PyData.eqv (aa a) (.list [])=decide (a=[]):=eg a []
@[simp] theorem pd (k:Int) (ns:List Int):inV (.int k) (.d (aa ns)) = .ok (decide (k∈ns)):=by
 show (if okc (.int k)&&okc (aa ns) then Out.ok ((ns.map PyData.int).any λy=>PyData.eqv y (.int k)) else .bad)=_
 rw[gP,c7,if_pos (by decide)]
 congr 1
 rw[Bool.eq_iff_iff,List.any_map]
 simp[List.any_eq_true]
@[simp] theorem pD (k:List Int) (t:List (List Int)):inV (aa k) (.d (ag t)) = .ok (decide (k∈t)):=by
 show (if okc (aa k)&&okc (ag t) then Out.ok ((t.map aa).any λy=>PyData.eqv y (aa k)) else .bad)=_
 rw[c7,ei,if_pos (by decide)]
 congr 1
 rw[Bool.eq_iff_iff,List.any_map]
 simp[List.any_eq_true]
@[simp] theorem d6:∀ ns:List Int,aY (ns.map .int)=some ns
 | []=>rfl
 | i::ns=>by rw[map_cons,aY,d6 ns]; rfl
theorem vh (ns:List Int):(ns.map PyData.int).all sx=true:=by rw[all_map,all_eq_true]; intro _ _; rfl
@[simp] theorem eY (ns:List Int):fresh (ns.map .int) = .deep:=by unfold fresh; rw[vh]; rfl
@[simp] theorem BC (i:Int):mk (.d (.int i))=sI i:=rfl
@[simp] theorem Lm (ns:List Int):mk (.d (aa ns))=(.d (aa ns),.sh):=rfl
theorem lD:∀ {ns:List Int},(∀ i∈ns,F (.int i) = .ok (if p i then some (sI (f i)) else none))->bp F (ns.map .int) = .ok (((ns.filter p).map f).map .int,true)
 | [],_=>rfl
 | i::ns,h=>by
  rw[map_cons,bp,h i (.head _),lD λj g=>h j (.tail _ g)]
  simp only[Out.ok_bind]
  cases hp:p i<;>simp[hp,sI,filter_cons]
theorem qq:∀ {l:List α},(∀ i∈l,F (e i) = .ok (some (sI (f i))))->bp F (l.map e) = .ok ((l.map f).map .int,true)
 | [],_=>rfl
 | i::l,h=>by
  rw[map_cons,bp,h i (.head _),qq λj g=>h j (.tail _ g)]
  rfl
theorem iR {α:Type}{F:PyData->Out (Option (V×Mode))}{e:α->PyData}{f:α->List Int}{p:α->Bool}{m:α->Mode}:∀ {l:List α},(∀ i∈l,F (e i) = .ok (if p i then some (.d (aa (f i)),m i) else none)) ->
  ∃ b,bp F (l.map e) = .ok (((l.filter p).map f).map aa,b)/\((∀ i∈l,m i = .deep)->b=true)
 | [],_=>(ah true rfl (λuu=>rfl))
 | i::l,h=>by
  refine af (iR (l:=l) λj g=>h j (.tail _ g)) λb n k=>?_
  rw[map_cons,bp,h i (.head _),n]
  simp only[Out.ok_bind]
  cases hp:p i
  ·exact (ah b (by simp[hp,filter_cons]) (λq=>k λj g=>q j (.tail _ g)))
  ·refine (ah (decide (m i = .deep)&&b) (by simp[hp,filter_cons]) (λq=>?_))
   rw[q i (.head _),k λj g=>q j (.tail _ g)]; rfl
theorem lY (a b:Int):di a b=((List.range (b-a).toNat).map λ(k:Nat)=>a+(k:Int)).map .int:=by
 unfold di; rw[map_map]; rfl
noncomputable def aS (n:Nat):List Int:=(List.range n).map λ(k:Nat)=>(k:Int)
theorem vm {n:Nat}(h:n<=1000000):cu 0 n = .ok ((aS n).map .int,.deep):=by
 unfold cu
 rw[if_pos (cy (by unfold lim; exact Dc h) CW F9 EL (IF h)),lY]
 simp[aS]
theorem mem_upTo:i∈aS n↔0<=i/\i<n:=by
 unfold aS
 simp only[mem_map,List.mem_range]
 constructor
 ·rintro ⟨k,hk,rfl⟩; exact Dw hk
 ·rintro ⟨g,h⟩; exact (ah i.toNat (la1 g h) (ED g))
theorem jj (hk:bj i xs.length=some k) (h:xs[k]? = some y):fj (.list xs) (.int i) = .ok (mk (.d y)):=by
 show (au ((bj i xs.length).bind λk=>xs[k]?) λz=>Out.ok (mk (.d z)))=_
 rw[hk,bind_some,h]; rfl
theorem cw {i:Int}{n:Nat}(h0:0<=i) (h:i<n):bj i n=some i.toNat:=by unfold bj; rw[if_pos h0,if_pos h]
theorem uD (h0:0<=i) (h:ns[i.toNat]? = some x):fj (aa ns) (.int i) = .ok (sI x):=by
 have g:i.toNat<ns.length:=(List.getElem?_eq_some_iff.mp h).1
 exact jj (cw h0 (by rw[length_map]; exact jF g)) (by rw[List.getElem?_map,h]; rfl)
section
variable (a b:Int) (xs ys:List Int) (t u:List (List Int)) (σ:St) (x y:String) (v:V×Mode)
@[simp] theorem Ln:upd σ x v y=if y=x then some v else σ y:=rfl
@[simp] theorem bt (b:Bool):ar (.d (.bool b)) = .ok b:=rfl
@[simp] theorem Ls:ck .lt (.d (.int a)) (.d (.int b)) = .ok (decide (a<b)):=rfl
@[simp] theorem Lr:ck .gt (.d (.int a)) (.d (.int b)) = .ok (decide (b<a)):=rfl
@[simp] theorem Lu:ck .ge (.d (.int a)) (.d (.int b)) = .ok (decide (b<=a)):=rfl
@[simp] theorem Bv:ck .eq (.d (.int a)) (.d (.int b)) = .ok (decide (a=b)):=by
 show (if okc (.int a)&&okc (.int b) then Out.ok (PyData.eqv (.int a) (.int b)) else .bad)=_
 rw[gP,gP,jL,if_pos (by decide)]
@[simp] theorem Ce:ck .ne (.d (.int a)) (.d (.int b)) = .ok (!decide (a=b)):=by
 show (if okc (.int a)&&okc (.int b) then Out.ok (!PyData.eqv (.int a) (.int b)) else .bad)=_
 rw[gP,gP,jL,if_pos (by decide)]
@[simp] theorem Ai:ck .eq (.d (aa xs)) (.d (aa ys)) = .ok (decide (xs=ys)):=by
 show (if okc (aa xs)&&okc (aa ys) then Out.ok (PyData.eqv (aa xs) (aa ys)) else .bad)=_
 rw[c7,c7,eg,if_pos (by decide)]
@[simp] theorem A1:ck .ne (.d (aa xs)) (.d (aa ys)) = .ok (!decide (xs=ys)):=by
 show (if okc (aa xs)&&okc (aa ys) then Out.ok (!PyData.eqv (aa xs) (aa ys)) else .bad)=_
 rw[c7,c7,eg,if_pos (by decide)]
@[simp] theorem z7:ck .eq (.d (ag t)) (.d (ag u)) = .ok (decide (t=u)):=by
 show (if okc (ag t)&&okc (ag u) then Out.ok (PyData.eqv (ag t) (ag u)) else .bad)=_
 rw[ei,ei,oQ,if_pos (by decide)]
@[simp] theorem Ac:ck .ne (.d (ag t)) (.d (ag u)) = .ok (!decide (t=u)):=by
 show (if okc (ag t)&&okc (ag u) then Out.ok (!PyData.eqv (ag t) (ag u)) else .bad)=_
 rw[ei,ei,oQ,if_pos (by decide)]
@[simp] theorem Cm:ck .isin (.d (.int a)) (.d (aa xs)) = .ok (decide (a∈xs)):=pd a xs
@[simp] theorem AK:ck .notin (.d (.int a)) (.d (aa xs)) = .ok (!decide (a∈xs)):=by
 show ((inV (.int a) (.d (aa xs))).bind λb=>Out.ok (!b))=_
 rw[pd]; rfl
@[simp] theorem Az:ck .isin (.d (aa xs)) (.d (ag t)) = .ok (decide (xs∈t)):=pD xs t
@[simp] theorem Lp:dC .add (.int a) (.int b) = .ok (sI (a+b)):=rfl
@[simp] theorem Lq:dC .sub (.int a) (.int b) = .ok (sI (a-b)):=rfl
@[simp] theorem Ll:dC .xor (.int a) (.int b) = .ok (sI (Builtin.bitXor a b)):=rfl
theorem tQ (h:a.natAbs<2^63):dC .mul (.int a) (.int b) = .ok (sI (a*b)):=by
 show (if a.natAbs<2^63\/b.natAbs<2^63 then Out.ok (sI (a*b)) else .bad)=_
 rw[if_pos (.inl h)]
theorem uT (h:b.natAbs<2^63):dC .mul (.int a) (.int b) = .ok (sI (a*b)):=by
 show (if a.natAbs<2^63\/b.natAbs<2^63 then Out.ok (sI (a*b)) else .bad)=_
 rw[if_pos (.inr h)]
theorem Bh (h:0<b):dC .mod (.int a) (.int b) = .ok (sI (a%b)):=by
 show (if b=0 then Out.bad else Out.ok (sI (a.fmod b)))=_
 rw[if_neg (Jr h),Int.fmod_eq_emod_of_nonneg _ (y4 h)]
theorem As (h:0<b) (h':b<1000000000):dC .fdiv (.int a) (.int b) = .ok (sI (a/b)):=by
 show (if b=0\/1000000000<=b.natAbs then Out.bad else Out.ok (sI (a.fdiv b)))=_
 rw[if_neg (by lia),Int.fdiv_eq_ediv_of_nonneg _ (y4 h)]
theorem wJ (h:xs.length+ys.length<=1000000):dC .add (aa xs) (aa ys) = .ok (.d (aa (xs++ys)),.deep):=by
 show (if (xs.map PyData.int).length+(ys.map PyData.int).length<=lim then Out.ok (V.d (.list (xs.map .int++ys.map .int)),fresh (xs.map .int++ys.map .int)) else .bad)=_
 rw[length_map,length_map,if_pos (show _<=lim from h),<- map_append,eY]; rfl
@[simp] theorem BU:b1V .len (.d (aa xs)) = .ok (sI xs.length):=by
 show Out.ok (sI (xs.map PyData.int).length)=_
 rw[length_map]
@[simp] theorem z9:b1V .len (.d (ag t)) = .ok (sI t.length):=by
 show Out.ok (sI (t.map aa).length)=_
 rw[length_map]
@[simp] theorem Aw:b1V .list (.d (aa xs)) = .ok (.d (aa xs),.deep):=by
 show Out.ok (V.d (.list (xs.map PyData.int)),fresh (xs.map PyData.int))=_
 rw[eY]; rfl
@[simp] theorem xM:b1V .tuple (.d (aa xs)) = .ok (.d (aR xs),.deep):=by
 show Out.ok (V.d (.tuple (xs.map PyData.int)),if (xs.map PyData.int).all sx then Mode.deep else .sh)=_
 rw[vh,if_pos rfl]; rfl
noncomputable def aD (xs:List Int):List Int:=xs.mergeSort λa b=>decide (a<=b)
theorem mX (h:xs.length<64):b1V .sorted (.d (aa xs)) = .ok (.d (aa (aD xs)),.deep):=by
 show dM (xs.map PyData.int)=_
 unfold dM
 rw[length_map,if_pos h,d6]; rfl
theorem k8 (h:xs.length<128) (h0:∀ i∈xs,0<=i):b1V .sorted (.d (aa xs)) = .ok (.d (aa (aD xs)),.deep):=by
 by_cases h1:xs.length<64
 ·exact mX xs h1
 show dM (xs.map PyData.int)=_
 unfold dM
 rw[length_map,if_neg h1,if_pos h,d6]
 show (if _ then _ else _)=_
 rw[if_pos h0]; rfl
theorem qy (h:xs.length<128) (h0:∀ i∈xs,0<=i) (hs:aD xs=xs):b1V .sorted (.d (aa xs)) = .ok (.d (aa xs),.deep):=by
 rw[k8 xs h h0,hs]
@[simp] theorem CK:gy (.d (.int a)) "int" = .ok true:=rfl
@[simp] theorem B4:gy (.d (.int a)) "bool" = .ok false:=rfl
@[simp] theorem Br:gy (.d (aa xs)) "list" = .ok true:=rfl
@[simp] theorem xT:(sI a).1 = .d (.int a):=rfl
@[simp] theorem Cg:(sI a).2 = .deep:=rfl
@[simp] theorem fQ (b:Bool):(sB b).1 = .d (.bool b):=rfl
@[simp] theorem Lw (b:Bool):(sB b).2 = .deep:=rfl
@[simp] theorem Kw:bY []=some []:=rfl
@[simp] theorem KJ (m:Mode) (l:List (V×Mode)):bY ((.d (.int a),m)::l)=(bY l).map (.int a :: ·):=rfl
@[simp] theorem Lk (l:List (V×Mode)):bY (sI a::l)=(bY l).map (.int a :: ·):=rfl
@[simp] theorem CL:allDeep []=true:=rfl
@[simp] theorem IZ (l:List (V×Mode)):allDeep (sI a::l)=allDeep l:=by simp[allDeep]
end
theorem iF (xs:List Int):(aD xs).Perm xs:=mergeSort_perm ..
theorem jq (xs:List Int):(aD xs).Pairwise (·<=·):=by
 have:=List.pairwise_mergeSort (le:=λa b:Int=>decide (a<=b)) (λa b c h1 h2=>by simp at *; exact zx h1 h2) (λa b=>by simp; exact y0) xs
 exact this.imp (by intro a b h; simpa using h)
theorem mW:∀ {l l':List Int},l.Perm l'->l.Pairwise (·<=·)->l'.Pairwise (·<=·)->l=l'
 | [],l',p,_,_=>by rw[p.nil_eq]
 | a::l,[],p,_,_=>by cases p.eq_nil
 | a::l,b::l',p,h,h'=>by
  refine ae (List.pairwise_cons.mp h) λk j=>?_
  refine ae (List.pairwise_cons.mp h') λg i=>?_
  have e:a=b:=by
   rcases mem_cons.mp (p.mem_iff.mp (mem_cons_self (a:=a) (l:=l))) with e | e
   ·exact e
   ·rcases mem_cons.mp (p.mem_iff.mpr (mem_cons_self (a:=b) (l:=l'))) with e' | e'
    ·exact e'.symm
    ·have:=k b e'; have:=g a e; exact zh ‹_› this
  (clear h' g; subst e)
  rw[mW ((List.perm_cons a).mp p) j i]
theorem kP (p:xs.Perm ys) (h:ys.Pairwise (·<=·)):aD xs=ys:=mW ((iF xs).trans p) (jq xs) h
@[simp] theorem n7 (xs:List Int):fe (.d (aa xs))=some (xs.map .int):=rfl
@[simp] theorem mV (t:List (List Int)):fe (.d (ag t))=some (t.map aa):=rfl
@[simp] theorem bL (xs:List Int) (m:Mode):itV (.d (aa xs),m) = .ok (xs.map .int,m):=rfl
@[simp] theorem a5 (t:List (List Int)) (m:Mode):itV (.d (ag t),m) = .ok (t.map aa,m):=rfl
@[simp] theorem kn (xs:List Int) (a:Int):PyData.list (xs.map .int++[.int a])=aa (xs++[a]):=by unfold aa; rw[map_append]; rfl
theorem ju (h:xs.length<=1000000):gB σ x ns mx xs .deep = .ok (upd σ x (.d (.list xs),mx),.next):=by
 unfold gB
 rw[if_pos (show _<=lim from h),if_pos rfl]
@[simp] theorem bI (n:Nat):(aS n).length=n:=by simp[aS]
theorem sd (xs:List Int) (j:Nat) (x:Int):PyData.list ((xs.map PyData.int).take j ++ .int x::(xs.map PyData.int).drop j)=aa (xs.take j++x::xs.drop j):=by
 unfold aa; rw[map_append,map_cons,List.map_take,List.map_drop]
theorem uK (xs:List Int) (n:Nat) (h:n<=1000000):ie (aa xs) (.int n) = .ok (.d (aa (xs.take n)),.deep):=by
 unfold aa ie
 dsimp only
 rw[if_pos ⟨by exact yn,by exact zw h⟩,Int.toNat_natCast,<- List.map_take,eY]
theorem t7 (xs:List Int) (n:Nat) (h:n<=1000000):iG (aa xs) (.int n) = .ok (.d (aa (xs.drop n)),.deep):=by
 unfold aa iG
 dsimp only
 rw[if_pos ⟨by exact yn,by exact zw h⟩,Int.toNat_natCast,<- List.map_drop,eY]
theorem io (h:ex C s σ = .ok (σ',.next)):exs C (.cons s r) σ=exs C r σ':=by
 simp only[bz,h,Out.ok_bind]
theorem Bq (h:ex C s σ = .ok (σ',.ret v)):exs C (.cons s r) σ = .ok (σ',.ret v):=by
 simp only[bz,h,Out.ok_bind]
section
theorem BG (ha:ev C a σ = .ok (.d x,mx)) (hb:ev C b σ = .ok (.d y,my)):ev C (.shi a b) σ=ie x y:=by simp only[mI,ha,hb,Out.ok_bind]
theorem Cu (ha:ev C a σ = .ok (.d x,mx)) (hb:ev C b σ = .ok (.d y,my)):ev C (.slo a b) σ=iG x y:=by simp only[mB,ha,hb,Out.ok_bind]
theorem jz (ha:ev C a σ = .ok (.d x,mx)) (hb:ev C b σ = .ok (.d y,my)):ev C (.sub a b) σ=fj x y:=by simp only[j9,ha,hb,Out.ok_bind]
theorem d7 (ha:ev C a σ = .ok (.d x,mx)) (hb:ev C b σ = .ok (.d y,my)):ev C (.bin o a b) σ=dC o x y:=by simp only[mw,ha,hb,Out.ok_bind]
theorem BI (h:ev C a σ = .ok r):ex C (.ret a) σ = .ok (σ,.ret r):=by simp only[jJ,h,Out.ok_bind]
theorem tJ (h:ev C a σ = .ok r) (hd:r.2 = .deep):ex C (.assign z a) σ = .ok (upd σ z r,.next):=by
 simp only[a7,gS h,Out.ok_bind,consume,hd,if_true]
end
section
theorem jE (hC:C f=some g) (he:evs C es σ = .ok l):ev C (.call f es) σ=g (l.map (·.1)):=by simp only[kW,hC,he,Out.ok_bind]
theorem ai (h:ev C a σ = .ok r) (hs:evs C es σ = .ok l):evs C (.cons a es) σ = .ok (r::l):=by simp only[bl,h,hs,Out.ok_bind]
theorem ay:evs C .nil σ = .ok []:=by simp only[bq]
theorem br (ha:ev C a σ = .ok (x,mx)) (hb:ev C b σ = .ok (y,my)) (h:ck o x y = .ok t):ev C (.cmp o a b) σ = .ok (sB t):=by simp only[jZ,ha,hb,h,Out.ok_bind]
theorem ca (ha:ev C a σ = .ok (sB t)):ev C (.not a) σ = .ok (sB (!t)):=by simp only[gL,ha,Out.ok_bind,fQ,bt]
theorem Bl (ha:ev C a σ = .ok (sB false)) (hb:ev C b σ = .ok (sB t)):ev C (.or a b) σ = .ok (sB t):=by
 simp only[jv,ha,hb,Out.ok_bind,fQ,bt,false_eq_true,if_false]
theorem AA (ha:ev C a σ = .ok (sB true)):ev C (.or a b) σ = .ok (sB true):=by
 simp only[jv,ha,Out.ok_bind,fQ,bt,if_true]
theorem xn (ha:ev C a σ = .ok (sB true)) (hb:ev C b σ = .ok (sB t)):ev C (.and a b) σ = .ok (sB t):=by
 simp only[gV,ha,hb,Out.ok_bind,fQ,bt,if_true]
theorem wK (ha:ev C a σ = .ok (sB false)):ev C (.and a b) σ = .ok (sB false):=by
 simp only[gV,ha,Out.ok_bind,fQ,bt,false_eq_true,if_false]
theorem mt (h:ev C c σ = .ok (sB false)):ex C (.ite c u v) σ=exs C v σ:=by simp only[eK,h,Out.ok_bind,fQ,bt,false_eq_true,if_false]
theorem rq (h:ev C c σ = .ok (sB true)):ex C (.ite c u v) σ=exs C u σ:=by simp only[eK,h,Out.ok_bind,fQ,bt,if_true]
theorem g6:exs C .nil σ = .ok (σ,.next):=by simp only[dm]
theorem dq (ha:ev C a σ = .ok (x,mx)):ev C (.bi1 f a) σ=b1V f x:=by simp only[jV,ha,Out.ok_bind]
theorem lS (h:σ z=some p) (hr:mk p.1=r):ev C (.name z) σ = .ok r:=by simp only[dH,h,hr]
theorem aJ (h:ev C a σ = .ok r) (hq:itV r = .ok q):bh C (.e a) σ = .ok q:=by simp only[g7,h,Out.ok_bind,hq]
theorem bH {n:Nat}{m:Mode}(h:ev C a σ = .ok (.d (.int n),m)) (hn:n<=1000000):bh C (.r1 a) σ = .ok ((aS n).map .int,.deep):=by
 simp only[fH,h,Out.ok_bind]; exact vm hn
theorem mM {elt:E}(h:bh C it σ = .ok q) (hr:bp (λy=>(ev C elt (upd σ z (mk (.d y)))).bind λr=>.ok (some r)) q.1 = .ok r):ev C (.comp elt z it) σ = .ok (.d (.list r.1),if r.2 then .deep else .top):=by
 simp only[il,h,Out.ok_bind,hr,Out.calm_ok]
theorem jd {elt c:E}(h:bh C it σ = .ok q) (hr:bp (λy=>(ev C c (upd σ z (mk (.d y)))).bind λt=>(ar t.1).bind λb=>if b then (ev C elt (upd σ z (mk (.d y)))).bind λr=>.ok (some r) else .ok none) q.1 = .ok r):ev C (.compif elt z it c) σ = .ok (.d (.list r.1),if r.2 then .deep else .top):=by
 simp only[fw,h,Out.ok_bind,hr,Out.calm_ok]
theorem dl {c:E}{z:String}{it:It}{ns:List Int}{m:Mode}(p:Int->Bool) (h:bh C it σ = .ok (ns.map .int,m)) (hc:∀ i∈ns,ev C c (upd σ z (sI i)) = .ok (sB (p i))):ev C (.compif (.name z) z it c) σ = .ok (.d (aa (ns.filter p)),.deep):=by
 rw[jd h (r:=((ns.filter p).map .int,true))]
 ·rfl
 ·have:=lD (F:=λy=>(ev C c (upd σ z (mk (.d y)))).bind λt=>(ar t.1).bind λb=>if b then (ev C (.name z) (upd σ z (mk (.d y)))).bind λr=>.ok (some r) else .ok none) (f:=λi=>i) (p:=p) (ns:=ns) λi g=>by
   rw[BC,hc i g]
   cases p i<;>simp[dH]
  simpa using this
theorem tZ (hz:σ z=some (.d (aa xs),m)) (hm:m≠.sh) (h:ev C a σ = .ok (sI i)) (hl:xs.length<1000000):ex C (.append z a) σ = .ok (upd σ z (.d (aa (xs++[i])),m),.next):=by
 simp only[fu,h,Out.calm_ok,Out.ok_bind,hz,n7,if_neg hm,xT,Cg]
 rw[ju (by rw[length_append,length_map]; exact hl),kn]
theorem vO (h0:0<=i) (h:t[i.toNat]? = some r):fj (ag t) (.int i) = .ok (.d (aa r),.sh):=by
 have g:i.toNat<t.length:=(List.getElem?_eq_some_iff.mp h).1
 exact jj (cw h0 (by rw[length_map]; exact jF g)) (by rw[List.getElem?_map,h]; rfl)
end
def Val (σ:St) (x:String) (v:V):Prop:=∃ m,σ x=some (v,m)
def Has (σ:St) (l:List (String×V)):Prop:=∀ x v,l.lookup x=some v->Val σ x v
def Sub (l:List (String×V)):List (String×V)->Prop
 | []=>True
 | p::r=>l.lookup p.1=some p.2/\Sub l r
theorem oM (σ:St) (x:String) (r:V×Mode):upd σ x r x=some r:=if_pos rfl
theorem nG (x:String) (v:β) (l:List (String×β)):List.lookup x ((x,v)::l)=some v:=by
 rw[lookup_cons,beq_self_eq_true]
theorem nJ (h:x≠y) (v:β) (l:List (String×β)):List.lookup x ((y,v)::l)=l.lookup x:=by
 rw[lookup_cons,beq_eq_false_iff_ne.mpr h]
section
variable {C:Calls}{σ:St}{l l':List (String×V)}
theorem Has.nil:Has σ []:=λuu uu h=>by exact nN h
theorem Has.ev (H:Has σ l) (h:l.lookup x=some v):ev C (.name x) σ = .ok (mk v):=by
 refine ak (H x v h) λm e=>?_
 exact lS e rfl
theorem Has.upd (H:Has σ l) (x:String) (v:V) (m:Mode):Has (Internal.upd σ x (v,m)) ((x,v)::l):=by
 intro y u h
 by_cases e:y=x
 ·subst e
  rw[nG] at h
  injection h
  exact ⟨m,if_pos rfl⟩
 ·rw[nJ e] at h
  refine ak (H y u h) λi q=>?_
  exact ⟨i,(if_neg e).trans q⟩
theorem Has.demote (H:Has σ l) (ns:List String):Has (Internal.demote σ ns) l:=by
 intro x v h
 refine ak (H x v h) λm q=>?_
 by_cases e:x∈ns
 ·exact ⟨(mk v).2,(if_pos e).trans (by rw[q]; rfl)⟩
 ·exact ⟨m,(if_neg e).trans q⟩
theorem Has.consume (H:Has σ l) (ns:List String) (m:Mode):Has (Internal.consume σ ns m) l:=by
 unfold Internal.consume
 by_cases e:m = .deep
 ·rw[if_pos e]; exact H
 ·rw[if_neg e]; exact H.demote ns
theorem Has.sub (H:Has σ l) (h:Sub l l'):Has σ l':=by
 induction l' with
 | nil=>exact .nil
 | cons p r ih=>
  intro x v g
  by_cases e:x=p.1
  ·subst e
   rw[nG] at g
   injection g
   exact H _ _ h.1
  ·rw[nJ e] at g
   exact ih h.2 x v g
noncomputable def Runs (C:Calls) (b:Ss) (σ:St) (Post:St->Flw->Prop):Prop:=∃ σ' fl,exs C b σ = .ok (σ',fl)/\Post σ' fl
noncomputable def Cont (C:Calls) (b:Ss) (Post:St->Flw->Prop) (σ:St):Flw->Prop
 | .next=>Runs C b σ Post
 | .ret v=>Post σ (.ret v)
variable {b u v:Ss}{s:S}{e c:E}{Post Post':St->Flw->Prop}{r:V×Mode}{x:String}
theorem Cont.ret (h:Post σ (.ret r)):Cont C b Post σ (.ret r):=h
theorem Runs.mono (h:Runs C b σ Post) (k:∀ σ' fl,Post σ' fl->Post' σ' fl):Runs C b σ Post':=av (h) λa f i g=>(aC a f i (k a f g))
theorem Runs.nil (h:Post σ .next):Runs C .nil σ Post:=(aC σ .next g6 h)
theorem Runs.cons (he:ex C s σ = .ok o) (k:Cont C b Post o.1 o.2):Runs C (.cons s b) σ Post:=by
 obtain ⟨g,j⟩:=o
 cases j with
 | next=>
  refine av (k) λa f i h=>?_
  clear k
  exact (aC a f (by rw[io he]; exact i) h)
 | ret v=>exact (aC g (.ret v) (Bq he) k)
theorem Runs.set (H:Has σ l) (he:Internal.ev C e σ = .ok r) (k:∀ σ',Has σ' ((x,r.1)::l)->σ' x=some r->Runs C b σ' Post):Runs C (.cons (.assign x e) b) σ Post :=
 Runs.cons (o:=(Internal.upd (Internal.consume σ (fv e) r.2) x r,.next)) (by simp only[a7,gS he,Out.ok_bind]) (k _ ((H.consume _ _).upd x r.1 r.2) (if_pos rfl))
theorem Runs.expr (H:Has σ l) (he:Internal.ev C e σ = .ok r) (k:∀ σ',Has σ' l->(∀ y,y∉fv e->σ' y=σ y)->Runs C b σ' Post):Runs C (.cons (.expr e) b) σ Post :=
 Runs.cons (o:=(Internal.consume σ (fv e) r.2,.next)) (by simp only[c8,he,Out.ok_bind]) (k _ (H.consume _ _) λy g=>by
  unfold Internal.consume
  by_cases q:r.2 = .deep
  ·rw[if_pos q]
  ·rw[if_neg q]; exact if_neg g)
theorem Runs.ret (he:Internal.ev C e σ = .ok r) (k:Post σ (.ret r)):Runs C (.cons (.ret e) b) σ Post:=Runs.cons (o:=(σ,.ret r)) (BI he) k
theorem Runs.retn (he:σ x=some r) (k:Post σ (.ret r)):Runs C (.cons (.retn x) b) σ Post:=Runs.cons (o:=(σ,.ret r)) (by simp only[kQ,he]) k
theorem Runs.no (he:Internal.ev C c σ = .ok (sB false)) (k:Runs C b σ Post):Runs C (.cons (.ite c u .nil) b) σ Post:=Runs.cons (o:=(σ,.next)) ((mt he).trans g6) k
theorem Runs.ite (he:Internal.ev C c σ = .ok (sB t)) (kt:t=true->Runs C u σ (Cont C b Post)) (kf:t=false->Runs C v σ (Cont C b Post)):Runs C (.cons (.ite c u v) b) σ Post:=by
 cases t with
 | true=>
  refine av (kt rfl) λa f h g=>?_
  exact Runs.cons (o:=(a,f)) ((rq he).trans h) g
 | false=>
  refine av (kf rfl) λa f h g=>?_
  exact Runs.cons (o:=(a,f)) ((mt he).trans h) g
theorem Runs.next (he:ex C s σ = .ok (σ',.next)) (k:Runs C b σ' Post):Runs C (.cons s b) σ Post:=Runs.cons (o:=(σ',.next)) he k
theorem Runs.iteTo (Inv:St->Prop) (he:Internal.ev C c σ = .ok (sB t)) (kt:t=true->Runs C u σ (λσ' fl=>fl = .next/\Inv σ')) (kf:t=false->Runs C v σ (λσ' fl=>fl = .next/\Inv σ')) (k:∀ σ',Inv σ'->Runs C b σ' Post):Runs C (.cons (.ite c u v) b) σ Post :=
 Runs.ite he (λq=>(kt q).mono λσ' fl h=>by obtain ⟨rfl,h⟩:=h; exact k σ' h) λq=>(kf q).mono λσ' fl h=>by obtain ⟨rfl,h⟩:=h; exact k σ' h
theorem gD:(∀ l,Has σ l->Has (Internal.consume σ ns m) l)/\∀ y,y∉ns->Internal.consume σ ns m y=σ y:=⟨λuu H=>H.consume ns m,λy g=>by
 unfold Internal.consume
 by_cases q:m = .deep
 ·rw[if_pos q]
 ·rw[if_neg q]; exact if_neg g⟩
theorem nY (Inv:List α->St->Prop)
  (hs:∀ pre y post,xs=pre++y::post->∀ σ,Inv pre σ->Runs C body (Internal.upd σ z (mk (.d (g y)))) (λσ' fl=>match fl with | .next=>Inv (pre++[y]) σ' | .ret v=>Post σ' (.ret v))) :
  ∀ (post pre:List α) (σ:St),xs=pre++post->Inv pre σ->∃ o,c6 (λy σ=>exs C body (Internal.upd σ z (mk (.d y)))) (post.map g) σ = .ok o/\match o.2 with | .next=>Inv xs o.1 | .ret v=>Post o.1 (.ret v)
 | [],pre,σ,hl,h=>(ah (σ,.next) rfl (by rw[hl,append_nil]; exact h))
 | y::post,pre,σ,hl,h=>by
  refine av (hs pre y post hl σ h) λa f j i=>?_
  cases f with
  | ret v=>exact (ah (a,.ret v) (by rw[map_cons,c6,j]; rfl) i)
  | next=>
   obtain ⟨o,l,k⟩:=nY Inv hs post (pre++[y]) a (by rw[hl,append_assoc]; rfl) i
   exact (ah o (by rw[map_cons,c6,j]; exact l) k)
theorem Runs.for (Inv:List α->St->Prop) (hit:bh C it σ = .ok (xs.map g,m)) (h0:∀ σ0,(∀ l,Has σ l->Has σ0 l)->(∀ y,y∉bZ it->σ0 y=σ y)->Inv [] σ0)
  (hs:∀ pre y post,xs=pre++y::post->∀ σ,Inv pre σ->Runs C body (Internal.upd σ z (mk (.d (g y)))) (λσ' fl=>match fl with | .next=>Inv (pre++[y]) σ' | .ret v=>Post σ' (.ret v)))
  (k:∀ σ',Inv xs σ'->Runs C b σ' Post):Runs C (.cons (.for1 z it body) b) σ Post:=by
 refine af (nY Inv hs xs [] (Internal.consume σ (bZ it) m) rfl (h0 _ gD.1 gD.2)) λo i h=>?_
 refine Runs.cons (o:=o) (by simp only[im,hit,Out.ok_bind]; exact i) ?_
 obtain ⟨a,f⟩:=o
 cases f with
 | next=>exact k a h
 | ret v=>exact h
noncomputable def Sk (o:Option β) (Inv:St->Prop) (rv:β->V×Mode) (σ:St) (fl:Flw):Prop:=match o with
 | none=>fl = .next/\Inv σ
 | some q=>fl = .ret (rv q)
theorem Sk.next {β:Type}{o:Option β}{Inv:St->Prop}{rv:β->V×Mode}(h:o=none) (hI:Inv σ):Sk o Inv rv σ .next:=by subst h; exact ⟨rfl,hI⟩
theorem Sk.ret {β:Type}{o:Option β}{q:β}{Inv:St->Prop}{rv:β->V×Mode}(h:o=some q):Sk o Inv rv σ (.ret (rv q)):=by subst h; exact rfl
theorem Runs.seek {α β:Type}{body:Ss}{z:String}{it:It}{g:α->PyData}{xs:List α}{m:Mode}(Inv:St->Prop) (f:α->Option β) (rv:β->V×Mode) (hit:bh C it σ = .ok (xs.map g,m)) (h0:∀ σ0,(∀ l,Has σ l->Has σ0 l)->(∀ y,y∉bZ it->σ0 y=σ y)->Inv σ0)
  (hs:∀ y∈xs,∀ σ,Inv σ->Runs C body (Internal.upd σ z (mk (.d (g y)))) (Sk (f y) Inv rv))
  (k:xs.findSome? f=none->∀ σ',Inv σ'->Runs C b σ' Post) (kr:∀ q,xs.findSome? f=some q->∀ σ',Post σ' (.ret (rv q))):Runs C (.cons (.for1 z it body) b) σ Post:=by
 refine Runs.for (λj σ=>Inv σ/\j.findSome? f=none) hit (λσ0 n u=>⟨h0 σ0 n u,rfl⟩) (λj y r t o n=>?_) λσ' h=>k h.2 σ' h.1
 refine (hs y (by rw[t]; exact mem_append_right _ (.head _)) o n.1).mono λσ' v h=>?_
 cases hf:f y with
 | none=>
  rw[hf] at h
  revert h; intro i
  refine ae (i) λp h=>?_
  clear i
  subst p
  exact ⟨h,by rw[List.findSome?_append,n.2,List.findSome?_cons,hf]; rfl⟩
 | some q=>
  rw[hf] at h
  subst h
  exact kr q (by rw[t,List.findSome?_append,n.2,List.findSome?_cons,hf]; rfl) σ'
theorem dj:∀ (ps:List String) (vs:List V),ps.length=vs.length->∃ σ,bF ps vs=some σ/\Has σ (ps.zip vs)
 | [],[],_=>(ah _ rfl .nil)
 | [],v::vs,h=>by cases h
 | p::ps,[],h=>by cases h
 | p::ps,v::vs,h=>by
  refine af (dj ps vs (Nat.succ.inj h)) λσ i g=>?_
  exact (ah _ (by rw[bF,i]; rfl) (g.upd p (mk v).1 (mk v).2))
theorem dg {ps:List String}{vs:List V}{P:V×Mode->Prop}(hl:ps.length=vs.length) (h:∀ σ,Has σ (ps.zip vs)->Runs C b σ (λuu fl=>∃ r,fl = .ret r/\P r)):∃ r,ax C ⟨ps,b⟩ vs = .ok r/\P r:=by
 refine af (dj ps vs hl) λσ l k=>?_
 obtain ⟨a,f,j,r,g,i⟩:=h σ k
 subst g
 exact (ah r (by unfold ax; dsimp only; rw[l]; dsimp only; rw[j]; rfl) i)
theorem bU {ps:List String}(hl:ps.length=vs.length) (h:∀ σ,Has σ (ps.zip vs)->Runs C b σ (λuu fl=>fl = .ret r)):ax C ⟨ps,b⟩ vs = .ok r:=by
 refine af (dg (P:=λq=>q=r) hl λσ H=>(h σ H).mono λuu uu e=>(ah r e rfl)) λq i g=>?_
 (clear h; subst g)
 exact i
noncomputable def hH (f:String):Bool:=!decide (f = "Rule") && !decide (f∈methNames)
theorem mE (h:hH f=true) (fn:Fn) (vs:List V):cW f C fn vs=ax C fn vs:=by
 unfold hH at h
 simp only[and_eq_true,Bool.not_eq_true',decide_eq_false_iff_not] at h
 unfold cW
 rw[if_neg h.1,if_neg h.2]
theorem ch (hL:L.lookup f=some fn) (he:evs (mkC L (n+1)) es σ = .ok q) (hv:q.map (·.1)=vs) (h:ax (mkC L n) fn vs = .ok r) (hp:hH f=true:=by decide):Internal.ev (mkC L (n+1)) (.call f es) σ = .ok r:=by
 have g:mkC L (n+1) f=some λvs=>cW f (mkC L n) fn vs:=by show (L.lookup f).map _=_; rw[hL]; rfl
 rw[jE g he,hv,mE hp,h]
end
section
theorem am (i:Int):ev C (.int i) σ = .ok (sI i):=by simp only[eh]
theorem e9 (i:Bool):ev C (.bool i) σ = .ok (sB i):=by simp only[pO]
theorem jb:ev C .none σ = .ok (.d .none,.deep):=by simp only[pz]
theorem uW:ev C .edic σ = .ok (.dic0,.deep):=by simp only[pT]
theorem lJ:ev C (.list .nil) σ = .ok (.d (aa []),.deep):=by simp only[cE,bq]; rfl
theorem eT (h:ev C a σ = .ok (sI x)):ev C (.list (.cons a .nil)) σ = .ok (.d (aa [x]),.deep):=by simp only[cE,bq,bl,h,Out.ok_bind]; rfl
theorem G2 (h:ev C a σ = .ok (sI x)) (h':ev C b σ = .ok (sI y)):ev C (.list (.cons a (.cons b .nil))) σ = .ok (.d (aa [x,y]),.deep):=by simp only[cE,bq,bl,h,h',Out.ok_bind]; rfl
theorem cH (ha:ev C a σ = .ok (sI x)) (hb:ev C b σ = .ok (sI y)):ev C (.bin .add a b) σ = .ok (sI (x+y)):=(d7 ha hb).trans rfl
theorem Dd (ha:ev C a σ = .ok (sI x)) (hb:ev C b σ = .ok (sI y)):ev C (.bin .xor a b) σ = .ok (sI (Builtin.bitXor x y)):=(d7 ha hb).trans rfl
theorem lH (ha:ev C a σ = .ok (sI x)) (hb:ev C b σ = .ok (sI y)) (h:x.natAbs<2^63):ev C (.bin .mul a b) σ = .ok (sI (x*y)):=(d7 ha hb).trans (tQ x y h)
theorem aW (ha:ev C a σ = .ok (sI x)) (hb:ev C b σ = .ok (sI y)) (h:0<y):ev C (.bin .mod a b) σ = .ok (sI (x%y)):=(d7 ha hb).trans (Bh x y h)
theorem cL (ha:ev C a σ = .ok (sI x)) (hb:ev C b σ = .ok (sI y)) (h:0<y) (h':y<1000000000):ev C (.bin .fdiv a b) σ = .ok (sI (x/y)):=(d7 ha hb).trans (As x y h h')
theorem pP (ha:ev C a σ = .ok (sI x)) (hb:ev C b σ = .ok (sI y)):ev C (.cmp .lt a b) σ = .ok (sB (decide (x<y))):=br ha hb rfl
theorem wI (ha:ev C a σ = .ok (sI x)) (hb:ev C b σ = .ok (sI y)):ev C (.cmp .gt a b) σ = .ok (sB (decide (y<x))):=br ha hb rfl
theorem BV (ha:ev C a σ = .ok (sI x)) (hb:ev C b σ = .ok (sI y)):ev C (.cmp .ge a b) σ = .ok (sB (decide (y<=x))):=br ha hb rfl
theorem d0 (ha:ev C a σ = .ok (sI x)) (hb:ev C b σ = .ok (sI y)):ev C (.cmp .eq a b) σ = .ok (sB (decide (x=y))):=br ha hb (Bv x y)
theorem dJ (ha:ev C a σ = .ok (sI x)) (hb:ev C b σ = .ok (sI y)):ev C (.cmp .ne a b) σ = .ok (sB (!decide (x=y))):=br ha hb (Ce x y)
theorem oA (ha:ev C a σ = .ok (.d (aa xs),m)) (hb:ev C b σ = .ok (.d (aa ys),m')):ev C (.cmp .ne a b) σ = .ok (sB (!decide (xs=ys))):=br ha hb (A1 xs ys)
theorem EH (ha:ev C a σ = .ok (.d (aa xs),m)) (hb:ev C b σ = .ok (.d (aa ys),m')):ev C (.cmp .eq a b) σ = .ok (sB (decide (xs=ys))):=br ha hb (Ai xs ys)
theorem IC (ha:ev C a σ = .ok (.d (ag t),m)) (hb:ev C b σ = .ok (.d (ag u),m')):ev C (.cmp .ne a b) σ = .ok (sB (!decide (t=u))):=br ha hb (Ac t u)
theorem sO (ha:ev C a σ = .ok (sI x)) (hb:ev C b σ = .ok (.d (aa xs),m)):ev C (.cmp .isin a b) σ = .ok (sB (decide (x∈xs))):=br ha hb (Cm x xs)
theorem jP (ha:ev C a σ = .ok (sI x)) (hb:ev C b σ = .ok (.d (aa xs),m)):ev C (.cmp .notin a b) σ = .ok (sB (!decide (x∈xs))):=br ha hb (AK x xs)
theorem sV (ha:ev C a σ = .ok (.d (aa xs),m)) (hb:ev C b σ = .ok (.d (ag t),m')):ev C (.cmp .isin a b) σ = .ok (sB (decide (xs∈t))):=br ha hb (Az xs t)
theorem dE (ha:ev C a σ = .ok (.d (aa xs),m)) (hb:ev C b σ = .ok (.d (aa ys),m')) (h:xs.length+ys.length<=1000000):ev C (.bin .add a b) σ = .ok (.d (aa (xs++ys)),.deep):=(d7 ha hb).trans (wJ xs ys h)
theorem wC (t u:List (List Int)) (h:t.length+u.length<=1000000):∃ m,dC .add (ag t) (ag u) = .ok (.d (ag (t++u)),m):=by
 refine ⟨fresh ((t++u).map aa),?_⟩
 show (if (t.map aa).length+(u.map aa).length<=lim then Out.ok (V.d (.list (t.map aa++u.map aa)),fresh (t.map aa++u.map aa)) else .bad)=_
 rw[length_map,length_map,if_pos (show _<=lim from h),<- map_append]; rfl
theorem lP (ha:ev C a σ = .ok (.d (ag t),m)) (hb:ev C b σ = .ok (.d (ag u),m')) (h:t.length+u.length<=1000000):∃ m,ev C (.bin .add a b) σ = .ok (.d (ag (t++u)),m):=by
 refine ak (wC t u h) λm q=>?_
 exact ⟨m,(d7 ha hb).trans q⟩
theorem cY (ha:ev C a σ = .ok (.d (aa xs),m)):ev C (.bi1 .len a) σ = .ok (sI xs.length):=(dq ha).trans (BU xs)
theorem hU (ha:ev C a σ = .ok (.d (ag t),m)):ev C (.bi1 .len a) σ = .ok (sI t.length):=(dq ha).trans (z9 t)
theorem je (ha:ev C a σ = .ok (.d (aa xs),m)):ev C (.bi1 .list a) σ = .ok (.d (aa xs),.deep):=(dq ha).trans (Aw xs)
theorem rA (ha:ev C a σ = .ok (.d (aa xs),m)):ev C (.bi1 .tuple a) σ = .ok (.d (aR xs),.deep):=(dq ha).trans (xM xs)
theorem xP (ha:ev C a σ = .ok (.d (aa xs),m)) (h:xs.length<64):ev C (.bi1 .sorted a) σ = .ok (.d (aa (aD xs)),.deep):=(dq ha).trans (mX xs h)
theorem xS (h:r.Pairwise (· < ·)):aD r=r:=kP (.refl _) (h.imp λh=>Int.le_of_lt h)
theorem fb (ha:ev C a σ = .ok (.d (aa xs),m)) (h:xs.length<128) (h0:∀ i∈xs,0<=i):ev C (.bi1 .sorted a) σ = .ok (.d (aa (aD xs)),.deep):=(dq ha).trans (k8 xs h h0)
theorem s5 (ha:ev C a σ = .ok (.d (aa xs),m)) (h:xs.length<128) (h0:∀ i∈xs,0<=i) (hu:xs.Pairwise (· < ·)):ev C (.bi1 .sorted a) σ = .ok (.d (aa xs),.deep):=(dq ha).trans (qy xs h h0 (xS hu))
theorem eQ (ha:ev C a σ = .ok (.d (aa xs),m)) (hb:ev C b σ = .ok (sI i)) (h0:0<=i) (h:xs[i.toNat]? = some x):ev C (.sub a b) σ = .ok (sI x):=(jz ha hb).trans (uD h0 h)
theorem oS (ha:ev C a σ = .ok (.d (ag t),m)) (hb:ev C b σ = .ok (sI i)) (h0:0<=i) (h:t[i.toNat]? = some xs):ev C (.sub a b) σ = .ok (.d (aa xs),.sh):=(jz ha hb).trans (vO h0 h)
theorem f9 (ha:ev C a σ = .ok (sB p)) (hb:p=true->ev C b σ = .ok (sB q)):ev C (.and a b) σ = .ok (sB (p&&q)):=by
 cases p with
 | true=>exact xn ha (hb rfl)
 | false=>exact wK ha
theorem cR (ha:ev C a σ = .ok (sB p)) (hb:p=false->ev C b σ = .ok (sB q)):ev C (.or a b) σ = .ok (sB (p||q)):=by
 cases p with
 | true=>exact AA ha
 | false=>exact Bl ha (hb rfl)
theorem AP (ha:ev C a σ = .ok (sI i)) (hb:ev C b σ = .ok (sI j)) (h1:0<=i) (h2:i<=1000) (h3:0<=j) (h4:j<=1000):bh C (.r2 a b) σ = .ok (((List.range (j-i).toNat).map λ(k:Nat)=>i+(k:Int)).map .int,.deep):=by
 simp only[fO,ha,hb,Out.ok_bind]
 show cu i j=_
 unfold cu
 rw[if_pos (cy (by unfold lim; exact Gh h1 h4) (yV h1) (yt h2) (yV h3) (yt h4)),lY]
theorem cQ {α:Type}{g:α->PyData}{l:List α}{z:String}{it:It}{q:Mode}(f:α->List Int) (mm:Mode) (h:bh C it σ = .ok (l.map g,q)) (hc:∀ i∈l,ev C a (upd σ z (mk (.d (g i)))) = .ok (.d (aa (f i)),mm)) :
  ∃ m,ev C (.comp a z it) σ = .ok (.d (ag (l.map f)),m)/\(mm = .deep->m = .deep)/\m≠.sh:=by
 obtain ⟨b,j,o⟩:=iR (F:=λy=>(ev C a (upd σ z (mk (.d y)))).bind λr=>.ok (some r)) (e:=g) (f:=f) (p:=λuu=>true) (m:=λuu=>mm) (l:=l) λi n=>by rw[hc i n]; rfl
 rw[List.filter_eq_self.mpr (λuu uu=>rfl)] at j
 exact (aF (if b then .deep else .top) (mM h j) (λk=>by rw[o λuu uu=>k]; rfl) (by cases b<;>simp))
theorem jx {α:Type}{g:α->PyData}{l:List α}{z:String}{it:It}{r:Mode}(f:α->List Int) (p:α->Bool) (mm:Mode) (h:bh C it σ = .ok (l.map g,r)) (hp:∀ i∈l,ev C c (upd σ z (mk (.d (g i)))) = .ok (sB (p i)))
  (hc:∀ i∈l,p i=true->ev C a (upd σ z (mk (.d (g i)))) = .ok (.d (aa (f i)),mm)):∃ m,ev C (.compif a z it c) σ = .ok (.d (ag ((l.filter p).map f)),m)/\(mm = .deep->m = .deep)/\m≠.sh:=by
 obtain ⟨b,o,n⟩:=iR (F:=λy=>(ev C c (upd σ z (mk (.d y)))).bind λt=>(ar t.1).bind λb=>if b then (ev C a (upd σ z (mk (.d y)))).bind λr=>.ok (some r) else .ok none) (e:=g) (f:=f) (p:=p) (m:=λuu=>mm) (l:=l) λi j=>by
  rw[hp i j]
  cases hq:p i with
  | true=>simp only[Out.ok_bind,fQ,bt,if_true,hc i j hq]
  | false=>simp only[Out.ok_bind,fQ,bt,false_eq_true,if_false]
 exact (aF (if b then .deep else .top) (jd h o) (λk=>by rw[n λuu uu=>k]; rfl) (by cases b<;>simp))
theorem j7 {α:Type}{g:α->PyData}{l:List α}{z:String}{it:It}{q:Mode}(f:α->Int) (h:bh C it σ = .ok (l.map g,q)) (hc:∀ i∈l,ev C a (upd σ z (mk (.d (g i)))) = .ok (sI (f i))):ev C (.comp a z it) σ = .ok (.d (aa (l.map f)),.deep):=by
 rw[mM h (r:=((l.map f).map .int,true))]
 ·rfl
 ·exact qq (F:=λy=>(ev C a (upd σ z (mk (.d y)))).bind λr=>.ok (some r)) (e:=g) λi j=>by rw[hc i j]; rfl
theorem vC (h:xs≠[]):∃ i,jo xs=some i/\i∈xs:=by
 cases xs with
 | nil=>exact absurd rfl h
 | cons x xs=>
  refine (ah _ rfl ?_)
  have g:∀ (l:List Int) (a:Int),l.foldl (λa b=>if a<b then b else a) a=a\/l.foldl (λa b=>if a<b then b else a) a∈l:=by
   intro l
   induction l with
   | nil=>exact λa=>.inl rfl
   | cons y l ih=>
    intro a
    rw[List.foldl_cons]
    by_cases q:a<y
    ·rw[if_pos q]
     rcases ih y with e | e
     ·exact .inr (by rw[e]; exact .head _)
     ·exact .inr (.tail _ e)
    ·rw[if_neg q]
     exact (ih a).imp id λe=>.tail _ e
  rcases g xs x with e | e
  ·rw[e]; exact .head _
  ·exact .tail _ e
theorem Hs (ha:ev C a σ = .ok (.d (aa xs),m)) (h:xs≠[]):∃ i,ev C (.bi1 .max a) σ = .ok (sI i)/\i∈xs:=by
 refine af (vC h) λi j g=>?_
 refine (ah i ((dq ha).trans ?_) g)
 show (au ((aY (xs.map PyData.int)).bind jo) λi=>Out.ok (sI i))=_
 rw[d6,bind_some,j]; rfl
theorem pK:ev C (.list (.cons (.list .nil) .nil)) σ = .ok (.d (ag [[]]),.deep):=by simp only[cE,bq,bl]; rfl
theorem jY:ev C (.list .nil) σ = .ok (.d (ag []),.deep):=by simp only[cE,bq]; rfl
theorem ke {α:Type}{l:List α}{Q:α->Bool->Prop}(h:∀ i∈l,∃ b,Q i b):∃ p:α->Bool,∀ i∈l,Q i (p i):=by
 classical
 exact ⟨λi=>if g:i∈l then (h i g).choose else false,λi g=>by dsimp only; rw[dif_pos g]; exact (h i g).choose_spec⟩
theorem Has.mk (H:Has σ l) (z:String) (v:V):Has (Internal.upd σ z (Internal.mk v)) ((z,v)::l):=H.upd z v (Internal.mk v).2
theorem Runs.app (H:Has σ l) (hz:σ z=some (.d (aa xs),m)) (hm:m≠.sh) (h:ev C a σ = .ok (sI x)) (hl:xs.length<1000000) (k:∀ σ',Has σ' ((z,.d (aa (xs++[x])))::l)->σ' z=some (.d (aa (xs++[x])),m)->(∀ y,y≠z->σ' y=σ y)->Runs C bb σ' Post):Runs C (.cons (.append z a) bb) σ Post :=
 Runs.cons (o:=(upd σ z (.d (aa (xs++[x])),m),.next)) (tZ hz hm h hl) (k _ (H.upd z _ m) (if_pos rfl) λy g=>if_neg g)
theorem Runs.appR (H:Has σ l) (hz:σ z=some (.d (ag t),m)) (hm:m≠.sh) (h:ev C a σ = .ok (.d (aa xs),.deep)) (hl:t.length<1000000) (k:∀ σ',Has σ' ((z,.d (ag (t++[xs])))::l)->σ' z=some (.d (ag (t++[xs])),m)->(∀ y,y≠z->σ' y=σ y)->Runs C bb σ' Post):Runs C (.cons (.append z a) bb) σ Post:=by
 refine Runs.cons (o:=(upd σ z (.d (ag (t++[xs])),m),.next)) ?_ (k _ (H.upd z _ m) (if_pos rfl) λy g=>if_neg g)
 simp only[fu,h,Out.calm_ok,Out.ok_bind,hz,mV,if_neg hm]
 rw[ju (by rw[length_append,length_map]; exact hl)]
 unfold ag; rw[map_append]; rfl
theorem nl (f:α->β):∀ (l:List α) (i:Nat),(l.map f).eraseIdx i=(l.eraseIdx i).map f
 | [],_=>rfl
 | _::_,0=>rfl
 | a::l,i+1=>congrArg (f a :: ·) (nl f l i)
theorem Runs.popR (H:Has σ l) (hz:σ z=some (.d (ag t),m)) (hm:m≠.sh) (h:ev C a σ = .ok (sI x)) (h0:0<=x) (h1:x<t.length) (k:∀ σ',Has σ' ((z,.d (ag (t.eraseIdx x.toNat)))::l)->σ' z=some (.d (ag (t.eraseIdx x.toNat)),.top)->Runs C bb σ' Post):Runs C (.cons (.pop z a) bb) σ Post:=by
 refine Runs.cons (o:=(upd σ z (.d (ag (t.eraseIdx x.toNat)),.top),.next)) ?_ (k _ (H.upd z _ .top) (if_pos rfl))
 simp only[l6,h,Out.calm_ok,Out.ok_bind,hz,mV,xT]
 rw[if_neg (by rw[length_map]; exact λq=>q.elim hm λq=>by exact FV h0 h1 q)]
 unfold ag; rw[nl]
theorem gq {r:PyData}{q:List PyData}(h:ev C a σ = .ok (.d (.tuple (r::q)),m)) (hb:ev C b σ = .ok (sI 0)):ev C (.sub a b) σ = .ok (mk (.d r)):=by
 rw[jz h hb]
 show (au ((bj 0 (r::q).length).bind λk=>(r::q)[k]?) λz=>Out.ok (mk (.d z)))=_
 rw[cw (by decide) (by rw[length_cons]; exact GZ)]; rfl
theorem f8 {r r':PyData}{q:List PyData}(h:ev C a σ = .ok (.d (.tuple (r::r'::q)),m)) (hb:ev C b σ = .ok (sI 1)):ev C (.sub a b) σ = .ok (mk (.d r')):=by
 rw[jz h hb]
 show (au ((bj 1 (r::r'::q).length).bind λk=>(r::r'::q)[k]?) λz=>Out.ok (mk (.d z)))=_
 rw[cw (by decide) (by rw[length_cons,length_cons]; exact C7)]; rfl
theorem B0 (ha:ev C a σ = .ok (sI x)) (hb:ev C b σ = .ok (.d (ag t),m)):∃ m,ev C (.tup (.cons a (.cons b .nil))) σ = .ok (.d (.tuple [.int x,ag t]),m):=by
 refine ⟨if allDeep [sI x,(.d (ag t),m)] then .deep else .sh,?_⟩
 simp only[g8,bq,bl,ha,hb,Out.ok_bind]
 rfl
theorem cO {G:Prop}(ha:ev C a σ = .ok (sI x)) (hb:ev C b σ = .ok (.d (ag t),m)) (k:∀ m,ev C (.tup (.cons a (.cons b .nil))) σ = .ok (.d (.tuple [.int x,ag t]),m)->G):G:=ak (B0 ha hb) k
theorem lV (h:ev C a σ = .ok (v,m)) (hi:gy v ty = .ok p):ev C (.isi a ty) σ = .ok (sB p):=by simp only[mF,h,Out.ok_bind,hi]
theorem ui {x y z:PyData}{m1 m2 m3:Mode}(ha:ev C a σ = .ok (.d x,m1)) (hb:ev C b σ = .ok (.d y,m2)) (hc:ev C c σ = .ok (.d z,m3)):ev C (.tup (.cons a (.cons b (.cons c .nil)))) σ = .ok (.d (.tuple [x,y,z]),if allDeep [(.d x,m1),(.d y,m2),(.d z,m3)] then .deep else .sh):=by
 simp only[g8,bq,bl,ha,hb,hc,Out.ok_bind]; rfl
end
noncomputable def p_exchanged:Fn:=⟨["choice", "out", "thing"],
(.cons (.ret (.bi1 .sorted (.bin .add (.compif (.name "one") "one" (.e (.name "choice")) (.cmp .ne (.name "one") (.name "out"))) (.list (.cons (.name "thing") .nil)))))
.nil)⟩
noncomputable def p_known_of:Fn:=⟨["table"],
(.cons (.assign "known" .edic)
(.cons (.for1 "choice" (.e (.name "table"))
(.cons (.setitem "known" (.bi1 .tuple (.name "choice")))
.nil))
(.cons (.retn "known")
.nil)))⟩
noncomputable def p_goes:Fn:=⟨["known", "one", "other", "thing"],
(.cons (.for1 "out" (.e (.name "one"))
(.cons (.ite (.and (.cmp .notin (.name "out") (.name "other")) (.cmp .isin (.bi1 .tuple (.call "exchanged" (.cons (.name "one") (.cons (.name "out") (.cons (.name "thing") .nil))))) (.name "known")))
(.cons (.ret (.bool true))
.nil)
.nil)
.nil))
(.cons (.ret (.bool false))
.nil))⟩
noncomputable def p_fault:Fn:=⟨["count", "table"],
(.cons (.assign "known" (.call "known_of" (.cons (.name "table") .nil)))
(.cons (.for1 "one" (.e (.name "table"))
(.cons (.for1 "thing" (.r1 (.name "count"))
(.cons (.ite (.cmp .notin (.name "thing") (.name "one"))
(.cons (.for1 "other" (.e (.name "table"))
(.cons (.ite (.and (.cmp .isin (.name "thing") (.name "other")) (.not (.call "goes" (.cons (.name "known") (.cons (.name "one") (.cons (.name "other") (.cons (.name "thing") .nil)))))))
(.cons (.ret (.tup (.cons (.bi1 .list (.name "one")) (.cons (.bi1 .list (.name "other")) (.cons (.name "thing") .nil)))))
.nil)
.nil)
.nil))
.nil)
.nil)
.nil))
.nil))
(.cons (.ret .none)
.nil)))⟩
noncomputable def l_cell_at:Fn:=⟨["_law_script", "_law_k"],
(.cons (.ite (.cmp .lt (.name "_law_k") (.bi1 .len (.name "_law_script")))
(.cons (.ret (.sub (.name "_law_script") (.name "_law_k")))
.nil)
.nil)
(.cons (.ite (.cmp .eq (.name "_law_script") (.list .nil))
(.cons (.ret (.int 0))
.nil)
.nil)
(.cons (.ret (.bin .add (.bin .mul (.sub (.name "_law_script") (.bin .mod (.name "_law_k") (.bi1 .len (.name "_law_script")))) (.int 7)) (.name "_law_k")))
.nil)))⟩
noncomputable def l_whole:Fn:=⟨["_law_found"],
(.cons (.ret (.and (.isi (.name "_law_found") "int") (.not (.isi (.name "_law_found") "bool"))))
.nil)⟩
noncomputable def l_subsets:Fn:=⟨["_law_count"],
(.cons (.assign "_law_rows" (.list (.cons (.list .nil) .nil)))
(.cons (.for1 "_law_thing" (.r1 (.name "_law_count"))
(.cons (.assign "_law_rows" (.bin .add (.name "_law_rows") (.comp (.bin .add (.name "_law_row") (.list (.cons (.name "_law_thing") .nil))) "_law_row" (.e (.name "_law_rows")))))
.nil))
(.cons (.retn "_law_rows")
.nil)))⟩
noncomputable def l_apart:Fn:=⟨["_law_vectors", "_law_row"],
(.cons (.assign "_law_sums" (.list (.cons (.int 0) .nil)))
(.cons (.for1 "_law_thing" (.e (.name "_law_row"))
(.cons (.ite (.cmp .isin (.sub (.name "_law_vectors") (.name "_law_thing")) (.name "_law_sums"))
(.cons (.ret (.bool false))
.nil)
.nil)
(.cons (.assign "_law_sums" (.bin .add (.name "_law_sums") (.comp (.bin .xor (.name "_law_one") (.sub (.name "_law_vectors") (.name "_law_thing"))) "_law_one" (.e (.name "_law_sums")))))
.nil)))
(.cons (.ret (.bool true))
.nil)))⟩
noncomputable def l_parts:Fn:=⟨["_law_script", "_law_kind", "_law_count", "_law_more"],
(.cons (.assign "_law_rows" (.call "_law_subsets" (.cons (.name "_law_count") .nil)))
(.cons (.ite (.cmp .eq (.name "_law_kind") (.int 0))
(.cons (.ret (.tup (.cons (.name "_law_count") (.cons (.comp (.sub (.name "_law_rows") (.bin .mod (.call "_law_cell_at" (.cons (.name "_law_script") (.cons (.bin .add (.int 6) (.name "_law_k")) .nil))) (.bi1 .len (.name "_law_rows")))) "_law_k" (.r1 (.bin .mod (.name "_law_more") (.int 6)))) .nil))))
.nil)
.nil)
(.cons (.ite (.cmp .eq (.bin .mod (.name "_law_more") (.int 9)) (.int 8))
(.cons (.assign "_law_count" (.bin .add (.int 7) (.bin .mod (.bin .fdiv (.name "_law_more") (.int 9)) (.int 3))))
(.cons (.assign "_law_rows" (.list .nil))
(.cons (.for1 "_law_one" (.r1 (.name "_law_count"))
(.cons (.assign "_law_rows" (.bin .add (.name "_law_rows") (.comp (.list (.cons (.name "_law_one") (.cons (.name "_law_thing") .nil))) "_law_thing" (.r2 (.bin .add (.name "_law_one") (.int 1)) (.name "_law_count")))))
.nil))
(.cons (.ret (.tup (.cons (.name "_law_count") (.cons (.name "_law_rows") .nil))))
.nil))))
.nil)
(.cons (.ret (.tup (.cons (.name "_law_count") (.cons (.compif (.name "_law_row") "_law_row" (.e (.name "_law_rows")) (.cmp .eq (.bi1 .len (.name "_law_row")) (.bin .mod (.name "_law_more") (.bin .add (.name "_law_count") (.int 1))))) .nil))))
.nil))))⟩
noncomputable def l_few:Fn:=⟨["_law_script"],
(.cons (.assign "_law_kind" (.bin .mod (.call "_law_cell_at" (.cons (.name "_law_script") (.cons (.int 0) .nil))) (.int 9)))
(.cons (.assign "_law_count" (.sub (.list (.cons (.int 6) (.cons (.int 5) (.cons (.int 4) (.cons (.int 3) (.cons (.int 6) (.cons (.int 1) (.cons (.int 0) .nil)))))))) (.bin .mod (.bin .fdiv (.call "_law_cell_at" (.cons (.name "_law_script") (.cons (.int 0) .nil))) (.int 9)) (.int 7))))
(.cons (.assign "_law_more" (.call "_law_cell_at" (.cons (.name "_law_script") (.cons (.int 1) .nil))))
(.cons (.ite (.cmp .eq (.name "_law_kind") (.int 7))
(.cons (.assign "_law_many" (.bin .add (.int 1) (.bin .mod (.name "_law_more") (.int 4))))
(.cons (.ite (.cmp .gt (.bi1 .len (.name "_law_script")) (.int 63))
(.cons (.assign "_law_many" (.bin .add (.int 1) (.bin .mod (.name "_law_more") (.int 5))))
.nil)
.nil)
(.cons (.ret (.tup (.cons (.bin .mul (.int 2) (.name "_law_many")) (.cons (.call "_law_pairs_by" (.cons (.name "_law_many") .nil)) .nil))))
.nil)))
.nil)
(.cons (.ite (.cmp .lt (.name "_law_kind") (.int 2))
(.cons (.ret (.call "_law_parts" (.cons (.name "_law_script") (.cons (.name "_law_kind") (.cons (.name "_law_count") (.cons (.name "_law_more") .nil))))))
.nil)
.nil)
(.cons (.assign "_law_count" (.sub (.list (.cons (.int 6) (.cons (.int 5) (.cons (.int 4) (.cons (.int 3) (.cons (.int 7) (.cons (.int 7) (.cons (.int 2) .nil)))))))) (.bin .mod (.bin .fdiv (.call "_law_cell_at" (.cons (.name "_law_script") (.cons (.int 0) .nil))) (.int 9)) (.int 7))))
(.cons (.assign "_law_rows" (.list (.cons (.list .nil) .nil)))
(.cons (.for1 "_law_thing" (.r1 (.name "_law_count"))
(.cons (.assign "_law_rows" (.bin .add (.name "_law_rows") (.compif (.bin .add (.name "_law_row") (.list (.cons (.name "_law_thing") .nil))) "_law_row" (.e (.name "_law_rows")) (.cmp .lt (.bi1 .len (.name "_law_row")) (.int 3)))))
.nil))
(.cons (.assign "_law_vectors" (.comp (.bin .mod (.call "_law_cell_at" (.cons (.name "_law_script") (.cons (.bin .add (.int 6) (.name "_law_thing")) .nil))) (.int 8)) "_law_thing" (.r1 (.name "_law_count"))))
(.cons (.assign "_law_good" (.compif (.name "_law_row") "_law_row" (.e (.name "_law_rows")) (.call "_law_apart" (.cons (.name "_law_vectors") (.cons (.name "_law_row") .nil)))))
(.cons (.assign "_law_most" (.bi1 .max (.comp (.bi1 .len (.name "_law_row")) "_law_row" (.e (.name "_law_good")))))
(.cons (.assign "_law_table_here" (.compif (.name "_law_row") "_law_row" (.e (.name "_law_good")) (.cmp .eq (.bi1 .len (.name "_law_row")) (.name "_law_most"))))
(.cons (.ite (.cmp .eq (.name "_law_kind") (.int 3))
(.cons (.pop "_law_table_here" (.bin .mod (.name "_law_more") (.bi1 .len (.name "_law_table_here"))))
.nil)
.nil)
(.cons (.ret (.tup (.cons (.name "_law_count") (.cons (.name "_law_table_here") .nil))))
.nil))))))))))))))⟩
noncomputable def l_pairs_by:Fn:=⟨["_law_many"],
(.cons (.assign "_law_rows" (.list (.cons (.list .nil) .nil)))
(.cons (.for1 "_law_k" (.r1 (.name "_law_many"))
(.cons (.assign "_law_rows" (.bin .add (.comp (.bin .add (.name "_law_row") (.list (.cons (.bin .mul (.int 2) (.name "_law_k")) .nil))) "_law_row" (.e (.name "_law_rows"))) (.comp (.bin .add (.name "_law_row") (.list (.cons (.bin .add (.bin .mul (.int 2) (.name "_law_k")) (.int 1)) .nil))) "_law_row" (.e (.name "_law_rows")))))
.nil))
(.cons (.retn "_law_rows")
.nil)))⟩
noncomputable def l_table:Fn:=⟨["_law_script"],
(.cons (.assign "_law_kind" (.bin .mod (.call "_law_cell_at" (.cons (.name "_law_script") (.cons (.int 0) .nil))) (.int 9)))
(.cons (.assign "_law_more" (.call "_law_cell_at" (.cons (.name "_law_script") (.cons (.int 1) .nil))))
(.cons (.ite (.cmp .eq (.name "_law_kind") (.int 4))
(.cons (.assign "_law_count" (.bin .add (.int 7) (.bin .mod (.name "_law_more") (.int 12))))
(.cons (.assign "_law_step" (.bin .add (.int 1) (.bin .mod (.bin .fdiv (.name "_law_more") (.int 12)) (.int 4))))
(.cons (.ret (.tup (.cons (.name "_law_count") (.cons (.compif (.list (.cons (.name "_law_thing") .nil)) "_law_thing" (.r1 (.name "_law_count")) (.cmp .eq (.bin .mod (.name "_law_thing") (.name "_law_step")) (.int 0))) .nil))))
.nil)))
.nil)
(.cons (.ite (.cmp .eq (.name "_law_kind") (.int 5))
(.cons (.assign "_law_count" (.bin .add (.int 7) (.bin .mod (.name "_law_more") (.int 6))))
(.cons (.ret (.tup (.cons (.name "_law_count") (.cons (.comp (.compif (.name "_law_thing") "_law_thing" (.r1 (.name "_law_count")) (.cmp .ne (.name "_law_thing") (.name "_law_gone"))) "_law_gone" (.r1 (.name "_law_count"))) .nil))))
.nil))
.nil)
(.cons (.assign "_law_made" (.call "_law_few" (.cons (.name "_law_script") .nil)))
(.cons (.assign "_law_far" (.call "_law_cell_at" (.cons (.name "_law_script") (.cons (.int 12) .nil))))
(.cons (.ite (.or (.cmp .ne (.bin .mod (.name "_law_far") (.int 3)) (.int 1)) (.or (.cmp .gt (.bi1 .len (.sub (.name "_law_made") (.int 1))) (.int 8)) (.cmp .gt (.sub (.name "_law_made") (.int 0)) (.int 9))))
(.cons (.retn "_law_made")
.nil)
.nil)
(.cons (.assign "_law_step" (.bin .add (.int 1) (.bin .mod (.bin .fdiv (.name "_law_far") (.int 3)) (.int 9))))
(.cons (.assign "_law_first" (.bin .mod (.bin .fdiv (.name "_law_far") (.int 27)) (.int 9)))
(.cons (.assign "_law_table_here" (.list .nil))
(.cons (.for1 "_law_choice" (.e (.sub (.name "_law_made") (.int 1)))
(.cons (.append "_law_table_here" (.comp (.bin .add (.name "_law_first") (.bin .mul (.name "_law_step") (.name "_law_thing"))) "_law_thing" (.e (.name "_law_choice"))))
.nil))
(.cons (.ret (.tup (.cons (.bin .add (.name "_law_first") (.bin .mul (.name "_law_step") (.sub (.name "_law_made") (.int 0)))) (.cons (.name "_law_table_here") .nil))))
.nil))))))))))))⟩
noncomputable def l_can:Fn:=⟨["_law_table_here", "_law_one", "_law_other", "_law_thing"],
(.cons (.for1 "_law_out" (.e (.name "_law_one"))
(.cons (.assign "_law_made" (.bi1 .sorted (.bin .add (.compif (.name "_law_left") "_law_left" (.e (.name "_law_one")) (.cmp .ne (.name "_law_left") (.name "_law_out"))) (.list (.cons (.name "_law_thing") .nil)))))
(.cons (.ite (.and (.cmp .notin (.name "_law_out") (.name "_law_other")) (.cmp .isin (.name "_law_made") (.name "_law_table_here")))
(.cons (.ret (.bool true))
.nil)
.nil)
.nil)))
(.cons (.ret (.bool false))
.nil))⟩
noncomputable def l_fault:Fn:=⟨["_law_count", "_law_table_here"],
(.cons (.for1 "_law_one" (.e (.name "_law_table_here"))
(.cons (.for1 "_law_thing" (.r1 (.name "_law_count"))
(.cons (.ite (.cmp .notin (.name "_law_thing") (.name "_law_one"))
(.cons (.for1 "_law_other" (.e (.name "_law_table_here"))
(.cons (.ite (.and (.cmp .isin (.name "_law_thing") (.name "_law_other")) (.not (.call "_law_can" (.cons (.name "_law_table_here") (.cons (.name "_law_one") (.cons (.name "_law_other") (.cons (.name "_law_thing") .nil)))))))
(.cons (.ret (.tup (.cons (.name "_law_one") (.cons (.name "_law_other") (.cons (.name "_law_thing") .nil)))))
.nil)
.nil)
.nil))
.nil)
.nil)
.nil))
.nil))
(.cons (.ret .none)
.nil))⟩
structure Lib (L:List (String×Fn)):Prop where
 cell:L.lookup "_law_cell_at" = some l_cell_at
 whole:L.lookup "_law_whole" = some l_whole
 subs:L.lookup "_law_subsets" = some l_subsets
 apart:L.lookup "_law_apart" = some l_apart
 parts:L.lookup "_law_parts" = some l_parts
 few:L.lookup "_law_few" = some l_few
 pairs:L.lookup "_law_pairs_by" = some l_pairs_by
 table:L.lookup "_law_table" = some l_table
 can:L.lookup "_law_can" = some l_can
 lfault:L.lookup "_law_fault" = some l_fault
 exch:L.lookup "exchanged" = some p_exchanged
 known:L.lookup "known_of" = some p_known_of
 goes:L.lookup "goes" = some p_goes
 fault:L.lookup "fault" = some p_fault
noncomputable def bx (s:List Int) (k:Int):Int:=if k<s.length then s[k.toNat]?.getD 0 else if s=[] then 0 else s[(k%s.length).toNat]?.getD 0*7+k
theorem getD_some {s:List Int}{i:Nat}(h:i<s.length):s[i]? = some (s[i]?.getD 0):=by rw[List.getElem?_eq_getElem h]; rfl
theorem oX (C:Calls) (s:List Int) (k:Int) (hk:0<=k):ax C l_cell_at [.d (aa s),.d (.int k)] = .ok (sI (bx s k)):=by
 unfold l_cell_at
 refine bU rfl λm H=>?_
 have i:=pP (C:=C) (H.ev (x:="_law_k") rfl) (cY (H.ev (x:="_law_script") rfl))
 unfold bx
 by_cases h1:k<s.length
 ·rw[if_pos h1]
  refine Runs.ite (i.trans (by rw[decide_eq_true h1])) (λuu=>Runs.ret (eQ (H.ev rfl) (H.ev rfl) hk (getD_some (la1 hk h1))) rfl) λq=>by cases q
 ·rw[if_neg h1]
  refine Runs.no (i.trans (by rw[decide_eq_false h1])) ?_
  have h:=EH (C:=C) (H.ev (x:="_law_script") rfl) lJ
  by_cases h2:s=[]
  ·rw[if_pos h2]
   exact Runs.ite (h.trans (by rw[decide_eq_true h2])) (λuu=>Runs.ret (am 0) rfl) λq=>by cases q
  ·rw[if_neg h2]
   refine Runs.no (h.trans (by rw[decide_eq_false h2])) ?_
   have g:0<s.length:=length_pos_iff.mpr h2
   have l:0<=k%s.length:=emod_nonneg _ (la2 g)
   have j:k%s.length<s.length:=emod_lt_of_pos _ (la3 g)
   refine Runs.ret (cH ((d7 (eQ (H.ev rfl) (aW (H.ev rfl) (cY (H.ev rfl)) (la3 g)) l (getD_some (la4 g j))) (am 7)).trans (uT _ 7 (by decide))) (H.ev rfl)) rfl
theorem lh (C:Calls) (i:Int):ax C l_whole [.d (.int i)] = .ok (sB true):=by
 unfold l_whole
 refine bU rfl λg H=>Runs.ret (f9 (p:=true) (q:=true) ?_ λuu=>?_) rfl
 ·exact lV (H.ev rfl) rfl
 ·exact ca (t:=false) (lV (H.ev rfl) rfl)
def Srt (c:Int) (r:List Int):Prop:=r.Pairwise (· < ·)/\∀ x∈r,0<=x/\x<c
theorem Srt.snoc (h:Srt c r) (h0:0<=c) (hx:c<=x):Srt (x+1) (r++[x]):=by
 refine ⟨pairwise_append.mpr ⟨h.1,List.pairwise_singleton _ _,λa ha b g=>?_⟩,λa ha=>?_⟩
 ·rw[mem_singleton.mp g]; have:=h.2 a ha; exact la5 hx this
 ·rcases mem_append.mp ha with ha | ha
  ·have:=h.2 a ha; exact la6 hx this
  ·rw[mem_singleton.mp ha]; exact la7 h0 hx
theorem Srt.mono (h:Srt c r) (hd:c<=d):Srt d r:=⟨h.1,λx g=>by have:=h.2 x g; exact la8 hd this⟩
theorem Srt.nil (c:Int):Srt c []:=⟨.nil,λuu h=>by cases h⟩
theorem xz (h:aS c=pre++y::post):y=pre.length/\pre.length<c:=by
 have j:=congrArg List.length h
 rw[bI,length_append,length_cons] at j
 have g:(aS c)[pre.length]? = some y:=by rw[h,List.getElem?_append_right (le_refl _),sub_self]; rfl
 have i:pre.length<c:=by exact la9 j
 unfold aS at g
 rw[List.getElem?_map,List.getElem?_range i] at g
 exact ⟨(Option.some.inj g).symm,i⟩
theorem lE {c:Nat}{pre post:List Int}{y:Int}{G:Prop}(h:aS c=pre++y::post) (k:y=pre.length->pre.length<c->G):G:=ae (xz h) k
def oW (k n:Nat) (c:Int) (t:List (List Int)):Prop:=t≠[]/\t.length<=n/\∀ r∈t,r.length<=k/\Srt c r
noncomputable def subs:Nat->List (List Int)
 | 0=>[[]]
 | k+1=>subs k++(subs k).map λr=>r++[(k:Int)]
noncomputable def lg:Nat->List (List Int)
 | 0=>[[]]
 | k+1=>lg k++((lg k).filter λr=>decide ((r.length:Int)<3)).map λr=>r++[(k:Int)]
theorem vY:∀ c≤6,∀ r∈subs c,((subs c).filter λr'=>decide ((r'.length:Int)=r.length)).length<=63:=by decide +kernel
theorem uC:∀ c≤7,∀ r∈lg c,((lg c).filter λr'=>decide ((r'.length:Int)=r.length)).length<=63:=by decide +kernel
theorem o8 {t:List (List Int)}(h:∀ r∈t,(t.filter λr'=>decide ((r'.length:Int)=r.length)).length<=63) (k:Int):(t.filter λr=>decide ((r.length:Int)=k)).length<=63:=by
 cases e:t.filter λr=>decide ((r.length:Int)=k) with
 | nil=>exact zero_le _
 | cons r u=>
  obtain ⟨i,g⟩:=mem_filter.mp (show r∈t.filter λr=>decide ((r.length:Int)=k) by rw[e]; exact .head _)
  have:=h r i
  rw[of_decide_eq_true g,e] at this
  exact this
theorem pI (C:Calls) (c:Nat) (hc:c<=7):∃ r,ax C l_subsets [.d (.int c)] = .ok r/\∃ t,r.1 = .d (ag t)/\t=subs c/\[]∈t/\oW c 128 c t:=by
 unfold l_subsets
 refine dg rfl λl H=>?_
 refine Runs.set H pK λl H _=>?_
 refine Runs.for (g:=PyData.int) (xs:=aS c) (λi l=>∃ t,Has l [("_law_rows", .d (ag t)),("_law_count", .d (.int c))]/\t=subs i.length/\[]∈t/\oW i.length (2^i.length) i.length t) (bH (H.ev rfl) (JI hc)) (λσ0 h _=>(jI ([[]]) ((h _ H).sub ⟨rfl,rfl,trivial⟩) rfl (.head _) (by simp) (by simp) (λr hr=>?_))) ?_ ?_
 ·cases mem_singleton.mp hr; exact ⟨le_refl _,.nil _⟩
 ·intro i y post hl l o
  refine iu (o) λt H p h0 g1 u k=>?_
  clear o
  refine lE hl λhy hp=>?_
  have j:2^i.length<=2^6:=pow_le_pow_right (by decide) (BJ hc hp)
  have H1:=H.mk "_law_thing" (.d (.int y))
  obtain ⟨m1,e1,_⟩:=cQ (λr=>r++[y]) .deep (aJ (H1.ev (C:=C) (x:="_law_rows") rfl) (a5 t .sh)) (a:=.bin .add (.name "_law_row") (.list (.cons (.name "_law_thing") .nil))) (z:="_law_row") (λr hr=>by
   have H2:=H1.mk "_law_row" (.d (aa r))
   exact dE (H2.ev rfl) (eT (H2.ev rfl)) (by have:=(k r hr).1; rw[length_singleton]; exact Lg hc hp this))
  obtain ⟨m2,e2⟩:=lP (H1.ev (C:=C) (x:="_law_rows") rfl) e1 (by rw[length_map]; exact JG u j)
  refine Runs.set H1 e2 λl H _=>Runs.nil (jI _ (H.sub ⟨rfl,rfl,trivial⟩) (by rw[p,hy,length_append,length_singleton]; rfl) (mem_append_left _ h0) ?_ ?_ (λr hr=>?_))
  ·exact λq=>g1 (List.append_eq_nil_iff.mp q).1
  ·rw[length_append,length_append,length_map,length_singleton,Nat.pow_succ]; exact Cr u
  ·rw[length_append,length_singleton]
   rcases mem_append.mp hr with hr | hr
   ·obtain ⟨q1,v⟩:=k r hr; exact ⟨by exact le_succ_of_le ‹_›,v.mono Bx⟩
   ·refine aK hr λr' hr' Lx=>?_
    (clear hr; subst Lx)
    refine ae (k r' hr') λq1 v=>?_
    rw[length_append,length_singleton]
    exact ⟨by exact lt_succ_of_le ‹_›,(v.snoc (natCast_nonneg _) (x:=y) (Bt hy)).mono (BR hy)⟩
 ·intro σ' n
  refine iu (n) λt H p h0 g1 u k=>?_
  clear n
  refine ak (H "_law_rows" _ rfl) λm e=>?_
  rw[bI] at p u k
  have j:2^c<=2^7:=pow_le_pow_right (by decide) ‹_›
  exact Runs.retn e (ah _ rfl (jI t rfl p h0 g1 (by exact le_trans ‹_› ‹_›) k))
section
theorem b7 (lib:Lib L) (ha:ev (mkC L (n+1)) a σ = .ok (.d (aa s),m)) (hb:ev (mkC L (n+1)) b σ = .ok (sI k)) (hk:0<=k):ev (mkC L (n+1)) (.call "_law_cell_at" (.cons a (.cons b .nil))) σ = .ok (sI (bx s k)) :=
 ch lib.cell (ai ha (ai hb ay)) rfl (oX _ s k hk)
end
theorem sk (C:Calls) (vec row:List Int) (h:∀ i∈row,0<=i/\i<vec.length) (hl:row.length<=7):∃ r,ax C l_apart [.d (aa vec),.d (aa row)] = .ok r/\∃ b,r=sB b/\(row=[]->b=true):=by
 unfold l_apart
 refine dg rfl λk H=>?_
 refine Runs.set H (eT (am 0)) λk H _=>?_
 refine Runs.for (g:=PyData.int) (xs:=row) (λj k=>∃ m:List Int,Has k [("_law_sums", .d (aa m)),("_law_vectors", .d (aa vec))]/\m.length=2^j.length) (aJ (H.ev rfl) (bL row .sh)) (λσ0 h _=>(ah ([0]) ((h _ H).sub ⟨rfl,rfl,trivial⟩) rfl)) ?_ ?_
 ·intro j y z u k o
  refine af (o) λm H v=>?_
  clear o
  have hp:j.length<row.length:=by rw[u,length_append,length_cons]; exact xc
  have p:2^j.length<=2^6:=pow_le_pow_right (by decide) (BJ hl hp)
  obtain ⟨x,y1⟩:=h y (by rw[u]; exact mem_append_right _ (.head _))
  have H1:=H.mk "_law_thing" (.d (.int y))
  have t:∀ {k:St}{l:List (String×V)},Has k l->l.lookup "_law_vectors" = some (.d (aa vec))->l.lookup "_law_thing" = some (.d (.int y))->ev C (.sub (.name "_law_vectors") (.name "_law_thing")) k = .ok (sI (vec[y.toNat]?.getD 0)):=λH a b=>eQ (H.ev a) (H.ev b) x (getD_some (la1 x y1))
  refine Runs.ite (sO (t H1 rfl rfl) (H1.ev rfl)) (λuu=>Runs.ret (e9 false) (ah _ rfl (ah false rfl (λq=>?_)))) λuu=>Runs.nil ?_
  ·rw[q] at u; exact absurd u (by simp)
  refine Runs.set H1 (dE (H1.ev rfl) (j7 (g:=PyData.int) (λi=>Builtin.bitXor i (vec[y.toNat]?.getD 0)) (aJ (H1.ev rfl) (bL m .sh)) λi _=>?_) ?_) λk H _=>Runs.nil (ah _ (H.sub ⟨rfl,rfl,trivial⟩) ?_)
  ·have H2:=H1.mk "_law_one" (.d (.int i))
   exact Dd (H2.ev rfl) (t H2 rfl rfl)
  ·rw[length_map]; exact Kv v p
  ·rw[length_append,length_append,length_map,length_singleton,Nat.pow_succ]; exact KK v
 ·intro σ' n
  refine af (n) λm H v=>?_
  clear n
  exact Runs.ret (e9 true) (ah _ rfl (ah true rfl (λuu=>rfl)))
def Tb (c:Int) (t:List (List Int)):Prop:=0<=c/\c<=100/\t.length<=63/\∀ r∈t,r.length<=12/\Srt c r
def te (r:V×Mode):Prop:=∃ c t,r.1 = .d (.tuple [.int c,ag t])/\Tb c t
theorem tC (C:Calls) (c:Nat) (hc:c<=5):∃ r,ax C l_pairs_by [.d (.int c)] = .ok r/\∃ t,r.1 = .d (ag t)/\oW c 32 (2*c) t:=by
 unfold l_pairs_by
 refine dg rfl λn H=>?_
 refine Runs.set H pK λn H _=>?_
 refine Runs.for (g:=PyData.int) (xs:=aS c) (λi n=>∃ t,Has n [("_law_rows", .d (ag t)),("_law_many", .d (.int c))]/\oW i.length (2^i.length) (2*i.length) t) (bH (H.ev rfl) (Li hc)) (λσ0 h _=>(bw ([[]]) ((h _ H).sub ⟨rfl,rfl,trivial⟩) (by simp) (by simp) (λr hr=>?_))) ?_ ?_
 ·cases mem_singleton.mp hr; exact ⟨le_refl _,.nil _⟩
 ·intro i y post hl n p
  refine bQ (p) λt H g1 v l=>?_
  clear p
  refine lE hl λu hp=>?_
  have j:2^i.length<=2^5:=pow_le_pow_right (by decide) (JJ hc hp)
  have H1:=H.mk "_law_k" (.d (.int y))
  obtain ⟨m1,e1,_⟩:=cQ (λr=>r++[2*y]) .deep (aJ (H1.ev (C:=C) (x:="_law_rows") rfl) (a5 t .sh)) (a:=.bin .add (.name "_law_row") (.list (.cons (.bin .mul (.int 2) (.name "_law_k")) .nil))) (z:="_law_row") (λr hr=>by
   have H2:=H1.mk "_law_row" (.d (aa r))
   exact dE (H2.ev rfl) (eT (lH (am 2) (H2.ev rfl) (by decide))) (by have:=(l r hr).1; rw[length_singleton]; exact Cd hc hp this))
  obtain ⟨m2,e2,_⟩:=cQ (λr=>r++[2*y+1]) .deep (aJ (H1.ev (C:=C) (x:="_law_rows") rfl) (a5 t .sh)) (a:=.bin .add (.name "_law_row") (.list (.cons (.bin .add (.bin .mul (.int 2) (.name "_law_k")) (.int 1)) .nil))) (z:="_law_row") (λr hr=>by
   have H2:=H1.mk "_law_row" (.d (aa r))
   exact dE (H2.ev rfl) (eT (cH (lH (am 2) (H2.ev rfl) (by decide)) (am 1))) (by have:=(l r hr).1; rw[length_singleton]; exact Cd hc hp this))
  obtain ⟨m3,e3⟩:=lP e1 e2 (by rw[length_map,length_map]; exact Lc v j)
  refine Runs.set H1 e3 λn H _=>Runs.nil (bw _ (H.sub ⟨rfl,rfl,trivial⟩) ?_ ?_ (λr hr=>?_))
  ·exact λq=>g1 (List.map_eq_nil_iff.mp (List.append_eq_nil_iff.mp q).1)
  ·rw[length_append,length_append,length_map,length_map,length_singleton,Nat.pow_succ]; exact Cr v
  ·rw[length_append,length_singleton]
   rcases mem_append.mp hr with hr | hr
   ·refine aK hr λr' k LI=>?_
    (clear hr; subst LI)
    refine ae (l r' k) λq1 q2=>?_
    rw[length_append,length_singleton]
    exact ⟨by exact lt_succ_of_le ‹_›,(q2.snoc (natCast_nonneg _) (x:=2*y) (Kg u)).mono (JX u)⟩
   ·refine aK hr λr' k LD=>?_
    (clear hr; subst LD)
    refine ae (l r' k) λq1 q2=>?_
    rw[length_append,length_singleton]
    exact ⟨by exact lt_succ_of_le ‹_›,(q2.snoc (natCast_nonneg _) (x:=2*y+1) (J6 u)).mono (Le u)⟩
 ·intro σ' o
  refine bQ (o) λt H g1 v l=>?_
  clear o
  refine ak (H "_law_rows" _ rfl) λm e=>?_
  rw[bI] at v l
  have j:2^c<=2^5:=pow_le_pow_right (by decide) ‹_›
  exact Runs.retn e (ah _ rfl (bw t rfl g1 (by exact le_trans ‹_› ‹_›) l))
theorem dD {L:List (String×Fn)}{n:Nat}{σ:St}{f:String}{fn:Fn}{es:Es}{q:List (V×Mode)}{vs:List V}{P:V×Mode->Prop}(hL:L.lookup f=some fn) (he:evs (mkC L (n+1)) es σ = .ok q) (hv:q.map (·.1)=vs) (h:∃ r,ax (mkC L n) fn vs = .ok r/\P r) (hp:hH f=true:=by decide):∃ r,ev (mkC L (n+1)) (.call f es) σ = .ok r/\P r:=by
 refine af (h) λr i g=>?_
 clear h
 exact (ah r (ch hL he hv i hp) g)
noncomputable def tri (k:Nat):Nat:=((List.range k).map λi=>8-i).sum
theorem tU:∀ k≤9,tri k<=36:=by decide
theorem wR (k:Nat):tri (k+1)=tri k+(8-k):=by unfold tri; rw[List.range_succ,map_append,List.sum_append]; rfl
theorem sZ (lib:Lib L) (n:Nat) (s:List Int) (kind more:Int) (c:Nat) (hc:c<=6):∃ r,ax (mkC L (n+1)) l_parts [.d (aa s),.d (.int kind),.d (.int c),.d (.int more)] = .ok r/\te r:=by
 unfold l_parts
 refine dg rfl λσ H=>?_
 obtain ⟨LG,e1,t,ht,hsub,h0,g1,g2,g3⟩:=dD (σ:=σ) (n:=n) lib.subs (es:=.cons (.name "_law_count") .nil) (ai (H.ev rfl) ay) rfl (pI _ c (by exact le_succ_of_le ‹_›))
 obtain ⟨rv,rm⟩:=LG
 cases ht
 refine Runs.set H e1 λσ H _=>?_
 have m6:=emod_nonneg more (show (6:Int)≠0 by decide)
 have m6':=emod_lt_of_pos more (show (0:Int)<6 by decide)
 have j:0<t.length:=length_pos_iff.mpr g1
 refine Runs.ite (d0 (H.ev rfl) (am 0)) (λuu=>?_) λuu=>Runs.nil ?_
 ·obtain ⟨k,hk⟩:∃ k:Nat,more%6=k:=⟨(more%6).toNat,by exact KO⟩
  have idx:∀ i:Int,∃ r,t[(bx s (6+i)%t.length).toNat]? = some r:=λi=>⟨_,List.getElem?_eq_getElem (by have:=emod_lt_of_pos (bx s (6+i)) (show (0:Int)<t.length by exact la3 j); have:=emod_nonneg (bx s (6+i)) (show (t.length:Int)≠0 by exact la2 j); exact la4 j ‹_›)⟩
  obtain ⟨m1,e2,_⟩:=cQ (C:=mkC L (n+1)) (σ:=σ) (g:=PyData.int) (l:=aS k) (z:="_law_k") (it:=.r1 (.bin .mod (.name "_law_more") (.int 6))) (a:=.sub (.name "_law_rows") (.bin .mod (.call "_law_cell_at" (.cons (.name "_law_script") (.cons (.bin .add (.int 6) (.name "_law_k")) .nil))) (.bi1 .len (.name "_law_rows")))) (λi=>(t[(bx s (6+i)%t.length).toNat]?).getD []) .sh (bH (n:=k) (m:=.deep) ((aW (H.ev rfl) (am 6) (by decide)).trans (by rw[hk]; rfl)) (KI hk)) (λi hi=>by
   have H2:=H.mk "_law_k" (.d (.int i))
   have:=mem_upTo.mp hi
   refine ak (idx i) λr hr=>?_
   rw[hr]
   exact oS (H2.ev rfl) (aW (b7 lib (H2.ev rfl) (cH (am 6) (H2.ev rfl)) (CF this)) (hU (H2.ev rfl)) (la3 j)) (emod_nonneg _ (la2 j)) hr)
  refine cO (H.ev (x:="_law_count") rfl) e2 λm2 e3=>?_
  refine Runs.ret e3 (ah _ rfl (bP c _ rfl (natCast_nonneg _) (B9 hc) (by rw[length_map,bI]; exact Kt hk) (λr hr=>?_)))
  refine aK hr λi _ LJ=>?_
  (clear hr; subst LJ)
  refine ak (idx i) λr hr=>?_
  rw[hr]
  refine ae (g3 r (mem_of_getElem? hr)) λo q2=>?_
  exact ⟨by show r.length<=12; exact BZ hc o,q2⟩
 ·refine Runs.ite (d0 (aW (H.ev rfl) (am 9) (by decide)) (am 8)) (λuu=>?_) λuu=>Runs.nil ?_
  ·have a1:=emod_nonneg (more/9) (show (3:Int)≠0 by decide)
   have a2:=emod_lt_of_pos (more/9) (show (0:Int)<3 by decide)
   obtain ⟨d,p⟩:∃ d:Nat,7+more/9%3=d:=⟨(7+more/9%3).toNat,by exact KV⟩
   refine Runs.set H (cH (am 7) (aW (cL (H.ev rfl) (am 9) (by decide) (by decide)) (am 3) (by decide))) λσ H _=>?_
   rw[p] at H
   refine Runs.set H jY λσ H _=>?_
   refine Runs.for (g:=PyData.int) (xs:=aS d) (λpre σ=>∃ t,Has σ [("_law_rows", .d (ag t)),("_law_count", .d (.int d))]/\t.length<=tri pre.length/\∀ r∈t,r.length<=12/\Srt d r) (bH (H.ev rfl) (Ky p)) (λσ0 h _=>(aF ([]) ((h _ H).sub ⟨rfl,rfl,trivial⟩) (by simp) (λuu q=>by cases q))) ?_ ?_
   ·intro pre y post hl σ v
    refine aq (v) λt H o q2=>?_
    clear v
    refine lE hl λhy hp=>?_
    have H1:=H.mk "_law_one" (.d (.int y))
    obtain ⟨m1,e2,_⟩:=cQ (C:=mkC L (n+1)) (σ:=upd σ "_law_one" (mk (.d (.int y)))) (g:=PyData.int) (z:="_law_thing") (it:=.r2 (.bin .add (.name "_law_one") (.int 1)) (.name "_law_count")) (a:=.list (.cons (.name "_law_one") (.cons (.name "_law_thing") .nil))) (λi=>[y,i]) .deep (AP (cH (H1.ev rfl) (am 1)) (H1.ev rfl) (J8 hy) (Kz p hy hp) (natCast_nonneg _) (Ke p)) (λi hi=>by
     have H2:=H1.mk "_law_thing" (.d (.int i))
     exact G2 (H2.ev rfl) (H2.ev rfl))
    obtain ⟨m2,e3⟩:=lP (H1.ev (C:=mkC L (n+1)) (x:="_law_rows") rfl) e2 (by rw[length_map,length_map,List.length_range]; have:=tU pre.length (Kh p hp); exact J4 p o hy this)
    refine Runs.set H1 e3 λσ H _=>Runs.nil (aF _ (H.sub ⟨rfl,rfl,trivial⟩) ?_ (λr hr=>?_))
    ·rw[length_append,length_append,length_map,length_map,List.length_range,length_singleton,wR]; exact J9 p o hy
    ·rcases mem_append.mp hr with hr | hr
     ·exact q2 r hr
     ·refine aK hr λi hi LK=>?_
      (clear hr; subst LK)
      refine aK hi λk hk LM=>?_
      (clear hi hr; subst LM)
      have:=List.mem_range.mp hk
      exact ⟨by simp,by simp; exact KL,λx hx=>by
       rcases mem_cons.mp hx with rfl | hx
       ·exact Lh hp hy
       ·rw[mem_singleton.mp hx]; exact KR hy this⟩
   ·intro σ' u
    refine aq (u) λt H o q2=>?_
    clear u
    refine cO (H.ev (C:=mkC L (n+1)) (x:="_law_count") rfl) (H.ev (x:="_law_rows") rfl) λm2 e3=>?_
    rw[bI] at o
    have:=tU d (KN p)
    exact Runs.ret e3 (ah _ rfl (bP d t rfl (natCast_nonneg _) (K3 p) (KX o this) q2))
  ·obtain ⟨m1,e2,_⟩:=jx (C:=mkC L (n+1)) (σ:=σ) (g:=aa) (l:=t) (z:="_law_row") (it:=.e (.name "_law_rows")) (a:=.name "_law_row") (c:=.cmp .eq (.bi1 .len (.name "_law_row")) (.bin .mod (.name "_law_more") (.bin .add (.name "_law_count") (.int 1)))) (λr=>r) (λr=>decide ((r.length:Int)=more%(c+1))) .sh (aJ (H.ev rfl) (a5 t .sh)) (λr hr=>by
    have H2:=H.mk "_law_row" (.d (aa r))
    exact d0 (cY (H2.ev rfl)) (aW (H2.ev rfl) (cH (H2.ev rfl) (am 1)) qa)) (λr hr _=>(H.mk "_law_row" (.d (aa r))).ev rfl)
   refine cO (H.ev (x:="_law_count") rfl) e2 λm2 e3=>?_
   refine Runs.ret e3 (ah _ rfl (bP c _ rfl (natCast_nonneg _) (B9 hc) ?_ (λr hr=>?_)))
   ·rw[List.map_id']; exact o8 (by rw[hsub]; exact vY c hc) _
   ·rw[List.map_id'] at hr
    refine ae (g3 r (mem_filter.mp hr).1) λo q2=>?_
    exact ⟨by exact BZ hc o,q2⟩
theorem yN {l:List Int}{x:Int}{b:Int}(h:l.length=7) (hb:∀ i∈l,0<=i/\i<=b):∃ c:Nat,l[(x/9%7).toNat]? = some (c:Int)/\(c:Int)<=b:=by
 have k:=emod_nonneg (x/9) (show (7:Int)≠0 by decide)
 have j:=emod_lt_of_pos (x/9) (show (0:Int)<7 by decide)
 have g:(x/9%7).toNat<l.length:=by exact KF h
 have:=hb _ (List.getElem_mem g)
 exact (ah (l[(x/9%7).toNat].toNat) (by rw[List.getElem?_eq_getElem g]; congr 1; exact K1 this) (J2 this))
theorem rO (a b c d e f g:Int):ev C (.list (.cons (.int a) (.cons (.int b) (.cons (.int c) (.cons (.int d) (.cons (.int e) (.cons (.int f) (.cons (.int g) .nil)))))))) σ = .ok (.d (aa [a,b,c,d,e,f,g]),.deep):=by
 simp only[eh,cE,bq,bl,Out.ok_bind]; rfl
theorem wY (lib:Lib L) (n:Nat) (s:List Int) (hs:s.length<=63):∃ r,ax (mkC L (n+2)) l_few [.d (aa s)] = .ok r/\te r:=by
 unfold l_few
 refine dg rfl λσ H=>?_
 refine Runs.set H (aW (b7 lib (H.ev rfl) (am 0) (by decide)) (am 9) (by decide)) λσ H _=>?_
 refine af (yN (l:=[6,5,4,3,6,1,0]) (x:=bx s 0) (b:=6) rfl (by decide)) λc hc1 j=>?_
 refine Runs.set H (eQ (rO 6 5 4 3 6 1 0) (aW (cL (b7 lib (H.ev rfl) (am 0) (by decide)) (am 9) (by decide) (by decide)) (am 7) (by decide)) (emod_nonneg _ (by decide)) hc1) λσ H _=>?_
 refine Runs.set H (b7 lib (H.ev rfl) (am 1) (by decide)) λσ H _=>?_
 generalize bx s 0%9=kind at H
 generalize bx s 1=more at H
 refine Runs.ite (d0 (H.ev rfl) (am 7)) (λuu=>?_) λuu=>Runs.nil ?_
 ·have a1:=emod_nonneg more (show (4:Int)≠0 by decide)
  have a2:=emod_lt_of_pos more (show (0:Int)<4 by decide)
  obtain ⟨d,hd⟩:∃ d:Nat,1+more%4=d:=⟨(1+more%4).toNat,by exact KA⟩
  refine Runs.set H (cH (am 1) (aW (H.ev rfl) (am 4) (by decide))) λσ H _=>?_
  rw[hd] at H
  refine Runs.no ((wI (cY (H.ev rfl)) (am 63)).trans (by rw[decide_eq_false (JW hs)])) ?_
  obtain ⟨LP,e1,t,ht,g1,g2,g3⟩:=dD (σ:=σ) (n:=n+1) lib.pairs (es:=.cons (.name "_law_many") .nil) (ai (H.ev rfl) ay) rfl (tC _ d (J1 hd))
  obtain ⟨rv,rm⟩:=LP
  cases ht
  refine cO (lH (am 2) (H.ev (x:="_law_many") rfl) (by decide)) e1 λm2 e3=>?_
  exact Runs.ret e3 (ah _ rfl (bP _ t rfl (natCast_nonneg _) (J5 hd) (KB g2) (λr hr=>ae (g3 r hr) λu o=>⟨by exact JY hd u,o⟩)))
 ·refine Runs.ite (pP (H.ev rfl) (am 2)) (λuu=>?_) λuu=>Runs.nil ?_
  ·refine af (dD (σ:=σ) (n:=n+1) lib.parts (es:=.cons (.name "_law_script") (.cons (.name "_law_kind") (.cons (.name "_law_count") (.cons (.name "_law_more") .nil)))) (ai (H.ev rfl) (ai (H.ev rfl) (ai (H.ev rfl) (ai (H.ev rfl) ay)))) rfl (sZ lib n s kind more c (JM j))) λr e1 h=>?_
   exact Runs.ret e1 (ah r rfl h)
  ·clear hc1 j
   refine af (yN (l:=[6,5,4,3,7,7,2]) (x:=bx s 0) (b:=7) rfl (by decide)) λc hc1 j=>?_
   refine Runs.set H (eQ (rO 6 5 4 3 7 7 2) (aW (cL (b7 lib (H.ev rfl) (am 0) (by decide)) (am 9) (by decide) (by decide)) (am 7) (by decide)) (emod_nonneg _ (by decide)) hc1) λσ H _=>?_
   refine Runs.set H pK λσ H _=>?_
   refine Runs.for (g:=PyData.int) (xs:=aS c) (λk σ=>∃ t,Has σ [("_law_rows", .d (ag t)),("_law_count", .d (.int c)),("_law_script", .d (aa s)),("_law_kind", .d (.int kind)),("_law_more", .d (.int more))]/\t=lg k.length/\[]∈t/\oW k.length (2^k.length) k.length t) (bH (H.ev rfl) (BH j)) (λσ0 h _=>(jI ([[]]) ((h _ H).sub (lG rfl rfl rfl rfl rfl trivial)) rfl (.head _) (by simp) (by simp) (λr hr=>?_))) ?_ ?_
   ·cases mem_singleton.mp hr; exact ⟨le_refl _,.nil _⟩
   ·intro k y post hl σ LQ
    refine iu (LQ) λt H h3 h0 g1 g2 g3=>?_
    clear LQ
    refine lE hl λhy hp=>?_
    have hpow:2^k.length<=2^6:=pow_le_pow_right (by decide) (Kq j hp)
    have H1:=H.mk "_law_thing" (.d (.int y))
    obtain ⟨m1,e1,_⟩:=jx (C:=mkC L (n+2)) (λr=>r++[y]) (λr=>decide ((r.length:Int)<3)) .deep (aJ (H1.ev (x:="_law_rows") rfl) (a5 t .sh)) (a:=.bin .add (.name "_law_row") (.list (.cons (.name "_law_thing") .nil))) (c:=.cmp .lt (.bi1 .len (.name "_law_row")) (.int 3)) (z:="_law_row") (λr hr=>pP (cY ((H1.mk "_law_row" (.d (aa r))).ev rfl)) (am 3)) (λr hr _=>by
     have H2:=H1.mk "_law_row" (.d (aa r))
     exact dE (H2.ev rfl) (eT (H2.ev rfl)) (by have:=(g3 r hr).1; rw[length_singleton]; exact Lf j hp this))
    have hf:=length_filter_le (λr:List Int=>decide ((r.length:Int)<3)) t
    obtain ⟨m2,e2⟩:=lP (H1.ev (C:=mkC L (n+2)) (x:="_law_rows") rfl) e1 (by rw[length_map]; exact JT g2 hpow hf)
    refine Runs.set H1 e2 λσ H _=>Runs.nil (jI _ (H.sub (lG rfl rfl rfl rfl rfl trivial)) (by rw[h3,hy,length_append,length_singleton]; rfl) (mem_append_left _ h0) ?_ ?_ (λr hr=>?_))
    ·exact λq=>g1 (List.append_eq_nil_iff.mp q).1
    ·rw[length_append,length_append,length_map,length_singleton,Nat.pow_succ]; exact JQ g2 hf
    ·rw[length_append,length_singleton]
     rcases mem_append.mp hr with hr | hr
     ·obtain ⟨u,o⟩:=g3 r hr; exact ⟨by exact le_succ_of_le ‹_›,o.mono Bx⟩
     ·refine aK hr λr' hr' LS=>?_
      (clear hr; subst LS)
      refine ae (g3 r' (mem_filter.mp hr').1) λu o=>?_
      rw[length_append,length_singleton]
      exact ⟨by exact lt_succ_of_le ‹_›,(o.snoc (natCast_nonneg _) (x:=y) (Bt hy)).mono (BR hy)⟩
   ·intro σ LR
    refine iu (LR) λt H h3 h0 g1 g2 g3=>?_
    clear LR
    rw[bI] at h3 g2 g3
    have hpow:2^c<=2^7:=pow_le_pow_right (by decide) (B5 j)
    obtain ⟨m,hvec⟩:∃ m,(aS c).map (λi=>bx s (6+i)%8)=m:=⟨_,rfl⟩
    have hvl:m.length=c:=by rw[<- hvec,length_map,bI]
    refine Runs.set H (r:=(.d (aa m),.deep)) ((j7 (g:=PyData.int) (λi=>bx s (6+i)%8) (bH (n:=c) (H.ev rfl) (BH j)) λi hi=>?_).trans (by rw[hvec])) λσ H _=>?_
    ·have H2:=H.mk "_law_thing" (.d (.int i))
     have:=mem_upTo.mp hi
     exact aW (b7 lib (H2.ev rfl) (cH (am 6) (H2.ev rfl)) (CF this)) (am 8) (by decide)
    obtain ⟨p,hp⟩:=ke (l:=t) (Q:=λr b=>ev (mkC L (n+2)) (.call "_law_apart" (.cons (.name "_law_vectors") (.cons (.name "_law_row") .nil))) (upd σ "_law_row" (mk (.d (aa r)))) = .ok (sB b)/\(r=[]->b=true)) λr hr=>by
     have H2:=H.mk "_law_row" (.d (aa r))
     refine ae (g3 r hr) λu o=>?_
     obtain ⟨_,e1,b,rfl,hb⟩:=dD (n:=n+1) lib.apart (es:=.cons (.name "_law_vectors") (.cons (.name "_law_row") .nil)) (ai (H2.ev rfl) (ai (H2.ev rfl) ay)) rfl (sk _ m r (λi hi=>by have:=o.2 i hi; exact Ks hvl this) (KC j u))
     exact (ah b e1 hb)
    refine af (jx (C:=mkC L (n+2)) (σ:=σ) (g:=aa) (l:=t) (z:="_law_row") (it:=.e (.name "_law_rows")) (a:=.name "_law_row") (c:=.call "_law_apart" (.cons (.name "_law_vectors") (.cons (.name "_law_row") .nil))) (λr=>r) p .sh (aJ (H.ev rfl) (a5 t .sh)) (λr hr=>(hp r hr).1) (λr hr _=>(H.mk "_law_row" (.d (aa r))).ev rfl)) λm1 e1 _=>?_
    rw[List.map_id'] at e1
    refine Runs.set H e1 λσ H _=>?_
    have hne:(t.filter p).map (λr=>(r.length:Int))≠[]:=λq=>by
     have:[]∈t.filter p:=mem_filter.mpr ⟨h0,(hp [] h0).2 rfl⟩
     rw[List.map_eq_nil_iff.mp q] at this
     cases this
    refine af (Hs (j7 (C:=mkC L (n+2)) (σ:=σ) (g:=aa) (l:=t.filter p) (z:="_law_row") (it:=.e (.name "_law_good")) (a:=.bi1 .len (.name "_law_row")) (λr=>(r.length:Int)) (aJ (H.ev rfl) (a5 _ .sh)) λr _=>cY ((H.mk "_law_row" (.d (aa r))).ev rfl)) hne) λmo e2 hmo=>?_
    refine Runs.set H e2 λσ H _=>?_
    refine aK hmo λr0 hr0 hr1=>?_
    obtain ⟨tt,htt⟩:∃ tt,(t.filter p).filter (λr=>decide ((r.length:Int)=mo))=tt:=⟨_,rfl⟩
    have v:0<tt.length:=length_pos_iff.mpr λq=>by
     have:r0∈tt:=by rw[<- htt]; exact mem_filter.mpr ⟨hr0,decide_eq_true hr1⟩
     rw[q] at this; cases this
    have hsub:∀ r∈tt,r∈t:=λr hr=>by rw[<- htt] at hr; exact (mem_filter.mp (mem_filter.mp hr).1).1
    have hlen:tt.length<=63:=by
     have u:=length_filter_le p (t.filter λr:List Int=>decide ((r.length:Int)=mo))
     have o:=o8 (t:=t) (by rw[h3]; exact uC c (B5 j)) mo
     rw[<- htt,List.filter_filter]
     rw[List.filter_filter] at u
     simp only[Bool.and_comm] at u ⊢
     exact Kb u o
    obtain ⟨m3,e3,_,hm3⟩:=jx (C:=mkC L (n+2)) (σ:=σ) (g:=aa) (l:=t.filter p) (z:="_law_row") (it:=.e (.name "_law_good")) (a:=.name "_law_row") (c:=.cmp .eq (.bi1 .len (.name "_law_row")) (.name "_law_most")) (λr=>r) (λr=>decide ((r.length:Int)=mo)) .sh (aJ (H.ev rfl) (a5 _ .sh)) (λr hr=>by
     have H2:=H.mk "_law_row" (.d (aa r))
     exact d0 (cY (H2.ev rfl)) (H2.ev rfl)) (λr hr _=>(H.mk "_law_row" (.d (aa r))).ev rfl)
    rw[List.map_id',htt] at e3
    refine Runs.set H e3 λσ H hσ=>?_
    have fin:∀ {σ:St}{l:List (String×V)}(t':List (List Int)),Has σ l->l.lookup "_law_count" = some (.d (.int c))->l.lookup "_law_table_here" = some (.d (ag t'))->(∀ r∈t',r∈t)->t'.length<=63->Runs (mkC L (n+2)) (.cons (.ret (.tup (.cons (.name "_law_count") (.cons (.name "_law_table_here") .nil)))) .nil) σ (λuu fl=>∃ r,fl = .ret r/\te r):=λt' H a b ht' hl'=>by
     refine cO (H.ev (C:=mkC L (n+2)) a) (H.ev b) λm2 e4=>?_
     exact Runs.ret e4 (ah _ rfl (bP c t' rfl (natCast_nonneg _) (K7 j) hl' (λr hr=>ae (g3 r (ht' r hr)) λu o=>⟨by exact Ku j u,o⟩)))
    refine Runs.ite (d0 (H.ev rfl) (am 3)) (λuu=>?_) λuu=>Runs.nil (fin tt H rfl rfl hsub hlen)
    refine Runs.popR H hσ hm3 (aW (H.ev rfl) (hU (H.ev rfl)) (la3 v)) (emod_nonneg _ (la2 v)) (emod_lt_of_pos _ (la3 v)) λσ H _=>Runs.nil (fin _ H rfl rfl (λr hr=>hsub r (List.mem_of_mem_eraseIdx hr)) (le_trans (List.length_eraseIdx_le ..) hlen))
theorem Srt.affine (h:Srt c r) (ha:0<=a) (hb:0<b):Srt (a+b*c) (r.map λx=>a+b*x):=by
 refine ⟨?_,λx i=>?_⟩
 ·rw[pairwise_map]
  refine h.1.imp λ{x y} q=>?_
  have:=Int.mul_lt_mul_of_pos_left q hb
  exact JK this
 ·refine aK i λy l g=>?_
  (clear i; subst g)
  refine ae (h.2 y l) λn m=>?_
  have k:=Int.mul_nonneg (Int.le_of_lt hb) n
  have j:=Int.mul_lt_mul_of_pos_left m hb
  exact K0 ha k j
theorem kF (c:Nat):(aS c).Pairwise (· < ·):=by
 unfold aS
 rw[pairwise_map]
 exact List.pairwise_lt_range.imp λ{a b} h=>by exact JU h
theorem sv (lib:Lib L) (n:Nat) (s:List Int) (hs:s.length<=63):∃ r,ax (mkC L (n+3)) l_table [.d (aa s)] = .ok r/\te r:=by
 unfold l_table
 refine dg rfl λσ H=>?_
 refine Runs.set H (aW (b7 lib (H.ev rfl) (am 0) (by decide)) (am 9) (by decide)) λσ H _=>?_
 refine Runs.set H (b7 lib (H.ev rfl) (am 1) (by decide)) λσ H _=>?_
 generalize bx s 0%9=kind at H
 generalize bx s 1=more at H
 refine Runs.ite (d0 (H.ev rfl) (am 4)) (λuu=>?_) λuu=>Runs.nil ?_
 ·have a1:=emod_nonneg more (show (12:Int)≠0 by decide)
  have a2:=emod_lt_of_pos more (show (0:Int)<12 by decide)
  have a3:=emod_nonneg (more/12) (show (4:Int)≠0 by decide)
  obtain ⟨d,p⟩:∃ d:Nat,7+more%12=d:=⟨(7+more%12).toNat,by exact Kc⟩
  refine Runs.set H (cH (am 7) (aW (H.ev rfl) (am 12) (by decide))) λσ H _=>?_
  rw[p] at H
  refine Runs.set H (cH (am 1) (aW (cL (H.ev rfl) (am 12) (by decide) (by decide)) (am 4) (by decide))) λσ H _=>?_
  obtain ⟨m1,e1,_⟩:=jx (C:=mkC L (n+3)) (σ:=σ) (g:=PyData.int) (l:=aS d) (z:="_law_thing") (it:=.r1 (.name "_law_count")) (a:=.list (.cons (.name "_law_thing") .nil)) (c:=.cmp .eq (.bin .mod (.name "_law_thing") (.name "_law_step")) (.int 0)) (λi=>[i]) (λi=>decide (i%(1+more/12%4)=0)) .deep (bH (H.ev rfl) (JL p)) (λi _=>by
   have H2:=H.mk "_law_thing" (.d (.int i))
   exact d0 (aW (H2.ev rfl) (H2.ev rfl) KY) (am 0)) (λi _ _=>eT ((H.mk "_law_thing" (.d (.int i))).ev rfl))
  refine cO (H.ev (C:=mkC L (n+3)) (x:="_law_count") rfl) e1 λm2 e2=>?_
  refine Runs.ret e2 (ah _ rfl (bP d _ rfl (natCast_nonneg _) (KZ p) ?_ (λr u=>?_)))
  ·rw[length_map]
   have:=length_filter_le (λi=>decide (i%(1+more/12%4)=0)) (aS d)
   rw[bI] at this; exact KE p this
  ·refine aK u λi hi LY=>?_
   (clear u; subst LY)
   have:=mem_upTo.mp (mem_filter.mp hi).1
   exact ⟨by simp,by simp,λx hx=>by rw[mem_singleton.mp hx]; exact BF this⟩
 ·refine Runs.ite (d0 (H.ev rfl) (am 5)) (λuu=>?_) λuu=>Runs.nil ?_
  ·have a1:=emod_nonneg more (show (6:Int)≠0 by decide)
   have a2:=emod_lt_of_pos more (show (0:Int)<6 by decide)
   obtain ⟨d,p⟩:∃ d:Nat,7+more%6=d:=⟨(7+more%6).toNat,by exact Kl⟩
   refine Runs.set H (cH (am 7) (aW (H.ev rfl) (am 6) (by decide))) λσ H _=>?_
   rw[p] at H
   obtain ⟨m1,e1,_⟩:=cQ (C:=mkC L (n+3)) (σ:=σ) (g:=PyData.int) (l:=aS d) (z:="_law_gone") (it:=.r1 (.name "_law_count")) (a:=.compif (.name "_law_thing") "_law_thing" (.r1 (.name "_law_count")) (.cmp .ne (.name "_law_thing") (.name "_law_gone"))) (λg=>(aS d).filter λi=>!decide (i=g)) .deep (bH (H.ev rfl) (Cs p)) (λg _=>by
    have H2:=H.mk "_law_gone" (.d (.int g))
    exact dl (λi=>!decide (i=g)) (bH (H2.ev rfl) (Cs p)) λi _=>by
     have H3:Has (upd (upd σ "_law_gone" (mk (.d (.int g)))) "_law_thing" (sI i)) _:=H2.upd "_law_thing" (.d (.int i)) .deep
     exact dJ (H3.ev rfl) (H3.ev rfl))
   refine cO (H.ev (C:=mkC L (n+3)) (x:="_law_count") rfl) e1 λm2 e2=>?_
   refine Runs.ret e2 (ah _ rfl (bP d _ rfl (natCast_nonneg _) (KW p) (by rw[length_map,bI]; exact J0 p) (λr u=>?_)))
   refine aK u λg _ L6=>?_
   (clear u; subst L6)
   refine ⟨?_,(kF d).filter _,λx hx=>?_⟩
   ·have:=length_filter_le (λi=>!decide (i=g)) (aS d)
    rw[bI] at this; exact JS p this
   ·have:=mem_upTo.mp (mem_filter.mp hx).1
    exact BF this
  ·obtain ⟨L5,e1,c,t,u,h0,h1,h2,h3⟩:=dD (σ:=σ) (n:=n+2) lib.few (es:=.cons (.name "_law_script") .nil) (ai (H.ev rfl) ay) rfl (wY lib n s hs)
   obtain ⟨rv,rm⟩:=L5
   cases u
   refine Runs.set H e1 λσ H k=>?_
   refine Runs.set H (b7 lib (H.ev rfl) (am 12) (by decide)) λσ' H hσ'=>?_
   generalize bx s 12=far at H
   have o:∀ {σ:St}{l:List (String×V)},Has σ l->l.lookup "_law_made" = some (.d (.tuple [.int c,ag t]))->ev (mkC L (n+3)) (.sub (.name "_law_made") (.int 0)) σ = .ok (sI c)/\ev (mkC L (n+3)) (.sub (.name "_law_made") (.int 1)) σ = .ok (.d (ag t),.sh):=λH a=>⟨gq (m:=.sh) (H.ev a) (am 0),f8 (m:=.sh) (H.ev a) (am 1)⟩
   refine ae (o H rfl) λd1 d2=>?_
   refine Runs.ite (cR (dJ (aW (H.ev rfl) (am 3) (by decide)) (am 1)) λuu=>cR (wI (hU d2) (am 8)) λuu=>wI d1 (am 9)) (λuu=>?_) λq=>Runs.nil ?_
   ·refine ak (H "_law_made" _ rfl) λm e=>?_
    exact Runs.retn e (ah _ rfl (bP c t rfl h0 h1 h2 h3))
   ·have hc9:c<=9:=by
     have:=(or_eq_false_iff.mp (or_eq_false_iff.mp q).2).2
     have:=of_decide_eq_false this
     exact JZ this
    have ht8:t.length<=8:=by
     have:=(or_eq_false_iff.mp (or_eq_false_iff.mp q).2).1
     have:=of_decide_eq_false this
     exact KU this
    clear q d1 d2
    refine Runs.set H (cH (am 1) (aW (cL (H.ev rfl) (am 3) (by decide) (by decide)) (am 9) (by decide))) λσ H _=>?_
    refine Runs.set H (aW (cL (H.ev rfl) (am 27) (by decide) (by decide)) (am 9) (by decide)) λσ H _=>?_
    have b1:=emod_nonneg (far/3) (show (9:Int)≠0 by decide)
    have b2:=emod_lt_of_pos (far/3) (show (0:Int)<9 by decide)
    have b3:=emod_nonneg (far/27) (show (9:Int)≠0 by decide)
    have b4:=emod_lt_of_pos (far/27) (show (0:Int)<9 by decide)
    generalize hst:1+far/3%9=st at H
    generalize hfi:far/27%9=fi at H
    refine Runs.set H jY λσ H k=>?_
    refine Runs.for (g:=aa) (xs:=t) (λj σ=>Has σ [("_law_table_here", .d (ag (j.map λr=>r.map λx=>fi+st*x))),("_law_made", .d (.tuple [.int c,ag t])),("_law_step", .d (.int st)),("_law_first", .d (.int fi))]/\σ "_law_table_here" = some (.d (ag (j.map λr=>r.map λx=>fi+st*x)),.deep)) (aJ (o H rfl).2 (a5 t .sh)) (λσ0 h hh=>⟨(h _ H).sub (cy rfl rfl rfl rfl trivial),(hh _ (by simp[jO,ip,zY,rN])).trans k⟩) ?_ ?_
    ·intro j y post hl σ Mb
     refine ae (Mb) λH k=>?_
     clear Mb
     have hp:j.length<t.length:=by rw[hl,length_append,length_cons]; exact xc
     have H1:=H.mk "_law_choice" (.d (aa y))
     refine Runs.appR H1 (t:=j.map λr=>r.map λx=>fi+st*x) (m:=.deep) ((if_neg (by decide)).trans k) (by decide) (j7 (g:=PyData.int) (λx=>fi+st*x) (aJ (H1.ev rfl) (bL y .sh)) λi _=>?_) (by rw[length_map]; exact K9 ht8 hp) λσ H k _=>Runs.nil ?_
     ·have H2:=H1.mk "_law_thing" (.d (.int i))
      exact cH (H2.ev rfl) (lH (H2.ev rfl) (H2.ev rfl) (by lia))
     ·have e:(j++[y]).map (λr=>r.map λx=>fi+st*x)=j.map (λr=>r.map λx=>fi+st*x)++[y.map λx=>fi+st*x]:=by rw[map_append]; rfl
      show Has σ _/\_
      rw[e]
      exact ⟨H.sub (cy rfl rfl rfl rfl trivial),k⟩
    ·intro σ v
     refine ae (v) λH _=>?_
     clear v
     refine cO (cH (H.ev (C:=mkC L (n+3)) (x:="_law_first") rfl) (lH (H.ev (x:="_law_step") rfl) (o H rfl).1 (by lia))) (H.ev (x:="_law_table_here") rfl) λm2 e2=>?_
     have q1:=Int.mul_nonneg (show 0<=st by exact KD hst) h0
     have q2:st*c<=9*9:=Int.mul_le_mul (Kk hst) hc9 h0 (by decide)
     refine Runs.ret e2 (ah _ rfl (bP _ _ rfl (KT hfi q1) (JV hfi q2) (by rw[length_map]; exact Ko ht8) (λr u=>?_)))
     refine aK u λr' hr' L0=>?_
     (clear u; subst L0)
     refine ae (h3 r' hr') λq3 q4=>?_
     exact ⟨by rw[length_map]; exact K2 q3,q4.affine (JP hfi) (J3 hst)⟩
noncomputable def bn (one:List Int) (o x:Int):List Int:=aD (one.filter (λy=>!decide (y=o))++[x])
noncomputable def da (t:List (List Int)) (one other:List Int) (x:Int):Bool:=one.any λo=>!decide (o∈other)&&decide (bn one o x∈t)
noncomputable def e8 (c:Nat) (t:List (List Int)):Option (List Int×List Int×Int) :=
 t.findSome? λh=>(aS c).findSome? λx=>if x∈h then none else t.findSome? λg=>if (decide (x∈g) && !da t h g x)=true then some (h,g,x) else none
theorem ij (p:α->Bool) (l:List α):l.findSome? (λx=>if p x=true then some () else none)=if l.any p=true then some () else none:=by
 induction l with
 | nil=>rfl
 | cons a l ih=>
  rw[List.findSome?_cons,List.any_cons]
  cases p a with
  | true=>rfl
  | false=>simpa using ih
theorem rp (H:Has σ l) (hz:z ≠ "x") (ha:ev C a σ = .ok (.d (aa c),m)) (hd:ev C d σ = .ok (sI t)) (hb:∀ i:Int,ev C b (upd σ z (sI i)) = .ok (sI o)) (h:c.length<63) :
  ev C (.bi1 .sorted (.bin .add (.compif (.name z) z (.e a) (.cmp .ne (.name z) b)) (.list (.cons d .nil)))) σ = .ok (.d (aa (bn c o t)),.deep):=by
 have g:(c.filter λx=>!decide (x=o)).length<=c.length:=length_filter_le ..
 refine xP (dE (dl (λi=>!decide (i=o)) (aJ ha (bL c m)) λi _=>dJ (lS (p:=sI i) (if_pos rfl) rfl) (hb i)) (eT hd) (by rw[length_singleton]; exact Lb h g)) ?_
 rw[length_append,length_singleton]; exact JN h g
theorem mh (C:Calls) (c:List Int) (o t:Int) (h:c.length<63):ax C p_exchanged [.d (aa c),.d (.int o),.d (.int t)] = .ok (.d (aa (bn c o t)),.deep):=by
 unfold p_exchanged
 exact bU rfl λg H=>Runs.ret (rp H (by decide) (H.ev rfl) (H.ev rfl) (λi=>(H.upd "one" (.d (.int i)) .deep).ev rfl) h) rfl
theorem v7 (C:Calls) (t:List (List Int)) (one other:List Int) (x:Int) (h:one.length<63):ax C l_can [.d (ag t),.d (aa one),.d (aa other),.d (.int x)] = .ok (sB (da t one other x)):=by
 unfold l_can da
 refine bU rfl λj H=>?_
 refine Runs.seek (g:=PyData.int) (xs:=one) (λj=>Has j [("_law_table_here", .d (ag t)),("_law_one", .d (aa one)),("_law_other", .d (aa other)),("_law_thing", .d (.int x))]) (λo=>if (!decide (o∈other)&&decide (bn one o x∈t))=true then some () else none) (λuu=>sB true) (aJ (H.ev rfl) (bL one .sh)) (λl h _=>(h _ H).sub (cy rfl rfl rfl rfl trivial)) (λo m j H=>?_) (λq k _=>?_) λuu q k=>?_
 ·have H1:=H.mk "_law_out" (.d (.int o))
  refine Runs.set H1 (rp H1 (by decide) (H1.ev rfl) (H1.ev rfl) (λi=>(H1.upd "_law_left" (.d (.int i)) .deep).ev rfl) h) λj H2 _=>?_
  refine Runs.ite (f9 (jP (H2.ev rfl) (H2.ev rfl)) λuu=>sV (H2.ev rfl) (H2.ev rfl)) (λq=>Runs.ret (e9 true) ?_) λq=>Runs.nil (Runs.nil ?_)
  ·exact Cont.ret (Sk.ret (q:=()) (if_pos q))
  ·exact Sk.next (if_neg (by rw[q]; decide)) (H2.sub (cy rfl rfl rfl rfl trivial))
 ·rw[ij] at q
  refine Runs.ret (e9 false) ?_
  by_cases e:(one.any λo=>!decide (o∈other)&&decide (bn one o x∈t))=true
  ·rw[if_pos e] at q; cases q
  ·rw[Bool.eq_false_iff.mpr e]
 ·rw[ij] at q
  by_cases e:(one.any λo=>!decide (o∈other)&&decide (bn one o x∈t))=true
  ·rw[e]
  ·rw[if_neg e] at q; cases q
theorem qO (lib:Lib L) (n:Nat) (c:Nat) (t:List (List Int)) (hc:c<=1000) (h:∀ r∈t,r.length<63):ax (mkC L (n+1)) l_fault [.d (.int c),.d (ag t)] = .ok (match e8 c t with | none=>(.d .none,.deep) | some (a,b,x)=>(.d (.tuple [aa a,aa b,.int x]),.sh)):=by
 unfold l_fault e8
 refine bU rfl λl H=>?_
 let rv:List Int×List Int×Int->V×Mode:=λq=>(.d (.tuple [aa q.1,aa q.2.1,.int q.2.2]),.sh)
 let Inv:St->Prop:=λl=>Has l [("_law_table_here", .d (ag t)),("_law_count", .d (.int c))]
 refine Runs.seek (g:=aa) (xs:=t) Inv (λj=>(aS c).findSome? λx=>if x∈j then none else t.findSome? λi=>if (decide (x∈i) && !da t j i x)=true then some (j,i,x) else none) rv (aJ (H.ev rfl) (a5 t .sh)) (λo h _=>(h _ H).sub ⟨rfl,rfl,trivial⟩) (λj u l H=>?_) (λq k _=>?_) λq p k=>?_
 ·have H1:=H.mk "_law_one" (.d (aa j))
  refine Runs.seek (g:=PyData.int) (xs:=aS c) (λl=>Has l [("_law_table_here", .d (ag t)),("_law_count", .d (.int c)),("_law_one", .d (aa j))]) (λx=>if x∈j then none else t.findSome? λi=>if (decide (x∈i) && !da t j i x)=true then some (j,i,x) else none) rv (bH (H1.ev rfl) (l5 hc)) (λo h _=>(h _ H1).sub (cZ rfl rfl rfl trivial)) (λx y l H=>?_) (λq k H=>Runs.nil ?_) λq p k=>?_
  ·have H2:=H.mk "_law_thing" (.d (.int x))
   refine Runs.ite (jP (H2.ev rfl) (H2.ev rfl)) (λq=>?_) λq=>Runs.nil (Runs.nil ?_)
   ·have m:x∉j:=by simpa using q
    refine Runs.seek (g:=aa) (xs:=t) (λl=>Has l [("_law_table_here", .d (ag t)),("_law_count", .d (.int c)),("_law_one", .d (aa j)),("_law_thing", .d (.int x))]) (λi=>if (decide (x∈i) && !da t j i x)=true then some (j,i,x) else none) rv (aJ (H2.ev rfl) (a5 t .sh)) (λo h _=>(h _ H2).sub (cy rfl rfl rfl rfl trivial)) (λi z l H=>?_) (λq k H=>Runs.nil (Runs.nil ?_)) λq p k=>?_
    ·have H3:=H.mk "_law_other" (.d (aa i))
     refine Runs.ite (f9 (sO (H3.ev rfl) (H3.ev rfl)) λuu=>ca (ch lib.can (ai (H3.ev rfl) (ai (H3.ev rfl) (ai (H3.ev rfl) (ai (H3.ev rfl) ay)))) rfl (v7 _ t j i x (h j u)))) (λq=>?_) λq=>Runs.nil (Runs.nil ?_)
     ·have v:ev (mkC L (n+1)) (.tup (.cons (.name "_law_one") (.cons (.name "_law_other") (.cons (.name "_law_thing") .nil)))) (upd l "_law_other" (mk (.d (aa i)))) = .ok (rv (j,i,x)):=by
       exact ui (m1:=.sh) (m2:=.sh) (m3:=.deep) (H3.ev rfl) (H3.ev rfl) (H3.ev rfl)
      exact Runs.ret v (Cont.ret (Sk.ret (q:=(j,i,x)) (if_pos q)))
     ·exact Sk.next (if_neg (by rw[q]; decide)) (H3.sub (cy rfl rfl rfl rfl trivial))
    ·exact Sk.next ((if_neg m).trans q) (H.sub (cZ rfl rfl rfl trivial))
    ·exact Cont.ret (Sk.ret ((if_neg m).trans p))
   ·have m:x∈j:=by simpa using q
    exact Sk.next (if_pos m) (H2.sub (cZ rfl rfl rfl trivial))
  ·exact Sk.next q (H.sub ⟨rfl,rfl,trivial⟩)
  ·exact Sk.ret p
 ·rw[q]; exact Runs.ret jb rfl
 ·rw[p]
def Kn (pre:List (List Int)) (v:V):Prop:=(pre=[]/\v = .dic0)\/∃ ks,v = .dicT ks/\ks.length<=pre.length/\(∀ k,k∈ks↔k∈pre)/\ks.Nodup
theorem iM (r:List Int):d8 (aR r)=some r:=d6 r
theorem Kn.add (K:Kn pre v) (r:List Int) (hl:pre.length<=1000):∃ v',fI σ z v (aR r) = .ok (upd σ z (v',.deep),.next)/\Kn (pre++[r]) v':=by
 rcases K with ⟨rfl,rfl⟩ | ⟨ks,rfl,h1,h2,h3⟩
 ·refine (ah (.dicT [r]) ?_ (.inr (bw ([r]) rfl (le_refl _) (λk=>Iff.rfl) (by simp))))
  simp only[fI,iM,show dB (aR r)=none from rfl]
 ·refine (ah (.dicT (if r∈ks then ks else ks++[r])) ?_ (.inr (bw _ rfl ?_ (λk=>?_) ?_)))
  ·show (match d8 (aR r) with | some i=>if ks.length<=lim then Out.ok (upd σ z (V.dicT (if i∈ks then ks else ks++[i]),Mode.deep),Flw.next) else .bad | none=>.bad)=_
   rw[iM]
   show (if ks.length<=lim then _ else _)=_
   rw[if_pos (by unfold lim; exact Cz hl h1)]
  ·rw[length_append,length_singleton]
   by_cases e:r∈ks
   ·rw[if_pos e]; exact zv h1
   ·rw[if_neg e,length_append,length_singleton]; exact jR h1
  ·by_cases e:r∈ks
   ·rw[if_pos e,h2,mem_append,mem_singleton]
    exact ⟨.inl,λq=>q.elim id λq=>q▸(h2 r).mp e⟩
   ·rw[if_neg e,mem_append,mem_append,h2]
  ·by_cases e:r∈ks
   ·rw[if_pos e]; exact h3
   ·rw[if_neg e]; exact nodup_append.mpr ⟨h3,by simp,λa h b g q=>e (by rw[mem_singleton.mp g] at q; exact q▸h)⟩
theorem lI (C:Calls) (t:List (List Int)) (hl:t.length<=1000):∃ r,ax C p_known_of [.d (ag t)] = .ok r/\∃ v,r=(v,.deep)/\Kn t v:=by
 unfold p_known_of
 refine dg rfl λσ H=>?_
 refine Runs.set H uW λσ H k=>?_
 refine Runs.for (g:=aa) (xs:=t) (λj σ=>∃ v,σ "known" = some (v,.deep)/\Kn j v) (aJ (H.ev rfl) (a5 t .sh)) (λu _ hh=>(ah .dic0 ((hh _ (by simp[jO,ip])).trans k) (.inl ⟨rfl,rfl⟩))) ?_ ?_
 ·intro j y q n σ i
  refine af (i) λv m K=>?_
  clear i
  have x:j.length<t.length:=by rw[n,length_append,length_cons]; exact xc
  refine af (K.add (σ:=upd σ "choice" (mk (.d (aa y)))) (z:="known") y (IQ hl x)) λo h1 h2=>?_
  have l:upd σ "choice" (mk (.d (aa y))) "known" = some (v,.deep):=(if_neg (by decide)).trans m
  refine Runs.next (σ':=upd (upd σ "choice" (mk (.d (aa y)))) "known" (o,.deep)) ?_ (Runs.nil (ah o (oM _ _ _) h2))
  simp only[cP,rA (C:=C) (lS (C:=C) (σ:=upd σ "choice" (mk (.d (aa y)))) (z:="choice") (p:=(.d (aa y),.sh)) (if_pos rfl) rfl),Out.ok_bind,l]
  exact h1
 ·intro σ' h
  refine af (h) λv m K=>?_
  clear h
  exact Runs.retn m (ah _ rfl (ah v rfl K))
theorem tV (lib:Lib L) (n:Nat) (t:List (List Int)) (v:V) (K:Kn t v) (one other:List Int) (x:Int) (ht:t≠[]) (h:one.length<63):ax (mkC L (n+1)) p_goes [v,.d (aa one),.d (aa other),.d (.int x)] = .ok (sB (da t one other x)):=by
 rcases K with ⟨q,_⟩ | ⟨ks,rfl,_,hk,_⟩
 ·exact absurd q ht
 unfold p_goes da
 refine bU rfl λj H=>?_
 refine Runs.seek (g:=PyData.int) (xs:=one) (λj=>Has j [("known", .dicT ks),("one", .d (aa one)),("other", .d (aa other)),("thing", .d (.int x))]) (λo=>if (!decide (o∈other)&&decide (bn one o x∈t))=true then some () else none) (λuu=>sB true) (aJ (H.ev rfl) (bL one .sh)) (λl h _=>(h _ H).sub (cy rfl rfl rfl rfl trivial)) (λo p j H=>?_) (λq k _=>?_) λuu q k=>?_
 ·have H1:=H.mk "out" (.d (.int o))
  have m:ev (mkC L (n+1)) (.cmp .isin (.bi1 .tuple (.call "exchanged" (.cons (.name "one") (.cons (.name "out") (.cons (.name "thing") .nil))))) (.name "known")) (upd j "out" (mk (.d (.int o)))) = .ok (sB (decide (bn one o x∈t))):=by
   refine br (rA (ch lib.exch (ai (H1.ev rfl) (ai (H1.ev rfl) (ai (H1.ev rfl) ay))) rfl (mh _ one o x h))) (H1.ev (x:="known") rfl) ?_
   show (au (d8 (aR (bn one o x))) λi=>Out.ok (decide (i∈ks)))=_
   rw[iM]
   exact congrArg Out.ok (decide_eq_decide.mpr (hk _))
  refine Runs.ite (f9 (jP (H1.ev rfl) (H1.ev rfl)) λuu=>m) (λq=>Runs.ret (e9 true) (Cont.ret (Sk.ret (q:=()) (if_pos q)))) λq=>Runs.nil (Runs.nil (Sk.next (if_neg (by rw[q]; decide)) (H1.sub (cy rfl rfl rfl rfl trivial))))
 ·rw[ij] at q
  refine Runs.ret (e9 false) ?_
  by_cases e:(one.any λo=>!decide (o∈other)&&decide (bn one o x∈t))=true
  ·rw[if_pos e] at q; cases q
  ·rw[Bool.eq_false_iff.mpr e]
 ·rw[ij] at q
  by_cases e:(one.any λo=>!decide (o∈other)&&decide (bn one o x∈t))=true
  ·rw[e]
  ·rw[if_neg e] at q; cases q
noncomputable def so:Option (List Int×List Int×Int)->V×Mode
 | none=>(.d .none,.deep)
 | some q=>(.d (.tuple [aa q.1,aa q.2.1,.int q.2.2]),.deep)
theorem tA (lib:Lib L) (n:Nat) (c:Nat) (t:List (List Int)) (hc:c<=1000) (hl:t.length<=1000) (h:∀ one∈t,∀ other∈t,∀ x∈other,x∉one->one.length<63):ax (mkC L (n+2)) p_fault [.d (.int c),.d (ag t)] = .ok (so (e8 c t)):=by
 unfold p_fault e8
 refine bU rfl λσ H=>?_
 obtain ⟨_,u,v,m,K⟩:=dD (σ:=σ) (n:=n+1) lib.known (es:=.cons (.name "table") .nil) (ai (H.ev rfl) ay) rfl (lI _ t hl)
 subst m
 refine Runs.set H u λσ H _=>?_
 refine Runs.seek (g:=aa) (xs:=t) (λσ=>Has σ [("table", .d (ag t)),("count", .d (.int c)),("known", v)]) (λone=>(aS c).findSome? λx=>if x∈one then none else t.findSome? λother=>if (decide (x∈other) && !da t one other x)=true then some (one,other,x) else none) (λq=>so (some q)) (aJ (H.ev rfl) (a5 t .sh)) (λl h _=>(h _ H).sub (cZ rfl rfl rfl trivial)) (λone k σ H=>?_) (λq i _=>?_) λq o i=>?_
 ·have H1:=H.mk "one" (.d (aa one))
  refine Runs.seek (g:=PyData.int) (xs:=aS c) (λσ=>Has σ [("table", .d (ag t)),("count", .d (.int c)),("known", v),("one", .d (aa one))]) (λx=>if x∈one then none else t.findSome? λother=>if (decide (x∈other) && !da t one other x)=true then some (one,other,x) else none) (λq=>so (some q)) (bH (H1.ev rfl) (l5 hc)) (λl h _=>(h _ H1).sub (cy rfl rfl rfl rfl trivial)) (λx y σ H=>?_) (λq i H=>Runs.nil ?_) λq o i=>?_
  ·have H2:=H.mk "thing" (.d (.int x))
   refine Runs.ite (jP (H2.ev rfl) (H2.ev rfl)) (λq=>?_) λq=>Runs.nil (Runs.nil ?_)
   ·have j:x∉one:=by simpa using q
    refine Runs.seek (g:=aa) (xs:=t) (λσ=>Has σ [("table", .d (ag t)),("count", .d (.int c)),("known", v),("one", .d (aa one)),("thing", .d (.int x))]) (λother=>if (decide (x∈other) && !da t one other x)=true then some (one,other,x) else none) (λq=>so (some q)) (aJ (H2.ev rfl) (a5 t .sh)) (λl h _=>(h _ H2).sub (lG rfl rfl rfl rfl rfl trivial)) (λother r σ H=>?_) (λq i H=>Runs.nil (Runs.nil ?_)) λq o i=>?_
    ·have H3:=H.mk "other" (.d (aa other))
     refine Runs.ite (f9 (sO (H3.ev rfl) (H3.ev rfl)) λp=>ca (ch lib.goes (ai (H3.ev rfl) (ai (H3.ev rfl) (ai (H3.ev rfl) (ai (H3.ev rfl) ay)))) rfl (tV lib n t v K one other x (List.ne_nil_of_mem k) (h one k other r x (of_decide_eq_true p) j)))) (λq=>?_) λq=>Runs.nil (Runs.nil ?_)
     ·exact Runs.ret (ui (je (H3.ev rfl)) (je (H3.ev rfl)) (H3.ev rfl)) (Cont.ret (Sk.ret (q:=(one,other,x)) (if_pos q)))
     ·exact Sk.next (if_neg (by rw[q]; decide)) (H3.sub (lG rfl rfl rfl rfl rfl trivial))
    ·exact Sk.next ((if_neg j).trans q) (H.sub (cy rfl rfl rfl rfl trivial))
    ·exact Cont.ret (Sk.ret ((if_neg j).trans o))
   ·have j:x∈one:=by simpa using q
    exact Sk.next (if_pos j) (H2.sub (cy rfl rfl rfl rfl trivial))
  ·exact Sk.next q (H.sub (cZ rfl rfl rfl trivial))
  ·exact Sk.ret o
 ·rw[q]; exact Runs.ret jb rfl
 ·rw[o]
noncomputable def p_need_row:Fn:=⟨["count", "things"],
(.cons (.assign "seen" .edic)
(.cons (.for1 "thing" (.e (.name "things"))
(.cons (.ite (.or (.cmp .lt (.name "thing") (.int 0)) (.or (.cmp .ge (.name "thing") (.name "count")) (.cmp .isin (.name "thing") (.name "seen"))))
(.cons (.raise "NoThing")
.nil)
.nil)
(.cons (.setitem "seen" (.name "thing"))
.nil)))
.nil))⟩
noncomputable def iO:Ss:=(.cons (.ite (.or (.cmp .lt (.name "thing") (.int 0)) (.or (.cmp .ge (.name "thing") (.name "count")) (.cmp .isin (.name "thing") (.name "seen"))))
(.cons (.raise "NoThing")
.nil)
.nil)
(.cons (.setitem "seen" (.name "thing"))
.nil))
def Good (c:Int) (xs:List Int):Prop:=(∀ x∈xs,0<=x/\x<c)/\xs.Nodup
def Sn (pre:List Int) (v:V):Prop:=(pre=[]/\v = .dic0)\/∃ ks,v = .dicI ks/\ks.length<=pre.length/\∀ k,k∈ks↔k∈pre
theorem Sn.has (K:Sn pre v) (x:Int):ck .isin (.d (.int x)) v = .ok (decide (x∈pre)):=by
 rcases K with ⟨rfl,rfl⟩ | ⟨ks,rfl,h1,h2⟩
 ·rfl
 ·show Out.ok (decide (x∈ks))=_
  rw[decide_eq_decide.mpr (h2 x)]
theorem Sn.add (K:Sn pre v) (x:Int) (hl:pre.length<=1000):∃ v',fI σ z v (.int x) = .ok (upd σ z (v',.deep),.next)/\Sn (pre++[x]) v':=by
 rcases K with ⟨rfl,rfl⟩ | ⟨ks,rfl,h1,h2⟩
 ·exact (ah (.dicI [x]) rfl (.inr (aF ([x]) rfl (le_refl _) (λk=>Iff.rfl))))
 ·refine (ah (.dicI (if x∈ks then ks else ks++[x])) ?_ (.inr (aF _ rfl ?_ (λk=>?_))))
  ·show (if ks.length<=lim then _ else _)=_
   rw[if_pos (by unfold lim; exact Cz hl h1)]
  ·rw[length_append,length_singleton]
   by_cases e:x∈ks
   ·rw[if_pos e]; exact zv h1
   ·rw[if_neg e,length_append,length_singleton]; exact jR h1
  ·by_cases e:x∈ks
   ·rw[if_pos e,h2,mem_append,mem_singleton]
    exact ⟨.inl,λq=>q.elim id λq=>q▸(h2 x).mp e⟩
   ·rw[if_neg e,mem_append,mem_append,h2]
theorem nu (hC:C "NoThing" = some g) (c:Int):∀ (xs pre:List Int) (σ:St) (v:V),Has σ [("count", .d (.int c))]->σ "seen" = some (v,.deep)->Sn pre v->Good c pre->pre.length+xs.length<=1000 ->
  (Good c (pre++xs)->∃ σ',c6 (λy σ=>exs C iO (upd σ "thing" (mk (.d y)))) (xs.map .int) σ = .ok (σ',.next))/\(¬ Good c (pre++xs)->c6 (λy σ=>exs C iO (upd σ "thing" (mk (.d y)))) (xs.map .int) σ = .exc "NoThing")
 | [],pre,σ,v,H,hs,K,hg,hl=>by
  rw[append_nil]
  exact ⟨λuu=>⟨σ,rfl⟩,λq=>absurd hg q⟩
 | x::xs,pre,σ,v,H,hs,K,hg,hl=>by
  have H1:Has (upd σ "thing" (mk (.d (.int x)))) [("thing", .d (.int x)),("count", .d (.int c))]:=H.mk "thing" (.d (.int x))
  have i:upd σ "thing" (mk (.d (.int x))) "seen" = some (v,.deep):=(if_neg (by decide)).trans hs
  have k:=H1.ev (C:=C) (x:="thing") rfl
  have e2:ev C (.cmp .isin (.name "thing") (.name "seen")) (upd σ "thing" (mk (.d (.int x)))) = .ok (sB (decide (x∈pre))):=br k (by simp only[dH,i]; rfl) (K.has x)
  have m:ev C (.or (.cmp .lt (.name "thing") (.int 0)) (.or (.cmp .ge (.name "thing") (.name "count")) (.cmp .isin (.name "thing") (.name "seen")))) (upd σ "thing" (mk (.d (.int x)))) = .ok (sB (decide (x<0)||(decide (c<=x)||decide (x∈pre)))) :=
   cR (pP k (am 0)) λuu=>cR (BV k (H1.ev rfl)) λuu=>e2
  simp only[map_cons,c6]
  by_cases bad:x<0\/c<=x\/x∈pre
  ·have n:(decide (x<0)||(decide (c<=x)||decide (x∈pre)))=true:=by simpa using bad
   rw[n] at m
   have ng:¬ Good c (pre++x::xs):=λ⟨h1,h2⟩=>by
    have r:=h1 x (by simp)
    rcases bad with q | q | q
    ·exact y6 r q
    ·exact yj r q
    ·exact (nodup_append.mp h2).2.2 x q x (.head _) rfl
   have l:exs C iO (upd σ "thing" (mk (.d (.int x)))) = .exc "NoThing" := by
    unfold iO
    simp only[dm,bz]
    rw[rq m]
    simp only[dm,bz,cP,dT,hC,au]
    rfl
   refine ⟨λq=>absurd q ng,λuu=>?_⟩
   rw[l]; rfl
  ·have n:(decide (x<0)||(decide (c<=x)||decide (x∈pre)))=false:=by simpa using bad
   rw[n] at m
   obtain ⟨j,u,K'⟩:=K.add (σ:=upd σ "thing" (mk (.d (.int x)))) (z:="seen") x (by rw[length_cons] at hl; exact Dx hl)
   have l:exs C iO (upd σ "thing" (mk (.d (.int x)))) = .ok (upd (upd σ "thing" (mk (.d (.int x)))) "seen" (j,.deep),.next):=by
    unfold iO
    rw[io ((mt m).trans g6)]
    refine (io (σ':=upd (upd σ "thing" (mk (.d (.int x)))) "seen" (j,.deep)) ?_).trans g6
    simp only[cP,k,Out.calm_ok,Out.ok_bind,i]
    exact u
   have o:Good c (pre++[x]):=by
    refine ⟨λy hy=>?_,nodup_append.mpr ⟨hg.2,by simp,λa ha b t q=>?_⟩⟩
    ·rcases mem_append.mp hy with h | h
     ·exact hg.1 y h
     ·rw[mem_singleton.mp h]; exact Ez bad
    ·rw[mem_singleton.mp t] at q; (clear H1 K' e2 u n l k t hl i; subst q); exact bad (.inr (.inr ha))
   have p:=nu hC c xs (pre++[x]) (upd (upd σ "thing" (mk (.d (.int x)))) "seen" (j,.deep)) j ((H1.upd "seen" j .deep).sub ⟨rfl,trivial⟩) (oM _ _ _) K' o (by rw[length_append,length_singleton]; rw[length_cons] at hl; exact Iy hl)
   rw[append_assoc] at p
   rw[l]
   exact p
theorem iS (hC:C "NoThing" = some g) (c:Int) (xs:List Int) (hl:xs.length<=1000) :
  (Good c xs->ax C p_need_row [.d (.int c),.d (aa xs)] = .ok (.d .none,.deep))/\(¬ Good c xs->ax C p_need_row [.d (.int c),.d (aa xs)] = .exc "NoThing"):=by
 refine af (dj ["count", "things"] [.d (.int c),.d (aa xs)] rfl) λσ k H=>?_
 have m:bF p_need_row.params [.d (.int c),.d (aa xs)]=some σ:=k
 have p:ex C (.assign "seen" .edic) σ = .ok (upd σ "seen" (.dic0,.deep),.next):=by
  simp only[a7]
  rw[gS (uW (C:=C) (σ:=σ))]
  rfl
 have H1:Has (upd σ "seen" (.dic0,.deep)) [("seen", .dic0),("count", .d (.int c)),("things", .d (aa xs))]:=H.upd "seen" .dic0 .deep
 have l:=aJ (C:=C) (H1.ev (C:=C) (x:="things") rfl) (bL xs .sh)
 refine ae (nu hC c xs [] (consume (upd σ "seen" (.dic0,.deep)) (bZ (.e (.name "things"))) .sh) .dic0 ((H1.sub (l':=[("count", .d (.int c))]) ⟨rfl,trivial⟩).consume _ _) ((gD.2 "seen" (by simp[jO,ip])).trans (oM _ _ _)) (.inl ⟨rfl,rfl⟩) ⟨λuu h=>(nomatch h),.nil⟩ (by simpa using hl)) λj o=>?_
 have i:exs C p_need_row.body σ=(c6 (λy σ=>exs C iO (upd σ "thing" (mk (.d y)))) (xs.map .int) (consume (upd σ "seen" (.dic0,.deep)) (bZ (.e (.name "things"))) .sh)).bind λq=>match q.2 with | .next=>exs C .nil q.1 | .ret v=>.ok (q.1,.ret v):=by
  show exs C (.cons (.assign "seen" .edic) _) σ=_
  rw[io p]
  simp only[dm,bz,cP,eK,im,dT,l,Out.ok_bind]
  rfl
 refine ⟨λq=>?_,λq=>?_⟩
 ·refine ak (j q) λn j=>?_
  rw[j] at i
  unfold ax
  rw[m]
  dsimp only
  rw[i]
  simp only[Out.ok_bind,g6]
 ·rw[o q] at i
  unfold ax
  rw[m]
  dsimp only
  rw[i]
  rfl
def NoF (c:Nat) (t:List (List Int)):Prop:=∀ one∈t,∀ x∈aS c,x∉one->∀ other∈t,x∈other->da t one other x=true
theorem fault_none:e8 c t=none↔NoF c t:=by
 unfold e8 NoF
 rw[List.findSome?_eq_none_iff]
 refine forall_congr' λj=>imp_congr_right λuu=>?_
 rw[List.findSome?_eq_none_iff]
 refine forall_congr' λx=>imp_congr_right λuu=>?_
 by_cases hx:x∈j
 ·simp[hx]
 ·rw[if_neg hx,List.findSome?_eq_none_iff]
  refine ⟨λh _ g k i=>?_,λh g k=>?_⟩
  ·have:=h g k
   cases hc:da t j g x with
   | true=>rfl
   | false=>rw[if_pos (by simp[i,hc])] at this; cases this
  ·by_cases i:x∈g
   ·rw[if_neg (by simp[h hx g k i])]
   ·rw[if_neg (by simp[i])]
theorem wo (h:∀ r,r∈t↔r∈u) (one other:List Int) (x:Int):da t one other x=da u one other x:=by
 unfold da
 congr 1
 funext o
 rw[decide_eq_decide.mpr (h (bn one o x))]
theorem NoF.set (n:NoF c t) (h:∀ r,r∈t↔r∈u):NoF c u:=λi m x l o g k j=>by
 rw[<- wo h]
 exact n i ((h i).mpr m) x l o g ((h g).mpr k) j
theorem NoF.empty (n:NoF c t) (hr:∀ r∈t,Srt c r) (h:[]∈t):∀ r∈t,r=[]:=λr g=>by
 cases r with
 | nil=>rfl
 | cons x r=>
  have i:=(hr _ g).2 x (.head _)
  have:=n [] h x (mem_upTo.mpr i) (λq=>nomatch q) _ g (.head _)
  cases this
theorem NoF.one (c:Nat) (r:List Int):NoF c [r]:=λone k x l j h i g=>by
 rw[mem_singleton.mp k] at j
 rw[mem_singleton.mp i] at g
 exact absurd g j
noncomputable def p_Rule:Fn:=⟨["count", "table"],
(.cons (.ite (.cmp .eq (.bi1 .len (.name "table")) (.int 0))
(.cons (.raise "NoChoice")
.nil)
.nil)
(.cons (.for1 "choice" (.e (.name "table"))
(.cons (.expr (.call "need_row" (.cons (.name "count") (.cons (.name "choice") .nil))))
.nil))
(.cons (.assign "known" (.call "known_of" (.cons (.comp (.bi1 .sorted (.name "choice")) "choice" (.e (.name "table"))) .nil)))
(.cons (.assign "full" (.comp (.bi1 .list (.name "choice")) "choice" (.e (.bi1 .sorted (.bi1 .list (.name "known"))))))
(.cons (.ite (.cmp .isnot (.call "fault" (.cons (.name "count") (.cons (.name "full") .nil))) .none)
(.cons (.raise "NoExchange")
.nil)
.nil)
.nil)))))⟩
structure LibR (L:List (String×Fn)):Prop extends Lib L where
 need:L.lookup "need_row" = some p_need_row
 rule:L.lookup "Rule" = some p_Rule
 nth:∃ f,L.lookup "NoThing" = some f
theorem gX (hL:L.lookup f=some fn) (he:evs (aE (mkC L (n+1))) es σ = .ok q) (hv:q.map (·.1)=vs) (h:ax (mkC L n) fn vs = .ok r) (hp:hH f=true:=by decide) (hl:f ≠ "law" := by decide):ev (aE (mkC L (n+1))) (.call f es) σ = .ok r:=by
 have g:aE (mkC L (n+1)) f=some λvs=>cW f (mkC L n) fn vs:=by
  unfold aE
  rw[if_neg hl]
  show (L.lookup f).map _=_; rw[hL]; rfl
 rw[jE g he,hv,mE hp,h]
theorem Srt.good (h:Srt c r):Good c r:=⟨h.2,h.1.imp λq e=>by rw[e] at q; exact Int.lt_irrefl _ q⟩
theorem ky:∀ ks:List (List Int),dW (ks.map aR)=some ks
 | []=>rfl
 | k::ks=>by simp only[map_cons,dW,iM,ky ks,bind_some,map_some]
theorem qH (h0:ks≠[]) (h64:ks.length<64) (hne:ks.length<2\/[]∉ks):∃ m,b1V .sorted (.d (.list (ks.map aR))) = .ok (.d (.list ((bM ks).map aR)),m):=by
 refine ⟨fresh ((bM ks).map aR),?_⟩
 show dM (ks.map aR)=_
 unfold dM
 have g:aY (ks.map aR)=none:=by
  cases ks with
  | nil=>exact absurd rfl h0
  | cons k ks=>rfl
 rw[if_pos (by rw[length_map]; exact h64),g]
 show fz _=_
 unfold fz
 rw[ky]
 show (if ks.length<2\/[]∉ks then _ else _)=_
 rw[if_pos hne]
theorem xX (r:List Int):b1V .list (.d (aR r)) = .ok (.d (aa r),.deep):=by
 show Out.ok (V.d (.list (r.map PyData.int)),fresh (r.map PyData.int))=_
 have:fresh (r.map PyData.int) = .deep:=by
  unfold fresh
  rw[if_pos]
  rw[all_map,all_eq_true]
  intro _ _; rfl
 rw[this]; rfl
theorem Af {t:List (List Int)}{a b:List Int}(h:t.length<=1) (ha:a∈t) (hb:b∈t):b=a:=by
 rcases t with _ | ⟨x,_ | ⟨y,t⟩⟩
 ·cases ha
 ·rw[mem_singleton.mp ha,mem_singleton.mp hb]
 ·simp at h
theorem tY (lib:LibR L) (n:Nat) (c:Nat) (t:List (List Int)) (hc:c<=1000) (ht:t≠[]) (hl:t.length<=63) (hr:∀ r∈t,r.length<=100/\Srt c r) (h1:1<t.length->∀ r∈t,r.length<=60) (nf:NoF c t) :
  ∃ u x,cT (aE (mkC L (n+3))) p_Rule [.d (.int c),.d (ag t)] = .ok (.rule c (ag u) (x:List Int).length,.deep)/\(∀ r,r∈u↔r∈t)/\u[0]? = some x/\∃ ks,u=bM ks/\ks.Nodup/\ks.length<=t.length:=by
 refine ak (lib.nth) λnt hnt=>?_
 have hNT:mkC L (n+2) "NoThing" = some λvs=>cW "NoThing" (mkC L (n+1)) nt vs:=by show (L.lookup "NoThing").map _=_; rw[hnt]; rfl
 have p:∀ σ,Has σ (["count", "table"].zip [V.d (.int c),V.d (ag t)])->Runs (aE (mkC L (n+3))) p_Rule.body σ (λm fl=>fl = .next/\∃ u:List (List Int),Has m [("count", .d (.int c))]/\m "full" = some (.d (ag u),.deep)/\(∀ r,r∈u↔r∈t)/\∃ ks,u=bM ks/\ks.Nodup/\ks.length<=t.length):=λσ H=>by
  refine Runs.no ((d0 (hU (H.ev (x:="table") rfl)) (am 0)).trans (by rw[decide_eq_false (λq=>ht (List.eq_nil_of_length_eq_zero (Gf q)))])) ?_
  refine Runs.for (g:=aa) (xs:=t) (λpre σ=>Has σ [("count", .d (.int c)),("table", .d (ag t))]) (aJ (H.ev (x:="table") rfl) (a5 t .sh)) (λσ0 h _=>(h _ H).sub ⟨rfl,rfl,trivial⟩) ?_ ?_
  ·rintro pre y post hl' σ H
   have hy:y∈t:=by rw[hl']; simp
   have H1:=H.mk "choice" (.d (aa y))
   refine Runs.expr H1 (gX lib.need (ai (H1.ev (x:="count") rfl) (ai (H1.ev (x:="choice") rfl) ay)) rfl ((iS hNT c y (by have:=(hr y hy).1; exact ir this)).1 (hr y hy).2.good)) λm H' _=>Runs.nil (H'.sub ⟨rfl,rfl,trivial⟩)
  ·rintro σ H
   obtain ⟨m1,e1,_,_⟩:=cQ (C:=aE (mkC L (n+3))) (σ:=σ) (g:=aa) (l:=t) (z:="choice") (it:=.e (.name "table")) (a:=.bi1 .sorted (.name "choice")) (λr=>r) .deep (aJ (H.ev rfl) (a5 t .sh)) λr j=>s5 ((Has.nil.mk "choice" (.d (aa r))).ev rfl) (by have:=(hr r j).1; exact yb this) (λi hi=>((hr r j).2.2 i hi).1) (hr r j).2.1
   rw[List.map_id'] at e1
   obtain ⟨r,e2,v,LA,K⟩:=lI (mkC L (n+2)) t (Jn hl)
   subst LA
   refine Runs.set H (gX lib.known (ai e1 ay) rfl e2) λσ H hk=>?_
   rcases K with ⟨q,_⟩ | ⟨ks,rfl,k1,k2,k3⟩
   ·exact absurd q ht
   have hne:ks.length<2\/[]∉ks:=by
    by_cases q:[]∈ks
    ·left
     have all:=nf.empty (λr j=>(hr r j).2) ((k2 _).mp q)
     rcases ks with _ | ⟨a,_ | ⟨b,ks⟩⟩
     ·simp
     ·simp
     ·have ha:=all a ((k2 a).mp (by simp))
      have hb:=all b ((k2 b).mp (by simp))
      (clear H e2 hk k1 k2 q; subst ha hb)
      simp at k3
    ·exact .inr q
   have h0:ks≠[]:=λq=>by
    refine ak (List.exists_mem_of_ne_nil t ht) λa ha=>?_
    have:=(k2 a).mpr ha
    rw[q] at this; cases this
   have e3:ev (aE (mkC L (n+3))) (.bi1 .list (.name "known")) σ = .ok (.d (.list (ks.map aR)),fresh (ks.map aR)):=by
    rw[dq (H.ev (x:="known") rfl)]
    show ot .list ks=_
    unfold ot
    rw[if_pos ⟨rfl,by unfold lim; exact CS hl k1⟩]
   refine ak (qH h0 (Iw hl k1) hne) λm4 e4=>?_
   have e5:ev (aE (mkC L (n+3))) (.bi1 .sorted (.bi1 .list (.name "known"))) σ = .ok (.d (.list ((bM ks).map aR)),m4):=(dq e3).trans e4
   refine aq (cQ (C:=aE (mkC L (n+3))) (σ:=σ) (g:=aR) (l:=bM ks) (z:="choice") (it:=.e (.bi1 .sorted (.bi1 .list (.name "known")))) (a:=.bi1 .list (.name "choice")) (λr=>r) .deep (aJ e5 rfl) λr _=>(dq ((Has.nil.mk "choice" (.d (aR r))).ev rfl)).trans (xX r)) λm6 e6 hm6 _=>?_
   rw[List.map_id',hm6 rfl] at e6
   have k:∀ r,r∈bM ks↔r∈t:=λr=>((mergeSort_perm ks _).mem_iff).trans (k2 r)
   refine Runs.set H e6 λσ H hf=>?_
   have ef:=tA lib.toLib n c (bM ks) hc (by have:=(mergeSort_perm ks (λa b=>!ltL b a)).length_eq; show (bM ks).length<=_; unfold bM; exact Ic hl k1 this) λr j o ho x hx hn=>by
    by_cases q:1<t.length
    ·have:=h1 q r ((k r).mp j); exact IP this
    ·exact absurd (Af (Jl q) ((k r).mp j) ((k o).mp ho)▸hx) hn
   rw[fault_none.mpr (nf.set λr=>(k r).symm)] at ef
   refine Runs.no (br (t:=false) (gX lib.fault (ai (H.ev (x:="count") rfl) (ai (H.ev (x:="full") rfl) ay)) rfl ef) jb rfl) ?_
   exact Runs.nil (aB rfl (bw (bM ks) (H.sub ⟨rfl,trivial⟩) hf k (aF ks rfl k3 k1)))
 refine af (dj ["count", "table"] [V.d (.int c),V.d (ag t)] rfl) λσ hσ H=>?_
 obtain ⟨m,fl,he,Lx,u,H',hu,hm,hks⟩:=p σ H
 subst Lx
 obtain ⟨x,hx⟩:∃ x,u[0]? = some x:=by
  cases u with
  | nil=>
   refine ak (List.exists_mem_of_ne_nil t ht) λa ha=>?_
   have:=(hm a).mpr ha
   cases this
  | cons x u=>exact ⟨x,rfl⟩
 refine (be u x ?_ hm hx hks)
 refine ak (H' "count" _ rfl) λmc hcnt=>?_
 unfold cT
 rw[show bF p_Rule.params [V.d (.int c),V.d (ag t)]=some σ from hσ]
 dsimp only
 rw[he]
 simp only[Out.ok_bind]
 unfold e7
 rw[hcnt,hu]
 show (au ((u.map aa)[0]?) _)=_
 rw[List.getElem?_map,hx]
 show Out.ok (V.rule c (.list (u.map aa)) ((x.map PyData.int).length:Int),Mode.deep)=_
 rw[length_map]
 rfl
theorem rx:∀ {a b:List Int},a.Nodup->(∀ x∈a,x∈b)->a.length<=b.length
 | [],_,_,_=>zero_le _
 | x::a,b,hn,h=>by
  have i:=h x (.head _)
  refine ae (nodup_cons.mp hn) λk j=>?_
  have:=rx (b:=b.erase x) j λy g=>(List.mem_erase_of_ne (λ(q:y=x)=>k (q▸g))).mpr (h y (.tail _ g))
  rw[List.length_erase_of_mem i] at this
  have l:0<b.length:=List.length_pos_of_mem i
  rw[length_cons]; exact E9 this l
theorem CH (hL:L.lookup f=some fn) (he:evs (aE (mkC L (n+1))) es σ = .ok q) (hv:q.map (·.1)=vs) (h:ax (mkC L n) fn vs = .exc c) (hp:hH f=true:=by decide) (hl:f ≠ "law" := by decide):ev (aE (mkC L (n+1))) (.call f es) σ = .exc c:=by
 have g:aE (mkC L (n+1)) f=some λvs=>cW f (mkC L n) fn vs:=by
  unfold aE
  rw[if_neg hl]
  show (L.lookup f).map _=_; rw[hL]; rfl
 rw[jE g he,hv,mE hp,h]
theorem fE (hC:C "Rule" = some g) (h:ev C a σ = .ok (.rule c d k,m)):ev C (.attr a "count") σ = .ok (sI c)/\ev C (.attr a "full") σ = .ok (mk (.d d))/\ev C (.attr a "size") σ = .ok (sI k):=by
 refine ⟨?_,?_,?_⟩<;>(simp only[kN,hC,au,h,Out.ok_bind]; rfl)
noncomputable def l_bit:Fn:=⟨["_law_cell", "_law_k"],
(.cons (.for1 "_law_j" (.r1 (.name "_law_k"))
(.cons (.assign "_law_cell" (.bin .fdiv (.name "_law_cell") (.int 2)))
.nil))
(.cons (.ret (.cmp .eq (.bin .mod (.name "_law_cell") (.int 2)) (.int 1)))
.nil))⟩
noncomputable def l_held:Fn:=⟨["_law_script"],
(.cons (.assign "_law_made" (.call "_law_table" (.cons (.name "_law_script") .nil)))
(.cons (.ite (.or (.cmp .eq (.sub (.name "_law_made") (.int 1)) (.list .nil)) (.cmp .isnot (.call "_law_fault" (.cons (.sub (.name "_law_made") (.int 0)) (.cons (.sub (.name "_law_made") (.int 1)) .nil))) .none))
(.cons (.ret (.tup (.cons (.sub (.name "_law_made") (.int 0)) (.cons (.list (.cons (.compif (.name "_law_thing") "_law_thing" (.r1 (.sub (.name "_law_made") (.int 0))) (.call "_law_bit" (.cons (.call "_law_cell_at" (.cons (.name "_law_script") (.cons (.int 2) .nil))) (.cons (.name "_law_thing") .nil)))) .nil)) .nil))))
.nil)
.nil)
(.cons (.retn "_law_made")
.nil)))⟩
structure LibH (L:List (String×Fn)):Prop extends Lib L where
 bit:L.lookup "_law_bit" = some l_bit
 held:L.lookup "_law_held" = some l_held
structure Hd (c:Nat) (t:List (List Int)):Prop where
 hc:c<=100
 ne:t≠[]
 len:t.length<=63
 rows:∀ r∈t,r.length<=100/\Srt c r
 few:1<t.length->∀ r∈t,r.length<=60
 nf:NoF c t
theorem v6 (C:Calls) (x:Int) (k:Nat) (hk:k<=1000):∃ r,ax C l_bit [.d (.int x),.d (.int k)] = .ok r/\∃ b,r=sB b:=by
 unfold l_bit
 refine dg rfl λi H=>?_
 refine Runs.for (g:=PyData.int) (xs:=aS k) (λm i=>∃ y:Int,Has i [("_law_cell", .d (.int y))]) (bH (H.ev rfl) (l5 hk)) (λo h _=>⟨x,(h _ H).sub ⟨rfl,trivial⟩⟩) ?_ ?_
 ·intro m y n p i l
  refine ak (l) λz H=>?_
  clear l
  have H1:=H.mk "_law_j" (.d (.int y))
  exact Runs.set H1 (cL (H1.ev rfl) (am 2) (by decide) (by decide)) λi H _=>Runs.nil ⟨_,H.sub ⟨rfl,trivial⟩⟩
 ·intro i j
  refine ak (j) λz H=>?_
  clear j
  exact Runs.ret (d0 (aW (H.ev rfl) (am 2) (by decide)) (am 1)) (ah _ rfl (bV _ rfl))
theorem Gk (ha:ev C a σ = .ok (.d (ag t),m)) (hb:ev C b σ = .ok (.d (ag u),m')):ev C (.cmp .eq a b) σ = .ok (sB (decide (t=u))):=br ha hb (z7 t u)
theorem BD (ha:ev C a σ = .ok (.d (aa r),m)):∃ m,ev C (.list (.cons a .nil)) σ = .ok (.d (ag [r]),m):=by
 refine ⟨if allDeep [(.d (aa r),m)] then .deep else .top,?_⟩
 simp only[cE,bq,bl,ha,Out.ok_bind]
 rfl
theorem uq (lib:LibH L) (n:Nat) (s:List Int) (hs:s.length<=63):∃ r,ax (mkC L (n+4)) l_held [.d (aa s)] = .ok r/\∃ (c:Nat) (t:List (List Int)),r.1 = .d (.tuple [.int c,ag t])/\Hd c t:=by
 unfold l_held
 refine dg rfl λσ H=>?_
 obtain ⟨u,v,c,t,g,h0,h,h2,k⟩:=dD (σ:=σ) (n:=n+3) lib.table (es:=.cons (.name "_law_script") .nil) (ai (H.ev rfl) ay) rfl (sv lib.toLib n s hs)
 obtain ⟨rv,rm⟩:=u
 cases g
 obtain ⟨c,rfl⟩:∃ d:Nat,c=d:=⟨c.toNat,by exact FG h0⟩
 refine Runs.set H v λσ H hσ=>?_
 have j:∀ {σ:St}{l:List (String×V)},Has σ l->l.lookup "_law_made" = some (.d (.tuple [.int c,ag t]))->ev (mkC L (n+4)) (.sub (.name "_law_made") (.int 0)) σ = .ok (sI c)/\ev (mkC L (n+4)) (.sub (.name "_law_made") (.int 1)) σ = .ok (.d (ag t),.sh):=λH a=>⟨gq (m:=.sh) (H.ev a) (am 0),f8 (m:=.sh) (H.ev a) (am 1)⟩
 refine ae (j H rfl) λy d2=>?_
 have o:=ch (σ:=σ) lib.lfault (ai y (ai d2 ay)) rfl (qO lib.toLib (n+2) c t (Eh h) λr g=>by have:=(k r g).1; exact H4 this)
 have en:ev (mkC L (n+4)) (.cmp .isnot (.call "_law_fault" (.cons (.sub (.name "_law_made") (.int 0)) (.cons (.sub (.name "_law_made") (.int 1)) .nil))) .none) σ = .ok (sB (!decide (e8 c t=none))):=by
  cases hf:e8 c t with
  | none=>
   rw[hf] at o
   exact br o jb rfl
  | some q=>
   rw[hf] at o
   exact br (mx:=.sh) o jb rfl
 refine Runs.ite (cR (Gk d2 jY) λuu=>en) (λuu=>?_) λq=>Runs.nil ?_
 ·obtain ⟨p,hp⟩:=ke (l:=aS c) (Q:=λi b=>ev (mkC L (n+4)) (.call "_law_bit" (.cons (.call "_law_cell_at" (.cons (.name "_law_script") (.cons (.int 2) .nil))) (.cons (.name "_law_thing") .nil))) (upd σ "_law_thing" (sI i)) = .ok (sB b)) λi hi=>by
   have H2:Has (upd σ "_law_thing" (sI i)) _:=H.upd "_law_thing" (.d (.int i)) .deep
   obtain ⟨i,rfl⟩:∃ d:Nat,i=d:=⟨i.toNat,by have:=mem_upTo.mp hi; exact Dt this⟩
   obtain ⟨_,v,b,rfl⟩:=dD (n:=n+3) lib.bit (es:=.cons (.call "_law_cell_at" (.cons (.name "_law_script") (.cons (.int 2) .nil))) (.cons (.name "_law_thing") .nil)) (ai (b7 lib.toLib (H2.ev rfl) (am 2) (by decide)) (ai (H2.ev rfl) ay)) rfl (v6 _ _ i (by have:=mem_upTo.mp hi; exact CN h this))
   exact ⟨b,v⟩
  refine ak (BD (dl (z:="_law_thing") p (bH y (HG h)) hp)) λm1 e3=>?_
  refine cO y e3 λm2 e4=>?_
  have hl:((aS c).filter p).length<=100:=by
   have:=length_filter_le p (aS c)
   rw[bI] at this; exact Dy h this
  refine Runs.ret e4 ⟨_,rfl,c,_,rfl,by exact zS h,by simp,by simp,λr g=>?_,λq=>by simp at q,.one c _⟩
  rw[mem_singleton.mp g]
  exact ⟨hl,(kF c).filter _,λx hx=>mem_upTo.mp (mem_filter.mp hx).1⟩
 ·refine ak (H "_law_made" _ rfl) λm e=>?_
  refine ae (or_eq_false_iff.mp q) λq1 q2=>?_
  refine Runs.retn e ⟨_,rfl,c,t,rfl,by exact zS h,of_decide_eq_false q1,h2,λr g=>⟨by have:=(k r g).1; exact Dl this,(k r g).2⟩,λuu r g=>by have:=(k r g).1; exact FY this,fault_none.mp ?_⟩
  simpa using q2
theorem Am (lib:LibR L) (n:Nat) (h:Hd c t):∃ u x,cT (aE (mkC L (n+3))) p_Rule [.d (.int c),.d (ag t)] = .ok (.rule c (ag u) (x:List Int).length,.deep)/\(∀ r,r∈u↔r∈t)/\u[0]? = some x/\∃ ks,u=bM ks/\ks.Nodup/\ks.length<=t.length :=
 tY lib n c t (by have:=h.hc; exact ir this) h.ne h.len h.rows h.few h.nf
theorem zW (lib:LibR L) (he:evs (mkC L (n+1)) es σ = .ok q) (hv:q.map (·.1)=vs) (h:cT (aE (mkC L n)) p_Rule vs = .ok r):ev (mkC L (n+1)) (.call "Rule" es) σ = .ok r:=by
 have g:mkC L (n+1) "Rule" = some λvs=>cW "Rule" (mkC L n) p_Rule vs:=by show (L.lookup "Rule").map _=_; rw[lib.rule]; rfl
 rw[jE g he,hv]
 exact h
noncomputable def l_row_is:Fn:=⟨["_law_found", "_law_due"],
(.cons (.ite (.or (.not (.isi (.name "_law_found") "list")) (.cmp .ne (.bi1 .len (.name "_law_found")) (.bi1 .len (.name "_law_due"))))
(.cons (.ret (.bool false))
.nil)
.nil)
(.cons (.for1 "_law_k" (.r1 (.bi1 .len (.name "_law_due")))
(.cons (.ite (.or (.not (.call "_law_whole" (.cons (.sub (.name "_law_found") (.name "_law_k")) .nil))) (.cmp .ne (.sub (.name "_law_found") (.name "_law_k")) (.sub (.name "_law_due") (.name "_law_k"))))
(.cons (.ret (.bool false))
.nil)
.nil)
.nil))
(.cons (.ret (.bool true))
.nil)))⟩
theorem km (lib:Lib L) (n:Nat) (r:List Int) (hl:r.length<=1000):ax (mkC L (n+1)) l_row_is [.d (aa r),.d (aa r)] = .ok (sB true):=by
 unfold l_row_is
 refine bU rfl λi H=>?_
 refine Runs.no (cR (p:=false) (q:=false) (ca (t:=true) (lV (H.ev (x:="_law_found") rfl) rfl)) λuu=>(dJ (cY (H.ev (x:="_law_found") rfl)) (cY (H.ev (x:="_law_due") rfl))).trans (by simp)) ?_
 refine Runs.for (g:=PyData.int) (xs:=aS r.length) (λj i=>Has i [("_law_found", .d (aa r)),("_law_due", .d (aa r))]) (bH (cY (H.ev (x:="_law_due") rfl)) (l5 hl)) (λu h _=>(h _ H).sub ⟨rfl,rfl,trivial⟩) ?_ λi H=>Runs.ret (e9 true) rfl
 intro j y l z i H
 have k:=mem_upTo.mp (show y∈aS r.length by rw[z]; simp)
 have H1:=H.mk "_law_k" (.d (.int y))
 obtain ⟨v,m⟩:∃ v,r[y.toNat]? = some v:=⟨_,List.getElem?_eq_getElem (zG k)⟩
 have o:ev (mkC L (n+1)) (.sub (.name "_law_found") (.name "_law_k")) (upd i "_law_k" (mk (.d (.int y)))) = .ok (sI v):=eQ (H1.ev rfl) (H1.ev rfl) k.1 m
 have e2:ev (mkC L (n+1)) (.sub (.name "_law_due") (.name "_law_k")) (upd i "_law_k" (mk (.d (.int y)))) = .ok (sI v):=eQ (H1.ev rfl) (H1.ev rfl) k.1 m
 exact Runs.no (cR (p:=false) (q:=false) (ca (t:=true) (ch lib.whole (ai o ay) rfl (lh _ v))) λuu=>(dJ o e2).trans (by simp)) (Runs.nil (H1.sub ⟨rfl,rfl,trivial⟩))
theorem kY (lib:LibR L) (n:Nat):∃ g,mkC L (n+1) "Rule" = some g:=⟨_,by show (L.lookup "Rule").map _=_; rw[lib.rule]; rfl⟩
noncomputable def p_need_full:Fn:=⟨["self", "choice"],
(.cons (.expr (.call "need_row" (.cons (.attr (.name "self") "count") (.cons (.name "choice") .nil))))
(.cons (.ite (.cmp .notin (.bi1 .sorted (.name "choice")) (.attr (.name "self") "full"))
(.cons (.raise "NoChoice")
.nil)
.nil)
(.cons (.ret (.bi1 .sorted (.name "choice")))
.nil)))⟩
noncomputable def p_outs:Fn:=⟨["self", "choice", "thing"],
(.cons (.assign "held" (.meth (.name "self") "need_full" (.cons (.name "choice") .nil)))
(.cons (.ite (.or (.cmp .lt (.name "thing") (.int 0)) (.or (.cmp .ge (.name "thing") (.attr (.name "self") "count")) (.cmp .isin (.name "thing") (.name "held"))))
(.cons (.raise "NoThing")
.nil)
.nil)
(.cons (.ret (.compif (.name "out") "out" (.e (.name "held")) (.cmp .isin (.call "exchanged" (.cons (.name "held") (.cons (.name "out") (.cons (.name "thing") .nil)))) (.attr (.name "self") "full"))))
.nil)))⟩
noncomputable def p_exchanges:Fn:=⟨["self", "choice"],
(.cons (.assign "held" (.meth (.name "self") "need_full" (.cons (.name "choice") .nil)))
(.cons (.ret (.compif (.tup (.cons (.name "thing") (.cons (.meth (.name "self") "outs" (.cons (.name "held") (.cons (.name "thing") .nil))) .nil))) "thing" (.r1 (.attr (.name "self") "count")) (.cmp .notin (.name "thing") (.name "held"))))
.nil))⟩
structure LibE (L:List (String×Fn)):Prop extends LibR L where
 nch:(L.lookup "NoChoice").isSome=true
 nf:L.lookup "need_full" = some p_need_full
 outs:L.lookup "outs" = some p_outs
 exs:L.lookup "exchanges" = some p_exchanges
theorem xm (xs:List Int) (t:List (List Int)):ck .notin (.d (aa xs)) (.d (ag t)) = .ok (!decide (xs∈t)):=by
 show ((inV (aa xs) (.d (ag t))).bind λb=>Out.ok (!b))=_
 rw[pD]; rfl
theorem dR (hC:C f=mkC L (n+1) f) (hL:L.lookup f=some fn) (hk:∀ vs,cW f (mkC L n) fn vs=ax (aE (mkC L n)) fn vs) {σ:St}{a:E}{es:Es}{q:List (V×Mode)}{vs:List V}{m:Mode}{c k:Int}{d:PyData}(ha:ev C a σ = .ok (.rule c d k,m)) (he:evs C es σ = .ok q) (hv:q.map (·.1)=vs) :
  ev C (.meth a f es) σ=ax (aE (mkC L n)) fn (.rule c d k::vs):=by
 have g:C f=some λvs=>cW f (mkC L n) fn vs:=by rw[hC]; show (L.lookup f).map _=_; rw[hL]; rfl
 simp only[kH,ha,Out.ok_bind,fU,au,g,he,hv]
 exact hk _
theorem c9 (h:f ≠ "law"):aE C f=C f:=by unfold aE; rw[if_neg h]
theorem eE (h:(L.lookup f).isSome=true) (n:Nat):∃ g,mkC L (n+1) f=some g:=by
 refine bK h λj i=>?_
 exact ⟨_,by show (L.lookup f).map _=_; rw[i]; rfl⟩
theorem hV {ps:List String}(hl:ps.length=vs.length) (h:∀ σ,Has σ (ps.zip vs)->ex C s σ = .exc c):ax C ⟨ps,.cons s b⟩ vs = .exc c:=by
 refine af (dj ps vs hl) λσ g H=>?_
 unfold ax
 rw[show bF (Fn.mk ps (.cons s b)).params vs=some σ from g]
 dsimp only
 rw[bz,h σ H]
 rfl
theorem Good.nn (h:Good c xs):∀ i∈xs,0<=i:=λi g=>(h.1 i g).1
theorem nH (lib:LibE L) (n:Nat) (c k:Int) (u:List (List Int)) (xs:List Int) (hl:xs.length<128):(¬ Good c xs->ax (aE (mkC L (n+2))) p_need_full [.rule c (ag u) k,.d (aa xs)] = .exc "NoThing")/\(Good c xs->aD xs∉u->ax (aE (mkC L (n+2))) p_need_full [.rule c (ag u) k,.d (aa xs)] = .exc "NoChoice") /\
  (Good c xs->aD xs∈u->ax (aE (mkC L (n+2))) p_need_full [.rule c (ag u) k,.d (aa xs)] = .ok (.d (aa (aD xs)),.deep)):=by
 obtain ⟨gR,j⟩:∃ g,aE (mkC L (n+2)) "Rule" = some g:=by rw[c9 (by decide)]; exact kY lib.toLibR (n+1)
 obtain ⟨gN,hN⟩:∃ g,aE (mkC L (n+2)) "NoChoice" = some g:=by rw[c9 (by decide)]; exact eE lib.nch (n+1)
 refine ak (lib.nth) λfT hT=>?_
 have p:mkC L (n+1) "NoThing" = some λv=>cW "NoThing" (mkC L n) fT v:=by show (L.lookup "NoThing").map _=_; rw[hT]; rfl
 refine ae (iS p c xs (Gc hl)) λq y=>?_
 have r:∀ {h:St}{l:List (String×V)},Has h l->l.lookup "self" = some (.rule c (ag u) k)->l.lookup "choice" = some (.d (aa xs))->Good c xs->ev (aE (mkC L (n+2))) (.cmp .notin (.bi1 .sorted (.name "choice")) (.attr (.name "self") "full")) h = .ok (sB (!decide (aD xs∈u))):=λH a b i=>
  br (fb (H.ev b) hl i.nn) (fE j (H.ev a)).2.1 (xm _ _)
 unfold p_need_full
 refine ⟨λi=>hV rfl λh H=>?_,λi o=>?_,λi o=>bU rfl λh H=>?_⟩
 ·rw[c8,CH lib.need (ai (fE j (H.ev (x:="self") rfl)).1 (ai (H.ev (x:="choice") rfl) ay)) rfl (y i)]; rfl
 ·refine af (dj ["self", "choice"] [.rule c (ag u) k,.d (aa xs)] rfl) λh m H=>?_
  have e1:=gX lib.need (ai (fE j (H.ev (x:="self") rfl)).1 (ai (H.ev (x:="choice") rfl) ay)) rfl (q i)
  have t:=r H rfl rfl i
  rw[decide_eq_false o] at t
  have z:∀ ns,consume h ns .deep=h:=λ_=>if_pos rfl
  unfold ax
  rw[show bF (Fn.mk ["self", "choice"] _).params [.rule c (ag u) k,.d (aa xs)]=some h from m]
  dsimp only
  rw[bz,c8,e1]
  simp only[Out.ok_bind,z,bz,eK]
  rw[show ev (aE (mkC L (n+2))) (.cmp .notin (.bi1 .sorted (.name "choice")) (.attr (.name "self") "full")) h = .ok (sB true) from t]
  simp only[Out.ok_bind,dm,dT,hN,au]
  rfl
 ·refine Runs.expr H (gX lib.need (ai (fE j (H.ev (x:="self") rfl)).1 (ai (H.ev (x:="choice") rfl) ay)) rfl (q i)) λh H _=>?_
  refine Runs.no ((r H rfl rfl i).trans (by simp[o])) ?_
  exact Runs.ret (fb (H.ev rfl) hl i.nn) rfl
theorem li (C:Calls) (r:List Int) (o x:Int) (h:r.length<127) (h0:∀ i∈r,0<=i) (hx:0<=x):ax C p_exchanged [.d (aa r),.d (.int o),.d (.int x)] = .ok (.d (aa (bn r o x)),.deep):=by
 have g:(r.filter λx=>!decide (x=o)).length<=r.length:=length_filter_le ..
 unfold p_exchanged
 refine bU rfl λk H=>Runs.ret (fb (dE (dl (λi=>!decide (i=o)) (aJ (H.ev (x:="choice") rfl) (bL r .sh)) λi _=>?_) (eT (H.ev (x:="thing") rfl)) (by rw[length_singleton]; exact zL h g)) (by rw[length_append,length_singleton]; exact zp h g) λi j=>?_) rfl
 ·have H2:=H.upd "one" (.d (.int i)) .deep
  exact dJ (H2.ev (x:="one") rfl) (H2.ev (x:="out") rfl)
 ·rcases mem_append.mp j with q | q
  ·exact h0 i (mem_filter.mp q).1
  ·rw[mem_singleton.mp q]; exact hx
noncomputable def dZ (u:List (List Int)) (r:List Int) (x:Int):List Int:=r.filter λo=>decide (bn r o x∈u)
theorem k7 (h:Good c xs):Good c (aD xs):=⟨λx g=>h.1 x ((mergeSort_perm xs _).mem_iff.mp g),(mergeSort_perm xs _).nodup_iff.mpr h.2⟩
theorem jm (xs:List Int):(aD xs).length=xs.length:=(mergeSort_perm xs _).length_eq
theorem iZ (lib:LibE L) (n:Nat) (c k:Int) (u:List (List Int)) (xs:List Int) (x:Int) (hl:xs.length<127) :
  (¬ Good c xs->ax (aE (mkC L (n+3))) p_outs [.rule c (ag u) k,.d (aa xs),.d (.int x)] = .exc "NoThing")/\(Good c xs->aD xs∉u->ax (aE (mkC L (n+3))) p_outs [.rule c (ag u) k,.d (aa xs),.d (.int x)] = .exc "NoChoice") /\
  (Good c xs->aD xs∈u->(x<0\/c<=x\/x∈xs)->ax (aE (mkC L (n+3))) p_outs [.rule c (ag u) k,.d (aa xs),.d (.int x)] = .exc "NoThing") /\
  (Good c xs->aD xs∈u->0<=x->x<c->x∉xs->ax (aE (mkC L (n+3))) p_outs [.rule c (ag u) k,.d (aa xs),.d (.int x)] = .ok (.d (aa (dZ u (aD xs) x)),.deep)):=by
 obtain ⟨gR,v⟩:∃ g,aE (mkC L (n+3)) "Rule" = some g:=by rw[c9 (by decide)]; exact kY lib.toLibR (n+2)
 refine ak (lib.nth) λfT hT=>?_
 obtain ⟨gT,t⟩:∃ g,aE (mkC L (n+3)) "NoThing" = some g:=by rw[c9 (by decide)]; exact eE (by rw[hT]; rfl) (n+2)
 refine aG (nH lib n c k u xs (ya hl)) λf1 f2 z=>?_
 have q:∀ {h:St}{l:List (String×V)},Has h l->l.lookup "self" = some (.rule c (ag u) k)->l.lookup "choice" = some (.d (aa xs))->ev (aE (mkC L (n+3))) (.meth (.name "self") "need_full" (.cons (.name "choice") .nil)) h=ax (aE (mkC L (n+2))) p_need_full [.rule c (ag u) k,.d (aa xs)]:=λH a b=>
  dR (c9 (by decide)) lib.nf (λ_=>rfl) (H.ev a) (ai (H.ev b) ay) rfl
 have eb:∀ {h:St}{l:List (String×V)},Has h l->l.lookup "self" = some (.rule c (ag u) k)->l.lookup "thing" = some (.d (.int x))->l.lookup "held" = some (.d (aa (aD xs)))->ev (aE (mkC L (n+3))) (.or (.cmp .lt (.name "thing") (.int 0)) (.or (.cmp .ge (.name "thing") (.attr (.name "self") "count")) (.cmp .isin (.name "thing") (.name "held")))) h = .ok (sB (decide (x<0)||(decide (c<=x)||decide (x∈aD xs)))):=λH a b d=>
  cR (pP (H.ev b) (am 0)) λ_=>cR (BV (H.ev b) (fE v (H.ev a)).1) λ_=>sO (H.ev b) (H.ev d)
 have i:x∈aD xs↔x∈xs:=(mergeSort_perm xs _).mem_iff
 unfold p_outs
 refine ⟨λj=>hV rfl λh H=>?_,λj p=>hV rfl λh H=>?_,λj p hb=>?_,λj p y h1 h2=>bU rfl λh H=>?_⟩
 ·rw[a7]; unfold evA; rw[if_neg (by decide),q H rfl rfl,f1 j]; rfl
 ·rw[a7]; unfold evA; rw[if_neg (by decide),q H rfl rfl,f2 j p]; rfl
 ·refine af (dj ["self", "choice", "thing"] [.rule c (ag u) k,.d (aa xs),.d (.int x)] rfl) λh r H=>?_
  have e1:=(q H rfl rfl).trans (z j p)
  have H2:=H.upd "held" (.d (aa (aD xs))) .deep
  have e2:=eb H2 rfl rfl rfl
  have m:(decide (x<0)||(decide (c<=x)||decide (x∈aD xs)))=true:=by
   simp only[i,or_eq_true,decide_eq_true_eq]; exact hb
  rw[m] at e2
  have hc:∀ ns,consume h ns .deep=h:=λ_=>if_pos rfl
  unfold ax
  rw[show bF (Fn.mk ["self", "choice", "thing"] _).params [.rule c (ag u) k,.d (aa xs),.d (.int x)]=some h from r]
  dsimp only
  rw[bz,a7,gS e1]
  simp only[Out.ok_bind,hc,bz,eK]
  rw[e2]
  simp only[Out.ok_bind,dm,dT,t,au]
  rfl
 ·refine Runs.set H ((q H rfl rfl).trans (z j p)) λh H _=>?_
  have m:(decide (x<0)||(decide (c<=x)||decide (x∈aD xs)))=false:=by
   simp only[i,or_eq_false_iff,decide_eq_false_iff_not]; exact ⟨by exact zy y,by exact JE h1,h2⟩
  refine Runs.no ((eb H rfl rfl rfl).trans (by rw[m])) ?_
  refine Runs.ret (dl (λo=>decide (bn (aD xs) o x∈u)) (aJ (H.ev (x:="held") rfl) (bL _ .sh)) λo ho=>?_) rfl
  have H3:=H.upd "out" (.d (.int o)) .deep
  exact sV (gX lib.exch (ai (H3.ev (x:="held") rfl) (ai (H3.ev (x:="out") rfl) (ai (H3.ev (x:="thing") rfl) ay))) rfl (li _ (aD xs) o x (by rw[jm]; exact hl) (k7 j).nn y)) (fE v (H3.ev (x:="self") rfl)).2.1
noncomputable def aN (p:Int×List Int):PyData:=.tuple [.int p.1,aa p.2]
noncomputable def aQ (l:List (Int×List Int)):PyData:=.list (l.map aN)
theorem jg:∀ {l:List α},(∀ i∈l,F (e i) = .ok (if p i then some (.d (f i),.deep) else none))->bp F (l.map e) = .ok ((l.filter p).map f,true)
 | [],_=>rfl
 | i::l,h=>by
  rw[map_cons,bp,h i (.head _),jg (l:=l) λj g=>h j (.tail _ g)]
  simp only[Out.ok_bind]
  cases hp:p i
  ·simp[hp,filter_cons]
  ·simp[hp,filter_cons]
section
theorem t0 {α:Type}{g f:α->PyData}{p:α->Bool}{l:List α}{z:String}{it:It}{r:Mode}{c:E}(h:bh C it σ = .ok (l.map g,r)) (hp:∀ i∈l,ev C c (upd σ z (mk (.d (g i)))) = .ok (sB (p i))) (hc:∀ i∈l,p i=true->ev C a (upd σ z (mk (.d (g i)))) = .ok (.d (f i),.deep)) :
  ev C (.compif a z it c) σ = .ok (.d (.list ((l.filter p).map f)),.deep) :=
 jd h (jg λi j=>by
  rw[hp i j]
  cases hq:p i with
  | true=>simp only[Out.ok_bind,fQ,bt,if_true,hc i j hq]
  | false=>simp only[Out.ok_bind,fQ,bt,false_eq_true,if_false])
theorem zX {α:Type}{g f:α->PyData}{l:List α}{z:String}{it:It}{r:Mode}(h:bh C it σ = .ok (l.map g,r)) (hc:∀ i∈l,ev C a (upd σ z (mk (.d (g i)))) = .ok (.d (f i),.deep)):ev C (.comp a z it) σ = .ok (.d (.list (l.map f)),.deep):=by
 have:=jg (F:=λy=>(ev C a (upd σ z (mk (.d y)))).bind λr=>.ok (some r)) (e:=g) (f:=f) (p:=λ_=>true) (l:=l) λi j=>by rw[hc i j]; rfl
 rw[List.filter_eq_self.mpr (λ_ _=>rfl)] at this
 exact mM h this
theorem mG (ha:ev C a σ = .ok (sI x)) (hb:ev C b σ = .ok (.d (aa ys),.deep)):ev C (.tup (.cons a (.cons b .nil))) σ = .ok (.d (aN (x,ys)),.deep):=by
 simp only[g8,bq,bl,ha,hb,Out.ok_bind]; rfl
end
theorem nQ (xs:List Int):aD (aD xs)=aD xs:=kP (.refl _) (jq xs)
noncomputable def bO (u:List (List Int)) (r:List Int) (c:Nat):List (Int×List Int):=((aS c).filter λx=>!decide (x∈r)).map λx=>(x,dZ u r x)
theorem kK (lib:LibE L) (n:Nat) (c:Nat) (k:Int) (u:List (List Int)) (xs:List Int) (hc:c<=1000) (hl:xs.length<127) :
  (¬ Good c xs->ax (aE (mkC L (n+4))) p_exchanges [.rule c (ag u) k,.d (aa xs)] = .exc "NoThing")/\(Good c xs->aD xs∉u->ax (aE (mkC L (n+4))) p_exchanges [.rule c (ag u) k,.d (aa xs)] = .exc "NoChoice") /\
  (Good c xs->aD xs∈u->ax (aE (mkC L (n+4))) p_exchanges [.rule c (ag u) k,.d (aa xs)] = .ok (.d (aQ (bO u (aD xs) c)),.deep)):=by
 obtain ⟨gR,t⟩:∃ g,aE (mkC L (n+4)) "Rule" = some g:=by rw[c9 (by decide)]; exact kY lib.toLibR (n+3)
 refine aG (nH lib (n+1) c k u xs (ya hl)) λf1 y v=>?_
 have m:∀ {σ:St}{l:List (String×V)},Has σ l->l.lookup "self" = some (.rule c (ag u) k)->l.lookup "choice" = some (.d (aa xs))->ev (aE (mkC L (n+4))) (.meth (.name "self") "need_full" (.cons (.name "choice") .nil)) σ=ax (aE (mkC L (n+3))) p_need_full [.rule c (ag u) k,.d (aa xs)]:=λH a b=>
  dR (c9 (by decide)) lib.nf (λ_=>rfl) (H.ev a) (ai (H.ev b) ay) rfl
 unfold p_exchanges
 refine ⟨λh=>hV rfl λσ H=>?_,λh j=>hV rfl λσ H=>?_,λh j=>bU rfl λσ H=>?_⟩
 ·rw[a7]; unfold evA; rw[if_neg (by decide),m H rfl rfl,f1 h]; rfl
 ·rw[a7]; unfold evA; rw[if_neg (by decide),m H rfl rfl,y h j]; rfl
 ·refine Runs.set H ((m H rfl rfl).trans (v h j)) λσ H _=>?_
  have e:=t0 (C:=aE (mkC L (n+4))) (σ:=σ) (z:="thing") (g:=PyData.int) (f:=λx=>aN (x,dZ u (aD xs) x)) (p:=λx=>!decide (x∈aD xs)) (l:=aS c) (a:=.tup (.cons (.name "thing") (.cons (.meth (.name "self") "outs" (.cons (.name "held") (.cons (.name "thing") .nil))) .nil))) (c:=.cmp .notin (.name "thing") (.name "held"))
   (bH (fE t (H.ev (x:="self") rfl)).1 (l5 hc)) (λx _=>by
    have H2:=H.mk "thing" (.d (.int x))
    exact jP (H2.ev rfl) (H2.ev rfl)) λx q r=>by
    have H2:=H.mk "thing" (.d (.int x))
    have i:=mem_upTo.mp q
    have o:=(iZ lib n c k u (aD xs) x (by rw[jm]; exact hl)).2.2.2 (k7 h) (by rw[nQ]; exact j) i.1 (FF i) (by simpa using r)
    rw[nQ] at o
    exact mG (H2.ev rfl) ((dR (c9 (by decide)) lib.outs (λ_=>rfl) (H2.ev (x:="self") rfl) (ai (H2.ev (x:="held") rfl) (ai (H2.ev (x:="thing") rfl) ay)) rfl).trans o)
  refine Runs.ret e ?_
  unfold aQ bO
  rw[map_map]
  rfl
noncomputable def l_outs:Fn:=⟨["_law_table_here", "_law_choice", "_law_thing"],
(.cons (.assign "_law_row" (.list .nil))
(.cons (.for1 "_law_out" (.e (.name "_law_choice"))
(.cons (.ite (.cmp .isin (.bi1 .sorted (.bin .add (.compif (.name "_law_one") "_law_one" (.e (.name "_law_choice")) (.cmp .ne (.name "_law_one") (.name "_law_out"))) (.list (.cons (.name "_law_thing") .nil)))) (.name "_law_table_here"))
(.cons (.append "_law_row" (.name "_law_out"))
.nil)
.nil)
.nil))
(.cons (.retn "_law_row")
.nil)))⟩
noncomputable def l_mixed:Fn:=⟨["_law_choice", "_law_cell"],
(.cons (.assign "_law_row" (.list .nil))
(.cons (.for1 "_law_thing" (.e (.name "_law_choice"))
(.cons (.insert "_law_row" (.bin .mod (.name "_law_cell") (.bin .add (.bi1 .len (.name "_law_row")) (.int 1))) (.name "_law_thing"))
(.cons (.assign "_law_cell" (.bin .fdiv (.name "_law_cell") (.int 3)))
.nil)))
(.cons (.retn "_law_row")
.nil)))⟩
noncomputable def l_told:Fn:=⟨["_law_rule", "_law_choice", "_law_thing"],
(.cons (.tryS (.expr (.meth (.name "_law_rule") "outs" (.cons (.name "_law_choice") (.cons (.name "_law_thing") .nil)))) [("NoThing", [.ret (.int 2)]),("NoChoice", [.ret (.int 1)])])
(.cons (.ret (.int 0))
.nil))⟩
noncomputable def l_told_of_all:Fn:=⟨["_law_rule", "_law_choice"],
(.cons (.tryS (.expr (.meth (.name "_law_rule") "exchanges" (.cons (.name "_law_choice") .nil))) [("NoThing", [.ret (.int 2)]),("NoChoice", [.ret (.int 1)])])
(.cons (.ret (.int 0))
.nil))⟩
noncomputable def iY:Fn:=⟨["_law_rule", "_law_count", "_law_choice", "_law_more"],
(.cons (.assign "_law_odd" (.sub (.list (.cons (.name "_law_count") (.cons (.neg (.int 1)) (.cons (.bin .pow (.int 10) (.int 12)) .nil)))) (.bin .mod (.bin .fdiv (.name "_law_more") (.int 4)) (.int 3))))
(.cons (.ite (.and (.cmp .ne (.name "_law_choice") (.list .nil)) (.cmp .eq (.bin .mod (.bin .fdiv (.name "_law_more") (.int 12)) (.int 2)) (.int 1)))
(.cons (.assign "_law_odd" (.sub (.name "_law_choice") (.bin .mod (.bin .fdiv (.name "_law_more") (.int 24)) (.bi1 .len (.name "_law_choice")))))
.nil)
.nil)
(.cons (.assign "_law_at" (.bin .mod (.bin .fdiv (.name "_law_more") (.int 96)) (.bin .add (.bi1 .len (.name "_law_choice")) (.int 1))))
(.cons (.assign "_law_bad" (.bin .add (.bin .add (.shi (.name "_law_choice") (.name "_law_at")) (.list (.cons (.name "_law_odd") .nil))) (.slo (.name "_law_choice") (.name "_law_at"))))
(.cons (.ite (.or (.cmp .ne (.call "_law_told" (.cons (.name "_law_rule") (.cons (.name "_law_bad") (.cons (.int 0) .nil)))) (.int 2)) (.cmp .ne (.call "_law_told_of_all" (.cons (.name "_law_rule") (.cons (.name "_law_bad") .nil))) (.int 2)))
(.cons (.ret (.bool false))
.nil)
.nil)
(.cons (.ite (.cmp .ne (.name "_law_choice") (.list .nil))
(.cons (.assign "_law_less" (.compif (.name "_law_thing") "_law_thing" (.e (.name "_law_choice")) (.cmp .ne (.name "_law_thing") (.sub (.name "_law_choice") (.bin .mod (.bin .fdiv (.name "_law_more") (.int 24)) (.bi1 .len (.name "_law_choice")))))))
(.cons (.ite (.or (.cmp .ne (.call "_law_told" (.cons (.name "_law_rule") (.cons (.name "_law_less") (.cons (.name "_law_count") .nil)))) (.int 1)) (.cmp .ne (.call "_law_told_of_all" (.cons (.name "_law_rule") (.cons (.name "_law_less") .nil))) (.int 1)))
(.cons (.ret (.bool false))
.nil)
.nil)
.nil))
.nil)
(.cons (.ret (.cmp .eq (.call "_law_told" (.cons (.name "_law_rule") (.cons (.name "_law_choice") (.cons (.name "_law_odd") .nil)))) (.int 2)))
.nil)))))))⟩
theorem Runs.ins (H:Has σ l) (hz:σ z=some (.d (aa xs),m)) (hm:m≠.sh) (hi:ev C a σ = .ok (sI i)) (h:ev C e σ = .ok (sI x)) (h0:0<=i) (h1:i<=xs.length) (hl:xs.length<1000000)
  (k:∀ σ',Has σ' ((z,.d (aa (xs.take i.toNat++x::xs.drop i.toNat)))::l)->σ' z=some (.d (aa (xs.take i.toNat++x::xs.drop i.toNat)),m)->Runs C bb σ' Post):Runs C (.cons (.insert z a e) bb) σ Post:=by
 refine Runs.cons (o:=(upd σ z (.d (aa (xs.take i.toNat++x::xs.drop i.toNat)),m),.next)) ?_ (k _ (H.upd z _ m) (if_pos rfl))
 simp only[ik,hi,h,Out.calm_ok,Out.ok_bind,hz,n7,xT,Cg]
 rw[if_neg (by rw[length_map]; exact λq=>q.elim hm λq=>q.elim (IX h0) (IT h1)),ju (by rw[length_append,length_cons,length_take,length_drop,length_map]; exact Fv hl),sd]
theorem tp (C:Calls) (t:List (List Int)) (r:List Int) (x:Int) (hl:r.length<127) (h0:∀ i∈r,0<=i) (hx:0<=x):ax C l_outs [.d (ag t),.d (aa r),.d (.int x)] = .ok (.d (aa (dZ t r x)),.deep):=by
 unfold l_outs
 refine bU rfl λσ H=>?_
 refine Runs.set H lJ λσ H hσ=>?_
 refine Runs.for (g:=PyData.int) (xs:=r) (λpre σ=>Has σ [("_law_table_here", .d (ag t)),("_law_choice", .d (aa r)),("_law_thing", .d (.int x))]/\σ "_law_row" = some (.d (aa (pre.filter λo=>decide (bn r o x∈t))),.deep)) (aJ (H.ev (x:="_law_choice") rfl) (bL r .sh)) (λσ0 h hh=>⟨(h _ H).sub ⟨rfl,rfl,rfl,trivial⟩,(hh _ (by decide)).trans hσ⟩) ?_ ?_
 ·intro pre o post hp σ LA
  refine ae (LA) λH hσ=>?_
  clear LA
  have H1:=H.mk "_law_out" (.d (.int o))
  have hσ1:upd σ "_law_out" (mk (.d (.int o))) "_law_row" = some (.d (aa (pre.filter λo=>decide (bn r o x∈t))),.deep):=(if_neg (by decide)).trans hσ
  have hl2:(r.filter λy=>!decide (y=o)).length<=r.length:=length_filter_le ..
  have hlp:(pre.filter λo=>decide (bn r o x∈t)).length<=r.length:=le_trans (length_filter_le ..) (by rw[hp,length_append]; exact oB)
  refine Runs.ite (sV (fb (dE (dl (λi=>!decide (i=o)) (aJ (H1.ev (x:="_law_choice") rfl) (bL r .sh)) λi _=>?_) (eT (H1.ev (x:="_law_thing") rfl)) (by rw[length_singleton]; exact zL hl hl2)) (by rw[length_append,length_singleton]; exact zp hl hl2) λi hi=>?_) (H1.ev (x:="_law_table_here") rfl)) (λq=>?_) λq=>Runs.nil (Runs.nil ⟨H1.sub ⟨rfl,rfl,rfl,trivial⟩,?_⟩)
  ·have H2:=H1.upd "_law_one" (.d (.int i)) .deep
   exact dJ (H2.ev (x:="_law_one") rfl) (H2.ev (x:="_law_out") rfl)
  ·rcases mem_append.mp hi with q | q
   ·exact h0 i (mem_filter.mp q).1
   ·rw[mem_singleton.mp q]; exact hx
  ·refine Runs.app H1 hσ1 (by decide) (H1.ev (x:="_law_out") rfl) (by exact Ig hl hlp) λσ' H2 hσ2 _=>Runs.nil (Runs.nil ⟨H2.sub ⟨rfl,rfl,rfl,trivial⟩,?_⟩)
   rw[List.filter_append,List.filter_cons_of_pos (by exact q),List.filter_nil]; exact hσ2
  ·rw[List.filter_append,List.filter_cons_of_neg (by intro q'; exact absurd (q'.symm.trans q) (by decide)),List.filter_nil,append_nil]; exact hσ1
 ·intro σ Lx
  refine ae (Lx) λH hσ=>?_
  clear Lx
  exact Runs.retn hσ rfl
theorem qc (xs:List Int) (i:Nat) (x:Int):(xs.take i++x::xs.drop i).Perm (x::xs):=by
 have:=List.perm_middle (a:=x) (l₁:=xs.take i) (l₂:=xs.drop i)
 rwa [take_append_drop] at this
theorem rS (C:Calls) (r:List Int) (x:Int) (hl:r.length<=1000):∃ q,ax C l_mixed [.d (aa r),.d (.int x)] = .ok q/\∃ p,q=(.d (aa p),.deep)/\p.Perm r:=by
 unfold l_mixed
 refine dg rfl λk H=>?_
 refine Runs.set H lJ λk H i=>?_
 refine Runs.for (g:=PyData.int) (xs:=r) (λl k=>∃ (xs:List Int) (y:Int),Has k [("_law_row", .d (aa xs)),("_law_cell", .d (.int y))]/\k "_law_row" = some (.d (aa xs),.deep)/\xs.Perm l) (aJ (H.ev (x:="_law_choice") rfl) (bL r .sh)) (λσ0 h hh=>⟨[],x,(h _ H).sub ⟨rfl,rfl,trivial⟩,(hh _ (by decide)).trans i,.refl _⟩) ?_ ?_
 ·intro l o post hp k n
  refine aA (n) λxs y H i z=>?_
  clear n
  have H1:=H.mk "_law_thing" (.d (.int o))
  have u:upd k "_law_thing" (mk (.d (.int o))) "_law_row" = some (.d (aa xs),.deep):=(if_neg (by decide)).trans i
  have v:xs.length<=r.length:=by rw[z.length_eq,hp,length_append]; exact oB
  have b1:=emod_nonneg y (show (xs.length:Int)+1≠0 by exact yL)
  have b2:=emod_lt_of_pos y (show (0:Int)<xs.length+1 by exact qa)
  refine Runs.ins H1 u (by decide) (aW (H1.ev (x:="_law_cell") rfl) (cH (cY (H1.ev (x:="_law_row") rfl)) (am 1)) qa) (H1.ev (x:="_law_thing") rfl) b1 (JC b2) (Fm hl v) λj H2 t=>?_
  refine Runs.cons (o:=(upd j "_law_cell" (sI (y/3)),.next)) (tJ (cL (H2.ev (x:="_law_cell") rfl) (am 3) (by decide) (by decide)) rfl) (Runs.nil ⟨_,y/3,(H2.upd "_law_cell" (.d (.int (y/3))) .deep).sub ⟨rfl,rfl,trivial⟩,(show upd j "_law_cell" (sI (y/3)) "_law_row" = j "_law_row" from if_neg (by decide)).trans t,?_⟩)
  exact (qc xs _ o).trans ((z.cons o).trans (List.perm_append_singleton o l).symm)
 ·intro k m
  refine aA (m) λxs y H i z=>?_
  clear m
  exact Runs.retn i ⟨_,rfl,xs,rfl,z⟩
theorem oO {ps:List String}(h1:C "NoThing" = some g1) (h2:C "NoChoice" = some g2) (hl:ps.length=vs.length):(∀ o,(∀ σ,Has σ (ps.zip vs)->ev C e σ=o) ->
  (o = .exc "NoThing" -> ax C ⟨ps,.cons (.tryS (.expr e) [("NoThing", [.ret (.int 2)]),("NoChoice", [.ret (.int 1)])]) (.cons (.ret (.int 0)) .nil)⟩ vs = .ok (sI 2))/\(o = .exc "NoChoice" -> ax C ⟨ps,.cons (.tryS (.expr e) [("NoThing", [.ret (.int 2)]),("NoChoice", [.ret (.int 1)])]) (.cons (.ret (.int 0)) .nil)⟩ vs = .ok (sI 1))):=by
 intro o h
 refine ⟨λg=>bU hl λσ H=>?_,λg=>bU hl λσ H=>?_⟩
 ·refine Runs.cons (o:=(σ,.ret (sI 2))) ?_ rfl
  simp only[iI,c8,h σ H,g,Out.exc_bind,orH,pF,iL,h1,au,if_pos (show "NoThing" ∈ aO by decide),true_or,exH,if_pos (show hOk (.int 2)=true from rfl),eh,Out.calm_ok,Out.ok_bind,if_true]
 ·refine Runs.cons (o:=(σ,.ret (sI 1))) ?_ rfl
  simp only[iI,c8,h σ H,g,Out.exc_bind,orH,pF,iL,h1,h2,au,if_pos (show "NoThing" ∈ aO by decide),if_pos (show "NoChoice" ∈ aO by decide),true_or,exH,if_pos (show hOk (.int 1)=true from rfl),eh,Out.calm_ok,Out.ok_bind,if_true,if_neg (show ¬ ("NoThing" = "NoChoice" \/ "NoThing" = "PickError") by decide)]
structure LibF (L:List (String×Fn)):Prop extends LibE L where
 lout:L.lookup "_law_outs" = some l_outs
 mixed:L.lookup "_law_mixed" = some l_mixed
 told:L.lookup "_law_told" = some l_told
 tolda:L.lookup "_law_told_of_all" = some l_told_of_all
theorem nc (lib:LibE L) (n:Nat) (c k:Int) (u:List (List Int)) (xs:List Int) (x:Int) (hl:xs.length<127):(¬ Good c xs\/Good c xs/\aD xs∈u/\(x<0\/c<=x\/x∈xs)->ax (mkC L (n+4)) l_told [.rule c (ag u) k,.d (aa xs),.d (.int x)] = .ok (sI 2))/\(Good c xs->aD xs∉u->ax (mkC L (n+4)) l_told [.rule c (ag u) k,.d (aa xs),.d (.int x)] = .ok (sI 1)):=by
 refine ak (lib.nth) λz o=>?_
 obtain ⟨y,q⟩:=eE (L:=L) (f:="NoThing") (by rw[o]; rfl) (n+3)
 refine ak (eE lib.nch (n+3)) λv p=>?_
 refine cG (iZ lib n c k u xs x hl) λj i g _=>?_
 have t:=oO (ps:=["_law_rule", "_law_choice", "_law_thing"]) (vs:=[.rule c (ag u) k,.d (aa xs),.d (.int x)]) (e:=.meth (.name "_law_rule") "outs" (.cons (.name "_law_choice") (.cons (.name "_law_thing") .nil))) q p rfl _ λr H=>dR rfl lib.outs (λ_=>rfl) (H.ev (x:="_law_rule") rfl) (ai (H.ev (x:="_law_choice") rfl) (ai (H.ev (x:="_law_thing") rfl) ay)) rfl
 exact ⟨λh=>t.1 (h.elim j λh=>g h.1 h.2.1 h.2.2),λm l=>t.2 (i m l)⟩
theorem lC (lib:LibE L) (n:Nat) (c:Nat) (k:Int) (u:List (List Int)) (xs:List Int) (hc:c<=1000) (hl:xs.length<127):(¬ Good c xs->ax (mkC L (n+5)) l_told_of_all [.rule c (ag u) k,.d (aa xs)] = .ok (sI 2))/\(Good c xs->aD xs∉u->ax (mkC L (n+5)) l_told_of_all [.rule c (ag u) k,.d (aa xs)] = .ok (sI 1)):=by
 refine ak (lib.nth) λy m=>?_
 obtain ⟨v,p⟩:=eE (L:=L) (f:="NoThing") (by rw[m]; rfl) (n+4)
 refine ak (eE lib.nch (n+4)) λr o=>?_
 refine aG (kK lib n c k u xs hc hl) λi g _=>?_
 have t:=oO (ps:=["_law_rule", "_law_choice"]) (vs:=[.rule c (ag u) k,.d (aa xs)]) (e:=.meth (.name "_law_rule") "exchanges" (.cons (.name "_law_choice") .nil)) p o rfl _ λq H=>dR rfl lib.exs (λ_=>rfl) (H.ev (x:="_law_rule") rfl) (ai (H.ev (x:="_law_choice") rfl) ay) rfl
 exact ⟨λh=>t.1 (i h),λl j=>t.2 (g l j)⟩
theorem nI:∀ {b:List Int},(∀ y∈b,p y=true->q y=true)->x∈b->q x=true->p x=false->(b.filter p).length<(b.filter q).length
 | y::b,h,hx,hq,hp=>by
  have j:(b.filter p).length<=(b.filter q).length:=by
   have:∀ l:List Int,(∀ y∈l,p y=true->q y=true)->(l.filter p).length<=(l.filter q).length:=λl=>by
    induction l with
    | nil=>exact λ_=>le_refl _
    | cons z l ih=>
     intro i
     have:=ih λy g=>i y (.tail _ g)
     rw[filter_cons,filter_cons]
     cases e:p z with
     | true=>rw[i z (.head _) e]; simp only[if_true,length_cons]; exact jR this
     | false=>cases q z<;>simp only[false_eq_true,if_true,if_false,length_cons]<;>lia
   exact this b λy g=>h y (.tail _ g)
  rw[filter_cons,filter_cons]
  rcases mem_cons.mp hx with rfl | hx
  ·rw[hp,hq]; simp only[false_eq_true,if_true,if_false,length_cons]; exact yv j
  ·have:=nI (b:=b) (λy g=>h y (.tail _ g)) hx hq hp
   cases e:p y with
   | true=>rw[h y (.head _) e]; simp only[if_true,length_cons]; exact HN this
   | false=>cases q y<;>simp only[false_eq_true,if_true,if_false,length_cons]<;>lia
theorem ph {a:List Int}{o:Int}(hn:a.Nodup) (ho:o∈a):(a.filter λy=>!decide (y=o)).length+1=a.length:=by
 have e:(a.filter λy=>!decide (y=o))=a.erase o:=by rw[hn.erase_eq_filter]; congr 1
 rw[e,List.length_erase_of_mem ho]
 have:=List.length_pos_of_mem ho
 exact Hu this
theorem NoF.le (nf:NoF c t) (hr:∀ r∈t,Srt c r) {b:List Int}(hb:b∈t):∀ (n:Nat) (a:List Int),a∈t->(b.filter λx=>!decide (x∈a)).length<=n->b.length<=a.length
 | n,a,ha,h=>by
  by_cases e:∀ x∈b,x∈a
  ·exact rx (hr b hb).good.2 e
  ·refine ak (Classical.not_forall.mp e) λx z=>?_
   refine ae (Classical.not_imp.mp z) λg i=>?_
   have u:=nf a ha x (mem_upTo.mpr ((hr b hb).2 x g)) i b hb g
   unfold da at u
   refine af (List.any_eq_true.mp u) λo ho h2=>?_
   refine cb h2 λh3 h4=>?_
   have h5:bn a o x∈t:=of_decide_eq_true h4
   have k:o∉b:=by simpa using h3
   have m:∀ y,y∈bn a o x↔(y∈a/\y≠o)\/y=x:=λy=>by
    unfold bn
    rw[(iF _).mem_iff,mem_append,mem_singleton,mem_filter]
    simp
   have hl:(bn a o x).length=a.length:=by
    unfold bn
    rw[(iF _).length_eq,length_append,length_singleton]
    exact ph (hr a ha).good.2 ho
   have l:=nI (p:=λy=>!decide (y∈bn a o x)) (q:=λy=>!decide (y∈a)) (x:=x) (b:=b) (λy v q=>by
    simp only[Bool.not_eq_true',decide_eq_false_iff_not] at q ⊢
    exact λj=>q ((m y).mpr (.inl ⟨j,λe=>k (e▸v)⟩))) g (by simpa using i) (by simp[m])
   cases n with
   | zero=>exact Ed l h
   | succ n=>
    rw[<- hl]
    exact NoF.le nf hr hb n _ h5 (Fq l h)
theorem NoF.len (nf:NoF c t) (hr:∀ r∈t,Srt c r) {a b:List Int}(ha:a∈t) (hb:b∈t):a.length=b.length:=le_antisymm (nf.le hr ha _ b hb (le_refl _)) (nf.le hr hb _ a ha (le_refl _))
noncomputable def l_pairs_are:Fn:=⟨["_law_found", "_law_due"],
(.cons (.ite (.or (.not (.isi (.name "_law_found") "list")) (.cmp .ne (.bi1 .len (.name "_law_found")) (.bi1 .len (.name "_law_due"))))
(.cons (.ret (.bool false))
.nil)
.nil)
(.cons (.for1 "_law_k" (.r1 (.bi1 .len (.name "_law_due")))
(.cons (.ite (.or (.not (.isi (.sub (.name "_law_found") (.name "_law_k")) "tuple")) (.cmp .ne (.bi1 .len (.sub (.name "_law_found") (.name "_law_k"))) (.int 2)))
(.cons (.ret (.bool false))
.nil)
.nil)
(.cons (.ite (.or (.not (.call "_law_whole" (.cons (.sub (.sub (.name "_law_found") (.name "_law_k")) (.int 0)) .nil))) (.or (.cmp .ne (.sub (.sub (.name "_law_found") (.name "_law_k")) (.int 0)) (.sub (.sub (.name "_law_due") (.name "_law_k")) (.int 0))) (.not (.call "_law_row_is" (.cons (.sub (.sub (.name "_law_found") (.name "_law_k")) (.int 1)) (.cons (.sub (.sub (.name "_law_due") (.name "_law_k")) (.int 1)) .nil))))))
(.cons (.ret (.bool false))
.nil)
.nil)
.nil)))
(.cons (.ret (.bool true))
.nil)))⟩
theorem A0 (ha:ev C a σ = .ok (sI x)) (hb:ev C b σ = .ok (sI y)) (hd:ev C d σ = .ok (sI z)):ev C (.list (.cons a (.cons b (.cons d .nil)))) σ = .ok (.d (aa [x,y,z]),.deep):=by simp only[cE,bq,bl,ha,hb,hd,Out.ok_bind]; rfl
theorem pY {c x:Int}{xs:List Int}{k:Nat}(h:x<0\/c<=x\/x∈xs):¬ Good c (xs.take k++[x]++xs.drop k):=λg=>by
 have p:(xs.take k++[x]++xs.drop k).Perm (x::xs):=by
  rw[append_assoc]; exact qc xs k x
 have i:=g.1 x (p.mem_iff.mpr (.head _))
 rcases h with h | h | h
 ·exact y6 i h
 ·exact yj i h
 ·exact (nodup_cons.mp (p.nodup_iff.mp g.2)).1 h
theorem Good.perm (h:Good c r) (pm:p.Perm r):Good c p:=⟨λx g=>h.1 x (pm.mem_iff.mp g),pm.nodup_iff.mpr h.2⟩
theorem Srt.sort (h:Srt c r) (pm:p.Perm r):aD p=r:=kP pm (h.1.imp λh=>Int.le_of_lt h)
theorem qp (lib:LibF L) (n:Nat) (h:Hd c t) (hm:∀ r,r∈u↔r∈t) {p r:List Int}(hr:r∈t) (pm:p.Perm r) (more:Int):ax (mkC L (n+6)) iY [.rule c (ag u) k,.d (.int c),.d (aa p),.d (.int more)] = .ok (sB true):=by
 have hrow:=h.rows r hr
 have hg:Good c p:=hrow.2.good.perm pm
 have hc:=h.hc
 have v:p.length<=100:=by rw[pm.length_eq]; exact hrow.1
 have hsr:aD p∈u:=(hm _).mpr (hrow.2.sort pm▸hr)
 have tl:∀ {j:St}{l:List (String×V)}{a b:E}{xs:List Int}{y:Int}{m:Mode},Has j l->l.lookup "_law_rule" = some (.rule c (ag u) k)->xs.length<127->ev (mkC L (n+6)) a j = .ok (.d (aa xs),m)->ev (mkC L (n+6)) b j = .ok (sI y) ->
   (¬ Good c xs\/Good c xs/\aD xs∈u/\(y<0\/c<=y\/y∈xs)->ev (mkC L (n+6)) (.call "_law_told" (.cons (.name "_law_rule") (.cons a (.cons b .nil)))) j = .ok (sI 2))/\(Good c xs->aD xs∉u->ev (mkC L (n+6)) (.call "_law_told" (.cons (.name "_law_rule") (.cons a (.cons b .nil)))) j = .ok (sI 1)):=λH hl hx ha hb=>
  ⟨λq=>ch lib.told (ai (H.ev hl) (ai ha (ai hb ay))) rfl ((nc lib.toLibE (n+1) c k u _ _ hx).1 q),λq1 q2=>ch lib.told (ai (H.ev hl) (ai ha (ai hb ay))) rfl ((nc lib.toLibE (n+1) c k u _ _ hx).2 q1 q2)⟩
 have ta:∀ {j:St}{l:List (String×V)}{a:E}{xs:List Int}{m:Mode},Has j l->l.lookup "_law_rule" = some (.rule c (ag u) k)->xs.length<127->ev (mkC L (n+6)) a j = .ok (.d (aa xs),m) ->
   (¬ Good c xs->ev (mkC L (n+6)) (.call "_law_told_of_all" (.cons (.name "_law_rule") (.cons a .nil))) j = .ok (sI 2))/\(Good c xs->aD xs∉u->ev (mkC L (n+6)) (.call "_law_told_of_all" (.cons (.name "_law_rule") (.cons a .nil))) j = .ok (sI 1)):=λH hl hx ha=>
  ⟨λq=>ch lib.tolda (ai (H.ev hl) (ai ha ay)) rfl ((lC lib.toLibE n c k u _ (ir hc) hx).1 q),λq1 q2=>ch lib.tolda (ai (H.ev hl) (ai ha ay)) rfl ((lC lib.toLibE n c k u _ (ir hc) hx).2 q1 q2)⟩
 unfold iY
 refine bU rfl λj H=>?_
 let l0:List (String×V):=[("_law_rule", .rule c (ag u) k),("_law_count", .d (.int c)),("_law_choice", .d (aa p)),("_law_more", .d (.int more))]
 have a1:=emod_nonneg (more/4) (show (3:Int)≠0 by decide)
 obtain ⟨o,ho,hb⟩:∃ o:Int,[(c:Int),-1,10^12][(more/4%3).toNat]? = some o/\(o<0\/c<=o):=by
  have:more/4%3=0\/more/4%3=1\/more/4%3=2:=by exact Fb
  rcases this with q | q | q<;>rw[q]
  ·exact (ah c rfl (.inr (Int.le_refl _)))
  ·exact (ah (-1) rfl (.inl (by decide)))
  ·exact (ah (10^12) rfl (.inr (Gz hc)))
 refine Runs.set H (eQ (A0 (H.ev (x:="_law_count") rfl) (y:=-1) (by simp only[eh,l8,Out.ok_bind]; rfl) (z:=10^12) ((d7 (am 10) (am 12)).trans rfl)) (aW (cL (H.ev (x:="_law_more") rfl) (am 4) (by decide) (by decide)) (am 3) (by decide)) a1 ho) λj H _=>?_
 refine Runs.iteTo (λj=>∃ o:Int,Has j (("_law_odd", .d (.int o))::l0)/\(o<0\/c<=o\/o∈p)) (f9 (oA (H.ev (x:="_law_choice") rfl) lJ) λuu=>d0 (aW (cL (H.ev (x:="_law_more") rfl) (am 12) (by decide) (by decide)) (am 2) (by decide)) (am 1)) (λq=>?_) (λuu=>Runs.nil (aB rfl (ah o (H.sub ⟨rfl,rfl,rfl,rfl,rfl,trivial⟩) (CY hb)))) ?_
 ·have hne:p≠[]:=by simpa using (and_eq_true_iff.mp q).1
  have g:0<p.length:=length_pos_iff.mpr hne
  have b1:=emod_nonneg (more/24) (show (p.length:Int)≠0 by exact la2 g)
  have b2:=emod_lt_of_pos (more/24) (show (0:Int)<p.length by exact la3 g)
  have hi:(more/24%p.length).toNat<p.length:=by exact yI g b2
  exact Runs.set H (eQ (H.ev (x:="_law_choice") rfl) (aW (cL (H.ev (x:="_law_more") rfl) (am 24) (by decide) (by decide)) (cY (H.ev (x:="_law_choice") rfl)) (la3 g)) b1 (List.getElem?_eq_getElem hi)) λj H _=>Runs.nil (aB rfl (ah _ (H.sub ⟨rfl,rfl,rfl,rfl,rfl,trivial⟩) (.inr (.inr (List.getElem_mem hi)))))
 intro j LA
 refine af (LA) λo H hbad=>?_
 clear LA
 have b1:=emod_nonneg (more/96) (show (p.length:Int)+1≠0 by exact yL)
 have b2:=emod_lt_of_pos (more/96) (show (0:Int)<p.length+1 by exact qa)
 refine Runs.set H (aW (cL (H.ev (x:="_law_more") rfl) (am 96) (by decide) (by decide)) (cH (cY (H.ev (x:="_law_choice") rfl)) (am 1)) qa) λj H _=>?_
 obtain ⟨a,ha⟩:∃ a:Nat,more/96%(p.length+1)=a:=⟨(more/96%(p.length+1)).toNat,by exact Fj b1⟩
 rw[ha] at H
 have s1:=(BG (C:=mkC L (n+6)) (H.ev (x:="_law_choice") rfl) (H.ev (x:="_law_at") rfl)).trans (uK p a (yW v b2 ha))
 have s2:=(Cu (C:=mkC L (n+6)) (H.ev (x:="_law_choice") rfl) (H.ev (x:="_law_at") rfl)).trans (t7 p a (yW v b2 ha))
 have s3:=dE (dE s1 (eT (H.ev (x:="_law_odd") rfl)) (by rw[length_take,length_singleton]; exact FM v)) s2 (by rw[length_append,length_take,length_singleton,length_drop]; exact Eu v)
 have hbl:(p.take a++[o]++p.drop a).length<127:=by rw[length_append,length_append,length_take,length_singleton,length_drop]; exact Dj v
 refine Runs.set H s3 λj H _=>?_
 refine Runs.no ((cR (p:=false) (q:=false) ((dJ ((tl H rfl hbl (H.ev (x:="_law_bad") rfl) (am 0)).1 (.inl (pY hbad))) (am 2)).trans rfl) λ_=>(dJ ((ta H rfl hbl (H.ev (x:="_law_bad") rfl)).1 (pY hbad)) (am 2)).trans rfl)) ?_
 have fin:∀ {j:St}{l:List (String×V)},Has j l->l.lookup "_law_rule" = some (.rule c (ag u) k)->l.lookup "_law_choice" = some (.d (aa p))->l.lookup "_law_odd" = some (.d (.int o))->Runs (mkC L (n+6)) (.cons (.ret (.cmp .eq (.call "_law_told" (.cons (.name "_law_rule") (.cons (.name "_law_choice") (.cons (.name "_law_odd") .nil)))) (.int 2))) .nil) j (λuu fl=>fl = .ret (sB true)):=λH h1 h2 h3=>
  Runs.ret (d0 ((tl H h1 (oq v) (H.ev h2) (H.ev h3)).1 (.inr ⟨hg,hsr,hbad⟩)) (am 2)) rfl
 refine Runs.ite (oA (H.ev (x:="_law_choice") rfl) lJ) (λq=>?_) λq=>Runs.nil (fin H rfl rfl rfl)
 have hne:p≠[]:=by simpa using q
 have g:0<p.length:=length_pos_iff.mpr hne
 have c1:=emod_nonneg (more/24) (show (p.length:Int)≠0 by exact la2 g)
 have c2:=emod_lt_of_pos (more/24) (show (0:Int)<p.length by exact la3 g)
 have hi:(more/24%p.length).toNat<p.length:=by exact yI g c2
 have hx:=List.getElem_mem hi
 have hgx:=List.getElem?_eq_getElem hi
 generalize p[(more/24 % ↑p.length).toNat]=x at hx hgx
 refine Runs.set H (dl (λi=>!decide (i=x)) (aJ (H.ev (x:="_law_choice") rfl) (bL p .sh)) λi _=>by
  have H2:=H.upd "_law_thing" (.d (.int i)) .deep
  exact dJ (H2.ev (x:="_law_thing") rfl) (eQ (H2.ev (x:="_law_choice") rfl) (aW (cL (H2.ev (x:="_law_more") rfl) (am 24) (by decide) (by decide)) (cY (H2.ev (x:="_law_choice") rfl)) (la3 g)) c1 hgx)) λj H _=>?_
 have hcl:=ph hg.2 hx
 have hgl:Good c (p.filter λi=>!decide (i=x)):=⟨λy hy=>hg.1 y (mem_filter.mp hy).1,hg.2.filter _⟩
 have hnl:aD (p.filter λi=>!decide (i=x))∉u:=λq=>by
  have:=h.nf.len (λr hr=>(h.rows r hr).2) ((hm _).mp q) hr
  rw[jm] at this
  have e:=pm.length_eq
  exact Hh hcl this e
 refine Runs.no ((cR (p:=false) (q:=false) ((dJ ((tl H rfl (zK v hcl) (H.ev (x:="_law_less") rfl) (H.ev (x:="_law_count") rfl)).2 hgl hnl) (am 1)).trans rfl) λ_=>(dJ ((ta H rfl (zK v hcl) (H.ev (x:="_law_less") rfl)).2 hgl hnl) (am 1)).trans rfl)) (Runs.nil ?_)
 exact fin H rfl rfl rfl
section
theorem lW (ha:ev C a σ = .ok (.d (.list ds),m)):ev C (.bi1 .len a) σ = .ok (sI ds.length):=(dq ha).trans rfl
theorem t6 (ha:ev C a σ = .ok (.d (.list ds),m)) (hb:ev C b σ = .ok (sI i)) (h0:0<=i) (h:ds[i.toNat]? = some y):ev C (.sub a b) σ = .ok (mk (.d y)):=by
 have g:=(List.getElem?_eq_some_iff.mp h).1
 exact (jz ha hb).trans (jj (cw h0 (jF g)) h)
end
theorem mq (lib:Lib L) (hri:L.lookup "_law_row_is" = some l_row_is) (n:Nat) (l:List (Int×List Int)) (hl:l.length<=1000) (hr:∀ p∈l,p.2.length<=1000):ax (mkC L (n+2)) l_pairs_are [.d (aQ l),.d (aQ l)] = .ok (sB true):=by
 unfold l_pairs_are
 refine bU rfl λk H=>?_
 have i:(l.map aN).length=l.length:=length_map _
 refine Runs.no (cR (p:=false) (q:=false) (ca (t:=true) (lV (m:=.sh) (H.ev (x:="_law_found") rfl) rfl)) λ_=>(dJ (lW (H.ev (x:="_law_found") rfl)) (lW (H.ev (x:="_law_due") rfl))).trans (by simp)) ?_
 refine Runs.for (g:=PyData.int) (xs:=aS l.length) (λo k=>Has k [("_law_found", .d (aQ l)),("_law_due", .d (aQ l))]) (bH (n:=l.length) (m:=.deep) (by rw[<- i]; exact lW (H.ev (x:="_law_due") rfl)) (l5 hl)) (λσ0 h _=>(h _ H).sub ⟨rfl,rfl,trivial⟩) ?_ λk H=>Runs.ret (e9 true) rfl
 intro o y z hp k H
 have r:0<=y/\y<l.length:=mem_upTo.mp (by rw[hp]; simp)
 have hi:y.toNat<l.length:=by exact zG r
 have u:(l.map aN)[y.toNat]? = some (aN l[y.toNat]):=by rw[List.getElem?_map,List.getElem?_eq_getElem hi]; rfl
 have hm:=List.getElem_mem hi
 generalize l[y.toNat]=q at u hm
 obtain ⟨x,v⟩:=q
 have H1:=H.mk "_law_k" (.d (.int y))
 have j:=t6 (C:=mkC L (n+2)) (H1.ev (x:="_law_found") rfl) (H1.ev (x:="_law_k") rfl) r.1 u
 have ed:=t6 (C:=mkC L (n+2)) (H1.ev (x:="_law_due") rfl) (H1.ev (x:="_law_k") rfl) r.1 u
 refine Runs.no (cR (p:=false) (q:=false) (ca (t:=true) (lV j rfl)) λ_=>(dJ ((dq j).trans (show b1V .len (.d (aN (x,v))) = .ok (sI 2) from rfl)) (am 2)).trans rfl) ?_
 refine Runs.no (cR (p:=false) (q:=false) (ca (t:=true) (ch lib.whole (ai (gq j (am 0)) ay) rfl (lh _ x))) λ_=>cR (p:=false) (q:=false) ((dJ (gq j (am 0)) (gq ed (am 0))).trans (by simp)) λ_=>ca (t:=true) (ch hri (ai (f8 j (am 1)) (ai (f8 ed (am 1)) ay)) rfl (km lib n v (hr _ hm)))) ?_
 exact Runs.nil (H1.sub ⟨rfl,rfl,trivial⟩)
noncomputable def sR:Fn:=⟨["_law_rule", "_law_table_here", "_law_count", "_law_choice", "_law_mixed_here"],
(.cons (.assign "_law_due" (.compif (.tup (.cons (.name "_law_thing") (.cons (.call "_law_outs" (.cons (.name "_law_table_here") (.cons (.name "_law_choice") (.cons (.name "_law_thing") .nil)))) .nil))) "_law_thing" (.r1 (.name "_law_count")) (.cmp .notin (.name "_law_thing") (.name "_law_choice"))))
(.cons (.assign "_law_handed" (.bi1 .list (.name "_law_mixed_here")))
(.cons (.assign "_law_found" (.meth (.name "_law_rule") "exchanges" (.cons (.name "_law_handed") .nil)))
(.cons (.ite (.or (.not (.call "_law_pairs_are" (.cons (.name "_law_found") (.cons (.name "_law_due") .nil)))) (.cmp .ne (.name "_law_handed") (.name "_law_mixed_here")))
(.cons (.ret (.bool false))
.nil)
.nil)
(.cons (.assign "_law_held_here" (.list .nil))
(.cons (.for1 "_law_pair" (.e (.name "_law_due"))
(.cons (.assign "_law_outs_here" (.meth (.name "_law_rule") "outs" (.cons (.name "_law_handed") (.cons (.sub (.name "_law_pair") (.int 0)) .nil))))
(.cons (.ite (.or (.not (.call "_law_row_is" (.cons (.name "_law_outs_here") (.cons (.sub (.name "_law_pair") (.int 1)) .nil)))) (.cmp .ne (.name "_law_handed") (.name "_law_mixed_here")))
(.cons (.ret (.bool false))
.nil)
.nil)
(.cons (.appM "_law_held_here" "_law_outs_here")
.nil))))
(.cons (.ite (.or (.cmp .ne (.name "_law_held_here") (.comp (.sub (.name "_law_pair") (.int 1)) "_law_pair" (.e (.name "_law_due")))) (.not (.call "_law_pairs_are" (.cons (.name "_law_found") (.cons (.name "_law_due") .nil)))))
(.cons (.ret (.bool false))
.nil)
.nil)
(.cons (.for1 "_law_k" (.r1 (.bi1 .len (.name "_law_due")))
(.cons (.appendAt "_law_held_here" (.cons (.name "_law_k") .nil) (.name "_law_count"))
(.cons (.appendAt "_law_found" (.cons (.int 1) (.cons (.name "_law_k") .nil)) (.name "_law_count"))
.nil)))
(.cons (.ret (.call "_law_pairs_are" (.cons (.meth (.name "_law_rule") "exchanges" (.cons (.name "_law_handed") .nil)) (.cons (.name "_law_due") .nil))))
.nil)))))))))⟩
section
theorem Runs.setD (H:Has σ l) (he:Internal.ev C e σ = .ok (v,.deep)) (k:∀ σ',Has σ' ((x,v)::l)->σ' x=some (v,.deep)->(∀ y,y≠x->σ' y=σ y)->Runs C b σ' Post):Runs C (.cons (.assign x e) b) σ Post :=
 Runs.cons (o:=(Internal.upd σ x (v,.deep),.next)) (by simp only[a7,gS he,Out.ok_bind]; unfold Internal.consume; rw[if_pos rfl]) (k _ (H.upd x v .deep) (if_pos rfl) λy g=>if_neg g)
theorem Runs.appM (hx:σ x=some (.d (ag t),.deep)) (hy:σ y=some (.d (aa r),.deep)) (hxy:x≠y) (hl:t.length<1000000) (k:∀ σ',(∀ z,z≠x->z≠y->σ' z=σ z)->σ' x=some (.d (ag (t++[r])),.deep)->Runs C b σ' Post):Runs C (.cons (.appM x y) b) σ Post:=by
 have e:V.d (.list (t.map aa++[aa r])) = .d (ag (t++[r])):=by unfold ag; rw[map_append]; rfl
 refine Runs.cons (o:=(rem (upd σ x (.d (ag (t++[r])),.deep)) y,.next)) ?_ (k _ (λz h g=>(if_neg g).trans (if_neg h)) ((if_neg hxy).trans (if_pos rfl)))
 rw[kU]
 unfold k9
 rw[hx,hy]
 show (if x≠y/\(t.map aa).length<lim/\Mode.deep=Mode.deep/\Mode.deep=Mode.deep then Out.ok (rem (upd σ x (V.d (.list (t.map aa++[aa r])),Mode.deep)) y,Flw.next) else .bad)=_
 rw[if_pos ⟨hxy,by rw[length_map]; exact hl,rfl,rfl⟩,e]
theorem Has.same (H:Has σ l) (h:∀ z v,l.lookup z=some v->σ' z=σ z):Has σ' l:=λz v q=>by
 refine ak (H z v q) λm g=>?_
 exact ⟨m,(h z v q).trans g⟩
theorem Runs.appP (hz:σ z=some (.d d,.deep)) (hp:evP C d is σ = .ok (path,e0)) (ha:Internal.ev C a σ = .ok (sI x0)) (hm:modP (.int x0) path d=some d') (k:∀ σ',(∀ y,y≠z->σ' y=σ y)->σ' z=some (.d d',.deep)->Runs C b σ' Post):Runs C (.cons (.appendAt z is a) b) σ Post:=by
 refine Runs.cons (o:=(upd σ z (.d d',.deep),.next)) ?_ (k _ (λy g=>if_neg g) (if_pos rfl))
 rw[dX,hz]
 show ((evP C d is σ).calm.bind λp=>(Internal.ev C a σ).calm.bind λr=>au (asD r.1) λy=>if sx y then au (modP y p.1 d) λd'=>Out.ok (upd σ z (V.d d',Mode.deep),Flw.next) else .bad)=_
 rw[hp,ha]
 show (au (modP (.int x0) path d) λd'=>Out.ok (upd σ z (V.d d',Mode.deep),Flw.next))=_
 rw[hm]; rfl
theorem qR (hi:Internal.ev C i σ = .ok (sI k)) (h:elem d k=some e0):evP C d (.cons i .nil) σ = .ok ([k],e0):=by
 show ((Out.ok (([]:List Int),d)).bind λp=>(Internal.ev C i σ).bind λq=>au (asD q.1) λk=>au (dB k) λk=>au (elem p.2 k) λe=>.ok (p.1++[k],e))=_
 rw[hi]
 show (au (elem d k) λe=>Out.ok (([]:List Int)++[k],e))=_
 rw[h]; rfl
theorem AT (hi:Internal.ev C i σ = .ok (sI k)) (hj:Internal.ev C j σ = .ok (sI m)) (h:elem d k=some e0) (h1:elem e0 m=some e1):evP C d (.cons j (.cons i .nil)) σ = .ok ([k,m],e1):=by
 show ((evP C d (.cons i .nil) σ).bind λp=>(Internal.ev C j σ).bind λq=>au (asD q.1) λk=>au (dB k) λk=>au (elem p.2 k) λe=>.ok (p.1++[k],e))=_
 rw[qR hi h,hj]
 show (au (elem e0 m) λe=>Out.ok ([k]++[m],e))=_
 rw[h1]; rfl
end
theorem nv (h0:0<=i) (h:ds[i.toNat]? = some y):elem (.list ds) i=some y:=by
 have g:=(List.getElem?_eq_some_iff.mp h).1
 show ((bj i ds.length).bind λk=>ds[k]?)=_
 rw[cw h0 (jF g)]; exact h
theorem pJ (h:xs.length<1000000):modP (.int x) [] (aa xs)=some (aa (xs++[x])):=by
 show (if (xs.map PyData.int).length<lim then some (PyData.list (xs.map .int++[.int x])) else none)=_
 rw[if_pos (by rw[length_map]; exact h),kn]
theorem v8 (h0:0<=i) (h:t[i.toNat]? = some r) (hl:r.length<1000000):modP (.int x) [i] (ag t)=some (ag (t.set i.toNat (r++[x]))):=by
 have k:=(List.getElem?_eq_some_iff.mp h).1
 show ((bj i (t.map aa).length).bind λj=>((t.map aa)[j]?).bind λe=>(modP (.int x) [] e).map λg=>PyData.list ((t.map aa).set j g))=_
 rw[cw h0 (by rw[length_map]; exact jF k),bind_some,List.getElem?_map,h]
 show ((modP (.int x) [] (aa r)).map λg=>PyData.list ((t.map aa).set i.toNat g))=_
 rw[pJ hl]
 show some (PyData.list ((t.map aa).set i.toNat (aa (r++[x]))))=_
 rw[<- List.map_set]; rfl
theorem uV (h0:0<=i) (h:l[i.toNat]? = some q) (hl:q.2.length<1000000):modP (.int x) [i,1] (aQ l)=some (aQ (l.set i.toNat (q.1,q.2++[x]))):=by
 have k:=(List.getElem?_eq_some_iff.mp h).1
 show ((bj i (l.map aN).length).bind λj=>((l.map aN)[j]?).bind λe=>(modP (.int x) [1] e).map λg=>PyData.list ((l.map aN).set j g))=_
 rw[cw h0 (by rw[length_map]; exact jF k),bind_some,List.getElem?_map,h]
 show ((modP (.int x) [1] (aN q)).map λg=>PyData.list ((l.map aN).set i.toNat g))=_
 have:modP (.int x) [1] (aN q)=some (aN (q.1,q.2++[x])):=by
  show ((modP (.int x) [] (aa q.2)).map λg=>PyData.tuple ([.int q.1,aa q.2].set 1 g))=_
  rw[pJ hl]; rfl
 rw[this]
 show some (PyData.list ((l.map aN).set i.toNat (aN (q.1,q.2++[x]))))=_
 rw[<- List.map_set]; rfl
theorem rK {α:Type}{P:α->Prop}{l:List α}{i:Nat}{a:α}(h:∀ x∈l,P x) (ha:P a):∀ x∈l.set i a,P x:=λx g=>(List.mem_or_eq_of_mem_set g).elim (h x) λe=>e▸ha
theorem ko (hm:∀ r,r∈u↔r∈t) (r:List Int) (x:Int):dZ u r x=dZ t r x:=by
 unfold dZ
 congr 1
 funext o
 rw[decide_eq_decide.mpr (hm _)]
theorem oY (hm:∀ r,r∈u↔r∈t) (r:List Int) (c:Nat):bO u r c=bO t r c:=by
 unfold bO
 congr 1
 funext x
 rw[ko hm]
theorem tw (h:q∈bO t r c):0<=q.1/\q.1<c/\q.1∉r/\q.2=dZ t r q.1:=by
 refine aK h λx g e=>?_
 subst e
 refine qh g λj i=>?_
 have:=mem_upTo.mp j
 exact ⟨this.1,this.2,by simpa using i,rfl⟩
theorem sS (t:List (List Int)) (r:List Int) (c:Nat):(bO t r c).length<=c:=by
 unfold bO
 rw[length_map]
 exact le_trans (length_filter_le ..) (le_of_eq (bI c))
structure LibG (L:List (String×Fn)):Prop extends LibF L where
 rowIs:L.lookup "_law_row_is" = some l_row_is
 pairsAre:L.lookup "_law_pairs_are" = some l_pairs_are
theorem wb (lib:LibG L) (n:Nat) (h:Hd c t) (hm:∀ r,r∈u↔r∈t) {p r:List Int}(hr:r∈t) (pm:p.Perm r):ax (mkC L (n+6)) sR [.rule c (ag u) k,.d (ag t),.d (.int c),.d (aa r),.d (aa p)] = .ok (sB true):=by
 have i:=h.rows r hr
 have hg:Good c p:=i.2.good.perm pm
 have hc:=h.hc
 have hpl:p.length<=100:=by rw[pm.length_eq]; exact i.1
 have hso:=i.2.sort pm
 have hsr:aD p∈u:=(hm _).mpr (hso▸hr)
 have exs:=(kK lib.toLibE (n+1) c k u p (ir hc) (oq hpl)).2.2 hg hsr
 rw[hso,oY hm] at exs
 have mem:=λq (hq:q∈bO t r c)=>tw hq
 have hll:=sS t r c
 have rl:∀ q∈bO t r c,q.2.length<=100:=λq hq=>by
  rw[(mem q hq).2.2.2]; exact le_trans (length_filter_le ..) i.1
 have pa:∀ {σ:St}{a b:E}{m m':Mode},ev (mkC L (n+6)) a σ = .ok (.d (aQ (bO t r c)),m)->ev (mkC L (n+6)) b σ = .ok (.d (aQ (bO t r c)),m')->ev (mkC L (n+6)) (.call "_law_pairs_are" (.cons a (.cons b .nil))) σ = .ok (sB true):=λha hb=>
  ch lib.pairsAre (ai ha (ai hb ay)) rfl (mq lib.toLib lib.rowIs (n+3) _ (Hc hc hll) λq hq=>by have:=rl q hq; exact ir this)
 have ex:∀ {σ:St}{l:List (String×V)},Has σ l->l.lookup "_law_rule" = some (.rule c (ag u) k)->l.lookup "_law_handed" = some (.d (aa p))->ev (mkC L (n+6)) (.meth (.name "_law_rule") "exchanges" (.cons (.name "_law_handed") .nil)) σ = .ok (.d (aQ (bO t r c)),.deep):=λH a b=>
  (dR rfl lib.exs (λ_=>rfl) (H.ev a) (ai (H.ev b) ay) rfl).trans exs
 unfold sR
 refine bU rfl λσ H=>?_
 have e1:=t0 (C:=mkC L (n+6)) (σ:=σ) (z:="_law_thing") (g:=PyData.int) (f:=λx=>aN (x,dZ t r x)) (p:=λx=>!decide (x∈r)) (l:=aS c) (a:=.tup (.cons (.name "_law_thing") (.cons (.call "_law_outs" (.cons (.name "_law_table_here") (.cons (.name "_law_choice") (.cons (.name "_law_thing") .nil)))) .nil))) (c:=.cmp .notin (.name "_law_thing") (.name "_law_choice"))
  (bH (H.ev (x:="_law_count") rfl) (Ge hc)) (λx _=>by
   have H2:=H.mk "_law_thing" (.d (.int x))
   exact jP (H2.ev rfl) (H2.ev rfl)) λx hx hp=>by
   have H2:=H.mk "_law_thing" (.d (.int x))
   exact mG (H2.ev rfl) (ch lib.lout (ai (H2.ev (x:="_law_table_here") rfl) (ai (H2.ev (x:="_law_choice") rfl) (ai (H2.ev (x:="_law_thing") rfl) ay))) rfl (tp _ t r x (by have:=i.1; exact Fa i) i.2.good.nn (mem_upTo.mp hx).1))
 have e1':(V.d (.list (((aS c).filter λx=>!decide (x∈r)).map λx=>aN (x,dZ t r x))),Mode.deep)=(.d (aQ (bO t r c)),.deep):=by unfold aQ bO; rw[map_map]; rfl
 rw[e1'] at e1
 refine Runs.set H e1 λσ H _=>?_
 refine Runs.set H (je (H.ev (x:="_law_mixed_here") rfl)) λσ H _=>?_
 refine Runs.set H (ex H rfl rfl) λσ H hf=>?_
 refine Runs.no (cR (p:=false) (q:=false) (ca (t:=true) (pa (H.ev (x:="_law_found") rfl) (H.ev (x:="_law_due") rfl))) λ_=>(oA (H.ev (x:="_law_handed") rfl) (H.ev (x:="_law_mixed_here") rfl)).trans (by simp)) ?_
 generalize hL:bO t r c=ql at *
 let l0:List (String×V):=[("_law_rule", .rule c (ag u) k),("_law_handed", .d (aa p)),("_law_mixed_here", .d (aa p)),("_law_due", .d (aQ ql)),("_law_count", .d (.int c))]
 refine Runs.setD H jY λσ H hh ho=>?_
 replace hf:=(ho "_law_found" (by decide)).trans hf
 refine Runs.for (g:=aN) (xs:=ql) (λj σ=>Has σ l0/\σ "_law_found" = some (.d (aQ ql),.deep)/\σ "_law_held_here" = some (.d (ag (j.map (·.2))),.deep)) (aJ (H.ev (x:="_law_due") rfl) rfl) (λσ0 h1 h2=>⟨(h1 _ H).sub ⟨rfl,rfl,rfl,rfl,rfl,trivial⟩,(h2 _ (by decide)).trans hf,(h2 _ (by decide)).trans hh⟩) ?_ ?_
 ·rintro j ⟨x,ys⟩ post hp σ ⟨H,hf,hh⟩
  have hq:=mem (x,ys) (by rw[hp]; simp)
  refine cG hq λq1 q2 q3 q4=>?_
  have H1:=H.mk "_law_pair" (.d (aN (x,ys)))
  have hf1:upd σ "_law_pair" (mk (.d (aN (x,ys)))) "_law_found" = some (.d (aQ ql),.deep):=(if_neg (by decide)).trans hf
  have hh1:upd σ "_law_pair" (mk (.d (aN (x,ys)))) "_law_held_here" = some (.d (ag (j.map (·.2))),.deep):=(if_neg (by decide)).trans hh
  have o:=(iZ lib.toLibE (n+2) c k u p x (oq hpl)).2.2.2 hg hsr q1 q2 (λe=>q3 (pm.mem_iff.mp e))
  rw[hso,ko hm,show dZ t r x=ys from q4.symm] at o
  refine Runs.setD H1 ((dR rfl lib.outs (λ_=>rfl) (H1.ev (x:="_law_rule") rfl) (ai (H1.ev (x:="_law_handed") rfl) (ai (gq (m:=.sh) (H1.ev (x:="_law_pair") rfl) (am 0)) ay)) rfl).trans o) λσ H2 h2 o2=>?_
  refine Runs.no (cR (p:=false) (q:=false) (ca (t:=true) (ch lib.rowIs (ai (H2.ev (x:="_law_outs_here") rfl) (ai (f8 (m:=.sh) (H2.ev (x:="_law_pair") rfl) (am 1)) ay)) rfl (km lib.toLib (n+4) ys (by have:=rl (x,ys) (by rw[hp]; simp); exact le_trans this (by decide))))) λ_=>(oA (H2.ev (x:="_law_handed") rfl) (H2.ev (x:="_law_mixed_here") rfl)).trans (by simp)) ?_
  refine Runs.appM ((o2 _ (by decide)).trans hh1) h2 (by decide) (by rw[length_map]; have:=congrArg List.length hp; rw[length_append,length_cons] at this; exact JA hc hll this) λσ' s1 s2=>Runs.nil ⟨?_,(s1 _ (by decide) (by decide)).trans ((o2 _ (by decide)).trans hf1),?_⟩
  ·refine Has.same (H2.sub (l':=l0) ⟨rfl,rfl,rfl,rfl,rfl,trivial⟩) λz v hz=>s1 z (λe=>?_) λe=>?_
   ·subst e; exact nN hz
   ·subst e; exact nN hz
  ·rw[s2,map_append]; rfl
 intro σ LA
 refine aG (LA) λH hf hh=>?_
 clear LA
 refine af (cQ (C:=mkC L (n+6)) (σ:=σ) (g:=aN) (l:=ql) (z:="_law_pair") (it:=.e (.name "_law_due")) (a:=.sub (.name "_law_pair") (.int 1)) (λq=>q.2) .sh (aJ (H.ev (x:="_law_due") rfl) rfl) λq _=>f8 (m:=.sh) ((H.mk "_law_pair" (.d (aN q))).ev (x:="_law_pair") rfl) (am 1)) λm1 e2 _=>?_
 refine Runs.no (cR (p:=false) (q:=false) ((IC (lS hh rfl) e2).trans (by simp)) λ_=>ca (t:=true) (pa (lS hf rfl) (H.ev (x:="_law_due") rfl))) ?_
 have hlen:(ql.map aN).length=ql.length:=length_map _
 refine Runs.for (g:=PyData.int) (xs:=aS ql.length) (λj σ=>Has σ l0/\(∃ t':List (List Int),t'.length=ql.length/\(∀ r∈t',r.length<=100+j.length)/\σ "_law_held_here" = some (.d (ag t'),.deep))/\∃ l':List (Int×List Int),l'.length=ql.length/\(∀ q∈l',q.2.length<=100+j.length)/\σ "_law_found" = some (.d (aQ l'),.deep)) (bH (n:=ql.length) (m:=.deep) (by rw[<- hlen]; exact lW (H.ev (x:="_law_due") rfl)) (Ie hc hll))
  (λσ0 h1 h2=>⟨(h1 _ H).sub ⟨rfl,rfl,rfl,rfl,rfl,trivial⟩,⟨_,length_map _,λr hr=>?_,(h2 _ (by decide)).trans hh⟩,ql,rfl,rl,(h2 _ (by decide)).trans hf⟩) ?_ ?_
 ·refine aK hr λq hq e=>?_
  rw[<- e]; exact rl q hq
 ·intro j y post hp σ Lx
  obtain ⟨H,LB,l',b1,b2,b3⟩:=Lx
  refine aq (LB) λt' a1 a2 a3=>?_
  clear LB
  have hy:0<=y/\y<ql.length:=mem_upTo.mp (by rw[hp]; simp)
  have hpre:j.length<=ql.length:=by have:=congrArg List.length hp; rw[bI,length_append] at this; exact Iq this
  have i1:y.toNat<t'.length:=by exact Fg a1 hy
  have i2:y.toNat<l'.length:=by exact GV a1 b1 i1
  have g1:=List.getElem?_eq_getElem i1
  have g2:=List.getElem?_eq_getElem i2
  have m1:=a2 _ (List.getElem_mem i1)
  have m2:=b2 _ (List.getElem_mem i2)
  generalize t'[y.toNat]=r1 at g1 m1
  generalize l'[y.toNat]=q1 at g2 m2
  have H1:=H.mk "_law_k" (.d (.int y))
  refine Runs.appP ((if_neg (by decide)).trans a3) (qR (H1.ev (x:="_law_k") rfl) (nv hy.1 (show (t'.map aa)[y.toNat]? = some (aa r1) by rw[List.getElem?_map,g1]; rfl))) (H1.ev (x:="_law_count") rfl) (v8 hy.1 g1 (yJ hc hll hpre m1)) λσ1 s1 s2=>?_
  have H2:Has σ1 (("_law_k", .d (.int y))::l0):=H1.same λz v hz=>s1 z λe=>by subst e; exact nN hz
  refine Runs.appP ((s1 _ (by decide)).trans ((if_neg (by decide)).trans b3)) (AT (H2.ev (x:="_law_k") rfl) (am 1) (nv hy.1 (show (l'.map aN)[y.toNat]? = some (aN q1) by rw[List.getElem?_map,g2]; rfl)) (show elem (aN q1) 1=some (aa q1.2) from rfl)) (H2.ev (x:="_law_count") rfl) (uV hy.1 g2 (yJ hc hll hpre m2)) λσ2 s3 s4=>Runs.nil ⟨?_,⟨_,(length_set ..).trans a1,?_,(s3 _ (by decide)).trans s2⟩,_,(length_set ..).trans b1,?_,s4⟩
  ·exact (H2.same λz v hz=>s3 z λe=>by subst e; cases hz).sub ⟨rfl,rfl,rfl,rfl,rfl,trivial⟩
  ·refine rK (λr hr=>?_) ?_
   ·have:=a2 r hr; rw[length_append]; exact zc this
   ·rw[length_append,length_append,length_singleton,length_singleton]; exact ye m1
  ·refine rK (P:=λq:Int×List Int=>q.2.length<=100+(j++[y]).length) (λq hq=>?_) ?_
   ·have:=b2 q hq; rw[length_append]; exact zc this
   ·show (q1.2++[(c:Int)]).length<=_
    rw[length_append,length_append,length_singleton,length_singleton]; exact ye m2
 ·intro σ Lz
  refine ae (Lz) λH _=>?_
  clear Lz
  exact Runs.ret (pa (ex H rfl rfl) (H.ev (x:="_law_due") rfl)) rfl
noncomputable def qN:Fn:=⟨[],.nil⟩
noncomputable def tr:Fn:=⟨[],.nil⟩
noncomputable def uY:Fn:=⟨[],.nil⟩
noncomputable def pL:Fn:=⟨[],.nil⟩
noncomputable def sT:Fn:=⟨["_law_script"],
(.cons (.assign "_law_made" (.call "_law_held" (.cons (.name "_law_script") .nil)))
(.cons (.assign "_law_count" (.sub (.name "_law_made") (.int 0)))
(.cons (.assign "_law_table_here" (.comp (.bi1 .sorted (.name "_law_choice")) "_law_choice" (.e (.sub (.name "_law_made") (.int 1)))))
(.cons (.assign "_law_rule" (.call "Rule" (.cons (.name "_law_count") (.cons (.name "_law_table_here") .nil))))
(.cons (.assign "_law_choice" (.sub (.name "_law_table_here") (.bin .mod (.call "_law_cell_at" (.cons (.name "_law_script") (.cons (.int 3) .nil))) (.bi1 .len (.name "_law_table_here")))))
(.cons (.assign "_law_mixed_here" (.call "_law_mixed" (.cons (.name "_law_choice") (.cons (.call "_law_cell_at" (.cons (.name "_law_script") (.cons (.int 4) .nil))) .nil))))
(.cons (.assign "_law_more" (.call "_law_cell_at" (.cons (.name "_law_script") (.cons (.int 5) .nil))))
(.cons (.ite (.and (.cmp .eq (.bin .mod (.name "_law_more") (.int 5)) (.int 1)) (.not (.call "_law_refused" (.cons (.name "_law_rule") (.cons (.name "_law_count") (.cons (.name "_law_mixed_here") (.cons (.bin .fdiv (.name "_law_more") (.int 5)) .nil)))))))
(.cons (.ret (.bool false))
.nil)
.nil)
(.cons (.assign "_law_held_here" (.meth (.name "_law_rule") "exchanges" (.cons (.bi1 .list (.name "_law_mixed_here")) .nil)))
(.cons (.assign "_law_kept" (.comp (.tup (.cons (.sub (.name "_law_pair") (.int 0)) (.cons (.bi1 .list (.sub (.name "_law_pair") (.int 1))) .nil))) "_law_pair" (.e (.name "_law_held_here"))))
(.cons (.ite (.not (.call "_law_all" (.cons (.name "_law_rule") (.cons (.name "_law_table_here") (.cons (.name "_law_count") (.cons (.name "_law_choice") (.cons (.name "_law_mixed_here") .nil)))))))
(.cons (.ret (.bool false))
.nil)
.nil)
(.cons (.assign "_law_other" (.sub (.name "_law_table_here") (.bin .mod (.bin .fdiv (.name "_law_more") (.int 5)) (.bi1 .len (.name "_law_table_here")))))
(.cons (.ite (.not (.call "_law_all" (.cons (.name "_law_rule") (.cons (.name "_law_table_here") (.cons (.name "_law_count") (.cons (.name "_law_other") (.cons (.rev (.name "_law_other")) .nil)))))))
(.cons (.ret (.bool false))
.nil)
.nil)
(.cons (.ret (.and (.call "_law_all" (.cons (.name "_law_rule") (.cons (.name "_law_table_here") (.cons (.name "_law_count") (.cons (.name "_law_choice") (.cons (.name "_law_mixed_here") .nil)))))) (.cmp .eq (.name "_law_held_here") (.name "_law_kept"))))
.nil))))))))))))))⟩
noncomputable def p_L:List (String×Fn):=[("exchanged", p_exchanged),("PickError", qN),("NoChoice", tr),("NoThing", uY),("NoExchange", pL),("known_of", p_known_of),("goes", p_goes),("fault", p_fault),("need_row", p_need_row),("Rule", p_Rule),("need_full", p_need_full),("outs", p_outs),("exchanges", p_exchanges),("_law_cell_at", l_cell_at),("_law_whole", l_whole),("_law_bit", l_bit),("_law_row_is", l_row_is),("_law_subsets", l_subsets),("_law_apart", l_apart),("_law_parts", l_parts),("_law_few", l_few),("_law_pairs_by", l_pairs_by),("_law_table", l_table),("_law_can", l_can),("_law_fault", l_fault),("_law_held", l_held),("_law_outs", l_outs),("_law_mixed", l_mixed),("_law_told", l_told),("_law_told_of_all", l_told_of_all),("_law_refused", iY),("_law_pairs_are", l_pairs_are),("_law_all", sR),("law", sT)]
theorem libH:LibH p_L:=⟨⟨rfl,rfl,rfl,rfl,rfl,rfl,rfl,rfl,rfl,rfl,rfl,rfl,rfl,rfl⟩,rfl,rfl⟩
theorem libG:LibG p_L:=⟨⟨⟨⟨libH.toLib,rfl,rfl,⟨_,rfl⟩⟩,rfl,rfl,rfl,rfl⟩,rfl,rfl,rfl,rfl⟩,rfl,rfl⟩
theorem Cc (ha:ev C a σ = .ok (.d (aa xs),m)):ev C (.rev a) σ = .ok (.d (aa xs.reverse),.deep):=by
 simp only[mD,ha,Out.ok_bind]
 show Out.ok (V.d (.list (xs.map PyData.int).reverse),fresh (xs.map PyData.int).reverse)=_
 rw[<- List.map_reverse,eY]; rfl
theorem kC:∀ l:List (Int×List Int),PyData.eqvAll (l.map aN) (l.map aN)=true
 | []=>by simp[PyData.eqvAll]
 | q::l=>by
  rw[map_cons,PyData.eqvAll,kC l]
  have:PyData.eqv (aN q) (aN q)=true:=by
   unfold aN
   rw[PyData.eqv,PyData.eqvAll,PyData.eqvAll,PyData.eqvAll,jL,eg]
   simp
  rw[this]; rfl
theorem vH (l:List (Int×List Int)):okc (aQ l)=true:=(Low.list (n:=4) λx g=>by
 refine aK g λq _ e=>?_
 rw[<- e]
 refine Low.tuple (n:=3) λy hy=>?_
 rcases mem_cons.mp hy with rfl | hy
 ·exact Low.int _ 2
 ·rw[mem_singleton.mp hy]; exact kX _ 1).okc
theorem EW (ha:ev C a σ = .ok (.d (aQ l),m)) (hb:ev C b σ = .ok (.d (aQ l),m')):ev C (.cmp .eq a b) σ = .ok (sB true):=br ha hb (by
 show (if okc (aQ l)&&okc (aQ l) then Out.ok (PyData.eqv (aQ l) (aQ l)) else .bad)=_
 rw[vH,if_pos (by decide)]
 unfold aQ
 rw[PyData.eqv,kC])
theorem wV (s:List Int) (hs:s.length<=63):∃ m,ax (mkC p_L 8) sT [.d (aa s)] = .ok (.d (.bool true),m):=by
 refine ⟨.deep,?_⟩
 unfold sT
 refine bU rfl λσ H=>?_
 obtain ⟨LF,e1,c,t,v,k⟩:=dD (σ:=σ) (n:=7) libH.held (es:=.cons (.name "_law_script") .nil) (ai (H.ev rfl) ay) rfl (uq libH 3 s hs)
 obtain ⟨rv,rm⟩:=LF
 subst v
 have hc:=k.hc
 refine Runs.set H e1 λσ H _=>?_
 refine Runs.set H (gq (m:=.sh) (H.ev (x:="_law_made") rfl) (am 0)) λσ H _=>?_
 obtain ⟨m1,e2,_⟩:=cQ (C:=mkC p_L 8) (σ:=σ) (g:=aa) (l:=t) (z:="_law_choice") (it:=.e (.sub (.name "_law_made") (.int 1))) (a:=.bi1 .sorted (.name "_law_choice")) (λr=>aD r) .deep (aJ (f8 (m:=.sh) (H.ev (x:="_law_made") rfl) (am 1)) (a5 t .sh)) λr v=>fb ((H.mk "_law_choice" (.d (aa r))).ev (x:="_law_choice") rfl) (by have:=(k.rows r v).1; exact yb this) (k.rows r v).2.good.nn
 have et:t.map (λr=>aD r)=t:=by
  have:t.map (λr=>aD r)=t.map id:=List.map_congr_left λr v=>(k.rows r v).2.sort (.refl r)
  rw[this,map_id]
 rw[et] at e2
 refine Runs.set H e2 λσ H _=>?_
 refine aZ (Am libG.toLibR 4 k) λu x e3 hm hx _=>?_
 refine Runs.set H (zW libG.toLibR (ai (H.ev (x:="_law_count") rfl) (ai (H.ev (x:="_law_table_here") rfl) ay)) rfl e3) λσ H _=>?_
 have y:0<t.length:=length_pos_iff.mpr k.ne
 have row:∀ i:Int,∃ r,r∈t/\0<=i%t.length/\t[(i%t.length).toNat]? = some r:=λi=>by
  have b1:=emod_nonneg i (show (t.length:Int)≠0 by exact la2 y)
  have b2:=emod_lt_of_pos i (show (0:Int)<t.length by exact la3 y)
  have hi:(i%t.length).toNat<t.length:=by exact la4 y b2
  exact ⟨t[(i%t.length).toNat],List.getElem_mem hi,b1,List.getElem?_eq_getElem hi⟩
 refine aq (row (bx s 3)) λr j r0 r1=>?_
 refine Runs.set H (oS (H.ev (x:="_law_table_here") rfl) (aW (b7 libH.toLib (H.ev (x:="_law_script") rfl) (am 3) (by decide)) (hU (H.ev (x:="_law_table_here") rfl)) (la3 y)) r0 r1) λσ H _=>?_
 have h:=k.rows r j
 obtain ⟨LI,e4,p,hp,o⟩:=dD (σ:=σ) (L:=p_L) (n:=7) (f:="_law_mixed") rfl (es:=.cons (.name "_law_choice") (.cons (.call "_law_cell_at" (.cons (.name "_law_script") (.cons (.int 4) .nil))) .nil)) (ai (H.ev (x:="_law_choice") rfl) (ai (b7 libH.toLib (H.ev (x:="_law_script") rfl) (am 4) (by decide)) ay)) rfl (rS _ r (bx s 4) (by have:=h.1; exact Jc h))
 subst hp
 refine Runs.set H e4 λσ H _=>?_
 refine Runs.set H (b7 libH.toLib (H.ev (x:="_law_script") rfl) (am 5) (by decide)) λσ H _=>?_
 generalize bx s 5=more at H
 refine Runs.no ((f9 (d0 (aW (H.ev (x:="_law_more") rfl) (am 5) (by decide)) (am 1)) λ_=>ca (t:=true) (ch (L:=p_L) (f:="_law_refused") rfl (ai (H.ev (x:="_law_rule") rfl) (ai (H.ev (x:="_law_count") rfl) (ai (H.ev (x:="_law_mixed_here") rfl) (ai (cL (H.ev (x:="_law_more") rfl) (am 5) (by decide) (by decide)) ay)))) rfl (qp libG.toLibF 1 k hm j o _))).trans (by simp)) ?_
 have hg:Good c p:=h.2.good.perm o
 have hso:=h.2.sort o
 have hpl:p.length<=100:=by rw[o.length_eq]; exact h.1
 have exs:=(kK libG.toLibE 3 c x.length u p (ir hc) (oq hpl)).2.2 hg ((hm _).mpr (hso▸j))
 refine Runs.set H ((dR rfl libG.exs (λ_=>rfl) (H.ev (x:="_law_rule") rfl) (ai (je (H.ev (x:="_law_mixed_here") rfl)) ay) rfl).trans exs) λσ H _=>?_
 generalize bO u (aD p) c=ql at H
 have e5:=zX (C:=mkC p_L 8) (σ:=σ) (g:=aN) (f:=aN) (l:=ql) (z:="_law_pair") (it:=.e (.name "_law_held_here")) (a:=.tup (.cons (.sub (.name "_law_pair") (.int 0)) (.cons (.bi1 .list (.sub (.name "_law_pair") (.int 1))) .nil))) (aJ (H.ev (x:="_law_held_here") rfl) rfl) λq _=>by
  have H2:=H.mk "_law_pair" (.d (aN q))
  exact mG (gq (m:=.sh) (H2.ev (x:="_law_pair") rfl) (am 0)) (je (f8 (m:=.sh) (H2.ev (x:="_law_pair") rfl) (am 1)))
 refine Runs.set H e5 λσ H _=>?_
 have al:∀ {σ:St}{a b:E}{r p:List Int}{l:List (String×V)}{m m':Mode},Has σ l->l.lookup "_law_rule" = some (.rule c (ag u) x.length)->l.lookup "_law_table_here" = some (.d (ag t))->l.lookup "_law_count" = some (.d (.int c))->r∈t->p.Perm r->ev (mkC p_L 8) a σ = .ok (.d (aa r),m)->ev (mkC p_L 8) b σ = .ok (.d (aa p),m') ->
   ev (mkC p_L 8) (.call "_law_all" (.cons (.name "_law_rule") (.cons (.name "_law_table_here") (.cons (.name "_law_count") (.cons a (.cons b .nil)))))) σ = .ok (sB true):=λH h1 h2 h3 v o ha hb=>
  ch (L:=p_L) (f:="_law_all") rfl (ai (H.ev h1) (ai (H.ev h2) (ai (H.ev h3) (ai ha (ai hb ay))))) rfl (wb libG 1 k hm v o)
 refine Runs.no (ca (t:=true) (al H rfl rfl rfl j o (H.ev (x:="_law_choice") rfl) (H.ev (x:="_law_mixed_here") rfl))) ?_
 refine aq (row (more/5)) λr' hrt' r0' r1'=>?_
 refine Runs.set H (oS (H.ev (x:="_law_table_here") rfl) (aW (cL (H.ev (x:="_law_more") rfl) (am 5) (by decide) (by decide)) (hU (H.ev (x:="_law_table_here") rfl)) (la3 y)) r0' r1') λσ H _=>?_
 refine Runs.no (ca (t:=true) (al H rfl rfl rfl hrt' (List.reverse_perm r') (H.ev (x:="_law_other") rfl) (Cc (H.ev (x:="_law_other") rfl)))) ?_
 exact Runs.ret (f9 (p:=true) (q:=true) (al H rfl rfl rfl j o (H.ev (x:="_law_choice") rfl) (H.ev (x:="_law_mixed_here") rfl)) λ_=>EW (H.ev (x:="_law_held_here") rfl) (H.ev (x:="_law_kept") rfl)) rfl
open PySem.W
noncomputable def rw0:RowW:=OpenRow.toRowW (OpenLaw.row PySem.Challenge.rw_uf050037_06)
noncomputable def vw:Program:={rw0.prog with main:={rw0.prog.main with body:=rw0.prog.main.body.filter λs=>(mn s).isNone } }
theorem Bc:(defOf vw (OpenLaw.row PySem.Challenge.rw_uf050037_06).name).isSome=true:=by kernel_rfl
noncomputable def dw:=(defOf vw (OpenLaw.row PySem.Challenge.rw_uf050037_06).name).get Bc
theorem zZ:dw.1.name=Str.ofString "law" := by kernel_rfl
noncomputable def hk:=JO (bC p_L)
end Internal
set_option tactic.hygienic true
open PySem PySem.W PyProof.Rows
set_option maxRecDepth 100000
set_option maxHeartbeats 8000000
theorem PySem.Challenge.cw_uf050037_06_holds : PySem.Challenge.rw_uf050037_06.Holds := by
  w_on
  refine holds_law (by
    unfold OpenLaw.wellSaid
    iterate 18 (refine look_both ?_ ?_)
    · unfold OpenRow.wellSaid
      iterate 2 (refine look_both ?_ ?_)
      · unfold OpenRow.partSaid
        iterate 12 (refine look_both ?_ ?_)
        · unfold looksOpen
          iterate 5 (refine look_both ?_ ?_)
          all_goals decide +kernel
        all_goals decide +kernel
      all_goals decide +kernel
    all_goals decide +kernel) fun said=>?_
  refine holds_open (q:=Internal.vw) (loose:=[]) (Xt:=fun s=>xlAt Internal.vw [] s && recOk (RowW.records Internal.rw0) s) (XP:=XL Internal.vw []) (Yf:=Hook.obs Internal.hk) (Ya:=Hook.val Internal.hk) (YP:=Hook.says Internal.hk) (d:=Internal.dw.1) (kwd:=Internal.dw.2) (N:=5000) ?hl (Hook.of Internal.hk) (Hook.keeps Internal.hk) (fun s e=>xl_of s (Bool.and_eq_true_iff.mp e).1) XL.keeps (by kernel_rfl) (by kernel_rfl) (by kernel_rfl) (fun s e=>recFacts_of (Bool.and_eq_true_iff.mp e).2) (by rfl) (by assumption) (by decide +kernel) ⟨rfl,rfl,rfl,rfl,rfl,by decide +kernel⟩ ?hw ?hc
  case hl=>exact fun w=>by kernel_rfl
  case hw=>w_witness2
  intro w s₀ s₁ mg mb G Y fa o pm cd doc dV kV ho hd hcd hD hmg hg args vals as hpre hlay hrd hwl hlo
  refine Ground.open G ?_
  intro T B D TE TW
  clear hd hcd hD
  rw [Internal.zZ] at hmg
  wrow_args hpre hlay hrd hwl hlo
  rename_i ns _ _ _ _ _ _ _ a vs _ hL ra w1 r0 hI hr hc1 hc2
  have e:=Internal.r4 (by simpa only [ofPy] using w1) hL
  obtain ⟨m,hsp⟩:=Internal.wV ns (by omega)
  refine Internal.xH (n:=8) (ns:=ns) T TE Y (L:=Internal.p_L) (by kernel_rfl) (by kernel_rfl) (by kernel_rfl) rfl (.inr (by decide)) rfl hmg (by decide) hsp e hI (by omega) fun h' tk kk=>?_
  refine ⟨.inl ⟨_,.bool true,[],rfl,?_,?_,?_,?_⟩,kk,rfl,.of_eq hg⟩
  · intro cls; first | rfl | exact raisesW_false allW_false_nil
  · exact .bool true
  · wrow_post
  · exact fun _=>⟨.nil,fun _ h=>nomatch h⟩
