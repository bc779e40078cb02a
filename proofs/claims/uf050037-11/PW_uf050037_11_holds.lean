import PyProof.Rows.All
import Wide.All
import Wide.FinOn
import Open.Line
import PyProof.P3Statements
import PyProof.Lay0
import PyProof.P3In
import PyProof.NeData
import PyProof.CompFree
import PyProof.DictRoadsH
import PyProof.DictWalks
import PyProof.Rows.SortShell
import PyProof.Rows.RuleB_xor
import PyProof.Rows.RuleB_small
import PyProof.Rows.RuleB_floordiv
import PyProof.Rows.RuleB_mod
import PyProof.Rows.RuleB_mul
import PyProof.Rows.IntRules
import PyProof.Rows.RuleC_int
import PyProof.Rows.RuleU_int
import PyProof.ListOps
import PyProof.Cells
import PyProof.Calls
import PyProof.SliceMore
import PyProof.TupleOfSeq
import PyProof.ListCopy
import PyProof.CodeObjX
import PyProof.Rows.PlainObj
import PyProof.ExcClass2
import PyProof.DictStraight
import PyProof.Rows.StrTemp
import PyProof.TupleOps
import PyProof.ListIndexNeg
import PyProof.Rules3
import PyProof.SliceList
import PyProof.Rows.TupSub
import PyProof.ForRange
import PyProof.Rows.DictMade
import PyProof.WalkInts
import PyProof.SeqI3
import PyProof.SumWalkG
import PyProof.WalksMore
import PyProof.IsiPairs
import PyProof.IsiHeapPairs
import PyProof.ListRange
import PyProof.Rows.SortWalk
import PyProof.IsiNone
import PyProof.Rows.SortRuns
import PyProof.Rows.CallKwBuiltin
import PyProof.DefMake
import PyProof.EvalArms
import PyProof.RangeFor
import PyProof.ListNew
import PyProof.Rows.DictUnroll
import PyProof.Rows.PlainNoArg
import PyProof.LetGo
import PyProof.ForAppend
import PyProof.CallRoads
import PyProof.MeetsSeq
import PyProof.AutoSeq1
import PyProof.ForAny
import PyProof.Raises
import PyProof.RaisesMany
import PyProof.StationsW
import PyProof.ExcBaseAll.ValueError
import PyProof.Rows.TupTab
import PyProof.RulesTry
import PyProof.Rows.TupIter
import PyProof.ObjNew
import PyProof.InstStore
import PyProof.AssignAttr
import PySem.Challenge.RW_uf050037_11
set_option Elab.async false
set_option autoImplicit true
set_option bootstrap.genMatcherCode false
set_option genSizeOf false
set_option genInjectivity false
set_option linter.all false

set_option tactic.hygienic false
set_option linter.unusedVariables false
set_option linter.unusedSectionVars false
universe u0 u1 u2 u3 u4 u5 u6 u7 u8 u9 u10 u11
open List (all_eq_true all_map any_eq_true append_assoc append_nil exists_mem_of_ne_nil filter_cons filter_eq_self flatMap_append flatMap_cons foldl_cons forIn_cons forIn_nil isEmpty_iff length_append length_cons length_drop length_eq_zero_iff length_map length_singleton length_take length_zip lookup_cons mapM_cons mapM_nil map_append map_congr_left map_cons map_id map_map map_nil mem_append mem_append_left mem_append_right mem_cons mem_cons_of_mem mem_cons_self mem_filter mem_map mem_of_getElem? mem_singleton mergeSort_perm nodup_append nodup_cons not_mem_nil of_mem_zip pairwise_append pairwise_cons pairwise_map perm_ext_iff_of_nodup size_toArray zip_cons_cons)
open Nat (add_le_add add_le_add_left add_lt_add_left le_add_left le_add_right le_antisymm le_of_eq le_of_lt le_of_lt_succ le_of_not_lt le_refl le_sub_of_add_le le_sub_one_of_lt le_succ le_trans lt_of_le_of_lt lt_of_le_of_ne lt_of_lt_of_le lt_succ_of_lt lt_succ_self lt_trans min_le_left ne_of_gt ne_of_lt not_lt_of_le sub_le sub_lt succ_le_of_lt succ_le_succ succ_pos zero_add zero_le)
open Int (add_comm add_nonneg emod_lt_of_pos emod_nonneg lt_irrefl natCast_add natCast_nonneg not_lt ofNat_le ofNat_lt sub_nonneg toNat_of_nonneg)
open Array (length_toList size_zip)
open Bool (and_eq_true and_eq_true_iff false_eq_true not_eq_true or_eq_true)
open Option (bind_eq_some_iff bind_some isNone_iff_eq_none map_eq_some_iff map_some)
open PySem.Heap (lt_size size_push)
namespace Internal
section
open Nat (le_max_right min_eq_left min_self)
theorem nLe {x n:Nat}(h:(x:Int)<=@OfNat.ofNat Int n instOfNat):x<=n:=ofNat_le.mp h
theorem lte {a b c:Nat}(h:a<c) (e:b=c):a<b:=e▸h
theorem lee {a b c:Nat}(h:a<=c) (e:b=c):a<=b:=e▸h
theorem elt {a b c:Nat}(e:a=c) (h:c<b):a<b:=e▸h
theorem ele {a b c:Nat}(e:a=c) (h:c<=b):a<=b:=e▸h
theorem jle {a b c:Int}(e:a=c) (h:c<=b):a<=b:=e▸h
theorem nn {x:Int}{n:Nat}(e:x = ↑n):0<=x:=e▸natCast_nonneg n
theorem dbl {a b:Nat}(h:a<=b):a+a<=b*2:=by lia
theorem tlt {x:Int}{n:Nat}(h0:0<n) (h:x < ↑n):x.toNat<n:=by lia
theorem tln {x:Int}{n:Nat}(h0:0<=x) (h:x < ↑n):x.toNat<n:=by lia
theorem nxl {a b c:Nat}(h:a+b<c):a<c:=lt_of_le_of_lt (le_add_right a b) h
theorem nxe {a b c:Nat}(h:a+b<=c):a<=c:=le_trans (le_add_right a b) h
theorem adl {a b c d:Nat}(h:b<c) (g:a+c<=d):a+b<d:=lt_of_lt_of_le (add_lt_add_left h a) g
theorem adE {a b c d:Nat}(h:b<=c) (g:a+c<=d):a+b<=d:=le_trans (add_le_add_left h a) g
theorem yR {a b c:Nat}(h:a<c):a-b<c:=lt_of_le_of_lt (sub_le a b) h
theorem Kv {a b c:Nat}(h:a<=c):a-b<=c:=le_trans (sub_le a b) h
theorem mne {a b c:Nat}(h:b<=c):min a b<=c:=le_trans (Nat.min_le_right a b) h
theorem mnl {a b c:Nat}(h:a<=c):min a b<=c:=le_trans (min_le_left a b) h
theorem vlo{a b c:Nat}:a<=a+b-(a+b-(a+c)):=le_sub_of_add_le (add_le_add_left (le_trans (le_of_eq (Nat.add_sub_add_left a b c)) (sub_le b c)) a)
theorem pl {a b:Nat}(p:0<a) (h:a<b+1):a-1<b:=lt_of_lt_of_le (Nat.sub_one_lt (ne_of_gt p)) (le_of_lt_succ h)
theorem sl {a b:Nat}(h:1<=b):a+b-1<a+b:=sub_lt (lt_of_lt_of_le h (le_add_left _ _)) Nat.one_pos
theorem rm1 {u k c:Nat}{b:Prop} [Decidable b] (h:u+100*k+(if b then 200 else 300)<c):u+1<c:=lt_of_le_of_lt (add_le_add (le_add_right u _) (by split<;>decide)) h
theorem na1 {a:Int}(h:a.natAbs<2^63):-2^64<a:=by lia
theorem na2 {a:Int}(h:a.natAbs<2^63):a<2^64:=by lia
variable {a b c d e f:Nat}
variable {a b c d e f:Nat}
theorem a0s {a b c:Nat}(h:c<=b):(a:Int)-b+c<=a:=Int.le_trans (Int.add_le_add_left (ofNat_le.mpr h) _) (Int.le_of_eq (Int.sub_add_cancel _ _))
theorem la1{a:Int}{b:Nat}:0<=a->a<b->a.toNat<b:=λp q=>tln p q
theorem la2{a:Nat}:0<a->(↑a:Int)≠(0:Int):=λp=>Int.ne_of_gt (Int.natCast_pos.mpr p)
theorem la3{a:Nat}:0<a->(0:Int)<(↑a:Int):=λp=>Int.natCast_pos.mpr p
theorem la4{a:Int}{b:Nat}:0<b->a%b<b->(a%(↑b:Int)).toNat<b:=λp q=>tlt p q
theorem la5{a b c:Int}:c<=b->0<=a/\a<c->a<b:=λp q=>Int.lt_of_lt_of_le q.2 p
theorem la6{a b c:Int}:c<=b->0<=a/\a<c->0<=a/\a<b+1:=λp q=>And.intro q.1 (Int.lt_of_lt_of_le q.2 (Int.le_trans p (Int.le_of_lt (Int.lt_succ _))))
theorem la7{a b:Int}:0<=b->b<=a->0<=a/\a<a+1:=λp q=>And.intro (Int.le_trans p q) (Int.lt_succ _)
theorem la8{a b c:Int}:c<=b->0<=a/\a<c->0<=a/\a<b:=λp q=>And.intro q.1 (Int.lt_of_lt_of_le q.2 p)
theorem la9:b=a+(c+1)->a<b:=λp=>lte (Nat.lt_add_of_pos_right (succ_pos _)) p
theorem Ki:a<=7->a<=1000000:=λp=>le_trans p (by decide)
theorem Kt:b<=7->a<b->a<=6:=λp q=>le_of_lt_succ (lt_of_lt_of_le q p)
theorem KF:b<=7->c<b->a<=c->a+1<=1000000:=λp q r=>le_trans (le_trans (succ_le_of_lt (lt_of_le_of_lt r q)) p) (by decide)
theorem Kz:a<=b->b<=2^6->a+a<=1000000:=λp q=>le_trans (dbl (le_trans p q)) (by decide)
theorem Km:a<=b->a+a<=b*2:=λp=>dbl p
theorem C5{a:Nat}:(↑a:Int)<=(↑(a+(1:Nat)):Int):=ofNat_le.mpr (le_add_right _ _)
theorem KD{a:Nat}{b:Int}:b=a->a<=b:=λp=>Int.le_of_eq (Eq.symm p)
theorem Ks{a:Int}{b:Nat}:a=b->a+1<=(↑(b+(1:Nat)):Int):=λp=>Int.le_of_eq (by rw[p]; rfl)
theorem KC:a<a+(b+1):=Nat.lt_add_of_pos_right (succ_pos _)
theorem Dg{a b:Nat}:a<b->(↑a:Int)<(↑b:Int):=λp=>ofNat_lt.mpr p
theorem KL:b<63->a<=b->a+1<=1000000:=λp q=>le_trans (succ_le_of_lt (lt_of_le_of_lt q p)) (by decide)
theorem Kl:b<63->a<=b->a+1<64:=λp q=>Nat.add_lt_add_right (lt_of_le_of_lt q p) _
theorem xO:a<=1000->a<=1000000:=λp=>le_trans p (by decide)
theorem CH:b<=1000->a<=b->a<=1000000:=λp q=>le_trans q (le_trans p (by decide))
theorem AL:a<=b->a<=b+1:=λp=>Nat.le_succ_of_le p
theorem ld:a<=b->a+1<=b+1:=λp=>succ_le_succ p
theorem Ia:b<=1000->a<b->a<=1000:=λp q=>le_trans (le_of_lt q) p
theorem Fp{a b:Int}:0<=a/\a<b->a<0->False:=λp q=>absurd q (not_lt.mpr p.1)
theorem GT{a b:Int}:0<=a/\a<b->b<=a->False:=λp q=>absurd p.2 (not_lt.mpr q)
theorem E5{a b c:Int}:a<c->c<=b->a<=b:=λp q=>Int.le_trans (Int.le_of_lt p) q
theorem J2{a b c:Int}:¬c<a->c<=b->a<=b:=λp q=>Int.le_trans (not_lt.mp p) q
theorem ml{a:Nat}:(0:Int)<=(↑a:Int):=natCast_nonneg _
theorem zX{a b:Int}:a<=b->b<=a->a=b:=λp q=>Int.le_antisymm p q
theorem Ju{a b:Nat}{c:Int}:a=c->c=b->a=b:=λp q=>Int.ofNat.inj (p.trans q)
theorem Hb{a:Int}{b c d:Nat}:c=a->d=b->d<=a->c<=b->a=b:=λp q r s=>by subst p q; exact congrArg Nat.cast (le_antisymm s (ofNat_le.mp r))
theorem GK{a:Nat}:(↑a:Int)=(0:Int)->a=0:=λp=>Nat.eq_zero_of_le_zero (ofNat_le.mp (jle p (by decide)))
theorem mw:a<=63->a<=1000:=λp=>le_trans p (by decide)
theorem JL:b<=63->a<=b->a<=1000000:=λp q=>le_trans q (le_trans p (by decide))
theorem EJ:b<=63->a<=b->a<64:=λp q=>lt_of_le_of_lt q (lt_of_le_of_lt p (by decide))
theorem IS:b<=63->c<=b->a=c->a<=1000:=λp q r=>le_trans (le_trans (ele r q) p) (by decide)
theorem HS:a+(b+1)<=1000->a<=1000:=λp=>nxe p
theorem IX{a b:Int}{c:Prop}:¬(a<0\/b<=a\/c)->0<=a/\a<b:=λp=>And.intro (not_lt.mp λg=>p (.inl g)) (Int.not_le.mp λg=>p (.inr (.inl g)))
theorem DY:a+(b+1)<=1000->a+1+b<=1000:=λp=>by rw[Nat.add_right_comm]; exact p
theorem Ao:a<=b-1->0<b->a+1<=b:=λp q=>succ_le_of_lt (lt_of_le_of_lt p (sub_lt q (by decide)))
theorem Jk{a:Prop}{b c:Nat}:b<=c->c+1<=b->a:=λp q=>absurd q (Nat.not_le_of_lt (Nat.lt_succ_of_le p))
theorem zq:b=a->a<=b:=λp=>le_of_eq (Eq.symm p)
theorem Gg{a:Nat}:a<=1000000->((↑a:Int)-(0:Int)).toNat<=(1000000:Nat):=λp=>Int.toNat_le.mpr (Int.le_trans (Int.sub_le_self _ (Int.le_refl 0)) (ofNat_le.mpr p))
theorem Ip:-(2:Int)^(60:Nat)<=(0:Int):=by decide
theorem I9:(0:Int)<(2:Int)^(60:Nat):=by decide
theorem E6{a:Nat}:-(2:Int)^(60:Nat)<=(↑a:Int):=by lia
theorem GA{a:Nat}:a<=1000000->(↑a:Int)<(2:Int)^(60:Nat):=λp=>Int.lt_of_le_of_lt (ofNat_le.mpr p) (by decide)
theorem DS{a b:Nat}:a<b->(0:Int)<=(↑a:Int)/\(↑a:Int)<(↑b:Int):=λp=>And.intro (natCast_nonneg _) (ofNat_lt.mpr p)
theorem D0{a:Int}:0<=a->(↑a.toNat:Int)=a:=λp=>toNat_of_nonneg p
theorem AK{a:Int}{b:Nat}:a.toNat<b->a<b:=λp=>Int.lt_of_le_of_lt (Int.self_le_toNat _) (ofNat_lt.mpr p)
theorem DX{a:Int}:0<a->¬a=0:=λp=>Int.ne_of_gt p
theorem zC{a:Int}:0<a->0<=a:=λp=>Int.le_of_lt p
theorem z6{a b c:Int}:a<=c->c<=b->a<=b:=λp q=>Int.le_trans p q
theorem AH{a b:Int}:a<=b\/b<=a:=Int.le_total _ _
theorem AG{a:Nat}:a<=1000000->(↑a:Int)<(2:Int)^(62:Nat):=λp=>Int.lt_of_le_of_lt (ofNat_le.mpr p) (by decide)
theorem Jz{a b:Int}:0<=b->a<=1000->(a-b).toNat<=(1000000:Nat):=λp q=>Int.toNat_le.mpr (Int.le_trans (Int.sub_le_self _ p) (Int.le_trans q (by decide)))
theorem AA{a:Int}:0<=a->-(2:Int)^(60:Nat)<=a:=by intro p; lia
theorem zN{a:Int}:a<=1000->a<(2:Int)^(60:Nat):=λp=>Int.lt_of_le_of_lt p (by decide)
theorem Hz:0<=a:=zero_le _
theorem z8:a<=b+c->¬a=b+c->a<=b+c-1:=λp q=>le_sub_one_of_lt (lt_of_le_of_ne p q)
theorem ut:1<=b->a+b-1<a+b:=λp=>sl p
theorem Af:a<b+(c+1)->¬a=b+c->a<b+c:=λp q=>lt_of_le_of_ne (le_of_lt_succ p) q
theorem FL:a<=c/\c<b->a<=a+b-1-c:=λp=>le_sub_of_add_le (le_sub_one_of_lt (add_lt_add_left p.2 _))
theorem DJ:a<=c/\c<b->a+b-1-c<b:=λp=>lt_of_le_of_lt (Nat.sub_le_sub_left p.1 _) (by rw[Nat.sub_right_comm,Nat.add_sub_cancel_left]; exact sub_lt (lt_of_le_of_lt (zero_le _) p.2) Nat.one_pos)
theorem IG:d<=a->c<=f->b<d\/f<=b->¬(a<=b/\b<c):=λp q r=>λe=>r.elim (λg=>not_lt_of_le (le_trans p e.1) g) (λg=>not_lt_of_le (le_trans q g) e.2)
theorem DP:a+d<=c->b<=d->a+b<=c:=λp q=>adE q p
theorem Hl:c<a+b->a<=a+(a+b)-1-c:=λp=>le_sub_of_add_le (le_sub_one_of_lt (add_lt_add_left p _))
theorem FV:d<=c->a+(a+b)-1-c<=a+(a+b)-1-d:=λp=>Nat.sub_le_sub_left p _
theorem Jr:1<=b->a<=c->a+(a+b)-1-c<a+b:=λp q=>lt_of_le_of_lt (Nat.sub_le_sub_left q _) (by rw[Nat.sub_right_comm,Nat.add_sub_cancel_left]; exact sl p)
theorem J5:max a b<=b->max a b=b:=λp=>le_antisymm p (le_max_right _ _)
theorem zv:c+1-(0+1)<=b->b<c+1->a+b=a+(c+1)-1:=λp q=>congrArg (_ + ·) (le_antisymm (le_of_lt_succ q) p)
theorem pH:a+d<=e->b<d->c=e->a+b<c:=λp q r=>lte (adl q p) r
theorem zE:a+d<=e->b<d->c=e->a+b-1<c:=λp q r=>lte (yR (adl q p)) r
theorem Aa:a+d<=e->b<d->c=e->a+b<=c:=λp q r=>le_of_lt (lte (adl q p) r)
theorem zR:c+1<=b->a<=a+b-(c+1):=λp=>le_sub_of_add_le (add_le_add_left p _)
theorem Ah:d+a-(b+1)<=c->a-(b+1)<=c-d:=λp=>Nat.sub_le_of_le_add (Nat.le_of_add_le_add_left (le_trans (Nat.le_add_of_sub_le p) (le_trans (Nat.add_le_add_right (Nat.sub_le_iff_le_add'.mp (le_refl _)) _) (le_of_eq (Nat.add_assoc _ _ _)))))
theorem AN:d+1<=c->a<b+c->a-b<c:=λp q=>(Nat.lt_or_ge a b).elim (λg=>lt_of_le_of_lt (le_of_eq (Nat.sub_eq_zero_of_le (le_of_lt g))) (lt_of_lt_of_le (succ_pos _) p)) (λg=>Nat.sub_lt_left_of_lt_add g q)
theorem Al:c+1<=d->a+d-(c+1)<=b->a+(b-a)=b:=λp q=>Nat.add_sub_of_le (le_trans (le_sub_of_add_le (add_le_add_left p _)) q)
theorem HA:¬b<a->¬a<b->a=b:=λp q=>le_antisymm (le_of_not_lt p) (le_of_not_lt q)
theorem Hx:a+(b+1)-1=a+b:=by rfl
theorem Jm:a+1-(b+1+1)<=c->a-(b+1)<=c:=λp=>Nat.succ_sub_succ _ _▸p
theorem Iq:a<b+1->¬a=b->a<b:=λp q=>lt_of_le_of_ne (le_of_lt_succ p) q
theorem Eu:max (a+1) b<=b->max (a+1) b=b:=λp=>le_antisymm p (le_max_right _ _)
theorem Ad:a+d<=e->b<=d->c=e->a+b<=c:=λp q r=>lee (adE q p) r
theorem ux:a+b<=d->c=d->a+b<=c:=λp q=>lee p q
theorem En:b+1<=a->1<=a:=λp=>le_trans (le_add_left _ _) p
theorem AF:c<=a->a<=b->b<c+1->a=b:=λp q r=>le_antisymm q (le_trans (le_of_lt_succ r) p)
theorem Ft:max 1 a<=a->max 1 a=a:=λp=>le_antisymm p (le_max_right _ _)
theorem HM:a<=b->a≠b->a<b:=λp q=>lt_of_le_of_ne p q
theorem EG:1<=c->a+c<=b->a<b:=λp q=>lt_of_lt_of_le (Nat.lt_add_of_pos_right (Nat.lt_of_succ_le p)) q
theorem IN:1<=b->b<=d->a+d<=c->a+b-1<c:=λp q r=>lt_of_lt_of_le (sl p) (le_trans (add_le_add_left q _) r)
theorem F3:a<b+c->a<=b+c-1:=λp=>le_sub_one_of_lt p
theorem GF:¬c<b->c<=a->a<=b->a=b:=λp q r=>le_antisymm r (le_trans (le_of_not_lt p) q)
theorem AO:b<=d->a+d<=c->a+b<=c:=λp q=>adE p q
theorem F9:1<=a->¬a>1->a=1:=λp q=>le_antisymm (le_of_not_lt q) p
theorem Jo:a<b->a<=(a+b)/2/\(a+b)/2<b:=λp=>And.intro ((Nat.le_div_iff_mul_le (by decide)).mpr (by rw[Nat.mul_two]; exact add_le_add_left (le_of_lt p) _)) ((Nat.div_lt_iff_lt_mul (by decide)).mpr (by rw[Nat.mul_two]; exact Nat.add_lt_add_right p _))
theorem G5:a<b->min a b=a:=λp=>min_eq_left (le_of_lt p)
theorem Gc:c<0->a<=b:=λp=>absurd p (Nat.not_lt_zero _)
theorem IV:c<=d->d<c->a<b:=λp q=>absurd q (not_lt_of_le p)
theorem Jd{a b c d e f g:Nat}:a+d<=e->f<d->g<=f->c=e->b<g->a+b<c:=λp q r s t=>s▸lt_of_lt_of_le (add_lt_add_left (lt_trans (lt_of_lt_of_le t r) q) a) p
theorem FX:c<=b->a<c->a<=b:=λp q=>le_trans (le_of_lt q) p
theorem J4:e-b<=c-d->a<e->a-b<=c-(d+1):=λp q=>le_trans (Nat.sub_le_sub_right (le_sub_one_of_lt q) _) (le_trans (le_of_eq (Nat.sub_right_comm _ 1 _)) (Nat.sub_le_sub_right p 1))
theorem EV:a-e<=c-d->e<=b->a-(b+1)<=c-(d+1):=λp q=>Nat.sub_le_sub_right (le_trans (Nat.sub_le_sub_left q _) p) 1
theorem Fl:b<c+1->a+b<=a+c:=λp=>add_le_add_left (le_of_lt_succ p) _
theorem JY:d<=c->b<d->a+b<a+c:=λp q=>add_lt_add_left (lt_of_lt_of_le q p) _
theorem IQ:a-c<=d-max 0 d->c<=b->a<=b:=λp q=>le_trans (Nat.le_of_sub_eq_zero (Nat.eq_zero_of_le_zero (le_trans p (le_of_eq (Nat.sub_eq_zero_of_le (le_max_right 0 _)))))) q
theorem Il:c<f->a<b\/b+f<=a->¬a=b+c-(b+c-(b+d)):=λp q=>λe=>q.elim (λg=>not_lt_of_le vlo (e▸g)) (λg=>not_lt_of_le (le_trans g (le_trans (le_of_eq e) (sub_le _ _))) (add_lt_add_left p _))
theorem Hu:b<f->d<a\/a+f<=d->¬(a+b-(a+b-(a+c))<d/\d<=a+b):=λp q=>λe=>q.elim (λg=>not_lt_of_le vlo (lt_trans e.1 g)) (λg=>not_lt_of_le (le_trans g e.2) (add_lt_add_left p _))
theorem IT:a<b->min (a+1) b=a+1:=λp=>min_eq_left (succ_le_of_lt p)
theorem Io:c<=b->a+b-(a+b-(a+c))=a+c:=λp=>Nat.sub_sub_self (add_le_add_left p _)
theorem ED:e<=c->c<a+(d+1)->e=a+b->¬c=a+b->a+b<c/\c<=a+d:=λp q r s=>And.intro (lt_of_le_of_ne (r▸p) (Ne.symm s)) (le_of_lt_succ q)
theorem Ge:d<=b->d=c+a->¬b=c+a->a<=b-1-c:=λp q r=>le_sub_of_add_le (le_sub_one_of_lt (Nat.add_comm _ _▸lt_of_le_of_ne (q▸p) (Ne.symm r)))
theorem H7:d<=a->a<b+(c+1)->d=b+e->¬a=b+e->a-1-b<c:=λp q r s=>Nat.sub_lt_left_of_lt_add (le_sub_one_of_lt (lt_of_le_of_lt (le_add_right _ _) (lt_of_le_of_ne (r▸p) (Ne.symm s)))) (pl (lt_of_le_of_lt (zero_le _) (lt_of_le_of_ne (r▸p) (Ne.symm s))) q)
theorem G0:c<=b->c=a+d->¬b=a+d->a+(b-1-a)=b-1:=λp q r=>Nat.add_sub_of_le (le_sub_one_of_lt (lt_of_le_of_lt (le_add_right _ _) (lt_of_le_of_ne (q▸p) (Ne.symm r))))
theorem EW:c<=f->f=a+b->¬(a+b<c/\c<=a+d):=λp q=>λe=>not_lt_of_le (q▸p) e.1
theorem JJ:b<=a->a<=d->¬a=b+c->d=b+c->a-b<c:=λp q r s=>Nat.sub_lt_left_of_lt_add p (lt_of_le_of_ne (s▸q) r)
theorem Jq:a<=b->a+(b-a)=b:=λp=>Nat.add_sub_cancel' p
theorem Jl:c<=e->e<a+(d+1)->a+b<c->a+b<c/\c<=a+d:=λp q r=>And.intro r (le_of_lt_succ (lt_of_le_of_lt p q))
theorem G9:e<=c->c<a+(d+1)->a+b<e->a+b<c/\c<=a+d:=λp q r=>And.intro (lt_of_lt_of_le r p) (le_of_lt_succ q)
theorem GX:a+c<b->a<=b-1:=λp=>nxe (le_sub_one_of_lt p)
theorem I7:a<=b->a-1<=b-1:=λp=>Nat.sub_le_sub_right p _
theorem FR:d<=a->a<b+(c+1)->b+e<d->a-1<b+c:=λp q r=>pl (lt_of_le_of_lt (zero_le _) (lt_of_lt_of_le r p)) q
theorem AI:¬a+b<c->¬(a+b<c/\c<=a+d):=λp=>λe=>p e.1
theorem JT:c<a+(d+1)->a+b<c->a+b<c/\c<=a+d:=λp q=>And.intro q (le_of_lt_succ p)
theorem JZ:¬c+d<a->c+d<b->a<=b-1:=λp q=>le_trans (le_of_not_lt p) (le_sub_one_of_lt q)
theorem JS:a<b+(c+1)->b+d<a->a-1<b+c:=λp q=>pl (lt_of_le_of_lt (zero_le _) q) p
theorem Ie:d<=c->¬a=b+d->¬b+d<a->a<b+c:=λp q r=>lt_of_lt_of_le (lt_of_le_of_ne (le_of_not_lt r) q) (add_le_add_left p _)
theorem I0:min (max (max a 1) b) b=b:=Nat.min_eq_right (le_max_right _ _)
theorem Ez:c<=a->a<=b->b<c+min (max d 1) e->d=0->a=b:=λp q r s=>le_antisymm q (le_trans (le_of_lt_succ (lt_of_lt_of_le r (add_le_add_left (le_trans (min_le_left (max d 1) e) (by rw[s]; decide:max d 1<=1)) _))) p)
theorem GP:a<b+min (max c 1) d->¬c=0->a<b+c:=λp q=>lt_of_lt_of_le p (add_le_add_left (le_trans (min_le_left _ _) (Nat.max_le.mpr ⟨le_refl _,Nat.pos_of_ne_zero q⟩)) _)
theorem Ij{a b c:Int}:a<c->c<b->¬a=b:=λp q=>Int.ne_of_lt (Int.lt_of_lt_of_le p (Int.le_of_lt q))
theorem Ik{a b c:Int}:a<c->c<b->a<b:=λp q=>Int.lt_of_lt_of_le p (Int.le_of_lt q)
theorem IW{a:Prop}{b c:Int}:¬b=c->¬b<c->¬c<b->a:=λp q r=>absurd (Int.le_antisymm (not_lt.mp r) (not_lt.mp q)) p
theorem FW:a<=b->a<=b+c:=λp=>le_trans p (le_add_right _ _)
theorem Am:a<=b->a<b+1:=λp=>Nat.lt_succ_of_le p
theorem Jf:a<b->a<b+c:=λp=>lt_of_lt_of_le p (le_add_right _ _)
theorem Ka:a<b->b<a->False:=λp q=>absurd q (not_lt_of_le (le_of_lt p))
theorem Gj{a:Prop}{b:Nat}:1<=b->0=b->a:=λp q=>absurd (lee p q) (by decide)
theorem H9:2<=a->a=a-1+1:=λp=>(Nat.sub_add_cancel (Nat.le_of_succ_le p)).symm
theorem Gh:b=a->0+(a-0)<=b:=λp=>by rw[zero_add]; exact le_of_eq p.symm
theorem F0:b=a->0+min (a-0) a<=b:=λp=>by rw[p,zero_add]; exact Nat.min_le_right _ _
theorem FG:a<b->a<=min (b-0) b:=λp=>Nat.le_min.mpr ⟨le_of_lt p,le_of_lt p⟩
theorem Ir:min (a-0) a=a:=min_self _
theorem HX:a<=b-0->¬a<b->a=b:=λp q=>le_antisymm (le_trans p (sub_le _ _)) (le_of_not_lt q)
theorem F5{a b:Prop}{c:Nat}:2<=c->max 0 c=0->a/\b:=by intro p q; lia
theorem IB:b=a->0+a<=b:=λp=>by rw[p,zero_add]; exact le_refl _
theorem EQ:a=b->a<=b:=λp=>le_of_eq p
theorem Hc{a:Int}:¬0<=a->a<0:=λp=>Int.not_le.mp p
theorem Gw{a:Int}{b:Nat}:b<=2^22->a<b->a<(2:Int)^(63:Nat):=λp q=>Int.lt_of_lt_of_le q (Int.le_trans (ofNat_le.mpr p) (by decide))
theorem E3{a:Int}{b:Nat}:b<=2^22->-b<=a->-(2:Int)^(63:Nat)<=a:=λp q=>Int.le_trans (Int.le_trans (by decide) (Int.neg_le_neg (ofNat_le.mpr p))) q
theorem zJ{a:Int}:0<=a->¬a<0:=λp=>not_lt.mpr p
theorem FY{a:Int}:-(2:Int)^(22:Nat)<=a/\a<(2:Int)^(22:Nat)->-(2:Int)^(63:Nat)<=a:=λp=>Int.le_trans (by decide) p.1
theorem GQ{a:Int}:-(2:Int)^(22:Nat)<=a/\a<(2:Int)^(22:Nat)->a<(2:Int)^(63:Nat):=λp=>Int.lt_trans p.2 (by decide)
theorem Aj:b<=2^22->a=b->a<=2^24:=λp q=>le_trans (ele q p) (by decide)
theorem G2{a:Nat}{b:Int}:a<=2^22->a-b.toNat<=(2:Nat)^(22:Nat):=λp=>Kv p
theorem FO{a:Int}{b:Nat}:b<=2^22->min a.toNat b<=(2:Nat)^(22:Nat):=λp=>mne p
theorem pC:b=c->a<c->a<b:=λp q=>lte q p
theorem GS:a=c->¬b<c->min a a<=b:=λp q=>mne (ele p (le_of_not_lt q))
theorem zr:¬c<a->min a b<=c:=λp=>mnl (le_of_not_lt p)
theorem Ig:a<64->a<=16777216+1:=λp=>le_trans (le_of_lt p) (by decide)
theorem AM:a<64->a<=16777216:=λp=>le_trans (le_of_lt p) (by decide)
theorem Gs:a<2->a<=1:=λp=>le_of_lt_succ p
theorem HV:¬a<2->1<=a:=λp=>le_trans (le_add_left _ _) (le_of_not_lt p)
theorem EH:b=a->¬b<2->¬a<2:=λp q=>not_lt_of_le (le_trans (le_of_not_lt q) (le_of_eq p))
theorem zO:¬a<2->2<=a:=λp=>le_of_not_lt p
theorem zA:b<=a->¬a<b:=λp=>not_lt_of_le p
theorem HJ:a<=1000000->a<=16777216:=λp=>le_trans p (by decide)
theorem Ap:a<=1000000->a<=2^22:=λp=>le_trans p (by decide)
theorem DI:a=b->a=b:=by intro p; omega
theorem AR:b<64->a=b->a<=16777216:=λp q=>le_trans (le_of_lt (elt q p)) (by decide)
theorem EZ:a+200<b->a+1+1<b:=λp=>lt_of_le_of_lt (add_le_add_left (by decide:2<=200) a) p
theorem z2:b<64->a=b->a<64:=λp q=>elt q p
theorem zK:a<64->a<=2^22:=λp=>le_trans (le_of_lt p) (by decide)
theorem Fk{a b:Nat}:a=b->b<=2^22->(↑a:Int)<(2:Int)^(63:Nat):=λp q=>Int.lt_of_le_of_lt (ofNat_le.mpr (ele p q)) (by decide)
theorem D8{a b:Nat}:a=b->b<=2^22->¬(↑a:Int)≥(2:Int)^(63:Nat):=λp q=>λg=>absurd (Int.le_trans g (ofNat_le.mpr (le_trans (le_of_eq p) q))) (by decide)
theorem J3{a b:Nat}{c:Prop}:a=b->b<=2^22/\c->a<=2^24:=λp q=>le_trans (ele p q.1) (by decide)
theorem AB:a<128->a<=16777216:=λp=>le_trans (le_of_lt p) (by decide)
theorem E2:a<128->a<=16777216+1:=λp=>le_trans (le_of_lt p) (by decide)
theorem EO:b<128->a=b->a<=16777216:=λp q=>le_trans (le_of_lt (elt q p)) (by decide)
theorem H4:a<128->a<=2^22:=λp=>le_trans (le_of_lt p) (by decide)
theorem Hw:a+100*c+200<b->a+200<b:=λp=>lt_of_le_of_lt (Nat.add_le_add_right (le_add_right _ _) 200) p
theorem HG:a+100*c+300<b->a+200<b:=λp=>lt_of_le_of_lt (add_le_add (le_add_right _ _) (by decide)) p
theorem Ak:a+200<d->b+1<=64->a+1+min b c<d:=λp q=>lt_of_le_of_lt (le_trans (le_of_eq (Nat.add_assoc _ 1 _)) (add_le_add_left (le_trans (add_le_add_left (min_le_left _ _) 1) (le_trans (le_of_eq (Nat.add_comm 1 _)) (le_trans q (by decide)))) _)) p
theorem zV:a+200<b->a+1<b:=λp=>lt_of_le_of_lt (succ_le_succ (le_add_right _ _)) p
theorem AQ:a+200<d->b<=64->a+min b c<d:=λp q=>lt_of_le_of_lt (add_le_add_left (le_trans (min_le_left _ _) (le_trans q (by decide))) _) p
theorem z5{a b:Nat}{c:Prop}{d:Nat}:b<1000/\c->a=d->d=b->a<=2^24:=λp q r=>le_trans (le_of_lt (elt q (elt r p.1))) (by decide)
theorem zY{a b:Nat}{c:Prop}{d:Nat}:b<1000/\c->d=b->a=d->a<=2^22:=λp q r=>le_trans (le_of_lt (elt r (elt q p.1))) (by decide)
theorem JG{a b:Int}:-(2:Int)^(60:Nat)<=a/\a<(2:Int)^(60:Nat)/\-(2:Int)^(60:Nat)<=b/\b<(2:Int)^(60:Nat)->-(2:Int)^(62:Nat)<=a:=λp=>Int.le_trans (by decide) p.1
theorem HI{a b:Int}:-(2:Int)^(60:Nat)<=a/\a<(2:Int)^(60:Nat)/\-(2:Int)^(60:Nat)<=b/\b<(2:Int)^(60:Nat)->a<(2:Int)^(62:Nat):=λp=>Int.lt_trans p.2.1 (by decide)
theorem G8{a b:Int}:-(2:Int)^(60:Nat)<=b/\b<(2:Int)^(60:Nat)/\-(2:Int)^(60:Nat)<=a/\a<(2:Int)^(60:Nat)->-(2:Int)^(62:Nat)<=a:=λp=>Int.le_trans (by decide) p.2.2.1
theorem FZ{a b:Int}:-(2:Int)^(60:Nat)<=b/\b<(2:Int)^(60:Nat)/\-(2:Int)^(60:Nat)<=a/\a<(2:Int)^(60:Nat)->a<(2:Int)^(62:Nat):=λp=>Int.lt_trans p.2.2.2 (by decide)
theorem Hj{a b:Int}:(a-b).toNat<=(1000000:Nat)->(a-b).toNat<=(2:Nat)^(22:Nat):=λp=>le_trans p (by decide)
theorem uh:b<a->a+1-(b+1)<a+1-b:=λp=>Nat.sub_lt_sub_left (lt_succ_of_lt p) (lt_succ_self _)
theorem Hk{a b:Nat}{c:Prop}{d:Nat}:b<=2^22/\c->a<=d->d<b->a<=2^24:=λp q r=>le_trans q (le_trans (le_trans (le_of_lt r) p.1) (by decide))
theorem zS:a<=b->¬a<b->a=b:=λp q=>le_antisymm p (le_of_not_lt q)
theorem Fq:a<=0->a=0:=λp=>Nat.eq_zero_of_le_zero p
theorem An:a<=b+1->¬a=b+1->a<=b:=λp q=>le_of_lt_succ (lt_of_le_of_ne p q)
theorem J9{a b c:Int}:b>c->a<=c->a<=b:=λp q=>Int.le_trans q (Int.le_of_lt p)
theorem HO{a b:Int}:¬a>b->a<=b:=λp=>not_lt.mp p
theorem Gk:0<b->a<=b-1->a<b:=λp q=>lt_of_le_of_lt q (sub_lt p (by decide))
theorem Fd:a<b->a<=b-1:=λp=>le_sub_one_of_lt p
theorem t7{a:Nat}:¬(↑a:Int)<(0:Int):=not_lt.mpr (natCast_nonneg _)
theorem mK:¬b<a->a<=b:=λp=>le_of_not_lt p
theorem FM:a<20->a<30:=λp=>lt_of_lt_of_le p (by decide)
theorem Hp{a b:Nat}:(↑(a+(b+(1:Nat))):Int)=(↑(a+(1:Nat)+b):Int):=by lia
theorem zU:-(2:Int)^(62:Nat)<=(0:Int):=by decide
theorem At:(0:Int)<(2:Int)^(62:Nat):=by decide
theorem GB{a:Int}:-(2:Int)^(60:Nat)<=(0:Int)/\(0:Int)<(2:Int)^(60:Nat)/\-(2:Int)^(60:Nat)<=a/\a<(2:Int)^(60:Nat)->-(2:Int)^(62:Nat)<=a:=λp=>Int.le_trans (by decide) p.2.2.1
theorem Ga{a:Int}:-(2:Int)^(60:Nat)<=(0:Int)/\(0:Int)<(2:Int)^(60:Nat)/\-(2:Int)^(60:Nat)<=a/\a<(2:Int)^(60:Nat)->a<(2:Int)^(62:Nat):=λp=>Int.lt_trans p.2.2.2 (by decide)
theorem JP{a:Int}:(a-(0:Int)).toNat<=(1000000:Nat)->(a-(0:Int)).toNat<=(2:Nat)^(24:Nat):=λp=>le_trans p (by decide)
theorem HC{a:Int}:(a-(0:Int)).toNat<=(1000000:Nat)->(a-(0:Int)).toNat<=(2:Nat)^(22:Nat):=λp=>le_trans p (by decide)
theorem JD{a:Nat}{b:Prop}:a<=2^22/\b->a<=2^24:=λp=>le_trans p.1 (by decide)
theorem Aq:a<=1000000->a<=2^24:=λp=>le_trans p (by decide)
theorem FA:a<1000000->a+1<=2^22:=λp=>le_trans (succ_le_of_lt p) (by decide)
theorem Is:a<1000000->a<=2^24:=λp=>le_trans (le_of_lt p) (by decide)
theorem JI:1<=16777216:=by decide
theorem HW:a+2*b+4<c->a+2*b+1<c:=λp=>lt_of_le_of_lt (succ_le_succ (le_add_right _ _)) p
theorem IY:a+100*b+300<c->a+100*b+200<c:=λp=>lt_of_le_of_lt (add_le_add_left (le_add_left _ _) _) p
theorem Fu:a+2*b+5<c->a+1+2*b+4<c:=λp=>by rw[Nat.add_right_comm _ 1]; exact p
theorem H6:a+100*b+303<c->a+3+100*b+300<c:=λp=>by rw[Nat.add_right_comm _ 3]; exact p
theorem Ho:a+2*(c+1)+4<b/\d+100*(c+1)+300<e->a<b:=λp=>nxl (nxl p.1)
theorem DQ:a+100*b+303<=a+100*(b+1)+300:=by lia
theorem D6:a<=8->a<=16777216:=λp=>le_trans p (by decide)
theorem GH:a<=1->1+3*a<=50:=λp=>le_trans (add_le_add_left (Nat.mul_le_mul_left 3 p) 1) (by decide)
theorem F7:b<=50->a+b<=a+50:=λp=>add_le_add_left p _
theorem GU:a+2*(c+1)+4<b->a+1<b:=λp=>lt_of_le_of_lt (add_le_add (le_add_right _ _) (by decide)) p
theorem Je:a+2*(b+1)+4<c->a+1+2*b+5<c:=λp=>by rw[Nat.add_right_comm _ 1]; exact p
theorem JN:a<=c+50->a+100*b+303<=c+100*(b+1)+300:=by intros; lia
theorem Gb:a+b<=1000000->a+b<=2^22:=λp=>le_trans p (by decide)
theorem Gy:a+b<=1000000->a+b<=2^24:=λp=>le_trans p (by decide)
theorem Fe{a:Nat}{b:Int}:¬(b=0\/(1000000000:Nat)<=a)->a<1073741824:=λp=>lt_trans (Nat.lt_of_not_le λg=>p (.inr g)) (by decide)
theorem Jj{a:Int}{b:Nat}:(0:Int)<=a/\a<=(1000:Int)/\b<(2:Nat)^(63:Nat)->a<=1000000:=λp=>Int.le_trans p.2.1 (by decide)
theorem E1{a:Nat}{b:Int}:(0:Int)<=b/\b<=(1000:Int)/\a<(2:Nat)^(63:Nat)->a<2^64:=λp=>lt_trans p.2.2 (by decide)
theorem Ib:a<=60->1+300+2*a+4<1000:=λp=>lt_of_le_of_lt (Nat.add_le_add_right (add_le_add_left (Nat.mul_le_mul_left 2 p) _) 4) (by decide)
theorem F6:a<=60->4+100*a+300<9900:=λp=>lt_of_le_of_lt (Nat.add_le_add_right (add_le_add_left (Nat.mul_le_mul_left 100 p) _) 300) (by decide)
theorem GJ:a<=50->a+1<=60:=λp=>le_trans (succ_le_succ p) (by decide)
theorem tK{a:Int}{b:Nat}:0<=a/\a<b->a.toNat<b:=λp=>tln p.1 p.2
theorem tG{a b:Int}:b<a->¬a<b:=λp=>not_lt.mpr (Int.le_of_lt p)
theorem Hg:a<=1000->a<1000000:=λp=>lt_of_le_of_lt p (by decide)
theorem IZ:a<=63->a<64:=λp=>lt_of_le_of_lt p (by decide)
theorem Ew{a:Nat}:(0:Int)<=(↑a:Int)/\(↑a:Int)<(↑a:Int)->False:=λp=>absurd p.2 (not_lt.mpr (Int.le_of_lt p.2))
theorem zG:a<=a+b:=le_add_right _ _
theorem Eo:a+1+b=a+(b+1):=by lia
theorem DO:a+(b+1)=a+1+b:=by lia
theorem E8:b=c->a=c->min a b=b:=λp q=>by subst q; subst p; exact min_self _
theorem GR:b=c->a=c->b<128->a<=16777216:=λp q r=>by subst q; exact le_trans (le_of_lt (p▸r)) (by decide)
theorem GL:a=d->¬c<d->min a b<=c:=λp q=>mnl (ele p (le_of_not_lt q))
theorem Im:b=c->b<128->a=0+d->d<c->a<=16777216:=λp q r s=>by subst r; rw[zero_add]; exact le_trans (le_of_lt s) (le_trans (le_of_lt (p▸q)) (by decide))
theorem EA:b=c->b<128->a=0+d->d<c->a+1<=16777216+1:=λp q r s=>by subst r; rw[zero_add]; exact succ_le_succ (le_trans (le_of_lt s) (le_trans (le_of_lt (p▸q)) (by decide)))
theorem Ha:a-b=0->a-b=0:=by intro p; omega
theorem Gf:c=0+b->¬a<c->a-c=0->a=b:=λp q r=>by subst p; rw[zero_add] at q r; exact le_antisymm (Nat.le_of_sub_eq_zero r) (le_of_not_lt q)
theorem Kb:0+a=a:=by lia
theorem FQ:b<2->min a b<=1:=λp=>mne (le_of_lt_succ p)
theorem DT:a=0+b->¬b<2->1<=a:=λp q=>by subst p; rw[zero_add]; exact le_trans (by decide:1<=2) (le_of_not_lt q)
theorem Em:a=0+b->min a b=b:=λp=>by subst p; rw[zero_add]; exact min_self _
theorem ET{a:Nat}:(0:Int)+(↑a:Int)*(1:Int)=(↑a:Int):=by lia
theorem Hf:a<128->a<=2^24:=λp=>le_trans (le_of_lt p) (by decide)
theorem HT:b=c->a=c->a=b:=λp q=>Eq.trans q (Eq.symm p)
theorem J0:a=c->¬b<c->a<=b:=λp q=>ele p (le_of_not_lt q)
theorem Hy{a b:Nat}{c d:Int}:c=d/\(↑a:Int)=(↑b:Int)->a=b:=by intro p; lia
theorem EK{a:Nat}:-(2:Int)^(62:Nat)<=(↑a:Int):=by lia
theorem E0{a:Nat}:a<128->(↑a:Int)<(2:Int)^(62:Nat):=λp=>Int.lt_of_lt_of_le (ofNat_lt.mpr p) (by decide)
theorem Ff:a+2*c+4<b->a<b:=λp=>nxl (nxl p)
theorem JU:a+2*c+4<b->a+1+2*0+1<b:=λp=>show a+2<b from lt_of_le_of_lt (add_le_add (le_add_right a _) (by decide:2<=4)) p
theorem Ic:a+100*c+300<b->a+1+1+3+100*0+200<b:=λp=>show a+205<b from lt_of_le_of_lt (add_le_add (le_add_right a _) (by decide:205<=300)) p
theorem FS:a<b->a+1<b+1:=λp=>Nat.add_lt_add_right p _
theorem FJ:0<a->a-1+1=a:=λp=>Nat.sub_add_cancel (succ_le_of_lt p)
theorem IR:c<d->d<=0->a<=b:=λp q=>absurd (lt_of_lt_of_le p q) (Nat.not_lt_zero _)
theorem Js:a<c->c<=b+1->a<=b:=λp q=>le_of_lt_succ (lt_of_lt_of_le p q)
theorem DR:b=a+c->a<=b:=λp=>lee (le_add_right _ _) p
theorem tE:a<=60->a<=1000:=λp=>le_trans p (by decide)
theorem tD:a<=63->a<1000000:=λp=>lt_of_le_of_lt p (by decide)
theorem z4{a b:Int}:b=a->a<=b:=λp=>Int.le_of_eq (Eq.symm p)
theorem Aw{a b:Int}:a<=b->a<=b:=by intro p; omega
theorem FU{a b:Nat}:(↑a:Int)=(↑b:Int)->a=b:=by intro p; lia
theorem FC{a b:Int}{c d:Nat}:-b<=-a/\(-a = -b->(↑c:Int)<=(↑d:Int))->a<=b:=by intro p; lia
theorem Ec{a b:Int}:b=a->-a = -b:=by intro p; lia
theorem zz{a:Int}{b c:Nat}:c=b->0<=a/\a<c->0<=a/\a<b:=by intro p q; lia
theorem E9:b<=100->c=b->a<=c->a<=100:=λp q r=>le_trans r (ele q p)
theorem Hn:a<=100->a<=999:=λp=>le_trans p (by decide)
theorem Ed:a<=100->a<=999999:=λp=>le_trans p (by decide)
theorem Iu:a<=100->a<1000000:=λp=>lt_of_le_of_lt p (by decide)
theorem Gn{a:Nat}:-(↑(a+(1:Nat)):Int)<=(-1:Int):=Int.neg_le_neg (ofNat_le.mpr (le_add_left 1 a))
theorem Iv{a:Nat}:((-1:Int)+(↑(a+(1:Nat)):Int)).toNat=a:=by rw[add_comm,natCast_add,Int.add_assoc]; show Int.toNat ((a:Int)+0)=a; rw[Int.add_zero]; rfl
theorem F2{a b:Nat}:b<=a->¬(↑a:Int)<(↑b:Int):=λp=>not_lt.mpr (ofNat_le.mpr p)
theorem Kc:a<=b->b<=60->a<=60:=λp q=>le_trans p q
theorem Gp:b+c<=60->a<=b+c->a<=60:=λp q=>le_trans q p
theorem Jp:a+b<=60->a+b<=1000:=λp=>le_trans p (by decide)
theorem zD:b<=c->a+b<=a+(c+d):=λp=>adE p (add_le_add_left (le_add_right _ _) _)
theorem EL:a+b<=60->a+b<=1000000:=λp=>le_trans p (by decide)
theorem Fa:a<=6->a<=7:=λp=>le_trans p (by decide)
theorem He:a<=60->b<=60->a+b<=1000000:=λp q=>le_trans (add_le_add p q) (by decide)
theorem Fh{a b:Nat}:(0:Int)<=(↑a:Int)/\(↑a:Int)<=(↑b:Int)->a<=b:=λp=>ofNat_le.mp p.2
theorem EI:a<=6->a<=60:=λp=>le_trans p (by decide)
theorem El:b<=6->a<=b->a<=1000:=λp q=>le_trans q (le_trans p (by decide))
theorem FK{a:Int}{b:Nat}:b=a->0<=a:=λp=>nn (Eq.symm p)
theorem HH{a:Int}{b c:Nat}:c<=b->c=a->a<=b:=λp q=>jle (Eq.symm q) (ofNat_le.mpr p)
theorem FE{a:Int}{b:Nat}:¬(0<=a/\a<=b)->a<0\/b<a:=λp=>(Int.lt_or_le _ _).imp_right λh=>Int.not_le.mp λg=>p ⟨h,g⟩
theorem Ej:a+1=b->a=b-1:=λp=>Nat.eq_sub_of_add_eq p
theorem GZ:0<a->b=a-1->a<=b->False:=λp q r=>absurd r (Nat.not_le_of_lt (elt q (sub_lt p (by decide))))
theorem JO:b=c-1->a+1=c->a<=b:=λp q=>lee (le_sub_of_add_le (le_of_eq q)) p
theorem EC{a b:Int}{c:Nat}:a+1<=b/\b<c->a<b:=λp=>Int.lt_of_lt_of_le (Int.lt_succ _) p.1
theorem Fo{a:Int}{b:Nat}{c:Int}:0<=c/\c<b->c+1<=a/\a<b->0<=a/\a<b:=λp q=>⟨Int.le_trans p.1 (Int.le_of_lt (Int.lt_of_add_one_le q.1)),q.2⟩
theorem Iw{a b:Int}:a<b->a+1<=b:=by intro p; lia
theorem Fv{a:Int}{b c:Nat}:b<c->a+b<a+c:=λp=>Int.add_lt_add_left (ofNat_lt.mpr p) _
theorem uH{a b:Int}:b<a->¬a=b:=λp=>Int.ne_of_gt p
theorem zB{a b:Int}:a<b->a=b->False:=λp q=>absurd q (Int.ne_of_lt p)
theorem GC{a b c d:Int}:a<b->a=b/\c=d->False:=λp q=>absurd q.1 (Int.ne_of_lt p)
theorem JX:b<=60->a<=b->a<=1000:=λp q=>le_trans q (le_trans p (by decide))
theorem HD:7<=7+a%5:=le_add_right _ _
theorem II:7+a%5<=20:=le_trans (add_le_add_left (le_of_lt (Nat.mod_lt _ (by decide))) 7) (by decide)
theorem JW:7+a%5<=11:=add_le_add_left (le_of_lt_succ (Nat.mod_lt _ (by decide))) 7
theorem Fc{a:Nat}:(7:Nat)<=a/\a<=(20:Nat)/\((1:Int)=(4:Int)->a<=11)->(↑a:Int)-(1:Int)=(↑(a-(1:Nat)):Int):=λp=>(Int.ofNat_sub (le_trans (by decide) p.1)).symm
theorem pD{a:Nat}{b:Int}:(7:Nat)<=a/\a<=(20:Nat)/\(b=4->a<=11)->a<=1000000:=λp=>le_trans p.2.1 (by decide)
theorem Ey{a:Nat}{b:Int}:(7:Nat)<=a/\a<=(20:Nat)/\(b=4->a<=11)->a=0->False:=λp q=>absurd p.1 (Nat.not_le_of_lt (elt q (by decide)))
theorem GI{a:Nat}{b:Int}:(7:Nat)<=a/\a<=(20:Nat)/\(b=4->a<=11)->a<64:=λp=>lt_of_le_of_lt p.2.1 (by decide)
theorem I8{a:Nat}{b:Int}:(7:Nat)<=a/\a<=(20:Nat)/\(b=4->a<=11)->a<=1000:=by intro p; lia
theorem H5{a:Int}{b:Nat}:0<=a/\a<b->0<=a+1:=λp=>add_nonneg p.1 (by decide)
theorem Id{a:Int}{b:Nat}{c:Int}:(7:Nat)<=b/\b<=(20:Nat)/\(c=4->b<=11)->0<=a/\a<b->a+1<=1000:=λp q=>Int.le_trans (Int.add_one_le_of_lt q.2) (ofNat_le.mpr (le_trans p.2.1 (by decide)))
theorem Ef{a:Nat}{b:Int}:(7:Nat)<=a/\a<=(20:Nat)/\(b=4->a<=11)->(↑a:Int)<=(1000:Int):=λp=>ofNat_le.mpr (le_trans p.2.1 (by decide))
theorem Fw:a+b<=a+(b+c):=add_le_add_left (le_add_right _ _) _
theorem Eh:a+b<=63->a+b<=1000000:=λp=>le_trans p (by decide)
theorem HQ{a:Nat}:(7:Nat)<=a/\a<=(20:Nat)/\((0:Int)=(4:Int)->a<=11)->a<=63:=by intro p; lia
theorem HE{a:Nat}:(7:Nat)<=a/\a<=(20:Nat)/\((0:Int)=(4:Int)->a<=11)->1<=a:=λp=>le_trans (le_add_left _ _) p.1
theorem D9{a:Nat}:(7:Nat)<=a/\a<=(20:Nat)/\((0:Int)=(4:Int)->a<=11)->a<=60:=by intro p; lia
theorem Hm{a:Nat}:(7:Nat)<=a/\a<=(20:Nat)/\((1:Int)=(4:Int)->a<=11)->0<a:=λp=>lt_of_lt_of_le (succ_pos _) p.1
theorem FH{a:Nat}:(7:Nat)<=a/\a<=(20:Nat)/\((1:Int)=(4:Int)->a<=11)->a<=63:=λp=>le_trans p.2.1 (by decide)
theorem Jv:a-1<=a:=sub_le _ _
theorem JV{a:Nat}:(7:Nat)<=a/\a<=(20:Nat)/\((1:Int)=(4:Int)->a<=11)->a<=60:=by intro p; lia
theorem IU{a:Nat}:(7:Nat)<=a/\a<=(20:Nat)/\((2:Int)=(4:Int)->a<=11)->a<=60:=λp=>le_trans p.2.1 (by decide)
theorem DW{a:Nat}:(7:Nat)<=a/\a<=(20:Nat)/\((3:Int)=(4:Int)->a<=11)->a<=60:=by intro p; lia
theorem IJ{a:Nat}:(7:Nat)<=a/\a<=(20:Nat)/\((4:Int)=(4:Int)->a<=11)->2<=a:=λp=>le_trans (le_add_left _ _) p.1
theorem Iz{a:Nat}:(7:Nat)<=a/\a<=(20:Nat)/\((4:Int)=(4:Int)->a<=11)->a<=60:=λp=>le_trans p.2.1 (by decide)
theorem Ep{a:Int}:a%(4:Int)=(↑(a%(4:Int)).toNat:Int):=Eq.symm (toNat_of_nonneg (emod_nonneg _ (by decide)))
theorem Fb{a:Nat}{b:Int}:b%4=a->a<=3:=by intro p; lia
theorem ER{a:Nat}{b:Int}:b%4=a->a<=1000000:=λp=>le_trans (le_of_lt (ofNat_lt.mp (show _<((4:Nat):Int) from Int.lt_of_le_of_lt (Int.le_of_eq p.symm) (emod_lt_of_pos _ (by decide))))) (by decide)
theorem Eg{a:Int}{b:Nat}:0<=a/\a<b->0<=4+a:=λp=>add_nonneg (by decide) p.1
theorem HP{a:Nat}{b:Int}{c:Nat}:b%4=c->a<=c->a<1000000:=λp q=>lt_of_le_of_lt q (lt_trans (ofNat_lt.mp (show _<((4:Nat):Int) from Int.lt_of_le_of_lt (Int.le_of_eq p.symm) (emod_lt_of_pos _ (by decide)))) (by decide))
theorem ID{a b:Nat}{c d:Int}:c=b->0<=d/\d<=c->d=a->a<=b:=λp q r=>ofNat_le.mp (Int.le_trans (Int.le_of_eq r.symm) (Int.le_trans q.2 (Int.le_of_eq p)))
theorem zt{a:Nat}{b:Int}:b<=3->b=a->a<=3:=λp q=>nLe (jle (Eq.symm q) p)
theorem JE{a:Nat}{b c:Int}:b<=3->0<=c/\c<=b->c=a->a<=3:=λp q r=>ofNat_le.mp (Int.le_trans (Int.le_of_eq r.symm) (Int.le_trans q.2 p))
theorem DZ:b<=3->a<=3*c->a+b<=3*(c+1):=λp q=>add_le_add q p
theorem G4:b<=3->a<=3*b->a<=9:=λp q=>le_trans q (Nat.mul_le_mul_left 3 p)
theorem Ai:a+(b+1)<=3->a<=2:=λp=>le_trans (le_sub_of_add_le (adE (le_add_left _ _) p)) (by decide)
theorem zL:a<=2->a<=3:=λp=>le_trans p (by decide)
theorem Ev:b<=3->a<=b->a<=3:=λp q=>le_trans q p
theorem Jg:a<=3->a<=63:=λp=>le_trans p (by decide)
theorem H0:a<=3->a<=60:=λp=>le_trans p (by decide)
theorem zZ:b<=9->a<=b->a<=60:=λp q=>le_trans q (le_trans p (by decide))
theorem Ei:a<=9->a+2<=1000000:=λp=>le_trans (succ_le_succ (succ_le_succ p)) (by decide)
theorem IC{a:Int}{b:Nat}:0<=a/\a<(↑(b+(2:Nat)):Int)->0<=9+a:=λp=>add_nonneg (by decide) p.1
theorem Ii:b=a+2->min a b=a:=λp=>min_eq_left (lee (le_add_right _ _) p)
theorem FB:a=b+2->a-b=2:=λp=>Nat.sub_eq_of_eq_add' p
theorem AP:a<=9->a<=1000000:=λp=>le_trans p (by decide)
theorem AD:a<=9->a+2<=60:=λp=>le_trans (succ_le_succ (succ_le_succ p)) (by decide)
theorem AE:a<=9->a<=60:=λp=>le_trans p (by decide)
theorem zy:b<=9->a<=b+2->a<=1000:=λp q=>le_trans q (le_trans (succ_le_succ (succ_le_succ p)) (by decide))
theorem Fg:a+b<=1000->a+b<=1000000:=λp=>le_trans p (by decide)
theorem DU{a:Int}:a%(7:Int)=(↑(a%(7:Int)).toNat:Int):=Eq.symm (toNat_of_nonneg (emod_nonneg _ (by decide)))
theorem H8{a:Nat}{b:Int}:b%7=a->a<=6:=λp=>ofNat_le.mp (Int.le_trans (Int.le_of_eq p.symm) (show _<=(6:Int) from Int.le_of_lt_add_one (emod_lt_of_pos _ (by decide))))
theorem HR{a:Int}:(7:Int)+a%(14:Int)=(↑((7:Int)+a%(14:Int)).toNat:Int):=(toNat_of_nonneg (add_nonneg (by decide) (emod_nonneg _ (by decide)))).symm
theorem Gm{a:Nat}{b:Int}:7+b%14=a->7<=a:=λp=>ofNat_le.mp (Int.le_trans (Int.le_add_of_nonneg_right (emod_nonneg _ (by decide))) (Int.le_of_eq p))
theorem IL{a:Nat}{b:Int}:7+b%14=a->a<=20:=λp=>ofNat_le.mp (Int.le_trans (Int.le_of_eq p.symm) (Int.add_le_add_left (show _<=(13:Int) from Int.le_of_lt_add_one (emod_lt_of_pos _ (by decide))) 7))
theorem HN{a:Int}:a/14%5=0\/a/14%5=1\/a/14%5=2\/a/14%5=3\/a/14%5=4:=by lia
theorem GD{a:Int}:¬a<0->0<=a:=λp=>not_lt.mp p
theorem F8:a<=3->a<=6:=λp=>le_trans p (by decide)
theorem Gx:b<=3->a<=b->a<=60:=λp q=>le_trans q (le_trans p (by decide))
theorem DN:b<=9->a<=b->a<=9:=λp q=>le_trans q p
theorem GV:a<=27->a<=1000:=λp=>le_trans p (by decide)
theorem Jy:a<=9->a<=1000:=λp=>le_trans p (by decide)
theorem Et{a:Int}:a%(3:Int)=(↑(a%(3:Int)).toNat:Int):=Eq.symm (toNat_of_nonneg (emod_nonneg _ (by decide)))
theorem FN{a:Nat}{b:Int}:b%3=a->a<=2:=λp=>ofNat_le.mp (Int.le_trans (Int.le_of_eq p.symm) (show _<=(2:Int) from Int.le_of_lt_add_one (emod_lt_of_pos _ (by decide))))
theorem EF:a<=2->a<=63:=λp=>le_trans p (by decide)
theorem GG:b<=2->a=b->a<=60:=λp q=>le_trans (ele q p) (by decide)
theorem J8:b<=9->a<=2+b->a<=1000:=λp q=>le_trans q (adE p (by decide))
theorem EM:a<=9->2+a<=60:=λp=>adE p (by decide)
theorem HK:a<=2->a<=1000:=λp=>le_trans p (by decide)
theorem J1{a:Int}{b:Nat}:a<=a+b:=by lia
theorem G6{a:Int}{b:Nat}{c:Int}:b<(c-a).toNat->a+b<c:=λp=>Int.add_lt_of_lt_sub_left (Int.lt_toNat.mp p)
theorem DK{a b c:Int}:b<=a/\a<c->(a-b).toNat<(c-b).toNat:=λp=>(Int.toNat_lt_toNat (Int.sub_pos_of_lt (Int.lt_of_le_of_lt p.1 p.2))).mpr (Int.sub_lt_sub_right p.2 _)
theorem EB{a b c:Int}:a<=b/\b<c->a+(↑(b-a).toNat:Int)=b:=λp=>(congrArg (_ + ·) (toNat_of_nonneg (sub_nonneg.mpr p.1))).trans ((add_comm _ _).trans (Int.sub_add_cancel _ _))
theorem EE{a b:Nat}{c:Int}:c+a=c+b->a=b:=by intro p; lia
theorem JB{a b c:Int}:0<=b/\b<c->b+1<=a->0<=a:=λp q=>Int.le_trans (Int.le_of_lt (Int.lt_add_one_of_le p.1)) q
theorem Gi{a b c:Int}:c+1<=b->a<c->a<b:=λp q=>Int.lt_of_lt_of_le (Int.lt_add_one_of_le (Int.le_of_lt q)) p
theorem HF{a b:Int}:a+1<=b->a<b:=λp=>Int.lt_of_lt_of_le (Int.lt_succ _) p
theorem Jc{a b:Int}:0<=a/\a<b->0<=a/\a<b+1:=λp=>And.intro p.1 (Int.lt_add_one_of_le (Int.le_of_lt p.2))
theorem EY{a b c:Int}:0<=c/\c<b+1->a<c->0<=a/\a<b+1->0<=a/\a<b:=λp q r=>⟨r.1,Int.lt_of_lt_of_le q (Int.le_of_lt_add_one p.2)⟩
theorem EU{a b c d e:Nat}:d<e->(↑a:Int)-(↑b:Int)+(↑c:Int)+(↑d:Int)<(↑a:Int)-(↑b:Int)+(↑c:Int)+(↑e:Int):=λp=>Int.add_lt_add_left (ofNat_lt.mpr p) _
theorem JK{a b:Int}{c d e:Nat}:0<=a/\a<c-d+e->c-d+e<=b->a<b:=λp q=>Int.lt_of_lt_of_le p.2 q
theorem Hs{a:Int}{b c d:Nat}:c<=d->0<=a/\a<b-d+c->0<=a/\a<b:=λp q=>⟨q.1,Int.lt_of_lt_of_le q.2 (a0s p)⟩
theorem HL{a:Int}{b c d:Nat}:c<=b->b-c+d<=a/\a<b->0<=a/\a<b:=λp q=>⟨Int.le_trans (add_nonneg (sub_nonneg.mpr (ofNat_le.mpr p)) (natCast_nonneg _)) q.1,q.2⟩
theorem GM{a b c:Nat}:a<=c->a+((↑b:Int)-((↑b:Int)-(↑c:Int)+(↑a:Int))).toNat=c:=λp=>by rw[<- Int.sub_sub,Int.sub_sub_self,<- Int.ofNat_sub p,Int.toNat_natCast]; exact Nat.add_sub_cancel' p
theorem Fz:a<=b->b<=60->a<=1000000:=λp q=>le_trans p (le_trans q (by decide))
theorem G7{a b c:Nat}:b<=a->(0:Int)<=(↑a:Int)-(↑b:Int)+(↑c:Int):=λp=>add_nonneg (sub_nonneg.mpr (ofNat_le.mpr p)) (natCast_nonneg _)
theorem ES{a:Nat}:(0:Int)<(↑a:Int)->0<a:=λp=>ofNat_lt.mp p
theorem Fx{a:Nat}:¬(0:Int)<(↑a:Int)->a=0:=λp=>Nat.eq_zero_of_le_zero (nLe (not_lt.mp p))
theorem Ji:a+b<=a+(b+c+d):=add_le_add_left (nxe (le_add_right _ _)) _
theorem HZ{a:Int}{b c d:Nat}:b<=60->c<d->0<=a/\a<=b-d+c->a<=1000:=λp q r=>Int.le_trans r.2 (Int.le_trans (a0s (le_of_lt q)) (ofNat_le.mpr (le_trans p (by decide))))
theorem JR{a b c:Nat}:b<=a->(0:Int)<=(↑a:Int)-(↑b:Int)+(↑c:Int)+(1:Int):=by intro p; lia
theorem Hq{a b c:Nat}:a<=60->c<b->(↑a:Int)-(↑b:Int)+(↑c:Int)+(1:Int)<=(1000:Int):=λp q=>Int.le_trans (Int.add_le_add_right (a0s (le_of_lt q)) 1) (ofNat_le.mpr (le_trans (succ_le_succ p) (by decide)))
theorem JH:b<=c->c<=60->a<b->a<=60:=λp q r=>le_trans (le_trans (le_of_lt r) p) q
theorem Ix{a b c d:Nat}{e:Prop}:b<=c->c<=60->d<b->e/\a=d->a+1<=1000000:=λp q r s=>le_trans (le_trans (succ_le_succ (le_of_eq s.2)) (le_trans r (le_trans p q))) (by decide)
theorem G1{a b:Nat}:(↑a:Int)-(↑b:Int)+(↑b:Int)=(↑a:Int):=by lia
theorem IP{a:Int}:¬(0<=a/\a<(↑(0:Nat):Int)):=λh=>lt_irrefl _ (Int.lt_of_le_of_lt h.1 h.2)
theorem GW{a:Int}{b:Nat}:0<=a/\a<(↑(b+(1:Nat)):Int)->b<a->a=b:=λp q=>absurd q (not_lt.mpr (Int.le_of_lt_add_one p.2))
theorem Ht{a:Int}{b:Nat}:0<=a/\a<(↑(b+(1:Nat)):Int)->a≠b->0<=a/\a<b:=λp q=>⟨p.1,Int.lt_iff_le_and_ne.mpr ⟨Int.le_of_lt_add_one p.2,q⟩⟩
theorem GN{a b:Nat}{c:Prop}:c/\(↑a:Int)=(↑b:Int)->a=b:=by intro p; lia
theorem J6{a b:Nat}{c:Prop}:c/\a=b->(↑a:Int)=(↑b:Int):=λp=>congrArg (λn:Nat=>(n:Int)) p.2
theorem Fi{a:Int}{b c:Nat}:c<=b->0<=a/\a<c->0<=a/\a<b:=λp q=>And.intro q.1 (Int.lt_of_lt_of_le q.2 (ofNat_le.mpr p))
theorem EX{a b c:Int}:¬b=c->¬a+b=a+c:=by intro p; lia
theorem Jt{a b c:Int}:a+b<a+c↔b<c:=Int.add_lt_add_iff_left _
theorem JM{a:Nat}{b c:Int}:b<c->a+b<a+c:=λp=>Int.add_lt_add_left p _
theorem IE{a:Int}{b:Nat}{c:Int}{d:Nat}:0<=a/\a<b->0<=c/\c<d->a<b+c:=λp q=>Int.lt_of_lt_of_le p.2 (Int.le_add_of_nonneg_right q.1)
theorem DL{a:Int}{b c:Nat}:0<=a/\a<b->0<=a/\a<(↑(b+c):Int):=λp=>⟨p.1,Int.lt_of_lt_of_le p.2 (ofNat_le.mpr (le_add_right _ _))⟩
theorem Fy{a:Nat}{b:Int}{c:Nat}:0<=b/\b<c->0<=a+b/\a+b<(↑(a+c):Int):=λp=>⟨add_nonneg (natCast_nonneg _) p.1,Int.add_lt_add_left p.2 _⟩
theorem D7{a b:Int}{c:Nat}:c<=a->b<c->¬a=b:=λp q=>Int.ne_of_gt (Int.lt_of_lt_of_le q p)
theorem IA{a b:Int}{c:Nat}:0<=a/\a<c->c<=b->a<=b:=λp q=>Int.le_trans (Int.le_of_lt p.2) q
theorem GY{a:Int}{b:Nat}{c:Int}:0<=a/\a<b->0<=c->¬a=b+c:=λp q e=>lt_irrefl _ (Int.lt_of_lt_of_le p.2 (Int.le_trans (Int.le_add_of_nonneg_right q) (Int.le_of_eq e.symm)))
theorem Av{a b:Int}{c:Nat}:c+a=c+b->a=b:=by intro p; lia
theorem Ja{a:Nat}{b c:Int}{d:Nat}:a+b=c->0<=c/\c<a->0<=b/\b<d->False:=λp q r=>lt_irrefl _ (Int.lt_of_lt_of_le q.2 (Int.le_trans (Int.le_add_of_nonneg_right r.1) (Int.le_of_eq p)))
theorem Fs{a:Nat}{b:Int}{c:Nat}:0<=b/\b<c->a<=a+b:=by intro p; lia
theorem Ek{a:Nat}{b:Int}{c:Nat}:0<=a+b/\a+b<a->0<=b/\b<c->False:=λp q=>lt_irrefl _ (Int.lt_of_lt_of_le p.2 (Int.le_add_of_nonneg_right q.1))
theorem JF{a:Prop}{b:Nat}{c:Int}{d:Nat}:b+c<b->0<=c/\c<d->a:=λp q=>(lt_irrefl _ (Int.lt_of_lt_of_le p (Int.le_add_of_nonneg_right q.1))).elim
theorem Jb{a:Prop}{b:Int}{c:Nat}:0<=b/\b<c->c<=b->a:=λp q=>absurd p.2 (not_lt.mpr q)
theorem Gr{a:Int}{b:Nat}{c:Int}:b+c=a->a-b=c:=λp=>(congrArg (· - _) (p.symm.trans (add_comm _ _))).trans (Int.add_sub_cancel _ _)
theorem Jn{a:Nat}{b:Int}:a+(b-a)=b:=by lia
theorem J7{a:Nat}{b:Int}:a<=b->a+(b-(↑a:Int)).toNat=b.toNat:=λp=>Int.ofNat_inj.mp ((congrArg (_ + ·) (toNat_of_nonneg (sub_nonneg.mpr p))).trans (((add_comm _ _).trans (Int.sub_add_cancel _ _)).trans (toNat_of_nonneg (Int.le_trans (natCast_nonneg _) p)).symm))
theorem zW:b=a+c->min a b=a:=λp=>min_eq_left (lee (le_add_right _ _) p)
theorem FT{a:Int}{b c:Nat}:(0<=a/\a<(↑(b+c):Int))/\a<b↔0<=a/\a<b:=⟨λh=>⟨h.1.1,h.2⟩,λh=>⟨⟨h.1,Int.lt_of_lt_of_le h.2 (ofNat_le.mpr (le_add_right _ _))⟩,h.2⟩⟩
theorem zI:a=b+c->a-b=c:=λp=>Nat.sub_eq_of_eq_add' p
theorem Jx{a b:Int}{c:Nat}:a-c=b-c->a=b:=λp=>(Int.sub_left_inj _).mp p
theorem Ex{a:Int}{b c:Nat}:0<=a/\a<(↑(b+c):Int)->b<=a->0<=a-b/\a-b<c:=λp q=>⟨sub_nonneg.mpr q,Int.sub_left_lt_of_lt_add p.2⟩
theorem EN{a:Int}{b c:Nat}:0<=a/\a<c->0<=a+b/\a+b<(↑(b+c):Int):=λp=>⟨add_nonneg p.1 (natCast_nonneg _),Int.lt_of_lt_of_le (Int.add_lt_add_right p.2 _) (Int.le_of_eq (add_comm _ _))⟩
theorem I6{a:Nat}{b:Int}{c:Nat}:0<=b/\b<c->a<=b+a:=λp=>Int.le_add_of_nonneg_left p.1
theorem Iy{a:Int}{b:Nat}:a+b-b=a:=Int.add_sub_cancel _ _
theorem zw{a:Nat}{b:Int}:a<=b->a<=b:=λh=>h
theorem FF{a:Int}{b:Nat}{c:Int}:a<=c->a-b<=c-b:=λp=>Int.sub_le_sub_right p _
theorem Hv{a:Int}{b:Nat}:a=b+(a-b):=((add_comm _ _).trans (Int.sub_add_cancel _ _)).symm
end
theorem aH (h0:p0 ) (h1:p1 ):p0/\p1:=⟨h0,h1⟩
theorem cA (h0:p0 ) (h1:p1 ) (h2:p2 ):p0/\p1/\p2:=⟨h0,h1,h2⟩
theorem bV (h0:p0 ) (h1:p1 ) (h2:p2 ) (h3:p3 ):p0/\p1/\p2/\p3:=⟨h0,h1,h2,h3⟩
theorem bw (h0:p0 ) (h1:p1 ) (h2:p2 ) (h3:p3 ) (h4:p4 ):p0/\p1/\p2/\p3/\p4:=⟨h0,h1,h2,h3,h4⟩
theorem io (h0:p0 ) (h1:p1 ) (h2:p2 ) (h3:p3 ) (h4:p4 ) (h5:p5 ):p0/\p1/\p2/\p3/\p4/\p5:=⟨h0,h1,h2,h3,h4,h5⟩
theorem Ay (h0:p0 ) (h1:p1 ) (h2:p2 ) (h3:p3 ) (h4:p4 ) (h5:p5 ) (h6:p6 ):p0/\p1/\p2/\p3/\p4/\p5/\p6:=⟨h0,h1,h2,h3,h4,h5,h6⟩
theorem bT{A:Sort u0}{p:A->Prop}(a:A):p a->∃ a,p a:=λp=>⟨a,p⟩
theorem af{A:Sort u0}{p q:A->Prop}(a:A):p a->q a->∃ a,p a/\q a:=λp q=>⟨a,p,q⟩
theorem aw{A:Sort u0}{p q r:A->Prop}(a:A):p a->q a->r a->∃ a,p a/\q a/\r a:=λp q r=>⟨a,p,q,r⟩
theorem bU{A:Sort u0}{p q r s:A->Prop}(a:A):p a->q a->r a->s a->∃ a,p a/\q a/\r a/\s a:=λp q r s=>⟨a,p,q,r,s⟩
theorem jL{A:Sort u0}{p q r s t:A->Prop}(a:A):p a->q a->r a->s a->t a->∃ a,p a/\q a/\r a/\s a/\t a:=λp q r s t=>⟨a,p,q,r,s,t⟩
theorem pE{A:Sort u0}{p q r s t u:A->Prop}(a:A):p a->q a->r a->s a->t a->u a->∃ a,p a/\q a/\r a/\s a/\t a/\u a:=λp q r s t u=>⟨a,p,q,r,s,t,u⟩
theorem uw{A:Sort u0}{p q r s t u v:A->Prop}(a:A):p a->q a->r a->s a->t a->u a->v a->∃ a,p a/\q a/\r a/\s a/\t a/\u a/\v a:=λp q r s t u v=>⟨a,p,q,r,s,t,u,v⟩
theorem bn{A:Sort u0}{B:Sort u1}{p:A->B->Prop}(a:A)(b:B):p a b->∃ a b,p a b:=λp=>⟨a,b,p⟩
theorem aC{A:Sort u0}{B:Sort u1}{p q:A->B->Prop}(a:A)(b:B):p a b->q a b->∃ a b,p a b/\q a b:=λp q=>⟨a,b,p,q⟩
theorem aU{A:Sort u0}{B:Sort u1}{p q r:A->B->Prop}(a:A)(b:B):p a b->q a b->r a b->∃ a b,p a b/\q a b/\r a b:=λp q r=>⟨a,b,p,q,r⟩
theorem bF{A:Sort u0}{B:Sort u1}{p q r s:A->B->Prop}(a:A)(b:B):p a b->q a b->r a b->s a b->∃ a b,p a b/\q a b/\r a b/\s a b:=λp q r s=>⟨a,b,p,q,r,s⟩
theorem JQ{A:Sort u0}{B:Sort u1}{p q r s t:A->B->Prop}(a:A)(b:B):p a b->q a b->r a b->s a b->t a b->∃ a b,p a b/\q a b/\r a b/\s a b/\t a b:=λp q r s t=>⟨a,b,p,q,r,s,t⟩
theorem tS{A:Sort u0}{B:Sort u1}{p q r s t u:A->B->Prop}(a:A)(b:B):p a b->q a b->r a b->s a b->t a b->u a b->∃ a b,p a b/\q a b/\r a b/\s a b/\t a b/\u a b:=λp q r s t u=>⟨a,b,p,q,r,s,t,u⟩
theorem gu{A:Sort u0}{B:Sort u1}{p q r s t u v:A->B->Prop}(a:A)(b:B):p a b->q a b->r a b->s a b->t a b->u a b->v a b->∃ a b,p a b/\q a b/\r a b/\s a b/\t a b/\u a b/\v a b:=λp q r s t u v=>⟨a,b,p,q,r,s,t,u,v⟩
theorem qX{A:Sort u0}{B:Sort u1}{p q r s t u v w x y:A->B->Prop}(a:A)(b:B):p a b->q a b->r a b->s a b->t a b->u a b->v a b->w a b->x a b->y a b->∃ a b,p a b/\q a b/\r a b/\s a b/\t a b/\u a b/\v a b/\w a b/\x a b/\y a b:=λp q r s t u v w x y=>⟨a,b,p,q,r,s,t,u,v,w,x,y⟩
theorem cz{A:Sort u0}{B:Sort u1}{C:Sort u2}{p q:A->B->C->Prop}(a:A)(b:B)(c:C):p a b c->q a b c->∃ a b c,p a b c/\q a b c:=λp q=>⟨a,b,c,p,q⟩
theorem cI{A:Sort u0}{B:Sort u1}{C:Sort u2}{p q r:A->B->C->Prop}(a:A)(b:B)(c:C):p a b c->q a b c->r a b c->∃ a b c,p a b c/\q a b c/\r a b c:=λp q r=>⟨a,b,c,p,q,r⟩
theorem iu{A:Sort u0}{B:Sort u1}{C:Sort u2}{p q r s:A->B->C->Prop}(a:A)(b:B)(c:C):p a b c->q a b c->r a b c->s a b c->∃ a b c,p a b c/\q a b c/\r a b c/\s a b c:=λp q r s=>⟨a,b,c,p,q,r,s⟩
theorem tN{A:Sort u0}{B:Sort u1}{C:Sort u2}{p q r s t:A->B->C->Prop}(a:A)(b:B)(c:C):p a b c->q a b c->r a b c->s a b c->t a b c->∃ a b c,p a b c/\q a b c/\r a b c/\s a b c/\t a b c:=λp q r s t=>⟨a,b,c,p,q,r,s,t⟩
theorem gz{A:Sort u0}{B:Sort u1}{C:Sort u2}{p q r s t u:A->B->C->Prop}(a:A)(b:B)(c:C):p a b c->q a b c->r a b c->s a b c->t a b c->u a b c->∃ a b c,p a b c/\q a b c/\r a b c/\s a b c/\t a b c/\u a b c:=λp q r s t u=>⟨a,b,c,p,q,r,s,t,u⟩
theorem mC{A:Sort u0}{B:Sort u1}{C:Sort u2}{p q r s t u v:A->B->C->Prop}(a:A)(b:B)(c:C):p a b c->q a b c->r a b c->s a b c->t a b c->u a b c->v a b c->∃ a b c,p a b c/\q a b c/\r a b c/\s a b c/\t a b c/\u a b c/\v a b c:=λp q r s t u v=>⟨a,b,c,p,q,r,s,t,u,v⟩
theorem e9{A:Sort u0}{B:Sort u1}{C:Sort u2}{D:Sort u3}{p q:A->B->C->D->Prop}(a:A)(b:B)(c:C)(d:D):p a b c d->q a b c d->∃ a b c d,p a b c d/\q a b c d:=λp q=>⟨a,b,c,d,p,q⟩
theorem j4{A:Sort u0}{B:Sort u1}{C:Sort u2}{D:Sort u3}{p q r s:A->B->C->D->Prop}(a:A)(b:B)(c:C)(d:D):p a b c d->q a b c d->r a b c d->s a b c d->∃ a b c d,p a b c d/\q a b c d/\r a b c d/\s a b c d:=λp q r s=>⟨a,b,c,d,p,q,r,s⟩
theorem kZ{A:Sort u0}{B:Sort u1}{C:Sort u2}{D:Sort u3}{p q r s t:A->B->C->D->Prop}(a:A)(b:B)(c:C)(d:D):p a b c d->q a b c d->r a b c d->s a b c d->t a b c d->∃ a b c d,p a b c d/\q a b c d/\r a b c d/\s a b c d/\t a b c d:=λp q r s t=>⟨a,b,c,d,p,q,r,s,t⟩
theorem qc{A:Sort u0}{B:Sort u1}{C:Sort u2}{D:Sort u3}{p q r s t u v w:A->B->C->D->Prop}(a:A)(b:B)(c:C)(d:D):p a b c d->q a b c d->r a b c d->s a b c d->t a b c d->u a b c d->v a b c d->w a b c d->∃ a b c d,p a b c d/\q a b c d/\r a b c d/\s a b c d/\t a b c d/\u a b c d/\v a b c d/\w a b c d:=λp q r s t u v w=>⟨a,b,c,d,p,q,r,s,t,u,v,w⟩
theorem mQ{A:Sort u0}{B:Sort u1}{C:Sort u2}{D:Sort u3}{E:Sort u4}{p q:A->B->C->D->E->Prop}(a:A)(b:B)(c:C)(d:D)(e:E):p a b c d e->q a b c d e->∃ a b c d e,p a b c d e/\q a b c d e:=λp q=>⟨a,b,c,d,e,p,q⟩
theorem nk{A:Sort u0}{B:Sort u1}{C:Sort u2}{D:Sort u3}{E:Sort u4}{p q r s:A->B->C->D->E->Prop}(a:A)(b:B)(c:C)(d:D)(e:E):p a b c d e->q a b c d e->r a b c d e->s a b c d e->∃ a b c d e,p a b c d e/\q a b c d e/\r a b c d e/\s a b c d e:=λp q r s=>⟨a,b,c,d,e,p,q,r,s⟩
theorem v6{A:Sort u0}{B:Sort u1}{C:Sort u2}{D:Sort u3}{E:Sort u4}{p q r s t:A->B->C->D->E->Prop}(a:A)(b:B)(c:C)(d:D)(e:E):p a b c d e->q a b c d e->r a b c d e->s a b c d e->t a b c d e->∃ a b c d e,p a b c d e/\q a b c d e/\r a b c d e/\s a b c d e/\t a b c d e:=λp q r s t=>⟨a,b,c,d,e,p,q,r,s,t⟩
theorem zP{A:Sort u0}{B:Sort u1}{C:Sort u2}{D:Sort u3}{E:Sort u4}{F:Sort u5}{p q:A->B->C->D->E->F->Prop}(a:A)(b:B)(c:C)(d:D)(e:E)(f:F):p a b c d e f->q a b c d e f->∃ a b c d e f,p a b c d e f/\q a b c d e f:=λp q=>⟨a,b,c,d,e,f,p,q⟩
theorem l9{A:Sort u0}{B:Sort u1}{C:Sort u2}{D:Sort u3}{E:Sort u4}{F:Sort u5}{H:Sort u6}{p q:A->B->C->D->E->F->H->Prop}(a:A)(b:B)(c:C)(d:D)(e:E)(f:F)(g:H):p a b c d e f g->q a b c d e f g->∃ a b c d e f g,p a b c d e f g/\q a b c d e f g:=λp q=>⟨a,b,c,d,e,f,g,p,q⟩
theorem qz{A:Sort u0}{B:Sort u1}{C:Sort u2}{D:Sort u3}{E:Sort u4}{F:Sort u5}{H:Sort u6}{p q r s t u v:A->B->C->D->E->F->H->Prop}(a:A)(b:B)(c:C)(d:D)(e:E)(f:F)(g:H):p a b c d e f g->q a b c d e f g->r a b c d e f g->s a b c d e f g->t a b c d e f g->u a b c d e f g->v a b c d e f g->∃ a b c d e f g,p a b c d e f g/\q a b c d e f g/\r a b c d e f g/\s a b c d e f g/\t a b c d e f g/\u a b c d e f g/\v a b c d e f g:=λp q r s t u v=>⟨a,b,c,d,e,f,g,p,q,r,s,t,u,v⟩
theorem Ds{A:Sort u0}{B:Sort u1}{C:Sort u2}{D:Sort u3}{E:Sort u4}{F:Sort u5}{H:Sort u6}{I:Sort u7}{p q:A->B->C->D->E->F->H->I->Prop}(a:A)(b:B)(c:C)(d:D)(e:E)(f:F)(g:H)(i:I):p a b c d e f g i->q a b c d e f g i->∃ a b c d e f g i,p a b c d e f g i/\q a b c d e f g i:=λp q=>⟨a,b,c,d,e,f,g,i,p,q⟩
theorem iW{A:Sort u0}{B:Sort u1}{C:Sort u2}{D:Sort u3}{E:Sort u4}{F:Sort u5}{H:Sort u6}{I:Sort u7}{p q r s t u v w x y z R S T:A->B->C->D->E->F->H->I->Prop}(a:A)(b:B)(c:C)(d:D)(e:E)(f:F)(g:H)(i:I):p a b c d e f g i->q a b c d e f g i->r a b c d e f g i->s a b c d e f g i->t a b c d e f g i->u a b c d e f g i->v a b c d e f g i->w a b c d e f g i->x a b c d e f g i->y a b c d e f g i->z a b c d e f g i->R a b c d e f g i->S a b c d e f g i->T a b c d e f g i->∃ a b c d e f g i,p a b c d e f g i/\q a b c d e f g i/\r a b c d e f g i/\s a b c d e f g i/\t a b c d e f g i/\u a b c d e f g i/\v a b c d e f g i/\w a b c d e f g i/\x a b c d e f g i/\y a b c d e f g i/\z a b c d e f g i/\R a b c d e f g i/\S a b c d e f g i/\T a b c d e f g i:=λp q r s t u v w x y z R S T=>⟨a,b,c,d,e,f,g,i,p,q,r,s,t,u,v,w,x,y,z,R,S,T⟩
theorem rq{A:Sort u0}{B:Sort u1}{C:Sort u2}{D:Sort u3}{E:Sort u4}{F:Sort u5}{H:Sort u6}{I:Sort u7}{J:Sort u8}{p q r s t u v w x y z R S T:A->B->C->D->E->F->H->I->J->Prop}(a:A)(b:B)(c:C)(d:D)(e:E)(f:F)(g:H)(i:I)(j:J):p a b c d e f g i j->q a b c d e f g i j->r a b c d e f g i j->s a b c d e f g i j->t a b c d e f g i j->u a b c d e f g i j->v a b c d e f g i j->w a b c d e f g i j->x a b c d e f g i j->y a b c d e f g i j->z a b c d e f g i j->R a b c d e f g i j->S a b c d e f g i j->T a b c d e f g i j->∃ a b c d e f g i j,p a b c d e f g i j/\q a b c d e f g i j/\r a b c d e f g i j/\s a b c d e f g i j/\t a b c d e f g i j/\u a b c d e f g i j/\v a b c d e f g i j/\w a b c d e f g i j/\x a b c d e f g i j/\y a b c d e f g i j/\z a b c d e f g i j/\R a b c d e f g i j/\S a b c d e f g i j/\T a b c d e f g i j:=λp q r s t u v w x y z R S T=>⟨a,b,c,d,e,f,g,i,j,p,q,r,s,t,u,v,w,x,y,z,R,S,T⟩
section
variable {G:Prop}
theorem aa (h:p0/\p1) (k:p0->p1->G):G:=by
 obtain ⟨h0,h1⟩:=h
 exact k h0 h1
theorem ai{A:Sort u0}{p:A->Prop}(h:∃ a,p a)(k:∀ a,p a->G):G:=by obtain ⟨a,p⟩:=h;exact k a p
theorem aG (h:p0/\p1/\p2) (k:p0->p1->p2->G):G:=by
 obtain ⟨h0,h1,h2⟩:=h
 exact k h0 h1 h2
theorem ae{A:Sort u0}{p q:A->Prop}(h:∃ a,p a/\q a)(k:∀ a,p a->q a->G):G:=by obtain ⟨a,p,q⟩:=h;exact k a p q
theorem bj{A:Sort u0}{B:Sort u1}{p:A->B->Prop}(h:∃ a b,p a b)(k:∀ a b,p a b->G):G:=by obtain ⟨a,b,p⟩:=h;exact k a b p
theorem c6 (h:p0/\p1/\p2/\p3) (k:p0->p1->p2->p3->G):G:=by
 obtain ⟨h0,h1,h2,h3⟩:=h
 exact k h0 h1 h2 h3
theorem am{A:Sort u0}{p q r:A->Prop}(h:∃ a,p a/\q a/\r a)(k:∀ a,p a->q a->r a->G):G:=by obtain ⟨a,p,q,r⟩:=h;exact k a p q r
theorem au{A:Sort u0}{B:Sort u1}{p q:A->B->Prop}(h:∃ a b,p a b/\q a b)(k:∀ a b,p a b->q a b->G):G:=by obtain ⟨a,b,p,q⟩:=h;exact k a b p q
theorem Hh{A:Sort u0}{B:Sort u1}{C:Sort u2}{p:A->B->C->Prop}(h:∃ a b c,p a b c)(k:∀ a b c,p a b c->G):G:=by obtain ⟨a,b,c,p⟩:=h;exact k a b c p
theorem cX{A:Sort u0}{p q r s:A->Prop}(h:∃ a,p a/\q a/\r a/\s a)(k:∀ a,p a->q a->r a->s a->G):G:=by obtain ⟨a,p,q,r,s⟩:=h;exact k a p q r s
theorem az{A:Sort u0}{B:Sort u1}{p q r:A->B->Prop}(h:∃ a b,p a b/\q a b/\r a b)(k:∀ a b,p a b->q a b->r a b->G):G:=by obtain ⟨a,b,p,q,r⟩:=h;exact k a b p q r
theorem bz{A:Sort u0}{B:Sort u1}{C:Sort u2}{p q:A->B->C->Prop}(h:∃ a b c,p a b c/\q a b c)(k:∀ a b c,p a b c->q a b c->G):G:=by obtain ⟨a,b,c,p,q⟩:=h;exact k a b c p q
theorem GO{A:Sort u0}{B:Sort u1}{C:Sort u2}{D:Sort u3}{p:A->B->C->D->Prop}(h:∃ a b c d,p a b c d)(k:∀ a b c d,p a b c d->G):G:=by obtain ⟨a,b,c,d,p⟩:=h;exact k a b c d p
theorem lj{A:Sort u0}{p q r s t:A->Prop}(h:∃ a,p a/\q a/\r a/\s a/\t a)(k:∀ a,p a->q a->r a->s a->t a->G):G:=by obtain ⟨a,p,q,r,s,t⟩:=h;exact k a p q r s t
theorem bg{A:Sort u0}{B:Sort u1}{p q r s:A->B->Prop}(h:∃ a b,p a b/\q a b/\r a b/\s a b)(k:∀ a b,p a b->q a b->r a b->s a b->G):G:=by obtain ⟨a,b,p,q,r,s⟩:=h;exact k a b p q r s
theorem aL{A:Sort u0}{B:Sort u1}{C:Sort u2}{p q r:A->B->C->Prop}(h:∃ a b c,p a b c/\q a b c/\r a b c)(k:∀ a b c,p a b c->q a b c->r a b c->G):G:=by obtain ⟨a,b,c,p,q,r⟩:=h;exact k a b c p q r
theorem cH{A:Sort u0}{B:Sort u1}{C:Sort u2}{D:Sort u3}{p q:A->B->C->D->Prop}(h:∃ a b c d,p a b c d/\q a b c d)(k:∀ a b c d,p a b c d->q a b c d->G):G:=by obtain ⟨a,b,c,d,p,q⟩:=h;exact k a b c d p q
theorem m8{A:Sort u0}{p q r s t u:A->Prop}(h:∃ a,p a/\q a/\r a/\s a/\t a/\u a)(k:∀ a,p a->q a->r a->s a->t a->u a->G):G:=by obtain ⟨a,p,q,r,s,t,u⟩:=h;exact k a p q r s t u
theorem m9{A:Sort u0}{B:Sort u1}{p q r s t:A->B->Prop}(h:∃ a b,p a b/\q a b/\r a b/\s a b/\t a b)(k:∀ a b,p a b->q a b->r a b->s a b->t a b->G):G:=by obtain ⟨a,b,p,q,r,s,t⟩:=h;exact k a b p q r s t
theorem fR{A:Sort u0}{B:Sort u1}{C:Sort u2}{p q r s:A->B->C->Prop}(h:∃ a b c,p a b c/\q a b c/\r a b c/\s a b c)(k:∀ a b c,p a b c->q a b c->r a b c->s a b c->G):G:=by obtain ⟨a,b,c,p,q,r,s⟩:=h;exact k a b c p q r s
theorem mF{A:Sort u0}{B:Sort u1}{C:Sort u2}{D:Sort u3}{p q r:A->B->C->D->Prop}(h:∃ a b c d,p a b c d/\q a b c d/\r a b c d)(k:∀ a b c d,p a b c d->q a b c d->r a b c d->G):G:=by obtain ⟨a,b,c,d,p,q,r⟩:=h;exact k a b c d p q r
theorem iC{A:Sort u0}{B:Sort u1}{C:Sort u2}{D:Sort u3}{E:Sort u4}{p q:A->B->C->D->E->Prop}(h:∃ a b c d e,p a b c d e/\q a b c d e)(k:∀ a b c d e,p a b c d e->q a b c d e->G):G:=by obtain ⟨a,b,c,d,e,p,q⟩:=h;exact k a b c d e p q
theorem Au{A:Sort u0}{p q r s t u v:A->Prop}(h:∃ a,p a/\q a/\r a/\s a/\t a/\u a/\v a)(k:∀ a,p a->q a->r a->s a->t a->u a->v a->G):G:=by obtain ⟨a,p,q,r,s,t,u,v⟩:=h;exact k a p q r s t u v
theorem z7{A:Sort u0}{B:Sort u1}{p q r s t u:A->B->Prop}(h:∃ a b,p a b/\q a b/\r a b/\s a b/\t a b/\u a b)(k:∀ a b,p a b->q a b->r a b->s a b->t a b->u a b->G):G:=by obtain ⟨a,b,p,q,r,s,t,u⟩:=h;exact k a b p q r s t u
theorem uL{A:Sort u0}{B:Sort u1}{C:Sort u2}{p q r s t:A->B->C->Prop}(h:∃ a b c,p a b c/\q a b c/\r a b c/\s a b c/\t a b c)(k:∀ a b c,p a b c->q a b c->r a b c->s a b c->t a b c->G):G:=by obtain ⟨a,b,c,p,q,r,s,t⟩:=h;exact k a b c p q r s t
theorem gv{A:Sort u0}{B:Sort u1}{C:Sort u2}{D:Sort u3}{p q r s:A->B->C->D->Prop}(h:∃ a b c d,p a b c d/\q a b c d/\r a b c d/\s a b c d)(k:∀ a b c d,p a b c d->q a b c d->r a b c d->s a b c d->G):G:=by obtain ⟨a,b,c,d,p,q,r,s⟩:=h;exact k a b c d p q r s
theorem IK{A:Sort u0}{B:Sort u1}{C:Sort u2}{D:Sort u3}{E:Sort u4}{p q r:A->B->C->D->E->Prop}(h:∃ a b c d e,p a b c d e/\q a b c d e/\r a b c d e)(k:∀ a b c d e,p a b c d e->q a b c d e->r a b c d e->G):G:=by obtain ⟨a,b,c,d,e,p,q,r⟩:=h;exact k a b c d e p q r
theorem ud{A:Sort u0}{B:Sort u1}{C:Sort u2}{D:Sort u3}{E:Sort u4}{F:Sort u5}{p q:A->B->C->D->E->F->Prop}(h:∃ a b c d e f,p a b c d e f/\q a b c d e f)(k:∀ a b c d e f,p a b c d e f->q a b c d e f->G):G:=by obtain ⟨a,b,c,d,e,f,p,q⟩:=h;exact k a b c d e f p q
theorem lh{A:Sort u0}{B:Sort u1}{p q r s t u v:A->B->Prop}(h:∃ a b,p a b/\q a b/\r a b/\s a b/\t a b/\u a b/\v a b)(k:∀ a b,p a b->q a b->r a b->s a b->t a b->u a b->v a b->G):G:=by obtain ⟨a,b,p,q,r,s,t,u,v⟩:=h;exact k a b p q r s t u v
theorem cW{A:Sort u0}{B:Sort u1}{C:Sort u2}{p q r s t u:A->B->C->Prop}(h:∃ a b c,p a b c/\q a b c/\r a b c/\s a b c/\t a b c/\u a b c)(k:∀ a b c,p a b c->q a b c->r a b c->s a b c->t a b c->u a b c->G):G:=by obtain ⟨a,b,c,p,q,r,s,t,u⟩:=h;exact k a b c p q r s t u
theorem F1{A:Sort u0}{B:Sort u1}{C:Sort u2}{D:Sort u3}{p q r s t:A->B->C->D->Prop}(h:∃ a b c d,p a b c d/\q a b c d/\r a b c d/\s a b c d/\t a b c d)(k:∀ a b c d,p a b c d->q a b c d->r a b c d->s a b c d->t a b c d->G):G:=by obtain ⟨a,b,c,d,p,q,r,s,t⟩:=h;exact k a b c d p q r s t
theorem ny{A:Sort u0}{B:Sort u1}{C:Sort u2}{D:Sort u3}{E:Sort u4}{p q r s:A->B->C->D->E->Prop}(h:∃ a b c d e,p a b c d e/\q a b c d e/\r a b c d e/\s a b c d e)(k:∀ a b c d e,p a b c d e->q a b c d e->r a b c d e->s a b c d e->G):G:=by obtain ⟨a,b,c,d,e,p,q,r,s⟩:=h;exact k a b c d e p q r s
theorem k9{A:Sort u0}{B:Sort u1}{C:Sort u2}{D:Sort u3}{E:Sort u4}{F:Sort u5}{H:Sort u6}{p q:A->B->C->D->E->F->H->Prop}(h:∃ a b c d e f g,p a b c d e f g/\q a b c d e f g)(k:∀ a b c d e f g,p a b c d e f g->q a b c d e f g->G):G:=by obtain ⟨a,b,c,d,e,f,g,p,q⟩:=h;exact k a b c d e f g p q
theorem wE{A:Sort u0}{B:Sort u1}{C:Sort u2}{p q r s t u v:A->B->C->Prop}(h:∃ a b c,p a b c/\q a b c/\r a b c/\s a b c/\t a b c/\u a b c/\v a b c)(k:∀ a b c,p a b c->q a b c->r a b c->s a b c->t a b c->u a b c->v a b c->G):G:=by obtain ⟨a,b,c,p,q,r,s,t,u,v⟩:=h;exact k a b c p q r s t u v
theorem wl{A:Sort u0}{B:Sort u1}{C:Sort u2}{D:Sort u3}{E:Sort u4}{p q r s t:A->B->C->D->E->Prop}(h:∃ a b c d e,p a b c d e/\q a b c d e/\r a b c d e/\s a b c d e/\t a b c d e)(k:∀ a b c d e,p a b c d e->q a b c d e->r a b c d e->s a b c d e->t a b c d e->G):G:=by obtain ⟨a,b,c,d,e,p,q,r,s,t⟩:=h;exact k a b c d e p q r s t
theorem Cv{A:Sort u0}{B:Sort u1}{C:Sort u2}{D:Sort u3}{E:Sort u4}{F:Sort u5}{H:Sort u6}{I:Sort u7}{p q:A->B->C->D->E->F->H->I->Prop}(h:∃ a b c d e f g i,p a b c d e f g i/\q a b c d e f g i)(k:∀ a b c d e f g i,p a b c d e f g i->q a b c d e f g i->G):G:=by obtain ⟨a,b,c,d,e,f,g,i,p,q⟩:=h;exact k a b c d e f g i p q
theorem Cu{A:Sort u0}{B:Sort u1}{C:Sort u2}{D:Sort u3}{E:Sort u4}{p q r s t u:A->B->C->D->E->Prop}(h:∃ a b c d e,p a b c d e/\q a b c d e/\r a b c d e/\s a b c d e/\t a b c d e/\u a b c d e)(k:∀ a b c d e,p a b c d e->q a b c d e->r a b c d e->s a b c d e->t a b c d e->u a b c d e->G):G:=by obtain ⟨a,b,c,d,e,p,q,r,s,t,u⟩:=h;exact k a b c d e p q r s t u
theorem w7{A:Sort u0}{B:Sort u1}{p q r s t u v w x y:A->B->Prop}(h:∃ a b,p a b/\q a b/\r a b/\s a b/\t a b/\u a b/\v a b/\w a b/\x a b/\y a b)(k:∀ a b,p a b->q a b->r a b->s a b->t a b->u a b->v a b->w a b->x a b->y a b->G):G:=by obtain ⟨a,b,p,q,r,s,t,u,v,w,x,y⟩:=h;exact k a b p q r s t u v w x y
theorem wJ{A:Sort u0}{B:Sort u1}{C:Sort u2}{D:Sort u3}{p q r s t u v w:A->B->C->D->Prop}(h:∃ a b c d,p a b c d/\q a b c d/\r a b c d/\s a b c d/\t a b c d/\u a b c d/\v a b c d/\w a b c d)(k:∀ a b c d,p a b c d->q a b c d->r a b c d->s a b c d->t a b c d->u a b c d->v a b c d->w a b c d->G):G:=by obtain ⟨a,b,c,d,p,q,r,s,t,u,v,w⟩:=h;exact k a b c d p q r s t u v w
theorem eH{A:Sort u0}{B:Sort u1}{C:Sort u2}{D:Sort u3}{E:Sort u4}{F:Sort u5}{H:Sort u6}{I:Sort u7}{J:Sort u8}{K:Sort u9}{L:Sort u10}{M:Sort u11}{p:A->B->C->D->E->F->H->I->J->K->L->M->Prop}(h:∃ a b c d e f g i j l m n,p a b c d e f g i j l m n)(k:∀ a b c d e f g i j l m n,p a b c d e f g i j l m n->G):G:=by obtain ⟨a,b,c,d,e,f,g,i,j,l,m,n,p⟩:=h;exact k a b c d e f g i j l m n p
theorem Cw{A:Sort u0}{B:Sort u1}{C:Sort u2}{D:Sort u3}{p q r s t u v w x y:A->B->C->D->Prop}(h:∃ a b c d,p a b c d/\q a b c d/\r a b c d/\s a b c d/\t a b c d/\u a b c d/\v a b c d/\w a b c d/\x a b c d/\y a b c d)(k:∀ a b c d,p a b c d->q a b c d->r a b c d->s a b c d->t a b c d->u a b c d->v a b c d->w a b c d->x a b c d->y a b c d->G):G:=by obtain ⟨a,b,c,d,p,q,r,s,t,u,v,w,x,y⟩:=h;exact k a b c d p q r s t u v w x y
theorem vD{A:Sort u0}{B:Sort u1}{p q r s t u v w x y z R S:A->B->Prop}(h:∃ a b,p a b/\q a b/\r a b/\s a b/\t a b/\u a b/\v a b/\w a b/\x a b/\y a b/\z a b/\R a b/\S a b)(k:∀ a b,p a b->q a b->r a b->s a b->t a b->u a b->v a b->w a b->x a b->y a b->z a b->R a b->S a b->G):G:=by obtain ⟨a,b,p,q,r,s,t,u,v,w,x,y,z,R,S⟩:=h;exact k a b p q r s t u v w x y z R S
theorem vh{A:Sort u0}{B:Sort u1}{C:Sort u2}{D:Sort u3}{E:Sort u4}{F:Sort u5}{p q r s t u v w x:A->B->C->D->E->F->Prop}(h:∃ a b c d e f,p a b c d e f/\q a b c d e f/\r a b c d e f/\s a b c d e f/\t a b c d e f/\u a b c d e f/\v a b c d e f/\w a b c d e f/\x a b c d e f)(k:∀ a b c d e f,p a b c d e f->q a b c d e f->r a b c d e f->s a b c d e f->t a b c d e f->u a b c d e f->v a b c d e f->w a b c d e f->x a b c d e f->G):G:=by obtain ⟨a,b,c,d,e,f,p,q,r,s,t,u,v,w,x⟩:=h;exact k a b c d e f p q r s t u v w x
theorem uU{A:Sort u0}{B:Sort u1}{C:Sort u2}{D:Sort u3}{E:Sort u4}{F:Sort u5}{H:Sort u6}{p q r s t u v w x:A->B->C->D->E->F->H->Prop}(h:∃ a b c d e f g,p a b c d e f g/\q a b c d e f g/\r a b c d e f g/\s a b c d e f g/\t a b c d e f g/\u a b c d e f g/\v a b c d e f g/\w a b c d e f g/\x a b c d e f g)(k:∀ a b c d e f g,p a b c d e f g->q a b c d e f g->r a b c d e f g->s a b c d e f g->t a b c d e f g->u a b c d e f g->v a b c d e f g->w a b c d e f g->x a b c d e f g->G):G:=by obtain ⟨a,b,c,d,e,f,g,p,q,r,s,t,u,v,w,x⟩:=h;exact k a b c d e f g p q r s t u v w x
theorem C9{A:Sort u0}{B:Sort u1}{C:Sort u2}{D:Sort u3}{E:Sort u4}{F:Sort u5}{H:Sort u6}{I:Sort u7}{p q r s t u v w x:A->B->C->D->E->F->H->I->Prop}(h:∃ a b c d e f g i,p a b c d e f g i/\q a b c d e f g i/\r a b c d e f g i/\s a b c d e f g i/\t a b c d e f g i/\u a b c d e f g i/\v a b c d e f g i/\w a b c d e f g i/\x a b c d e f g i)(k:∀ a b c d e f g i,p a b c d e f g i->q a b c d e f g i->r a b c d e f g i->s a b c d e f g i->t a b c d e f g i->u a b c d e f g i->v a b c d e f g i->w a b c d e f g i->x a b c d e f g i->G):G:=by obtain ⟨a,b,c,d,e,f,g,i,p,q,r,s,t,u,v,w,x⟩:=h;exact k a b c d e f g i p q r s t u v w x
theorem BK{A:Sort u0}{B:Sort u1}{C:Sort u2}{D:Sort u3}{E:Sort u4}{F:Sort u5}{H:Sort u6}{I:Sort u7}{J:Sort u8}{K:Sort u9}{p q r s t u v w x y z:A->B->C->D->E->F->H->I->J->K->Prop}(h:∃ a b c d e f g i j l,p a b c d e f g i j l/\q a b c d e f g i j l/\r a b c d e f g i j l/\s a b c d e f g i j l/\t a b c d e f g i j l/\u a b c d e f g i j l/\v a b c d e f g i j l/\w a b c d e f g i j l/\x a b c d e f g i j l/\y a b c d e f g i j l/\z a b c d e f g i j l)(k:∀ a b c d e f g i j l,p a b c d e f g i j l->q a b c d e f g i j l->r a b c d e f g i j l->s a b c d e f g i j l->t a b c d e f g i j l->u a b c d e f g i j l->v a b c d e f g i j l->w a b c d e f g i j l->x a b c d e f g i j l->y a b c d e f g i j l->z a b c d e f g i j l->G):G:=by obtain ⟨a,b,c,d,e,f,g,i,j,l,p,q,r,s,t,u,v,w,x,y,z⟩:=h;exact k a b c d e f g i j l p q r s t u v w x y z
theorem jq{A:Sort u0}{B:Sort u1}{C:Sort u2}{D:Sort u3}{E:Sort u4}{F:Sort u5}{H:Sort u6}{I:Sort u7}{p q r s t u v w x y z R S T:A->B->C->D->E->F->H->I->Prop}(h:∃ a b c d e f g i,p a b c d e f g i/\q a b c d e f g i/\r a b c d e f g i/\s a b c d e f g i/\t a b c d e f g i/\u a b c d e f g i/\v a b c d e f g i/\w a b c d e f g i/\x a b c d e f g i/\y a b c d e f g i/\z a b c d e f g i/\R a b c d e f g i/\S a b c d e f g i/\T a b c d e f g i)(k:∀ a b c d e f g i,p a b c d e f g i->q a b c d e f g i->r a b c d e f g i->s a b c d e f g i->t a b c d e f g i->u a b c d e f g i->v a b c d e f g i->w a b c d e f g i->x a b c d e f g i->y a b c d e f g i->z a b c d e f g i->R a b c d e f g i->S a b c d e f g i->T a b c d e f g i->G):G:=by obtain ⟨a,b,c,d,e,f,g,i,p,q,r,s,t,u,v,w,x,y,z,R,S,T⟩:=h;exact k a b c d e f g i p q r s t u v w x y z R S T
theorem Dr{A:Sort u0}{B:Sort u1}{C:Sort u2}{D:Sort u3}{E:Sort u4}{F:Sort u5}{H:Sort u6}{I:Sort u7}{J:Sort u8}{p q r s t u v w x y z R S T:A->B->C->D->E->F->H->I->J->Prop}(h:∃ a b c d e f g i j,p a b c d e f g i j/\q a b c d e f g i j/\r a b c d e f g i j/\s a b c d e f g i j/\t a b c d e f g i j/\u a b c d e f g i j/\v a b c d e f g i j/\w a b c d e f g i j/\x a b c d e f g i j/\y a b c d e f g i j/\z a b c d e f g i j/\R a b c d e f g i j/\S a b c d e f g i j/\T a b c d e f g i j)(k:∀ a b c d e f g i j,p a b c d e f g i j->q a b c d e f g i j->r a b c d e f g i j->s a b c d e f g i j->t a b c d e f g i j->u a b c d e f g i j->v a b c d e f g i j->w a b c d e f g i j->x a b c d e f g i j->y a b c d e f g i j->z a b c d e f g i j->R a b c d e f g i j->S a b c d e f g i j->T a b c d e f g i j->G):G:=by obtain ⟨a,b,c,d,e,f,g,i,j,p,q,r,s,t,u,v,w,x,y,z,R,S,T⟩:=h;exact k a b c d e f g i j p q r s t u v w x y z R S T
theorem bA {a b:Bool}(h:(a&&b)=true):a=true/\b=true:=and_eq_true_iff.mp h
end
theorem bG {α β:Type}{f:α->β}{l:List α}{b:β}{G:Prop}(h:b∈l.map f) (k:∀ a,a∈l->f a=b->G):G:=ae (mem_map.mp h) k
theorem bk {α β:Type}{o:Option α}{f:α->Option β}{b:β}{G:Prop}(h:o.bind f=some b) (k:∀ a,o=some a->f a=some b->G):G:=ae (bind_eq_some_iff.mp h) k
theorem bl {α β:Type}{o:Option α}{f:α->β}{b:β}{G:Prop}(h:o.map f=some b) (k:∀ a,o=some a->f a=b->G):G:=ae (map_eq_some_iff.mp h) k
theorem bP {α:Type}{o:Option α}{G:Prop}(h:o.isSome=true) (k:∀ a,o=some a->G):G:=ai (Option.isSome_iff_exists.mp h) k
theorem xt {α:Type}{p:α->Bool}{l:List α}{a:α}{G:Prop}(h:a∈l.filter p) (k:a∈l->p a=true->G):G:=aa (mem_filter.mp h) k
theorem cR {a b:Bool}{G:Prop}(h:(a&&b)=true) (k:a=true->b=true->G):G:=aa (and_eq_true_iff.mp h) k
open PySem
inductive Mode where
 | sh | top | deep
 deriving DecidableEq
inductive V where
 | d (x:PyData)
 | dic0
 | dicI (ks:List Int)
 | dicT (ks:List (List Int))
 | rule (c:Int) (d:PyData) (n:Int)
set_option genInjectivity true in
inductive Out (α:Type) where
 | ok (a:α)
 | exc (c:String)
 | bad
namespace Out
noncomputable def bind:Out α->(α->Out β)->Out β
 | .ok a,f=>f a
 | .exc c,_=>.exc c
 | .bad,_=>.bad
@[simp] theorem ok_bind (a:α) (f:α->Out β):(Out.ok a).bind f=f a:=rfl
@[simp] theorem exc_bind (c:String) (f:α->Out β):(Out.exc c:Out α).bind f = .exc c:=rfl
@[simp] theorem Kq (f:α->Out β):(Out.bad:Out α).bind f = .bad:=rfl
noncomputable def calm:Out α->Out α
 | .ok a=>.ok a
 | _=>.bad
@[simp] theorem calm_ok (a:α):(Out.ok a).calm = .ok a:=rfl
theorem _root_.Internal.nB {α:Type}{a:α}{G:Prop}(h:(Out.bad:Out α) = .ok a):G:=by cases h
theorem _root_.Internal.nE {α:Type}{a:α}{c:String}{G:Prop}(h:(Out.exc c:Out α) = .ok a):G:=by cases h
theorem _root_.Internal.nN {α:Type}{a:α}{G:Prop}(h:(none:Option α)=some a):G:=by cases h
theorem _root_.Internal.nM {α:Type}{a:α}{G:Prop}(h:some a=(none:Option α)):G:=by cases h
theorem _root_.Internal.nF {G:Prop}(h:false=true):G:=by cases h
theorem _root_.Internal.nT {G:Prop}(h:true=false):G:=by cases h
theorem BD {α β:Type}{o:Out α}{f:α->Out β}{b:β}(h:o.bind f = .ok b):∃ a,o = .ok a/\f a = .ok b:=by
 cases o with
 | ok a=>exact ⟨a,rfl,h⟩
 | exc c=>cases h
 | bad=>cases h
theorem bind_k {α β:Type}{o:Out α}{f:α->Out β}{b:β}{G:Prop}(h:o.bind f = .ok b) (k:∀ a,o = .ok a->f a = .ok b->G):G:=ae (BD h) k
end Out
inductive BOp where
 | add | sub | mul | fdiv | mod | pow | xor
 deriving DecidableEq
inductive COp where
 | eq | ne | lt | gt | ge | isin | notin | isnot
 deriving DecidableEq
inductive B1 where
 | len | list | tuple | sorted | max
 deriving DecidableEq
inductive B2 where
 | max | min
 deriving DecidableEq
mutual
inductive E where
 | name (x:String)
 | int (i:Int)
 | str (s:String)
 | bool (b:Bool)
 | none
 | bin (o:BOp) (a b:E)
 | neg (a:E)
 | not (a:E)
 | cmp (o:COp) (a b:E)
 | and (a b:E)
 | or (a b:E)
 | list (es:Es)
 | tup (es:Es)
 | edic
 | comp (elt:E) (x:String) (it:It)
 | compif (elt:E) (x:String) (it:It) (c:E)
 | sub (a i:E)
 | slo (a lo:E)
 | shi (a hi:E)
 | attr (a:E) (n:String)
 | bi1 (f:B1) (a:E)
 | bi2 (f:B2) (a b:E)
 | listR (n:E)
 | isi (a:E) (t:String)
 | call (f:String) (es:Es)
 | meth (a:E) (m:String) (es:Es)
 | order (x t:String)
inductive Es where
 | nil
 | cons (e:E) (es:Es)
inductive It where
 | e (a:E)
 | r1 (n:E)
 | r2 (a b:E)
end
abbrev St:=String->Option (V×Mode)
abbrev Calls:=String->Option (List V->Out (V×Mode))
noncomputable def upd (σ:St) (x:String) (v:V×Mode):St:=λy=>if y=x then some v else σ y
noncomputable def isI:PyData->Bool
 | .int _=>true
 | _=>false
noncomputable def sx:PyData->Bool
 | .none | .bool _ | .int _ | .str _=>true
 | .tuple xs=>xs.all isI
 | .list _ | .dict _=>false
noncomputable def tU:V->Bool
 | .d x=>sx x
 | _=>false
noncomputable def mk (v:V):V×Mode:=(v,if tU v then .deep else .sh)
noncomputable def fresh (xs:List PyData):Mode:=if xs.all sx then .deep else .top
noncomputable def lim:Nat:=1000000
noncomputable def okc (d:PyData):Bool:=d.canLay0&&decide (d.depth<=64)
noncomputable def sI (i:Int):V×Mode:=(.d (.int i),.deep)
noncomputable def sB (b:Bool):V×Mode:=(.d (.bool b),.deep)
noncomputable def d9:PyData->Option Int
 | .int i=>some i
 | _=>none
noncomputable def aJ:List PyData->Option (List Int)
 | []=>some []
 | .int i::r=>(aJ r).map (i :: ·)
 | _::_=>none
noncomputable def dX:PyData->Option (List Int)
 | .tuple xs=>aJ xs
 | _=>none
noncomputable def jY (d:PyData):Option (Int×Int):=(dX d).bind λl=>match l with
 | [a,b]=>some (a,b)
 | _=>none
noncomputable def al (o:Option α) (f:α->Out β):Out β:=match o with
 | some a=>f a
 | none=>.bad
@[simp] theorem iB (a:α) (f:α->Out β):al (some a) f=f a:=rfl
theorem aS (h:al o f = .ok r):∃ a,o=some a/\f a = .ok r:=by
 cases o with
 | some a=>exact ⟨a,rfl,h⟩
 | none=>cases h
theorem bh {α β:Type}{o:Option α}{f:α->Out β}{r:β}{G:Prop}(h:al o f = .ok r) (k:∀ a,o=some a->f a = .ok r->G):G:=ae (aS h) k
def NE (o:Out α):Prop:=∀ c,o≠.exc c
theorem NE.ok:NE (Out.ok a):=λuu h=>by cases h
theorem NE.bad:NE (Out.bad:Out α):=λuu h=>by cases h
theorem NE.calm {α:Type}{o:Out α}:NE o.calm:=λc h=>by cases o<;>cases h
theorem NE.opt (h:∀ a,NE (f a)):NE (al o f):=by
 cases o with
 | some a=>exact h a
 | none=>exact .bad
theorem NE.ite [Decidable c] (ha:NE a) (hb:NE b):NE (if c then a else b):=by
 by_cases h:c
 ·rw[if_pos h]; exact ha
 ·rw[if_neg h]; exact hb
theorem NE.bind (ho:NE o) (h:∀ a,NE (f a)):NE (o.bind f):=by
 cases o with
 | ok a=>exact h a
 | exc c=>exact absurd rfl (ho c)
 | bad=>exact .bad
noncomputable def asL:PyData->Option (List PyData)
 | .list xs=>some xs
 | _=>none
noncomputable def asD:V->Option PyData
 | .d x=>some x
 | _=>none
@[simp] theorem pJ (x:PyData):asD (.d x)=some x:=rfl
noncomputable def isN:PyData->Bool
 | .none=>true
 | _=>false
theorem c8 (h:d9 x=some i):x = .int i:=by cases x<;>cases h; rfl
theorem bR (h:asL x=some i):x = .list i:=by cases x<;>cases h; rfl
theorem bZ (h:asD x=some i):x = .d i:=by cases x<;>cases h; rfl
theorem A0 (h:isN x=true):x = .none:=by cases x<;>first | rfl | cases h
noncomputable def i2 (x y:PyData) (f:Int->Int->Out β):Out β:=al (d9 x) λa=>al (d9 y) λb=>f a b
theorem eZ (h:i2 x y f = .ok r):∃ a b,x = .int a/\y = .int b/\f a b = .ok r:=by
 refine bh h λa i h=>?_
 refine bh h λb g h=>?_
 exact ⟨a,b,c8 i,c8 g,h⟩
noncomputable def d2 (x y:V) (f:PyData->PyData->Out β):Out β:=al (asD x) λa=>al (asD y) λb=>f a b
theorem iq (h:d2 x y f = .ok r):∃ a b,x = .d a/\y = .d b/\f a b = .ok r:=by
 refine bh h λa i h=>?_
 refine bh h λb g h=>?_
 exact ⟨a,b,bZ i,bZ g,h⟩
noncomputable def qZ (x y:PyData):Out (V×Mode):=match asL x with
 | some a=>al (asL y) λb=>if a.length+b.length<=lim then .ok (.d (.list (a++b)),fresh (a++b)) else .bad
 | none=>i2 x y λa b=>.ok (sI (a+b))
noncomputable def eg (o:BOp) (x y:PyData):Out (V×Mode):=match o with
 | .add=>qZ x y
 | .sub=>i2 x y λa b=>.ok (sI (a-b))
 | .mul=>i2 x y λa b=>if a.natAbs<2^63\/b.natAbs<2^63 then .ok (sI (a*b)) else .bad
 | .fdiv=>i2 x y λa b=>if b=0\/1000000000<=b.natAbs then .bad else .ok (sI (a.fdiv b))
 | .mod=>i2 x y λa b=>if b=0 then .bad else .ok (sI (a.fmod b))
 | .pow=>i2 x y λa b=>if 0<=b/\b<=1000/\a.natAbs<2^63 then .ok (sI (a^b.toNat)) else .bad
 | .xor=>i2 x y λa b=>.ok (sI (Builtin.bitXor a b))
theorem Br:NE (eg o x y):=by
 have h:∀ (f:Int->Int->Out (V×Mode)),(∀ a b,NE (f a b))->NE (i2 x y f):=λf g=>.opt λa=>.opt λb=>g a b
 cases o with
 | add=>
  show NE (qZ x y)
  unfold qZ
  cases asL x with
  | some a=>exact .opt λb=>.ite .ok .bad
  | none=>exact h _ λuu uu=>.ok
 | sub=>exact h _ λuu uu=>.ok
 | mul=>exact h _ λuu uu=>.ite .ok .bad
 | fdiv=>exact h _ λuu uu=>.ite .bad .ok
 | mod=>exact h _ λuu uu=>.ite .bad .ok
 | pow=>exact h _ λuu uu=>.ite .ok .bad
 | xor=>exact h _ λuu uu=>.ok
noncomputable def inV (k:PyData) (c:V):Out Bool:=match c with
 | .d x=>al (asL x) λg=>if okc k&&okc (.list g) then .ok (g.any λy=>PyData.eqv y k) else .bad
 | .dicI ks=>al (d9 k) λi=>.ok (decide (i∈ks))
 | .dicT ks=>al (dX k) λi=>.ok (decide (i∈ks))
 | .dic0=>if (d9 k).isSome||(dX k).isSome then .ok false else .bad
 | .rule _ _ _=>.bad
theorem uY:NE (inV k c):=by
 cases c with
 | d x=>exact .opt λuu=>.ite .ok .bad
 | dicI ks=>exact .opt λuu=>.ok
 | dicT ks=>exact .opt λuu=>.ok
 | dic0=>exact .ite .ok .bad
 | rule _ _ _=>exact .bad
noncomputable def cM (o:COp) (x y:V):Out Bool:=match o with
 | .eq=>d2 x y λa b=>if okc a&&okc b then .ok (PyData.eqv a b) else .bad
 | .ne=>d2 x y λa b=>if okc a&&okc b then .ok (!PyData.eqv a b) else .bad
 | .lt=>d2 x y λa b=>i2 a b λa b=>.ok (decide (a<b))
 | .gt=>d2 x y λa b=>i2 a b λa b=>.ok (decide (b<a))
 | .ge=>d2 x y λa b=>i2 a b λa b=>.ok (decide (b<=a))
 | .isin=>al (asD x) λk=>inV k y
 | .notin=>d2 x y λk c=>(inV k (.d c)).bind λb=>.ok (!b)
 | .isnot=>d2 x y λa b=>if isN b then .ok (!isN a) else .bad
theorem Cp:NE (cM o x y):=by
 have h:∀ (f:PyData->PyData->Out Bool),(∀ a b,NE (f a b))->NE (d2 x y f):=λf g=>.opt λa=>.opt λb=>g a b
 cases o with
 | eq=>exact h _ λuu uu=>.ite .ok .bad
 | ne=>exact h _ λuu uu=>.ite .ok .bad
 | isin=>exact .opt λuu=>uY
 | notin=>exact h _ λuu uu=>.bind uY λuu=>.ok
 | isnot=>exact h _ λuu uu=>.ite .ok .bad
 | _=>exact h _ λuu uu=>.opt λuu=>.opt λuu=>.ok
noncomputable def be (i:Int) (n:Nat):Option Nat:=if 0<=i then (if i<n then some i.toNat else none) else (if -(n:Int)<=i then some (i+n).toNat else none)
noncomputable def asT:PyData->Option (List PyData)
 | .tuple xs=>some xs
 | _=>none
theorem jh (h:asT x=some i):x = .tuple i:=by cases x<;>cases h; rfl
noncomputable def jM (x:PyData) (i:Int):Option PyData:=match asL x with
 | some xs=>(be i xs.length).bind λk=>xs[k]?
 | none=>match asT x with
  | some xs=>(be i xs.length).bind λk=>xs[k]?
  | none=>none
noncomputable def fk (x y:PyData):Out (V×Mode):=al (d9 y) λi=>al (jM x i) λz=>.ok (mk (.d z))
theorem A8:NE (fk x y):=.opt λuu=>.opt λuu=>.ok
noncomputable def modP (y:PyData):List Int->PyData->Option PyData
 | [],d=>(asL d).bind λg=>if g.length<lim then some (.list (g++[y])) else none
 | k::p,d=>match asL d with
  | some g=>(be k g.length).bind λj=>(g[j]?).bind λe=>(modP y p e).map λh=>.list (g.set j h)
  | none=>(asT d).bind λg=>(be k g.length).bind λj=>(g[j]?).bind λe=>(modP y p e).map λh=>.tuple (g.set j h)
noncomputable def jR:PyData->PyData->Out (V×Mode)
 | .list xs,.int i=>if 0<=i/\i<2^62 then .ok (.d (.list (xs.drop i.toNat)),fresh (xs.drop i.toNat)) else .bad
 | _,_=>.bad
noncomputable def jK:PyData->PyData->Out (V×Mode)
 | .list xs,.int i=>if 0<=i/\i<2^62 then .ok (.d (.list (xs.take i.toNat)),fresh (xs.take i.toNat)) else .bad
 | _,_=>.bad
noncomputable def ik:List PyData->Option (List (List Int))
 | []=>some []
 | .list xs::r=>(aJ xs).bind λi=>(ik r).map (i :: ·)
 | _::_=>none
noncomputable def ac (xs:List Int):PyData:=.list (xs.map .int)
noncomputable def aK (xs:List Int):PyData:=.tuple (xs.map .int)
noncomputable def ah (t:List (List Int)):PyData:=.list (t.map ac)
noncomputable def ltL:List Int->List Int->Bool
 | [],[]=>false
 | [],_::_=>true
 | _::_,[]=>false
 | a::as,b::bs=>if a=b then ltL as bs else decide (a<b)
noncomputable def dY:List PyData->Option (List (List Int))
 | []=>some []
 | x::r=>(dX x).bind λk=>(dY r).map (k :: ·)
noncomputable def aA (ks:List (List Int)):List (List Int):=ks.mergeSort λa b=>!ltL b a
noncomputable def eL (xs:List PyData):Out (V×Mode):=match dY xs with
 | some g=>if g.length<2\/[]∉g then .ok (.d (.list ((aA g).map aK)),fresh ((aA g).map aK)) else .bad
 | none=>al (ik xs) λg=>.ok (.d (.list ((aA g).map ac)),fresh ((aA g).map ac))
theorem tx:NE (eL xs):=by
 unfold eL
 cases dY xs with
 | some ks=>exact .ite .ok .bad
 | none=>exact .opt λuu=>.ok
noncomputable def eP (xs:List PyData):Out (V×Mode) :=
 if xs.length<64 then (match aJ xs with
  | some ns=>.ok (.d (ac (ns.mergeSort (λa b=>decide (a<=b)))),.deep)
  | none=>eL xs)
 else .bad
noncomputable def fE:List Int->Option Int
 | []=>none
 | x::xs=>some (xs.foldl (λa b=>if a<b then b else a) x)
noncomputable def b1D (f:B1) (v:V):Out (V×Mode):=al (asD v) λx=>match f with
 | .len=>(match asT x with
  | some g=>.ok (sI g.length)
  | none=>al (asL x) λg=>.ok (sI g.length))
 | .list=>(match asT x with
  | some g=>.ok (.d (.list g),fresh g)
  | none=>al (asL x) λg=>.ok (.d (.list g),fresh g))
 | .tuple=>al (asL x) λg=>.ok (.d (.tuple g),if g.all sx then .deep else .sh)
 | .sorted=>al (asL x) λg=>eP g
 | .max=>al (asL x) λg=>al ((aJ g).bind fE) λi=>.ok (sI i)
theorem Dp:NE (b1D f v):=.opt λx=>by
 cases f with
 | len=>
  show NE (match asT x with | some g=>Out.ok (sI g.length) | none=>al (asL x) λg=>.ok (sI g.length))
  cases asT x with
  | some g=>exact .ok
  | none=>exact .opt λuu=>.ok
 | list=>
  show NE (match asT x with | some g=>Out.ok (V.d (.list g),fresh g) | none=>al (asL x) λg=>.ok (V.d (.list g),fresh g))
  cases asT x with
  | some g=>exact .ok
  | none=>exact .opt λuu=>.ok
 | tuple=>exact .opt λuu=>.ok
 | sorted=>
  refine .opt λg=>.ite ?_ .bad
  cases aJ g with
  | some ns=>exact .ok
  | none=>exact tx
 | max=>exact .opt λuu=>.opt λuu=>.ok
noncomputable def t9:V->Option (List (List Int))
 | .dicT ks=>some ks
 | _=>none
theorem zo (h:t9 v=some ks):v = .dicT ks:=by
 cases v<;>cases h
 rfl
noncomputable def pF (f:B1) (ks:List (List Int)):Out (V×Mode):=if f = .list/\ks.length<=lim then .ok (.d (.list (ks.map aK)),fresh (ks.map aK)) else .bad
noncomputable def b1V (f:B1) (v:V):Out (V×Mode):=match t9 v with
 | some ks=>pF f ks
 | none=>b1D f v
theorem CF:NE (b1V f v):=by
 unfold b1V
 cases t9 v with
 | some ks=>exact .ite .ok .bad
 | none=>exact Dp
noncomputable def b2V (f:B2) (x y:V):Out (V×Mode):=d2 x y λx y=>i2 x y λa b=>match f with
 | .max=>.ok (sI (if a<b then b else a))
 | .min=>.ok (sI (if b<a then b else a))
theorem Ct:NE (b2V f x y):=.opt λuu=>.opt λuu=>.opt λuu=>.opt λuu=>by cases f<;>exact .ok
noncomputable def qf:PyData->Nat
 | .none=>0
 | .bool _=>1
 | .int _=>2
 | .str _=>3
 | .list _=>4
 | .tuple _=>5
 | .dict _=>6
noncomputable def nG (t:String) (k:Nat):Option Bool :=
 if t = "int" then some (k==2||k==1) else if t = "bool" then some (k==1) else if t = "list" then some (k==4) else if t = "tuple" then some (k==5) else if t = "str" then some (k==3) else none
noncomputable def iG (v:V) (t:String):Out Bool:=al (asD v) λx=>al (nG t (qf x)) .ok
theorem rJ {t:String}{k:Nat}{b:Bool}{G:Prop}(h:nG t k=some b) (c1:t = "int" -> (k==2||k==1)=b->G) (c2:t = "bool" -> (k==1)=b->G) (c3:t = "list" -> (k==4)=b->G) (c4:t = "tuple" -> (k==5)=b->G) (c5:t = "str" -> (k==3)=b->G):G:=by
 unfold nG at h
 by_cases q:t = "int"
 ·rw[if_pos q] at h; exact c1 q (Option.some.inj h)
 rw[if_neg q] at h
 by_cases q:t = "bool"
 ·rw[if_pos q] at h; exact c2 q (Option.some.inj h)
 rw[if_neg q] at h
 by_cases q:t = "list"
 ·rw[if_pos q] at h; exact c3 q (Option.some.inj h)
 rw[if_neg q] at h
 by_cases q:t = "tuple"
 ·rw[if_pos q] at h; exact c4 q (Option.some.inj h)
 rw[if_neg q] at h
 by_cases q:t = "str"
 ·rw[if_pos q] at h; exact c5 q (Option.some.inj h)
 rw[if_neg q] at h
 cases h
theorem zh (h:iG v t = .ok b):∃ x,v = .d x/\nG t (qf x)=some b:=by
 obtain ⟨x,i,h⟩:=aS h
 obtain ⟨c,g,h⟩:=aS h
 exact ⟨x,bZ i,by rw[g,Out.ok.inj h]⟩
theorem BY:NE (iG v t):=.opt λuu=>.opt λuu=>.ok
noncomputable def ao:V->Out Bool
 | .d (.bool b)=>.ok b
 | _=>.bad
noncomputable def dB:V->Option (Int×PyData×Int)
 | .rule c d n=>some (c,d,n)
 | _=>none
theorem jA (h:dB x=some q):x = .rule q.1 q.2.1 q.2.2:=by cases x<;>cases h; rfl
noncomputable def li (x:V) (n:String):Out (V×Mode):=al (dB x) λq=>if n = "count" then .ok (sI q.1) else if n = "full" then .ok (mk (.d q.2.1)) else if n = "size" then .ok (sI q.2.2) else .bad
theorem xf:NE (li x n):=.opt λuu=>.ite .ok (.ite .ok (.ite .ok .bad))
noncomputable def methNames:List String:=["together", "rank", "need_full", "outs", "exchanges"]
noncomputable def aV:List String:=["PickError", "NoChoice", "NoThing", "NoExchange", "NoWeights", "NoRule"]
noncomputable def fieldNames:List String:=["count", "full", "size"]
noncomputable def cE (a b:Int):List PyData:=(List.range (b-a).toNat).map λ(k:Nat)=>.int (a+k)
noncomputable def bE (a b:Int):Out (List PyData×Mode) :=
 if (b-a).toNat<=lim/\-(2^60)<=a/\a<2^60/\-(2^60)<=b/\b<2^60 then .ok (cE a b,.deep) else .bad
noncomputable def bx (f:PyData->Out (Option (V×Mode))):List PyData->Out (List PyData×Bool)
 | []=>.ok ([],true)
 | x::xs=>(f x).bind λr=>(bx f xs).bind λq=>match r with
  | none=>.ok q
  | some (.d y,m)=>.ok (y::q.1,decide (m = .deep)&&q.2)
  | some _=>.bad
noncomputable def cg:List (V×Mode)->Option (List PyData)
 | []=>some []
 | (.d x,_)::r=>(cg r).map (x :: ·)
 | _::_=>none
noncomputable def allDeep (l:List (V×Mode)):Bool:=l.all λp=>decide (p.2 = .deep)
noncomputable def kH:V->Option (List PyData)
 | .d (.list xs)=>some xs
 | _=>none
theorem oz (h:kH v=some xs):v = .d (.list xs):=by
 unfold kH at h
 split at h
 ·cases h; rfl
 ·cases h
noncomputable def itV (r:V×Mode):Out (List PyData×Mode):=match kH r.1 with
 | some xs=>.ok (xs,r.2)
 | none=>.bad
noncomputable def dS (ns:List Int) (i:Nat):List Int:=[-(ns.getD i 0),(i:Int)]
noncomputable def bJ (ns:List Int):List Int:=(((List.range ns.length).map λi=>(dS ns i,i)).mergeSort λa b=>!ltL b.1 a.1).map λp=>(p.2:Int)
noncomputable def fH (p:Option (V×Mode)):Out (V×Mode):=al p λq=>al (asD q.1) λd=>al (asL d) λh=>al (aJ h) λg=>if g.length<64 then .ok (.d (.list ((bJ g).map .int)),.deep) else .bad
mutual
noncomputable def ev (C:Calls):E->St->Out (V×Mode)
 | .name x,σ=>match σ x with | some p=>.ok (mk p.1) | none=>.bad
 | .int i,_=>.ok (sI i)
 | .str s,_=>.ok (.d (.str (Str.ofString s)),.deep)
 | .bool b,_=>.ok (sB b)
 | .none,_=>.ok (.d .none,.deep)
 | .bin o a b,σ=>(ev C a σ).bind λx=>(ev C b σ).bind λy=>match x.1,y.1 with | .d x,.d y=>eg o x y | _,_=>.bad
 | .neg a,σ=>(ev C a σ).bind λx=>match x.1 with | .d (.int i)=>.ok (sI (-i)) | _=>.bad
 | .not a,σ=>(ev C a σ).bind λx=>(ao x.1).bind λb=>.ok (sB (!b))
 | .cmp o a b,σ=>(ev C a σ).bind λx=>(ev C b σ).bind λy=>(cM o x.1 y.1).bind λb=>.ok (sB b)
 | .and a b,σ=>(ev C a σ).bind λx=>(ao x.1).bind λt=>if t then (ev C b σ).bind λy=>(ao y.1).bind λu=>.ok (sB u) else .ok (sB false)
 | .or a b,σ=>(ev C a σ).bind λx=>(ao x.1).bind λt=>if t then .ok (sB true) else (ev C b σ).bind λy=>(ao y.1).bind λu=>.ok (sB u)
 | .list es,σ=>(evs C es σ).bind λl=>match cg l with
  | some xs=>.ok (.d (.list xs),if allDeep l then .deep else .top)
  | none=>.bad
 | .tup es,σ=>(evs C es σ).bind λl=>match cg l with
  | some xs=>.ok (.d (.tuple xs),if allDeep l then .deep else .sh)
  | none=>.bad
 | .edic,_=>.ok (.dic0,.deep)
 | .comp elt x it,σ=>(aZ C it σ).bind λq=>(bx (λy=>(ev C elt (upd σ x (mk (.d y)))).bind λr=>.ok (some r)) q.1).calm.bind λr=>.ok (.d (.list r.1),if r.2 then .deep else .top)
 | .compif elt x it c,σ=>(aZ C it σ).bind λq=>(bx (λy=>(ev C c (upd σ x (mk (.d y)))).bind λt=>(ao t.1).bind λb=>if b then (ev C elt (upd σ x (mk (.d y)))).bind λr=>.ok (some r) else .ok none) q.1).calm.bind λr=>.ok (.d (.list r.1),if r.2 then .deep else .top)
 | .sub a i,σ=>(ev C a σ).bind λx=>(ev C i σ).bind λy=>match x.1,y.1 with | .d x,.d y=>fk x y | _,_=>.bad
 | .slo a i,σ=>(ev C a σ).bind λx=>(ev C i σ).bind λy=>match x.1,y.1 with | .d x,.d y=>jR x y | _,_=>.bad
 | .shi a i,σ=>(ev C a σ).bind λx=>(ev C i σ).bind λy=>match x.1,y.1 with | .d x,.d y=>jK x y | _,_=>.bad
 | .attr a n,σ=>al (C "Rule") λuu=>(ev C a σ).bind λx=>li x.1 n
 | .bi1 f a,σ=>(ev C a σ).bind λx=>b1V f x.1
 | .bi2 f a b,σ=>(ev C a σ).bind λx=>(ev C b σ).bind λy=>b2V f x.1 y.1
 | .listR n,σ=>(ev C n σ).bind λx=>match x.1 with | .d (.int n)=>(bE 0 n).bind λq=>.ok (.d (.list q.1),.deep) | _=>.bad
 | .isi a t,σ=>(ev C a σ).bind λx=>(iG x.1 t).bind λb=>.ok (sB b)
 | .call f es,σ=>match C f with
  | some g=>(evs C es σ).bind λl=>g (l.map (·.1))
  | none=>.bad
 | .meth a m es,σ=>(ev C a σ).bind λx=>al (dB x.1) λuu=>al (C m) λg=>(evs C es σ).bind λl=>g (x.1::l.map (·.1))
 | .order x _,σ=>al (C "law") λuu=>fH (σ x)
noncomputable def evs (C:Calls):Es->St->Out (List (V×Mode))
 | .nil,_=>.ok []
 | .cons e es,σ=>(ev C e σ).bind λx=>(evs C es σ).bind λl=>.ok (x::l)
noncomputable def aZ (C:Calls):It->St->Out (List PyData×Mode)
 | .e a,σ=>(ev C a σ).bind itV
 | .r1 n,σ=>(ev C n σ).bind λx=>match x.1 with | .d (.int n)=>bE 0 n | _=>.bad
 | .r2 a b,σ=>(ev C a σ).bind λx=>(ev C b σ).bind λy=>match x.1,y.1 with | .d (.int a),.d (.int b)=>bE a b | _,_=>.bad
end
theorem b7 (C:Calls) (x:String) (σ:St):ev C (.name x) σ=(match σ x with | some p=>.ok (mk p.1) | none=>.bad):=rfl
theorem eN (C:Calls) (i:Int) (σ0:St):ev C (.int i) σ0=(.ok (sI i)):=rfl
theorem lc (C:Calls) (s:String) (σ0:St):ev C (.str s) σ0=(.ok (.d (.str (Str.ofString s)),.deep)):=rfl
theorem gZ (C:Calls) (b:Bool) (σ0:St):ev C (.bool b) σ0=(.ok (sB b)):=rfl
theorem g7 (C:Calls) (σ0:St):ev C .none σ0=(.ok (.d .none,.deep)):=rfl
theorem gT (C:Calls) (o:BOp) (a:E) (b:E) (σ:St):ev C (.bin o a b) σ=((ev C a σ).bind λx=>(ev C b σ).bind λy=>match x.1,y.1 with | .d x,.d y=>eg o x y | _,_=>.bad):=rfl
theorem fz (C:Calls) (a:E) (σ:St):ev C (.neg a) σ=((ev C a σ).bind λx=>match x.1 with | .d (.int i)=>.ok (sI (-i)) | _=>.bad):=rfl
theorem eJ (C:Calls) (a:E) (σ:St):ev C (.not a) σ=((ev C a σ).bind λx=>(ao x.1).bind λb=>.ok (sB (!b))):=rfl
theorem eK (C:Calls) (o:COp) (a:E) (b:E) (σ:St):ev C (.cmp o a b) σ=((ev C a σ).bind λx=>(ev C b σ).bind λy=>(cM o x.1 y.1).bind λb=>.ok (sB b)):=rfl
theorem eO (C:Calls) (a:E) (b:E) (σ:St):ev C (.and a b) σ=((ev C a σ).bind λx=>(ao x.1).bind λt=>if t then (ev C b σ).bind λy=>(ao y.1).bind λu=>.ok (sB u) else .ok (sB false)):=rfl
theorem fU (C:Calls) (a:E) (b:E) (σ:St):ev C (.or a b) σ=((ev C a σ).bind λx=>(ao x.1).bind λt=>if t then .ok (sB true) else (ev C b σ).bind λy=>(ao y.1).bind λu=>.ok (sB u)):=rfl
theorem br (C:Calls) (es:Es) (σ:St):ev C (.list es) σ=((evs C es σ).bind λl=>match cg l with
  | some xs=>.ok (.d (.list xs),if allDeep l then .deep else .top)
  | none=>.bad):=rfl
theorem fi (C:Calls) (es:Es) (σ:St):ev C (.tup es) σ=((evs C es σ).bind λl=>match cg l with
  | some xs=>.ok (.d (.tuple xs),if allDeep l then .deep else .sh)
  | none=>.bad):=rfl
theorem hW (C:Calls) (σ0:St):ev C .edic σ0=(.ok (.dic0,.deep)):=rfl
theorem d7 (C:Calls) (elt:E) (x:String) (it:It) (σ:St):ev C (.comp elt x it) σ=((aZ C it σ).bind λq=>(bx (λy=>(ev C elt (upd σ x (mk (.d y)))).bind λr=>.ok (some r)) q.1).calm.bind λr=>.ok (.d (.list r.1),if r.2 then .deep else .top)):=rfl
theorem c7 (C:Calls) (elt:E) (x:String) (it:It) (c:E) (σ:St):ev C (.compif elt x it c) σ=((aZ C it σ).bind λq=>(bx (λy=>(ev C c (upd σ x (mk (.d y)))).bind λt=>(ao t.1).bind λb=>if b then (ev C elt (upd σ x (mk (.d y)))).bind λr=>.ok (some r) else .ok none) q.1).calm.bind λr=>.ok (.d (.list r.1),if r.2 then .deep else .top)):=rfl
theorem fJ (C:Calls) (a:E) (i:E) (σ:St):ev C (.sub a i) σ=((ev C a σ).bind λx=>(ev C i σ).bind λy=>match x.1,y.1 with | .d x,.d y=>fk x y | _,_=>.bad):=rfl
theorem gB (C:Calls) (a:E) (i:E) (σ:St):ev C (.slo a i) σ=((ev C a σ).bind λx=>(ev C i σ).bind λy=>match x.1,y.1 with | .d x,.d y=>jR x y | _,_=>.bad):=rfl
theorem gQ (C:Calls) (a:E) (i:E) (σ:St):ev C (.shi a i) σ=((ev C a σ).bind λx=>(ev C i σ).bind λy=>match x.1,y.1 with | .d x,.d y=>jK x y | _,_=>.bad):=rfl
theorem fx (C:Calls) (a:E) (n:String) (σ:St):ev C (.attr a n) σ=(al (C "Rule") λuu=>(ev C a σ).bind λx=>li x.1 n):=rfl
theorem fL (C:Calls) (f:B1) (a:E) (σ:St):ev C (.bi1 f a) σ=((ev C a σ).bind λx=>b1V f x.1):=rfl
theorem gS (C:Calls) (f:B2) (a:E) (b:E) (σ:St):ev C (.bi2 f a b) σ=((ev C a σ).bind λx=>(ev C b σ).bind λy=>b2V f x.1 y.1):=rfl
theorem eI (C:Calls) (n:E) (σ:St):ev C (.listR n) σ=((ev C n σ).bind λx=>match x.1 with | .d (.int n)=>(bE 0 n).bind λq=>.ok (.d (.list q.1),.deep) | _=>.bad):=rfl
theorem gO (C:Calls) (a:E) (t:String) (σ:St):ev C (.isi a t) σ=((ev C a σ).bind λx=>(iG x.1 t).bind λb=>.ok (sB b)):=rfl
theorem fI (C:Calls) (f:String) (es:Es) (σ:St):ev C (.call f es) σ=(match C f with
  | some g=>(evs C es σ).bind λl=>g (l.map (·.1))
  | none=>.bad):=rfl
theorem d8 (C:Calls) (a:E) (m:String) (es:Es) (σ:St):ev C (.meth a m es) σ=((ev C a σ).bind λx=>al (dB x.1) λuu=>al (C m) λg=>(evs C es σ).bind λl=>g (x.1::l.map (·.1))):=rfl
theorem fW (C:Calls) (x:String) (z1:String) (σ:St):ev C (.order x z1) σ=(al (C "law") λuu=>fH (σ x)):=rfl
theorem bc (C:Calls) (σ0:St):evs C .nil σ0=(.ok []):=rfl
theorem bi (C:Calls) (e:E) (es:Es) (σ:St):evs C (.cons e es) σ=((ev C e σ).bind λx=>(evs C es σ).bind λl=>.ok (x::l)):=rfl
theorem jk (C:Calls) (a:E) (σ:St):aZ C (.e a) σ=((ev C a σ).bind itV):=rfl
theorem fM (C:Calls) (n:E) (σ:St):aZ C (.r1 n) σ=((ev C n σ).bind λx=>match x.1 with | .d (.int n)=>bE 0 n | _=>.bad):=rfl
theorem gV (C:Calls) (a:E) (b:E) (σ:St):aZ C (.r2 a b) σ=((ev C a σ).bind λx=>(ev C b σ).bind λy=>match x.1,y.1 with | .d (.int a),.d (.int b)=>bE a b | _,_=>.bad):=rfl
mutual
noncomputable def fv:E->List String
 | .name x=>[x]
 | .int _ | .str _ | .bool _ | .none | .edic=>[]
 | .bin _ a b | .cmp _ a b | .and a b | .or a b | .sub a b | .slo a b | .shi a b | .bi2 _ a b=>fv a++fv b
 | .neg a | .not a | .attr a _ | .bi1 _ a | .isi a _ | .listR a=>fv a
 | .list es | .tup es | .call _ es=>fvs es
 | .comp elt _ it=>bD it++fv elt
 | .compif elt _ it c=>bD it++(fv c++fv elt)
 | .meth a _ es=>fv a++fvs es
 | .order x _=>[x]
noncomputable def fvs:Es->List String
 | .nil=>[]
 | .cons e es=>fv e++fvs es
noncomputable def bD:It->List String
 | .e a=>fv a
 | .r1 n=>fv n
 | .r2 a b=>fv a++fv b
end
theorem bQ (x:String):fv (.name x)=([x]):=rfl
theorem nJ (z0:Int):fv (.int z0)=([]):=rfl
theorem KV (z0:String):fv (.str z0)=([]):=rfl
theorem Ko (z0:Bool):fv (.bool z0)=([]):=rfl
theorem KK:fv .none=([]):=rfl
theorem KM:fv .edic=([]):=rfl
theorem nV (z0:BOp) (a:E) (b:E):fv (.bin z0 a b)=(fv a++fv b):=rfl
theorem Bh (z0:COp) (a:E) (b:E):fv (.cmp z0 a b)=(fv a++fv b):=rfl
theorem BH (a:E) (b:E):fv (.and a b)=(fv a++fv b):=rfl
theorem Dh (a:E) (b:E):fv (.or a b)=(fv a++fv b):=rfl
theorem B9 (a:E) (b:E):fv (.sub a b)=(fv a++fv b):=rfl
theorem BL (a:E) (b:E):fv (.slo a b)=(fv a++fv b):=rfl
theorem AU (a:E) (b:E):fv (.shi a b)=(fv a++fv b):=rfl
theorem Bt (z0:B2) (a:E) (b:E):fv (.bi2 z0 a b)=(fv a++fv b):=rfl
theorem AS (a:E):fv (.neg a)=(fv a):=rfl
theorem AY (a:E):fv (.not a)=(fv a):=rfl
theorem lK (a:E) (z1:String):fv (.attr a z1)=(fv a):=rfl
theorem Cj (z0:B1) (a:E):fv (.bi1 z0 a)=(fv a):=rfl
theorem A1 (a:E) (z1:String):fv (.isi a z1)=(fv a):=rfl
theorem wj (a:E):fv (.listR a)=(fv a):=rfl
theorem xo (es:Es):fv (.list es)=(fvs es):=rfl
theorem BG (es:Es):fv (.tup es)=(fvs es):=rfl
theorem j6 (z0:String) (es:Es):fv (.call z0 es)=(fvs es):=rfl
theorem xl (elt:E) (z1:String) (it:It):fv (.comp elt z1 it)=(bD it++fv elt):=rfl
theorem uz (elt:E) (z1:String) (it:It) (c:E):fv (.compif elt z1 it c)=(bD it++(fv c++fv elt)):=rfl
theorem xM (a:E) (z1:String) (es:Es):fv (.meth a z1 es)=(fv a++fvs es):=rfl
theorem w5 (x:String) (z1:String):fv (.order x z1)=([x]):=rfl
theorem l6:fvs .nil=([]):=rfl
theorem ip (e:E) (es:Es):fvs (.cons e es)=(fv e++fvs es):=rfl
theorem dh (a:E):bD (.e a)=(fv a):=rfl
theorem qT (n:E):bD (.r1 n)=(fv n):=rfl
theorem pO (a:E) (b:E):bD (.r2 a b)=(fv a++fv b):=rfl
inductive H1 where
 | asg (x:String) (e:E)
 | ret (e:E)
noncomputable def ye:List H1->List String
 | []=>[]
 | .asg x _::r=>x::ye r
 | .ret _::_=>[]
noncomputable def uO:List (String×List H1)->List String
 | []=>[]
 | p::r=>ye p.2++uO r
mutual
inductive S where
 | assign (x:String) (e:E)
 | setitem (x:String) (k:E)
 | append (x:String) (e:E)
 | appF (x:String) (is:Es) (e:E)
 | expr (e:E)
 | ret (e:E)
 | retn (x:String)
 | ite (c:E) (a b:Ss)
 | for1 (x:String) (it:It) (b:Ss)
 | for2 (x y:String) (it:It) (b:Ss)
 | raise (c:String)
 | tryS (b:S) (hs:List (String×List H1))
 | bad
inductive Ss where
 | nil
 | cons (s:S) (r:Ss)
end
mutual
noncomputable def asg:S->List String
 | .assign x _ | .setitem x _ | .append x _ | .appF x _ _=>[x]
 | .expr _ | .ret _ | .retn _ | .raise _ | .bad=>[]
 | .ite _ a b=>hY a++hY b
 | .for1 x _ b=>x::hY b
 | .for2 x y _ b=>x::y::hY b
 | .tryS b hs=>asg b++uO hs
noncomputable def hY:Ss->List String
 | .nil=>[]
 | .cons s r=>asg s++hY r
end
inductive Flw where
 | next
 | ret (v:V×Mode)
noncomputable def demote (σ:St) (ns:List String):St:=λy=>if y∈ns then (σ y).map λp=>mk p.1 else σ y
noncomputable def consume (σ:St) (ns:List String) (m:Mode):St:=if m = .deep then σ else demote σ ns
noncomputable def bB (f:PyData->St->Out (St×Flw)):List PyData->St->Out (St×Flw)
 | [],σ=>.ok (σ,.next)
 | x::xs,σ=>(f x σ).bind λr=>match r.2 with
  | .next=>bB f xs r.1
  | .ret v=>.ok (r.1,.ret v)
noncomputable def nK (σ:St) (x:String) (ns:List String) (mx:Mode) (xs:List PyData) (m:Mode):Out (St×Flw) :=
 if xs.length<=lim then
  if m = .deep then .ok (upd σ x (.d (.list xs),mx),.next)
  else if x∈ns then .bad else .ok (upd (demote σ ns) x (.d (.list xs),.top),.next)
 else .bad
noncomputable def iK (σ:St) (x:String):V->PyData->Out (St×Flw)
 | .dic0,k=>match d9 k with
  | some i=>.ok (upd σ x (.dicI [i],.deep),.next)
  | none=>match dX k with
   | some t=>.ok (upd σ x (.dicT [t],.deep),.next)
   | none=>.bad
 | .dicI ks,k=>match d9 k with
  | some i=>if ks.length<=lim then .ok (upd σ x (.dicI (if i∈ks then ks else ks++[i]),.deep),.next) else .bad
  | none=>.bad
 | .dicT ks,k=>match dX k with
  | some i=>if ks.length<=lim then .ok (upd σ x (.dicT (if i∈ks then ks else ks++[i]),.deep),.next) else .bad
  | none=>.bad
 | _,_=>.bad
noncomputable def evP (C:Calls) (d:PyData):Es->St->Out (List Int×PyData)
 | .nil,_=>.ok ([],d)
 | .cons i r,σ=>(evP C d r σ).bind λp=>(ev C i σ).bind λq=>al (asD q.1) λk=>al (d9 k) λk=>al (jM p.2 k) λe=>.ok (p.1++[k],e)
noncomputable def iV:E->Bool
 | .comp _ _ _ | .compif _ _ _ _=>true
 | _=>false
noncomputable def evA (C:Calls) (e:E) (σ:St):Out (V×Mode):=if iV e then (ev C e σ).calm else ev C e σ
theorem jv (h:ev C e σ = .ok r):evA C e σ = .ok r:=by
 unfold evA; rw[h]; split<;>rfl
theorem DC (h:evA C e σ = .ok r):ev C e σ = .ok r:=by
 unfold evA at h
 split at h
 ·cases q:ev C e σ with
  | ok a=>rw[q] at h; exact h
  | exc c=>rw[q] at h; cases h
  | bad=>rw[q] at h; cases h
 ·exact h
theorem su (h:evA C e σ = .exc c):ev C e σ = .exc c/\iV e=false:=by
 unfold evA at h
 split at h
 ·cases q:ev C e σ<;>rw[q] at h<;>cases h
 ·rename_i q
  exact ⟨h,by cases hc:iV e with | true=>exact absurd hc q | false=>rfl⟩
mutual
noncomputable def hOk:E->Bool
 | .name _ | .int _ | .bool _=>true
 | .bin _ a b | .cmp _ a b | .and a b | .or a b=>hOk a&&hOk b
 | .not a=>hOk a
 | .list es=>yF es
 | _=>false
noncomputable def yF:Es->Bool
 | .nil=>true
 | .cons e es=>hOk e&&yF es
end
noncomputable def noC:Calls:=λuu=>none
noncomputable def exH:List H1->St->Out (St×Flw)
 | [],σ=>.ok (σ,.next)
 | .asg x e::r,σ=>if hOk e then (ev noC e σ).calm.bind λq=>exH r (upd (consume σ (fv e) q.2) x q) else .bad
 | .ret e::_,σ=>if hOk e then (ev noC e σ).calm.bind λq=>.ok (σ,.ret q) else .bad
noncomputable def lY (C:Calls) (c:String):List (String×List H1)->St->Out (St×Flw)
 | [],_=>.bad
 | p::r,σ=>al (C p.1) λuu=>if p.1∈aV then (if p.1=c\/p.1 = "PickError" then exH p.2 σ else lY C c r σ) else .bad
noncomputable def xk:S->Bool
 | .expr _ | .assign _ _=>true
 | _=>false
noncomputable def orH (C:Calls) (b:S) (hs:List (String×List H1)) (σ:St):Out (St×Flw)->Out (St×Flw)
 | .ok r=>.ok r
 | .exc c=>if xk b then lY C c hs σ else .bad
 | .bad=>.bad
mutual
noncomputable def ex (C:Calls):S->St->Out (St×Flw)
 | .assign x e,g=>(evA C e g).bind λr=>.ok (upd (consume g (fv e) r.2) x r,.next)
 | .setitem x k,g=>((ev C k g).bind λr=>al (asD r.1) λd=>al (g x) λp=>if p.2 = .deep then iK g x p.1 d else .bad).calm
 | .append x e,g=>((ev C e g).bind λr=>al (asD r.1) λy=>al (g x) λp=>al (kH p.1) λh=>if p.2 = .sh then .bad else nK g x (fv e) p.2 (h++[y]) r.2).calm
 | .appF x is e,g=>match g x with
  | some (v,.deep)=>al (C "Rule") λuu=>al (dB v) λq=>(evP C q.2.1 is g).calm.bind λp=>(ev C e g).calm.bind λr=>al (asD r.1) λy=>if sx y then al (modP y p.1 q.2.1) λi=>.ok (upd g x (.rule q.1 i q.2.2,.deep),.next) else .bad
  | _=>.bad
 | .expr e,g=>(ev C e g).bind λr=>.ok (consume g (fv e) r.2,.next)
 | .retn x,g=>match g x with
  | some r=>.ok (g,.ret r)
  | none=>.bad
 | .ret e,g=>(ev C e g).bind λr=>.ok (g,.ret r)
 | .ite c a b,g=>(ev C c g).bind λr=>(ao r.1).bind λt=>if t then exs C a g else exs C b g
 | .for1 x it b,g=>(aZ C it g).bind λq=>bB (λy g=>exs C b (upd g x (mk (.d y)))) q.1 (consume g (bD it) q.2)
 | .for2 x y it b,g=>(aZ C it g).bind λq=>bB (λd g=>al ((jY d).map λp=>upd (upd g x (sI p.1)) y (sI p.2)) (exs C b)) q.1 (consume g (bD it) q.2)
 | .raise c,_=>al (C c) λuu=>if c∈aV then .exc c else .bad
 | .tryS b hs,g=>orH C b hs g (ex C b g)
 | .bad,_=>.bad
noncomputable def exs (C:Calls):Ss->St->Out (St×Flw)
 | .nil,σ=>.ok (σ,.next)
 | .cons s r,σ=>(ex C s σ).bind λq=>match q.2 with
  | .next=>exs C r q.1
  | .ret v=>.ok (q.1,.ret v)
end
theorem bW (C:Calls) (x:String) (e:E) (σ:St):ex C (.assign x e) σ=((evA C e σ).bind λr=>.ok (upd (consume σ (fv e) r.2) x r,.next)):=rfl
theorem db (C:Calls) (x:String) (k:E) (σ:St):ex C (.setitem x k) σ=((ev C k σ).bind λr=>al (asD r.1) λd=>al (σ x) λp=>if p.2 = .deep then iK σ x p.1 d else .bad).calm:=rfl
theorem eV (C:Calls) (x:String) (e:E) (σ:St):ex C (.append x e) σ=((ev C e σ).bind λr=>al (asD r.1) λy=>al (σ x) λp=>al (kH p.1) λxs=>if p.2 = .sh then .bad else nK σ x (fv e) p.2 (xs++[y]) r.2).calm:=rfl
theorem jX (C:Calls) (x:String) (is:Es) (e:E) (σ:St):ex C (.appF x is e) σ=(match σ x with
  | some (v,.deep)=>al (C "Rule") λuu=>al (dB v) λq=>(evP C q.2.1 is σ).calm.bind λp=>(ev C e σ).calm.bind λr=>al (asD r.1) λy=>if sx y then al (modP y p.1 q.2.1) λd'=>.ok (upd σ x (.rule q.1 d' q.2.2,.deep),.next) else .bad
  | _=>.bad):=rfl
theorem fw (C:Calls) (e:E) (σ:St):ex C (.expr e) σ=((ev C e σ).bind λr=>.ok (consume σ (fv e) r.2,.next)):=rfl
theorem lJ (C:Calls) (x:String) (σ:St):ex C (.retn x) σ=(match σ x with
  | some r=>.ok (σ,.ret r)
  | none=>.bad):=rfl
theorem gN (C:Calls) (e:E) (σ:St):ex C (.ret e) σ=((ev C e σ).bind λr=>.ok (σ,.ret r)):=rfl
theorem je (C:Calls) (c:E) (a:Ss) (b:Ss) (σ:St):ex C (.ite c a b) σ=((ev C c σ).bind λr=>(ao r.1).bind λt=>if t then exs C a σ else exs C b σ):=rfl
theorem qk (C:Calls) (x:String) (it:It) (b:Ss) (σ:St):ex C (.for1 x it b) σ=((aZ C it σ).bind λq=>bB (λy σ=>exs C b (upd σ x (mk (.d y)))) q.1 (consume σ (bD it) q.2)):=rfl
theorem qu (C:Calls) (x y:String) (it:It) (b:Ss) (σ:St):ex C (.for2 x y it b) σ=((aZ C it σ).bind λq=>bB (λd σ=>al ((jY d).map λp=>upd (upd σ x (sI p.1)) y (sI p.2)) (exs C b)) q.1 (consume σ (bD it) q.2)):=rfl
theorem iA (C:Calls) (c:String) (σ0:St):ex C (.raise c) σ0=(al (C c) λuu=>if c∈aV then .exc c else .bad):=rfl
theorem hJ (C:Calls) (b:S) (hs:List (String×List H1)) (σ:St):ex C (.tryS b hs) σ=(orH C b hs σ (ex C b σ)):=rfl
theorem BW (C:Calls) (σ0:St):ex C .bad σ0=(.bad):=rfl
theorem dA (C:Calls) (σ:St):exs C .nil σ=(.ok (σ,.next)):=rfl
theorem ch (C:Calls) (s:S) (r:Ss) (σ:St):exs C (.cons s r) σ=((ex C s σ).bind λq=>match q.2 with
  | .next=>exs C r q.1
  | .ret v=>.ok (q.1,.ret v)):=rfl
structure Fn where
 params:List String
 body:Ss
noncomputable def bN:List String->List V->Option St
 | [],[]=>some λuu=>none
 | p::ps,v::vs=>(bN ps vs).map λg=>upd g p (mk v)
 | _,_=>none
noncomputable def aD (C:Calls) (f:Fn) (vs:List V):Out (V×Mode):=match bN f.params vs with
 | some σ=>(exs C f.body σ).bind λr=>match r.2 with
  | .ret v=>.ok v
  | .next=>.ok (.d .none,.deep)
 | none=>.bad
noncomputable def aM (C:Calls):Calls:=λf=>if f = "law" then none else C f
noncomputable def fZ (σ:St):Out (V×Mode):=al (σ "count") λp=>al (asD p.1) λc=>al (d9 c) λc=>al (σ "full") λq=>al (asD q.1) λd=>al (asL d) λg=>al (g[0]?) λx=>al (asL x) λh=>
 if q.2 = .deep then .ok (.rule c (.list g) h.length,.deep) else .bad
noncomputable def di (C:Calls) (f:Fn) (vs:List V):Out (V×Mode):=match bN f.params vs with
 | some σ=>(exs C f.body σ).bind λr=>match r.2 with
  | .next=>fZ r.1
  | .ret _=>.bad
 | none=>.bad
noncomputable def cC (f:String) (C:Calls) (fn:Fn) (vs:List V):Out (V×Mode):=if f = "Rule" then di (aM C) fn vs else if f∈methNames then aD (aM C) fn vs else aD C fn vs
noncomputable def mkC (L:List (String×Fn)):Nat->Calls
 | 0=>λuu=>none
 | n+1=>λf=>(L.lookup f).map λh g=>cC f (mkC L n) h g
open PyProof.Rows
mutual
inductive R (h:Heap):Value->PyData->List Addr->Prop
 | none:R h .none .none []
 | bool (b:Bool):R h (.bool b) (.bool b) []
 | int (i:Int) (t:Tok):R h (.int i t) (.int i) []
 | str (x:Str) (t:Tok):R h (.str x t) (.str x) []
 | list {a:Addr}{n:Nat}{xs:List PyData}{as:List Addr}{vs:List Value}:h.get? a=some ⟨.type "list", Option.none,.seq vs.toArray n,#[]⟩->RA h vs xs as->R h (.ref a) (.list xs) (a::as)
 | tuple {a:Addr}{n:Nat}{xs:List PyData}{as:List Addr}{vs:List Value}:h.get? a=some ⟨.type "tuple", Option.none,.seq vs.toArray n,#[]⟩->RA h vs xs as->R h (.ref a) (.tuple xs) as
inductive RA (h:Heap):List Value->List PyData->List Addr->Prop
 | nil:RA h [] [] []
 | cons {v:Value}{vs:List Value}{d:PyData}{ds:List PyData}{as bs:List Addr}:R h v d as->RA h vs ds bs->RA h (v::vs) (d::ds) (as++bs)
end
theorem R.ind {h:Heap}{M:Value->PyData->List Addr->Prop}{N:List Value->List PyData->List Addr->Prop}(h1:M .none .none []) (h2:∀ b,M (.bool b) (.bool b) []) (h3:∀ i t,M (.int i t) (.int i) []) (h4:∀ x t,M (.str x t) (.str x) [])
  (h5:∀ {a:Addr}{n:Nat}{xs:List PyData}{as:List Addr}{vs:List Value},h.get? a=some ⟨.type "list", Option.none,.seq vs.toArray n,#[]⟩->RA h vs xs as->N vs xs as->M (.ref a) (.list xs) (a::as))
  (h6:∀ {a:Addr}{n:Nat}{xs:List PyData}{as:List Addr}{vs:List Value},h.get? a=some ⟨.type "tuple", Option.none,.seq vs.toArray n,#[]⟩->RA h vs xs as->N vs xs as->M (.ref a) (.tuple xs) as)
  (h7:N [] [] []) (h8:∀ {v:Value}{vs:List Value}{d:PyData}{ds:List PyData}{as bs:List Addr},R h v d as->RA h vs ds bs->M v d as->N vs ds bs->N (v::vs) (d::ds) (as++bs)) :
  (∀ {v:Value}{d:PyData}{as:List Addr},R h v d as->M v d as)/\(∀ {vs:List Value}{ds:List PyData}{as:List Addr},RA h vs ds as->N vs ds as) :=
 ⟨λr=>R.rec (motive_1:=λv d as _=>M v d as) (motive_2:=λvs ds as _=>N vs ds as) h1 h2 h3 h4 (λe r i=>h5 e r i) (λe r i=>h6 e r i) h7 (λx r i j=>h8 x r i j) r,
  λr=>RA.rec (motive_1:=λv d as _=>M v d as) (motive_2:=λvs ds as _=>N vs ds as) h1 h2 h3 h4 (λe r i=>h5 e r i) (λe r i=>h6 e r i) h7 (λx r i j=>h8 x r i j) r⟩
theorem RA.ind {h:Heap}{N:List Value->List PyData->List Addr->Prop}(h7:N [] [] []) (h8:∀ {v:Value}{vs:List Value}{d:PyData}{ds:List PyData}{as bs:List Addr},R h v d as->RA h vs ds bs->N vs ds bs->N (v::vs) (d::ds) (as++bs))
  {vs:List Value}{ds:List PyData}{as:List Addr}(r:RA h vs ds as):N vs ds as :=
 (R.ind (M:=λuu uu uu=>True) (N:=N) trivial (λuu=>trivial) (λuu uu=>trivial) (λuu uu=>trivial) (λuu uu uu=>trivial) (λuu uu uu=>trivial) h7 λx r _ j=>h8 x r j).2 r
noncomputable def Kps (h h':Heap) (as:List Addr):Prop:=∀ b o,(b∈as\/o.cls = .type "tuple")->(∃ vs n,o.data = .seq vs n)->h.get? b=some o->h'.get? b=some o
theorem R.onB:(∀ {v:Value}{d:PyData}{as:List Addr},R h v d as->Kps h h' as->R h' v d as)/\(∀ {vs:List Value}{ds:List PyData}{as:List Addr},RA h vs ds as->Kps h h' as->RA h' vs ds as) :=
 R.ind (M:=λv d as=>Kps h h' as->R h' v d as) (N:=λvs ds as=>Kps h h' as->RA h' vs ds as) (λuu=>.none) (λb _=>.bool b) (λi t _=>.int i t) (λx t _=>.str x t)
  (λe _ l k=>.list (k _ _ (.inl (.head _)) (bn _ _ rfl) e) (l λb o g=>k b o (g.imp (.tail _) id))) (λe _ l k=>.tuple (k _ _ (.inr rfl) (bn _ _ rfl) e) (l k))
  (λuu=>.nil) (λuu uu i j k=>.cons (i λb o g=>k b o (g.imp (mem_append_left _) id)) (j λb o g=>k b o (g.imp (mem_append_right _) id)))
section
theorem R.on2 (r:R h v d as) (k:∀ b o,(b∈as\/o.cls = .type "tuple")->(∃ vs n,o.data = .seq vs n)->h.get? b=some o->h'.get? b=some o):R h' v d as:=R.onB.1 r k
theorem RA.on2 (r:RA h vs ds as) (k:∀ b o,(b∈as\/o.cls = .type "tuple")->(∃ vs n,o.data = .seq vs n)->h.get? b=some o->h'.get? b=some o):RA h' vs ds as:=R.onB.2 r k
theorem R.on (r:R h v d as) (k:∀ b o,(b∈as\/o.cls = .type "tuple")->h.get? b=some o->h'.get? b=some o):R h' v d as:=r.on2 λb o q _=>k b o q
theorem RA.on (r:RA h vs ds as) (k:∀ b o,(b∈as\/o.cls = .type "tuple")->h.get? b=some o->h'.get? b=some o):RA h' vs ds as:=r.on2 λb o q _=>k b o q
end
noncomputable def Off (h:Heap) (as wr:List Addr):Prop:=∀ b∈wr,∀ o,h.get? b=some o->(∀ vs n,o.data≠.seq vs n)\/(o.cls≠.type "tuple" /\ b∉as)
theorem R.off (r:R h v d as) (hw:Off h as wr) (kp:∀ b o,b∉wr->h.get? b=some o->h'.get? b=some o):R h' v d as :=
 r.on2 λb o k ⟨i,n,e⟩ g=>kp b o (λj=>(hw b j o g).elim (λq=>q i n e) λq=>k.elim q.2 q.1) g
theorem RA.off (r:RA h vs ds as) (hw:Off h as wr) (kp:∀ b o,b∉wr->h.get? b=some o->h'.get? b=some o):RA h' vs ds as :=
 r.on2 λb o j ⟨vs,n,e⟩ g=>kp b o (λi=>(hw b i o g).elim (λq=>q vs n e) λq=>j.elim q.2 q.1) g
section
variable {h h':Heap}{v:Value}{d:PyData}{as:List Addr}{vs:List Value}{ds:List PyData}
theorem R.keep (r:R h v d as) (k:∀ b o,h.get? b=some o->h'.get? b=some o):R h' v d as:=r.on λb o _=>k b o
theorem RA.keep (r:RA h vs ds as) (k:∀ b o,h.get? b=some o->h'.get? b=some o):RA h' vs ds as:=r.on λb o _=>k b o
end
theorem R.readsB:(∀ {v:Value}{d:PyData}{as:List Addr},R h v d as->Reads h v d as)/\(∀ {vs:List Value}{ds:List PyData}{as:List Addr},RA h vs ds as->ReadsAll h vs ds as) :=
 R.ind (M:=λv d as=>Reads h v d as) (N:=λvs ds as=>ReadsAll h vs ds as) .none (λb=>.bool b) (λi t=>.int i t) (λx t=>.str x t) (λe _ i=>.list e rfl rfl (by simpa using i)) (λe _ i=>.tuple e rfl rfl (by simpa using i)) .nil (λuu uu i j=>.cons i j)
theorem R.reads (r:R h v d as):Reads h v d as:=R.readsB.1 r
noncomputable def pI (h:Heap) (as:List Addr):Prop:=∀ a∈as,∃ vs n,h.get? a=some ⟨.type "list", Option.none,.seq vs n,#[]⟩
theorem R.thereB:(∀ {v:Value}{d:PyData}{as:List Addr},R h v d as->pI h as)/\(∀ {vs:List Value}{ds:List PyData}{as:List Addr},RA h vs ds as->pI h as) :=
 R.ind (M:=λuu uu as=>pI h as) (N:=λuu uu as=>pI h as) (λuu g=>nomatch g) (λuu uu g=>nomatch g) (λuu uu uu g=>nomatch g) (λuu uu uu g=>nomatch g)
  (λe _ i a g=>(mem_cons.mp g).elim (λq=>q▸(bn _ _ e)) (i a)) (λuu uu i=>i) (λuu g=>nomatch g) (λuu uu i j a g=>(mem_append.mp g).elim (i a) (j a))
theorem R.there (r:R h v d as):∀ a∈as,∃ vs n,h.get? a=some ⟨.type "list", Option.none,.seq vs n,#[]⟩:=R.thereB.1 r
theorem RA.there (r:RA h vs ds as):∀ a∈as,∃ vs n,h.get? a=some ⟨.type "list", Option.none,.seq vs n,#[]⟩:=R.thereB.2 r
theorem R.isInt (r:R h v (.int i) as):∃ t,v = .int i t/\as=[]:=by
 cases r; exact (af _ rfl rfl)
theorem R.isInt_k {h:Heap}{v:Value}{i:Int}{as:List Addr}{G:Prop}(r:R h v (.int i) as) (k:∀ t,v = .int i t->as=[]->G):G:=ae (R.isInt r) k
theorem R.isBool (r:R h v (.bool b) as):v = .bool b/\as=[]:=by
 cases r; exact ⟨rfl,rfl⟩
theorem R.isNone (r:R h v .none as):v = .none/\as=[]:=by
 cases r; exact ⟨rfl,rfl⟩
theorem R.isI_nil (r:R h v d as) (hs:isI d=true):as=[]:=by
 cases d with
 | int i=>exact R.isInt_k r λ_ _ e=>e
 | _=>exact nF hs
theorem RA.isI_nil (r:RA h vs ds as):ds.all isI=true->as=[] :=
 RA.ind (N:=λuu ds as=>ds.all isI=true->as=[]) (λuu=>rfl) (λx _ i g=>by
  refine cR (show (isI _&&List.all _ isI)=true from g) λk j=>?_
  rw[x.isI_nil k,i j]; rfl) r
theorem R.sx_nil (r:R h v d as) (hs:sx d=true):as=[]:=by
 cases r with
 | tuple e ra=>exact ra.isI_nil hs
 | list=>exact nF hs
 | _=>rfl
theorem RA.length (r:RA h vs ds as):vs.length=ds.length :=
 RA.ind (N:=λvs ds _=>vs.length=ds.length) rfl (λuu uu i=>congrArg (· + 1) i) r
theorem RA.append (r:RA h vs ds as) (q:RA h ws es bs):RA h (vs++ws) (ds++es) (as++bs) :=
 RA.ind (N:=λvs ds as=>RA h (vs++ws) (ds++es) (as++bs)) q (λx _ i=>by rw[append_assoc]; exact .cons x i) r
theorem RA.sx_nil (r:RA h vs ds as):ds.all sx=true->as=[] :=
 RA.ind (N:=λuu ds as=>ds.all sx=true->as=[]) (λuu=>rfl) (λx _ i g=>by
  refine cR (show (sx _&&List.all _ sx)=true from g) λk j=>?_
  rw[x.sx_nil k,i j]; rfl) r
theorem RA.get (r:RA h vs ds as):∀ {k:Nat}{d:PyData},ds[k]? = some d->∃ v bs,vs[k]? = some v/\R h v d bs/\∀ b∈bs,b∈as:=by
 have g:∀ (k:Nat) (d:PyData),ds[k]? = some d->∃ v bs,vs[k]? = some v/\R h v d bs/\∀ b∈bs,b∈as:=by
  refine RA.ind (N:=λvs ds as=>∀ (k:Nat) (d:PyData),ds[k]? = some d->∃ v bs,vs[k]? = some v/\R h v d bs/\∀ b∈bs,b∈as) (λk d hk=>by cases hk) (λx _ i k d hk=>?_) r
  cases k with
  | zero=>(have l:=Option.some.inj hk; clear hk; subst l); exact (aU _ _ rfl x (λb j=>mem_append_left _ j))
  | succ k=>
   refine az (i k d hk) λv bs o n m=>?_
   exact (aU v bs o n (λb j=>mem_append_right _ (m b j)))
 exact λ{k d}=>g k d
theorem RA.get' {h:Heap}{vs:List Value}{ds:List PyData}{as:List Addr}(r:RA h vs ds as) {k:Nat}{v:Value}(hk:vs[k]? = some v):∃ d bs,ds[k]? = some d/\R h v d bs/\∀ b∈bs,b∈as:=by
 have i:k<ds.length:=by rw[<- r.length]; exact (List.getElem?_eq_some_iff.mp hk).1
 refine az (r.get (List.getElem?_eq_getElem i)) λn bs g m l=>?_
 rw[hk] at g; (have j:=Option.some.inj g; clear g; subst j)
 exact (aU _ bs (List.getElem?_eq_getElem i) m l)
theorem RA.take (n:Nat) (r:RA h vs ds as):∃ bs,RA h (vs.take n) (ds.take n) bs/\(∀ b∈bs,b∈as):=by
 refine RA.ind (N:=λvs ds as=>∀ n,∃ bs,RA h (vs.take n) (ds.take n) bs/\(∀ b∈bs,b∈as)) (λn=>(af ([]) (by rw[List.take_nil,List.take_nil]; exact .nil) (λuu g=>nomatch g))) (λx _ i n=>?_) r n
 cases n with
 | zero=>exact (af ([]) .nil (λuu g=>nomatch g))
 | succ n=>
  refine ae (i n) λbs q j=>?_
  exact (af _ (.cons x q) (λb g=>(mem_append.mp g).elim (mem_append_left _) λg=>mem_append_right _ (j b g)))
theorem RA.drop (n:Nat) (r:RA h vs ds as):∃ bs,RA h (vs.drop n) (ds.drop n) bs/\(∀ b∈bs,b∈as):=by
 refine RA.ind (N:=λvs ds as=>∀ n,∃ bs,RA h (vs.drop n) (ds.drop n) bs/\(∀ b∈bs,b∈as)) (λn=>(af ([]) (by rw[List.drop_nil,List.drop_nil]; exact .nil) (λuu g=>nomatch g))) (λx r i n=>?_) r n
 cases n with
 | zero=>exact (af _ (.cons x r) (λuu g=>g))
 | succ n=>
  refine ae (i n) λbs q j=>?_
  exact (af bs q (λb g=>mem_append_right _ (j b g)))
theorem RA.ints (r:RA h vs ds as) (e:aJ ds=some ns):IntsAre vs ns/\as=[]/\ds=ns.map .int:=by
 refine RA.ind (N:=λvs ds as=>∀ ns,aJ ds=some ns->IntsAre vs ns/\as=[]/\ds=ns.map .int) (λns e=>?_) (λ{v vs d ds as p} x r i ns e=>?_) r ns e
 ·(have m:=Option.some.inj e; clear e; subst m); exact ⟨.nil,rfl,rfl⟩
 ·cases x with
  | int j t=>
   refine bl (show (aJ ds).map (j :: ·)=some ns from e) λn o l=>?_
   (clear e; subst l)
   refine aG (i n o) λa k g=>?_
   (clear i r; subst k)
   subst g
   exact ⟨.cons j t a,rfl,rfl⟩
  | _=>exact nN e
theorem RA.of_ints (r:IntsAre vs ns):RA h vs (ns.map .int) []:=by
 induction r with
 | nil=>exact .nil
 | cons i t r ih=>exact .cons (as:=[]) (.int i t) ih
mutual
noncomputable def sz:PyData->Bool
 | .none | .bool _ | .int _=>true
 | .str x=>decide (x.length<=2^22)
 | .list xs | .tuple xs=>decide (xs.length<=2^22)&&szs xs
 | .dict _=>false
noncomputable def szs:List PyData->Bool
 | []=>true
 | x::xs=>sz x&&szs xs
end
theorem td:szs xs=true↔∀ x∈xs,sz x=true:=by
 induction xs with
 | nil=>simp[szs]
 | cons x xs ih=>simp[szs,ih]
theorem sz_list:sz (.list xs)=true↔xs.length<=2^22/\∀ x∈xs,sz x=true:=by simp[sz,td]
theorem sz_tuple:sz (.tuple xs)=true↔xs.length<=2^22/\∀ x∈xs,sz x=true:=by simp[sz,td]
theorem jF (ns:List Int):∀ x∈ns.map PyData.int,sz x=true:=by
 intro x hx; obtain ⟨i,_,rfl⟩:=mem_map.mp hx; rfl
noncomputable def varK (ns:List (Str×NameKind)) (x:String):Bool:=!(Str.ofString x==Str.ofString ".0")&&(match ns.lookup (Str.ofString x) with
 | some .local | some .cell | some .free=>true
 | _=>false)
noncomputable def bC (ns:List (Str×NameKind)) (x:String):Bool:=ns.lookup (Str.ofString x)==some .globalImplicit
noncomputable def aX (x:String):Bool:=!(Str.ofString x==("__debug__" : Str)) && !(Str.ofString x==("__classdict__" : Str))
noncomputable def bOp:BOp->Operator
 | .add=>.Add | .sub=>.Sub | .mul=>.Mult | .fdiv=>.FloorDiv | .mod=>.Mod | .pow=>.Pow | .xor=>.BitXor
noncomputable def cOp:COp->CmpOp
 | .eq=>.Eq | .ne=>.NotEq | .lt=>.Lt | .gt=>.Gt | .ge=>.GtE | .isin=>.In | .notin=>.NotIn | .isnot=>.IsNot
noncomputable def opB (o:BOp) (p:Operator):Bool:=decide (p=bOp o)
noncomputable def opC (o:COp) (p:CmpOp):Bool:=decide (p=cOp o)
noncomputable def b1n:B1->String
 | .len => "len" | .list => "list" | .tuple => "tuple" | .sorted => "sorted" | .max => "max"
noncomputable def b2n:B2->String
 | .max => "max" | .min => "min"
noncomputable def gi (outer inner:List (Str×NameKind)):List (Str×NameKind) :=
 inner.map λ(n,k)=>if k == .free&&outer.lookup n==some .cell then (n,.cell) else (n,k)
noncomputable def iH (ns:List (Str×NameKind)) (sc:Scope) (x:String):Bool :=
 sc.kind == .function&&decide ((sc.names.map (·.1)).Nodup)&&(sc.names.lookup (Str.ofString x)==some .local||sc.names.lookup (Str.ofString x)==some .cell) &&
 sc.names.all λp=>(p.2 == .local&&(p.1==Str.ofString x||p.1==Str.ofString ".0"))||p.2 == .globalImplicit||(p.2 == .cell&&p.1==Str.ofString x)||(p.2 == .free&&(ns.lookup p.1==some .cell||ns.lookup p.1==some .free))
noncomputable def ak (o:Option α) (f:α->Bool):Bool:=match o with
 | some a=>f a
 | none=>false
theorem cJ (h:ak o f=true):∃ a,o=some a/\f a=true:=by
 cases o with
 | none=>exact nF h
 | some a=>exact (af a rfl h)
theorem aj {α:Type}{o:Option α}{f:α->Bool}{G:Prop}(h:ak o f=true) (k:∀ a,o=some a->f a=true->G):G:=ae (cJ h) k
structure Pt where
 tag:Nat:=0
 e1:Expr:=default
 e2:Expr:=default
 es:List Expr:=[]
 st:Str:=default
 co:Const:=default
 n:Nat:=0
 op:Operator:=default
 un:UnaryOp:=default
 bo:BoolOp:=default
 cs:List CmpOp:=[]
 ks:List (Option Expr):=[]
 gs:List Comprehension:=[]
 sc:Scope:=default
 o1:Option Expr:=none
 o2:Option Expr:=none
 o3:Option Expr:=none
 kw:List Keyword:=[]
 pos:Pos:=default
noncomputable def pt:Expr->Pt
 | .Name x0 x1=>{tag:=1,st:=x0,pos:=x1 }
 | .Constant x0 x1 x2=>{tag:=2,co:=x0,n:=x1,pos:=x2 }
 | .BinOp x0 x1 x2 x3=>{tag:=3,e1:=x0,op:=x1,e2:=x2,pos:=x3 }
 | .UnaryOp x0 x1 x2=>{tag:=4,un:=x0,e1:=x1,pos:=x2 }
 | .Compare x0 x1 x2 x3=>{tag:=5,e1:=x0,cs:=x1,es:=x2,pos:=x3 }
 | .BoolOp x0 x1 x2=>{tag:=6,bo:=x0,es:=x1,pos:=x2 }
 | .List x0 x1=>{tag:=7,es:=x0,pos:=x1 }
 | .Tuple x0 x1 x2=>{tag:=8,es:=x0,n:=x1,pos:=x2 }
 | .Dict x0 x1 x2=>{tag:=9,ks:=x0,es:=x1,pos:=x2 }
 | .ListComp x0 x1 x2 x3=>{tag:=10,e1:=x0,gs:=x1,sc:=x2,pos:=x3 }
 | .Subscript x0 x1 x2=>{tag:=11,e1:=x0,e2:=x1,pos:=x2 }
 | .Slice x0 x1 x2 x3=>{tag:=12,o1:=x0,o2:=x1,o3:=x2,pos:=x3 }
 | .Call x0 x1 x2 x3=>{tag:=13,e1:=x0,es:=x1,kw:=x2,pos:=x3 }
 | .Attribute x0 x1 x2=>{tag:=14,e1:=x0,st:=x1,pos:=x2 }
 | _=>{}
noncomputable def ptB (n:Nat) (p:Pt):Expr:=match n with
 | 1=>.Name p.st p.pos
 | 2=>.Constant p.co p.n p.pos
 | 3=>.BinOp p.e1 p.op p.e2 p.pos
 | 4=>.UnaryOp p.un p.e1 p.pos
 | 5=>.Compare p.e1 p.cs p.es p.pos
 | 6=>.BoolOp p.bo p.es p.pos
 | 7=>.List p.es p.pos
 | 8=>.Tuple p.es p.n p.pos
 | 9=>.Dict p.ks p.es p.pos
 | 10=>.ListComp p.e1 p.gs p.sc p.pos
 | 11=>.Subscript p.e1 p.e2 p.pos
 | 12=>.Slice p.o1 p.o2 p.o3 p.pos
 | 13=>.Call p.e1 p.es p.kw p.pos
 | 14=>.Attribute p.e1 p.st p.pos
 | _=>default
theorem BS (e:Expr):(pt e).tag=0\/ptB (pt e).tag (pt e)=e:=by cases e<;>first | exact .inr rfl | exact .inl rfl
theorem cG (hn:n≠0) (h:(pt e).tag=n):e=ptB n (pt e):=by
 rcases BS e with q | q
 ·exact absurd (h.symm.trans q) hn
 ·rw[h] at q; exact q.symm
noncomputable def ifN (m n:Nat) (a:α):Option α:=if m=n then some a else none
theorem BC {α:Type}{m n:Nat}{a b:α}(h:ifN m n a=some b):m=n/\a=b:=by
 unfold ifN at h
 by_cases q:m=n
 ·rw[if_pos q] at h; exact ⟨q,Option.some.inj h⟩
 ·rw[if_neg q] at h; exact nN h
theorem ca {α:Type}{m n:Nat}{a b:α}{G:Prop}(h:ifN m n a=some b) (k:m=n->a=b->G):G:=aa (BC h) k
noncomputable def ce (e:Expr):Option (Str×Pos):=ifN (pt e).tag 1 ((pt e).st,(pt e).pos)
noncomputable def ij (e:Expr):Option (Const×Nat×Pos):=ifN (pt e).tag 2 ((pt e).co,(pt e).n,(pt e).pos)
noncomputable def Di (e:Expr):Option (Expr×Operator×Expr×Pos):=ifN (pt e).tag 3 ((pt e).e1,(pt e).op,(pt e).e2,(pt e).pos)
noncomputable def dUn (e:Expr):Option (UnaryOp×Expr×Pos):=ifN (pt e).tag 4 ((pt e).un,(pt e).e1,(pt e).pos)
noncomputable def CV (e:Expr):Option (Expr×List CmpOp×List Expr×Pos):=ifN (pt e).tag 5 ((pt e).e1,(pt e).cs,(pt e).es,(pt e).pos)
noncomputable def tX (e:Expr):Option (BoolOp×List Expr×Pos):=ifN (pt e).tag 6 ((pt e).bo,(pt e).es,(pt e).pos)
noncomputable def Ar (e:Expr):Option (List Expr×Pos):=ifN (pt e).tag 7 ((pt e).es,(pt e).pos)
noncomputable def uA (e:Expr):Option (List Expr×Nat×Pos):=ifN (pt e).tag 8 ((pt e).es,(pt e).n,(pt e).pos)
noncomputable def zx (e:Expr):Option (List (Option Expr)×List Expr×Pos):=ifN (pt e).tag 9 ((pt e).ks,(pt e).es,(pt e).pos)
noncomputable def dLC (e:Expr):Option (Expr×List Comprehension×Scope×Pos):=ifN (pt e).tag 10 ((pt e).e1,(pt e).gs,(pt e).sc,(pt e).pos)
noncomputable def l0 (e:Expr):Option (Expr×Expr×Pos):=ifN (pt e).tag 11 ((pt e).e1,(pt e).e2,(pt e).pos)
noncomputable def wm (e:Expr):Option (Option Expr×Option Expr×Option Expr×Pos):=ifN (pt e).tag 12 ((pt e).o1,(pt e).o2,(pt e).o3,(pt e).pos)
noncomputable def jw (e:Expr):Option (Expr×List Expr×List Keyword×Pos):=ifN (pt e).tag 13 ((pt e).e1,(pt e).es,(pt e).kw,(pt e).pos)
noncomputable def lg (e:Expr):Option (Expr×Str×Pos):=ifN (pt e).tag 14 ((pt e).e1,(pt e).st,(pt e).pos)
noncomputable def CN:Const->Option Int
 | .int i=>some i
 | _=>none
noncomputable def xi:Const->Option Str
 | .str i=>some i
 | _=>none
noncomputable def ue:Const->Option Bool
 | .bool i=>some i
 | _=>none
noncomputable def Ax:Const->Option Unit
 | .none=>some ()
 | _=>none
noncomputable def bL:List α->Option α
 | [x]=>some x
 | _=>none
noncomputable def qy:List α->Option (α×α)
 | [x,y]=>some (x,y)
 | _=>none
noncomputable def dH:List α->Option Unit
 | []=>some ()
 | _=>none
noncomputable def fP:List α->Option (α×List α)
 | x::y=>some (x,y)
 | _=>none
section
variable {e:Expr}
theorem aY (h:ce e=some q):e = .Name q.1 q.2:=by
 refine ca h λi g=>?_
 (clear h; subst g)
 exact cG (by decide) i
theorem dQ (h:ij e=some q):e = .Constant q.1 q.2.1 q.2.2:=by
 refine ca h λi g=>?_
 (clear h; subst g)
 exact cG (by decide) i
theorem yS (h:Di e=some q):e = .BinOp q.1 q.2.1 q.2.2.1 q.2.2.2:=by
 refine ca h λi g=>?_
 (clear h; subst g)
 exact cG (by decide) i
theorem sr (h:dUn e=some q):e = .UnaryOp q.1 q.2.1 q.2.2:=by
 refine ca h λi g=>?_
 (clear h; subst g)
 exact cG (by decide) i
theorem xu (h:CV e=some q):e = .Compare q.1 q.2.1 q.2.2.1 q.2.2.2:=by
 refine ca h λi g=>?_
 (clear h; subst g)
 exact cG (by decide) i
theorem oH (h:tX e=some q):e = .BoolOp q.1 q.2.1 q.2.2:=by
 refine ca h λi g=>?_
 (clear h; subst g)
 exact cG (by decide) i
theorem w8 (h:Ar e=some q):e = .List q.1 q.2:=by
 refine ca h λi g=>?_
 (clear h; subst g)
 exact cG (by decide) i
theorem qM (h:uA e=some q):e = .Tuple q.1 q.2.1 q.2.2:=by
 refine ca h λi g=>?_
 (clear h; subst g)
 exact cG (by decide) i
theorem vF (h:zx e=some q):e = .Dict q.1 q.2.1 q.2.2:=by
 refine ca h λi g=>?_
 (clear h; subst g)
 exact cG (by decide) i
theorem Ch (h:dLC e=some q):e = .ListComp q.1 q.2.1 q.2.2.1 q.2.2.2:=by
 refine ca h λi g=>?_
 (clear h; subst g)
 exact cG (by decide) i
theorem fG (h:l0 e=some q):e = .Subscript q.1 q.2.1 q.2.2:=by
 refine ca h λi g=>?_
 (clear h; subst g)
 exact cG (by decide) i
theorem uq (h:wm e=some q):e = .Slice q.1 q.2.1 q.2.2.1 q.2.2.2:=by
 refine ca h λi g=>?_
 (clear h; subst g)
 exact cG (by decide) i
theorem dz (h:jw e=some q):e = .Call q.1 q.2.1 q.2.2.1 q.2.2.2:=by
 refine ca h λi g=>?_
 (clear h; subst g)
 exact cG (by decide) i
theorem fY (h:lg e=some q):e = .Attribute q.1 q.2.1 q.2.2:=by
 refine ca h λi g=>?_
 (clear h; subst g)
 exact cG (by decide) i
theorem y3 (h:CN c=some q):c = .int q:=by cases c<;>cases h; rfl
theorem qs (h:xi c=some q):c = .str q:=by cases c<;>cases h; rfl
theorem oP (h:ue c=some q):c = .bool q:=by cases c<;>cases h; rfl
theorem wG (h:Ax c=some q):c = .none:=by cases c<;>cases h; rfl
variable {α:Type}{l:List α}
theorem b6 (h:dH l=some q):l=[]:=by
 cases l with
 | nil=>rfl
 | cons=>exact nN h
theorem cT {q:α×List α}(h:fP l=some q):l=q.1::q.2:=by
 cases l with
 | nil=>exact nN h
 | cons=>(have oc:=Option.some.inj h; clear h; subst oc); rfl
theorem aW {q:α}(h:bL l=some q):l=[q]:=by
 cases l with
 | nil=>exact nN h
 | cons x l=>
  cases l with
  | nil=>(have oc:=Option.some.inj h; clear h; subst oc); rfl
  | cons=>exact nN h
theorem jP {q:α×α}(h:qy l=some q):l=[q.1,q.2]:=by
 cases l with
 | nil=>exact nN h
 | cons x l=>
  cases l with
  | nil=>exact nN h
  | cons y l=>
   cases l with
   | nil=>(have oc:=Option.some.inj h; clear h; subst oc); rfl
   | cons=>exact nN h
end
noncomputable def dFn (e:Expr):Option (Str×Pos×List Expr×Pos):=(jw e).bind λq=>(dH q.2.2.1).bind λuu=>(ce q.1).map λn=>(n.1,n.2,q.2.1,q.2.2.2)
theorem dK (h:dFn e=some q):e = .Call (.Name q.1 q.2.1) q.2.2.1 [] q.2.2.2:=by
 refine bk h λc j h=>?_
 refine bk h λu i h=>?_
 refine bl h λn g h=>?_
 subst h
 rw[dz j,b6 i,aY g]
noncomputable def uD (e:Expr):Option (Expr×Str×Pos×Expr×List Expr×Scope×Pos):=(dLC e).bind λq=>(bL q.2.1).bind λg=>(ce g.target).bind λn=>if g.is_async=0 then some (q.1,n.1,n.2,g.iter,g.ifs,q.2.2.1,q.2.2.2) else none
theorem o8 (h:uD e=some q):e = .ListComp q.1 [⟨.Name q.2.1 q.2.2.1,q.2.2.2.1,q.2.2.2.2.1,0⟩] q.2.2.2.2.2.1 q.2.2.2.2.2.2:=by
 refine bk h λc m h=>?_
 refine bk h λg l h=>?_
 obtain ⟨o,p,r,t⟩:=g
 refine bk h λn i h=>?_
 dsimp only at h i
 split at h
 ·rename_i k
  (have j:=Option.some.inj h; clear h; subst j)
  rw[Ch m,aW l,aY i,k]
 ·exact nN h
noncomputable def dSl (e:Expr):Option (Expr×Option Expr×Option Expr×Option Expr×Pos×Pos):=(l0 e).bind λq=>(wm q.2.1).map λs=>(q.1,s.1,s.2.1,s.2.2.1,s.2.2.2,q.2.2)
theorem sv (h:dSl e=some q):e = .Subscript q.1 (.Slice q.2.1 q.2.2.1 q.2.2.2.1 q.2.2.2.2.1) q.2.2.2.2.2:=by
 refine bk h λc i h=>?_
 refine bl h λn g h=>?_
 subst h
 rw[fG i,uq g]
noncomputable def CM:Expr->Option (Arguments×Expr×Scope×Pos)
 | .Lambda a b s p=>some (a,b,s,p)
 | _=>none
theorem yl (h:CM e=some q):e = .Lambda q.1 q.2.1 q.2.2.1 q.2.2.2:=by
 cases e<;>first | (cases h; rfl) | exact nN h
noncomputable def uN (ns:List (Str×NameKind)) (x:String) (ex:Expr):Bool:=ak (ce ex) λq=>q.1==Str.ofString x&&varK ns x&&aX x
noncomputable def yc (ns:List (Str×NameKind)) (x:String) (ex:Expr):Bool:=ak (dFn ex) λq=>ak (bL q.2.2.1) λy=>q.1==Str.ofString (b1n .len)&&bC ns (b1n .len)&&uN ns x y
noncomputable def CT (ns:List (Str×NameKind)) (x t:String) (ex:Expr):Bool:=ak (uA ex) λq=>decide (q.1.length<1000)&&ak (fP q.1) λy=>(ak (dUn y.1) λu=>decide (u.1 = .USub)&&ak (l0 u.2.1) λz=>uN ns x z.1&&uN ns t z.2.1)&&ak (fP y.2) λv=>uN ns t v.1&&(dH v.2).isSome
noncomputable def y1 (ns:List (Str×NameKind)) (x t:String) (a:Arguments) (sc:Scope):Bool :=
 a.posonlyargs.isEmpty&&decide (a.args.map (·.arg)=[Str.ofString t])&&a.vararg.isNone&&a.kwonlyargs.isEmpty&&a.kw_defaults.isEmpty&&a.kwarg.isNone&&a.defaults.isEmpty &&
 decide (sc.kind = .function) && !sc.isGenerator && !sc.isCoroutine&&decide (sc.names=[(Str.ofString t,.local),(Str.ofString x,.free)])&&decide (x≠t)&&decide (ns.lookup (Str.ofString x)=some .cell)
noncomputable def Dq (ns:List (Str×NameKind)) (x t:String) (ex:Expr):Bool:=ak (jw ex) λq=>ak (ce q.1) λf=>ak (bL q.2.1) λh=>ak (bL q.2.2.1) λg=>ak (dFn h) λr=>ak (bL r.2.2.1) λy=>ak (CM g.value) λl=>
 f.1==Str.ofString "sorted" && bC ns "sorted" && decide (g.arg=some (Str.ofString "key"))&&r.1==Str.ofString "range" && bC ns "range" && yc ns x y&&y1 ns x t l.1 l.2.2.1&&CT l.2.2.1.names x t l.2.1
noncomputable def mV:E->Bool
 | .name _=>true
 | .call _ _=>true
 | _=>false
mutual
noncomputable def okE (ns:List (Str×NameKind)):E->Expr->Bool
 | .name x,ex=>ak (ce ex) λq=>q.1==Str.ofString x&&varK ns x&&aX x
 | .int i,ex=>ak (ij ex) λq=>ak (CN q.1) λj=>i==j
 | .str s,ex=>ak (ij ex) λq=>ak (xi q.1) λt=>Str.ofString s==t&&decide (t.length<=2^22)
 | .bool b,ex=>ak (ij ex) λq=>ak (ue q.1) λc=>b==c
 | .none,ex=>ak (ij ex) λq=>(Ax q.1).isSome
 | .bin o a b,ex=>ak (Di ex) λq=>opB o q.2.1&&okE ns a q.1&&okE ns b q.2.2.1
 | .neg a,ex=>ak (dUn ex) λq=>decide (q.1 = .USub)&&okE ns a q.2.1
 | .not a,ex=>ak (dUn ex) λq=>decide (q.1 = .Not)&&okE ns a q.2.1
 | .cmp o a b,ex=>ak (CV ex) λq=>ak (bL q.2.1) λg=>ak (bL q.2.2.1) λr=>opC o g&&okE ns a q.1&&okE ns b r
 | .and a b,ex=>ak (tX ex) λq=>decide (q.1 = .And)&&ak (fP q.2.1) λv=>okE ns a v.1&&(match bL v.2 with | some u=>okE ns b u | none=>okA ns b v.2)
 | .or a b,ex=>ak (tX ex) λq=>decide (q.1 = .Or)&&ak (fP q.2.1) λv=>okE ns a v.1&&(match bL v.2 with | some u=>okE ns b u | none=>okO ns b v.2)
 | .list es,ex=>ak (Ar ex) λq=>decide (q.1.length<1000)&&dI ns es q.1
 | .tup es,ex=>ak (uA ex) λq=>decide (q.1.length<1000)&&dI ns es q.1
 | .edic,ex=>ak (zx ex) λq=>(dH q.1).isSome&&(dH q.2.1).isSome
 | .comp elt x it,ex=>ak (uD ex) λq=>ak (dH q.2.2.2.2.1) λuu=>q.2.1==Str.ofString x&&iH ns q.2.2.2.2.2.1 x&&eh ns it q.2.2.2.1&&okE (gi ns q.2.2.2.2.2.1.names) elt q.1
 | .compif elt x it c,ex=>ak (uD ex) λq=>ak (bL q.2.2.2.2.1) λf=>q.2.1==Str.ofString x&&iH ns q.2.2.2.2.2.1 x&&eh ns it q.2.2.2.1&&okE (gi ns q.2.2.2.2.2.1.names) c f&&okE (gi ns q.2.2.2.2.2.1.names) elt q.1
 | .sub a i,ex=>ak (l0 ex) λq=>okE ns a q.1&&okE ns i q.2.1
 | .slo a i,ex=>ak (dSl ex) λq=>ak q.2.1 λl=>q.2.2.1.isNone&&q.2.2.2.1.isNone&&(okE ns a q.1&&okE ns i l)
 | .shi a i,ex=>ak (dSl ex) λq=>ak q.2.2.1 λl=>q.2.1.isNone&&q.2.2.2.1.isNone&&(okE ns a q.1&&okE ns i l)
 | .attr a n,ex=>ak (lg ex) λq=>q.2.1==Str.ofString n&&decide (n∈fieldNames)&&mV a&&okE ns a q.1
 | .bi1 f a,ex=>ak (dFn ex) λq=>ak (bL q.2.2.1) λx=>q.1==Str.ofString (b1n f)&&bC ns (b1n f)&&okE ns a x
 | .bi2 f a b,ex=>ak (dFn ex) λq=>ak (qy q.2.2.1) λx=>q.1==Str.ofString (b2n f)&&bC ns (b2n f)&&okE ns a x.1&&okE ns b x.2
 | .listR n,ex=>ak (dFn ex) λq=>ak (bL q.2.2.1) λy=>ak (dFn y) λr=>ak (bL r.2.2.1) λx=>q.1==Str.ofString "list" && bC ns "list" && r.1==Str.ofString "range" && bC ns "range" && okE ns n x
 | .isi a t,ex=>ak (dFn ex) λq=>ak (qy q.2.2.1) λx=>ak (ce x.2) λc=>q.1==Str.ofString "isinstance" && bC ns "isinstance" && okE ns a x.1&&c.1==Str.ofString t&&bC ns t&&aX t
 | .call f es,ex=>ak (dFn ex) λq=>q.1==Str.ofString f&&bC ns f&&aX f && !decide (f∈methNames) && !decide (f∈aV) && !q.2.2.1.isEmpty&&decide (q.2.2.1.length<20)&&dI ns es q.2.2.1
 | .meth a m es,ex=>ak (jw ex) λq=>ak (dH q.2.2.1) λuu=>ak (lg q.1) λf=>f.2.1==Str.ofString m&&(f.2.2.endLine==q.2.2.2.line)&&decide (m∈methNames) && !q.2.1.isEmpty&&decide (q.2.1.length<20)&&mV a&&okE ns a f.1&&dI ns es q.2.1
 | .order x t,ex=>Dq ns x t ex
termination_by structural e=>e
noncomputable def okA (ns:List (Str×NameKind)):E->List Expr->Bool
 | .and a b,ex=>ak (fP ex) λv=>okE ns a v.1&&(match bL v.2 with | some u=>okE ns b u | none=>okA ns b v.2)
 | _,_=>false
termination_by structural e=>e
noncomputable def okO (ns:List (Str×NameKind)):E->List Expr->Bool
 | .or a b,ex=>ak (fP ex) λv=>okE ns a v.1&&(match bL v.2 with | some u=>okE ns b u | none=>okO ns b v.2)
 | _,_=>false
termination_by structural e=>e
noncomputable def dI (ns:List (Str×NameKind)):Es->List Expr->Bool
 | .nil,ex=>(dH ex).isSome
 | .cons e es,ex=>ak (fP ex) λq=>okE ns e q.1&&dI ns es q.2
termination_by structural e=>e
noncomputable def eh (ns:List (Str×NameKind)):It->Expr->Bool
 | .e a,x=>okE ns a x
 | .r1 n,ex=>ak (dFn ex) λq=>ak (bL q.2.2.1) λx=>q.1==Str.ofString "range" && bC ns "range" && okE ns n x
 | .r2 a b,ex=>ak (dFn ex) λq=>ak (qy q.2.2.1) λx=>q.1==Str.ofString "range" && bC ns "range" && okE ns a x.1&&okE ns b x.2
termination_by structural e=>e
end
section
variable {ns:List (Str×NameKind)}{ex:Expr}{a b c:E}
theorem vR (h:okE ns (.name x) ex=true):(∃ id p,ex = .Name id p/\(id==Str.ofString x&&varK ns x&&aX x)=true)\/False:=by
 refine aj h λq e h=>?_
 exact .inl (aC q.1 q.2 (aY e) h)
theorem Gv (h:okE ns (.int i) ex=true):(∃ j k p,ex = .Constant (.int j) k p/\(i==j)=true)\/False:=by
 refine aj h λq e h=>?_
 refine aj h λj g h=>?_
 exact .inl (cz j q.2.1 q.2.2 (by rw[dQ e,y3 g]) h)
theorem Jw (h:okE ns (.str s) ex=true):(∃ t k p,ex = .Constant (.str t) k p/\(Str.ofString s==t&&decide (t.length<=2^22))=true)\/False:=by
 refine aj h λq e h=>?_
 refine aj h λj g h=>?_
 exact .inl (cz j q.2.1 q.2.2 (by rw[dQ e,qs g]) h)
theorem C4 (h:okE ns (.bool s) ex=true):(∃ t k p,ex = .Constant (.bool t) k p/\(s==t)=true)\/False:=by
 refine aj h λq e h=>?_
 refine aj h λj g h=>?_
 exact .inl (cz j q.2.1 q.2.2 (by rw[dQ e,oP g]) h)
theorem DA (h:okE ns .none ex=true):(∃ k p,ex = .Constant .none k p/\True)\/False:=by
 refine aj h λq e h=>?_
 refine bP h λj g=>?_
 exact .inl (aC q.2.1 q.2.2 (by rw[dQ e,wG g]) trivial)
theorem F4 (h:okE ns (.bin o a b) ex=true):(∃ l op r p,ex = .BinOp l op r p/\(opB o op&&okE ns a l&&okE ns b r)=true)\/False:=by
 refine aj h λq e h=>?_
 exact .inl (e9 _ _ _ _ (yS e) h)
theorem AJ (h:okE ns (.neg a) ex=true):(∃ x p,ex = .UnaryOp .USub x p/\okE ns a x=true)\/False:=by
 refine aj h λq e h=>?_
 refine cR h λi g=>?_
 exact .inl (aC _ _ (by rw[sr e,of_decide_eq_true i]) g)
theorem Fr (h:okE ns (.not a) ex=true):(∃ x p,ex = .UnaryOp .Not x p/\okE ns a x=true)\/False:=by
 refine aj h λq e h=>?_
 refine cR h λi g=>?_
 exact .inl (aC _ _ (by rw[sr e,of_decide_eq_true i]) g)
theorem IM (h:okE ns (.cmp o a b) ex=true):(∃ l op r p,ex = .Compare l [op] [r] p/\(opC o op&&okE ns a l&&okE ns b r)=true)\/False:=by
 refine aj h λq e h=>?_
 refine aj h λop i h=>?_
 refine aj h λr g h=>?_
 exact .inl (e9 _ op r _ (by rw[xu e,aW i,aW g]) h)
noncomputable def okA' (ns:List (Str×NameKind)) (b:E) (vs:List Expr):Bool:=match bL vs with | some u=>okE ns b u | none=>okA ns b vs
noncomputable def okO' (ns:List (Str×NameKind)) (b:E) (vs:List Expr):Bool:=match bL vs with | some u=>okE ns b u | none=>okO ns b vs
theorem Fj (h:okE ns (.and a b) ex=true):(∃ v vs p,ex = .BoolOp .And (v::vs) p/\(okE ns a v&&okA' ns b vs)=true)\/False:=by
 refine aj h λq e h=>?_
 refine cR h λi g=>?_
 refine aj g λv j h=>?_
 exact .inl (cz _ _ _ (by rw[oH e,of_decide_eq_true i,cT j]) h)
theorem KI (h:okE ns (.or a b) ex=true):(∃ v vs p,ex = .BoolOp .Or (v::vs) p/\(okE ns a v&&okO' ns b vs)=true)\/False:=by
 refine aj h λq e h=>?_
 refine cR h λi g=>?_
 refine aj g λv j h=>?_
 exact .inl (cz _ _ _ (by rw[oH e,of_decide_eq_true i,cT j]) h)
theorem i_A (h:okA ns (.and a b) xs=true):(∃ v vs,xs=v::vs/\(okE ns a v&&okA' ns b vs)=true)\/False:=by
 refine aj h λq e h=>?_
 exact .inl (aC _ _ (cT e) h)
theorem i_O (h:okO ns (.or a b) xs=true):(∃ v vs,xs=v::vs/\(okE ns a v&&okO' ns b vs)=true)\/False:=by
 refine aj h λq e h=>?_
 exact .inl (aC _ _ (cT e) h)
theorem Dk (h:okE ns (.list es) ex=true):(∃ xs p,ex = .List xs p/\(decide (xs.length<1000)&&dI ns es xs)=true)\/False:=by
 refine aj h λq e h=>?_
 exact .inl (aC _ _ (w8 e) h)
theorem E7 (h:okE ns (.tup es) ex=true):(∃ xs k p,ex = .Tuple xs k p/\(decide (xs.length<1000)&&dI ns es xs)=true)\/False:=by
 refine aj h λq e h=>?_
 exact .inl (cz _ _ _ (qM e) h)
theorem Dd (h:okE ns .edic ex=true):(∃ p,ex = .Dict [] [] p/\True)\/False:=by
 refine aj h λq e h=>?_
 refine cR h λi g=>?_
 refine bP i λuu k=>?_
 refine bP g λuu j=>?_
 exact .inl (af _ (by rw[vF e,b6 k,b6 j]) trivial)
theorem xc (h:okE ns (.comp a x it) ex=true):(∃ e t pt i sc p,ex = .ListComp e [⟨.Name t pt,i,[],0⟩] sc p/\(t==Str.ofString x&&iH ns sc x&&eh ns it i&&okE (gi ns sc.names) a e)=true)\/False:=by
 refine aj h λq e h=>?_
 refine aj h λuu g h=>?_
 exact .inl (zP _ _ _ _ _ _ (by rw[o8 e,b6 g]) h)
theorem qr (h:okE ns (.compif a x it c) ex=true):(∃ e t pt i f sc p,ex = .ListComp e [⟨.Name t pt,i,[f],0⟩] sc p/\(t==Str.ofString x&&iH ns sc x&&eh ns it i&&okE (gi ns sc.names) c f&&okE (gi ns sc.names) a e)=true)\/False:=by
 refine aj h λq e h=>?_
 refine aj h λuu g h=>?_
 exact .inl (l9 _ _ _ _ _ _ _ (by rw[o8 e,aW g]) h)
theorem Jh (h:okE ns (.sub a b) ex=true):(∃ v s p,ex = .Subscript v s p/\(okE ns a v&&okE ns b s)=true)\/False:=by
 refine aj h λq e h=>?_
 exact .inl (cz _ _ _ (fG e) h)
theorem gq (h:o.isNone=true):o=none:=by cases o with | none=>rfl | some=>exact nF h
theorem Ih (h:okE ns (.slo a b) ex=true):(∃ v l p pos,ex = .Subscript v (.Slice (some l) none none p) pos/\(okE ns a v&&okE ns b l)=true)\/False:=by
 refine aj h λq e h=>?_
 refine aj h λl m h=>?_
 refine cR h λk j=>?_
 refine cR k λi g=>?_
 exact .inl (e9 _ l _ _ (by rw[sv e,m,gq i,gq g]) j)
theorem HY (h:okE ns (.shi a b) ex=true):(∃ v l p pos,ex = .Subscript v (.Slice none (some l) none p) pos/\(okE ns a v&&okE ns b l)=true)\/False:=by
 refine aj h λq e h=>?_
 refine aj h λl m h=>?_
 refine cR h λk j=>?_
 refine cR k λi g=>?_
 exact .inl (e9 _ l _ _ (by rw[sv e,m,gq i,gq g]) j)
theorem Az (h:okE ns (.bi1 f a) ex=true):(∃ id p x pos,ex = .Call (.Name id p) [x] [] pos/\(id==Str.ofString (b1n f)&&bC ns (b1n f)&&okE ns a x)=true)\/False:=by
 refine aj h λq e h=>?_
 refine aj h λx g h=>?_
 exact .inl (e9 _ _ x _ (by rw[dK e,aW g]) h)
theorem HU (h:okE ns (.bi2 f a b) ex=true):(∃ id p x y pos,ex = .Call (.Name id p) [x,y] [] pos/\(id==Str.ofString (b2n f)&&bC ns (b2n f)&&okE ns a x&&okE ns b y)=true)\/False:=by
 refine aj h λq e h=>?_
 refine aj h λx g h=>?_
 exact .inl (mQ _ _ x.1 x.2 _ (by rw[dK e,jP g]) h)
theorem BN (h:okE ns (.listR a) ex=true):(∃ id p jd p2 x p3 pos,ex = .Call (.Name id p) [.Call (.Name jd p2) [x] [] p3] [] pos/\(id==Str.ofString "list" && bC ns "list" && jd==Str.ofString "range" && bC ns "range" && okE ns a x)=true)\/False:=by
 refine aj h λq e h=>?_
 refine aj h λy j h=>?_
 refine aj h λr i h=>?_
 refine aj h λx g h=>?_
 exact .inl (l9 _ _ _ _ x _ _ (by rw[dK e,aW j,dK i,aW g]) h)
theorem JC (h:okE ns (.isi a t) ex=true):(∃ id p x c pc pos,ex = .Call (.Name id p) [x,.Name c pc] [] pos/\(id==Str.ofString "isinstance" && bC ns "isinstance" && okE ns a x&&c==Str.ofString t&&bC ns t&&aX t)=true)\/False:=by
 refine aj h λq e h=>?_
 refine aj h λx i h=>?_
 refine aj h λc g h=>?_
 exact .inl (zP _ _ x.1 c.1 c.2 _ (by rw[dK e,jP i,aY g]) h)
theorem wh (h:okE ns (.call f es) ex=true):(∃ id p xs pos,ex = .Call (.Name id p) xs [] pos/\(id==Str.ofString f&&bC ns f&&aX f && !decide (f∈methNames) && !decide (f∈aV) && !xs.isEmpty&&decide (xs.length<20)&&dI ns es xs)=true)\/False:=by
 refine aj h λq e h=>?_
 exact .inl (e9 _ _ _ _ (dK e) h)
theorem CX (h:okE ns (.attr a n) ex=true):(∃ v p,ex = .Attribute v (Str.ofString n) p/\n∈fieldNames/\mV a=true/\okE ns a v=true)\/False:=by
 refine aj h λq e h=>?_
 simp only[and_eq_true,beq_iff_eq,decide_eq_true_eq] at h
 exact .inl (bF q.1 q.2.2 (by rw[fY e,h.1.1.1]) h.1.1.2 h.1.2 h.2)
theorem Dv (h:okE ns (.meth a m es) ex=true):(∃ v p xs pos,ex = .Call (.Attribute v (Str.ofString m) p) xs [] pos/\(p.endLine==pos.line)=true/\m∈methNames/\xs.isEmpty=false/\xs.length<20/\mV a=true/\okE ns a v=true/\dI ns es xs=true)\/False:=by
 refine aj h λq e h=>?_
 refine aj h λuu e1 h=>?_
 refine aj h λf e2 h=>?_
 simp only[and_eq_true,beq_iff_eq,decide_eq_true_eq,Bool.not_eq_true'] at h
 refine aa (h) λn o=>?_
 clear h
 refine aa (n) λl r=>?_
 clear n
 refine aa (l) λk t=>?_
 clear l
 refine aa (k) λj u=>?_
 clear k
 refine aa (j) λi x=>?_
 clear j
 refine aa (i) λg y=>?_
 clear i
 refine aa (g) λh1 z=>?_
 clear g
 exact .inl (qc f.1 f.2.2 q.2.1 q.2.2.2 (by rw[dz e,b6 e1,fY e2,h1]) (beq_iff_eq.mpr z) y x u t r o)
noncomputable def mI (x t:String):E:=.tup (.cons (.neg (.sub (.name x) (.name t))) (.cons (.name t) .nil))
theorem Bc (h:okE ns (.order x t) ex=true):(∃ id p jd p2 y p3 ar body sc p4 p5 pos,ex = .Call (.Name id p) [.Call (.Name jd p2) [y] [] p3] [⟨some (Str.ofString "key"),.Lambda ar body sc p4,p5⟩] pos /\
  (id==Str.ofString "sorted" && bC ns "sorted" && jd==Str.ofString "range" && bC ns "range" && yc ns x y&&y1 ns x t ar sc&&CT sc.names x t body)=true)\/False:=by
 refine aj (show Dq ns x t ex=true from h) λq e h=>?_
 refine aj h λf e1 h=>?_
 refine aj h λrg e2 h=>?_
 refine aj h λo e3 h=>?_
 obtain ⟨ka,kv,z⟩:=o
 refine aj h λr e4 h=>?_
 refine aj h λy e5 h=>?_
 refine aj h λl v h=>?_
 simp only[and_eq_true,decide_eq_true_eq,beq_iff_eq] at h
 refine aa (h) λn h8=>?_
 clear h
 refine aa (n) λm h7=>?_
 clear n
 refine aa (m) λk h6=>?_
 clear m
 refine aa (k) λj h5=>?_
 clear k
 refine aa (j) λi h4=>?_
 clear j
 refine aa (i) λg u=>?_
 clear i
 refine aa (g) λh1 h2=>?_
 clear g
 dsimp only at u v
 refine .inl ⟨f.1,f.2,r.1,r.2.1,y,r.2.2.2,l.1,l.2.1,l.2.2.1,l.2.2.2,z,q.2.2.2,?_,?_⟩
 ·rw[dz e,aY e1,aW e2,aW e3,dK e4,aW e5,yl v,u]
 ·simp only[and_eq_true,beq_iff_eq]
  exact ⟨⟨⟨⟨⟨⟨h1,h2⟩,h4⟩,h5⟩,h6⟩,h7⟩,h8⟩
theorem uF (h:dI ns .nil xs=true):(xs=[]/\True)\/False:=by
 refine bP (show (dH xs).isSome=true from h) λuu e=>?_
 exact .inl ⟨b6 e,trivial⟩
theorem qe (h:dI ns (.cons a es) xs=true):(∃ x ys,xs=x::ys/\(okE ns a x&&dI ns es ys)=true)\/False:=by
 refine aj h λq e h=>?_
 exact .inl (aC _ _ (cT e) h)
theorem Kr (h:eh ns (.r1 a) ex=true):(∃ id p x pos,ex = .Call (.Name id p) [x] [] pos/\(id==Str.ofString "range" && bC ns "range" && okE ns a x)=true)\/False:=by
 refine aj h λq e h=>?_
 refine aj h λx g h=>?_
 exact .inl (e9 _ _ x _ (by rw[dK e,aW g]) h)
theorem KB (h:eh ns (.r2 a b) ex=true):(∃ id p x y pos,ex = .Call (.Name id p) [x,y] [] pos/\(id==Str.ofString "range" && bC ns "range" && okE ns a x&&okE ns b y)=true)\/False:=by
 refine aj h λq e h=>?_
 refine aj h λx g h=>?_
 exact .inl (mQ _ _ x.1 x.2 _ (by rw[dK e,jP g]) h)
end
noncomputable def bnames:List String:=["len", "list", "tuple", "sorted", "max", "min", "sum", "range", "isinstance", "int", "bool", "str"]
noncomputable def bmV:List Value:=[.type "ValueError", .type "Exception", .type "BaseException", .type "object"]
noncomputable def bv (ns:List (Str×NameKind)) (x:String):Bool:=varK ns x&&aX x&&(ns.lookup (Str.ofString x)==some .local||ns.lookup (Str.ofString x)==some .cell)
structure Ps where
 tag:Nat:=0
 e1:Expr:=default
 e2:Expr:=default
 es:List Expr:=[]
 o1:Option Expr:=none
 o2:Option Expr:=none
 s1:List Stmt:=[]
 s2:List Stmt:=[]
 s3:List Stmt:=[]
 hs:List ExceptHandler:=[]
 pos:Pos:=default
noncomputable def ps:Stmt->Ps
 | .Assign x0 x1 x2=>{tag:=1,es:=x0,e1:=x1,pos:=x2 }
 | .Expr x0 x1=>{tag:=2,e1:=x0,pos:=x1 }
 | .Return x0 x1=>{tag:=3,o1:=x0,pos:=x1 }
 | .If x0 x1 x2 x3=>{tag:=4,e1:=x0,s1:=x1,s2:=x2,pos:=x3 }
 | .For x0 x1 x2 x3 x4=>{tag:=5,e1:=x0,e2:=x1,s1:=x2,s2:=x3,pos:=x4 }
 | .While x0 x1 x2 x3=>{tag:=6,e1:=x0,s1:=x1,s2:=x2,pos:=x3 }
 | .Raise x0 x1 x2=>{tag:=7,o1:=x0,o2:=x1,pos:=x2 }
 | .Try x0 x1 x2 x3 x4=>{tag:=8,s1:=x0,hs:=x1,s2:=x2,s3:=x3,pos:=x4 }
 | _=>{}
noncomputable def psB (n:Nat) (p:Ps):Stmt:=match n with
 | 1=>.Assign p.es p.e1 p.pos
 | 2=>.Expr p.e1 p.pos
 | 3=>.Return p.o1 p.pos
 | 4=>.If p.e1 p.s1 p.s2 p.pos
 | 5=>.For p.e1 p.e2 p.s1 p.s2 p.pos
 | 6=>.While p.e1 p.s1 p.s2 p.pos
 | 7=>.Raise p.o1 p.o2 p.pos
 | 8=>.Try p.s1 p.hs p.s2 p.s3 p.pos
 | _=>default
theorem BT (e:Stmt):(ps e).tag=0\/psB (ps e).tag (ps e)=e:=by cases e<;>first | exact .inr rfl | exact .inl rfl
theorem hU (hn:n≠0) (h:(ps e).tag=n):e=psB n (ps e):=by
 rcases BT e with q | q
 ·exact absurd (h.symm.trans q) hn
 ·rw[h] at q; exact q.symm
noncomputable def jU:List α->Option (α×List α)
 | []=>none
 | a::l=>some (a,l)
theorem eM {α:Type}{l:List α}{q:α×List α}(h:jU l=some q):l=q.1::q.2:=by
 cases l with
 | nil=>exact nN h
 | cons a l=>exact Option.some.inj h▸rfl
noncomputable def yA (s:Stmt):Option Expr:=if (ps s).tag=7/\(ps s).o2.isNone=true then (ps s).o1 else none
theorem yq (h:yA s=some e):∃ p,s = .Raise (some e) none p:=by
 unfold yA at h
 by_cases c:(ps s).tag=7/\(ps s).o2.isNone=true
 ·rw[if_pos c] at h
  refine ⟨(ps s).pos,(hU (by decide) c.1).trans ?_⟩
  show Stmt.Raise _ _ _=_
  rw[h,isNone_iff_eq_none.mp c.2]
 ·rw[if_neg c] at h; exact nN h
noncomputable def xj (s:Stmt):Option (Stmt×ExceptHandler×List ExceptHandler):=if (ps s).tag=8/\(ps s).s2.isEmpty=true/\(ps s).s3.isEmpty=true then (jU (ps s).s1).bind λb=>if b.2.isEmpty=true then (jU (ps s).hs).map λq=>(b.1,q.1,q.2) else none else none
theorem yj (h:xj s=some q):∃ p,s = .Try [q.1] (q.2.1::q.2.2) [] [] p:=by
 unfold xj at h
 by_cases c:(ps s).tag=8/\(ps s).s2.isEmpty=true/\(ps s).s3.isEmpty=true
 ·rw[if_pos c] at h
  obtain ⟨b,i,h⟩:=bind_eq_some_iff.mp h
  by_cases d:b.2.isEmpty=true
  ·rw[if_pos d] at h
   obtain ⟨r,g,e⟩:=map_eq_some_iff.mp h
   refine ⟨(ps s).pos,(hU (by decide) c.1).trans ?_⟩
   show Stmt.Try _ _ _ _ _=_
   rw[eM i,eM g,isEmpty_iff.mp d,isEmpty_iff.mp c.2.1,isEmpty_iff.mp c.2.2,<- e]
  ·rw[if_neg d] at h; exact nN h
 ·rw[if_neg c] at h; exact nN h
noncomputable def dH0:ExceptHandler->Option Expr×Option Str×List Stmt×Pos
 | .ExceptHandler a b c p=>(a,b,c,p)
noncomputable def yd (s:ExceptHandler):Option (Expr×Stmt×List Stmt):=if (dH0 s).2.1.isNone=true then (dH0 s).1.bind λt=>(jU (dH0 s).2.2.1).map λq=>(t,q.1,q.2) else none
theorem xJ (h:yd s=some q):∃ p,s = .ExceptHandler (some q.1) none (q.2.1::q.2.2) p:=by
 unfold yd at h
 by_cases c:(dH0 s).2.1.isNone=true
 ·rw[if_pos c] at h
  obtain ⟨t,i,h⟩:=bind_eq_some_iff.mp h
  obtain ⟨r,j,e⟩:=map_eq_some_iff.mp h
  have g:s = .ExceptHandler (dH0 s).1 (dH0 s).2.1 (dH0 s).2.2.1 (dH0 s).2.2.2:=by cases s; rfl
  refine ⟨(dH0 s).2.2.2,g.trans ?_⟩
  rw[i,eM j,isNone_iff_eq_none.mp c,<- e]
 ·rw[if_neg c] at h; exact nN h
noncomputable def nS (s:Stmt):Option (List Expr×Expr×Pos):=ifN (ps s).tag 1 ((ps s).es,(ps s).e1,(ps s).pos)
noncomputable def y5 (s:Stmt):Option (Expr×Pos):=ifN (ps s).tag 2 ((ps s).e1,(ps s).pos)
noncomputable def uG (s:Stmt):Option (Option Expr×Pos):=ifN (ps s).tag 3 ((ps s).o1,(ps s).pos)
noncomputable def sIf (s:Stmt):Option (Expr×List Stmt×List Stmt×Pos):=ifN (ps s).tag 4 ((ps s).e1,(ps s).s1,(ps s).s2,(ps s).pos)
noncomputable def xU (s:Stmt):Option (Expr×Expr×List Stmt×List Stmt×Pos):=ifN (ps s).tag 5 ((ps s).e1,(ps s).e2,(ps s).s1,(ps s).s2,(ps s).pos)
theorem lS (h:nS s=some q):s = .Assign q.1 q.2.1 q.2.2:=by
 refine ca h λi g=>?_
 (clear h; subst g)
 exact hU (by decide) i
theorem qG (h:y5 s=some q):s = .Expr q.1 q.2:=by
 refine ca h λi g=>?_
 (clear h; subst g)
 exact hU (by decide) i
theorem rI (h:uG s=some q):s = .Return q.1 q.2:=by
 refine ca h λi g=>?_
 (clear h; subst g)
 exact hU (by decide) i
theorem Cg (h:sIf s=some q):s = .If q.1 q.2.1 q.2.2.1 q.2.2.2:=by
 refine ca h λi g=>?_
 (clear h; subst g)
 exact hU (by decide) i
theorem qh (h:xU s=some q):s = .For q.1 q.2.1 q.2.2.1 q.2.2.2.1 q.2.2.2.2:=by
 refine ca h λi g=>?_
 (clear h; subst g)
 exact hU (by decide) i
noncomputable def xH (s:Stmt):Option (Expr×Str×Pos×List Expr×Pos×Pos):=(y5 s).bind λq=>(jw q.1).bind λc=>(dH c.2.2.1).bind λuu=>(lg c.1).map λa=>(a.1,a.2.1,a.2.2,c.2.1,c.2.2.2,q.2)
theorem rM (h:xH s=some q):s = .Expr (.Call (.Attribute q.1 q.2.1 q.2.2.1) q.2.2.2.1 [] q.2.2.2.2.1) q.2.2.2.2.2:=by
 refine bk h λc k h=>?_
 refine bk h λu j h=>?_
 refine bk h λuu i h=>?_
 refine bl h λn g h=>?_
 subst h
 rw[qG k,dz j,b6 i,fY g]
noncomputable def mr (ns:List (Str×NameKind)) (x:String) (ex:Expr):Bool:=ak (lg ex) λq=>ak (ce q.1) λn=>q.2.1==Str.ofString "full" && (n.1==Str.ofString x&&bv ns x)
noncomputable def t8 (ns:List (Str×NameKind)) (x:String):Es->Expr->Bool
 | .nil,ex=>mr ns x ex
 | .cons i r,ex=>ak (l0 ex) λq=>t8 ns x r q.1&&okE ns i q.2.1
theorem ur {ex:Expr}(h:mr ns x ex=true):∃ p pa,ex = .Attribute (.Name (Str.ofString x) p) (Str.ofString "full") pa/\bv ns x=true:=by
 refine aj h λq i h=>?_
 refine aj h λn g h=>?_
 simp only[and_eq_true,beq_iff_eq] at h
 exact ⟨n.2,q.2.2,by rw[fY i,aY g,h.1,h.2.1],h.2.2⟩
noncomputable def Kf (ns:List (Str×NameKind)):H1->Stmt->Bool
 | .asg x e,st=>ak (nS st) λq=>ak (bL q.1) λt=>ak (ce t) λn=>n.1==Str.ofString x&&bv ns x&&okE ns e q.2.1
 | .ret e,st=>ak (uG st) λq=>ak q.1 λv=>okE ns e v
noncomputable def xP (ns:List (Str×NameKind)):List H1->List Stmt->Bool
 | [],st=>(dH st).isSome
 | s::r,st=>ak (fP st) λq=>Kf ns s q.1&&xP ns r q.2
noncomputable def Ke (ns:List (Str×NameKind)) (p:String×List H1) (h:ExceptHandler):Bool:=ak (yd h) λq=>ak (ce q.1) λn=>n.1==Str.ofString p.1&&bC ns p.1&&aX p.1&&xP ns p.2 (q.2.1::q.2.2)
noncomputable def tR (ns:List (Str×NameKind)):List (String×List H1)->List ExceptHandler->Bool
 | [],[]=>true
 | p::r,h::hs=>Ke ns p h&&tR ns r hs
 | _,_=>false
mutual
noncomputable def okS (ns:List (Str×NameKind)):S->Stmt->Bool
 | .assign x e,st=>ak (nS st) λq=>ak (bL q.1) λt=>ak (ce t) λn=>n.1==Str.ofString x&&bv ns x&&okE ns e q.2.1
 | .setitem x e,st=>ak (nS st) λq=>ak (bL q.1) λt=>ak (l0 t) λu=>ak (ce u.1) λn=>ak (ij q.2.1) λc=>ak (ue c.1) λb=>b&&(n.1==Str.ofString x&&bv ns x&&okE ns e u.2.1)
 | .append x e,st=>ak (xH st) λq=>ak (ce q.1) λn=>ak (bL q.2.2.2.1) λv=>q.2.1==Str.ofString "append" && (q.2.2.1.endLine==q.2.2.2.2.1.line)&&n.1==Str.ofString x&&bv ns x&&okE ns e v
 | .appF x is e,st=>ak (xH st) λq=>ak (l0 q.1) λuu=>ak (bL q.2.2.2.1) λv=>q.2.1==Str.ofString "append" && (q.2.2.1.endLine==q.2.2.2.2.1.line)&&t8 ns x is q.1&&okE ns e v
 | .expr e,st=>ak (y5 st) λq=>(jw q.1).isSome&&okE ns e q.1
 | .ret e,st=>ak (uG st) λq=>ak q.1 λv=>okE ns e v
 | .retn x,st=>ak (uG st) λq=>ak q.1 λv=>ak (ce v) λn=>n.1==Str.ofString x&&bv ns x
 | .ite c a b,st=>ak (sIf st) λq=>okE ns c q.1&&cu ns a q.2.1&&cu ns b q.2.2.1
 | .for1 x it b,st=>ak (xU st) λq=>ak (dH q.2.2.2.1) λuu=>ak (ce q.1) λn=>n.1==Str.ofString x&&bv ns x&&eh ns it q.2.1&&cu ns b q.2.2.1
 | .for2 x y it b,st=>ak (xU st) λq=>ak (dH q.2.2.2.1) λuu=>ak (uA q.1) λt=>ak (qy t.1) λe=>ak (ce e.1) λn=>ak (ce e.2) λm=>n.1==Str.ofString x&&m.1==Str.ofString y&&bv ns x&&bv ns y&&eh ns it q.2.1&&cu ns b q.2.2.1
 | .raise c,st=>ak (yA st) λq=>ak (jw q) λa=>ak (dH a.2.2.1) λuu=>ak (ce a.1) λn=>ak (bL a.2.1) λm=>ak (ij m) λk=>ak (xi k.1) λt=>n.1==Str.ofString c&&bC ns c&&aX c&&decide (t.length<=1000)
 | .tryS b hs,st=>ak (xj st) λq=>okS ns b q.1&&tR ns hs (q.2.1::q.2.2)
 | .bad,_=>false
termination_by structural s=>s
noncomputable def cu (ns:List (Str×NameKind)):Ss->List Stmt->Bool
 | .nil,st=>(dH st).isSome
 | .cons s r,st=>ak (fP st) λq=>okS ns s q.1&&cu ns r q.2
termination_by structural s=>s
end
section
variable {ns:List (Str×NameKind)}{st:Stmt}{x:String}{e i c:E}{a b:Ss}
theorem ko (h:okS ns (.assign x e) st=true):(∃ t pt v p,st = .Assign [.Name t pt] v p/\(t==Str.ofString x&&bv ns x&&okE ns e v)=true)\/False:=by
 refine aj h λq j h=>?_
 refine aj h λt i h=>?_
 refine aj h λn g h=>?_
 exact .inl (e9 _ _ _ _ (by rw[lS j,aW i,aY g]) h)
theorem uK (h:okS ns (.setitem x e) st=true):(∃ t pt i p1 k p2 p,st = .Assign [.Subscript (.Name t pt) i p1] (.Constant (.bool true) k p2) p/\(t==Str.ofString x&&bv ns x&&okE ns e i)=true)\/False:=by
 refine aj h λq v h=>?_
 refine aj h λt r h=>?_
 refine aj h λu o h=>?_
 refine aj h λn m h=>?_
 refine aj h λc l h=>?_
 refine aj h λb j h=>?_
 refine cR h λg h=>?_
 subst g
 exact .inl (l9 _ _ _ _ _ _ _ (by rw[lS v,aW r,fG o,aY m,dQ l,oP j]) h)
theorem vY (h:okS ns (.append x e) st=true):(∃ t pt m ap v pos sp,st = .Expr (.Call (.Attribute (.Name t pt) m ap) [v] [] pos) sp/\(m==Str.ofString "append" && (ap.endLine==pos.line)&&t==Str.ofString x&&bv ns x&&okE ns e v)=true)\/False:=by
 refine aj h λq j h=>?_
 refine aj h λn i h=>?_
 refine aj h λv g h=>?_
 exact .inl (l9 _ _ _ _ v _ _ (by rw[rM j,aY i,aW g]) h)
theorem A3 (h:okS ns (.appF x is e) st=true):(∃ y i p m ap v pos sp,st = .Expr (.Call (.Attribute (.Subscript y i p) m ap) [v] [] pos) sp/\(m==Str.ofString "append" && (ap.endLine==pos.line)&&t8 ns x is (.Subscript y i p)&&okE ns e v)=true)\/False:=by
 refine aj h λq k h=>?_
 refine aj h λn g h=>?_
 refine aj h λv j h=>?_
 rw[fG g] at h
 exact .inl (Ds _ _ _ _ _ v _ _ (by rw[rM k,fG g,aW j]) h)
theorem n9 (h:okS ns (.expr e) st=true):(∃ f xs ks p sp,st = .Expr (.Call f xs ks p) sp/\okE ns e (.Call f xs ks p)=true)\/False:=by
 refine aj h λq k h=>?_
 refine cR h λj g=>?_
 refine bP j λc i=>?_
 rw[dz i] at g
 exact .inl (mQ _ _ _ _ _ (by rw[qG k,dz i]) g)
theorem wW (h:okS ns (.ret e) st=true):(∃ v p,st = .Return (some v) p/\okE ns e v=true)\/False:=by
 refine aj h λq i h=>?_
 refine aj h λv g h=>?_
 exact .inl (aC v _ (by rw[rI i,g]) h)
theorem Bl (h:okS ns (.retn x) st=true):(∃ t pt p,st = .Return (some (.Name t pt)) p/\(t==Str.ofString x&&bv ns x)=true)\/False:=by
 refine aj h λq j h=>?_
 refine aj h λv i h=>?_
 refine aj h λn g h=>?_
 exact .inl (cz _ _ _ (by rw[rI j,i,aY g]) h)
theorem vS (h:okS ns (.ite c a b) st=true):(∃ t u v p,st = .If t u v p/\(okE ns c t&&cu ns a u&&cu ns b v)=true)\/False:=by
 refine aj h λq g h=>?_
 exact .inl (e9 _ _ _ _ (Cg g) h)
theorem sO (h:okS ns (.for1 x it b) st=true):(∃ t pt i u p,st = .For (.Name t pt) i u [] p/\(t==Str.ofString x&&bv ns x&&eh ns it i&&cu ns b u)=true)\/False:=by
 refine aj h λq k h=>?_
 refine aj h λuu j h=>?_
 refine aj h λn g h=>?_
 exact .inl (mQ _ _ _ _ _ (by rw[qh k,b6 j,aY g]) h)
theorem tr (h:okS ns (.for2 x y it b) st=true):∃ px py kk tp i u p,st = .For (.Tuple [.Name (Str.ofString x) px,.Name (Str.ofString y) py] kk tp) i u [] p/\bv ns x=true/\bv ns y=true/\eh ns it i=true/\cu ns b u=true:=by
 obtain ⟨q,e,h⟩:=cJ h
 obtain ⟨uu,e1,h⟩:=cJ h
 obtain ⟨t,e2,h⟩:=cJ h
 obtain ⟨r,e3,h⟩:=cJ h
 obtain ⟨n,e4,h⟩:=cJ h
 obtain ⟨m,z,h⟩:=cJ h
 simp only[and_eq_true,beq_iff_eq] at h
 obtain ⟨⟨⟨⟨⟨v,o⟩,l⟩,k⟩,j⟩,g⟩:=h
 exact ⟨n.2,m.2,t.2.1,t.2.2,q.2.1,q.2.2.1,q.2.2.2.2,by rw[qh e,b6 e1,qM e2,jP e3,aY e4,aY z,v,o],l,k,j,g⟩
theorem yM {c:String}(h:okS ns (.raise c) st=true):(∃ n p t k p2 cp pos,st = .Raise (some (.Call (.Name n p) [.Constant (.str t) k p2] [] cp)) none pos/\(n==Str.ofString c&&bC ns c&&aX c&&decide (t.length<=1000))=true)\/False:=by
 refine aj h λq u h=>?_
 refine aj h λa r h=>?_
 refine aj h λuu o h=>?_
 refine aj h λn l h=>?_
 refine aj h λm j h=>?_
 refine aj h λk i h=>?_
 refine aj h λt g h=>?_
 refine ai (yq u) λp v=>?_
 exact .inl (l9 n.1 n.2 t k.2.1 k.2.2 a.2.2.2 p (by rw[v,dz r,b6 o,aY l,aW j,dQ i,qs g]) h)
theorem CW {b:S}{hs:List (String×List H1)}(h:okS ns (.tryS b hs) st=true):∃ t d ds p,st = .Try [t] (d::ds) [] [] p/\okS ns b t=true/\tR ns hs (d::ds)=true:=by
 refine aj h λq i h=>?_
 refine ai (yj i) λp e=>?_
 have g:=and_eq_true_iff.mp h
 exact (e9 _ _ _ p e g)
theorem Cz (h:cu ns .nil l=true):(l=[]/\True)\/False:=by
 refine bP (show (dH l).isSome=true from h) λuu e=>?_
 exact .inl ⟨b6 e,trivial⟩
theorem sQ (h:cu ns (.cons s a) l=true):(∃ t u,l=t::u/\(okS ns s t&&cu ns a u)=true)\/False:=by
 refine aj h λq g h=>?_
 exact .inl (aC _ _ (cT g) h)
end
structure FnT where
 params:List String
 body:List Stmt
 scope:Scope
 lam:Bool
noncomputable def okF (ft:FnT) (f:Fn):Bool:=decide (ft.params=f.params)&&f.params.all (bv ft.scope.names)&&decide f.params.Nodup&&cu ft.scope.names f.body ft.body&&ft.scope.names.all λp=>p.2 != .free
noncomputable def fC (ns:List (Str×NameKind)) (n:String) (e:E) (st:Stmt):Bool:=ak (nS st) λq=>ak (bL q.1) λt=>ak (lg t) λu=>ak (ce u.1) λm=>m.1==Str.ofString "self" && u.2.1==Str.ofString n&&okE ns e q.2.1
theorem lX {ns:List (Str×NameKind)}{n:String}{e:E}{st:Stmt}(h:fC ns n e st=true):∃ p1 p2 v p,st = .Assign [.Attribute (.Name (Str.ofString "self") p1) (Str.ofString n) p2] v p/\okE ns e v=true:=by
 refine aj h λq k h=>?_
 refine aj h λt j h=>?_
 refine aj h λu i h=>?_
 refine aj h λm g h=>?_
 simp only[and_eq_true,beq_iff_eq] at h
 refine (e9 m.2 u.2.2 q.2.1 q.2.2 ?_ h.2)
 rw[lS k,aW j,fY i,aY g,h.1.1,h.1.2]
noncomputable def fj:E:=.bi1 .len (.sub (.name "full") (.int 0))
noncomputable def ok3 (ns:List (Str×NameKind)) (l:List Stmt):Bool:=ak (jU l) λp=>ak (jU p.2) λq=>ak (jU q.2) λr=>r.2.isEmpty&&(fC ns "count" (.name "count") p.1&&(fC ns "full" (.name "full") q.1&&fC ns "size" fj r.1))
theorem By (h:ok3 ns l=true):∃ a b c,l=[a,b,c]/\fC ns "count" (.name "count") a=true/\fC ns "full" (.name "full") b=true/\fC ns "size" fj c=true:=by
 obtain ⟨p,m,h⟩:=cJ h
 obtain ⟨q,k,h⟩:=cJ h
 obtain ⟨r,j,h⟩:=cJ h
 have e:=bA h
 have i:=bA e.2
 have g:=bA i.2
 refine (iu p.1 q.1 r.1 ?_ i.1 g.1 g.2)
 rw[eM m,eM k,eM j,isEmpty_iff.mp e.1]
noncomputable def okI (ft:FnT) (f:Fn):Bool:=decide (ft.params = "self" :: f.params)&&ft.params.all (bv ft.scope.names)&&decide ft.params.Nodup&&cu ft.scope.names f.body (ft.body.take (ft.body.length-3))&&ok3 ft.scope.names (ft.body.drop (ft.body.length-3))&&decide ("self" ∉ hY f.body)&&(ft.scope.names.all λp=>p.2 != .free) && !ft.lam
structure Soft where
 tab:Addr->Prop
 old:Addr->Prop
 rule:Addr
 exc:String->Addr
 excN:List String
structure Gl where
 prog:Program
 w:World
 SF:Soft
noncomputable def lH (h:Heap) (c:String):Addr:=match h.clsAt mainGlobals (Str.ofString c) with
 | some x=>x.1
 | none=>0
noncomputable def CE (h:Heap) (c:String):Option (List Value):=(h.clsAt mainGlobals (Str.ofString c)).map λx=>x.2.2.mro
noncomputable def IF (h:Heap) (c:String):List Value:=if c = "PickError" then bmV else .ref (lH h "PickError")::bmV
noncomputable def re (cs:List String) (h:Heap):Bool:=h.isNs mainGlobals&&(cs.all λc=>CE h c==some (.ref (lH h c)::IF h c))&&(cs.all λc=>cs.all λg=>lH h c != lH h g||c==g) &&
 match h.clsAt mainGlobals "Rule" with
 | some x=>h.isNs x.2.2.ns&&fieldNames.all λn=>(h.nsMap x.2.2.ns (Str.ofString n)).isNone
 | none=>false
noncomputable def iF (cs:List String) (h:Heap):Prop:=∃ mg,h.Ns mainGlobals mg/\∃ ad:String->Addr,(∀ c∈cs,∃ o cd,mg (Str.ofString c)=some (.ref (ad c))/\h.get? (ad c)=some o/\o.data = .cls cd/\cd.mro = .ref (ad c)::(if c = "PickError" then bmV else .ref (ad "PickError")::bmV)) /\
 (∀ c∈cs,∀ c'∈cs,ad c=ad c'->c=c')/\∃ C o cd mN,mg "Rule" = some (.ref C)/\h.get? C=some o/\o.data = .cls cd/\h.Ns cd.ns mN/\∀ n∈fieldNames,mN (Str.ofString n)=none
set_option tactic.hygienic true in
theorem Bj (e:re cs h=true):iF cs h:=by
 unfold re at e
 simp only[and_eq_true,all_eq_true] at e
 refine aa (e) λi j=>?_
 clear e
 refine aa (i) λg y=>?_
 clear i
 refine aa (g) λh1 z=>?_
 clear g
 refine ⟨h.nsMap mainGlobals,.of_isNs h1,lH h,λc m=>?_,λc m c' l q=>?_,?_⟩
 ·have:=beq_iff_eq.mp (z c m)
  unfold CE at this
  refine bl this λx k v=>?_
  obtain ⟨C,o,u⟩:=x
  refine aG (Heap.clsAt_spec k) λt r p=>?_
  have ea:lH h c=C:=by unfold lH; rw[k]
  rw[ea] at v ⊢
  exact ⟨o,u,t,r,p,v⟩
 ·have:=y c m c' l
  simp only[or_eq_true,bne_iff_ne,beq_iff_eq] at this
  exact this.resolve_left λn=>n q
 ·split at j
  ·rename_i x k
   obtain ⟨C,o,u⟩:=x
   refine aG (Heap.clsAt_spec k) λt r p=>?_
   simp only[and_eq_true,all_eq_true,isNone_iff_eq_none] at j
   exact ⟨C,o,u,_,t,r,p,.of_isNs j.1,j.2⟩
  ·exact nF j
noncomputable def Ky (cs:List String):PySem.W.Hook:=⟨Bool,λs=>re cs s.heap,λuu=>true,λuu h=>iF cs h,λuu uu e=>Bj e,λuu h h' x k=>ae (x) λi m y=>am (y) λad a1 a2 z=>F1 (z) λC o g j b1 v u t r=>⟨i,m.keeps k,ad,λc l=>az (a1 c l) λo g q p n=>⟨o,g,q,k _ _ p,n⟩,a2,C,o,g,j,b1,k _ _ v,u,t.keeps k,r⟩⟩
noncomputable def gW (a:Arguments) (ps:List String):Bool:=a.posonlyargs.isEmpty&&(a.args.map (·.arg)==ps.map Str.ofString)&&a.vararg.isNone&&a.kwonlyargs.isEmpty&&a.kwarg.isNone
noncomputable def gX (sc:Scope):Bool:=!sc.isCoroutine && !sc.isGenerator&&sc.kind == .function
noncomputable def gK (p:Program) (loose:List Str):Option ClsRec:=(plainsOf p loose).find? λc=>c.name==Str.ofString "Rule"
noncomputable def eG (p:Program) (loose:List Str) (m:String):Option MethRec:=(gK p loose).bind λc=>c.meths.find? λr=>r.name==Str.ofString m
noncomputable def jm (p:Program) (loose:List Str) (f:String) (fn:Fn):Bool :=
 if f∈aV then specOf p (Str.ofString f)==some ("ValueError.__new__", bmV)
 else if f = "Rule" then ak (eG p loose "__init__") λr=>okI ⟨"self" :: fn.params,r.body,r.scope,false⟩ fn&&gW r.params ("self" :: fn.params)&&gX r.scope
 else if f∈methNames then ak (eG p loose f) λr=>okF ⟨fn.params,r.body,r.scope,false⟩ fn&&gW r.params fn.params&&gX r.scope
 else ak ((recsOf p).find? λd=>d.name==Str.ofString f) λd=>okF ⟨fn.params,d.body,d.scope,true⟩ fn&&gW d.params fn.params&&gX d.scope
noncomputable def nu (p:Program) (loose:List Str) (L:List (String×Fn)):Bool:=L.all λq=>jm p loose q.1 q.2
noncomputable def bI (L:List (String×Fn)):List String:=(L.map (·.1)).filter λf=>decide (f∈aV)
noncomputable def x5 (p:Program) (loose:List Str):Bool:=bnames.all λx=>!startupNames.contains (Str.ofString x) && !loose.contains (Str.ofString x) && !((recsOf p).map (·.name)).contains (Str.ofString x) && !((litsOf p).map (·.1)).contains (Str.ofString x) && !((clssOf p loose).map (·.name)).contains (Str.ofString x)
noncomputable def hM (v:Option Value):Option Addr:=match v with
 | some (.ref a)=>some a
 | _=>none
noncomputable def qC (mg:Str->Option Value) (L:List (String×Fn)) (h:Heap):Soft:=⟨λP=>∃ c,h.TableAt c P #[],λb=>∃ o,h.get? b=some o,(hM (mg "Rule")).getD 0,λc=>(hM (mg (Str.ofString c))).getD 0,bI L⟩
noncomputable def rz (g:Gl):Prop:=∀ {p:Program}{loose:List Str}{mean:ExcName->Option Value}{mg mb:Str->Option Value}{L:List (String×Fn)}{s:Shared}{fn:Fn}{fa a:Addr}{n:Nat}{ns:List Int}{vs:List Value}{m:Mode}{Q:Value->Shared->Prop}{Er:Value->Shared->Prop},g.SF=qC mg L s.heap ->
  Top p loose mean mg mb s.heap->TopE p loose mg s.heap->iF (bI L) s.heap->nu p loose L=true->x5 p loose=true->(gK p loose).isSome=true->(L.lookup "Rule").isSome=true->(bI L=[] \/ "PickError" ∈ bI L) ->
  L.lookup "law" = some fn->mg (Str.ofString "law")=some (.ref fa)->n<=50->aD (mkC L n) fn [.d (ac ns)] = .ok (.d (.bool true),m)->s.heap.get? a=some {cls:=.type "list", data:=.seq vs.toArray }->IntsAre vs ns->ns.length<=2^22 ->
  (∀ h' tk,OldK s.heap h'->Q (.bool true) {s with heap:=h',toks:=tk })->wpAny (model g.prog g.w) callerA (call (.ref fa) [.ref a]) Q Er s
noncomputable def gl0:Gl:=⟨default,⟨λ_ _=>0,{strHash:=λ_=>0,shareClass:=λ_=>0,mergeTok:=id,idOf:=λ_=>0,idOfShared:=λ_ _=>0,followText:=λ_=>false,idOfImm:=λ_=>0 }⟩,⟨λ_=>True,λ_=>True,0,λ_=>0,[]⟩⟩
noncomputable def gl:Gl:=@Classical.epsilon Gl ⟨gl0⟩ λg=>¬ rz g
theorem C0 (h:rz gl) (g:Gl):rz g:=by
 apply Classical.byContradiction
 intro n
 exact @Classical.epsilon_spec Gl (λg=>¬ rz g) ⟨g,n⟩ h
noncomputable def prog:Program:=gl.prog
noncomputable def w:World:=gl.w
noncomputable def SF:Soft:=gl.SF
noncomputable def Room (hb:Bool) (k:Nat) (A:Around):Prop:=(hb=false->A.handled=none)/\A.depth+2*k+(if hb then 1 else 4)<recursionLimit/\A.units+100*k+(if hb then 200 else 300)<cLine
noncomputable def tabO (ps:Array Value):Obj:={cls:=.none,data:=.fields ps }
noncomputable def CodesG (h:Heap) (ps:Array Value):Prop:=TriplesOk ps.toList/\∀ pos cv,codeAmong pos ps.toList=some cv->∃ c o vs q t,cv = .ref c/\h.get? c=some o/\o.cls = .type "code" /\ o.data = .fields vs/\vs[1]? = some (.str q t)
noncomputable def Stay (o:Obj):Prop:=(o.cls = .type "code" /\ ∃ fs,o.data = .fields fs)\/(o.cls = .type "tuple" /\ ∃ vs n,o.data = .seq vs n)
section
inductive Like (h h':Heap) (b:Addr) (o o':Obj):Prop
 | same:o' = o->Like h h' b o o'
 | tab (ps more:Array Value):SF.tab b->o=tabO ps->o' = tabO (ps++more)->(CodesG h ps->CodesG h' (ps++more))->Like h h' b o o'
 | frame (es:Array DictEntry) (ep:Nat):¬ SF.old b->o.cls = .type "frame" -> o.data = .dict es ep->o'.cls=o.cls->o'.data=o.data->o'.dict=o.dict->Like h h' b o o'
noncomputable def KG (G:Addr->Prop) (h h':Heap):Prop:=∀ b o,G b\/Stay o->h.get? b=some o->∃ o',h'.get? b=some o'/\Like h h' b o o'
noncomputable def hardB (o:Obj):Bool:=match o.cls with | .none=>false | .type n=>n != "frame" | _=>true
theorem Like.hard (l:Like h h' b o o') (hh:hardB o=true):o' = o:=by
 cases l with
 | same e=>exact e
 | tab ps more _ e _ _=>subst e; exact nF hh
 | frame _ _ _ e _ _ _ _=>unfold hardB at hh; rw[e] at hh; simp at hh
theorem Like.exact (l:Like h h' b o o') (h1:∀ fs,o.data≠.fields fs) (h2:∀ es ep,o.data≠.dict es ep):o' = o:=by
 cases l with
 | same e=>exact e
 | tab ps more _ e _ _=>(clear h2; subst e); exact absurd rfl (h1 ps)
 | frame es ep _ _ e _ _ _=>exact absurd e (h2 es ep)
theorem Like.cls (l:Like h h' b o o'):o'.cls=o.cls:=by
 cases l with
 | same e=>rw[e]
 | tab ps more _ e e' _=>rw[e,e']; rfl
 | frame _ _ _ _ _ e _ _=>exact e
theorem Like.data (l:Like h h' b o o') (hn:∀ fs,o.data≠.fields fs):o'.data=o.data:=by
 cases l with
 | same e=>rw[e]
 | tab ps more _ e e' _=>exact absurd (by rw[e]; rfl) (hn ps)
 | frame _ _ _ _ _ _ e _=>exact e
theorem Stay.hard (x:Stay o):hardB o=true:=by
 unfold hardB
 rcases x with x | x
 ·rw[x.1]; decide
 ·rw[x.1]; decide
section
theorem KG.of (k:∀ b o,G b\/Stay o->h.get? b=some o->h'.get? b=some o):KG G h h':=λb o g e=>(af o (k b o g e) (.same rfl))
theorem KG.refl:KG G h h:=.of λuu uu uu e=>e
theorem KG.hard (k:KG G h h') (hb:G b\/Stay o) (e:h.get? b=some o) (hh:hardB o=true):h'.get? b=some o:=by
 refine ae (k b o hb e) λi g l=>?_
 rw[g,l.hard hh]
theorem KG.stay (k:KG G h h') (e:h.get? b=some o) (x:Stay o):h'.get? b=some o:=k.hard (.inr x) e x.hard
theorem KG.codes (k:KG G h h') {ps:Array Value}(x:CodesG h ps):CodesG h' ps :=
 ⟨x.1,λg n m=>ny (x.2 g n m) λc o l q t r p j i=>(nk c o l q t r (k.stay p (.inl (aH j (bT _ i.1)))) j i)⟩
theorem KG.trans (a:KG G h h') (b:KG G h' h''):KG G h h'':=λc o i e=>by
 refine ae (a c o i e) λn p l=>?_
 have g:G c\/Stay n:=i.imp id λx=>by rw[l.hard x.hard]; exact x
 refine ae (b c n g p) λj m k=>?_
 refine (af j m ?_)
 cases l with
 | same e1=>
  (clear e i; subst e1)
  cases k with
  | same e2=>exact .same e2
  | tab ps more t1 t2 t3 t4=>exact .tab ps more t1 t2 t3 λx=>t4 (a.codes x)
  | frame es ep f1 f2 f3 f4 f5 f6=>exact .frame es ep f1 f2 f3 f4 f5 f6
 | tab ps more t1 t2 t3 t4=>
  (clear e i; subst t2 t3)
  cases k with
  | same e2=>exact .tab ps more t1 rfl e2 λx=>b.codes (t4 x)
  | tab ps' more' u1 u2 u3 u4=>
   have:ps' = ps++more:=by injection u2 with _ _ u; injection u with u; exact u.symm
   (clear u2; subst this)
   exact .tab ps (more++more') t1 rfl (by rw[u3,Array.append_assoc]) λx=>by rw[<- Array.append_assoc]; exact u4 (t4 x)
  | frame _ _ _ f2 _ _ _ _=>cases f2
 | frame es ep f1 f2 f0 f3 f4 f5=>
  cases k with
  | same e2=>(clear p g; subst e2); exact .frame es ep f1 f2 f0 f3 f4 f5
  | tab ps' more' u1 u2 u3 u4=>rw[f2,u2] at f3; cases f3
  | frame _ _ g1 g2 g0 g3 g4 g5=>exact .frame es ep f1 f2 f0 (g3.trans f3) (g4.trans f4) (g5.trans f5)
theorem KG.mono (k:KG G h h') (hg:∀ b,G' b->G b):KG G' h h':=λb o g e=>k b o (g.imp (hg b) id) e
end
theorem Stay.not_data (h1:∀ fs,o.data≠.fields fs) (h2:∀ vs n,o.data≠.seq vs n):¬ Stay o:=λx=>x.elim (λx=>let ⟨_,fs,e⟩:=x; h1 fs e) λx=>let ⟨_,vs,n,e⟩:=x; h2 vs n e
theorem Stay.not_list:¬ Stay ⟨.type "list", d,.seq vs n,x⟩:=λx=>x.elim (λx=>by simp at x) λx=>by simp at x
theorem Stay.not_dict (h:o.data = .dict es ep):¬ Stay o:=Stay.not_data (λuu q=>by rw[h] at q; cases q) λuu uu q=>by rw[h] at q; cases q
theorem Stay.not_cls (h1:o.cls≠.type "code") (h2:o.cls≠.type "tuple"):¬ Stay o:=λx=>x.elim (λx=>h1 x.1) λx=>h2 x.1
theorem KG.ofW {wr:List Addr}{h h':Heap}(k:∀ b o,b∉wr->h.get? b=some o->h'.get? b=some o) (n:∀ b∈wr,∀ o,h.get? b=some o->¬ Stay o):KG (λb=>b∉wr) h h' :=
 .of λb o i e=>k b o (λg=>i.elim (λx=>x g) (n b g o e)) e
theorem KG.same (hs:Heap.SameBut a h h') (hz:¬ G a) (hn:∀ o,h.get? a=some o->¬ Stay o):KG G h h' :=
 .of λb o g e=>hs.extBut b o (λq=>by (clear hs; subst q); exact g.elim hz (hn o e)) e
noncomputable abbrev K (h h':Heap):Prop:=KG (λuu=>True) h h'
section
theorem K.of (k:∀ b o,h.get? b=some o->h'.get? b=some o):K h h':=KG.of λb o _ e=>k b o e
theorem K.get (k:K h h') (e:h.get? b=some o) (hh:hardB o=true):h'.get? b=some o:=KG.hard k (.inl trivial) e hh
theorem K.step (a:K h h') (b:KG G h' h'') (hg:∀ b o,h.get? b=some o->G b):K h h'':=λc o _ e=>
 (KG.trans (KG.mono (G':=λb=>∃ o,h.get? b=some o) a λuu uu=>trivial) (KG.mono b λb ⟨o,e⟩=>hg b o e)) c o (.inl ⟨o,e⟩) e
theorem K.same (k:K h h') (hs:Heap.SameBut a h' h'') (ha:h.get? a=none) (hn:∀ o,h'.get? a=some o->¬ Stay o):K h h'' :=
 K.step k (G:=λb=>b≠a) (KG.same hs (λq=>q rfl) hn) λb o e q=>by rw[q,ha] at e; exact nN e
theorem K.there (k:K h h') (e:h.get? b=some o):∃ o',h'.get? b=some o':=ae (k b o (.inl trivial) e) λo' g uu=>⟨o',g⟩
theorem KG.dataG (k:KG G h h') (g:G b\/Stay o) (e:h.get? b=some o) (hn:∀ fs,o.data≠.fields fs):∃ o',h'.get? b=some o'/\o'.data=o.data/\o'.cls=o.cls :=
 ae (k b o g e) λo' i l=>(aw o' i (l.data hn) l.cls)
theorem K.data (k:K h h') (e:h.get? b=some o) (hn:∀ fs,o.data≠.fields fs):∃ o',h'.get? b=some o'/\o'.data=o.data/\o'.cls=o.cls:=KG.dataG k (.inl trivial) e hn
theorem K.exact (k:K h h') (e:h.get? b=some o) (h1:∀ fs,o.data≠.fields fs) (h2:∀ es ep,o.data≠.dict es ep):h'.get? b=some o :=
 ae (k b o (.inl trivial) e) λi g l=>(l.exact h1 h2)▸g
theorem JA (k:KG G h h') (g:G a) (x:h.Ns a m):h'.Ns a m:=by
 refine aL (x) λo n p e j r=>?_
 clear x
 obtain ⟨l,t,i,_⟩:=k.dataG (.inl g) e λu q=>by rw[j] at q; cases q
 exact (cI l n p t (i.trans j) r)
theorem gh (x:h.Ns a m) (k:K h h'):h'.Ns a m:=JA k trivial x
theorem Bq (k:KG G h h') (g:G c) (x:h.IsCell c v):h'.IsCell c v:=by
 refine ae (x) λo e j=>?_
 clear x
 obtain ⟨l,m,i,_⟩:=k.dataG (.inl g) e λn q=>by rw[j] at q; cases q
 exact (af l m (i.trans j))
theorem jn (x:h.IsCell c v) (k:K h h'):h'.IsCell c v:=Bq k trivial x
theorem la (x:h.NoLimit) (k:K h h'):h'.NoLimit:=ae (x) λg a b=>(af g (gh a k) b)
theorem z9 (k:KG G h h'):(∀ {v:Value}{d:PyData}{as:List Addr},R h v d as->(∀ a∈as,G a)->R h' v d as)/\(∀ {vs:List Value}{ds:List PyData}{as:List Addr},RA h vs ds as->(∀ a∈as,G a)->RA h' vs ds as) :=
 R.ind (M:=λv d as=>(∀ a∈as,G a)->R h' v d as) (N:=λvs ds as=>(∀ a∈as,G a)->RA h' vs ds as) (λuu=>.none) (λb _=>.bool b) (λi t _=>.int i t) (λx t _=>.str x t)
  (λe _ m g=>.list (k.hard (.inl (g _ (.head _))) e rfl) (m λb l=>g b (.tail _ l))) (λe _ m g=>.tuple (k.stay e (.inr (aH rfl (bn _ _ rfl)))) (m g))
  (λuu=>.nil) (λuu uu i j g=>.cons (i λb l=>g b (mem_append_left _ l)) (j λb l=>g b (mem_append_right _ l)))
theorem R.onG (r:R h v d as) (k:KG G h h') (g:∀ a∈as,G a):R h' v d as:=(z9 k).1 r g
theorem RA.onG (r:RA h vs ds as) (k:KG G h h') (g:∀ a∈as,G a):RA h' vs ds as:=(z9 k).2 r g
theorem R.k (r:R h v d as) (k:K h h'):R h' v d as:=r.onG k λuu uu=>trivial
theorem RA.k (r:RA h vs ds as) (k:K h h'):RA h' vs ds as:=r.onG k λuu uu=>trivial
noncomputable def CodeOk (h:Heap) (cd:Value) (q:Str):Prop:=∃ c P ps,cd = .ref c/\h.CodeRec cd q/\h.IsCode c P ps/\h.TableAt c P ps/\CodesG h ps/\SF.tab P
theorem CodeOk.k (x:CodeOk h cd q) (k:K h h'):CodeOk h' cd q:=by
 refine cW (x) λc P ps K9 p n m G sP=>?_
 clear x
 subst K9
 refine gv (p) λc' o' y t' e0 e1 e2 e3=>?_
 clear p
 refine BK (n) λo vs t tf g tg inF i tt op i1 i2 i3 i4 i5 i6 i7 i8 i9 i10 i11=>?_
 clear n
 refine aa (m) λj t5=>?_
 clear m
 refine bg (j) λoc vc t1 t2 z t4=>?_
 clear j
 cases e0
 rw[i1] at e1 t1
 rw[<- Option.some.inj e1] at e2
 rw[<- Option.some.inj t1] at t2 z
 have kc:h'.get? c=some o:=k.stay i1 (.inl (aH t2 (bT _ z)))
 refine ae (k P _ (.inl trivial) t5) λo' e' l=>?_
 have r:∃ v,h'.get? P=some {cls:=.none,data:=.fields v }/\CodesG h' v:=by
  cases l with
  | same e=>subst e; exact (af ps e' (KG.codes k G))
  | tab ps' more u1 u2 u3 u4=>
   have:ps' = ps:=by injection u2 with _ _ u; injection u with u; exact u.symm
   (clear i10 i9 t5 u2; subst this)
   exact (af _ (by rw[e',u3]; rfl) (u4 G))
  | frame _ _ _ f _ _ _ _=>cases f
 refine ae (r) λv eq Gq=>?_
 clear r
 exact (gz c P v rfl (j4 c o y t' rfl kc e2 e3) ⟨o,vs,t,tf,g,tg,inF,i,tt,_,kc,i2,i3,i4,i5,i6,i7,eq,rfl,Gq.1,i11⟩ ⟨(bF o vc kc t2 z t4),eq⟩ Gq sP)
end
end
noncomputable def bval (x:String):Value:=if x∈["list", "tuple", "range", "int", "bool", "str"] then .type x else .builtin x
structure Fns where
 fn:String->Option (Addr×FnT)
 mth:String->Option (Addr×FnT)
 init:Option (Addr×FnT)
 lam:Bool
 hand:Bool
noncomputable def adr (fns:Fns) (f:String):Option Addr:=if f = "Rule" then fns.init.map λuu=>SF.rule else if f∈methNames then (fns.mth f).map (·.1) else (fns.fn f).map (·.1)
theorem wu (h1:f ≠ "Rule") (h2:f∉methNames):adr fns f=(fns.fn f).map (·.1):=by unfold adr; rw[if_neg h1,if_neg h2]
theorem s5 (h1:f ≠ "Rule") (h2:f∈methNames):adr fns f=(fns.mth f).map (·.1):=by unfold adr; rw[if_neg h1,if_pos h2]
noncomputable def FnAt (h:Heap) (ft:FnT) (a:Addr):Prop:=∃ o fd,h.get? a=some o/\o.data = .func fd/\fd.body = .stmts ft.body/\fd.scope=ft.scope/\fd.globals=mainGlobals/\fd.closure=[]/\fd.builtins=builtinsNs/\h.CodeRec fd.code fd.qualname/\(ft.lam=true->CodeOk h fd.code fd.qualname) /\
 (∀ vals,vals.length=ft.params.length->bindArgs fd ⟨vals,[]⟩=pure ((ft.params.map Str.ofString).zip vals))/\fd.scope.isCoroutine=false/\fd.scope.isGenerator=false/\fd.scope.kind = .function
theorem wq (x:h.CodeRec cd q) (k:K h h'):h'.CodeRec cd q:=by
 refine gv (x) λc o m t g e j i=>?_
 clear x
 subst g
 refine ae (k c o (.inl trivial) e) λp n l=>?_
 cases l with
 | same q=>(clear e; subst q); exact (j4 c _ m t rfl n j i)
 | tab ps more _ q1 q2 _=>
  (clear e; subst q1 q2)
  obtain rfl:=Data.fields.inj (show Data.fields ps=Data.fields m from j)
  exact (j4 c _ (ps++more) t rfl n rfl (by rw[Array.getElem?_append_left (Array.getElem?_eq_some_iff.mp i).1]; exact i))
 | frame es ep _ _ q _ _ _=>rw[j] at q; cases q
theorem FnAt.k (x:FnAt h ft a) (k:K h h'):FnAt h' ft a:=by
 refine w7 (x) λo z y i v u t r p n m g=>?_
 clear x
 obtain ⟨j,e',l,_⟩:=K.data k y λfs q=>by rw[i] at q; cases q
 exact (qX j z e' (l.trans i) v u t r p (wq n k) (λq=>(m q).k k) g)
theorem ss (x:ClsAt h C N mN) (k:K h h'):ClsAt h' C N mN:=by
 obtain ⟨g,u⟩:=x
 refine eH (g) λm q y l i j v t r p o n e=>?_
 clear g
 exact ⟨⟨m,q,y,l,i,j,v,t,r,p,o,n,K.get k e rfl⟩,gh u k⟩
noncomputable def RuleAt (fns:Fns) (h:Heap):Prop:=∃ N mN,ClsAt h SF.rule N mN/\(∀ n∈["__setattr__", "__getattribute__", "__getattr__", "count", "full", "size"],mN (Str.ofString n)=none) /\
 (∃ p o,fns.init=some p/\mN "__init__" = some (.ref p.1)/\FnAt h p.2 p.1/\h.get? p.1=some o/\o.cls = .type "function") /\
 ∀ m p,fns.mth m=some p->∃ o,mN (Str.ofString m)=some (.ref p.1)/\FnAt h p.2 p.1/\h.get? p.1=some o/\o.cls = .type "function"
theorem tb (k:K h h') (e:h.get? a=some o) (c:o.cls = .type "function"):∃ o',h'.get? a=some o'/\o'.cls = .type "function" :=
 ae (k a o (.inl trivial) e) λo' g l=>(af o' g (l.cls.trans c))
theorem RuleAt.k (x:RuleAt fns h) (k:K h h'):RuleAt fns h':=by
 refine bg (x) λN n h1 h2 g h4=>?_
 clear x
 refine m9 (g) λp o i1 i2 z y v=>?_
 clear g
 refine ae (tb k y v) λi j l=>?_
 refine (bF N n (ss h1 k) h2 (JQ p i i1 i2 (z.k k) j l) (λm p hp=>?_))
 refine cX (h4 m p hp) λo u t r q=>?_
 refine ae (tb k r q) λi j l=>?_
 exact (bU i u (t.k k) j l)
noncomputable def dR (c:String):List Value:=if c = "PickError" then bmV else .ref (SF.exc "PickError")::bmV
theorem uP (T:OwnTail h bm tl) (k:K h h'):OwnTail h' bm tl:=by
 induction T with
 | base=>exact .base
 | own hA hN hq _ ih=>exact .own (K.exact k hA (λuu q=>by cases q) λuu uu q=>by cases q) (gh hN k) hq ih
noncomputable def ExcAt (h:Heap) (c:String):Prop:=∃ N nm q bs hdct sn sub ab col dd k0 k1 k2 k3 k5 mN,h.get? (SF.exc c)=some (excClassObj nm q (SF.exc c) N bs (dR c) hdct sn sub ab col dd k0 k1 k2 k3 k5 "ValueError.__new__")/\h.Ns N mN/\mN "__init__" = none/\OwnTail h bmV (dR c)
theorem ExcAt.use {h:Heap}{c:String}{G:Prop}(x:ExcAt h c) (k:∀ {N:Addr}{nm q:Str}{bs:List Value}{hdct:Bool}{sn:List Str}{sub:List Value}{ab:Bool}{col:Option Bool}{dd:Option Addr}{k0 k1 k2 k3 k5:Option Value}{mN:Str->Option Value},h.get? (SF.exc c)=some (excClassObj nm q (SF.exc c) N bs (dR c) hdct sn sub ab col dd k0 k1 k2 k3 k5 "ValueError.__new__")->h.Ns N mN->mN "__init__" = none->OwnTail h bmV (dR c)->G):G:=by
 obtain ⟨N,nm,q,bs,hdct,sn,sub,ab,col,dd,k0,k1,k2,k3,k5,mN,l,j,i,g⟩:=x
 exact k l j i g
theorem ExcAt.k (x:ExcAt h c) (k:K h h'):ExcAt h' c :=
 x.use λl j i g=>⟨_,_,_,_,_,_,_,_,_,_,_,_,_,_,_,_,K.exact k l (λuu q=>by cases q) (λuu uu q=>by cases q),gh j k,i,uP g k⟩
structure GE (fns:Fns) (h:Heap):Prop where
 glob:∃ mg,h.Ns mainGlobals mg/\(∀ f a,f∉methNames->adr fns f=some a->mg (Str.ofString f)=some (.ref a))/\∀ x∈bnames,mg (Str.ofString x)=none
 funs:∀ f p,fns.fn f=some p->FnAt h p.2 p.1
 cls:(∃ f p,fns.mth f=some p)\/fns.init.isSome=true->RuleAt fns h
 blt:∃ mb,h.Ns builtinsNs mb/\∀ x∈bnames,mb (Str.ofString x)=some (bval x)
 nolim:h.NoLimit
 old:∀ b,SF.old b->∃ o,h.get? b=some o
 exc:∃ mg,h.Ns mainGlobals mg/\(∀ c∈SF.excN,mg (Str.ofString c)=some (.ref (SF.exc c))/\ExcAt h c)/\∀ c∈SF.excN,∀ c' ∈ "PickError" :: SF.excN,SF.exc c=SF.exc c'->c=c'
 bm:∃ mg bm ob,h.Ns mainGlobals mg/\mg "__builtins__" = some (.ref bm)/\bm≠builtinsNs/\h.get? bm=some ob/\ob.cls = .type "module" /\ ob.dict=some builtinsNs/\ob.data = .plain
theorem GE.k {fns:Fns}{h h':Heap}(G:GE fns h) (k:K h h'):GE fns h' where
 glob:=ae (G.glob) λi a b=>(af i (gh a k) b)
 funs:=λf p e=>(G.funs f p e).k k
 cls:=λe=>(G.cls e).k k
 blt:=ae (G.blt) λm a b=>(af m (gh a k) b)
 nolim:=la G.nolim k
 old:=λb n=>ai (G.old b n) λuu e=>K.there k e
 exc:=am (G.exc) λi a b c=>(aw i (gh a k) (λc j=>⟨(b c j).1,(b c j).2.k k⟩) c)
 bm:=wE (G.bm) λi bm l a b c d e f g=>(mC i bm l (gh a k) b c (K.get k d (by unfold hardB; rw[e]; decide)) e f g)
theorem GE.flag (G:GE fns h) (a b:Bool):GE {fns with lam:=a,hand:=b } h:=⟨G.glob,G.funs,G.cls,G.blt,G.nolim,G.old,G.exc,G.bm⟩
noncomputable def FrOk (h:Heap) (l:List Env):Prop:=∀ env∈l,env.scope.kind = .function/\∃ L o es ep,env.frame=some L/\¬ SF.old L/\h.get? L=some o/\o.cls = .type "frame" /\ o.data = .dict es ep
theorem FrOk.k (x:FrOk h l) (k:K h h'):FrOk h' l:=λg m=>by
 obtain ⟨u,L,o,v,y,t,r,p,n,i⟩:=x g m
 refine ae (k L o (.inl trivial) p) λj z l=>?_
 exact (aH u (kZ L j v y t r z (l.cls.trans n) ((l.data λfs q=>by rw[i] at q; cases q).trans i)))
section
noncomputable def RV (h:Heap) (v:Value):V->List Addr->Prop
 | .d x,as=>R h v x as/\sz x=true
 | .dic0,as=>∃ a,v = .ref a/\as=[a]/\(a==sysModules)=false/\h.DictOf (intKind prog w) a []/\h.DictOfH (tupleKind (intKind prog w)) a []
 | .dicI ks,as=>∃ a,v = .ref a/\as=[a]/\(a==sysModules)=false/\h.DictOf (intKind prog w) a (ks.map λk=>(k,.bool true))
 | .dicT ks,as=>∃ a xs,v = .ref a/\as=[a]/\(a==sysModules)=false/\h.DictOfH (tupleKind (intKind prog w)) a xs/\xs.map (·.1)=ks/\(∀ k∈ks,k.length<=2^22)/\∀ x∈xs,R h (.ref x.2.1) (aK x.1) []
 | .rule c d n,as=>∃ x D o vf bs t u mA,v = .ref x/\as=x::D::bs/\h.get? x=some o/\o.cls = .ref SF.rule/\(∀ c,o.data≠.cls c)/\o.dict=some D/\D≠x/\h.Ns1 D mA/\mA "count" = some (.int c t)/\mA "full" = some vf/\mA "size" = some (.int n u)/\(∀ m∈methNames,mA (Str.ofString m)=none)/\R h vf d bs/\sz d=true
inductive RVs (h:Heap):List V->List Value->List Addr->Prop
 | nil:RVs h [] [] []
 | cons {x:V}{xs:List V}{v:Value}{vs:List Value}{as bs:List Addr}:RV h v x as->RVs h xs vs bs->RVs h (x::xs) (v::vs) (as++bs)
end
inductive VarIs (h:Heap) (env:Env) (x:Str) (v:Value):Prop
 | loc (m:Str->Option Value):env.kindOf x=some .local->h.Ns env.locals m->m x=some v->VarIs h env x v
 | cell (c:Addr):env.kindOf x=some .cell\/env.kindOf x=some .free->env.cells.lookup x=some c->h.IsCell c (some v)->VarIs h env x v
structure EnvOk (env:Env):Prop where
 kind:env.scope.kind = .function
 glob:env.globals=mainGlobals
 blt:env.builtins=builtinsNs
 cells:∀ n,env.kindOf n=some .cell\/env.kindOf n=some .free->∃ c,env.cells.lookup n=some c
section
theorem Kw (x:IsTupleKey (intKind prog w) h ks a) (k:KG G h h'):IsTupleKey (intKind prog w) h' ks a :=
 aL (x) λo j n l i g=>(cI o j n (k.stay l (.inr (aH i (bn _ _ g.1)))) i g)
theorem jr (x:o.ExactDict):hardB o=true:=by unfold hardB; rw[x.1]; decide
theorem qV (x:h.DictOf (intKind prog w) a kvs) (k:KG G h h') (g:G a):h'.DictOf (intKind prog w) a kvs :=
 bz (x) λo i j l r=>(cz o i j (k.hard (.inl g) l (jr r.1)) r)
theorem oS (x:h.DictOfH (tupleKind (intKind prog w)) a xs) (k:KG G h h') (g:G a):h'.DictOfH (tupleKind (intKind prog w)) a xs :=
 cW (x) λo l m t i r q p n=>(gz o l m (k.hard (.inl g) t (jr i)) i r q (λy j=>Kw (p y j) k) n)
theorem RV.onG (r:RV h v x as) (k:KG G h h') (g:∀ a∈as,G a):RV h' v x as:=by
 cases x with
 | d x=>exact ⟨r.1.onG k g,r.2⟩
 | dic0=>obtain ⟨a,m,rfl,l,j,p⟩:=r; exact (jL a m rfl l (qV j k (g a (.head _))) (oS p k (g a (.head _))))
 | dicI ks=>obtain ⟨a,m,rfl,l,j⟩:=r; exact (bU a m rfl l (qV j k (g a (.head _))))
 | dicT ks=>obtain ⟨a,xs,m,rfl,l,j,p,h6,h7⟩:=r; exact (gu a xs m rfl l (oS j k (g a (.head _))) p h6 (λx hx=>(h7 x hx).onG k λuu h=>nomatch h))
 | rule c d n=>
  refine jq (r) λx D o vf bs t u mA m y l j p h6 h7 i h9 h10 h11 h12 h13 h14=>?_
  clear r
  subst y
  refine bz (i) λoD es ep e hd=>?_
  clear i
  obtain ⟨z,eD,q,_⟩:=k.dataG (.inl (g D (.tail _ (.head _)))) e λfs q=>by rw[hd.1] at q; cases q
  exact (iW x D o vf bs t u mA m rfl (k.hard (.inl (g x (.head _))) l (by unfold hardB; rw[j])) j p h6 h7 (cI z es ep eD (q.trans hd.1) hd.2) h9 h10 h11 h12 (h13.onG k λa ha=>g a (.tail _ (.tail _ ha))) h14)
theorem RV.k (r:RV h v x as) (k:K h h'):RV h' v x as:=r.onG k λuu uu=>trivial
theorem VarIs.k (r:VarIs h env x v) (k:K h h'):VarIs h' env x v:=by
 cases r with
 | loc m a b c=>exact .loc m a (gh b k) c
 | cell c a b d=>exact .cell c a b (jn d k)
theorem RV.keep (r:RV h v x as) (k:∀ b o,h.get? b=some o->h'.get? b=some o):RV h' v x as:=r.k (.of k)
noncomputable def Kp (s s':Shared):Prop:=∃ h' tk,s' = {s with heap:=h',toks:=tk }/\K s.heap h'
theorem Kp.refl (s:Shared):Kp s s:=(aC s.heap s.toks rfl KG.refl)
theorem Kp.trans (a:Kp s s₁) (b:Kp s₁ sb):Kp s sb:=by
 refine au (a) λh t i k=>?_
 clear a
 subst i
 refine au (b) λm j g l=>?_
 clear b
 subst g
 exact (aC m j rfl (KG.trans k l))
theorem Kp.k (a:Kp s s₁):K s.heap s₁.heap:=by
 obtain ⟨h,t,rfl,k⟩:=a; exact k
theorem Kp.of (k:∀ b o,s.heap.get? b=some o->h'.get? b=some o):Kp s {s with heap:=h',toks:=tk }:=(aC h' tk rfl (.of k))
theorem Kp.toks (s:Shared) (t:Nat):Kp s {s with toks:=t }:=.of (s:=s) λuu uu e=>e
theorem Kp.push (s:Shared) (o:Obj) (t:Nat):Kp s {s with heap:=s.heap.push o,toks:=t }:=.of λuu uu e=>Heap.get?_push_of_some _ e
theorem Kp.none (a:Kp s s₁) (e:s₁.heap.get? b=none):s.heap.get? b=none:=by
 cases q:s.heap.get? b with
 | none=>rfl
 | some o=>obtain ⟨h,g⟩:=a.k.there q; rw[g] at e; exact nM e
structure Cx (fns:Fns) (k:Nat) (A:Around) (P:Addr->Prop) (h:Heap) (env:Env) (σ:St):Prop where
 room:Room fns.hand k A
 eok:EnvOk env
 ge:GE fns h
 code:fns.lam=true->∃ q,CodeOk h env.code q
 frm:fns.hand=false->∃ l,A.frames=some l/\FrOk h l
 vars:∀ x p,σ x=some p->varK env.scope.names x=true->∃ v as,VarIs h env (Str.ofString x) v/\RV h v p.1 as/\∀ a∈as,P a
inductive EP (P:Addr->Prop) (s:Shared) (r:V×Mode) (v:Value) (s':Shared):Prop
 | mk (kp:Kp s s') (as:List Addr) (rv:RV s'.heap v r.1 as) (own:∀ a∈as,P a\/s.heap.get? a=none) (top:r.2 = .top->∃ a bs,as=a::bs/\s.heap.get? a=none/\a∉bs) (deep:r.2 = .deep->(∀ a∈as,s.heap.get? a=none)/\as.Nodup):EP P s r v s'
inductive EPs (P:Addr->Prop) (s:Shared) (l:List (V×Mode)) (vs:List Value) (s':Shared):Prop
 | mk (kp:Kp s s') (as:List Addr) (rv:RVs s'.heap (l.map (·.1)) vs as) (own:∀ a∈as,P a\/s.heap.get? a=none) (deep:allDeep l=true->(∀ a∈as,s.heap.get? a=none)/\as.Nodup):EPs P s l vs s'
theorem EP.keeps (e:EP P s r v s'):Kp s s':=by cases e; assumption
theorem EPs.keeps (e:EPs P s l vs s'):Kp s s':=by cases e; assumption
theorem Cx.k {fns:Fns}{k:Nat}{A:Around}{P:Addr->Prop}{h h':Heap}{env:Env}{σ:St}(X:Cx fns k A P h env σ) (kp:K h h'):Cx fns k A P h' env σ where
 room:=X.room
 eok:=X.eok
 ge:=X.ge.k kp
 code:=λhk=>ai (X.code hk) λq c=>⟨q,c.k kp⟩
 frm:=λq=>ae (X.frm q) λl a b=>(af l a (b.k kp))
 vars:=λx p i g=>az (X.vars x p i g) λv as a b c=>(aU v as (a.k kp) (b.k kp) c)
theorem EP.scalar (k:Kp s s') (r:R s'.heap v x []) (z:sz x=true) (hm:m≠.top):EP P s (.d x,m) v s' :=
 ⟨k,[],⟨r,z⟩,λuu h=>(nomatch h),λh=>absurd h hm,λuu=>⟨λuu h=>(nomatch h),.nil⟩⟩
theorem EP.int (k:Kp s s'):EP P s (sI i) (.int i t) s':=.scalar k (.int i t) rfl (by simp)
theorem EP.bool (k:Kp s s'):EP P s (sB b) (.bool b) s':=.scalar k (.bool b) rfl (by simp)
theorem EP.after (k:Kp s s₁) (e:EP P s₁ r v s'):EP P s r v s':=by
 obtain ⟨i,as,a,b,c,d⟩:=e
 exact ⟨k.trans i,as,a,λx h=>(b x h).imp id k.none,λg=>az (c g) λa n m l j=>(aU a n m (k.none l) j),λg=>⟨λx h=>k.none ((d g).1 x h),(d g).2⟩⟩
end
section
variable (fns:Fns) (k:Nat) (C:Calls) (XP:String->Shared->Value->Shared->Prop)
noncomputable def SimE (e:E):Prop:=∀ {ex:Expr}{A:Around}{env:Env}{σ:St}{P:Addr->Prop}{s:Shared}{Q:Value->Shared->Prop}{Er:Value->Shared->Prop},
 okE env.scope.names e ex=true->Cx fns k A P s.heap env σ->ev C e σ≠.bad ->
 (∀ r,ev C e σ = .ok r->∀ v s',EP P s r v s'->Q v s')->(∀ c,ev C e σ = .exc c->∀ x s',XP c s x s'->Er x s') ->
 wpAny (model prog w) A (eval ex env) Q Er s
noncomputable def SimT (e:E):Prop:=∀ {ex:Expr}{A:Around}{env:Env}{σ:St}{P:Addr->Prop}{s:Shared}{Q:Bool->Shared->Prop}{Er:Value->Shared->Prop},
 okE env.scope.names e ex=true->Cx fns k A P s.heap env σ->((ev C e σ).bind λr=>ao r.1)≠.bad ->
 (∀ b,((ev C e σ).bind λr=>ao r.1) = .ok b->∀ s',Kp s s'->Q b s')->(∀ c,ev C e σ = .exc c->∀ x s',XP c s x s'->Er x s') ->
 wpAny (model prog w) A (isTrue ex env (eval ex env)) Q Er s
end
theorem bp {α β:Type}{o:Out α}{f:α->Out β}(h:o.bind f≠.bad):o≠.bad/\∀ a,o = .ok a->f a≠.bad:=by
 cases o with
 | ok a=>exact ⟨λe=>(by cases e),λuu e=>by (have g:=Out.ok.inj e; clear e; subst g); exact h⟩
 | exc c=>exact ⟨λe=>(by cases e),λuu e=>by cases e⟩
 | bad=>exact absurd rfl h
theorem aN {α β:Type}{o:Out α}{f:α->Out β}{G:Prop}(h:o.bind f≠.bad) (k:o≠.bad->(∀ a,o = .ok a->f a≠.bad)->G):G:=aa (bp h) k
theorem sD {α:Type}{o:Out α}{b:α}(h:o.calm = .ok b):o = .ok b:=by
 cases o with
 | ok a=>exact h
 | exc c=>exact nB h
 | bad=>exact nB h
theorem qU {α β:Type}{o:Out α}{f:α->Out β}{b:β}(h:o.calm.bind f = .ok b):∃ a,o = .ok a/\f a = .ok b:=by
 cases o with
 | ok a=>exact (af a rfl h)
 | exc c=>exact nB h
 | bad=>exact nB h
theorem vM {α β:Type}{o:Out α}{f:α->Out β}{b:β}{G:Prop}(h:o.calm.bind f = .ok b) (k:∀ a,o = .ok a->f a = .ok b->G):G:=ae (qU h) k
theorem b8 {α β:Type}{o:Out α}{f:α->Out β}{c:String}(h:o.bind f = .exc c):o = .exc c\/∃ a,o = .ok a/\f a = .exc c:=by
 cases o with
 | ok a=>exact .inr (af a rfl h)
 | exc c=>cases h; exact .inl rfl
 | bad=>cases h
section
theorem KJ (hXP:∀ c s s₁ x s',Kp s s₁->XP c s₁ x s'->XP c s x s') {a b:E}(Sa:SimE fns k C XP a) (Sb:SimE fns k C XP b)
  {ea eb:Expr}{A:Around}{env:Env}{σ:St}{P:Addr->Prop}{s:Shared}{G:Value->Value->Shared->Prop}{Er:Value->Shared->Prop}
  (oa:okE env.scope.names a ea=true) (ob:okE env.scope.names b eb=true) (X:Cx fns k A P s.heap env σ)
  (na:ev C a σ≠.bad) (nb:∀ x,ev C a σ = .ok x->ev C b σ≠.bad)
  (hE:∀ c,(ev C a σ = .exc c\/∃ x,ev C a σ = .ok x/\ev C b σ = .exc c)->∀ x s',XP c s x s'->Er x s')
  (hG:∀ x y,ev C a σ = .ok x->ev C b σ = .ok y->∀ va vb s₁ sb,EP P s x va s₁->EP P s₁ y vb sb->G va vb sb) :
  wpAny (model prog w) A (eval ea env) (λva s₁=>wpAny (model prog w) A (eval eb env) (λvb sb=>G va vb sb) Er s₁) Er s :=
 Sa oa X na (λx g va s₁ Ea=>Sb ob (X.k Ea.keeps.k) (nb x g) (λy j vb sb Eb=>hG x y g j va vb s₁ sb Ea Eb)
  λc h z s' i=>hE c (.inr (af x g h)) z s' (hXP c s s₁ z s' Ea.keeps i)) λc h=>hE c (.inl h)
theorem rF {env:Env}{x:String}(h:varK env.scope.names x=true):env.kindOf (Str.ofString x)=some .local\/env.kindOf (Str.ofString x)=some .cell\/env.kindOf (Str.ofString x)=some .free:=by
 unfold varK at h
 unfold Env.kindOf
 replace h:=(and_eq_true_iff.mp h).2
 split at h<;>first | (rename_i e; exact .inl e) | (rename_i e; exact .inr (.inl e)) | (rename_i e; exact .inr (.inr e)) | exact nF h
theorem dZ (hk:env.scope.kind = .function) (hd:aX x=true)
  (hv:VarIs s.heap env (Str.ofString x) v) (h:Q v s):wpAny (model prog w) A (eval (.Name (Str.ofString x) pos) env) Q Er s:=by
 unfold aX at hd
 simp only[and_eq_true,Bool.not_eq_true'] at hd
 cases hv with
 | loc m a b c=>exact wpAny_Name (wpAny_loadName_local hk a b c h) hd.1
 | cell c a b d=>
  rcases a with a | a
  ·exact wpAny_Name (wpAny_loadName_cell hk a b d h) hd.1
  ·exact wpAny_Name (wpAny_loadName_free hk a b d h hd.2) hd.1
theorem tA (r:RV s.heap v x as) (h:∀ a∈as,P a):EP P s (mk x) v s:=by
 refine ⟨.refl s,as,r,λa j=>.inl (h a j),λg=>?_,λg=>?_⟩
 ·unfold mk at g; dsimp only at g; split at g<;>cases g
 ·cases x with
  | d x=>
   unfold mk at g; dsimp only at g
   split at g
   ·rename_i i
    have:as=[]:=r.1.sx_nil i
    (clear h r; subst this)
    exact ⟨λuu h=>(nomatch h),.nil⟩
   ·cases g
  | _=>simp[mk,tU] at g
theorem l4 {ex:Expr}(h:okE ns (.name x) ex=true):∃ p,ex = .Name (Str.ofString x) p/\varK ns x=true/\aX x=true:=by
 replace h:=vR h
 revert h; refine λg=>Or.elim g (λi=>?_) (λh=>?_)
 ·clear g
  refine au (i) λm l j h=>?_
  clear i
  subst j
  simp only[and_eq_true,beq_iff_eq] at h
  refine aa (h) λk o=>?_
  clear h
  refine aa (k) λn q=>?_
  clear k
  subst n
  exact (aw _ rfl q o)
 ·cases h
theorem ei (x:String):SimE fns k C XP (.name x):=by
 intro ex A u i P s Q Er h X j n y
 refine am (l4 h) λp g l m=>?_
 (clear h; subst g)
 cases hσ:i x with
 | none=>exact absurd (by simp[b7,hσ]) j
 | some q=>
  refine az (X.vars x q hσ l) λv as t r o=>?_
  exact dZ X.eok.kind m t (n (mk q.1) (by simp[b7,hσ]) v s (tA r o))
theorem nP (i:Int):SimE fns k C XP (.int i):=by
 intro ex A q r P s Q Er j X t p u
 replace j:=Gv j
 revert j; refine λg=>Or.elim g (λh=>?_) (λj=>?_)
 ·clear g
  refine bz (h) λo n m l j=>?_
  clear h
  subst l
  simp only[beq_iff_eq] at j
  subst j
  exact wpAny_Constant_int (p (sI i) rfl _ _ (.int (.toks s _)))
 ·cases j
theorem Co (x:String):SimE fns k C XP (.str x):=by
 intro ex A r t P s Q Er g X u q v
 replace g:=Jw g
 revert g; refine λh=>Or.elim h (λi=>?_) (λg=>?_)
 ·clear h
  refine bz (i) λn m l j g=>?_
  clear i
  subst j
  simp only[and_eq_true,beq_iff_eq,decide_eq_true_eq] at g
  refine aa (g) λo p=>?_
  clear g
  subst o
  exact wpAny_Constant_str (q (.d (.str (Str.ofString x)),.deep) rfl _ _ (.scalar (.toks s _) (.str _ _) (by simpa [sz] using p) (by simp)))
 ·cases g
theorem qI (b:Bool):SimE fns k C XP (.bool b):=by
 intro ex A p q P s Q Er i X r o t
 replace i:=C4 i
 revert i; refine λg=>Or.elim g (λh=>?_) (λi=>?_)
 ·clear g
  refine bz (h) λn m l j i=>?_
  clear h
  subst j
  simp only[beq_iff_eq] at i
  subst i
  exact wpAny_Constant_bool (o (sB b) rfl _ _ (.bool (.refl s)))
 ·cases i
theorem xL:SimE fns k C XP .none:=by
 intro ex A o p P s Q Er j X q n r
 replace j:=DA j
 revert j; refine λg=>Or.elim g (λh=>?_) (λj=>?_)
 ·clear g
  refine au (h) λm l i j=>?_
  clear h
  subst i
  exact wpAny_Constant_none (n (.d .none,.deep) rfl _ _ (.scalar (.refl s) .none rfl (by simp)))
 ·cases j
theorem bq (h:Heap):h.get? h.objs.size=none:=Heap.get?_none_of_le (le_refl _)
theorem fF {h:Heap}{a:Addr}{o:Obj}(e:h.get? a=some o):a≠h.objs.size:=ne_of_lt (lt_size e)
theorem EP.newList (r:RA s.heap vs xs as) (hl:xs.length<=2^22) (hz:∀ x∈xs,sz x=true) (ha:∀ a∈as,P a) :
  EP P s (.d (.list xs),fresh xs) (.ref s.heap.objs.size) {s with heap:=s.heap.push {cls:=.type "list", data:=.seq vs.toArray },toks:=t }:=by
 refine ⟨.push s _ _,s.heap.objs.size::as,⟨.list (Heap.get?_push_size _ rfl) (r.keep λuu uu e=>Heap.get?_push_of_some _ e),sz_list.mpr ⟨hl,hz⟩⟩,?_,?_,?_⟩
 ·intro a h
  rcases mem_cons.mp h with rfl | h
  ·exact .inr (bq _)
  ·exact .inl (ha a h)
 ·intro _
  exact (aU _ _ rfl (bq _) (λh=>bj (r.there _ h) λuu uu e=>fF e rfl))
 ·intro i
  have g:xs.all sx=true:=by
   unfold fresh at i; dsimp only at i; split at i
   ·assumption
   ·cases i
  rw[r.sx_nil g]
  refine ⟨λa h=>?_,by simp⟩
  rcases mem_cons.mp h with rfl | h
  ·exact bq _
  ·cases h
section
theorem zf (ra:R s.heap va (.list xs) as) (za:sz (.list xs)=true) (rb:R s.heap vb (.list ys) bs) (zb:sz (.list ys)=true) (ha:∀ a∈as,P a) (hb:∀ a∈bs,P a) (hl:xs.length+ys.length<=lim)
  (hQ:∀ v s',EP P s (.d (.list (xs++ys)),fresh (xs++ys)) v s'->Q v s'):wpAny (model prog w) A (binaryOp .Add va vb) Q Er s:=by
 cases ra with
 | list ea ra=>
 cases rb with
 | list eb rb=>
 unfold lim at hl
 rw[sz_list] at za zb
 have j:=ra.length
 have i:=rb.length
 refine PySem.P.add_list ea eb ?_ ?_
 ·have:=EP.newList (P:=P) (t:=s.toks) (ra.append rb) (by rw[length_append]; exact Gb hl) (λz g=>(mem_append.mp g).elim (za.2 z) (zb.2 z)) λa h=>(mem_append.mp h).elim (λh=>ha a (.tail _ h)) λh=>hb a (.tail _ h)
  exact hQ _ _ (by simpa using this)
 ·rw[size_toArray,size_toArray,j,i]
  unfold sizeLine; exact Gy hl
theorem B6 (h:a.natAbs<2^63\/b.natAbs<2^63) (hQ:∀ v s',EP P s (sI (a*b)) v s'->Q v s'):wpAny (model prog w) A (binaryOp .Mult (.int a t) (.int b u)) Q Er s:=by
 refine mul_int (hQ _ _ (.int (.toks s _))) ?_
 rcases h with hl | hl
 ·exact IntMulOk.of_left (intBits_le_64 (by exact na1 ‹_›) (by exact na2 ‹_›))
 ·exact IntMulOk.of_right (intBits_le_64 (by exact na1 ‹_›) (by exact na2 ‹_›))
theorem yw (h:¬ (b=0\/1000000000<=b.natAbs)) (hQ:∀ v s',EP P s (sI (a.fdiv b)) v s'->Q v s'):wpAny (model prog w) A (binaryOp .FloorDiv (.int a t) (.int b u)) Q Er s :=
 floordiv_int (λe=>h (.inl e)) (hQ _ _ (.int (.toks s _))) (.inl (PyProof.noPylong_small (Fe h)))
theorem Cc (h:0<=b/\b<=1000/\a.natAbs<2^63) (hQ:∀ v s',EP P s (sI (a^b.toNat)) v s'->Q v s'):wpAny (model prog w) A (binaryOp .Pow (.int a t) (.int b u)) Q Er s :=
 pow_int_small h.1 (Jj h) (E1 h) (hQ _ _ (.int (.toks s _)))
theorem xp
  (ho:opB o op=true) (he:eg o x y = .ok r) (ra:R s.heap va x as) (za:sz x=true) (rb:R s.heap vb y bs) (zb:sz y=true) (ha:∀ a∈as,P a) (hb:∀ a∈bs,P a)
  (hQ:∀ v s',EP P s r v s'->Q v s'):wpAny (model prog w) A (binaryOp op va vb) Q Er s:=by
 cases of_decide_eq_true ho
 cases o with
 | add=>
  replace he:qZ x y = .ok r:=he
  unfold qZ at he
  cases hx:asL x with
  | some xs=>
   rw[hx] at he
   replace he:=aS he
   revert he; intro n
   refine ae (n) λys hy he=>?_
   clear n
   cases bR hx
   cases bR hy
   clear hx hy
   split at he<;>cases he
   exact zf ra za rb zb ha hb ‹_› hQ
  | none=>
   rw[hx] at he
   replace he:=eZ he
   revert he; intro m
   refine az (m) λa b K7 Lc he=>?_
   clear m
   (clear hx za; subst K7)
   (clear zb; subst Lc)
   (have oc:=Out.ok.inj he; clear he; subst oc); obtain ⟨_,rfl,rfl⟩:=ra.isInt; obtain ⟨_,rfl,rfl⟩:=rb.isInt
   exact add_int (hQ _ _ (.int (.toks s _)))
 | sub=>
  replace he:=eZ he
  revert he; intro l
  refine az (l) λa b Ld K6 he=>?_
  clear l
  (clear za; subst Ld)
  (clear zb; subst K6)
  (have oc:=Out.ok.inj he; clear he; subst oc); obtain ⟨_,rfl,rfl⟩:=ra.isInt; obtain ⟨_,rfl,rfl⟩:=rb.isInt
  exact sub_int (hQ _ _ (.int (.toks s _)))
 | mul=>
  replace he:=eZ he
  revert he; intro k
  refine az (k) λa b K3 La he=>?_
  clear k
  (clear za; subst K3)
  (clear zb; subst La)
  split at he<;>cases he
  obtain ⟨_,rfl,rfl⟩:=ra.isInt; obtain ⟨_,rfl,rfl⟩:=rb.isInt
  exact B6 ‹_› hQ
 | fdiv=>
  replace he:=eZ he
  revert he; intro j
  refine az (j) λa b Le Lb he=>?_
  clear j
  (clear za; subst Le)
  (clear zb; subst Lb)
  split at he<;>cases he
  obtain ⟨_,rfl,rfl⟩:=ra.isInt; obtain ⟨_,rfl,rfl⟩:=rb.isInt
  exact yw ‹_› hQ
 | mod=>
  replace he:=eZ he
  revert he; intro i
  refine az (i) λa b Lf z he=>?_
  clear i
  (clear za; subst Lf)
  (clear zb; subst z)
  split at he<;>cases he
  obtain ⟨_,rfl,rfl⟩:=ra.isInt; obtain ⟨_,rfl,rfl⟩:=rb.isInt
  exact mod_int' ‹_› (hQ _ _ (.int (.toks s _)))
 | pow=>
  replace he:=eZ he
  revert he; intro h
  refine az (h) λa b u t he=>?_
  clear h
  (clear za; subst u)
  (clear zb; subst t)
  split at he<;>cases he
  obtain ⟨_,rfl,rfl⟩:=ra.isInt; obtain ⟨_,rfl,rfl⟩:=rb.isInt
  exact Cc ‹_› hQ
 | xor=>
  replace he:=eZ he
  revert he; intro g
  refine az (g) λa b q p he=>?_
  clear g
  (clear za; subst q)
  (clear zb; subst p)
  (have oc:=Out.ok.inj he; clear he; subst oc); obtain ⟨_,rfl,rfl⟩:=ra.isInt; obtain ⟨_,rfl,rfl⟩:=rb.isInt
  exact xor_int (hQ _ _ (.int (.toks s _)))
end
end
section
theorem Room.units (h:Room hb k A):A.units+200<cLine:=by
 revert h; intro g
 refine aG (g) λuu uu h=>?_
 clear g
 cases hb with
 | true=>rw[if_pos rfl] at h; exact Hw h
 | false=>rw[if_neg (by decide)] at h; exact HG h
theorem Room.at (h:Room hb k A) (hf:hb=false):A.depth+2*k+4<recursionLimit/\A.units+100*k+300<cLine:=by
 subst hf; exact h.2
theorem lm:okc d=true↔d.canLay0=true/\d.depth<=64:=by simp[okc]
theorem pB (h:IntsAre vs ns):ItemsAre (intKind prog w) ns vs:=by
 induction h with
 | nil=>exact .nil
 | cons n t _ ih=>exact .cons (intKind_is prog w n t) ih
theorem fQ (r:R h v x as) (e:dX x=some ks):∃ a,v = .ref a/\IsTupleKey (intKind prog w) h ks a:=by
 cases r with
 | tuple ea ra=>
  refine aG (ra.ints e) λg _ _=>?_
  exact (af _ rfl (iu _ _ _ ea rfl rfl (by simpa using pB g)))
 | _=>exact nN e
theorem s8 (r:R h v x as) (e:dX x=some ks):R h v (aK ks) []:=by
 cases r with
 | tuple ea ra=>
  refine aG (ra.ints e) λuu i g=>?_
  subst i
  (clear e; subst g)
  exact .tuple ea ra
 | _=>exact nN e
theorem kE {K:Type} [DecidableEq K] (xs:List (K×Addr×Value)) (k:K):(atKey xs k).isSome=decide (k∈xs.map (·.1)):=by
 unfold atKey
 rw[Option.isSome_map]
 induction xs with
 | nil=>rfl
 | cons x xs ih=>
  by_cases hk:x.1=k
  ·simp[hk]
  ·rw[List.find?_cons,show decide (x.1=k)=false from decide_eq_false hk]
   dsimp only
   rw[ih,map_cons]
   simp[mem_cons,Ne.symm hk]
theorem od (ks:List Int) (k:Int):(valueAt (ks.map λk=>(k,Value.bool true)) k).isSome=decide (k∈ks):=by
 unfold valueAt
 rw[Option.isSome_map]
 induction ks with
 | nil=>rfl
 | cons x xs ih=>
  by_cases hk:x=k
  ·simp[hk]
  ·rw[map_cons,List.find?_cons]
   simp only[hk,decide_false,mem_cons,Ne.symm hk,false_or]
   exact ih
theorem Bp (hu:A.units+200<cLine) (he:inV x c = .ok b) (ra:R s.heap va x as) (rb:RV s.heap vb c bs)
  (hQ:∀ s',Kp s s'->Q (.bool b) s'):wpAny (model prog w) A (compareOp .In va vb) Q Er s:=by
 cases c with
 | d y=>
  replace he:=aS he
  revert he; intro l
  refine ae (l) λxs hy he=>?_
  clear l
  cases bR hy
  split at he<;>cases he
  rename_i j
  simp only[and_eq_true,lm] at j
  refine aG (j) λm b1 b2=>?_
  clear j
  refine aa (m) λa1 a2=>?_
  clear m
  simp only[PyData.canLay0,PyData.depth] at b1 b2
  exact SeqAt.in_list_reads rb.1.reads ra.reads b1 a1 (by have:=min_le_left (PyData.depthAll ‹_›) x.depth; exact Ak hu b2) (hQ s (.refl s))
 | dicI ks=>
  replace he:=aS he
  revert he; intro k
  refine ae (k) λi r he=>?_
  clear k
  (have oc:=Out.ok.inj he; clear he; subst oc)
  refine cX (rb) λa K5 _ h t=>?_
  clear rb
  subst K5
  cases c8 r
  refine ra.isInt_k λuu K7 Lc=>?_
  (clear ra; subst K7)
  subst Lc
  refine wpAny_in_of (intKind_is prog w _ _) h t.mapOf ?_
  rw[od]
  exact hQ _ (.toks s _)
 | dicT ks=>
  replace he:=aS he
  revert he; intro g
  refine ae (g) λi r he=>?_
  clear g
  (have oc:=Out.ok.inj he; clear he; subst oc)
  refine z7 (rb) λa xs z _ h t v _=>?_
  clear rb
  subst z
  subst v
  refine ae (fQ ra r) λa' u hk=>?_
  (clear ra; subst u)
  refine wpAny_in_heap (tupleKind_room_in1 (zV hu)) hk h t ?_
  rw[kE]
  exact Eq.mp (congrArg (λb=>Q (.bool b) _) (decide_eq_decide.mpr Iff.rfl)) (hQ _ (.toks s _))
 | dic0=>
  replace he:(if (d9 x).isSome||(dX x).isSome then Out.ok false else .bad) = .ok b:=he
  split at he<;>cases he
  rename_i j
  refine lj (rb) λa q _ h t hd'=>?_
  clear rb
  subst q
  cases h2:d9 x with
  | some i=>
   cases c8 h2
   refine ra.isInt_k λuu p o=>?_
   (clear ra; subst p)
   subst o
   exact wpAny_in_of (intKind_is prog w _ _) h t.mapOf (hQ _ (.toks s _))
  | none=>
   rw[h2] at j
   refine bP (by simpa using j) λi r=>?_
   refine ae (fQ ra r) λa' n hk=>?_
   (clear ra; subst n)
   exact wpAny_in_heap (tupleKind_room_in1 (zV hu)) hk h hd' (hQ _ (.toks s _))
 | rule _ _ _=>exact nB he
theorem qt (hu:A.units+200<cLine) (ho:opC o op=true) (he:cM o x y = .ok b) (ra:RV s.heap va x as) (rb:RV s.heap vb y bs)
  (hQ:∀ s',Kp s s'->Q (.bool b) s'):wpAny (model prog w) A (compareOp op va vb) Q Er s:=by
 cases of_decide_eq_true ho
 cases o with
 | eq=>
  replace he:=iq he
  revert he; intro z
  refine az (z) λx y Lg Lh he=>?_
  clear z
  subst Lg
  subst Lh
  split at he<;>cases he
  rename_i g
  simp only[and_eq_true,lm] at g
  refine aG (g) λLj b1 b2=>?_
  clear g
  refine aa (Lj) λa1 a2=>?_
  clear Lj
  exact SeqAt.compareEq_reads ra.1.reads rb.1.reads a1 b1 (by have:=min_le_left x.depth y.depth; exact AQ hu a2) (hQ s (.refl s))
 | ne=>
  replace he:=iq he
  revert he; intro v
  refine az (v) λx y Ll Lm he=>?_
  clear v
  subst Ll
  subst Lm
  split at he<;>cases he
  rename_i g
  simp only[and_eq_true,lm] at g
  refine aG (g) λLp b1 b2=>?_
  clear g
  refine aa (Lp) λa1 a2=>?_
  clear Lp
  exact SeqAt.compareNe_reads ra.1.reads rb.1.reads a1 b1 (by have:=min_le_left x.depth y.depth; exact AQ hu a2) (hQ s (.refl s))
 | lt=>
  replace he:=iq he
  revert he; intro u
  refine az (u) λx y Ln Lw he=>?_
  clear u
  subst Ln
  subst Lw
  replace he:=eZ he
  revert he; intro t
  refine az (t) λi j LB Ly he=>?_
  clear t
  subst LB
  subst Ly
  (have oc:=Out.ok.inj he; clear he; subst oc); obtain ⟨_,rfl,rfl⟩:=ra.1.isInt; obtain ⟨_,rfl,rfl⟩:=rb.1.isInt
  exact lt_int (hQ s (.refl s))
 | gt=>
  replace he:=iq he
  revert he; intro r
  refine az (r) λx y Ls LA he=>?_
  clear r
  subst Ls
  subst LA
  replace he:=eZ he
  revert he; intro q
  refine az (q) λi j LY LX he=>?_
  clear q
  subst LY
  subst LX
  (have oc:=Out.ok.inj he; clear he; subst oc); obtain ⟨_,rfl,rfl⟩:=ra.1.isInt; obtain ⟨_,rfl,rfl⟩:=rb.1.isInt
  exact gt_int (hQ s (.refl s))
 | ge=>
  replace he:=iq he
  revert he; intro p
  refine az (p) λx y LG LD he=>?_
  clear p
  subst LG
  subst LD
  replace he:=eZ he
  revert he; intro n
  refine az (n) λi j LK LC he=>?_
  clear n
  subst LK
  subst LC
  (have oc:=Out.ok.inj he; clear he; subst oc); obtain ⟨_,rfl,rfl⟩:=ra.1.isInt; obtain ⟨_,rfl,rfl⟩:=rb.1.isInt
  exact ge_int (hQ s (.refl s))
 | isin=>
  replace he:=aS he
  revert he; intro m
  refine ae (m) λx hx he=>?_
  clear m
  cases bZ hx
  exact Bp hu he ra.1 rb hQ
 | notin=>
  replace he:=iq he
  revert he; intro l
  refine az (l) λkx y Lu LF he=>?_
  clear l
  subst Lu
  subst LF
  refine Out.bind_k he λb' g h2=>?_
  (have oc:=Out.ok.inj h2; clear h2; (clear he; subst oc))
  replace g:=aS g
  revert g; intro k
  refine ae (k) λxs hy g=>?_
  clear k
  cases bR hy
  split at g<;>cases g
  rename_i g
  simp only[and_eq_true,lm] at g
  refine aG (g) λLx b1 b2=>?_
  clear g
  refine aa (Lx) λa1 a2=>?_
  clear Lx
  simp only[PyData.canLay0,PyData.depth] at b1 b2
  exact SeqAt.notIn_list_reads rb.1.reads ra.1.reads b1 a1 (by have:=min_le_left (PyData.depthAll xs) kx.depth; exact Ak hu b2) (hQ s (.refl s))
 | isnot=>
  replace he:=iq he
  revert he; intro h
  refine az (h) λx y MB LU he=>?_
  clear h
  subst MB
  subst LU
  split at he<;>cases he
  cases A0 ‹_›
  obtain ⟨ra,_⟩:=ra; obtain ⟨rfl,rfl⟩:=rb.1.isNone
  refine isNot_none ?_
  cases ra<;>exact hQ s (.refl s)
end
section
theorem EP.shift (kp:Kp s sb) (e:EP (λa=>P a\/s.heap.get? a=none) sb r v sc):EP P s r v sc:=by
 obtain ⟨j,as,a,b,c,d⟩:=e
 refine ⟨kp.trans j,as,a,λx i=>?_,λg=>az (c g) λa n m l k=>(aU a n m (kp.none l) k),λg=>⟨λx i=>kp.none ((d g).1 x i),(d g).2⟩⟩
 rcases b x i with h | h
 ·exact h
 ·exact .inr (kp.none h)
theorem jS (hXP:∀ c s s₁ x s',Kp s s₁->XP c s₁ x s'->XP c s x s') {a b:E}(Sa:SimE fns k C XP a) (Sb:SimE fns k C XP b)
  {ea eb:Expr}{A:Around}{env:Env}{σ:St}{P:Addr->Prop}{s:Shared}{Er:Value->Shared->Prop}{G:Value->Value->Shared->Prop}{f:V->V->Out (V×Mode)}
  (oa:okE env.scope.names a ea=true) (ob:okE env.scope.names b eb=true) (X:Cx fns k A P s.heap env σ)
  (nb:((ev C a σ).bind λx=>(ev C b σ).bind λy=>f x.1 y.1)≠.bad)
  (hE:∀ c,((ev C a σ).bind λx=>(ev C b σ).bind λy=>f x.1 y.1) = .exc c->∀ x s',XP c s x s'->Er x s') (hf:∀ x y c,f x y≠.exc c)
  (hG:∀ x y r,((ev C a σ).bind λx=>(ev C b σ).bind λy=>f x.1 y.1) = .ok r->f x y = .ok r->∀ va vb sb as bs,Kp s sb->RV sb.heap va x as->RV sb.heap vb y bs ->
   (∀ a∈as,P a\/s.heap.get? a=none)->(∀ a∈bs,P a\/s.heap.get? a=none)->G va vb sb) :
  wpAny (model prog w) A (eval ea env) (λva s₁=>wpAny (model prog w) A (eval eb env) (λvb sb=>G va vb sb) Er s₁) Er s:=by
 refine aN nb λp i=>?_
 refine KJ hXP Sa Sb oa ob X p (λx g=>(bp (i x g)).1) (λc h=>hE c ?_) λx y g m va vb s₁ sb Ea Eb=>?_
 ·rcases h with h | ⟨x,g,h⟩
  ·rw[h]; rfl
  ·rw[g,Out.ok_bind,h]; rfl
 ·have v:=(bp (i x g)).2 y m
  cases hr:f x.1 y.1 with
  | bad=>exact absurd hr v
  | exc c=>exact absurd hr (hf _ _ _)
  | ok r=>
   obtain ⟨l,as,o,u,_⟩:=Ea
   obtain ⟨j,bs,n,t,_⟩:=Eb
   exact hG x.1 y.1 r (by rw[g,Out.ok_bind,m,Out.ok_bind]; exact hr) hr va vb sb as bs (l.trans j) (o.k j.k) n u λz q=>(t z q).imp id l.none
theorem yv:eg o x y≠.exc c:=Br c
theorem qx:cM o x y≠.exc c:=Cp c
theorem AW {ex:Expr}(h:okE ns (.bin o a b) ex=true):∃ l op r p,ex = .BinOp l op r p/\opB o op=true/\okE ns a l=true/\okE ns b r=true:=by
 replace h:=F4 h
 revert h; refine λg=>Or.elim g (λi=>?_) (λh=>?_)
 ·clear g
  refine cH (i) λq n m k j h=>?_
  clear i
  subst j
  simp only[and_eq_true] at h
  exact (j4 _ _ _ _ rfl h.1.1 h.1.2 h.2)
 ·cases h
theorem sL (hXP:∀ c s s₁ x s',Kp s s₁->XP c s₁ x s'->XP c s x s') {o:BOp}{a b:E}(Sa:SimE fns k C XP a) (Sb:SimE fns k C XP b):SimE fns k C XP (.bin o a b):=by
 intro ex A env σ P s Q Er n X q t u
 refine gv (AW n) λl op r p g ho oa z=>?_
 (clear n; subst g)
 simp only[gT] at q t u
 refine wpAny_BinOp (jS hXP Sa Sb (f:=λx y=>match x,y with | .d x,.d y=>eg o x y | _,_=>.bad) oa z X q u (λx y c=>?_) λx y r hr h va vb i as bs kp m j ha hb=>?_)
 ·split
  ·exact yv
  ·simp
 ·split at h
  ·exact xp ho h m.1 m.2 j.1 j.2 ha hb λv s' e=>t r hr v s' (.shift kp e)
  ·exact nB h
theorem sT {ex:Expr}(h:okE ns (.cmp o a b) ex=true):∃ l op r p,ex = .Compare l [op] [r] p/\opC o op=true/\okE ns a l=true/\okE ns b r=true:=by
 replace h:=IM h
 revert h; refine λg=>Or.elim g (λi=>?_) (λh=>?_)
 ·clear g
  refine cH (i) λq n m k j h=>?_
  clear i
  subst j
  simp only[and_eq_true] at h
  exact (j4 _ _ _ _ rfl h.1.1 h.1.2 h.2)
 ·cases h
theorem A5:okE ns e (.Set es n p)=false:=by cases e<;>rfl
theorem rR (h:okE ns e x=true):behindInMarks op x=false:=by
 cases x<;>first | rfl | (rw[A5] at h; cases h)
theorem s7 (hXP:∀ c s s₁ x s',Kp s s₁->XP c s₁ x s'->XP c s x s') {o:COp}{a b:E}(Sa:SimE fns k C XP a) (Sb:SimE fns k C XP b):SimE fns k C XP (.cmp o a b):=by
 intro ex A env σ P s Q Er ok X m q u
 refine gv (sT ok) λl op r p g ho oa j=>?_
 (clear ok; subst g)
 simp only[eK] at m q u
 refine wpAny_Compare1 (jS hXP Sa Sb (f:=λx y=>(cM o x y).bind λb=>.ok (sB b)) oa j X m u (λx y c h=>?_) λx y r hr n va vb i as bs kp ra z ha hb=>?_) (rR j)
 ·rcases b8 h with h | ⟨_,_,h⟩
  ·exact qx h
  ·cases h
 ·refine Out.bind_k n λt h1 v=>?_
  (have oc:=Out.ok.inj v; clear v; (clear n; subst oc))
  exact qt X.room.units ho h1 ra z λs' e=>q _ hr _ s' (.bool (kp.trans e))
theorem rO (hXP:∀ c s s₁ x s',Kp s s₁->XP c s₁ x s'->XP c s x s') {o:COp}{a b:E}(Sa:SimE fns k C XP a) (Sb:SimE fns k C XP b):SimT fns k C XP (.cmp o a b):=by
 intro ex A env σ P s Q Er ok X nb hQ v
 refine gv (sT ok) λl op r p j ho oa q=>?_
 (clear ok; subst j)
 have g:=(bp nb).1
 have i:∀ r,ev C (.cmp o a b) σ = .ok r->∀ b,ao r.1 = .ok b->∀ s',Kp s s'->Q b s':=λr m t ht=>hQ t (by rw[m]; exact ht)
 simp only[eK] at g i v
 refine wpAny_isTrue_Compare1 (jS hXP Sa Sb (f:=λx y=>(cM o x y).bind λb=>.ok (sB b)) oa q X g v (λx y c h=>?_) λx y r m u va vb n as bs kp ra rb ha hb=>?_) (rR q)
 ·rcases b8 h with h | ⟨_,_,h⟩
  ·exact qx h
  ·cases h
 ·refine Out.bind_k u λt h1 z=>?_
  (have oc:=Out.ok.inj z; clear z; (clear u; subst oc))
  exact qt X.room.units ho h1 ra rb λs' e=>wpAny_truthy_bool (i _ m _ rfl s' (kp.trans e))
theorem te (Sa:SimE fns k C XP a):SimE fns k C XP (.neg a):=by
 intro ex A env σ P s Q Er j X u y z
 replace j:=AJ j
 revert j; refine λg=>Or.elim g (λh=>?_) (λj=>?_)
 ·clear g
  refine au (h) λo n i j=>?_
  clear h
  subst i
  simp only[fz] at u y z
  refine aN u λn1 n2=>?_
  refine wpAny_UnaryOp (Sa j X n1 (λx v va l Ea=>?_) λc hc=>z c (by rw[hc]; rfl))
  have t:=n2 x v
  obtain ⟨ka,as,p,_⟩:=Ea
  obtain ⟨x,m⟩:=x
  dsimp only at t p
  split at t
  ·refine p.1.isInt_k λuu r q=>?_
   (clear p; subst r)
   subst q
   exact neg_int (y _ (by rw[v]; rfl) _ _ (.int (ka.trans (.toks l _))))
  ·exact absurd rfl t
 ·cases j
theorem uk (S:SimE fns k C XP e) (hp:∀ ns ex env (t:Sem Value),okE ns e ex=true->isTrue ex env t=(do let v <- t; standAt ex.pos; holding [v] (truthy v))):SimT fns k C XP e:=by
 intro ex A env z P s Q Er n X o u y
 refine wpAny_isTrue_value (S n X (bp o).1 (λr p v s' E=>?_) y) (hp _ _ _ _ n)
 have h:=(bp o).2 r p
 obtain ⟨x,m⟩:=r
 dsimp only at h
 unfold ao at h
 split at h
 ·obtain ⟨q,as,g,_⟩:=E
  refine aa (g) λl _=>?_
  clear g
  refine aa (l.isBool) λj i=>?_
  (clear l; subst j)
  subst i
  exact wpAny_truthy_bool (u _ (by rw[p]; rfl) _ q)
 ·exact absurd rfl h
theorem sw {ex:Expr}(h:okE ns (.not a) ex=true):∃ x p,ex = .UnaryOp .Not x p/\okE ns a x=true:=by
 replace h:=Fr h
 revert h; refine λg=>Or.elim g (λi=>?_) (λh=>?_)
 ·clear g
  refine au (i) λl k j h=>?_
  clear i
  subst j
  exact (aC _ _ rfl h)
 ·cases h
theorem sC (Sa:SimE fns k C XP a):SimE fns k C XP (.not a):=by
 intro ex A env σ P s Q Er o X q t u
 refine au (sw o) λx p l v=>?_
 (clear o; subst l)
 simp only[eJ] at q t u
 refine aN q λz y=>?_
 refine wpAny_UnaryOp (Sa v X z (λx r va n Ea=>?_) λc hc=>u c (by rw[hc]; rfl))
 have i:=(bp (y x r)).1
 obtain ⟨ka,as,j,_⟩:=Ea
 obtain ⟨x,m⟩:=x
 dsimp only at i j
 unfold ao at i
 split at i
 ·refine aa (j.1.isBool) λh g=>?_
  (clear j; subst h)
  subst g
  exact not_value (wpAny_truthy_bool (t _ (by rw[r]; rfl) _ _ (.bool ka)))
 ·exact absurd rfl i
theorem qS (Sa:SimT fns k C XP a):SimT fns k C XP (.not a):=by
 intro ex A u h P s Q Er ok X i j t
 refine au (sw ok) λx p g m=>?_
 (clear ok; subst g)
 have e:((ev C (.not a) h).bind λr=>ao r.1)=((ev C a h).bind λr=>ao r.1).bind λb=>.ok (!b):=by
  simp only[eJ]
  cases ev C a h with
  | ok r=>simp only[Out.ok_bind]; cases ao r.1<;>rfl
  | exc c=>rfl
  | bad=>rfl
 rw[e] at i j
 refine wpAny_isTrue_Not (Sa m X (bp i).1 (λb q l n=>j (!b) (by rw[q]; rfl) l n) λc o=>t c (by simp only[eJ]; rw[o]; rfl))
end
section
variable (fns:Fns) (k:Nat) (C:Calls) (XP:String->Shared->Value->Shared->Prop)
noncomputable def SimA (e:E):Prop:=∀ {vs:List Expr}{pos:Pos}{A:Around}{env:Env}{σ:St}{P:Addr->Prop}{s:Shared}{Q:Value->Shared->Prop}{Er:Value->Shared->Prop},
 okA' env.scope.names e vs=true->Cx fns k A P s.heap env σ->((ev C e σ).bind λr=>ao r.1)≠.bad ->
 (∀ b,((ev C e σ).bind λr=>ao r.1) = .ok b->∀ s',Kp s s'->Q (.bool b) s')->(∀ c,ev C e σ = .exc c->∀ x s',XP c s x s'->Er x s') ->
 wpAny (model prog w) A (boolOp pos .And (evalEach vs env)) Q Er s
noncomputable def SimTA (e:E):Prop:=∀ {vs:List Expr}{A:Around}{env:Env}{σ:St}{P:Addr->Prop}{s:Shared}{Q:Bool->Shared->Prop}{Er:Value->Shared->Prop},
 okA' env.scope.names e vs=true->Cx fns k A P s.heap env σ->((ev C e σ).bind λr=>ao r.1)≠.bad ->
 (∀ b,((ev C e σ).bind λr=>ao r.1) = .ok b->∀ s',Kp s s'->Q b s')->(∀ c,ev C e σ = .exc c->∀ x s',XP c s x s'->Er x s') ->
 wpAny (model prog w) A (allTrue .And vs env) Q Er s
noncomputable def SimO (e:E):Prop:=∀ {vs:List Expr}{pos:Pos}{A:Around}{env:Env}{σ:St}{P:Addr->Prop}{s:Shared}{Q:Value->Shared->Prop}{Er:Value->Shared->Prop},
 okO' env.scope.names e vs=true->Cx fns k A P s.heap env σ->((ev C e σ).bind λr=>ao r.1)≠.bad ->
 (∀ b,((ev C e σ).bind λr=>ao r.1) = .ok b->∀ s',Kp s s'->Q (.bool b) s')->(∀ c,ev C e σ = .exc c->∀ x s',XP c s x s'->Er x s') ->
 wpAny (model prog w) A (boolOp pos .Or (evalEach vs env)) Q Er s
noncomputable def SimTO (e:E):Prop:=∀ {vs:List Expr}{A:Around}{env:Env}{σ:St}{P:Addr->Prop}{s:Shared}{Q:Bool->Shared->Prop}{Er:Value->Shared->Prop},
 okO' env.scope.names e vs=true->Cx fns k A P s.heap env σ->((ev C e σ).bind λr=>ao r.1)≠.bad ->
 (∀ b,((ev C e σ).bind λr=>ao r.1) = .ok b->∀ s',Kp s s'->Q b s')->(∀ c,ev C e σ = .exc c->∀ x s',XP c s x s'->Er x s') ->
 wpAny (model prog w) A (allTrue .Or vs env) Q Er s
end
section
variable {fns:Fns}{k:Nat}{C:Calls}{XP:String->Shared->Value->Shared->Prop}
theorem xY (E:EP P s r v s') (h:ao r.1 = .ok t):v = .bool t/\Kp s s':=by
 obtain ⟨x,m⟩:=r
 dsimp only at h
 unfold ao at h
 split at h
 ·(have j:=Out.ok.inj h; clear h; subst j)
  obtain ⟨k,as,g,_⟩:=E
  refine aa (g) λi _=>?_
  clear g
  cases i
  exact ⟨rfl,k⟩
 ·exact nB h
theorem pf:ao v≠.exc c:=by unfold ao; split<;>simp
theorem uB (S:SimE fns k C XP e) {ex:Expr}
  (ok:okE env.scope.names e ex=true) (X:Cx fns k A P s.heap env σ) (nb:((ev C e σ).bind λr=>ao r.1)≠.bad)
  (hQ:∀ b,((ev C e σ).bind λr=>ao r.1) = .ok b->∀ s',Kp s s'->Q (.bool b) s') (hE:∀ c,ev C e σ = .exc c->∀ x s',XP c s x s'->Er x s'):wpAny (model prog w) A (eval ex env) Q Er s:=by
 refine aN nb λj i=>?_
 refine S ok X j (λr h v s' E=>?_) hE
 cases ht:ao r.1 with
 | bad=>exact absurd ht (i r h)
 | exc c=>exact absurd ht pf
 | ok t=>
  refine aa (xY E ht) λg l=>?_
  (clear E; subst g)
  exact hQ t (by rw[h]; exact ht) s' l
theorem mM {M:Model}{A:Around}{pos:Pos}{op:BoolOp}{x:Sem Value}{Q:Value->Shared->Prop}{E:Value->Shared->Prop}{s:Shared}(h:wpAny M A x Q E s):wpAny M A (boolOp pos op [x]) Q E s:=h
theorem tz {M:Model}{A:Around}{pos:Pos}{x y:Sem Value}{r:List (Sem Value)}{Q:Value->Shared->Prop}{E:Value->Shared->Prop}{s:Shared}
  (h:wpAny M A x (λv s₁=>wpAny M A (truthy v) (λt sb=>if t then wpAny M A (boolOp pos .And (y::r)) Q E sb else Q v sb) E s₁) E s):wpAny M A (boolOp pos .And (x::y::r)) Q E s:=by
 rw[boolOp]
 ·refine wpAny_bind (wpAny_mono h (λv s₁ i=>wpAny_bind (wpAny_standAt (wpAny_bind (wpAny_holding (wpAny_mono i (λt sb g=>?_) λuu uu e=>e))))) λuu uu e=>e)
  cases t with
  | false=>exact wpAny_pure g
  | true=>exact g
 ·simp
theorem wa {M:Model}{A:Around}{pos:Pos}{x y:Sem Value}{r:List (Sem Value)}{Q:Value->Shared->Prop}{E:Value->Shared->Prop}{s:Shared}
  (h:wpAny M A x (λv s₁=>wpAny M A (truthy v) (λt sb=>if t then Q v sb else wpAny M A (boolOp pos .Or (y::r)) Q E sb) E s₁) E s):wpAny M A (boolOp pos .Or (x::y::r)) Q E s:=by
 rw[boolOp]
 ·refine wpAny_bind (wpAny_mono h (λv s₁ i=>wpAny_bind (wpAny_standAt (wpAny_bind (wpAny_holding (wpAny_mono i (λt sb g=>?_) λuu uu e=>e))))) λuu uu e=>e)
  cases t with
  | false=>exact g
  | true=>exact wpAny_pure g
 ·simp
theorem okA'_inv (h:okA' ns b vs=true):(∃ u,vs=[u]/\okE ns b u=true)\/okA ns b vs=true:=by
 unfold okA' at h
 cases e:bL vs with
 | some u=>rw[e] at h; exact .inl (af u (aW e) h)
 | none=>rw[e] at h; exact .inr h
theorem okA'_ne (h:okA' ns b vs=true):∃ y r,vs=y::r:=by
 cases vs with
 | nil=>cases b<;>exact Bool.noConfusion (show false=true from h)
 | cons y r=>exact (bn y r rfl)
theorem okO'_inv (h:okO' ns b vs=true):(∃ u,vs=[u]/\okE ns b u=true)\/okO ns b vs=true:=by
 unfold okO' at h
 cases e:bL vs with
 | some u=>rw[e] at h; exact .inl (af u (aW e) h)
 | none=>rw[e] at h; exact .inr h
theorem okO'_ne (h:okO' ns b vs=true):∃ y r,vs=y::r:=by
 cases vs with
 | nil=>cases b<;>exact Bool.noConfusion (show false=true from h)
 | cons y r=>exact (bn y r rfl)
theorem oR (a b:E) (σ:St):((ev C (.and a b) σ).bind λr=>ao r.1)=((ev C a σ).bind λr=>ao r.1).bind λt=>if t then (ev C b σ).bind λr=>ao r.1 else .ok false:=by
 simp only[eO]
 cases ev C a σ with
 | ok r=>
  simp only[Out.ok_bind]
  cases ao r.1 with
  | ok t=>
   cases t with
   | false=>rfl
   | true=>
    simp only[Out.ok_bind,if_true]
    cases ev C b σ with
    | ok q=>simp only[Out.ok_bind]; cases ao q.1<;>rfl
    | exc c=>rfl
    | bad=>rfl
  | exc c=>rfl
  | bad=>rfl
 | exc c=>rfl
 | bad=>rfl
theorem pQ (a b:E) (σ:St):((ev C (.or a b) σ).bind λr=>ao r.1)=((ev C a σ).bind λr=>ao r.1).bind λt=>if t then .ok true else (ev C b σ).bind λr=>ao r.1:=by
 simp only[fU]
 cases ev C a σ with
 | ok r=>
  simp only[Out.ok_bind]
  cases ao r.1 with
  | ok t=>
   cases t with
   | true=>rfl
   | false=>
    simp only[Out.ok_bind,false_eq_true,if_false]
    cases ev C b σ with
    | ok q=>simp only[Out.ok_bind]; cases ao q.1<;>rfl
    | exc c=>rfl
    | bad=>rfl
  | exc c=>rfl
  | bad=>rfl
 | exc c=>rfl
 | bad=>rfl
theorem s9 (h:ev C (.and a b) σ = .ok r):∃ t,r=sB t:=by
 simp only[eO] at h
 refine Out.bind_k h λx _ h=>?_
 refine Out.bind_k h λt _ h=>?_
 cases t with
 | false=>exact ⟨false,by simpa using h.symm⟩
 | true=>
  simp only[if_true] at h
  refine Out.bind_k h λy _ h=>?_
  refine Out.bind_k h λu _ h=>?_
  (have g:=Out.ok.inj h; clear h; subst g); exact ⟨u,rfl⟩
theorem vm (h:ev C (.or a b) σ = .ok r):∃ t,r=sB t:=by
 simp only[fU] at h
 refine Out.bind_k h λx _ h=>?_
 refine Out.bind_k h λt _ h=>?_
 cases t with
 | true=>exact ⟨true,by simpa using h.symm⟩
 | false=>
  simp only[false_eq_true,if_false] at h
  refine Out.bind_k h λy _ h=>?_
  refine Out.bind_k h λu _ h=>?_
  (have g:=Out.ok.inj h; clear h; subst g); exact ⟨u,rfl⟩
theorem dN {o:Out (V×Mode)}{c:String}(h:(o.bind λr=>ao r.1) = .exc c):o = .exc c:=by
 rcases b8 h with h | ⟨_,_,h⟩
 ·exact h
 ·exact absurd h pf
section
variable (hXP:∀ c s s₁ x s',Kp s s₁->XP c s₁ x s'->XP c s x s')
include hXP
theorem CR (Sa:SimE fns k C XP a) (Ab:SimA fns k C XP b)
  (oa:okE env.scope.names a v=true) (ob:okA' env.scope.names b vs=true) (X:Cx fns k A P s.heap env σ) (nb:((ev C (.and a b) σ).bind λr=>ao r.1)≠.bad)
  (hQ:∀ t,((ev C (.and a b) σ).bind λr=>ao r.1) = .ok t->∀ s',Kp s s'->Q (.bool t) s') (hE:∀ c,ev C (.and a b) σ = .exc c->∀ x s',XP c s x s'->Er x s') :
  wpAny (model prog w) A (boolOp pos .And (evalEach (v::vs) env)) Q Er s:=by
 refine bj (okA'_ne ob) λy r o=>?_
 subst o
 have j:∀ c,((ev C (.and a b) σ).bind λr=>ao r.1) = .exc c->∀ x s',XP c s x s'->Er x s':=λc h=>hE c (dN h)
 rw[oR] at nb hQ j
 refine aN nb λn1 z=>?_
 refine tz (uB Sa oa X n1 (λt n i g=>wpAny_truthy_bool ?_) λc q=>j c (by rw[q]; rfl))
 cases t with
 | false=>exact hQ false (by rw[n]; rfl) i g
 | true=>
  have u:=z true n
  simp only[if_true] at u ⊢
  refine Ab ob (X.k g.k) u (λt p l m=>hQ t (by rw[n]; simpa using p) l (g.trans m)) λc q x s' hx=>j c (by rw[n]; simp[q]) x s' (hXP c s i x s' g hx)
theorem orL (Sa:SimE fns k C XP a) (Ab:SimO fns k C XP b)
  (oa:okE env.scope.names a v=true) (ob:okO' env.scope.names b vs=true) (X:Cx fns k A P s.heap env σ) (nb:((ev C (.or a b) σ).bind λr=>ao r.1)≠.bad)
  (hQ:∀ t,((ev C (.or a b) σ).bind λr=>ao r.1) = .ok t->∀ s',Kp s s'->Q (.bool t) s') (hE:∀ c,ev C (.or a b) σ = .exc c->∀ x s',XP c s x s'->Er x s') :
  wpAny (model prog w) A (boolOp pos .Or (evalEach (v::vs) env)) Q Er s:=by
 refine bj (okO'_ne ob) λy r o=>?_
 subst o
 have j:∀ c,((ev C (.or a b) σ).bind λr=>ao r.1) = .exc c->∀ x s',XP c s x s'->Er x s':=λc h=>hE c (dN h)
 rw[pQ] at nb hQ j
 refine aN nb λn1 z=>?_
 refine wa (uB Sa oa X n1 (λt n i g=>wpAny_truthy_bool ?_) λc q=>j c (by rw[q]; rfl))
 cases t with
 | true=>exact hQ true (by rw[n]; rfl) i g
 | false=>
  have u:=z false n
  simp only[false_eq_true,if_false] at u ⊢
  refine Ab ob (X.k g.k) u (λt p l m=>hQ t (by rw[n]; simpa using p) l (g.trans m)) λc q x s' hx=>j c (by rw[n]; simp[q]) x s' (hXP c s i x s' g hx)
theorem AC (Sa:SimT fns k C XP a) (Ab:SimTA fns k C XP b)
  (oa:okE env.scope.names a v=true) (ob:okA' env.scope.names b vs=true) (X:Cx fns k A P s.heap env σ) (nb:((ev C (.and a b) σ).bind λr=>ao r.1)≠.bad)
  (hQ:∀ t,((ev C (.and a b) σ).bind λr=>ao r.1) = .ok t->∀ s',Kp s s'->Q t s') (hE:∀ c,ev C (.and a b) σ = .exc c->∀ x s',XP c s x s'->Er x s') :
  wpAny (model prog w) A (allTrue .And (v::vs) env) Q Er s:=by
 have j:∀ c,((ev C (.and a b) σ).bind λr=>ao r.1) = .exc c->∀ x s',XP c s x s'->Er x s':=λc h=>hE c (dN h)
 rw[oR] at nb hQ j
 refine aN nb λy u=>?_
 refine wpAny_allTrue_And_cons (Sa oa X y (λt n i g=>?_) λc p=>j c (by rw[p]; rfl))
 cases t with
 | false=>exact hQ false (by rw[n]; rfl) i g
 | true=>
  have q:=u true n
  simp only[if_true] at q ⊢
  refine Ab ob (X.k g.k) q (λt o l m=>hQ t (by rw[n]; simpa using o) l (g.trans m)) λc p x s' z=>j c (by rw[n]; simp[p]) x s' (hXP c s i x s' g z)
theorem Cs (Sa:SimT fns k C XP a) (Ab:SimTO fns k C XP b)
  (oa:okE env.scope.names a v=true) (ob:okO' env.scope.names b vs=true) (X:Cx fns k A P s.heap env σ) (nb:((ev C (.or a b) σ).bind λr=>ao r.1)≠.bad)
  (hQ:∀ t,((ev C (.or a b) σ).bind λr=>ao r.1) = .ok t->∀ s',Kp s s'->Q t s') (hE:∀ c,ev C (.or a b) σ = .exc c->∀ x s',XP c s x s'->Er x s') :
  wpAny (model prog w) A (allTrue .Or (v::vs) env) Q Er s:=by
 have j:∀ c,((ev C (.or a b) σ).bind λr=>ao r.1) = .exc c->∀ x s',XP c s x s'->Er x s':=λc h=>hE c (dN h)
 rw[pQ] at nb hQ j
 refine aN nb λy u=>?_
 refine wpAny_allTrue_Or_cons (Sa oa X y (λt n i g=>?_) λc p=>j c (by rw[p]; rfl))
 cases t with
 | true=>exact hQ true (by rw[n]; rfl) i g
 | false=>
  have q:=u false n
  simp only[false_eq_true,if_false] at q ⊢
  refine Ab ob (X.k g.k) q (λt o l m=>hQ t (by rw[n]; simpa using o) l (g.trans m)) λc p x s' z=>j c (by rw[n]; simp[p]) x s' (hXP c s i x s' g z)
theorem sW {ex:Expr}(h:okE ns (.and a b) ex=true):∃ v vs p,ex = .BoolOp .And (v::vs) p/\okE ns a v=true/\okA' ns b vs=true:=by
 replace h:=Fj h
 revert h; refine λg=>Or.elim g (λi=>?_) (λh=>?_)
 ·clear g
  refine bz (i) λm l k j h=>?_
  clear i
  subst j
  simp only[and_eq_true] at h
  exact (cI _ _ _ rfl h.1 h.2)
 ·cases h
theorem vH {ex:Expr}(h:okE ns (.or a b) ex=true):∃ v vs p,ex = .BoolOp .Or (v::vs) p/\okE ns a v=true/\okO' ns b vs=true:=by
 replace h:=KI h
 revert h; refine λg=>Or.elim g (λi=>?_) (λh=>?_)
 ·clear g
  refine bz (i) λm l k j h=>?_
  clear i
  subst j
  simp only[and_eq_true] at h
  exact (cI _ _ _ rfl h.1 h.2)
 ·cases h
theorem Ca (Sa:SimE fns k C XP a) (Ab:SimA fns k C XP b):SimE fns k C XP (.and a b):=by
 intro ex A env m P s Q Er ok X y hQ hE
 refine aL (sW hXP ok) λv vs p j x q=>?_
 (clear ok; subst j)
 rw[arm_eval_BoolOp]
 refine CR hXP Sa Ab x q X (λh=>?_) (λt g n z=>?_) hE
 ·cases e:ev C (.and a b) m with
  | ok r=>rw[e] at h; obtain ⟨t,rfl⟩:=s9 e; cases h
  | exc c=>rw[e] at h; cases h
  | bad=>exact y e
 ·refine Out.bind_k g λr l g=>?_
  refine ai (s9 l) λu i=>?_
  subst i
  (have o:=Out.ok.inj g; clear g; subst o)
  exact hQ _ l _ n (.bool z)
theorem C6 (Sa:SimE fns k C XP a) (Ab:SimO fns k C XP b):SimE fns k C XP (.or a b):=by
 intro ex A env m P s Q Er ok X y hQ hE
 refine aL (vH hXP ok) λv vs p j x q=>?_
 (clear ok; subst j)
 rw[arm_eval_BoolOp]
 refine orL hXP Sa Ab x q X (λh=>?_) (λt g n z=>?_) hE
 ·cases e:ev C (.or a b) m with
  | ok r=>rw[e] at h; obtain ⟨t,rfl⟩:=vm e; cases h
  | exc c=>rw[e] at h; cases h
  | bad=>exact y e
 ·refine Out.bind_k g λr l g=>?_
  refine ai (vm l) λu i=>?_
  subst i
  (have o:=Out.ok.inj g; clear g; subst o)
  exact hQ _ l _ n (.bool z)
theorem yp (Sa:SimT fns k C XP a) (Ab:SimTA fns k C XP b):SimT fns k C XP (.and a b):=by
 intro ex A o q P s Q Er h X l m n
 refine aL (sW hXP h) λv r p g j i=>?_
 (clear h; subst g)
 exact wpAny_isTrue_BoolOp (AC hXP Sa Ab j i X l m n)
theorem BP (Sa:SimT fns k C XP a) (Ab:SimTO fns k C XP b):SimT fns k C XP (.or a b):=by
 intro ex A o q P s Q Er h X l m n
 refine aL (vH hXP h) λv r p g j i=>?_
 (clear h; subst g)
 exact wpAny_isTrue_BoolOp (Cs hXP Sa Ab j i X l m n)
end
theorem lF (S:SimE fns k C XP e) (h:∀ {vs:List Expr}{pos:Pos}{A:Around}{env:Env}{σ:St}{P:Addr->Prop}{s:Shared}{Q:Value->Shared->Prop}{Er:Value->Shared->Prop},
  okA env.scope.names e vs=true->Cx fns k A P s.heap env σ->((ev C e σ).bind λr=>ao r.1)≠.bad ->
  (∀ b,((ev C e σ).bind λr=>ao r.1) = .ok b->∀ s',Kp s s'->Q (.bool b) s')->(∀ c,ev C e σ = .exc c->∀ x s',XP c s x s'->Er x s')->wpAny (model prog w) A (boolOp pos .And (evalEach vs env)) Q Er s):SimA fns k C XP e:=by
 intro vs pos A env σ P s Q Er ok X m n o
 replace ok:=okA'_inv ok
 revert ok; refine λg=>Or.elim g (λi=>?_) (λok=>?_)
 ·clear g
  refine ae (i) λl j ok=>?_
  clear i
  subst j
  exact mM (uB S ok X m n o)
 ·exact h ok X m n o
theorem lR (S:SimE fns k C XP e) (h:∀ {vs:List Expr}{pos:Pos}{A:Around}{env:Env}{σ:St}{P:Addr->Prop}{s:Shared}{Q:Value->Shared->Prop}{Er:Value->Shared->Prop},
  okO env.scope.names e vs=true->Cx fns k A P s.heap env σ->((ev C e σ).bind λr=>ao r.1)≠.bad ->
  (∀ b,((ev C e σ).bind λr=>ao r.1) = .ok b->∀ s',Kp s s'->Q (.bool b) s')->(∀ c,ev C e σ = .exc c->∀ x s',XP c s x s'->Er x s')->wpAny (model prog w) A (boolOp pos .Or (evalEach vs env)) Q Er s):SimO fns k C XP e:=by
 intro vs pos A env σ P s Q Er ok X m n o
 replace ok:=okO'_inv ok
 revert ok; refine λg=>Or.elim g (λi=>?_) (λok=>?_)
 ·clear g
  refine ae (i) λl j ok=>?_
  clear i
  subst j
  exact mM (uB S ok X m n o)
 ·exact h ok X m n o
theorem ku (S:SimT fns k C XP e) (h:∀ {vs:List Expr}{A:Around}{env:Env}{σ:St}{P:Addr->Prop}{s:Shared}{Q:Bool->Shared->Prop}{Er:Value->Shared->Prop},
  okA env.scope.names e vs=true->Cx fns k A P s.heap env σ->((ev C e σ).bind λr=>ao r.1)≠.bad ->
  (∀ b,((ev C e σ).bind λr=>ao r.1) = .ok b->∀ s',Kp s s'->Q b s')->(∀ c,ev C e σ = .exc c->∀ x s',XP c s x s'->Er x s')->wpAny (model prog w) A (allTrue .And vs env) Q Er s):SimTA fns k C XP e:=by
 intro vs A env σ P s Q Er ok X n m q
 replace ok:=okA'_inv ok
 revert ok; refine λg=>Or.elim g (λi=>?_) (λok=>?_)
 ·clear g
  refine ae (i) λl j ok=>?_
  clear i
  subst j
  refine wpAny_allTrue_And_cons (S ok X n (λt p s' o=>?_) q)
  cases t with
  | false=>exact m _ p s' o
  | true=>exact wpAny_allTrue_And_nil (m _ p s' o)
 ·exact h ok X n m q
theorem kA (S:SimT fns k C XP e) (h:∀ {vs:List Expr}{A:Around}{env:Env}{σ:St}{P:Addr->Prop}{s:Shared}{Q:Bool->Shared->Prop}{Er:Value->Shared->Prop},
  okO env.scope.names e vs=true->Cx fns k A P s.heap env σ->((ev C e σ).bind λr=>ao r.1)≠.bad ->
  (∀ b,((ev C e σ).bind λr=>ao r.1) = .ok b->∀ s',Kp s s'->Q b s')->(∀ c,ev C e σ = .exc c->∀ x s',XP c s x s'->Er x s')->wpAny (model prog w) A (allTrue .Or vs env) Q Er s):SimTO fns k C XP e:=by
 intro vs A env σ P s Q Er ok X n m q
 replace ok:=okO'_inv ok
 revert ok; refine λg=>Or.elim g (λi=>?_) (λok=>?_)
 ·clear g
  refine ae (i) λl j ok=>?_
  clear i
  subst j
  refine wpAny_allTrue_Or_cons (S ok X n (λt p s' o=>?_) q)
  cases t with
  | false=>exact wpAny_allTrue_Or_nil (m _ p s' o)
  | true=>exact m _ p s' o
 ·exact h ok X n m q
end
section
theorem EP.aList (kp:Kp s s') (hn:s.heap.get? a=none)
  (ha:s'.heap.get? a=some ⟨.type "list", none,.seq vs.toArray n,#[]⟩) (r:RA s'.heap vs xs as) (hl:xs.length<=2^22) (hz:∀ x∈xs,sz x=true) (hP:∀ b∈as,P b/\b≠a) :
  EP P s (.d (.list xs),fresh xs) (.ref a) s':=by
 refine ⟨kp,a::as,⟨.list ha r,sz_list.mpr ⟨hl,hz⟩⟩,?_,?_,?_⟩
 ·intro b h
  rcases mem_cons.mp h with rfl | h
  ·exact .inr hn
  ·exact .inl (hP b h).1
 ·intro _
  exact (aU _ _ rfl hn (λh=>(hP a h).2 rfl))
 ·intro i
  have g:xs.all sx=true:=by
   unfold fresh at i; dsimp only at i; split at i
   ·assumption
   ·cases i
  rw[r.sx_nil g]
  refine ⟨λb h=>?_,by simp⟩
  rcases mem_cons.mp h with rfl | h
  ·exact hn
  ·cases h
theorem R.isList (r:R h v (.list xs) as):∃ a vs n bs,v = .ref a/\h.get? a=some ⟨.type "list", Option.none,.seq vs.toArray n,#[]⟩/\RA h vs xs bs/\as=a::bs:=by
 cases r with
 | list e r=>exact (j4 _ _ _ _ rfl e r rfl)
theorem R.isList_k {h:Heap}{v:Value}{xs:List PyData}{as:List Addr}{G:Prop}(r:R h v (.list xs) as) (k:∀ a vs n bs,v = .ref a->h.get? a=some ⟨.type "list", Option.none,.seq vs.toArray n,#[]⟩->RA h vs xs bs->as=a::bs->G):G:=gv (R.isList r) k
theorem R.isTup (r:R h v (.tuple xs) as):∃ a vs n,v = .ref a/\h.get? a=some ⟨.type "tuple", Option.none,.seq vs.toArray n,#[]⟩/\RA h vs xs as:=by
 cases r with
 | tuple e r=>exact (cI _ _ _ rfl e r)
theorem isL {h:Heap}{a:Addr}{vs:List Value}{n:Nat}(e:h.get? a=some ⟨.type "list", none,.seq vs.toArray n,#[]⟩):h.IsList a vs.toArray:=(aw _ e rfl (bT n rfl))
theorem vC:okE ns e (.Slice a b c p)=false:=by cases e<;>rfl
theorem rW:okE ns e (.Starred a p)=false:=by cases e<;>rfl
theorem gn (h:okE ns e x=true) (o i:Value):subscripted x false o i=operate [o,i] (getItem o i):=by
 cases x<;>first | rfl | (rw[vC] at h; cases h)
theorem aO (h:okE ns e x=true) (rest:List Expr) (env:Env):starEach (x::rest) env=(false,eval x env)::starEach rest env:=by
 cases x<;>first | rfl | (rw[rW] at h; cases h)
section
theorem Hi (r:R s.heap v y bs) (z:sz y=true) (h:∀ b∈bs,P b):EP P s (mk (.d y)) v s:=tA (x:=.d y) ⟨r,z⟩ h
def ItemV (h:Heap) (v:Value) (i:Int) (u:Value):Prop:=∃ (a:Addr) (T:String) (vs:List Value) (n k:Nat),v = .ref a/\h.get? a=some ⟨.type T,none,.seq vs.toArray n,#[]⟩/\be i vs.length=some k/\vs[k]? = some u
theorem g9 (h:be i n=some k):(0<=i/\i<n/\k=i.toNat)\/(i<0/\-(n:Int)<=i/\k=(i+n).toNat):=by
 unfold be at h
 by_cases h0:0<=i
 ·rw[if_pos h0] at h
  by_cases h1:i<n
  ·rw[if_pos h1] at h; exact .inl ⟨h0,h1,(Option.some.inj h).symm⟩
  ·rw[if_neg h1] at h; exact nN h
 ·rw[if_neg h0] at h
  by_cases h1:-(n:Int)<=i
  ·rw[if_pos h1] at h; exact .inr ⟨by exact Hc h0,h1,(Option.some.inj h).symm⟩
  ·rw[if_neg h1] at h; exact nN h
theorem yn {value slice:Expr}{a:Addr}{vs:List Value}{n k:Nat}{i:Int}{t:Tok}{v:Value}(hs:∀ o i,subscripted slice false o i=operate [o,i] (getItem o i)) (ea:s.heap.get? a=some ⟨.type "list", none,.seq vs.toArray n,#[]⟩) (hl:vs.length<=2^22)
  (hk:be i vs.length=some k) (hv:vs[k]? = some v) (hQ:Q v s):wpAny (model prog w) A (subscriptTail value slice (.ref a) (.int i t)) Q Er s:=by
 rcases g9 hk with ⟨h0,h1,rfl⟩ | ⟨h0,h1,rfl⟩
 ·exact tail_any (isL ea).typeIs slot_list_getitem.lookup (wpAny_getItem_list (isL ea) h0 (Gw hl h1) (by simpa using hv) hQ) (hs _ _)
 ·refine tail_any (isL ea).typeIs slot_list_getitem.lookup (wpAny_getItem_list_neg (isL ea) h0 (by rw[size_toArray]; exact h1) (E3 hl h1) ?_ hQ) (hs _ _)
  rw[size_toArray]
  simpa using hv
theorem BR {value slice:Expr}{a:Addr}{vs:List Value}{n k:Nat}{i:Int}{t:Tok}{v:Value}(hs:∀ o i,subscripted slice false o i=operate [o,i] (getItem o i)) (ea:s.heap.get? a=some ⟨.type "tuple", none,.seq vs.toArray n,#[]⟩) (hl:vs.length<=2^22)
  (hk:be i vs.length=some k) (hv:vs[k]? = some v) (hQ:Q v s):wpAny (model prog w) A (subscriptTail value slice (.ref a) (.int i t)) Q Er s:=by
 have h:seqIndex? i (vs.toArray).size=some k:=by
  rw[size_toArray]
  rcases g9 hk with ⟨h0,h1,rfl⟩ | ⟨h0,h1,rfl⟩
  ·have j:¬ i<0:=by exact zJ h0
   simp[seqIndex?,j,h0,h1]
  ·exact seqIndex_neg h0 h1
 have g:-(2^22)<=i/\i<2^22:=by rcases g9 hk with ⟨h0,h1,_⟩ | ⟨h0,h1,_⟩<;>lia
 exact tail_any (af _ ea rfl) slot_tuple_getitem.lookup (PySem.P.getItem_tuple ea (FY g) (GQ g) h (by simpa using hv) hQ) (hs _ _)
theorem pN (hs:∀ o i,subscripted slice false o i=operate [o,i] (getItem o i)) (he:jM x i=some y) (ra:R s.heap va x as) (za:sz x=true)
  (hQ:∀ v ds,ItemV s.heap va i v->R s.heap v y ds->sz y=true->(∀ b∈ds,b∈as)->Q v s):wpAny (model prog w) A (subscriptTail value slice va (.int i t)) Q Er s:=by
 unfold jM at he
 cases hx:asL x with
 | some xs=>
  rw[hx] at he
  cases bR hx
  refine bk he λk hk j=>?_
  refine ra.isList_k λa p n cs z m g u=>?_
  (clear ra; subst z)
  subst u
  refine az (g.get j) λv ds l q hd=>?_
  have h:=sz_list.mp za
  have hl:=g.length
  rw[<- hl] at hk h
  exact yn hs m h.1 hk l (hQ v ds (nk a _ p n k rfl m hk l) q (h.2 y (mem_of_getElem? j)) λb hb=>.tail _ (hd b hb))
 | none=>
  rw[hx] at he
  cases ht:asT x with
  | none=>rw[ht] at he; exact nN he
  | some xs=>
   rw[ht] at he
   cases jh ht
   refine bk he λk hk j=>?_
   refine aL (ra.isTup) λa p n r m g=>?_
   (clear ra; subst r)
   refine az (g.get j) λv ds l q hd=>?_
   have h:=sz_tuple.mp za
   have hl:=g.length
   rw[<- hl] at hk h
   exact BR hs m h.1 hk l (hQ v ds (nk a _ p n k rfl m hk l) q (h.2 y (mem_of_getElem? j)) hd)
theorem yu (hs:∀ o i,subscripted slice false o i=operate [o,i] (getItem o i)) (he:fk x i = .ok r) (ra:R s.heap va x as) (za:sz x=true) (rb:R s.heap vb i bs) (ha:∀ a∈as,P a)
  (hQ:∀ v s',EP P s r v s'->Q v s'):wpAny (model prog w) A (subscriptTail value slice va vb) Q Er s:=by
 refine bh he λk hk he=>?_
 refine bh he λy m he=>?_
 (have l:=Out.ok.inj he; clear he; subst l)
 cases c8 hk
 refine rb.isInt_k λuu h g=>?_
 (clear rb; subst h)
 subst g
 exact pN hs m ra za λv q _ j z n=>hQ v s (Hi j z λb p=>ha b (n b p))
end
theorem xE:fk x y≠.exc c:=A8 c
theorem nC (hXP:∀ c s s₁ x s',Kp s s₁->XP c s₁ x s'->XP c s x s') {a b:E}(Sa:SimE fns k C XP a) (Sb:SimE fns k C XP b):SimE fns k C XP (.sub a b):=by
 intro ex A env σ P s Q Er g X t u z
 replace g:=Jh g
 revert g; refine λh=>Or.elim h (λi=>?_) (λg=>?_)
 ·clear h
  refine bz (i) λn m l j g=>?_
  clear i
  subst j
  simp only[and_eq_true] at g
  simp only[fJ] at t u z
  refine Subscript_ (jS hXP Sa Sb (f:=λx y=>match x,y with | .d x,.d y=>fk x y | _,_=>.bad) g.1 g.2 X t z (λx y c=>?_) λx y r hr o va vb p as bs kp q rb ha hb=>?_)
  ·split
   ·exact xE
   ·simp
  ·split at o
   ·exact yu (gn g.2) o q.1 q.2 rb.1 ha λv s' e=>u r hr v s' (.shift kp e)
   ·exact nB o
 ·cases g
theorem jp {M:Model}{A:Around}{env:Env}{e:Expr}{Q:Value->Shared->Prop}{E:Value->Shared->Prop}{s:Shared}(h:wpAny M A (eval e env) Q E s):wpAny M A (evalPart (some e) env) Q E s:=by rw[evalPart_some]; exact h
theorem dJ {M:Model}{A:Around}{env:Env}{Q:Value->Shared->Prop}{E:Value->Shared->Prop}{s:Shared}(h:Q .none s):wpAny M A (evalPart none env) Q E s:=by rw[evalPart_none]; exact wpAny_pure h
section
theorem m5 {value slice:Expr}{xs ys:List PyData}{lo hi st:Option Int}(hs:∃ ops:Value->Value->List Value,∀ o i,subscripted slice false o i=operate (ops o i) (getItem o i)) (ra:R s.heap va (.list xs) as) (za:sz (.list xs)=true) (ha:∀ a∈as,P a)
  (pl:IsPart vl lo) (pu:IsPart vu hi) (pt:IsPart vt st) (h0:st≠some 0) (hy:∀ vs cs,RA s.heap vs xs cs->∃ ws ds,slicePick vs.toArray lo hi st=ws.toArray/\RA s.heap ws ys ds/\∀ b∈ds,b∈cs) (hz:∀ y∈ys,sz y=true) (hl:ys.length<=2^22)
  (hQ:∀ v s',EP P s (.d (.list ys),fresh ys) v s'->Q v s') :
  wpAny (model prog w) A (subscriptTail value slice va (.ref s.heap.objs.size)) Q Er {s with heap:=s.heap.push {cls:=.type "slice", data:=.fields #[vl,vu,vt] } }:=by
 refine ra.isList_k λa vs n cs m t j l=>?_
 (clear ra; subst m)
 subst l
 refine az (hy vs cs j) λws ds e1 h u=>?_
 revert hs; intro g
 refine ai (g) λops hs=>?_
 clear g
 have k:=(sz_list.mp za).1
 have z:=j.length
 refine tail_any ((isL t).push _).typeIs slot_list_getitem.lookup (wpAny_getItem_list_slice ((isL t).push _) (Heap.IsSliceOf.new ..) pl pu pt h0 ?_ (by rw[size_toArray]; unfold sizeLine; exact Aj k z)) (hs _ _)
 rw[e1]
 refine hQ _ _ (EP.aList (n:=0) (as:=ds) ((Kp.push s _ s.toks).trans (Kp.push _ _ s.toks)) ?_ (Heap.get?_push_size _ rfl) ((h.keep λuu uu e=>Heap.get?_push_of_some _ e).keep λuu uu e=>Heap.get?_push_of_some _ e) hl hz λb p=>⟨ha b (.tail _ (u b p)),?_⟩)
 ·exact Heap.get?_none_of_le (by simp)
 ·refine bj (h.there b p) λuu uu e=>?_
  have r:=lt_size e
  intro q
  have x:b=s.heap.objs.size+1:=q.trans (size_push ..)
  rw[x] at r
  exact Nat.not_lt.mpr (le_succ _) r
end
theorem yW:jR x y≠.exc c:=by unfold jR; split<;>(try split)<;>simp
theorem yo:jK x y≠.exc c:=by unfold jK; split<;>(try split)<;>simp
set_option tactic.hygienic true in
theorem Cd (hXP:∀ c s s₁ x s',Kp s s₁->XP c s₁ x s'->XP c s x s') {a b:E}(Sa:SimE fns k C XP a) (Sb:SimE fns k C XP b):SimE fns k C XP (.slo a b):=by
 intro ex A env σ P s Q Er h X nb hQ hE
 replace h:=Ih h
 revert h; refine λm=>Or.elim m (λn=>?_) (λh=>?_)
 ·clear m
  refine cH (n) λv l p pos q h=>?_
  clear n
  subst q
  simp only[and_eq_true] at h
  simp only[gB] at nb hQ hE
  have u:=jS hXP Sa Sb (f:=λx y=>match x,y with | .d x,.d y=>jR x y | _,_=>.bad) (G:=λva vb g=>wpAny (model prog w) A (subscriptTail v (.Slice (some l) none none p) va (.ref g.heap.objs.size)) Q Er
    {g with heap:=g.heap.push {cls:=.type "slice", data:=.fields #[vb,.none,.none] } }) h.1 h.2 X nb hE (λx y c=>by split; exact yW; simp) λx y r hr t va vb g as bs kp ra rb ha hb=>by
   split at t
   ·unfold jR at t
    split at t
    ·split at t<;>cases t
     rename_i xs i hi
     revert rb; intro j
     refine aa (j) λrb _=>?_
     clear j
     refine rb.isInt_k λuu K6 K3=>?_
     (clear rb; subst K6)
     subst K3
     refine m5 (lo:=some i) (hi:=none) (st:=none) ⟨λo i=>[i,o],λuu uu=>rfl⟩ ra.1 ra.2 ha (.int _ _) .none .none (by simp) (λvs cs r=>?_) (λy hy=>(sz_list.mp ra.2).2 y (List.mem_of_mem_drop hy)) (by have:=(sz_list.mp ra.2).1; rw[length_drop]; exact G2 this) λv s' e=>hQ _ hr v s' (.shift kp e)
     refine ae (r.drop i.toNat) λds rd hd=>?_
     refine (aU _ ds ?_ rd hd)
     have:=slicePick_from' vs.toArray i.toNat
     rw[toNat_of_nonneg hi.1] at this
     exact this
    ·exact nB t
   ·exact nB t
  exact Subscript_ (wpAny_mono u (λo s₁ h₁=>wpAny_Slice (jp (wpAny_mono h₁ (λvb g z=>dJ (dJ z)) λuu uu e=>e))) λuu uu e=>e)
 ·cases h
set_option tactic.hygienic true in
theorem BZ (hXP:∀ c s s₁ x s',Kp s s₁->XP c s₁ x s'->XP c s x s') {a b:E}(Sa:SimE fns k C XP a) (Sb:SimE fns k C XP b):SimE fns k C XP (.shi a b):=by
 intro ex A env σ P s Q Er h X nb hQ hE
 replace h:=HY h
 revert h; refine λm=>Or.elim m (λn=>?_) (λh=>?_)
 ·clear m
  refine cH (n) λv l p pos q h=>?_
  clear n
  subst q
  simp only[and_eq_true] at h
  simp only[gQ] at nb hQ hE
  have main:=jS hXP Sa Sb (f:=λx y=>match x,y with | .d x,.d y=>jK x y | _,_=>.bad) (G:=λva vb g=>wpAny (model prog w) A (subscriptTail v (.Slice none (some l) none p) va (.ref g.heap.objs.size)) Q Er
    {g with heap:=g.heap.push {cls:=.type "slice", data:=.fields #[.none,vb,.none] } }) h.1 h.2 X nb hE (λx y c=>by split; exact yo; simp) λx y r hr t va vb g as bs kp ra rb ha hb=>by
   split at t
   ·unfold jK at t
    split at t
    ·split at t<;>cases t
     rename_i xs i hi
     revert rb; intro j
     refine aa (j) λrb _=>?_
     clear j
     refine rb.isInt_k λuu z u=>?_
     (clear rb; subst z)
     subst u
     refine m5 (lo:=none) (hi:=some i) (st:=none) ⟨λo i=>[i,o],λuu uu=>rfl⟩ ra.1 ra.2 ha .none (.int _ _) .none (by simp) (λvs cs r=>?_) (λy hy=>(sz_list.mp ra.2).2 y (List.mem_of_mem_take hy)) (by have:=(sz_list.mp ra.2).1; rw[length_take]; exact FO this) λv s' e=>hQ _ hr v s' (.shift kp e)
     refine ae (r.take i.toNat) λds rd hd=>?_
     refine (aU _ ds ?_ rd hd)
     have:=slicePick_upto' vs.toArray i.toNat
     rw[toNat_of_nonneg hi.1] at this
     exact this
    ·exact nB t
   ·exact nB t
  exact Subscript_ (wpAny_mono main (λo s₁ h₁=>wpAny_Slice (dJ (jp (wpAny_mono h₁ (λvb g h₂=>dJ h₂) λuu uu e=>e)))) λuu uu e=>e)
 ·cases h
end
section
variable (fns:Fns) (k:Nat) (C:Calls) (XP:String->Shared->Value->Shared->Prop)
noncomputable def fg (es:Es):Prop:=∀ {xs:List Expr}{pos:Pos}{A:Around}{env:Env}{σ:St}{P:Addr->Prop}{s:Shared}{Q:List Value->Shared->Prop}{Er:Value->Shared->Prop},
 dI env.scope.names es xs=true->Cx fns k A P s.heap env σ->evs C es σ≠.bad ->
 (∀ l,evs C es σ = .ok l->∀ vs s',EPs P s l vs s'->Q vs s')->(∀ c,evs C es σ = .exc c->∀ x s',XP c s x s'->Er x s') ->
 wpAny (model prog w) A (spliced (backTo pos (starEach xs env))) Q Er s
end
section
theorem kD:fg fns k C XP .nil:=by
 intro q m A o p P s Q Er l X r n t
 replace l:=uF l
 revert l; refine λg=>Or.elim g (λi=>?_) (λl=>?_)
 ·clear g
  refine aa (i) λj l=>?_
  clear i
  subst j
  exact wpAny_items_nil (n [] rfl [] s ⟨.refl s,[],.nil,λuu h=>(nomatch h),λuu=>⟨λuu h=>(nomatch h),.nil⟩⟩)
 ·cases l
theorem RV.there (r:RV h v x as):∀ a∈as,∃ o,h.get? a=some o:=by
 intro a ha
 cases x with
 | d x=>obtain ⟨_,_,e⟩:=r.1.there a ha; exact ⟨_,e⟩
 | dic0=>obtain ⟨b,_,rfl,_,⟨o,_,_,e,_⟩,_⟩:=r; rw[mem_singleton.mp ha]; exact ⟨o,e⟩
 | dicI ks=>obtain ⟨b,_,rfl,_,⟨o,_,_,e,_⟩⟩:=r; rw[mem_singleton.mp ha]; exact ⟨o,e⟩
 | dicT ks=>obtain ⟨b,_,_,rfl,_,⟨o,_,_,e,_⟩,_⟩:=r; rw[mem_singleton.mp ha]; exact ⟨o,e⟩
 | rule c d n=>
  refine C9 (r) λx D o m bs t u p h1 i l h4 h5 z y g k=>?_
  clear r
  subst i
  refine bz (g) λj es ep e q=>?_
  clear g
  rcases mem_cons.mp ha with rfl | ha
  ·exact ⟨o,l⟩
  ·rcases mem_cons.mp ha with rfl | ha
   ·exact ⟨j,e⟩
   ·obtain ⟨_,_,e⟩:=k.2.2.2.2.1.there a ha; exact ⟨_,e⟩
theorem RVs.length (r:RVs h xs vs as):vs.length=xs.length:=by
 induction r with
 | nil=>rfl
 | cons a q ih=>exact congrArg (· + 1) ih
theorem gy (hXP:∀ c s s₁ x s',Kp s s₁->XP c s₁ x s'->XP c s x s') {e:E}{es:Es}(S:SimE fns k C XP e) (Ss:fg fns k C XP es):fg fns k C XP (.cons e es):=by
 intro xs pos A env σ P s Q Er g X nb hQ hE
 replace g:=qe g
 revert g; refine λi=>Or.elim i (λj=>?_) (λg=>?_)
 ·clear i
  refine au (j) λx xs m g=>?_
  clear j
  subst m
  simp only[and_eq_true] at g
  simp only[bi] at nb hQ hE
  refine aN nb λn1 n2=>?_
  refine wpAny_items_cons (S g.1 X n1 (λr q v s₁ Ea=>?_) λc y=>hE c (by rw[y]; rfl)) (aO g.1 xs env)
  refine aN (n2 r q) λn3 _=>?_
  refine Ss g.2 (X.k Ea.keeps.k) n3 (λl hl vs n Eb=>?_) λc y z s' hz=>hE c (by rw[q,Out.ok_bind,y]; rfl) z s' (hXP c s s₁ z s' Ea.keeps hz)
  obtain ⟨p,as,ra,ha,_,hd⟩:=Ea
  obtain ⟨kb,bs,rb,hb,u⟩:=Eb
  refine hQ (r::l) (by rw[q,Out.ok_bind,hl]; rfl) (v::vs) n ⟨p.trans kb,as++bs,.cons (ra.k kb.k) rb,λa h=>(mem_append.mp h).elim (ha a) λh=>(hb a h).imp id p.none,λt=>?_⟩
  simp only[allDeep,List.all_cons,and_eq_true,decide_eq_true_eq] at t
  have d1:=hd t.1
  have d2:=u t.2
  refine ⟨λa h=>(mem_append.mp h).elim (d1.1 a) λh=>p.none (d2.1 a h),nodup_append.mpr ⟨d1.2,d2.2,λa h1 b h2 e=>?_⟩⟩
  subst e
  refine ai (ra.there a h1) λo ho=>?_
  rw[d2.1 a h2] at ho; exact nN ho
 ·cases g
theorem rf:∀ {l:List (V×Mode)}{ds:List PyData}{vs:List Value}{as:List Addr},cg l=some ds->RVs h (l.map (·.1)) vs as->RA h vs ds as/\∀ x∈ds,sz x=true
 | [],ds,_,_,e,r=>by
  cases r; simp[cg] at e; subst e
  exact ⟨.nil,λuu h=>nomatch h⟩
 | (.d x,m)::l,ds,_,_,e,r=>by
  simp only[cg,map_eq_some_iff] at e
  revert e; intro g
  refine ae (g) λk e i=>?_
  clear g
  subst i
  cases r with
  | cons r q=>
   refine aa (rf e q) λa b=>?_
   exact ⟨.cons r.1 a,λy j=>(mem_cons.mp j).elim (λq=>q▸r.2) (b y)⟩
 | (.dic0,m)::l,ds,_,_,e,r=>by simp[cg] at e
 | (.dicI _,m)::l,ds,_,_,e,r=>by simp[cg] at e
 | (.dicT _,m)::l,ds,_,_,e,r=>by simp[cg] at e
 | (.rule _ _ _,m)::l,ds,_,_,e,r=>by simp[cg] at e
theorem iU:∀ {l:List (V×Mode)}{ds:List PyData},cg l=some ds->ds.length=l.length
 | [],ds,e=>by simp[cg] at e; subst e; rfl
 | (.d x,m)::l,ds,e=>by
  simp only[cg,map_eq_some_iff] at e
  revert e; intro g
  refine ae (g) λi e h=>?_
  clear g
  subst h
  rw[length_cons,length_cons,iU e]
 | (.dic0,m)::l,ds,e=>by simp[cg] at e
 | (.dicI _,m)::l,ds,e=>by simp[cg] at e
 | (.dicT _,m)::l,ds,e=>by simp[cg] at e
 | (.rule _ _ _,m)::l,ds,e=>by simp[cg] at e
theorem jV:∀ {es:Es}{ns:List (Str×NameKind)}{xs:List Expr}{σ:St}{l:List (V×Mode)},dI ns es xs=true->evs C es σ = .ok l->l.length=xs.length
 | .nil,ns,xs,σ,l,ok,e=>by
  replace ok:=uF ok
  revert ok; refine λh=>Or.elim h (λj=>?_) (λok=>?_)
  ·clear h
   refine aa (j) λm ok=>?_
   clear j
   subst m
   simp only[bc] at e; (have p:=Out.ok.inj e; clear e; subst p); rfl
  ·cases ok
 | .cons a es,ns,xs,σ,l,ok,e=>by
  replace ok:=qe ok
  revert ok; refine λg=>Or.elim g (λi=>?_) (λok=>?_)
  ·clear g
   refine au (i) λo n k ok=>?_
   clear i
   subst k
   simp only[and_eq_true] at ok
   simp only[bi] at e
   refine Out.bind_k e λx _ e=>?_
   refine Out.bind_k e λr q e=>?_
   (have p:=Out.ok.inj e; clear e; subst p)
   rw[length_cons,length_cons,jV ok.2 q]
  ·cases ok
set_option tactic.hygienic true in
theorem rt {es:Es}(Ss:fg fns k C XP es):SimE fns k C XP (.list es):=by
 intro ex A env σ P s Q Er g X nb hQ hE
 replace g:=Dk g
 revert g; refine λj=>Or.elim j (λm=>?_) (λg=>?_)
 ·clear j
  refine au (m) λu t o g=>?_
  clear m
  subst o
  simp only[and_eq_true,decide_eq_true_eq] at g
  simp only[br] at nb hQ hE
  refine aN nb λn1 n2=>?_
  refine wpAny_List (Ss g.2 X n1 (λl x vs i Ea=>?_) λc hc=>hE c (by rw[hc]; rfl))
  have n3:=n2 l x
  split at n3
  ·rename_i ds p
   obtain ⟨q,as,y,ha,hd⟩:=Ea
   refine aa (rf p y) λr z=>?_
   have e1:=y.length
   rw[length_map] at e1
   have e2:=jV g.2 x
   have e3:=iU p
   refine ⟨by unfold sizeLine; exact z5 g e1 e2,hQ (.d (.list ds),if allDeep l then .deep else .top) (by rw[x,Out.ok_bind,p]) _ _ ⟨q.trans (.push i _ _),i.heap.objs.size::as,⟨.list (Heap.get?_push_size _ rfl) (r.keep λuu uu e=>Heap.get?_push_of_some _ e),sz_list.mpr ⟨by exact zY g e2 e3,z⟩⟩,?_,?_,?_⟩⟩
   ·intro a h
    rcases mem_cons.mp h with rfl | h
    ·exact .inr (q.none (bq _))
    ·exact ha a h
   ·intro _
    exact (aU _ _ rfl (q.none (bq _)) (λh=>bj (r.there _ h) λuu uu e=>fF e rfl))
   ·intro v
    have n:allDeep l=true:=by
     dsimp only at v
     split at v
     ·assumption
     ·cases v
    refine ⟨λa h=>?_,nodup_cons.mpr ⟨λh=>bj (r.there _ h) λuu uu e=>fF e rfl,(hd n).2⟩⟩
    rcases mem_cons.mp h with rfl | h
    ·exact q.none (bq _)
    ·exact (hd n).1 a h
  ·exact absurd rfl n3
 ·cases g
set_option tactic.hygienic true in
theorem tv (Ss:fg fns k C XP es):SimE fns k C XP (.tup es):=by
 intro ex A env σ P s Q Er g X y hQ hE
 replace g:=E7 g
 revert g; refine λh=>Or.elim h (λi=>?_) (λg=>?_)
 ·clear h
  refine bz (i) λu t q j g=>?_
  clear i
  subst j
  simp only[and_eq_true,decide_eq_true_eq] at g
  simp only[fi] at y hQ hE
  refine aN y λn1 n2=>?_
  refine wpAny_Tuple (Ss g.2 X n1 (λl v vs o Ea=>?_) λc hc=>hE c (by rw[hc]; rfl))
  have n3:=n2 l v
  split at n3
  ·rename_i ds n
   obtain ⟨ka,as,x,ha,hd⟩:=Ea
   refine aa (rf n x) λr z=>?_
   have e1:=x.length
   rw[length_map] at e1
   have e2:=jV g.2 v
   have e3:=iU n
   refine ⟨by unfold sizeLine; exact z5 g e1 e2,hQ (.d (.tuple ds),if allDeep l then .deep else .sh) (by rw[v,Out.ok_bind,n]) _ _ ⟨ka.trans (.push o _ _),as,⟨.tuple (Heap.get?_push_size _ rfl) (r.keep λuu uu e=>Heap.get?_push_of_some _ e),sz_tuple.mpr ⟨by exact zY g e2 e3,z⟩⟩,ha,?_,?_⟩⟩
   ·intro m
    dsimp only at m
    split at m<;>cases m
   ·intro m
    have p:allDeep l=true:=by
     dsimp only at m
     split at m
     ·assumption
     ·cases m
    exact hd p
  ·exact absurd rfl n3
 ·cases g
theorem yL:SimE fns k C XP .edic:=by
 intro ex A p q P s Q Er l X r o t
 replace l:=Dd l
 revert l; refine λg=>Or.elim g (λi=>?_) (λl=>?_)
 ·clear g
  refine ae (i) λm j l=>?_
  clear i
  subst j
  have n:=modules_low X.ge.nolim
  refine wpAny_Dict_empty (o (.dic0,.deep) rfl _ _ ⟨.push s _ _,[s.heap.objs.size],(jL _ rfl rfl (beq_eq_false_iff_ne.mpr (ne_of_gt n)) (Heap.DictOf.new _) ?_),λa h=>.inr ?_,λh=>(by cases h),λuu=>⟨λa h=>?_,by simp⟩⟩)
  ·exact (gz _ (#[]) 0 (Heap.get?_push_size _ rfl) ⟨rfl,rfl,rfl⟩ rfl rfl (λuu h=>(nomatch h)) .nil)
  ·rw[mem_singleton.mp h]; exact bq _
  ·rw[mem_singleton.mp h]; exact bq _
 ·cases l
end
theorem gU {α:Type}{r:α->α->Prop}(anti:∀ a b,r a b->r b a->a=b):∀ {l l':List α},l.Perm l'->l.Pairwise r->l'.Pairwise r->l=l'
 | [],l',p,_,_=>by rw[p.nil_eq]
 | a::l,[],p,_,_=>by cases p.eq_nil
 | a::l,b::l',p,h,h'=>by
  refine aa (pairwise_cons.mp h) λk j=>?_
  refine aa (pairwise_cons.mp h') λg i=>?_
  have e:a=b:=by
   rcases mem_cons.mp (p.mem_iff.mp (mem_cons_self (a:=a) (l:=l))) with e | e
   ·exact e
   ·rcases mem_cons.mp (p.mem_iff.mpr (mem_cons_self (a:=b) (l:=l'))) with e' | e'
    ·exact e'.symm
    ·exact anti a b (k b e') (g a e)
  (clear h' g; subst e)
  rw[gU anti ((List.perm_cons a).mp p) j i]
theorem ol (ns:List Int):(ns.mergeSort (λa b=>decide (a<=b))).Pairwise (·<=·):=by
 have:=List.pairwise_mergeSort (le:=λa b:Int=>decide (a<=b)) (λa b c h1 h2=>by simp at *; exact z6 h1 h2) (λa b=>by simp; exact AH) ns
 exact this.imp (by intro a b h; simpa using h)
theorem oW:∀ {xs:List Int}{m:Int},fE xs=some m->m∈xs/\∀ x∈xs,x<=m
 | [],_,h=>by simp[fE] at h
 | x::xs,m,h=>by
  simp only[fE,Option.some.injEq] at h
  have key:∀ (l:List Int) (a:Int),(l.foldl (λa b=>if a<b then b else a) a=a\/l.foldl (λa b=>if a<b then b else a) a∈l)/\a<=l.foldl (λa b=>if a<b then b else a) a/\∀ y∈l,y<=l.foldl (λa b=>if a<b then b else a) a:=by
   intro l
   induction l with
   | nil=>intro a; simp
   | cons b l ih=>
    intro a
    rw[foldl_cons]
    refine aG (ih (if a<b then b else a)) λh1 h2 h3=>?_
    refine ⟨?_,?_,λy hy=>?_⟩
    ·rcases h1 with h1 | h1
     ·rw[h1]; split<;>simp
     ·exact .inr (.tail _ h1)
    ·split at h2<;>rename_i hc<;>simp only[hc,if_true,if_false]<;>lia
    ·rcases mem_cons.mp hy with rfl | hy
     ·split at h2<;>rename_i hc<;>simp only[hc,if_true,if_false]<;>lia
     ·exact h3 y hy
  refine aG (key xs x) λh1 h2 h3=>?_
  rw[h] at h1 h2 h3
  exact ⟨h1.elim (λe=>e▸.head _) (.tail _),λy hy=>(mem_cons.mp hy).elim (λe=>e▸h2) (h3 y)⟩
section
theorem fA {env:Env}{x:String}(h:bC env.scope.names x=true):env.kindOf (Str.ofString x)=some .globalImplicit:=by
 unfold bC at h
 exact beq_iff_eq.mp h
theorem nd (h:aX x=true):(Str.ofString x==("__debug__" : Str))=false:=by
 unfold aX at h
 simp only[and_eq_true,Bool.not_eq_true'] at h
 exact h.1
section
theorem dG {id:String}{args:List Expr}(eok:EnvOk env) (ge:GE fns s.heap) (hm:id∈bnames) (hg:bC env.scope.names id=true) (hd:(Str.ofString id==("__debug__" : Str))=false)
  (h:wpAny (model prog w) A (callWith pos (bval id) [] (backTo pos (starEach args env)) []) Q Er s):wpAny (model prog w) A (eval (.Call (.Name (Str.ofString id) p) args [] pos) env) Q Er s:=by
 refine am (ge.glob) λl i _ g=>?_
 refine ae (ge.blt) λm k j=>?_
 exact wpAny_Call_NameR (Calls.Name_function_global eok.kind (fA hg) (Calls.loadGlobal_builtin (eok.glob▸i) (g id hm) (eok.blt▸k) (j id hm) h) hd)
theorem lU {id:String}{x:Expr}{xs:List Expr}{e:E}(ns:List (Str×NameKind)) (hx:okE ns e x=true) (ha:(backTo pos (starEach xs env)).any (·.1)=false)
  (h:wpAny (model prog w) A (spliced (backTo pos (starEach (x::xs) env))) (λvs s₁=>wpAny (model prog w) A (call (.builtin id) vs) Q Er s₁) Er s):wpAny (model prog w) A (callWith pos (.builtin id) [] (backTo pos (starEach (x::xs) env)) []) Q Er s:=by
 rw[aO hx] at h ⊢
 exact Calls.callWith_builtin ha (Calls.evalArgs_plain (wpAny_mono h (λvs s₁ g=>g) λuu uu e=>e))
theorem fo (ns:List (Str×NameKind)) (hx:okE ns e x=true) (ha:(backTo pos (starEach xs env)).any (·.1)=false)
  (h:wpAny (model prog w) A (spliced (backTo pos (starEach (x::xs) env))) (λvs s₁=>wpAny (model prog w) A (call (.type T) vs) Q Er s₁) Er s):wpAny (model prog w) A (callWith pos (.type T) [] (backTo pos (starEach (x::xs) env)) []) Q Er s:=by
 rw[aO hx] at h ⊢
 exact PySem.callWith_type ha (Calls.evalArgs_plain (wpAny_mono h (λvs s₁ g=>g) λuu uu e=>e))
theorem iY (ns:List (Str×NameKind)) (hx:okE ns e x=true) (h:wpAny (model prog w) A (eval x env) (λv s₁=>G [v] s₁) Er s):wpAny (model prog w) A (spliced (backTo pos (starEach [x] env))) G Er s :=
 wpAny_items_cons (wpAny_mono h (λuu uu g=>wpAny_items_nil g) λuu uu e=>e) (aO hx [] env)
end
section
theorem yt (he:b1D .len x = .ok r) (ra:RV s.heap va x as) (hQ:∀ v s',EP P s r v s'->Q v s'):wpAny (model prog w) A (call (.builtin "len") [va]) Q Er s:=by
 replace he:=aS he
 revert he; intro i
 refine ae (i) λy z he=>?_
 clear i
 cases bZ z
 cases ht:asT y with
 | none=>
  simp only[ht] at he
  replace he:=aS he
  revert he; intro h
  refine ae (h) λt hx he=>?_
  clear h
  cases bR hx
  (have o:=Out.ok.inj he; clear he; subst o)
  refine ra.1.isList_k λa u n cs m q g l=>?_
  subst m
  subst l
  have j:=g.length
  have p:=(sz_list.mp ra.2).1
  refine Calls.call_len_list (isL q) (by rw[size_toArray]; exact Fk j p) (hQ _ _ ?_)
  rw[size_toArray,j]
  exact .int (.toks s _)
 | some t=>
  simp only[ht] at he
  (have o:=Out.ok.inj he; clear he; subst o)
  cases jh ht
  refine aL (ra.1.isTup) λa u n k q g=>?_
  subst k
  have j:=g.length
  have p:=(sz_tuple.mp ra.2).1
  refine PySem.P.len_tuple q (by rw[size_toArray]; exact D8 j p) (hQ _ _ ?_)
  rw[size_toArray,j]
  exact .int (.toks s _)
theorem pe (hT:T = "list" \/ T = "tuple") (ea:s.heap.get? a=some ⟨.type T,none,.seq vs.toArray n,#[]⟩) (ra:RA s.heap vs xs cs) (hl:xs.length<=2^22)
  (hz:∀ x∈xs,sz x=true) (ha:∀ b∈cs,P b) (hQ:∀ v s',EP P s (.d (.list xs),fresh xs) v s'->Q v s'):wpAny (model prog w) A (call (.type "list") [.ref a]) Q Er s:=by
 have e:=ra.length
 refine call_list_seq a hT ea rfl rfl (λj l h k=>hQ _ _ ?_) (by rw[size_toArray]; unfold sizeLine; exact Aj hl e)
 have g:Kp s {s with heap:=j }:=(aC j s.toks rfl (.of h))
 refine EP.aList g (bq _) k (ra.keep h) hl hz λb i=>⟨ha b i,?_⟩
 refine bj (ra.there b i) λuu uu e=>?_
 exact fF e
theorem yg (ra:R s.heap va (.list xs) as) (za:sz (.list xs)=true) (ha:∀ b∈as,P b) (hQ:∀ v s',EP P s (.d (.tuple xs),if xs.all sx then .deep else .sh) v s'->Q v s'):wpAny (model prog w) A (call (.type "tuple") [va]) Q Er s:=by
 refine ra.isList_k λa t n z l y g k=>?_
 (clear ra; subst l)
 subst k
 have e:=g.length
 have r:=sz_list.mp za
 refine call_tuple_list (isL y) (λx p=>hQ _ _ ?_) (by rw[size_toArray]; unfold sizeLine; exact J3 e r)
 have m:Kp s {s with heap:=x.push {cls:=.type "tuple", data:=.seq t.toArray } }:=(aC _ s.toks rfl (.of λb o q=>Heap.get?_push_of_some _ (p b o q)))
 refine ⟨m,z,⟨.tuple (Heap.get?_push_size _ rfl) ((g.keep p).keep λuu uu e=>Heap.get?_push_of_some _ e),sz_tuple.mpr r⟩,λb u=>.inl (ha b (.tail _ u)),λi=>?_,λi=>?_⟩
 ·dsimp only at i; split at i<;>cases i
 ·have j:xs.all sx=true:=by
   dsimp only at i
   split at i
   ·assumption
   ·cases i
  rw[g.sx_nil j]
  exact ⟨λuu h=>(nomatch h),.nil⟩
theorem tY (ra:R s.heap va (.list xs) as) (hi:aJ xs=some ns) (h64:xs.length<64) (hQ:∀ v s',EP P s (.d (ac (ns.mergeSort (λa b=>decide (a<=b)))),.deep) v s'->Q v s') :
  wpAny (model prog w) A (call (.builtin "sorted") [va]) Q Er s:=by
 refine ra.isList_k λa vs n cs m ea i l=>?_
 (clear ra; subst m)
 subst l
 have e:=i.length
 refine aG (i.ints hi) λy k j=>?_
 subst k
 subst j
 rw[length_map] at e h64
 refine sorted_ints (isL ea) y (z2 h64 e) λg o z r p=>hQ _ _ ?_
 have e':o=ns.mergeSort (λa b=>decide (a<=b)):=gU (λa b h h'=>Int.le_antisymm h h') (r.trans (mergeSort_perm ns _).symm) p (ol ns)
 (clear r p; subst e')
 refine ai (sortedAll_at s.heap vs g) λe x=>?_
 have u:=List.length_mergeSort (le:=λa b:Int=>decide (a<=b)) ns
 have t:EP P s (.d (.list ((ns.mergeSort (λa b=>decide (a<=b))).map .int)),fresh ((ns.mergeSort (λa b=>decide (a<=b))).map .int)) (.ref (s.heap.objs.size+1)) {s with heap:=sortedAll s.heap vs g } :=
  EP.aList (vs:=g.toList) (n:=e) (as:=[]) (aC _ s.toks rfl (.of λuu uu q=>sortedAll_old q)) (Heap.get?_none_of_le (le_succ _)) (by simpa [seqObj] using x) (RA.of_ints z) (by rw[length_map,u]; exact zK h64) (jF _) λuu h=>(nomatch h)
 have ef:fresh ((ns.mergeSort (λa b=>decide (a<=b))).map .int) = .deep:=by
  unfold fresh
  rw[if_pos]
  rw[all_map,all_eq_true]
  intro _ _; rfl
 rw[ef] at t
 exact t
end
end
section
noncomputable def noIt (c:Value):Bool:=match c with
 | .type n=>!(["code", "enumerate", "zip", "dict_itemiterator", "dict_reverseitemiterator", "odict_iterator", "itertools.zip_longest", "itertools.pairwise"].contains n)
 | _=>true
theorem noIt.code (h:noIt c=true) (e:c = .type "code"):False:=by subst e; revert h; decide
structure ItP (A:Around) (P:Addr->Prop) (s:Shared) (ds:List PyData) (m:Mode) (it:Value) (s':Shared):Prop where
 keeps:Kp s s'
 walk:∃ (I:Addr) (fp wr:List Addr) (Pw:Nat->Value->Prop) (St:Nat->Heap->Prop) (F:List Addr),(it = .ref I/\I∈wr)/\Walks prog w A I fp wr ds.length Pw St/\St 0 s'.heap /\
  (∀ b∈wr,s.heap.get? b=none/\b∉F/\∀ i h,St i h->∃ o,h.get? b=some o/\(hardB o=true/\noIt o.cls=true/\∀ C,o.cls≠.ref C)/\∃ fs,o.data = .fields fs)/\(∀ b∈fp,b∈wr\/b∈F)/\(∀ i v,Pw i v->∀ d,ds[i]? = some d->∃ bs,R s'.heap v d bs/\∀ b∈bs,b∈F) /\
  (∀ b∈F,∃ vs n,s'.heap.get? b=some ⟨.type "list", none,.seq vs n,#[]⟩)/\(∀ a∈F,P a\/s.heap.get? a=none)/\(m = .deep->∀ a∈F,s.heap.get? a=none)
 small:ds.length<=2^22/\∀ d∈ds,sz d=true
variable (fns:Fns) (k:Nat) (C:Calls) (XP:String->Shared->Value->Shared->Prop)
noncomputable def cZ (it:It):Prop:=∀ {ex:Expr}{A:Around}{env:Env}{σ:St}{P:Addr->Prop}{s:Shared}{Q:Value->Shared->Prop}{Er:Value->Shared->Prop},
 eh env.scope.names it ex=true->Cx fns k A P s.heap env σ->aZ C it σ≠.bad ->
 (∀ q,aZ C it σ = .ok q->∀ i s',ItP A P s q.1 q.2 i s'->Q i s')->(∀ c,aZ C it σ = .exc c->∀ x s',XP c s x s'->Er x s') ->
 wpAny (model prog w) A (eval ex env) (λx g=>wpAny (model prog w) A (pyIter x) Q Er g) Er s
end
section
theorem vW (k₀:Kp s₀ s) (hh:A.handled=none) (ra:R s.heap va (.list xs) as) (za:sz (.list xs)=true)
  (ha:∀ a∈as,P a\/s₀.heap.get? a=none) (hm:m = .deep->∀ a∈as,s₀.heap.get? a=none) (hQ:∀ it s',ItP A P s₀ xs m it s'->Q it s'):wpAny (model prog w) A (pyIter va) Q Er s:=by
 refine ra.isList_k λa j n cs p x g l=>?_
 subst p
 subst l
 refine wpAny_pyIter_list (isL x) (hQ _ _ ⟨k₀.trans (.push s _ _),⟨s.heap.objs.size,[s.heap.objs.size,a],[s.heap.objs.size],(λi v=>j.toArray[i]? = some v),(λi h=>h.IsListIter s.heap.objs.size a i/\h.IsList a j.toArray),a::cs,⟨rfl,.head _⟩,?_,⟨(aw _ (Heap.get?_push_size _ rfl) rfl rfl),(isL x).push _⟩,?_,?_,?_,?_,ha,hm⟩,sz_list.mp za⟩)
 ·have:=Walks.list (prog:=prog) (w:=w) (A:=A) hh s.heap.objs.size a (fF x) j.toArray
  have e:j.toArray.size=xs.length:=by rw[size_toArray,g.length]
  rw[e] at this
  exact this
 ·intro b hb
  rw[mem_singleton.mp hb]
  refine ⟨k₀.none (bq _),λh=>?_,λi h r=>?_⟩
  ·refine bj (ra.there _ h) λuu uu e=>?_
   exact fF e rfl
  ·refine am (r.1) λo e1 u e2=>?_
   exact (aw o e1 ⟨by unfold hardB; rw[u]; decide,by rw[u]; decide,λuu q=>by rw[u] at q; cases q⟩ (bT _ e2))
 ·intro b hb
  rcases mem_cons.mp hb with rfl | hb
  ·exact .inl (.head _)
  ·rw[mem_singleton.mp hb]; exact .inr (.head _)
 ·intro i v hv d hd
  refine az (g.get' (by simpa using hv)) λd' bs t h2 h3=>?_
  rw[hd] at t; (have y:=Option.some.inj t; clear t; subst y)
  exact (af bs (h2.keep λuu uu e=>Heap.get?_push_of_some _ e) (λb hb=>.tail _ (h3 b hb)))
 ·intro b hb
  refine bj (ra.there b hb) λk z e=>?_
  exact (bn k z (Heap.get?_push_of_some _ e))
theorem uv {a b:Int}{i:Nat}{d:PyData}(h:(cE a b)[i]? = some d):d = .int (a+i):=by
 unfold cE at h
 rw[List.getElem?_map] at h
 refine bl h λj m g=>?_
 subst g
 have:j=i:=by
  have l:=(List.getElem?_eq_some_iff.mp m)
  refine ai (l) λn k=>?_
  clear l
  rw[List.getElem_range] at k
  exact k.symm
 rw[this]
theorem gj (a b:Int):(cE a b).length=(b-a).toNat:=by simp[cE]
theorem o4 (a b:Int):∀ d∈cE a b,sz d=true:=by
 intro d h
 unfold cE at h
 refine bG h λj _ g=>?_
 (clear h; subst g)
 rfl
theorem mU (o:Kp s₀ s) (hh:A.handled=none) (hr:IsRange s.heap r a b 1 t u v)
  (hn:(b-a).toNat<=lim) (ha:-(2^60)<=a/\a<2^60/\-(2^60)<=b/\b<2^60) (hQ:∀ it s',ItP A P s₀ (cE a b) .deep it s'->Q it s'):wpAny (model prog w) A (pyIter (.ref r)) Q Er s:=by
 have g:Builtin.Range.rangeSize a b 1=((b-a).toNat:Int):=by rw[rangeSize_one]; split<;>lia
 refine wpAny_pyIter_range hr (small_one (JG ha) (HI ha) (G8 ha) (FZ ha)) (hQ _ _ ⟨o.trans (.push s _ _),⟨s.heap.objs.size,[s.heap.objs.size],[s.heap.objs.size],(λi v=>∃ t,v = .int (a+i*1) t),(λi h=>IsRangeIter h s.heap.objs.size (a+(i:Nat)*1) (((b-a).toNat:Int)-(i:Nat)) 1),[],⟨rfl,.head _⟩,?_,?_,?_,λb k=>.inl k,?_,λuu h=>(nomatch h),λuu h=>(nomatch h),λuu uu h=>(nomatch h)⟩,⟨by rw[gj]; unfold lim at hn; exact Hj hn,o4 a b⟩⟩)
 ·have:=Walks.range (prog:=prog) (w:=w) (A:=A) hh s.heap.objs.size a 1 (b-a).toNat
  rw[gj]
  exact this
 ·have n:(a+((0:Nat):Int)*1)=a:=by simp
  have m:(((b-a).toNat:Int)-((0:Nat):Int))=Builtin.Range.rangeSize a b 1:=by rw[g]; simp
  show IsRangeIter _ _ (a+((0:Nat):Int)*1) (((b-a).toNat:Int)-((0:Nat):Int)) 1
  rw[n,m]
  exact Heap.get?_push_size _ rfl
 ·intro b k
  rw[mem_singleton.mp k]
  exact ⟨o.none (bq _),λh=>(nomatch h),λi h j=>(aw _ j ⟨rfl,rfl,by simp⟩ (bT _ rfl))⟩
 ·rintro i v ⟨t,rfl⟩ d l
  rw[uv l]
  exact (af ([]) (by simpa using R.int (a+i) t) (λuu h=>(nomatch h)))
set_option tactic.hygienic true in
theorem AV (hf:fns.hand=false) (Sa:SimE fns k C XP a):cZ fns k C XP (.e a):=by
 intro ex A j σ P s Q Er i X n q t
 replace i:okE j.scope.names a ex=true:=i
 simp only[jk,fM,gV] at n q t
 refine aN n λn1 z=>?_
 refine Sa i X n1 (λr o v l Ea=>?_) λc hc=>t c (by rw[hc]; rfl)
 have g:=z r o
 obtain ⟨x,m⟩:=r
 obtain ⟨ka,as,h,ha,ht,p⟩:=Ea
 unfold itV at g
 dsimp only at g h p
 split at g
 ·rename_i u hx
  cases oz hx
  exact vW (m:=m) ka (X.room.1 hf) h.1 h.2 ha (λhm=>(p hm).1) λit y I=>q (u,m) (by rw[o]; rfl) it y I
 ·exact absurd rfl g
theorem kO (h:bE a b = .ok q):q=(cE a b,.deep)/\(b-a).toNat<=lim/\-(2^60)<=a/\a<2^60/\-(2^60)<=b/\b<2^60:=by
 unfold bE at h
 split at h
 ·rename_i i; (have g:=Out.ok.inj h; clear h; subst g); exact ⟨rfl,i⟩
 ·exact nB h
theorem j8:bE a b≠.exc c:=by unfold bE; split<;>simp
set_option tactic.hygienic true in
theorem zn (hf:fns.hand=false) (Sn:SimE fns k C XP n):cZ fns k C XP (.r1 n):=by
 intro ex A env σ P s Q Er ok X nb hQ hE
 replace ok:=Kr ok
 revert ok; refine λg=>Or.elim g (λh=>?_) (λok=>?_)
 ·clear g
  refine cH (h) λz y u t j ok=>?_
  clear h
  subst j
  simp only[and_eq_true,beq_iff_eq] at ok
  refine aa (ok) λo on=>?_
  clear ok
  refine aa (o) λLc hg=>?_
  clear o
  subst Lc
  simp only[jk,fM,gV] at nb hQ hE
  refine aN nb λn1 n2=>?_
  refine dG X.eok X.ge (by decide) hg (by decide) (fo (T:="range") _ on rfl (iY _ on (Sn on X n1 (λr hr v l Ea=>?_) λc hc=>hE c (by rw[hc]; rfl))))
  have p:=n2 r hr
  obtain ⟨x,m⟩:=r
  obtain ⟨ka,as,ra,hx1,hx2,hx3⟩:=Ea
  clear hx1 hx2 hx3
  dsimp only at p ra
  split at p
  ·rename_i i
   cases hq:bE 0 i with
   | bad=>exact absurd hq p
   | exc c=>exact absurd hq j8
   | ok q=>
    refine aG (kO hq) λLd h1 h2=>?_
    subst Ld
    refine ra.1.isInt_k λuu K6 K3=>?_
    (clear ra; subst K6)
    subst K3
    exact call_range_1 (mU (ka.trans (.push l _ _)) (X.room.1 hf) (IsRange.new ..) h1 h2 λit s' I=>hQ _ (by rw[hr]; exact hq) it s' I)
  ·exact absurd rfl p
 ·cases ok
set_option tactic.hygienic true in
theorem y8 (hf:fns.hand=false) (hXP:∀ c s s₁ x s',Kp s s₁->XP c s₁ x s'->XP c s x s') {a b:E}(Sa:SimE fns k C XP a) (Sb:SimE fns k C XP b):cZ fns k C XP (.r2 a b):=by
 intro ex A env σ P s Q Er ok X nb hQ hE
 replace ok:=KB ok
 revert ok; refine λl=>Or.elim l (λm=>?_) (λok=>?_)
 ·clear l
  refine iC (m) λMq Mi LV Mj L0 p ok=>?_
  clear m
  subst p
  simp only[and_eq_true,beq_iff_eq] at ok
  refine aa (ok) λo ob=>?_
  clear ok
  refine aa (o) λn oa=>?_
  clear o
  refine aa (n) λu hg=>?_
  clear n
  subst u
  simp only[jk,fM,gV] at nb hQ hE
  refine aN nb λn1 n2=>?_
  refine dG X.eok X.ge (by decide) hg (by decide) (fo (T:="range") _ oa (by rw[aO ob]; rfl) (wpAny_items_cons ?_ (aO oa _ env)))
  refine Sa oa X n1 (λx hx va s₁ Ea=>?_) λc hc=>hE c (by rw[hc]; rfl)
  refine aN (n2 x hx) λn3 n4=>?_
  refine iY _ ob (Sb ob (X.k Ea.keeps.k) n3 (λy hy vb r Eb=>?_) λc hc z s' hz=>hE c (by rw[hx,Out.ok_bind,hc]; rfl) z s' (hXP c s s₁ z s' Ea.keeps hz))
  have n5:=n4 y hy
  obtain ⟨x,mx⟩:=x
  obtain ⟨y,my⟩:=y
  obtain ⟨ka,as,ra,hx1,hx2,hx3⟩:=Ea
  obtain ⟨kb,bs,v,hx4,hx5,hx6⟩:=Eb
  clear hx1 hx2 hx3 hx4 hx5 hx6
  dsimp only at n5 ra v
  split at n5
  ·rename_i i j
   cases hq:bE i j with
   | bad=>exact absurd hq n5
   | exc c=>exact absurd hq j8
   | ok q=>
    refine aG (kO hq) λt h1 h2=>?_
    subst t
    revert ra; intro h
    refine aa (h) λra _=>?_
    clear h
    revert v; intro g
    refine aa (g) λv _=>?_
    clear g
    cases ra; cases v
    exact call_range_2 (mU ((ka.trans kb).trans (.push r _ _)) (X.room.1 hf) (IsRange.new ..) h1 h2 λit s' I=>hQ _ (by rw[hx,Out.ok_bind,hy]; exact hq) it s' I)
  ·exact absurd rfl n5
 ·cases ok
end
theorem cy (h:Str.ofString x=Str.ofString y):x=y:=by
 rw[Str.ofString_eq_toList,Str.ofString_eq_toList] at h
 have k:(x.toList.map Char.toNat).toArray=(y.toList.map Char.toNat).toArray:=by injection h
 have g:x.toList.map Char.toNat=y.toList.map Char.toNat:=by simpa using k
 have j:x.toList=y.toList:=by
  have i:∀ a b:Char,a.toNat=b.toNat->a=b:=λa b e=>Char.ext (UInt32.toNat_inj.mp e)
  generalize x.toList=l at g
  generalize y.toList=m at g
  induction l generalizing m with
  | nil=>cases m with
   | nil=>rfl
   | cons b m=>simp at g
  | cons a l ih=>cases m with
   | nil=>simp at g
   | cons b m=>
    simp only[map_cons,List.cons.injEq] at g
    rw[i a b g.1,ih m g.2]
 exact String.toList_inj.mp j
section
theorem mh (hf:∀ p∈scope.names,p.2 = .free->∃ c,env.cells.lookup p.1=some c) :
  ∃ cl,closureFor scope env=pure cl/\∀ n,(n,NameKind.free)∈scope.names->cl.lookup n=env.cells.lookup n:=by
 suffices H:∀ (names:List (Str×NameKind)) (g:List (Str×Addr)),(∀ p∈names,p.2 = .free->∃ c,env.cells.lookup p.1=some c)->(∀ n c,g.lookup n=some c->env.cells.lookup n=some c) ->
   ∃ cl,(forIn names g (λ(x:Str×NameKind) (z:List (Str×Addr))=>(if (x.2==NameKind.free)=true then (do let c <- cellOf env x.1; pure (ForInStep.yield ((x.1,c)::z))) else pure (ForInStep.yield z):Sem (ForInStep (List (Str×Addr))))))=pure cl /\
    (∀ n c,cl.lookup n=some c->env.cells.lookup n=some c)/\(∀ n,(n,NameKind.free)∈names\/(g.lookup n).isSome->(cl.lookup n).isSome) by
  refine am (H scope.names [] hf (λn c h=>by simp at h)) λcl l k j=>?_
  refine (af cl ?_ (λn v=>?_))
  ·unfold closureFor
   have e:(forIn scope.names ([]:List (Str×Addr)) λ(x:Str×NameKind) (r:List (Str×Addr))=>match x with
     | (name,kind)=>if (kind==NameKind.free)=true then (do let c <- cellOf env name; pure (ForInStep.yield ((name,c)::r))) else (pure (ForInStep.yield r):Sem (ForInStep (List (Str×Addr)))))=pure cl:=l
   exact congrArg (λt:Sem (List (Str×Addr))=>t>>=λq=>pure q) e
  ·refine bP (j n (.inl v)) λc i=>?_
   rw[i,k n c i]
 intro names
 induction names with
 | nil=>intro g _ o; exact (aw g rfl o (λn v=>v.elim (λh=>nomatch h) id))
 | cons p r ih=>
  intro g hf o
  obtain ⟨n,y⟩:=p
  by_cases hk:y = .free
  ·subst hk
   refine ai (hf (n,.free) (.head _) rfl) λc i=>?_
   obtain ⟨cl,l,k,j⟩:=ih ((n,c)::g) (λp u=>hf p (.tail _ u)) (λm d h=>by
    rw[lookup_cons] at h
    split at h
    ·rename_i e; (have oc:=Option.some.inj h; clear h; subst oc); rw[beq_iff_eq.mp e]; exact i
    ·exact o m d h)
   refine (aw cl ?_ k (λm hm=>j m ?_))
   ·rw[forIn_cons,<- l]
    simp only[beq_self_eq_true,if_true,cellOf,i]
    rfl
   ·rcases hm with hm | hm
    ·rcases mem_cons.mp hm with e | hm
     ·cases e; right; simp
     ·exact .inl hm
    ·right
     rw[lookup_cons]
     split
     ·rfl
     ·exact hm
  ·refine am (ih g (λp u=>hf p (.tail _ u)) o) λcl l k j=>?_
   refine (aw cl ?_ k (λm hm=>j m (hm.imp (λhm=>?_) id)))
   ·rw[forIn_cons,<- l]
    have:(y==NameKind.free)=false:=by simpa using hk
    simp only[this,false_eq_true,if_false]
    rfl
   ·rcases mem_cons.mp hm with e | hm
    ·cases e; exact absurd rfl hk
    ·exact hm
theorem kI:∀ (names:List (Str×NameKind)) (h:Heap) (acc:List (Str×Addr)),(∀ p∈names,p.2 = .cell->p.1=X)->(names.map (·.1)).Nodup ->
  (∀ m,m≠X->(cellsFrom h.objs.size names acc).lookup m=acc.lookup m) /\
  (names.lookup X=some .cell->∃ c,(cellsFrom h.objs.size names acc).lookup X=some c/\(pushCells h names).IsCell c none/\h.objs.size<=c)/\(names.lookup X≠some .cell->cellsFrom h.objs.size names acc=acc)
 | [],h,acc,_,_=>⟨λuu uu=>rfl,λe=>(by cases e),λuu=>rfl⟩
 | (n,kd)::r,h,acc,hc,hn=>by
  rw[map_cons,nodup_cons] at hn
  unfold cellsFrom pushCells
  by_cases hk:kd = .cell
  ·subst hk
   have e:n=X:=hc (n,.cell) (.head _) rfl
   subst e
   have hr:∀ p∈r,p.2≠.cell:=λp hp e=>hn.1 (mem_map.mpr (af p hp (hc p (.tail _ hp) e)))
   have hl:r.lookup n≠some .cell:=λe=>hr _ (mem_of_lookup e) rfl
   simp only[beq_self_eq_true,if_true]
   have ih:=kI (X:=n) r (h.push {cls:=.type "cell", data:=.cell none }) ((n,h.objs.size)::acc) (λp hp e=>absurd e (hr p hp)) hn.2
   rw[size_push] at ih
   rw[ih.2.2 hl]
   refine ⟨λm hm=>?_,λuu=>(aw h.objs.size (by simp) (af _ (pushCells_keeps r _ _ _ (Heap.get?_push_size _ rfl)) rfl) (le_refl _)),λhh=>?_⟩
   ·rw[lookup_cons]
    have:(m==n)=false:=by simpa using hm
    rw[this]
   ·exact absurd (by simp) hh
  ·have hb:(kd==NameKind.cell)=false:=by simpa using hk
   simp only[hb,false_eq_true,if_false]
   refine aG (kI r h acc (λp hp=>hc p (.tail _ hp)) hn.2) λh1 h2 h3=>?_
   have e:((n,kd)::r).lookup X=some .cell↔r.lookup X=some .cell:=by
    rw[lookup_cons]
    by_cases hx:X=n
    ·(clear hc; subst hx)
     simp only[beq_self_eq_true]
     constructor
     ·intro e; (have oc:=Option.some.inj e; clear e; subst oc); exact absurd rfl hk
     ·intro e; exact absurd (mem_map.mpr (af _ (mem_of_lookup e) rfl)) hn.1
    ·have:(X==n)=false:=by simpa using hx
     rw[this]
   exact ⟨h1,λq=>h2 (e.mp q),λq=>h3 λz=>q (e.mpr z)⟩
theorem BE
  (h:∀ h',h' = pushCells (s.heap.push {cls:=.type "dict", data:=.dict #[] }) scope.names->Q {scope,locals:=s.heap.objs.size,globals:=env.globals,cells:=cellsFrom (s.heap.objs.size+1) scope.names cl,qual:=env.qual,func:=none,code:=env.code,frame:=env.frame,builtins:=env.builtins } {s with heap:=h' }) :
  wpAny (model prog w) A (newFunctionEnv scope env.globals cl [] env.qual none .none (some env)) Q Er s:=by
 simp only[newFunctionEnv,Option.isSome_some,if_true]
 refine wpAny_bind (wpAny_alloc ?_)
 refine wpAny_bind (wpAny_layCells _ (λi g cells=>by cases hkc:g==NameKind.cell<;>simp) _ _ _ _ ?_)
 rw[show ({s with heap:=s.heap.push {cls:=.type "dict", data:=.dict #[] } }:Shared).heap.objs.size=s.heap.objs.size+1 from size_push ..]
 exact wpAny_bind (wpAny_pure (wpAny_pure (h _ rfl)))
end
section
theorem jJ (h:iH ns sc x=true):sc.kind = .function/\(sc.names.map (·.1)).Nodup/\(sc.names.lookup (Str.ofString x)=some .local\/sc.names.lookup (Str.ofString x)=some .cell) /\
  ∀ p∈sc.names,(p.2 = .local/\(p.1=Str.ofString x\/p.1=Str.ofString ".0"))\/p.2 = .globalImplicit\/(p.2 = .cell/\p.1=Str.ofString x)\/(p.2 = .free/\(ns.lookup p.1=some .cell\/ns.lookup p.1=some .free)):=by
 unfold iH at h
 simp only[and_eq_true,beq_iff_eq,decide_eq_true_eq,or_eq_true,all_eq_true] at h
 refine aa (h) λi k=>?_
 clear h
 refine aa (i) λg l=>?_
 clear i
 refine aa (g) λn m=>?_
 clear g
 refine (bV n m l (λp j=>?_))
 rcases k p j with ((h | h) | h) | h
 ·exact .inl h
 ·exact .inr (.inl h)
 ·exact .inr (.inr (.inl h))
 ·exact .inr (.inr (.inr h))
theorem jO {α:Type}{l:List (Str×α)}{n:Str}{c:α}(hn:(l.map (·.1)).Nodup) (h:(n,c)∈l):l.lookup n=some c:=by
 induction l with
 | nil=>cases h
 | cons p r ih=>
  rw[map_cons,nodup_cons] at hn
  rw[lookup_cons]
  rcases mem_cons.mp h with e | h
  ·(clear h; subst e); simp
  ·have:(n==p.1)=false:=beq_eq_false_iff_ne.mpr λe=>hn.1 (e▸mem_map.mpr (af _ h rfl))
   rw[this]
   exact ih hn.2 h
theorem iL:∀ {inner:List (Str×NameKind)}{n:Str},(gi outer inner).lookup n=(inner.lookup n).map λkd=>if kd == .free&&outer.lookup n==some .cell then .cell else kd
 | [],n=>rfl
 | (m,kd)::r,n=>by
  have h:=@iL outer r n
  unfold gi at h ⊢
  rw[map_cons,lookup_cons,lookup_cons]
  by_cases e:n=m
  ·subst e
   by_cases hc:(kd==NameKind.free&&outer.lookup n==some .cell)=true
   ·rw[if_pos hc]; simp only[beq_self_eq_true,map_some]; rw[if_pos hc]
   ·rw[if_neg hc]; simp only[beq_self_eq_true,map_some]; rw[if_neg hc]
  ·have i:(n==m)=false:=by simpa using e
   have g:(n==(if (kd==NameKind.free&&outer.lookup m==some .cell)=true then (m,NameKind.cell) else (m,kd)).1)=false:=by split<;>exact i
   simp only[i,g]
   exact h
theorem gc (hk:env.scope.kind = .function):(relabel scope env).names=gi env.scope.names scope.names:=by
 unfold relabel gi Env.kindOf
 simp[hk]
theorem tZ (h:bx f (d::ds) = .ok q) :
  ∃ r q',f d = .ok r/\bx f ds = .ok q'/\((r=none/\q=q')\/∃ y m,r=some (.d y,m)/\q=(y::q'.1,decide (m = .deep)&&q'.2)):=by
 simp only[bx] at h
 refine Out.bind_k h λr j h=>?_
 refine Out.bind_k h λq' i h=>?_
 refine (aU r q' j i ?_)
 split at h
 ·(have g:=Out.ok.inj h; clear h; subst g); exact .inl ⟨rfl,rfl⟩
 ·(have g:=Out.ok.inj h; clear h; subst g); exact .inr (aC _ _ rfl rfl)
 ·exact nB h
theorem Ba
  (hsc:iH env.scope.names sc x=true) (hN:cenv.scope.names=gi env.scope.names sc.names) (hk:cenv.scope.kind = .function) (hg:cenv.globals=env.globals) (hb:cenv.builtins=env.builtins)
  (hc:∀ n,(n,NameKind.free)∈sc.names->cenv.cells.lookup n=env.cells.lookup n) (hx:sc.names.lookup (Str.ofString x)=some .cell->∃ c,cenv.cells.lookup (Str.ofString x)=some c)
  (hcd:cenv.code=env.code) (X:Cx fns k A P h env σ) (kp:K h h') (hv:VarIs h' cenv (Str.ofString x) v) (hr:R h' v d as) (hz:sz d=true) (has:∀ a∈as,P' a) (hP:∀ a,P a->(∃ o,h.get? a=some o)->P' a) :
  Cx fns k A P' h' cenv (upd σ x (mk (.d d))):=by
 refine c6 (jJ hsc) λuu hnd htg g=>?_
 have z:∀ n,cenv.kindOf n=(sc.names.lookup n).map λkd=>if kd == .free&&env.scope.names.lookup n==some .cell then .cell else kd:=λn=>by
  show cenv.scope.names.lookup n=_
  rw[hN]; exact iL
 refine ⟨X.room,⟨hk,hg.trans X.eok.glob,hb.trans X.eok.blt,λn u=>?_⟩,X.ge.k kp,(λh1=>ai (X.code h1) λq c=>⟨q,hcd▸c.k kp⟩),(λq=>ae (X.frm q) λl a b=>(af l a (b.k kp))),λy p hp j=>?_⟩
 ·rw[z] at u
  cases e:sc.names.lookup n with
  | none=>rw[e] at u; simp at u
  | some kd=>
   have hm:=mem_of_lookup e
   rcases g _ hm with h1 | h1 | h1 | h1
   ·rw[e,show kd=_ from h1.1] at u; simp at u
   ·dsimp only at h1; rw[e,h1] at u; simp at u
   ·revert h1; intro Mo
    refine aa (Mo) λh1 h2=>?_
    clear Mo
    dsimp only at h1 h2
    (clear hm; subst h2)
    exact hx (by rw[e,h1])
   ·revert h1; intro LJ
    refine aa (LJ) λh1 h2=>?_
    clear LJ
    dsimp only at h1 h2
    (clear e; subst h1)
    refine ai (X.eok.cells n h2) λc hcc=>?_
    exact ⟨c,by rw[hc n hm,hcc]⟩
 ·unfold upd at hp
  by_cases hy:y=x
  ·(clear g hsc htg hx; subst hy)
   rw[if_pos rfl] at hp
   (have oc:=Option.some.inj hp; clear hp; subst oc)
   exact (aU v as hv ⟨hr,hz⟩ has)
  ·rw[if_neg hy] at hp
   have i:=rF j
   rw[z] at i
   have t:Str.ofString y≠Str.ofString ".0" := by
    unfold varK at j
    intro e
    rw[e] at j
    simp at j
   cases e:sc.names.lookup (Str.ofString y) with
   | none=>rw[e] at i; simp at i
   | some kd=>
    have hm:=mem_of_lookup e
    rcases g _ hm with h1 | h1 | h1 | h1
    ·exact absurd h1.2 (by
      rintro (h2 | h2)
      ·exact hy (cy h2)
      ·exact t h2)
    ·dsimp only at h1; rw[e,h1] at i; simp at i
    ·exact absurd (cy h1.2) hy
    ·revert h1; intro r
     refine aa (r) λh1 h2=>?_
     clear r
     dsimp only at h1 h2
     subst h1
     have hvo:varK env.scope.names y=true:=by
      unfold varK
      rw[and_eq_true]
      refine ⟨by simpa using t,?_⟩
      rcases h2 with h2 | h2<;>rw[h2]
     refine az (X.vars y p hp hvo) λv' as' a1 a2 a3=>?_
     refine (aU v' as' ?_ (a2.k kp) (λa ha=>hP a (a3 a ha) (a2.there a ha)))
     cases a1 with
     | loc m b1 b2 b3=>exact absurd b1 (by unfold Env.kindOf; rcases h2 with h2 | h2<;>rw[h2]<;>simp)
     | cell c b1 b2 b3=>
      refine .cell c ?_ (by rw[hc _ hm,b2]) (jn b3 kp)
      rw[z,e]
      rcases h2 with h2 | h2<;>rw[h2]<;>simp
noncomputable def Tgt (cenv:Env) (X:Str) (T:Addr) (h:Heap):Prop :=
 (∃ m,h.Ns cenv.locals m)/\((cenv.kindOf X=some .local/\T=cenv.locals)\/(cenv.kindOf X=some .cell/\cenv.cells.lookup X=some T/\T≠cenv.locals/\∃ g,h.IsCell T g))
theorem Tgt.at (t:Tgt cenv X T h) (k1:∀ o,h.get? T=some o->h'.get? T=some o) (k2:∀ o,h.get? cenv.locals=some o->h'.get? cenv.locals=some o):Tgt cenv X T h':=by
 revert t; intro i
 refine aa (i) λk t=>?_
 clear i
 refine ai (k) λm l=>?_
 clear k
 refine ⟨⟨m,l.at' k2⟩,t.imp id λt=>?_⟩
 refine c6 (t) λa b c g=>?_
 clear t
 refine au (g) λj o e d=>?_
 clear g
 exact (bV a b c (aC j o (k1 _ e) d))
theorem Tgt.onK (t:Tgt cenv X T h) (k:K h h'):Tgt cenv X T h':=by
 revert t; intro i
 refine aa (i) λl t=>?_
 clear i
 refine ai (l) λm n=>?_
 clear l
 refine ⟨⟨m,gh n k⟩,t.imp id λt=>?_⟩
 refine c6 (t) λa b c g=>?_
 clear t
 refine ai (g) λj d=>?_
 clear g
 exact (bV a b c (bT j (jn d k)))
theorem Tgt.nostay (t:Tgt cenv X T h) (o:Obj) (e:h.get? T=some o):¬ Stay o:=by
 revert t; intro i
 refine aa (i) λj t=>?_
 clear i
 refine mF (j) λm x y z v r _=>?_
 clear j
 rcases t with t | t
 ·rw[t.2,v] at e; (have l:=Option.some.inj e; clear e; subst l); exact Stay.not_data (λuu q=>by rw[r] at q; cases q) λuu uu q=>by rw[r] at q; cases q
 ·refine c6 (t) λuu uu uu g=>?_
  clear t
  refine au (g) λp u n k=>?_
  clear g
  rw[n] at e; (have l:=Option.some.inj e; clear e; subst l); exact Stay.not_data (λuu q=>by rw[k] at q; cases q) λuu uu q=>by rw[k] at q; cases q
theorem Tgt.noseq (t:Tgt cenv X T h) (o:Obj) (e:h.get? T=some o) (vs:Array Value) (n:Nat):o.data≠.seq vs n:=by
 revert t; intro i
 refine aa (i) λj t=>?_
 clear i
 refine mF (j) λm y z ep x v _=>?_
 clear j
 intro q
 rcases t with t | t
 ·rw[t.2,x] at e; (have k:=Option.some.inj e; clear e; subst k); rw[v] at q; cases q
 ·refine c6 (t) λuu uu uu g=>?_
  clear t
  refine au (g) λr u p l=>?_
  clear g
  rw[p] at e; (have k:=Option.some.inj e; clear e; subst k); rw[l] at q; cases q
theorem vG (hk:cenv.scope.kind = .function) (t:Tgt cenv X T s.heap)
  (h:∀ h' tk,Heap.SameBut T s.heap h'->Tgt cenv X T h'->VarIs h' cenv X v->Q () {s with heap:=h',toks:=tk }):wpAny (model prog w) A (assign (.Name X px) cenv v) Q Er s:=by
 revert t; intro g
 refine aa (g) λi t=>?_
 clear g
 refine ai (i) λm l=>?_
 clear i
 rcases t with ⟨t1,rfl⟩ | ⟨t1,t2,t3,n,t4⟩
 ·exact wpAny_assign_Name (wpAny_storeName_local t1 l (λh' j k=>h h' _ k ⟨⟨_,j⟩,.inl ⟨t1,rfl⟩⟩ (.loc _ t1 j (by simp))) (by rw[hk]; rfl))
 ·exact wpAny_assign_Name (wpAny_storeName_cell hk t1 t2 t4 λh' j k=>h h' s.toks k ⟨⟨m,l.sameBut k (Ne.symm t3)⟩,.inr (bV t1 t2 t3 (bT _ j))⟩ (.cell T (.inl t1) t2 j))
noncomputable def CI (f:PyData->Out (Option (V×Mode))) (x:String) (cenv:Env) (P:Addr->Prop) (s sc:Shared) (ds:List PyData) (res:List PyData×Bool) (D T:Addr) (wr:List Addr) (St:Nat->Heap->Prop) (n:Nat) (s':Shared):Prop :=
 ∃ (h:Heap) (tk:Nat) (j:Nat) (vs:List Value) (ys:List PyData) (as:List Addr) (zs:List PyData) (dp b':Bool),s' = {sc with heap:=h,toks:=tk }/\St j h/\j<=ds.length/\n=ds.length+1-j/\h.PlainList D vs.toArray/\RA h vs ys as/\(∀ y∈ys,sz y=true)/\ys.length<=j /\
   (∀ a∈as,a≠D/\(P a\/s.heap.get? a=none))/\(dp=true->(∀ a∈as,s.heap.get? a=none)/\as.Nodup)/\Tgt cenv (Str.ofString x) T h/\KG (λb=>b∉D::T::wr) sc.heap h /\
   bx f (ds.drop j) = .ok (zs,b')/\res=(ys++zs,dp&&b')
set_option maxHeartbeats 2000000 in
theorem vi {f:PyData->Out (Option (V×Mode))}{x:String}{px:Pos}{elt iter:Expr}{ifs:List Expr}{sc:Scope}{pos:Pos}{A:Around}{cenv:Env}{P:Addr->Prop}{s s₃:Shared}{Rr:Result->Shared->Prop}
  {ds:List PyData}{res:List PyData×Bool}{I D T:Addr}{fp wr F:List Addr}{Pw:Nat->Value->Prop}{St:Nat->Heap->Prop}
  (W:Walks prog w A I fp wr ds.length Pw St) (hst:St 0 s₃.heap) (hk:cenv.scope.kind = .function) (ks:K s.heap s₃.heap)
  (hwr:∀ b∈wr,s.heap.get? b=none/\b∉F/\∀ i h,St i h->∃ o,h.get? b=some o/\(hardB o=true/\noIt o.cls=true/\∀ C,o.cls≠.ref C)/\∃ fs,o.data = .fields fs) (hFl:∀ b∈F,∃ vs n,s₃.heap.get? b=some ⟨.type "list", none,.seq vs n,#[]⟩) (hfp:∀ b∈fp,b∈wr\/b∈F)
  (hPw:∀ i v,Pw i v->∀ d,ds[i]? = some d->∃ bs,R s₃.heap v d bs/\∀ b∈bs,b∈F) (hFP:∀ a∈F,P a\/s.heap.get? a=none)
  (hFo:∀ b∈F,b≠D/\b≠T/\b≠cenv.locals) (hwo:∀ b∈wr,b≠D/\b≠T/\b≠cenv.locals) (hDT:D≠T) (hDL:D≠cenv.locals) (fD:s.heap.get? D=none) (fT:s.heap.get? T=none)
  (hsm:ds.length<=2^22/\∀ d∈ds,sz d=true) (hres:bx f ds = .ok res) (hD:s₃.heap.PlainList D #[]) (hT:Tgt cenv (Str.ofString x) T s₃.heap)
  (step:∀ d r,f d = .ok r->sz d=true->∀ {s₄:Shared}{Q₁:Shared->Prop}{Qb:Value->Shared->Prop}{Er':Value->Shared->Prop}(v:Value) (bs:List Addr),VarIs s₄.heap cenv (Str.ofString x) v->R s₄.heap v d bs->(∀ b∈bs,(P b\/s.heap.get? b=none)/\b≠D)->K s.heap s₄.heap ->
   (r=none->∀ s₅,Kp s₄ s₅->Q₁ s₅)->(∀ y,r=some y->∀ u s₅,EP (λb=>(P b\/s.heap.get? b=none)/\b≠D) s₄ y u s₅->Qb u s₅) ->
   wpAny (model prog w) A (forIn ifs true λc r=>if r=true then do let ok <- isTrue c cenv (eval c cenv); pure (ForInStep.yield ok) else pure (ForInStep.yield r)) (λok s₅=>if ok=true then wpAny (model prog w) A (eval elt cenv) Qb Er' s₅ else Q₁ s₅) Er' s₄)
  (hR:∀ h tk vs as,h.PlainList D vs.toArray->RA h vs res.1 as->(∀ y∈res.1,sz y=true)->res.1.length<=2^22->(∀ a∈as,a≠D/\(P a\/s.heap.get? a=none))->(res.2=true->(∀ a∈as,s.heap.get? a=none)/\as.Nodup)->(∃ m,h.Ns cenv.locals m) ->
   K s.heap h->Rr (.ok .next) {s₃ with heap:=h,toks:=tk }) :
  codeAny (model prog w) A (.compLoop (.ListComp elt [⟨.Name (Str.ofString x) px,iter,ifs,0⟩] sc pos) 0 (.ref I) (.ref D) cenv) Rr s₃:=by
 have offw:∀ i h as,St i h->Off h as wr:=λi h as hs b hb o e=>by
  refine am ((hwr b hb).2.2 i h hs) λo' e' _ Lz=>?_
  refine ai (Lz) λfs q=>?_
  clear Lz
  rw[e] at e'; (have oc:=Option.some.inj e'; clear e'; subst oc); exact .inl λvs n q'=>by rw[q] at q'; cases q'
 have offT:∀ h as,Tgt cenv (Str.ofString x) T h->Off h as [T]:=λh as t b hb o e=>by
  rw[mem_singleton.mp hb] at e
  exact .inl (t.noseq o e)
 have offD:∀ h as vs,Heap.PlainList h D vs->(∀ a∈as,a≠D)->Off h as [D]:=λh as vs t hn b hb o e=>by
  rw[mem_singleton.mp hb] at e ⊢
  revert t; intro Mu
  refine ai (Mu) λn t=>?_
  clear Mu
  rw[t] at e; (have oc:=Option.some.inj e; clear e; subst oc)
  exact .inr ⟨by simp,λhm=>hn D hm rfl⟩
 have notw:∀ i h,St i h->∀ b∈wr,∀ o,h.get? b=some o->¬ Stay o:=λi h hs b hb o e=>by
  refine am ((hwr b hb).2.2 i h hs) λo' e' K6 Mm=>?_
  refine ai (Mm) λfs q=>?_
  clear Mm
  refine aa (K6) λuu hc=>?_
  clear K6
  rw[e] at e'; (have oc:=Option.some.inj e'; clear e'; (clear uu; subst oc))
  exact λx=>x.elim (λx=>noIt.code hc.1 x.1) λx=>let ⟨_,vs,n,e⟩:=x; by rw[q] at e; cases e
 have outs:∀ b o,s.heap.get? b=some o->b∉D::T::wr:=λb o e hb=>by
  rcases mem_cons.mp hb with rfl | hb
  ·rw[fD] at e; exact nN e
  rcases mem_cons.mp hb with rfl | hb
  ·rw[fT] at e; exact nN e
  ·rw[(hwr b hb).1] at e; exact nN e
 have outF:∀ b∈F,b∉D::T::wr:=λb hF hb=>by
  rcases mem_cons.mp hb with rfl | hb
  ·exact (hFo _ hF).1 rfl
  rcases mem_cons.mp hb with rfl | hb
  ·exact (hFo _ hF).2.1 rfl
  ·exact (hwr b hb).2.1 hF
 refine codeAny_compLoop_tests
  (CI f x cenv P s s₃ ds res D T wr St) ?_ (ds.length+1)
  (rq s₃.heap s₃.toks 0 ([]) ([]) ([]) res.1 true res.2 rfl hst (zero_le _) rfl hD .nil (λuu h=>(nomatch h)) (le_refl _) (λuu h=>(nomatch h)) (λuu=>⟨λuu h=>(nomatch h),.nil⟩) hT KG.refl (by simpa using hres) (by simp))
 intro n s' K3
 refine Dr (K3) λh tk j vs ys as zs dp b' La hst' hj Le hD' hra hys hyl has hdp hT' hkp hcl hrs=>?_
 clear K3
 subst La
 subst Le
 have hDw:D∉wr:=λh=>(hwo D h).1 rfl
 have hTw:T∉wr:=λh=>(hwo T h).2.1 rfl
 have hLw:cenv.locals∉wr:=λh=>(hwo _ h).2.2 rfl
 have kps:K s.heap h:=ks.step hkp outs
 by_cases hlt:j<ds.length
 ·obtain ⟨d,hd⟩:∃ d,ds[j]? = some d:=⟨_,List.getElem?_eq_getElem hlt⟩
  have hdd:ds.drop j=d::ds.drop (j+1):=by
   rw[List.drop_eq_getElem_cons hlt]
   rw[List.getElem?_eq_getElem hlt] at hd
   (have oc:=Option.some.inj hd; clear hd; subst oc); rfl
  rw[hdd] at hcl
  refine az (tZ hcl) λr q' hf hq l=>?_
  refine W.item j _ _ _ hlt hst' λv h₁ tka hPv hsta hka=>?_
  have g:∀ b o,b∉wr->h.get? b=some o->h₁.get? b=some o:=hka
  refine vG hk (hT'.at (λo e=>g _ o hTw e) λo e=>g _ o hLw e) λh₂ tkb hsb hTb hvb=>?_
  have hsb':∀ b o,b∉[T]->h₁.get? b=some o->h₂.get? b=some o:=λb o hb e=>hsb.extBut b o (λq=>hb (by simp[q])) e
  have hstb:St (j+1) h₂:=W.frame _ _ _ hsta λb hb o e=>hsb' b o (λq=>by
   rw[mem_singleton.mp q] at hb
   rcases hfp _ hb with hb | hb
   ·exact hTw hb
   ·exact (hFo _ hb).2.1 rfl) e
  have hrab:RA h₂ vs ys as:=(hra.off (offw j h as hst') g).off (offT h₁ as (hT'.at (λo e=>g _ o hTw e) λo e=>g _ o hLw e)) hsb'
  have kT:KG (λb=>b∉[T]) h₁ h₂:=.ofW hsb' λb hb o e=>by
   rw[mem_singleton.mp hb] at e
   exact (hT'.at (λo e=>g _ o hTw e) λo e=>g _ o hLw e).nostay o e
  have hkpb:KG (λb=>b∉D::T::wr) s₃.heap h₂:=(hkp.trans ((KG.ofW g (notw j h hst')).mono λb hb q=>hb (by simp[q]))).trans (kT.mono λb hb q=>hb (by rw[mem_singleton.mp q]; simp))
  refine ae (hPw j v hPv d hd) λbs hrv hbs=>?_
  have hrvb:R h₂ v d bs:=hrv.onG hkpb λb hb=>outF b (hbs b hb)
  have kpsb:K s.heap h₂:=ks.step hkpb outs
  have hfpH:∀ b∈fp,∀ o,h₂.get? b=some o->hardB o=true:=λb hb o e=>by
   rcases hfp b hb with hb | hb
   ·refine am ((hwr b hb).2.2 _ _ hstb) λo' e' Lb _=>?_
    refine aa (Lb) λhh _=>?_
    clear Lb
    rw[e] at e'; (have oc:=Option.some.inj e'; clear e'; subst oc); exact hh
   ·refine bj (hFl b hb) λvs' n' e'=>?_
    rw[hkpb.hard (.inl (outF b hb)) e' rfl] at e
    (have oc:=Option.some.inj e; clear e; subst oc); rfl
  have hDb:h₂.PlainList D vs.toArray:=(hD'.at λo e=>g _ o hDw e).at λo e=>hsb' _ o (by simpa using hDT) e
  have hzd:sz d=true:=hsm.2 d (mem_of_getElem? hd)
  refine step d r hf hzd (s₄:={s₃ with heap:=h₂,toks:=tkb }) v bs hvb hrvb (λb hb=>⟨hFP b (hbs b hb),(hFo b (hbs b hb)).1⟩) kpsb (λhr s₅ k₅=>?_) λy hy u s₅ E₅=>?_
  ·(clear hf; subst hr)
   refine au (k₅) λhe tke Lf p=>?_
   clear k₅
   subst Lf
   rcases l with ⟨_,l⟩ | ⟨_,_,l,_⟩
   ·subst l
    refine (af (ds.length+1-(j+1)) (uh hlt) (rq he tke (j+1) vs ys as zs dp b' rfl (W.frame _ _ _ hstb λb hb o e=>p.get e (hfpH b hb o e)) hlt rfl (ai (hDb) λn e=>⟨n,p.get e rfl⟩) (hrab.k p) hys (by exact Nat.le_succ_of_le ‹_›) has hdp (hTb.onK p) (hkpb.trans (p.mono λuu uu=>trivial)) hq hrs))
   ·exact nN l
  ·obtain ⟨Lg,bs',hrve,hb1,hb2,hb3⟩:=E₅
   refine au (Lg) λhe tke Lh p=>?_
   clear Lg
   subst Lh
   dsimp only at p hrve hb1 hb2 hb3
   rcases l with ⟨l,_⟩ | ⟨z,m,l,hq2⟩
   ·rw[hy] at l; exact nM l
   ·rw[hy] at l; (have oc:=Option.some.inj l; clear l; (clear hb2 hy; subst oc))
    revert hrve; intro L8
    refine aa (L8) λhrve hze=>?_
    clear L8
    have hDe:he.PlainList D vs.toArray:=ai (hDb) λn e=>⟨n,p.get e rfl⟩
    have hbD:∀ a∈bs',a≠D:=λa ha q=>by
     rcases hb1 a ha with h | h
     ·exact h.2 q
     ·refine ai (hDb) λn e=>?_
      clear hDb
      rw[q,e] at h; exact nM h
    have hrae:=(hrab.k p).append (.cons hrve .nil)
    have hl:vs.length=ys.length:=hra.length
    refine wpAny_list_append_plain (hsz:=by rw[size_toArray,hl]; unfold sizeLine; exact Hk hsm hyl hlt) hDe λh₆ hlf hsf=>?_
    have hsf':∀ b o,b∉[D]->he.get? b=some o->h₆.get? b=some o:=λb o hb e=>hsf.extBut b o (λq=>hb (by simp[q])) e
    have hne:∀ a∈as++(bs'++[]),a≠D:=λa ha=>by
     rcases mem_append.mp ha with ha | ha
     ·exact (has a ha).1
     ·exact hbD a (by simpa using ha)
    cases hq2
    refine (af (ds.length+1-(j+1)) (uh hlt) (rq h₆ tke (j+1) (vs++[u]) (ys++[z]) (as++(bs'++[])) q'.1 (dp&&decide (m = .deep)) q'.2 rfl ?_ hlt rfl ?_ (hrae.off (offD he _ _ hDe hne) hsf') ?_ ?_ ?_ ?_ ?_ ?_ ?_ ?_))
    ·refine W.frame _ _ _ hstb λb hb o e=>hsf' b o (λq=>?_) (p.get e (hfpH b hb o e))
     rw[mem_singleton.mp q] at hb
     rcases hfp _ hb with hb | hb
     ·exact hDw hb
     ·exact (hFo _ hb).1 rfl
    ·simpa using hlf
    ·intro y hy'
     rcases mem_append.mp hy' with h | h
     ·exact hys y h
     ·rw[mem_singleton.mp h]; exact hze
    ·rw[length_append,length_singleton]; exact ld hyl
    ·intro a ha
     refine ⟨hne a ha,?_⟩
     rcases mem_append.mp ha with ha | ha
     ·exact (has a ha).2
     ·rcases hb1 a (by simpa using ha) with h | h
      ·exact h.1
      ·right
       cases e:s.heap.get? a with
       | none=>rfl
       | some o=>obtain ⟨_,e'⟩:=kpsb.there e; rw[e'] at h; exact nM h
    ·intro hdm
     simp only[and_eq_true,decide_eq_true_eq] at hdm
     refine aa (hdm) λhd1 hd2=>?_
     clear hdm
     refine aa (hdp hd1) λg1 g2=>?_
     refine aa (hb3 hd2) λg3 g4=>?_
     refine ⟨λa ha=>?_,?_⟩
     ·rcases mem_append.mp ha with ha | ha
      ·exact g1 a ha
      ·have h:=g3 a (by simpa using ha)
       cases e:s.heap.get? a with
       | none=>rfl
       | some o=>obtain ⟨_,e'⟩:=kpsb.there e; rw[e'] at h; exact nM h
     ·rw[append_nil,nodup_append]
      refine ⟨g2,g4,λa ha b hb q=>?_⟩
      subst q
      refine bj (hrab.there a ha) λuu uu e=>?_
      rw[g3 a hb] at e; exact nN e
    ·exact (hTb.onK p).at (λo e=>hsf' _ o (by simpa using Ne.symm hDT) e) λo e=>hsf' _ o (by simpa using Ne.symm hDL) e
    ·refine (hkpb.trans (p.mono λuu uu=>trivial)).trans ((KG.ofW hsf' λb hb o e=>?_).mono λb hb q=>hb (by rw[mem_singleton.mp q]; simp))
     refine ai (hDe) λn ee=>?_
     clear hDe
     rw[mem_singleton.mp hb,ee] at e
     (have oc:=Option.some.inj e; clear e; subst oc)
     exact Stay.not_cls (by simp) (by simp)
    ·exact hq
    ·rw[hrs]; simp[Bool.and_assoc]
 ·have hjl:j=ds.length:=by exact zS hj hlt
  (clear hj hlt; subst hjl)
  rw[List.drop_length] at hcl
  cases hcl
  refine W.done _ _ _ hst' λh₁ tka hka=>?_
  have g:∀ b o,b∉wr->h.get? b=some o->h₁.get? b=some o:=hka
  have e1:res=(ys,dp):=by rw[hrs]; simp
  (clear hres hrs; subst e1)
  refine hR h₁ tka vs as (hD'.at λo e=>g _ o hDw e) (hra.off (offw _ h as hst') g) hys (le_trans hyl hsm.1) has hdp ((hT'.at (λo e=>g _ o hTw e) λo e=>g _ o hLw e).1) (kps.step (KG.ofW g (notw _ h hst')) λb o e q=>by rw[(hwr b q).1] at e; cases e)
end
section
theorem nQ {ex:Expr}(ok:eh ns it ex=true) (env:Env) (v:Value):foldedSetIterable ex env v=pure v:=by
 cases ex with
 | Set es p=>
  cases it with
  | e a=>exfalso; cases a<;>exact Bool.noConfusion (show false=true from ok)
  | r1 n=>exact Bool.noConfusion (show false=true from ok)
  | r2 a b=>exact Bool.noConfusion (show false=true from ok)
 | _=>rfl
set_option maxHeartbeats 1000000 in
theorem gw {RR:Value->Addr->Result->Shared->Prop}{f:PyData->Out (Option (V×Mode))}{x:String}{px:Pos}{elt iter:Expr}{ifs:List Expr}{sc:Scope}{pos:Pos}{A:Around}{env:Env}{σ:St}{P:Addr->Prop}{s:Shared}{Er:Value->Shared->Prop}
  {ds:List PyData}{res:List PyData×Bool}(hsc:iH env.scope.names sc x=true) (X:Cx fns k A P s.heap env σ) (hres:bx f ds = .ok res)
  (step:∀ d r,f d = .ok r->∀ {cenv:Env}{s₃:Shared}{P':Addr->Prop}{Q₁:Shared->Prop}{Qb:Value->Shared->Prop}{Er':Value->Shared->Prop},cenv.scope.names=gi env.scope.names sc.names->Cx fns k A P' s₃.heap cenv (upd σ x (mk (.d d))) ->
   (r=none->∀ s₄,Kp s₃ s₄->Q₁ s₄)->(∀ y,r=some y->∀ v s₄,EP P' s₃ y v s₄->Qb v s₄) ->
   wpAny (model prog w) A (forIn ifs true λc r=>if r=true then do let ok <- isTrue c cenv (eval c cenv); pure (ForInStep.yield ok) else pure (ForInStep.yield r)) (λok s₄=>if ok=true then wpAny (model prog w) A (eval elt cenv) Qb Er' s₄ else Q₁ s₄) Er' s₃)
  {m:Mode}{i:Value}{sb:Shared}(I:ItP A P s ds m i sb)
  (hR:∀ D C h tk m,EP P s (.d (.list res.1),if res.2 then .deep else .top) (.ref D) {sb with heap:=h,toks:=tk }->h.Ns C m->s.heap.get? C=none->RR (.ref D) C (.ok .next) {sb with heap:=h,toks:=tk }) {cl:List (Str×Addr)}(hcl:∀ n,(n,NameKind.free)∈sc.names->cl.lookup n=env.cells.lookup n) :
  wpAny (model prog w) A (newObj (.type "list") (.seq #[]) none) (λacc s₃=>
   wpAny (model prog w) A (newFunctionEnv sc env.globals cl [] env.qual none .none (some env)) (λcenv s₄=>
    codeAny (model prog w) A (.compStart (.ListComp elt [⟨.Name (Str.ofString x) px,iter,ifs,0⟩] sc pos) 0 i acc {cenv with scope:=relabel sc env }) (RR acc cenv.locals) s₄) Er s₃) Er sb:=by
 refine c6 (jJ hsc) λhk hnd htg hnames=>?_
 obtain ⟨t,K9,hsm⟩:=I
 refine vh (K9) λI fp wr Pw St F K4 W hst hwr hfp hPw hF hFP _=>?_
 clear K9
 replace K4:=K4.1
 subst K4
 refine wpAny_newObj_type (BE λu j=>?_)
 have hsz:(sb.heap.push {cls:=.type "list", data:=.seq #[] }).objs.size=sb.heap.objs.size+1:=size_push ..
 dsimp only at j ⊢
 rw[hsz]
 generalize hD:sb.heap.objs.size=D at *
 obtain ⟨c1,c2,c3⟩:=kI (X:=Str.ofString x) sc.names ((sb.heap.push {cls:=.type "list", data:=.seq #[] }).push {cls:=.type "dict", data:=.dict #[] }) cl (λp hp e=>by
  rcases hnames p hp with h | h | h | h
  ·rw[h.1] at e; cases e
  ·rw[h] at e; cases e
  ·exact h.2
  ·rw[h.1] at e; cases e) hnd
 rw[size_push,hsz] at c1 c2 c3
 rw[<- j] at c2
 have l:∀ b o,sb.heap.get? b=some o->u.get? b=some o:=λb o e=>by
  rw[j]; exact pushCells_keeps _ _ _ _ (Heap.get?_push_of_some _ (Heap.get?_push_of_some _ e))
 have hDc:u.PlainList D #[]:=⟨0,by rw[j]; exact pushCells_keeps _ _ _ _ (Heap.get?_push_of_some _ (hD▸Heap.get?_push_size _ rfl))⟩
 have z:u.Ns (D+1) (λuu=>none):=by
  have:=Heap.Ns.new (sb.heap.push {cls:=.type "list", data:=.seq #[] }) (.type "dict")
  rw[hsz] at this
  rw[j]
  exact this.keeps (pushCells_keeps _ _)
 have old:∀ b,(∃ o,sb.heap.get? b=some o)->b<D:=λb ⟨o,e⟩=>hD▸lt_size e
 have g:∀ b,D<=b->s.heap.get? b=none:=λb hb=>by
  cases e:s.heap.get? b with
  | none=>rfl
  | some o=>exact absurd (old b (t.k.there e)) (Nat.not_lt.mpr hb)
 obtain ⟨T,hT,hTD,hkc⟩:∃ T,Tgt {scope:=relabel sc env,locals:=D+1,globals:=env.globals,cells:=cellsFrom (D+1+1) sc.names cl,qual:=env.qual,func:=none,code:=env.code,frame:=env.frame,builtins:=env.builtins } (Str.ofString x) T u/\D+1<=T /\
   (sc.names.lookup (Str.ofString x)=some .cell->(cellsFrom (D+1+1) sc.names cl).lookup (Str.ofString x)=some T):=by
  have hkd:(relabel sc env).names.lookup (Str.ofString x)=(sc.names.lookup (Str.ofString x)).map λkd=>if kd == .free&&env.scope.names.lookup (Str.ofString x)==some .cell then .cell else kd:=by
   rw[gc X.eok.kind]; exact iL
  rcases htg with ht | ht
  ·refine (aw (D+1) ⟨⟨_,z⟩,.inl ⟨?_,rfl⟩⟩ (le_refl _) (λq=>?_))
   ·show (relabel sc env).names.lookup _=_
    rw[hkd,ht]; rfl
   ·rw[ht] at q; cases q
  ·refine am (c2 ht) λc g1 g2 g3=>?_
   refine (aw c ⟨⟨_,z⟩,.inr (bV ?_ g1 ?_ (bT _ g2))⟩ (Nat.le_of_succ_le g3) (λuu=>g1))
   ·show (relabel sc env).names.lookup _=_
    rw[hkd,ht]; rfl
   ·exact ne_of_gt g3
 have hstc:St 0 u:=W.frame _ _ _ hst λb _ o e=>l b o e
 refine codeAny_compStart_list ?_ ?_
 all_goals
  first
  | (refine W.self 0 _ _ _ hstc ?_)
  | skip
 all_goals
  refine vi (s:=s) (P:=P) (T:=T) W hstc hk (KG.trans t.k (K.of l)) hwr (λb hb=>bj (hF b hb) λvs n e=>(bn vs n (l _ _ e))) hfp (λi v hv d hd=>ae (hPw i v hv d hd) λbs h1 h2=>(af bs (h1.keep l) h2)) hFP (λb hb=>?_) (λb hb=>?_) (ne_of_lt hTD) (ne_of_lt (lt_succ_self D)) (g D (le_refl _)) (g T (Nat.le_of_succ_le hTD)) hsm hres hDc hT ?_ ?_
  ·refine bj (hF b hb) λuu uu e=>?_
   have:=old b ⟨_,e⟩
   exact ⟨ne_of_lt this,ne_of_lt (lt_of_lt_of_le this (Nat.le_of_succ_le hTD)),ne_of_lt (lt_succ_of_lt this)⟩
  ·refine ae ((hwr b hb).2.2 0 _ hst) λo e _=>?_
   have:=old b ⟨_,e⟩
   exact ⟨ne_of_lt this,ne_of_lt (lt_of_lt_of_le this (Nat.le_of_succ_le hTD)),ne_of_lt (lt_succ_of_lt this)⟩
  ·intro d r hf hz s₄ Q₁ Qb Er' v bs hv hr hbs kps h1 h2
   refine step d r hf (gc X.eok.kind) (Ba hsc (gc X.eok.kind) hk rfl rfl (λn hn=>?_) (λq=>⟨T,hkc q⟩) rfl X kps hv hr hz hbs λa ha hex=>⟨.inl ha,λq=>?_⟩) h1 h2
   ·show (cellsFrom (D+1+1) sc.names cl).lookup n=_
    rw[c1 n λq=>?_,hcl n hn]
    subst q
    have:=jO hnd hn
    rw[this] at htg
    rcases htg with q | q<;>cases q
   ·(clear h2 hDc z hT hTD hbs hkc hsz hv old; subst q)
    refine ai (hex) λo e=>?_
    clear hex
    rw[g _ (le_refl _)] at e; exact nN e
  ·intro h tk vs as hp hra hys hyl has hdp hm hkp
   revert hm; intro LJ
   refine ai (LJ) λm' hm=>?_
   clear LJ
   refine ai (hp) λn hpl=>?_
   clear hp
   refine hR D (D+1) h tk m' ?_ hm (g _ (le_succ D))
   refine au (t) λhhb tkb K8 hkkb=>?_
   clear t
   (clear j hF hPw hR l hst hsz old; subst K8)
   refine ⟨(aC h tk rfl hkp),D::as,⟨.list hpl hra,sz_list.mpr ⟨hyl,hys⟩⟩,?_,?_,?_⟩
   ·intro a ha
    rcases mem_cons.mp ha with rfl | ha
    ·exact .inr (g _ (le_refl _))
    ·exact (has a ha).2
   ·exact λuu=>(aU D as rfl (g _ (le_refl _)) (λq=>(has D q).1 rfl))
   ·intro hm'
    dsimp only at hm'
    have hb:res.2=true:=by
     cases e:res.2 with
     | true=>rfl
     | false=>rw[e] at hm'; cases hm'
    refine ⟨λa ha=>?_,nodup_cons.mpr ⟨λq=>(has D q).1 rfl,(hdp hb).2⟩⟩
    rcases mem_cons.mp ha with rfl | ha
    ·exact g _ (le_refl _)
    ·exact (hdp hb).1 a ha
theorem R.sameBut {h h':Heap}{C:Addr}{m:Str->Option Value}{v:Value}{d:PyData}{as:List Addr}(r:R h v d as) (hm:h.Ns C m) (hs:Heap.SameBut C h h'):R h' v d as:=by
 refine r.off (wr:=[C]) (λb g o e=>?_) λb o g e=>hs.extBut b o (λq=>g (by simp[q])) e
 rw[mem_singleton.mp g] at e
 refine aL (hm) λp t u k j _=>?_
 clear hm
 rw[k] at e; (have i:=Option.some.inj e; clear e; subst i)
 exact .inl λl n q=>by rw[j] at q; cases q
theorem EP.sameBut {P:Addr->Prop}{s sb:Shared}{h h':Heap}{tk:Nat}{C:Addr}{m:Str->Option Value}{d:PyData}{md:Mode}{v:Value}(E:EP P s (.d d,md) v {sb with heap:=h,toks:=tk }) (hm:h.Ns C m) (hC:s.heap.get? C=none) (hs:Heap.SameBut C h h') :
  EP P s (.d d,md) v {sb with heap:=h',toks:=tk }:=by
 obtain ⟨i,as,g,t,p,n⟩:=E
 refine au (i) λhh l e x=>?_
 clear i
 refine aa (g) λr z=>?_
 clear g
 cases sb; cases s; cases e
 refine aL (id hm) λo' es ep y k _=>?_
 refine ⟨(aC h' tk rfl (K.step x (KG.ofW (wr:=[C]) (λb o j e=>hs.extBut b o (λq=>j (by simp[q])) e) λb j o e=>?_) λb o e q=>?_)),as,⟨R.sameBut r hm hs,z⟩,t,p,n⟩
 ·rw[mem_singleton.mp j,y] at e; (have u:=Option.some.inj e; clear e; subst u)
  exact Stay.not_data (λuu q=>by rw[k] at q; cases q) λuu uu q=>by rw[k] at q; cases q
 ·rw[mem_singleton.mp q,hC] at e; exact nN e
theorem pg {elt iter:Expr}
  (hsc:iH env.scope.names sc x=true) (X:Cx fns k A P h env σ) (hset:∀ v,foldedSetIterable iter env v=pure v)
  (h:∀ cl:List (Str×Addr),(∀ n,(n,NameKind.free)∈sc.names->cl.lookup n=env.cells.lookup n)->wpAny (model prog w) A (eval iter env) (λv s₁=>wpAny (model prog w) A (pyIter v) (λi sb=>wpAny (model prog w) A (newObj (.type "list") (.seq #[]) none) (λacc t=>
   wpAny (model prog w) A (newFunctionEnv sc env.globals cl [] env.qual none .none (some env)) (λcenv s₄=>
    codeAny (model prog w) A (.compStart (.ListComp elt [⟨.Name (Str.ofString x) px,iter,ifs,0⟩] sc pos) 0 i acc {cenv with scope:=relabel sc env }) (compPost (model prog w) A Er none Q acc cenv.locals) s₄) Er t) Er sb) Er s₁) Er s) :
  wpAny (model prog w) A (eval (.ListComp elt [⟨.Name (Str.ofString x) px,iter,ifs,0⟩] sc pos) env) Q Er s:=by
 refine c6 (jJ hsc) λhk l q g=>?_
 obtain ⟨cl,m,j⟩:=mh (scope:=sc) (env:=env) (λp r e=>by
  rcases g p r with h | h | h | h
  ·rw[h.1] at e; cases e
  ·rw[h] at e; cases e
  ·rw[h.1] at e; cases e
  ·exact X.eok.cells p.1 h.2)
 rw[eval_ListComp]
 exact wpAny_comprehension_free (use:=none) rfl hset m hk (λy o e=>by rw[<- e]; exact jO l o) (h cl j)
theorem fO {α:Type}{o:Out α}(h:o.calm≠.bad):∃ a,o = .ok a:=by
 cases o with
 | ok a=>exact ⟨a,rfl⟩
 | exc c=>exact absurd rfl h
 | bad=>exact absurd rfl h
theorem x9 {elt:E}(Si:cZ fns k C XP it) (Se:SimE fns k C XP elt):SimE fns k C XP (.comp elt x it):=by
 intro ex A env σ P s Q Er ok X nb hQ hE
 replace ok:=xc ok
 revert ok; refine λg=>Or.elim g (λj=>?_) (λok=>?_)
 ·clear g
  refine ud (j) λLP L6 ML ME MR z n ok=>?_
  clear j
  subst n
  simp only[and_eq_true,beq_iff_eq] at ok
  refine aa (ok) λp oe=>?_
  clear ok
  refine aa (p) λo oi=>?_
  clear p
  refine aa (o) λK6 t=>?_
  clear o
  subst K6
  simp only[d7] at nb hQ hE
  refine aN nb λn1 n2=>?_
  refine pg t X (nQ oi env) λcl hcl=>Si oi X n1 (λq hq i sb I=>?_) λc u=>hE c (by rw[u]; rfl)
  refine ai (fO (bp (n2 q hq)).1) λres l=>?_
  refine gw (RR:=λacc C=>compPost (model prog w) A Er none Q acc C) (ds:=q.1) t X l (λd r hf cenv sc P' Q₁ Qb Er' hN X' h1 h2=>wpAny_tests_nil ?_) I (λD C h tk m E hm hC=>(af m hm (λh' hs=>hQ _ (by rw[hq,Out.ok_bind,l]; rfl) _ _ (E.sameBut hm hC hs)))) hcl
  rw[if_pos rfl]
  refine Out.bind_k hf λy hy e=>?_
  (have oc:=Out.ok.inj e; clear e; (clear h1 hf; subst oc))
  refine Se (hN▸oe) X' (by rw[hy]; simp) (λr hr v s' E=>h2 r (by rw[hy] at hr; (have oc:=Out.ok.inj hr; clear hr; (clear E; subst oc)); rfl) v s' E) λc u=>by rw[hy] at u; cases u
 ·cases ok
theorem ui {elt c:E}(Si:cZ fns k C XP it) (Se:SimE fns k C XP elt) (Sc:SimT fns k C XP c):SimE fns k C XP (.compif elt x it c):=by
 intro ex A env σ P s Q Er ok X nb hQ hE
 replace ok:=qr ok
 revert ok; refine λl=>Or.elim l (λn=>?_) (λok=>?_)
 ·clear l
  refine k9 (n) λLV Mj L0 MU MK MF MP LW ok=>?_
  clear n
  subst LW
  simp only[and_eq_true,beq_iff_eq] at ok
  refine aa (ok) λK3 oe=>?_
  clear ok
  refine aa (K3) λp j=>?_
  clear K3
  refine aa (p) λo oi=>?_
  clear p
  refine aa (o) λLb hsc=>?_
  clear o
  subst Lb
  simp only[c7] at nb hQ hE
  refine aN nb λn1 n2=>?_
  refine pg hsc X (nQ oi env) λcl hcl=>Si oi X n1 (λq hq i sb I=>?_) λc hc=>hE c (by rw[hc]; rfl)
  refine ai (fO (bp (n2 q hq)).1) λres u=>?_
  refine gw (RR:=λacc C=>compPost (model prog w) A Er none Q acc C) (ds:=q.1) hsc X u (λd r z cenv sc P' Q₁ Qb Er' hN X' h1 h2=>wpAny_tests_one ?_) I (λD C h tk m E hm hC=>(af m hm (λh' hs=>hQ _ (by rw[hq,Out.ok_bind,u]; rfl) _ _ (E.sameBut hm hC hs)))) hcl
  refine Out.bind_k z λt ht z=>?_
  refine Out.bind_k z λb hb z=>?_
  refine Sc (hN▸j) X' (by rw[ht,Out.ok_bind,hb]; simp) (λb' hb' s₄ g=>?_) λc hc=>by rw[ht] at hc; cases hc
  rw[ht,Out.ok_bind,hb] at hb'
  (have j:=Out.ok.inj hb'; clear hb'; subst j)
  cases b with
  | false=>(have j:=Out.ok.inj z; clear z; (clear h2; subst j)); simpa using h1 rfl s₄ g
  | true=>
   rw[if_pos rfl] at z ⊢
   refine Out.bind_k z λy hy e=>?_
   (have j:=Out.ok.inj e; clear e; (clear h1; subst j))
   exact Se (hN▸oe) (X'.k g.k) (by rw[hy]; simp) (λr hr v s' E=>h2 r (by rw[hy] at hr; (have j:=Out.ok.inj hr; clear hr; (clear E; subst j)); rfl) v s' (E.after g)) λc hc=>by rw[hy] at hc; cases hc
 ·cases ok
end
theorem kW (val:Nat->Int):∀ k,argBest (λi j=>decide (val i>val j)) k<=k/\∀ j,j<=k->val j<=val (argBest (λi j=>decide (val i>val j)) k)
 | 0=>⟨le_refl _,λj g=>by
  have:j=0:=by exact Fq g
  (clear g; subst this)
  exact Int.le_refl _⟩
 | k+1=>by
  refine aa (kW val k) λl h=>?_
  unfold argBest
  by_cases hc:val (k+1)>val (argBest (λi j=>decide (val i>val j)) k)
  ·rw[if_pos (by simpa using hc)]
   refine ⟨le_refl _,λj g=>?_⟩
   by_cases e:j=k+1
   ·(clear g; subst e); exact Int.le_refl _
   ·have:=h j (An g e); exact J9 hc this
  ·rw[if_neg (by simpa using hc)]
   refine ⟨by exact Nat.le_succ_of_le ‹_›,λj g=>?_⟩
   by_cases e:j=k+1
   ·(clear g; subst e); exact HO hc
   ·exact h j (An g e)
theorem qN (h:fE ns=some m):ns[argBest (λi j=>decide (ns[i]?.getD 0>ns[j]?.getD 0)) (ns.length-1)]?.getD 0=m:=by
 refine aa (kW (λi=>ns[i]?.getD 0) (ns.length-1)) λu t=>?_
 refine aa (oW h) λl o=>?_
 have r:0<ns.length:=List.length_pos_of_mem l
 generalize argBest (λi j=>decide (ns[i]?.getD 0>ns[j]?.getD 0)) (ns.length-1)=b at *
 have q:ns[b]? = some ns[b]:=List.getElem?_eq_getElem (Gk r u)
 rw[q]
 dsimp only [Option.getD_some]
 have n:=o ns[b] (List.getElem_mem _)
 refine ai (List.getElem_of_mem l) λj g=>?_
 refine ai (g) λp e=>?_
 clear g
 have k:=t j (Fd p)
 rw[q,List.getElem?_eq_getElem p,e] at k
 simp only[Option.getD_some] at k
 exact zX n k
section
theorem Cf (h:IntsAre vs ns):∀ {i:Nat}{v:Value},vs[i]? = some v->∃ t,v = .int (ns[i]?.getD 0) t:=by
 induction h with
 | nil=>intro i v h; simp at h
 | cons n t _ ih=>
  intro i v h
  cases i with
  | zero=>simp at h; exact ⟨t,by simp[<- h]⟩
  | succ i=>simpa using ih (by simpa using h)
theorem vB (hh:A.handled=none) (ra:R s.heap va (.list xs) as) (hi:aJ xs=some ns)
  (hG:∀ I fp wr Pw St sb,Walks prog w A I fp wr ns.length Pw St->St 0 sb.heap->(∀ b∈fp,b<sb.heap.objs.size)->(∀ i v,Pw i v->∃ t,v = .int (ns[i]?.getD 0) t)->(∀ b∈wr,s.heap.get? b=none/\∀ o,sb.heap.get? b=some o->¬ Stay o)->Kp s sb->G (.ref I) sb) :
  wpAny (model prog w) A (pyIter va) G Er s:=by
 refine ra.isList_k λa p n x m h g l=>?_
 (clear ra; subst m)
 subst l
 refine aG (g.ints hi) λu k j=>?_
 subst k
 subst j
 have e:p.toArray.size=ns.length:=by rw[size_toArray,g.length,length_map]
 have W:=Walks.list (prog:=prog) (w:=w) (A:=A) hh s.heap.objs.size a (fF h) p.toArray
 rw[e] at W
 refine wpAny_pyIter_list (isL h) (hG _ _ _ _ _ _ W ⟨(aw _ (Heap.get?_push_size _ rfl) rfl rfl),(isL h).push _⟩ ?_ ?_ ?_ (.push s _ _))
 ·intro b hb
  rw[show _=s.heap.objs.size+1 from size_push ..]
  rcases mem_cons.mp hb with rfl | hb
  ·exact lt_succ_self _
  ·rw[mem_singleton.mp hb]; exact lt_succ_of_lt (lt_size h)
 ·intro i v r
  exact Cf u (by simpa using r)
 ·intro b hb
  rw[mem_singleton.mp hb]
  refine ⟨bq _,λo e=>?_⟩
  rw[show _=some _ from Heap.get?_push_size _ rfl] at e
  (have q:=Option.some.inj e; clear e; subst q)
  exact Stay.not_cls (by simp) (by simp)
theorem Kp.after {s sb:Shared}{h':Heap}{tk:Nat}{wr:List Addr}(kp:Kp s sb) (hwr:∀ b∈wr,s.heap.get? b=Option.none/\∀ o,sb.heap.get? b=some o->¬ Stay o) (hk:∀ b o,b∉wr->sb.heap.get? b=some o->h'.get? b=some o):Kp s {sb with heap:=h',toks:=tk }:=by
 refine au (kp) λh t g k=>?_
 clear kp
 subst g
 exact (aC h' tk rfl (K.step k (KG.ofW hk λb i=>(hwr b i).2) λb o e i=>by rw[(hwr b i).1] at e; cases e))
theorem xz (hh:A.handled=none) (ra:R s.heap va (.list xs) as) (hi:aJ xs=some ns) (hm:fE ns=some m) (hQ:∀ v s',EP P s (sI m) v s'->Q v s'):wpAny (model prog w) A (call (.builtin "max") [va]) Q Er s:=by
 refine call_max_walk (vB (A:=A.in1) hh ra hi λI q o Pw St l W j k g i p=>(qz I q o _ Pw St _ rfl W j k (List.length_pos_of_mem (oW hm).1) (CmpOf.ints_gt _ g) (λv u r n hk=>?_)))
 refine ai (g _ _ n) λt h=>?_
 (clear n; subst h)
 rw[qN hm]
 exact hQ _ _ (.int (p.after i hk))
noncomputable def Isi (s:Shared) (t:String) (v:Value) (b:Bool):Prop:=∀ (A:Around) (Q:Value->Shared->Prop) (Er:Value->Shared->Prop),(∀ s',Kp s s'->Q (.bool b) s')->wpAny (model prog w) A (call (.builtin "isinstance") [v,.type t]) Q Er s
theorem kn {t:String}{f:Nat->Bool}(h0:Isi s t .none (f 0)) (h1:∀ b,Isi s t (.bool b) (f 1)) (h2:∀ i u,Isi s t (.int i u) (f 2)) (h3:∀ x u,Isi s t (.str x u) (f 3))
  (h4:∀ {a:Addr}{n:Nat}{vs:List Value},s.heap.get? a=some ⟨.type "list", none,.seq vs.toArray n,#[]⟩->Isi s t (.ref a) (f 4)) (h5:∀ {a:Addr}{n:Nat}{vs:List Value},s.heap.get? a=some ⟨.type "tuple", none,.seq vs.toArray n,#[]⟩->Isi s t (.ref a) (f 5))
  {x:PyData}(ra:R s.heap va x as):Isi s t va (f (qf x)) :=
 (R.ind (M:=λv d _=>Isi s t v (f (qf d))) (N:=λuu uu uu=>True) h0 h1 h2 h3 (λe _ _=>h4 e) (λe _ _=>h5 e) trivial λuu uu uu uu=>trivial).1 ra
theorem yH (he:nG t (qf x)=some b) (ra:R s.heap va x as) (hQ:∀ s',Kp s s'->Q (.bool b) s'):wpAny (model prog w) A (call (.builtin "isinstance") [va,.type t]) Q Er s :=
 have l:=Kp.refl s
 have g:=Kp.toks s (s.toks+1)
 rJ he (λq j=>q▸(kn (t:="int") (f:=λk=>(k==2||k==1)) (λA Q Er h=>IsiPair.NoneType_int (h _ g)) (λuu A Q Er h=>IsiPair.bool_int (h _ l)) (λuu i A Q Er h=>IsiPair.int_int (h _ l)) (λuu i A Q Er h=>IsiPair.str_int (h _ g)) (λe A Q Er h=>IsiPair.list_int e rfl (h _ g)) (λe A Q Er h=>IsiPair.tuple_int e rfl (h _ g)) ra) _ _ _ (j▸hQ))
  (λq j=>q▸(kn (t:="bool") (f:=λk=>(k==1)) (λA Q Er h=>IsiPair.NoneType_bool (h _ g)) (λuu A Q Er h=>IsiPair.bool_bool (h _ l)) (λuu i A Q Er h=>IsiPair.int_bool (h _ g)) (λuu i A Q Er h=>IsiPair.str_bool (h _ g)) (λe A Q Er h=>IsiPair.list_bool e rfl (h _ g)) (λe A Q Er h=>IsiPair.tuple_bool e rfl (h _ g)) ra) _ _ _ (j▸hQ))
  (λq j=>q▸(kn (t:="list") (f:=λk=>(k==4)) (λA Q Er h=>IsiPair.NoneType_list (h _ g)) (λuu A Q Er h=>IsiPair.bool_list (h _ g)) (λuu i A Q Er h=>IsiPair.int_list (h _ g)) (λuu i A Q Er h=>IsiPair.str_list (h _ g)) (λe A Q Er h=>IsiPair.list_list e rfl (h _ l)) (λe A Q Er h=>IsiPair.tuple_list e rfl (h _ g)) ra) _ _ _ (j▸hQ))
  (λq j=>q▸(kn (t:="tuple") (f:=λk=>(k==5)) (λA Q Er h=>IsiPair.NoneType_tuple (h _ g)) (λuu A Q Er h=>IsiPair.bool_tuple (h _ g)) (λuu i A Q Er h=>IsiPair.int_tuple (h _ g)) (λuu i A Q Er h=>IsiPair.str_tuple (h _ g)) (λe A Q Er h=>IsiPair.list_tuple e rfl (h _ g)) (λe A Q Er h=>IsiPair.tuple_tuple e rfl (h _ l)) ra) _ _ _ (j▸hQ))
  (λq j=>q▸(kn (t:="str") (f:=λk=>(k==3)) (λA Q Er h=>IsiPair.NoneType_str (h _ g)) (λuu A Q Er h=>IsiPair.bool_str (h _ g)) (λuu i A Q Er h=>IsiPair.int_str (h _ g)) (λuu i A Q Er h=>IsiPair.str_str (h _ l)) (λe A Q Er h=>IsiPair.list_str e rfl (h _ g)) (λe A Q Er h=>IsiPair.tuple_str e rfl (h _ g)) ra) _ _ _ (j▸hQ))
theorem rE (hh:A.handled=none)
  (hG:∀ I fp wr Pw St sb,Walks prog w A I fp wr 2 Pw St->St 0 sb.heap->(∀ b∈fp,b<sb.heap.objs.size)->(∀ i v,Pw i v->∃ t,v = .int ([a,b][i]?.getD 0) t)->(∀ b∈wr,s.heap.get? b=none/\∀ o,sb.heap.get? b=some o->¬ Stay o)->Kp s sb->G (.ref I) sb) :
  wpAny (model prog w) A (pyIter (.ref s.heap.objs.size)) G Er {s with heap:=s.heap.push {cls:=.type "tuple", data:=.seq #[.int a t,.int b u] } }:=by
 have j:(s.heap.push {cls:=.type "tuple", data:=.seq #[.int a t,.int b u] }).IsTuple s.heap.objs.size #[.int a t,.int b u]:=(aw _ (Heap.get?_push_size _ rfl) rfl (bT 0 rfl))
 have h:(s.heap.push {cls:=.type "tuple", data:=.seq #[.int a t,.int b u] }).objs.size=s.heap.objs.size+1:=size_push ..
 have W:=Walks.tuple (prog:=prog) (w:=w) (A:=A) hh (s.heap.objs.size+1) s.heap.objs.size (ne_of_lt (lt_succ_self _)) #[.int a t,.int b u]
 refine wpAny_pyIter_tuple j ?_
 dsimp only
 rw[h]
 refine hG _ _ _ _ _ _ W ⟨(aw ({cls:=.type "tuple_iterator", data:=.fields #[.ref s.heap.objs.size,.int 0 0] }) ?_ rfl rfl),j.push _⟩ ?_ ?_ ?_ ?_
 ·exact h▸Heap.get?_push_size _ rfl
 ·intro b hb
  dsimp only
  rw[size_push,h]
  rcases mem_cons.mp hb with rfl | hb
  ·exact lt_succ_self _
  ·rw[mem_singleton.mp hb]; exact lt_succ_of_lt (lt_succ_self _)
 ·intro i v g
  match i,g with
  | 0,g=>simp at g; exact ⟨t,by simp[<- g]⟩
  | 1,g=>simp at g; exact ⟨u,by simp[<- g]⟩
  | i+2,g=>simp at g
 ·intro b hb
  rw[mem_singleton.mp hb]
  refine ⟨Heap.get?_none_of_le (le_succ _),λo e=>?_⟩
  dsimp only at e
  rw[<- h,show _=some _ from Heap.get?_push_size _ rfl] at e
  (have k:=Option.some.inj e; clear e; subst k)
  exact Stay.not_cls (by simp) (by simp)
 ·exact (Kp.push s _ s.toks).trans (Kp.push _ _ s.toks)
theorem Cq (hh:A.handled=none) (he:b2V f (.d (.int a)) (.d (.int b)) = .ok r) (hQ:∀ v s',EP P s r v s'->Q v s'):wpAny (model prog w) A (call (.builtin (b2n f)) [.int a t,.int b u]) Q Er s:=by
 cases f with
 | max=>
  (have x:=Out.ok.inj he; clear he; subst x)
  refine call_max_two (rE (A:=A.in1) hh λI z o Pw St m W k l g h y=>(qz I z o 2 Pw St _ rfl W k l (le_succ _) (CmpOf.ints_gt _ g) (λv h' tk n hk=>?_)))
  refine ai (g _ _ n) λt q=>?_
  (clear n; subst q)
  have e:([a,b][argBest (λi j=>decide ([a,b][i]?.getD 0>[a,b][j]?.getD 0)) (2-1)]?.getD 0)=if a<b then b else a:=by
   simp only[argBest,Nat.add_one_sub_one]
   by_cases hc:a<b
   ·simp[hc]
   ·simp[hc]
  rw[e]
  exact hQ _ _ (.int (y.after h hk))
 | min=>
  (have x:=Out.ok.inj he; clear he; subst x)
  refine call_min_two (rE (A:=A.in1) hh λI z o Pw St m W k l g h y=>(qz I z o 2 Pw St _ rfl W k l (le_succ _) (CmpOf.ints_lt _ g) (λv h' tk n hk=>?_)))
  refine ai (g _ _ n) λt p=>?_
  (clear n; subst p)
  have e:([a,b][argBest (λi j=>decide ([a,b][i]?.getD 0 < [a,b][j]?.getD 0)) (2-1)]?.getD 0)=if b<a then b else a:=by
   simp only[argBest,Nat.add_one_sub_one]
   by_cases hc:b<a
   ·simp[hc]
   ·simp[hc]
  rw[e]
  exact hQ _ _ (.int (y.after h hk))
end
noncomputable def rkA (rk:Keyed->Nat) (arr:Array Keyed) (i:Nat):Nat:=match arr[i]? with
 | some p=>rk p
 | none=>0
noncomputable def iJ (M:Model) (A:Around) (E:Value->Shared->Prop) (s:Shared) (rk:Keyed->Nat) (ok:Keyed->Prop) (κ:SortKind):Prop :=
 ∀ {x y:Keyed}{st:SortSt}{Q:Option Bool->SortSt->Prop},ok x->ok y->kindOf st=κ->Q (some (decide (rk x<rk y))) st->wpS M A E s (lt' x y) Q st
noncomputable def Up (rk:Keyed->Nat) (l:List Keyed):Prop:=l.Pairwise λx y=>rk x<=rk y
structure Gd (rk:Keyed->Nat) (ok:Keyed->Prop) (κ:SortKind) (st:SortSt):Prop where
 ok:∀ p∈arrOf st,ok p
 kind:kindOf st=κ
noncomputable def SegUp (rk:Keyed->Nat) (arr:Array Keyed) (lo n:Nat):Prop:=∀ i j,lo<=i->i<=j->j<lo+n->rkA rk arr i<=rkA rk arr j
structure SG where
 A:Around
 E:Value->Shared->Prop
 s:Shared
 rk:Keyed->Nat
 ok:Keyed->Prop
 κ:SortKind
noncomputable def gM:Model:=model prog w
noncomputable def SP1 (x:SG):Prop:=iJ gM x.A x.E x.s x.rk x.ok x.κ->∀ {st:SortSt}{Q:Unit->SortSt->Prop},Gd x.rk x.ok x.κ st->2<=(arrOf st).size->(arrOf st).size<64->pendingOf st = #[]->failedOf st=none->(∀ st',(arrOf st').Perm (arrOf st)->Up x.rk (arrOf st').toList->failedOf st' = none->Q () st')->wpS gM x.A x.E x.s sortRuns' Q st
noncomputable def me (x:SG):Prop:=SP1 x
noncomputable def sg:SG:=@Classical.epsilon SG ⟨⟨{},λ_ _=>True,{},λ_=>0,λ_=>True,oneType'⟩⟩ λx=>¬ me x
theorem CL (h:me sg):∀ x,me x:=λx=>Classical.byContradiction λn=>@Classical.epsilon_spec SG (λx=>¬ me x) ⟨x,n⟩ h
noncomputable def gA:Around:=sg.A
noncomputable def gE:Value->Shared->Prop:=sg.E
noncomputable def gs:Shared:=sg.s
noncomputable def gr:Keyed->Nat:=sg.rk
noncomputable def go:Keyed->Prop:=sg.ok
noncomputable def gk:SortKind:=sg.κ
section
theorem rA {arr:Array Keyed}{i:Nat}{st:SortSt}{Q:Keyed->SortSt->Prop}(hi:i<arr.size) (h:Q arr[i] st):wpS gM gA gE gs (elem' arr i) Q st:=by
 rw[elem'_eq,Array.getElem?_eq_getElem hi]
 exact wpS_pure h
theorem nH (hi:i<arr.size):rkA gr arr i=gr arr[i]:=by unfold rkA; rw[Array.getElem?_eq_getElem hi]
end
structure MI (gr:Keyed->Nat) (a b o:List Keyed) (i j:Nat):Prop where
section
end
section
theorem qH {x:String}{st:SortSt}{Q:Unit->SortSt->Prop}(h:Q () st):wpS gM gA gE gs (liftM (rule x):StateT SortSt Sem Unit) Q st:=wpS_pure (M:=gM) (E:=gE) h
theorem mS (hi:i<arr.toList.length):rkA gr arr i=gr arr.toList[i]:=by rw[length_toList] at hi; rw[nH hi]; rfl
end
section
structure Two (gr:Keyed->Nat) (go:Keyed->Prop) (a b:Array Keyed):Prop where
structure LoS (gr:Keyed->Nat) (a b:Array Keyed) (st:SortSt) (n:Nat) (out:Array Keyed) (ia ib:Nat) (st':SortSt):Prop where
section
end
end
structure MH (gr:Keyed->Nat) (a b o:List Keyed) (i j:Nat):Prop where
section
end
section
structure HiS (gr:Keyed->Nat) (a b:Array Keyed) (st:SortSt) (n na nb:Nat) (out:Array Keyed) (st':SortSt):Prop where
section
end
end
section
structure Wn (lo hi:Nat) (st st':SortSt):Prop where
 kind:kindOf st' = kindOf st
 pend:pendingOf st' = pendingOf st
 fail:failedOf st' = failedOf st
 perm:(arrOf st').Perm (arrOf st)
 out:∀ k,(k<lo\/hi<=k)->(arrOf st')[k]? = (arrOf st)[k]?
theorem Wn.refl (lo hi:Nat) (st:SortSt):Wn lo hi st st:=⟨rfl,rfl,rfl,.refl _,λuu uu=>rfl⟩
theorem Wn.trans {lo hi:Nat}{x y z:SortSt}(h:Wn lo hi x y) (g:Wn lo hi y z):Wn lo hi x z:=⟨g.kind.trans h.kind,g.pend.trans h.pend,g.fail.trans h.fail,g.perm.trans h.perm,λk hk=>(g.out k hk).trans (h.out k hk)⟩
theorem Gd.of {lo hi:Nat}{st st':SortSt}(g:Gd gr go gk st) (h:Wn lo hi st st'):Gd gr go gk st':=⟨λp i=>g.ok p (h.perm.mem_iff.mp i),h.kind.trans g.kind⟩
theorem Wn.size {lo hi:Nat}{st st':SortSt}(h:Wn lo hi st st'):(arrOf st').size=(arrOf st).size:=h.perm.size_eq
theorem dy (h:xs[i]? = ys[j]?):rkA gr xs i=rkA gr ys j:=by unfold rkA; rw[h]
theorem jl (hlt:iJ gM gA gE gs gr go gk) {st:SortSt}{i j:Nat}{Q:Option Bool->SortSt->Prop}(g:Gd gr go gk st) (hi:i<(arrOf st).size) (hj:j<(arrOf st).size) (h:Q (some (decide (rkA gr (arrOf st) i<rkA gr (arrOf st) j))) st):wpS gM gA gE gs (ltAt' i j) Q st:=by
 rw[ltAt'_eq]
 refine wpS_bind (wpS_get (wpS_bind (rA hi (wpS_bind (rA hj (hlt (g.ok _ (Array.getElem_mem _)) (g.ok _ (Array.getElem_mem _)) g.kind ?_))))))
 rw[nH hi,nH hj] at h
 exact h
def SegDn (gr:Keyed->Nat) (arr:Array Keyed) (lo n:Nat):Prop:=∀ i j,lo<=i->i<=j->j<lo+n->rkA gr arr j<=rkA gr arr i
theorem SegUp.succ {arr:Array Keyed}{lo n:Nat}(h:SegUp gr arr lo n) (h1:1<=n) (hn:rkA gr arr (lo+n-1)<=rkA gr arr (lo+n)):SegUp gr arr lo (n+1):=by
 intro i j k g l
 by_cases e:j=lo+n
 ·(clear l; subst e)
  by_cases e':i=lo+n
  ·(clear k g; subst e'); exact le_refl _
  ·exact le_trans (h i (lo+n-1) k (z8 g e') (ut h1)) hn
 ·exact h i j k g (Af l e)
theorem SegDn.succ {arr:Array Keyed}{lo n:Nat}(h:SegDn gr arr lo n) (h1:1<=n) (hn:rkA gr arr (lo+n)<=rkA gr arr (lo+n-1)):SegDn gr arr lo (n+1):=by
 intro i j k g l
 by_cases e:j=lo+n
 ·(clear l; subst e)
  by_cases e':i=lo+n
  ·(clear k g; subst e'); exact le_refl _
  ·exact le_trans hn (h i (lo+n-1) k (z8 g e') (ut h1))
 ·exact h i j k g (Af l e)
theorem lb {i j:Nat}{st:SortSt}{Q:Unit->SortSt->Prop}(h:Q () (setArr st (mirror (arrOf st) i j ((j-i)/2)))):wpS gM gA gE gs (reverseSlice' i j) Q st:=by
 rw[reverseSlice'_eq]; exact wpS_modify h
noncomputable def vO (lo nrem n:Nat):StateT SortSt Sem (Option Nat):=do
 let mut n:=n
 reverseSlice' lo (lo+n)
 for _ in [n:nrem] do
  let some smaller <- ltAt' (lo+n) (lo+n-1) | return none
  if smaller then break
  n:=n+1
 return some n
noncomputable def vX (lo nrem n:Nat):StateT SortSt Sem (Option Nat):=do
 let mut n:=n
 rule "list.sort.descending-run"
 n:=n+1
 let mut neq:=0
 for _ in [n:nrem] do
  let some smaller <- ltAt' (lo+n) (lo+n-1) | return none
  if smaller then
   if neq>0 then reverseSlice' (lo+n-(neq+1)) (lo+n)
   neq:=0
  else
   let some larger <- ltAt' (lo+n-1) (lo+n) | return none
   if larger then break
   neq:=neq+1
  n:=n+1
 if neq>0 then reverseSlice' (lo+n-(neq+1)) (lo+n)
 reverseSlice' lo (lo+n)
 for _ in [n:nrem] do
  let some smaller <- ltAt' (lo+n) (lo+n-1) | return none
  if smaller then break
  n:=n+1
 return some n
theorem j9 (hj:j<=xs.size) (he:∀ k,i<=k->k<j->rkA gr xs k=rkA gr xs (j-1)) (k:Nat):rkA gr (mirror xs i j ((j-i)/2)) k=rkA gr xs k:=by
 by_cases c:i<=k/\k<j
 ·rw[dy (j:=i+j-1-k) (ys:=xs) (by rw[getElem?_mirror_all hj,if_pos c]),he (i+j-1-k) (FL c) (DJ c),he k c.1 c.2]
 ·exact dy (by rw[getElem?_mirror_all hj,if_neg c])
theorem iv {lo hi i j:Nat}{st:SortSt}(hj:j<=(arrOf st).size) (h1:lo<=i) (h2:j<=hi):Wn lo hi st (setArr st (mirror (arrOf st) i j ((j-i)/2))):=⟨rfl,rfl,rfl,mirror_perm _ _ _ _,λk hk=>by
 show (mirror _ _ _ _)[k]? = _
 rw[getElem?_mirror_all hj,if_neg (IG h1 h2 hk)]⟩
theorem mZ (hlt:iJ gM gA gE gs gr go gk) {lo nrem n:Nat}{st:SortSt}{Q:Option Nat->SortSt->Prop}(g:Gd gr go gk st) (hn:lo+nrem<=(arrOf st).size) (h1:1<=n) (h2:n<=nrem) (dn:SegDn gr (arrOf st) lo n)
  (h:∀ n st',1<=n->n<=nrem->Wn lo (lo+nrem) st st'->SegUp gr (arrOf st') lo n->Q (some n) st'):wpS gM gA gE gs (vO lo nrem n) Q st:=by
 unfold vO
 refine wpS_bind (lb ?_)
 have m:lo+n<=(arrOf st).size:=by exact DP hn h2
 have o:Wn lo (lo+nrem) st (setArr st (mirror (arrOf st) lo (lo+n) ((lo+n-lo)/2))):=iv m (le_refl _) (by exact add_le_add_left ‹_› _)
 have k:SegUp gr (mirror (arrOf st) lo (lo+n) ((lo+n-lo)/2)) lo n:=by
  intro i j hi hij hj
  rw[dy (j:=lo+(lo+n)-1-i) (ys:=arrOf st) (by rw[getElem?_mirror_all m,if_pos ⟨hi,by exact lt_of_le_of_lt ‹_› ‹_›⟩]),dy (i:=j) (j:=lo+(lo+n)-1-j) (ys:=arrOf st) (by rw[getElem?_mirror_all m,if_pos ⟨by exact le_trans ‹_› ‹_›,hj⟩])]
  exact dn _ _ (Hl hj) (FV hij) (Jr h1 hi)
 generalize hst:setArr st (mirror (arrOf st) lo (lo+n) ((lo+n-lo)/2))=st2 at o ⊢
 have k:SegUp gr (arrOf st2) lo n:=by rw[<- hst]; exact k
 have g2:=g.of o
 have l:=o.size
 refine wpS_bind (wpS_mono (wpS_forRange (I:=λx c st'=>st' = st2/\c=(none,x)/\x<=nrem/\SegUp gr (arrOf st2) lo x)
  (Q:=λc st'=>st' = st2/\∃ n,c=(none,n)/\1<=n/\n<=nrem/\SegUp gr (arrOf st2) lo n) ?_ ?_ (bV rfl rfl h2 k)) ?_)
 ·intro x c st' hx1 r q
  refine c6 (q) λK4 K8 gx t=>?_
  clear q
  (clear k o; subst K4)
  subst K8
  refine wpS_bind (jl hlt g2 (adl r (le_trans hn (le_of_eq l.symm))) (yR (adl r (le_trans hn (le_of_eq l.symm)))) ?_)
  dsimp only
  by_cases w:rkA gr (arrOf st') (lo+x)<rkA gr (arrOf st') (lo+x-1)
  ·rw[decide_eq_true w,if_pos rfl]
   exact wpS_pure (aH rfl (bU x rfl (by exact lt_of_lt_of_le ‹_› ‹_›) gx t))
  ·rw[decide_eq_false w,if_neg (by decide)]
   exact wpS_pure (bV rfl rfl ‹_› (t.succ (by exact lt_of_lt_of_le ‹_› ‹_›) (le_of_not_lt w)))
 ·intro c st' p
  refine c6 (p) λK7 Lc gx t=>?_
  clear p
  (clear g2 l k o; subst K7)
  subst Lc
  rw[show max n nrem=nrem by exact J5 gx] at *
  exact (aH rfl (bU nrem rfl (by exact lt_of_lt_of_le ‹_› ‹_›) (le_refl _) t))
 ·intro c st' z
  obtain ⟨y,n',v,p1,p2,u⟩:=z
  (clear g2 l k; subst y)
  subst v
  exact wpS_pure (h n' st' p1 p2 o u)
theorem SegDn.congr {xs ys:Array Keyed}{lo n:Nat}(h:SegDn gr xs lo n) (e:∀ k,rkA gr ys k=rkA gr xs k):SegDn gr ys lo n:=λi j a b c=>by rw[e,e]; exact h i j a b c
theorem mP (hlt:iJ gM gA gE gs gr go gk) {lo nrem n:Nat}{st:SortSt}{Q:Option Nat->SortSt->Prop}(g:Gd gr go gk st) (hn:lo+nrem<=(arrOf st).size) (h1:1<=n) (h2:n<nrem) (dn:SegDn gr (arrOf st) lo (n+1))
  (h:∀ n st',1<=n->n<=nrem->Wn lo (lo+nrem) st st'->SegUp gr (arrOf st') lo n->Q (some n) st'):wpS gM gA gE gs (vX lo nrem n) Q st:=by
 unfold vX
 refine wpS_bind (qH ?_)
 refine wpS_bind (wpS_mono (wpS_forRange (I:=λx c m=>∃ l,c=(none,x,l)/\Wn lo (lo+nrem) st m/\(∀ k,rkA gr (arrOf m) k=rkA gr (arrOf st) k)/\x<=nrem/\l+1<=x/\SegDn gr (arrOf st) lo x/\∀ k,x-(l+1)<=k->k<x->rkA gr (arrOf st) (lo+k)=rkA gr (arrOf st) (lo+x-1))
  (Q:=λc m=>∃ x l,c=(none,x,l)/\Wn lo (lo+nrem) st m/\(∀ k,rkA gr (arrOf m) k=rkA gr (arrOf st) k)/\x<=nrem/\l+1<=x/\SegDn gr (arrOf st) lo x/\∀ k,x-(l+1)<=k->k<x->rkA gr (arrOf st) (lo+k)=rkA gr (arrOf st) (lo+x-1)) ?_ ?_ (uw 0 rfl (.refl ..) (λuu=>rfl) ‹_› (succ_pos _) dn (λk v z=>by rw[show lo+k=lo+(n+1)-1 by exact zv v z]))) ?_)
 ·intro x c m hx1 r La
  refine Au (La) λl Le p e gx y dn eq=>?_
  clear La
  subst Le
  have g':=g.of p
  have o:=p.size
  dsimp only
  refine wpS_bind (jl hlt g' (pH hn r o) (zE hn r o) ?_)
  dsimp only
  rw[e,e]
  by_cases w:rkA gr (arrOf st) (lo+x)<rkA gr (arrOf st) (lo+x-1)
  ·rw[decide_eq_true w,if_pos rfl]
   have fin:∀ t,Wn lo (lo+nrem) st t->(∀ k,rkA gr (arrOf t) k=rkA gr (arrOf st) k)->∃ neq',((none:Option (Option Nat)),x+1,0)=(none,x+1,neq')/\Wn lo (lo+nrem) st t/\(∀ k,rkA gr (arrOf t) k=rkA gr (arrOf st) k)/\x+1<=nrem/\neq'+1<=x+1/\SegDn gr (arrOf st) lo (x+1)/\∀ k,x+1-(neq'+1)<=k->k<x+1->rkA gr (arrOf st) (lo+k)=rkA gr (arrOf st) (lo+(x+1)-1) :=
    λt w3 e3=>(uw 0 rfl w3 e3 ‹_› (succ_pos _) (dn.succ (by exact lt_trans ‹_› ‹_›) (le_of_lt w)) (λk v z=>by rw[show lo+k=lo+(x+1)-1 by exact zv v z]))
   by_cases c1:l>0
   ·rw[if_pos c1]
    refine wpS_bind (lb (wpS_pure (fin _ (p.trans (iv (Aa hn r o) (zR y) (by exact add_le_add_left ‹_› _))) λk=>?_)))
    show rkA gr (mirror _ _ _ _) k=_
    rw[j9 (Aa hn r o) λk v z=>by rw[e,e]; have:=eq (k-lo) (Ah v) (AN hx1 z); rwa [show lo+(k-lo)=k by exact Al y v] at this]
    exact e k
   ·rw[if_neg c1]
    exact wpS_pure (fin _ p e)
  ·rw[decide_eq_false w,if_neg (by decide)]
   refine wpS_bind (jl hlt g' (zE hn r o) (pH hn r o) ?_)
   dsimp only
   rw[e,e]
   by_cases w':rkA gr (arrOf st) (lo+x-1)<rkA gr (arrOf st) (lo+x)
   ·rw[decide_eq_true w',if_pos rfl]
    exact wpS_pure (gu x l rfl p e gx y dn eq)
   ·rw[decide_eq_false w',if_neg (by decide)]
    refine wpS_pure (uw (l+1) rfl p e ‹_› (by exact Nat.lt_succ_of_le ‹_›) (dn.succ (by exact lt_trans ‹_› ‹_›) (le_of_not_lt w')) (λk v z=>?_))
    have q:rkA gr (arrOf st) (lo+x-1)=rkA gr (arrOf st) (lo+x):=by exact HA w w'
    rw[show lo+(x+1)-1=lo+x by exact Hx]
    by_cases e':k=x
    ·rw[e']
    ·rw[<- q]; exact eq k (Jm v) (Iq z e')
 ·intro c m Lb
  refine Au (Lb) λl Lf p e gx y dn eq=>?_
  clear Lb
  subst Lf
  rw[show max (n+1) nrem=nrem by exact Eu gx] at *
  exact (gu nrem l rfl p e gx y dn eq)
 ·intro c m Lg
  refine lh (Lg) λx l Lh p e gx y dn eq=>?_
  clear Lg
  subst Lh
  have g':=g.of p
  have o:=p.size
  dsimp only
  by_cases c1:l>0
  ·rw[if_pos c1]
   have w3:=p.trans (iv (lo:=lo) (hi:=lo+nrem) (i:=lo+x-(l+1)) (j:=lo+x) (st:=m) (Ad hn gx o) (zR y) (by exact add_le_add_left ‹_› _))
   refine wpS_bind (lb ?_)
   refine mZ hlt (g.of w3) (by have:=w3.size; exact ux hn this) (by exact lt_trans ‹_› ‹_›) gx (dn.congr λk=>?_) λn st' a b w4 u=>h n st' a b (w3.trans w4) u
   show rkA gr (mirror _ _ _ _) k=_
   rw[j9 (Ad hn gx o) λk v z=>by rw[e,e]; have:=eq (k-lo) (Ah v) (AN y z); rwa [show lo+(k-lo)=k by exact Al y v] at this]
   exact e k
  ·rw[if_neg c1]
   exact mZ hlt g' (ux hn o) (En y) gx (dn.congr e) λn st' a b w4 u=>h n st' a b (p.trans w4) u
theorem se (hlt:iJ gM gA gE gs gr go gk) {lo nrem:Nat}{st:SortSt}{Q:Option Nat->SortSt->Prop}(g:Gd gr go gk st) (hn:lo+nrem<=(arrOf st).size) (h1:1<=nrem)
  (h:∀ n st',1<=n->n<=nrem->Wn lo (lo+nrem) st st'->SegUp gr (arrOf st') lo n->Q (some n) st'):wpS gM gA gE gs (countRun' lo nrem) Q st:=by
 rw[countRun'_eq]
 refine wpS_bind (wpS_mono (wpS_forRange (I:=λx c st'=>st' = st/\c=(none,x)/\x<=nrem/\SegUp gr (arrOf st) lo x)
  (Q:=λc st'=>st' = st/\∃ n,c=(none,n)/\1<=n/\n<=nrem/\SegUp gr (arrOf st) lo n/\(n=nrem\/rkA gr (arrOf st) (lo+n)<rkA gr (arrOf st) (lo+n-1))) ?_ ?_ (bV rfl rfl h1 (λi j _ _ _=>by rw[show i=j by exact AF ‹_› ‹_› ‹_›]; exact le_refl _))) ?_)
 ·intro x c st' hx1 hx2 o
  refine c6 (o) λLl Lm gx l=>?_
  clear o
  (clear h; subst Ll)
  subst Lm
  refine wpS_bind (jl hlt g (by exact adl hx2 ‹_›) (by exact yR (adl hx2 ‹_›)) ?_)
  dsimp only
  by_cases w:rkA gr (arrOf st') (lo+x)<rkA gr (arrOf st') (lo+x-1)
  ·rw[decide_eq_true w,if_pos rfl]
   exact wpS_pure (aH rfl (jL x rfl hx1 gx l (.inr w)))
  ·rw[decide_eq_false w,if_neg (by decide)]
   exact wpS_pure (bV rfl rfl ‹_› (l.succ hx1 (le_of_not_lt w)))
 ·intro c st' m
  refine c6 (m) λLn z gx l=>?_
  clear m
  (clear g h hn; subst Ln)
  subst z
  rw[show max 1 nrem=nrem by exact Ft gx] at *
  exact (aH rfl (jL nrem rfl h1 (le_refl _) l (.inl rfl)))
 ·intro c st' y
  obtain ⟨v,n,t,p,r,l,q⟩:=y
  subst v
  subst t
  dsimp only
  by_cases c1:(n==nrem)=true
  ·rw[if_pos c1]
   exact wpS_pure (h n st' p r (.refl ..) l)
  rw[if_neg c1]
  have hn3:n<nrem:=by have:n≠nrem:=λe=>c1 (beq_iff_eq.mpr e); exact HM r this
  have hdn:=q.resolve_left (by exact ne_of_lt ‹_›)
  by_cases c2:n>1
  ·rw[if_pos c2]
   refine wpS_bind (jl hlt g (EG h1 hn) (IN p r hn) ?_)
   dsimp only
   by_cases w:rkA gr (arrOf st') lo<rkA gr (arrOf st') (lo+n-1)
   ·rw[decide_eq_true w,if_pos rfl]
    exact wpS_pure (h n st' p r (.refl ..) l)
   rw[decide_eq_false w,if_neg (by decide)]
   have eq:∀ k,lo<=k->k<lo+n->rkA gr (arrOf st') k=rkA gr (arrOf st') (lo+n-1):=λk k1 k2=>by
    have a:=l lo k (le_refl _) k1 k2
    have b:=l k (lo+n-1) k1 (F3 k2) (ut p)
    exact GF w a b
   have w3:Wn lo (lo+nrem) st' (setArr st' (mirror (arrOf st') lo (lo+n) ((lo+n-lo)/2))):=iv (AO r hn) (le_refl _) (by exact add_le_add_left ‹_› _)
   have e3:∀ k,rkA gr (mirror (arrOf st') lo (lo+n) ((lo+n-lo)/2)) k=rkA gr (arrOf st') k:=j9 (AO r hn) eq
   refine wpS_bind (lb ?_)
   refine mP hlt (g.of w3) (by have:=w3.size; exact ux hn this) p hn3 ?_ λn st' a b w4 u=>h n st' a b (w3.trans w4) u
   have d1:SegDn gr (arrOf st') lo n:=λi j a b c=>by rw[eq i a (by exact lt_of_le_of_lt ‹_› ‹_›),eq j (by exact le_trans ‹_› ‹_›) c]; exact le_refl _
   exact (d1.succ p (le_of_lt hdn)).congr e3
  rw[if_neg c2]
  have e1:n=1:=by exact F9 p c2
  (clear c1 c2 q r l; subst e1)
  refine mP hlt g hn p hn3 ?_ h
  have d1:SegDn gr (arrOf st') lo 1:=λi j _ _ _=>by rw[show i=j by exact AF ‹_› ‹_› ‹_›]; exact le_refl _
  exact d1.succ (le_refl _) (le_of_lt hdn)
theorem ym {src dst:Nat}{st:SortSt}{Q:Unit->SortSt->Prop}(h:Q () (setArr st (bubble (arrOf st) src (src-dst)))):wpS gM gA gE gs (moveDown' src dst) Q st:=by
 rw[moveDown'_eq]; exact wpS_modify h
theorem Dz (h:l<r):l<=(l+r)/2/\(l+r)/2<r:=by exact Jo h
theorem uR (hlt:iJ gM gA gE gs gr go gk) {lo n oo:Nat}{st:SortSt}{Q:Bool->SortSt->Prop}(g:Gd gr go gk st) (hn:lo+n<=(arrOf st).size) (hok:oo<=n) (hs:SegUp gr (arrOf st) lo oo)
  (h:∀ st',Wn lo (lo+n) st st'->SegUp gr (arrOf st') lo n->Q true st'):wpS gM gA gE gs (binarySort' lo n oo) Q st:=by
 rw[binarySort'_eq]
 refine wpS_bind (wpS_mono (wpS_forRange (I:=λk c st'=>c=(none,())/\Wn lo (lo+n) st st'/\SegUp gr (arrOf st') lo (min k n))
  (Q:=λc st'=>c=(none,())/\Wn lo (lo+n) st st'/\SegUp gr (arrOf st') lo n) ?_ ?_ ⟨rfl,.refl ..,?_⟩) ?_)
 ·intro k c st' hk1 q Lo
  refine aG (Lo) λLq z y=>?_
  clear Lo
  subst Lq
  have g':=g.of z
  have hsz:=z.size
  rw[show min k n=k by exact G5 q] at y
  refine wpS_bind (wpS_mono (wpS_forRange (I:=λx c o=>o=st'/\∃ l r,c=(none,l,r)/\l<=r/\r<=k/\r-l<=k-x/\(∀ i,i<l->rkA gr (arrOf st') (lo+i)<=rkA gr (arrOf st') (lo+k))/\(∀ i,r<=i->i<k->rkA gr (arrOf st') (lo+k)<rkA gr (arrOf st') (lo+i)))
   (Q:=λc o=>o=st'/\∃ l r,c=(none,l,r)/\l<=k/\(∀ i,i<l->rkA gr (arrOf st') (lo+i)<=rkA gr (arrOf st') (lo+k))/\(∀ i,l<=i->i<k->rkA gr (arrOf st') (lo+k)<rkA gr (arrOf st') (lo+i))) ?_ ?_ (aH rfl (tS 0 k rfl (zero_le _) (le_refl _) (le_refl _) (λi hi=>by exact Gc hi) (λi h1 h2=>by exact IV h1 h2)))) ?_)
  ·intro x c o _ hx Lr
   obtain ⟨Ls,l,r,LA,lr,rk',pr,t,v⟩:=Lr
   (clear z; subst Ls)
   subst LA
   dsimp only
   by_cases c1:l≥r
   ·rw[if_pos c1]
    exact wpS_pure (aH rfl (bF l r rfl (by exact le_trans ‹_› ‹_›) t (λi h1 h2=>v i (by exact le_trans ‹_› ‹_›) h2)))
   rw[if_neg c1]
   refine aa (Dz (Nat.lt_of_not_le c1)) λm1 m2=>?_
   generalize (l+r)/2=m at m1 m2 ⊢
   refine wpS_bind (jl hlt g' (pH hn q hsz) (Jd hn q rk' hsz m2) ?_)
   dsimp only
   by_cases w:rkA gr (arrOf o) (lo+k)<rkA gr (arrOf o) (lo+m)
   ·rw[decide_eq_true w,if_pos rfl]
    exact wpS_pure (aH rfl (tS _ _ rfl ‹_› (FX rk' m2) (J4 pr m2) t (λi h1 h2=>lt_of_lt_of_le w (y _ _ (le_add_right _ _) (by exact add_le_add_left ‹_› _) (by exact add_le_add_left ‹_› _)))))
   ·rw[decide_eq_false w,if_neg (by decide)]
    exact wpS_pure (aH rfl (tS _ _ rfl ‹_› ‹_› (EV pr m1) (λi h1=>le_trans (y _ (lo+m) (le_add_right _ _) (Fl h1) (JY rk' m2)) (le_of_not_lt w)) v))
  ·intro c o LY
   obtain ⟨LX,l,r,LG,lr,rk',pr,t,v⟩:=LY
   (clear g' hsz z; subst LX)
   subst LG
   exact (aH rfl (bF l r rfl (by exact le_trans ‹_› ‹_›) t (λi h1 h2=>v i (IQ pr h1) h2)))
  ·intro c o LD
   obtain ⟨LK,l,r,LC,lk,t,v⟩:=LD
   (clear g'; subst LK)
   subst LC
   dsimp only
   have hsrc:lo+k<(arrOf o).size:=by exact pH hn q hsz
   refine wpS_bind (ym (wpS_pure ⟨rfl,z.trans ⟨rfl,rfl,rfl,bubble_perm _ _ _,λj u=>?_⟩,?_⟩))
   ·show (bubble _ _ _)[j]? = _
    rw[getElem?_bubble hsrc _ (sub_le _ _),if_neg (Il q u),if_neg (Hu q u)]
   ·rw[show min (k+1) n=k+1 by exact IT q]
    show SegUp gr (bubble (arrOf o) (lo+k) (lo+k-(lo+l))) lo (k+1)
    have at':∀ j,rkA gr (bubble (arrOf o) (lo+k) (lo+k-(lo+l))) j=if j=lo+l then rkA gr (arrOf o) (lo+k) else if lo+l<j/\j<=lo+k then rkA gr (arrOf o) (j-1) else rkA gr (arrOf o) j:=λj=>by
     have:=getElem?_bubble hsrc (lo+k-(lo+l)) (sub_le _ _) j
     rw[show lo+k-(lo+k-(lo+l))=lo+l by exact Io lk] at this
     by_cases e1:j=lo+l
     ·rw[if_pos e1] at this ⊢; exact dy this
     ·rw[if_neg e1] at this ⊢
      by_cases e2:lo+l<j/\j<=lo+k
      ·rw[if_pos e2] at this ⊢; exact dy this
      ·rw[if_neg e2] at this ⊢; exact dy this
    intro i j hi p u
    rw[at',at']
    by_cases e1:i=lo+l
    ·rw[if_pos e1]
     by_cases e2:j=lo+l
     ·rw[if_pos e2]; exact le_refl _
     ·rw[if_neg e2,if_pos (ED p u e1 e2)]
      have:=v (j-1-lo) (Ge p e1 e2) (H7 p u e1 e2)
      rw[show lo+(j-1-lo)=j-1 by exact G0 p e1 e2] at this
      exact le_of_lt this
    ·rw[if_neg e1]
     by_cases e2:j=lo+l
     ·rw[if_pos e2,if_neg (EW p e2)]
      have:=t (i-lo) (JJ hi p e1 e2)
      rwa [show lo+(i-lo)=i by exact Jq hi] at this
     ·rw[if_neg e2]
      by_cases e3:lo+l<i
      ·rw[if_pos (Jl p u e3),if_pos (G9 p u e3)]
       exact y _ _ (GX e3) (I7 p) (FR p u e3)
      ·rw[if_neg (AI e3)]
       by_cases e4:lo+l<j
       ·rw[if_pos (JT u e4)]
        exact y _ _ ‹_› (JZ e3 e4) (JS u e4)
       ·rw[if_neg (AI e4)]
        exact y _ _ ‹_› ‹_› (Ie lk e2 e4)
 ·intro c st' Lu
  refine aG (Lu) λLF z y=>?_
  clear Lu
  subst LF
  rw[show min (max (max oo 1) n) n=n by exact I0] at y
  exact ⟨rfl,z,y⟩
 ·intro i j hi p u
  by_cases e:oo=0
  ·rw[show i=j by exact Ez hi p u e]; exact le_refl _
  ·exact hs i j hi p (GP u e)
 ·intro c st' Lx
  refine aG (Lx) λLR z y=>?_
  clear Lx
  subst LR
  exact wpS_pure (h st' z y)
end
section
theorem DE {arr:Array Keyed}{lo n:Nat}(h:SegUp gr arr lo n) (hn:lo+n<=arr.size):Up gr ((arr.toList.drop lo).take n):=by
 unfold Up
 rw[List.pairwise_iff_getElem]
 intro i j l g k
 rw[length_take,length_drop,length_toList] at l g
 rw[List.getElem_take,List.getElem_take,List.getElem_drop,List.getElem_drop]
 have:=h (lo+i) (lo+j) (le_add_right _ _) (add_le_add_left (le_of_lt k) lo) (add_lt_add_left (lt_of_lt_of_le g (min_le_left _ _)) lo)
 rwa [mS (by rw[length_toList]; exact lt_of_lt_of_le (add_lt_add_left (lt_of_lt_of_le l (min_le_left _ _)) lo) hn),mS (by rw[length_toList]; exact lt_of_lt_of_le (add_lt_add_left (lt_of_lt_of_le g (min_le_left _ _)) lo) hn)] at this
end
section
structure Ph1 (gr:Keyed->Nat) (st st':SortSt) (n1:Nat):Prop where
 perm:(arrOf st').Perm (arrOf st)
 kind:kindOf st' = kindOf st
 fail:failedOf st' = none
 pend:pendingOf st' = #[(0,n1,0)]
 up:SegUp gr (arrOf st') 0 n1
structure Ph2 (gr:Keyed->Nat) (st st':SortSt):Prop where
structure Dn (gr:Keyed->Nat) (st st':SortSt):Prop where
end
theorem iX:∀ a:List Int,ltL a a=false
 | []=>rfl
 | a::as=>by simp[ltL,iX as]
theorem cU:∀ {a b c:List Int},ltL a b=true->ltL b c=true->ltL a c=true
 | [],[],_,h,_=>by simp[ltL] at h
 | [],_::_,[],_,h=>by simp[ltL] at h
 | [],_::_,_::_,_,_=>rfl
 | _::_,[],_,h,_=>by simp[ltL] at h
 | _::_,_::_,[],_,h=>by simp[ltL] at h
 | a::as,b::bs,c::cs,h1,h2=>by
  unfold ltL at h1 h2 ⊢
  by_cases e1:a=b
  ·subst e1
   rw[if_pos rfl] at h1
   by_cases e2:a=c
   ·rw[if_pos e2] at h2 ⊢; exact cU h1 h2
   ·rw[if_neg e2] at h2 ⊢; exact h2
  ·rw[if_neg e1] at h1
   by_cases e2:b=c
   ·subst e2; rw[if_neg e1]; exact h1
   ·rw[if_neg e2] at h2
    simp only[decide_eq_true_eq] at h1 h2
    rw[if_neg (Ij h1 h2)]
    simp only[decide_eq_true_eq]; exact Ik h1 h2
theorem eB:∀ {a b:List Int},ltL a b=false->ltL b a=false->a=b
 | [],[],_,_=>rfl
 | [],_::_,h,_=>by simp[ltL] at h
 | _::_,[],_,h=>by simp[ltL] at h
 | a::as,b::bs,h1,h2=>by
  unfold ltL at h1 h2
  by_cases e:a=b
  ·subst e
   rw[if_pos rfl] at h1 h2
   rw[eB h1 h2]
  ·rw[if_neg e] at h1
   rw[if_neg (Ne.symm e)] at h2
   simp only[decide_eq_false_iff_not] at h1 h2
   exact IW e h1 h2
noncomputable def rkL (ks:List (List Int)) (k:List Int):Nat:=ks.countP λx=>ltL x k
theorem ow:∀ {l:List α},(∀ x∈l,p x=true->q x=true)->l.countP p<=l.countP q
 | [],_=>le_refl _
 | x::l,h=>by
  have g:=ow λy i=>h y (.tail _ i)
  rw[List.countP_cons,List.countP_cons]
  cases hp:p x with
  | true=>rw[h x (.head _) hp]; simp; exact g
  | false=>simp; exact FW g
theorem oB:∀ {l:List α}{y:α},(∀ x∈l,p x=true->q x=true)->y∈l->p y=false->q y=true->l.countP p<l.countP q
 | x::l,y,h,hy,h1,h2=>by
  rw[List.countP_cons,List.countP_cons]
  rcases mem_cons.mp hy with rfl | hy
  ·rw[h1,h2]
   have:=ow λz g=>h z (.tail _ g)
   simp; exact Am this
  ·have i:=oB (λz g=>h z (.tail _ g)) hy h1 h2
   cases hp:p x with
   | true=>rw[h x (.head _) hp]; simp; exact i
   | false=>simp; exact Jf i
theorem mD (ha:a∈ks) (hb:b∈ks):ltL a b=decide (rkL ks a<rkL ks b):=by
 have g:∀ {a b:List Int},a∈ks->ltL a b=true->rkL ks a<rkL ks b:=λ{a b} ha h=>oB (λx _ i=>cU i h) ha (iX a) h
 cases h:ltL a b with
 | true=>rw[decide_eq_true (g ha h)]
 | false=>
  refine (decide_eq_false λq=>?_).symm
  cases h':ltL b a with
  | true=>have:=g hb h'; exact Ka q this
  | false=>rw[eB h h'] at q; exact Nat.lt_irrefl _ q
theorem hH (ks:List (List Int)):(aA ks).Pairwise λa b=>ltL b a=false:=by
 have:=List.pairwise_mergeSort (le:=λa b:List Int=>!ltL b a) (λa b c g i=>by
  simp only[Bool.not_eq_true'] at g i ⊢
  cases q:ltL c a with
  | false=>rfl
  | true=>
   cases q2:ltL b c with
   | true=>rw[cU q2 q] at g; exact nT g
   | false=>rw[eB i q2,g] at q; cases q) (λa b=>by
  cases q:ltL b a with
  | false=>rfl
  | true=>
   cases q2:ltL a b with
   | false=>rfl
   | true=>have:=cU q q2; rw[iX] at this; cases this) ks
 exact this.imp λh=>by simpa using h
theorem gY:∀ {l l':List (List Int)},l.Perm l'->(l.Pairwise λa b=>ltL b a=false)->(l'.Pairwise λa b=>ltL b a=false)->l=l'
 | [],l',p,_,_=>by rw[p.nil_eq]
 | a::l,[],p,_,_=>by cases p.eq_nil
 | a::l,b::l',p,h,h'=>by
  obtain ⟨k,j⟩:=pairwise_cons.mp h
  obtain ⟨i,g⟩:=pairwise_cons.mp h'
  have e:a=b:=by
   rcases mem_cons.mp (p.mem_iff.mp (mem_cons_self (a:=a) (l:=l))) with e | e
   ·exact e
   ·rcases mem_cons.mp (p.mem_iff.mpr (mem_cons_self (a:=b) (l:=l'))) with e' | e'
    ·exact e'.symm
    ·exact eB (i a e) (k b e')
  subst e
  rw[gY ((List.perm_cons a).mp p) j g]
theorem vn (ha:a.Nodup) (hb:b.Nodup) (h:∀ s,s∈a↔s∈b):aA a=aA b:=by
 have p:a.Perm b:=(perm_ext_iff_of_nodup ha hb).mpr h
 exact gY (((mergeSort_perm a _).trans p).trans (mergeSort_perm b _).symm) (hH a) (hH b)
noncomputable def j7:List Int->List Int->Option Bool
 | a::as,b::bs=>if a=b then j7 as bs else some (decide (a<b))
 | _,_=>none
theorem rD:∀ a b:List Int,ltL a b=(j7 a b).getD (decide (a.length<b.length))
 | [],[]=>rfl
 | [],_::_=>by simp[ltL,j7]
 | _::_,[]=>by simp[ltL,j7]
 | a::as,b::bs=>by
  unfold ltL j7
  by_cases e:a=b
  ·rw[if_pos e,if_pos e,rD as bs]; simp
  ·rw[if_neg e,if_neg e]; rfl
noncomputable def KeyOf (h:Heap) (v:Value) (k:List Int):Prop:=∃ a vs n,v = .ref a/\h.get? a=some ⟨.type "tuple", none,.seq vs.toArray n,#[]⟩/\IntsAre vs k
noncomputable def KA (v:Value):Int:=match v with
 | .int i _=>i
 | _=>0
theorem IntsAre.read (h:IntsAre vs k):k=vs.map KA:=by
 induction h with
 | nil=>rfl
 | cons n t r ih=>exact congrArg (n :: ·) ih
theorem IntsAre.fn (a:IntsAre vs k) (b:IntsAre vs k'):k=k':=(IntsAre.read a).trans (IntsAre.read b).symm
theorem KeyOf.fn (a:KeyOf h v k) (b:KeyOf h v k'):k=k':=by
 refine aL (a) λx m n j e i=>?_
 clear a
 subst j
 refine aL (b) λuu g p q l o=>?_
 clear b
 cases q
 rw[e] at l
 have:m=g:=by cases l; rfl
 subst this
 exact IntsAre.fn i o
theorem KeyOf.ofR (r:R h v (.tuple (k.map .int)) as):KeyOf h v k:=by
 cases r with
 | @tuple a n xs as vs e ra=>
  have g:aJ (k.map PyData.int)=some k:=by
   clear ra e
   induction k with
   | nil=>rfl
   | cons x k ih=>show (aJ (k.map PyData.int)).map (x :: ·)=_; rw[ih]; rfl
  exact (cI a vs n rfl e ((ra.ints g).1))
theorem KeyOf.stays (x:KeyOf h v k) (g:KG G h h'):KeyOf h' v k :=
 aL (x) λa j n e l i=>(cI a j n e (g.stay l (.inr (aH rfl (bn _ _ rfl)))) i)
open Classical in
noncomputable def cP (h:Heap) (v:Value):List Int:=if q:∃ k,KeyOf h v k then q.choose else []
theorem fc (x:KeyOf h v k):cP h v=k:=by
 unfold cP
 have q:∃ k,KeyOf h v k:=⟨k,x⟩
 rw[dif_pos q]
 exact q.choose_spec.fn x
section
variable {A:Around}{E:Value->Shared->Prop}{s:Shared}
theorem tO (c:Bool) (h:Q (decide (a<b)) s):wpAny (model prog w) A (oneLt' c (.int a t) (.int b u)) Q E s:=by
 cases c with
 | true=>exact oneLt_int h
 | false=>
  rw[oneLt'_eq]
  simp only[false_eq_true,if_false]
  exact wpAny_bind (wpAny_lt_int (wpAny_truthy_bool h))
theorem ql (c:Bool) (x y:Value):keyLt' (tuples' c) x y=(do
  let xs <- Builtin.List.listItems x; let ys <- Builtin.List.listItems y
  for ((p,q),i) in (xs.toList.zip ys.toList).zipIdx do
   if !(<- eqBool p q) then return <- oneLt' (c&&i==0) p q
  return xs.size<ys.size):=rfl
theorem xh {body:(Value×Value)×Nat->Option Bool×Unit->Sem (ForInStep (Option Bool×Unit))}{R:Option Bool×Unit->Shared->Prop}
  (hb:∀ (a b:Int) (t u:Tok) (i:Nat) (R':ForInStep (Option Bool×Unit)->Shared->Prop),R' (if a=b then .yield (none,()) else .done (some (decide (a<b)),())) s->wpAny (model prog w) A (body ((.int a t,.int b u),i) (none,())) R' E s)
  {vs:List Value}{k:List Int}(ia:IntsAre vs k):∀ {us:List Value}{k':List Int}(i:Nat),IntsAre us k'->R (j7 k k',()) s->wpAny (model prog w) A (forIn ((vs.zip us).zipIdx i) (none,()) body) R E s:=by
 induction ia with
 | nil=>
  intro us k' i g h
  rw[List.zip_nil_left,List.zipIdx_nil,forIn_nil]
  exact wpAny_pure h
 | cons a t r ih=>
  intro us k' i g h
  induction g with
  | nil=>
   rw[List.zip_nil_right,List.zipIdx_nil,forIn_nil]
   exact wpAny_pure h
  | cons b u q ih'=>
   rw[zip_cons_cons,List.zipIdx_cons,forIn_cons]
   refine wpAny_bind (hb a b t u i _ ?_)
   by_cases e:a=b
   ·rw[if_pos e]
    exact ih (i+1) q (by rw[j7,if_pos e] at h; exact h)
   ·rw[if_neg e]
    exact wpAny_pure (by rw[j7,if_neg e] at h; exact h)
theorem pk (c:Bool) (hx:KeyOf s.heap x k) (hy:KeyOf s.heap y k') (h:Q (ltL k k') s):wpAny (model prog w) A (keyLt' (tuples' c) x y) Q E s:=by
 refine aL (hx) λa vs n l ea v=>?_
 clear hx
 subst l
 refine aL (hy) λb us m j eb o=>?_
 clear hy
 subst j
 rw[ql]
 refine wpAny_bind (listItems_at ea rfl (wpAny_bind (listItems_at eb rfl ?_)))
 simp only[List.toList_toArray]
 refine wpAny_bind (xh (λp q t u i R' g=>?_) v 0 o ?_)
 ·dsimp only
  refine wpAny_bind (wpAny_eqBool_int ?_)
  by_cases e:p=q
  ·subst e
   rw[if_pos rfl] at g
   rw[if_neg (by simp)]
   exact wpAny_pure g
  ·rw[if_neg e] at g
   rw[if_pos (by simpa using e)]
   exact wpAny_bind (tO _ (wpAny_pure g))
 ·rw[rD] at h
  have l1:=v.length
  have z:=o.length
  cases e:j7 k k' with
  | none=>
   rw[e] at h
   refine wpAny_pure ?_
   simp only[size_toArray]
   rw[<- l1,<- z] at h
   exact h
  | some r=>rw[e] at h; exact wpAny_pure h
theorem vJ (c:Bool) (ks:List (List Int)):iJ (model prog w) A E s (λp=>rkL ks (cP s.heap p.1)) (λp=>∃ k∈ks,KeyOf s.heap p.1 k) (tuples' c):=by
 intro x y q Q l j hk h
 revert l; intro i
 refine ae (i) λk o l=>?_
 clear i
 revert j; intro g
 refine ae (g) λn m j=>?_
 clear g
 have e:(some (decide ((λp:Keyed=>rkL ks (cP s.heap p.1)) x<(λp:Keyed=>rkL ks (cP s.heap p.1)) y)))=some (ltL k n):=by
  rw[mD o m,<- fc l,<- fc j]
 rw[e] at h
 rw[lt'_eq]
 refine wpS_bind (wpS_get ?_)
 rw[hk]
 refine wpS_bind (wpS_lift (wpAny_attempt (pk c l j ⟨rfl,?_⟩)))
 exact wpS_pure h
theorem rN (v:Value):firstOfTuple' v=(do
  if (<- typeOf v) != .type "tuple" then return none
  return (<- Builtin.List.listItems v)[0]?):=rfl
theorem lA:∀ {ks:List (List Int)}{vs:List Value},vs.length=ks.length->(∀ (i:Nat) (v:Value) (k:List Int),vs[i]? = some v->ks[i]? = some k->KeyOf s.heap v k/\k≠[])->(∀ fs:List Value,fs.length=vs.length->(∀ f∈fs,∃ a t,f = .int a t)->Q (fs.map some) s)->wpAny (model prog w) A (vs.mapM firstOfTuple') Q E s
 | [],[],_,_,h=>by rw[mapM_nil]; exact wpAny_pure (h [] rfl λuu q=>nomatch q)
 | [],_::_,hl,_,_=>by simp at hl
 | _::_,[],hl,_,_=>by simp at hl
 | k::ks,v::vs,hl,hk,h=>by
  refine aa (hk 0 v k rfl rfl) λg l=>?_
  refine aL (g) λa us n j p u=>?_
  clear g
  subst j
  rw[mapM_cons]
  refine wpAny_bind ?_
  rw[rN]
  refine wpAny_bind (wpAny_typeOf (T:="tuple") (af _ p rfl) ?_)
  rw[if_neg (by decide)]
  refine wpAny_bind (listItems_at p rfl (wpAny_pure ?_))
  cases u with
  | nil=>exact absurd rfl l
  | cons x t r=>
   refine wpAny_bind (lA (ks:=ks) (vs:=vs) (by simpa using hl) (λi v k h1 z=>hk (i+1) v k (by simpa using h1) (by simpa using z)) λfs o m=>wpAny_pure ?_)
   have:=h (.int x t::fs) (by simp[o]) (λf y=>(mem_cons.mp y).elim (λe=>(bn x t e)) (m f))
   simpa using this
theorem oA:∀ {fs:List Value},(∀ f∈fs,∃ a t,f = .int a t)->Q (fs.map λuu=>.type "int") s->wpAny (model prog w) A (fs.mapM typeOf) Q E s
 | [],_,h=>by rw[mapM_nil]; exact wpAny_pure h
 | f::fs,hf,h=>by
  refine bj (hf f (.head _)) λa t g=>?_
  subst g
  rw[mapM_cons]
  refine wpAny_bind (wpAny_pure (wpAny_bind (oA (fs:=fs) (λf h=>hf f (.tail _ h)) (wpAny_pure h))))
theorem pj {ks:List (List Int)}{vs:List Value}{Q:SortKind->Shared->Prop}(hl:vs.length=ks.length) (h1:1<=vs.length) (hk:∀ (i:Nat) (v:Value) (k:List Int),vs[i]? = some v->ks[i]? = some k->KeyOf s.heap v k/\k≠[]) (h:Q (tuples' true) s):wpAny (model prog w) A (keyKind' vs.toArray) Q E s:=by
 rw[keyKind'_eq,List.mapM_toArray,map_eq_pure_bind]
 refine wpAny_bind (wpAny_bind (lA hl hk λo m p=>wpAny_pure ?_))
 have n:((o.map some).toArray.all λx=>x.isSome)=true:=by simp
 rw[if_pos n]
 refine wpAny_bind (wpAny_rule ?_)
 have q:((o.map some).toArray.filterMap id)=o.toArray:=by simp
 rw[q,oneTypeOnly'_eq,List.mapM_toArray,map_eq_pure_bind]
 refine wpAny_bind (wpAny_bind (wpAny_bind (oA p (wpAny_pure ?_))))
 obtain ⟨g,l,rfl⟩:∃ g l,o=g::l:=by
  cases o with
  | nil=>simp at m; exact Gj h1 m
  | cons g l=>exact (bn g l rfl)
 have j:((List.map (λuu=>Value.type "int") (g::l)).toArray.all λx=>x==Value.type "int")=true:=by
  simp only[List.all_toArray,all_map,all_eq_true]
  intro _ _
  rfl
 have r:(List.map (λuu=>Value.type "int") (g::l)).toArray[0]? = some (Value.type "int"):=by simp
 rw[r]
 simp only[j,if_true]
 exact wpAny_pure (wpAny_pure h)
end
section
theorem xV (hlt:iJ gM gA gE gs gr go gk) {st:SortSt}{Q:Unit->SortSt->Prop}(g:Gd gr go gk st) (h2:2<=(arrOf st).size) (h64:(arrOf st).size<64) (hp:pendingOf st = #[]) (hf:failedOf st=none)
  (h:∀ st',(arrOf st').Perm (arrOf st)->Up gr (arrOf st').toList->failedOf st' = none->Q () st'):wpS gM gA gE gs sortRuns' Q st:=by
 rw[sortRuns'_eq]
 refine wpS_bind (wpS_get ?_)
 dsimp only
 generalize hN:(arrOf st).size=N at *
 have hm:minRun' N N 0=N:=by
  obtain ⟨f,rfl⟩:∃ f,N=f+1:=⟨N-1,by exact H9 h2⟩
  rw[minRun'_succ,if_pos h64]
 rw[hm]
 refine wpS_bind (wpS_mono (wpS_forRange (I:=λx c st'=>(x=0/\c=(none,0)/\st' = st)\/(c=(none,N)/\Ph1 gr st st' N)) (Q:=λc st'=>c=(none,N)/\Ph1 gr st st' N) ?_ ?_ (.inl ⟨rfl,rfl,rfl⟩)) ?_)
 ·rintro x c st' _ hx (⟨rfl,rfl,rfl⟩ | ⟨rfl,p⟩)
  ·dsimp only
   rw[if_neg (by exact Nat.not_le_of_lt ‹_›)]
   refine wpS_bind (se hlt g (Gh hN) ‹_› λn i n1 n2 k up=>?_)
   dsimp only
   by_cases c:n<N
   ·rw[if_pos c]
    refine wpS_bind (qH (wpS_bind (uR hlt (g.of k) (by rw[k.size]; exact F0 hN) (FG c) up λo l r=>?_)))
    rw[if_neg (by decide)]
    refine wpS_bind (wpS_get ?_)
    have z:pendingOf o = #[]:=by rw[l.pend,k.pend,hp]
    have em:min (N-0) N=N:=by exact Ir
    rw[em] at r ⊢
    rw[show (pendingOf o).back? = none by rw[z]; rfl]
    refine wpS_bind (wpS_modify (wpS_pure (.inr ⟨by rw[zero_add],⟨l.perm.trans k.perm,l.kind.trans k.kind,l.fail.trans (k.fail.trans hf),?_,r⟩⟩)))
    show (pendingOf o).push (0,N,0)=_
    rw[z]; rfl
   ·rw[if_neg c]
    obtain rfl:n=N:=by exact HX n2 c
    refine wpS_bind (wpS_get ?_)
    have z:pendingOf i = #[]:=by rw[k.pend,hp]
    rw[show (pendingOf i).back? = none by rw[z]; rfl]
    refine wpS_bind (wpS_modify (wpS_pure (.inr ⟨by rw[zero_add],⟨k.perm,k.kind,k.fail.trans hf,?_,up⟩⟩)))
    show (pendingOf i).push (0,n,0)=_
    rw[z]; rfl
  ·dsimp only
   rw[if_pos (le_refl _)]
   exact wpS_pure ⟨rfl,p⟩
 ·rintro c st' (⟨e,_⟩ | q)
  ·exact F5 h2 e
  ·exact q
 ·intro c st' y
  refine aa (y) λK4 p=>?_
  clear y
  subst K4
  dsimp only
  have m:(arrOf st').size=N:=by rw[p.perm.size_eq,hN]
  have t:Up gr (arrOf st').toList:=by
   have:=DE p.up (IB m)
   rwa [List.drop_zero,List.take_of_length_le (by rw[length_toList]; exact EQ m)] at this
  refine wpS_bind (wpS_mono (wpS_forRange (I:=λx c j=>c=(none,())/\j=st') (Q:=λc j=>c=(none,())/\j=st') ?_ ?_ ⟨rfl,rfl⟩) ?_)
  ·intro x c i _ hx v
   refine aa (v) λK5 K7=>?_
   clear v
   subst K5
   (clear m t; subst K7)
   refine wpS_bind (wpS_get ?_)
   rw[if_pos (by rw[p.pend]; exact le_refl _)]
   exact wpS_pure ⟨rfl,rfl⟩
  ·rintro c i q; exact q
  ·intro c i u
   refine aa (u) λLd K6=>?_
   clear u
   subst Ld
   (clear m; subst K6)
   exact wpS_pure (h _ p.perm t p.fail)
end
theorem Cm:me sg:=λi _ _ g m j k l h=>xV i g m j k l h
section
variable {A:Around}{E:Value->Shared->Prop}{s:Shared}{rk:Keyed->Nat}{ok:Keyed->Prop}{κ:SortKind}
theorem ms (hlt:iJ (model prog w) A E s rk ok κ) {st:SortSt}{Q:Unit->SortSt->Prop}(g:Gd rk ok κ st) (h2:2<=(arrOf st).size) (h64:(arrOf st).size<64) (hp:pendingOf st = #[]) (hf:failedOf st=none)
  (h:∀ st',(arrOf st').Perm (arrOf st)->Up rk (arrOf st').toList->failedOf st' = none->Q () st'):wpS (model prog w) A E s sortRuns' Q st:=CL Cm ⟨A,E,s,rk,ok,κ⟩ hlt g h2 h64 hp hf h
end
section
end
theorem r7 (q a:Addr):Builtin.«list.sort» ⟨[.ref a],[(Str.ofString "key", .ref q)]⟩=(do
  let items <- Builtin.List.listItems (.ref a)
  Builtin.List.listUpdate (.ref a) λuu=>#[]
  let before <- seqEpoch a
  let held <- newTuple items.toList
  let store <- newList []
  holding [held,store] (do
   rule "list.sort.key"
   for x in items do
    match <- (call (.ref q) [x]).attempt with
    | .ok k=>Builtin.List.listUpdate store (·.push k)
    | .error e=>
     rule "list.sort.key-raised"
     let made <- Builtin.List.listItems store
     Builtin.List.listUpdate store λuu=>#[]
     letGo made.toList.reverse [e]
     Builtin.List.listUpdate (.ref a) λuu=>items; throw e
   let keys <- Builtin.List.listItems store
   let kind <- if items.size<2 then pure general' else keyKind' keys
   let ((),s) <- (if items.size<2 then pure () else sortRuns').run (SortSt.mk' kind (keys.zip items) #[] 7 none)
   let sorted:=(arrOf s).map (·.2)
   Builtin.List.listUpdate store λuu=>#[]
   letGo ((arrOf s).map (·.1)).toList (failedOf s).toList
   let touched:=(<- seqEpoch a) != before
   Builtin.List.listUpdate (.ref a) λuu=>sorted
   if let some e:=failedOf s then rule "list.sort.comparison-raised"; throw e
   if touched then rule "list.sort.modified"; raiseError "ValueError" "list modified during sort"
   ret .none)):=rfl
theorem rB {M:Model}{A:Around}{E:Value->Shared->Prop}{body:Value->PUnit->Sem (ForInStep PUnit)}{Q:PUnit->Shared->Prop}(I:Nat->Shared->Prop):∀ (vs:List Value) (i:Nat) (s:Shared),I i s ->
  (∀ (j:Nat) (x:Value) (s':Shared),vs[j]? = some x->I (i+j) s'->wpAny M A (body x ⟨⟩) (λr s''=>r = .yield ⟨⟩/\I (i+j+1) s'') E s')->(∀ s',I (i+vs.length) s'->Q ⟨⟩ s')->wpAny M A (forIn vs PUnit.unit body) Q E s
 | [],i,s,h,_,fin=>by
  rw[forIn_nil]; exact wpAny_pure (fin s h)
 | x::vs,i,s,h,step,fin=>by
  rw[forIn_cons]
  refine wpAny_bind (wpAny_mono (step 0 x s rfl h) (λr s' l=>?_) λuu uu e=>e)
  refine aa (l) λk n=>?_
  clear l
  subst k
  refine rB I vs (i+1) s' n (λj y s'' m g=>?_) λs'' g=>fin s'' ?_
  ·have e:i+1+j=i+(j+1):=by exact Eo
   rw[e] at g ⊢
   exact step (j+1) y s'' (by simpa using m) g
  ·have e:i+(x::vs).length=i+1+vs.length:=by rw[length_cons]; exact DO
   rw[e]; exact g
section
variable {A:Around}{E:Value->Shared->Prop}
theorem Kp.wr (k:Kp s0 s) (e:s.heap.get? a=some (seqObj "list" xs n)) (h0:s0.heap.get? a=Option.none) (hs:Heap.SameBut a s.heap h'):Kp s0 {s with heap:=h' }:=by
 revert k; intro g
 refine au (g) λh j i k=>?_
 clear g
 subst i
 refine ⟨h',j,rfl,K.same k hs h0 λo q=>?_⟩
 rw[e] at q; (have l:=Option.some.inj q; clear q; subst l); exact Stay.not_list
theorem qL {α:Type}{R:α->α->Prop}{l:List α}(h:l.length<=1):l.Pairwise R:=by
 rcases l with _ | ⟨x,_ | ⟨y,l⟩⟩
 ·exact .nil
 ·exact List.pairwise_singleton ..
 ·cases h with
  | step h=>cases h
theorem dF (a:Array α) (b:List β):(a.zip b.toArray).toList=a.toList.zip b:=by
 first
  | simp
  | (cases a; simp)
theorem jb {α β:Type}{a:List α}{b:List β}{i:Nat}{x:α}{y:β}(h1:a[i]? = some x) (h2:b[i]? = some y):(a.zip b)[i]? = some (x,y):=List.getElem?_zip_eq_some.mpr ⟨h1,h2⟩
set_option maxHeartbeats 4000000 in
theorem tm {s0 s:Shared}{D kS:Addr}{vs keys:List Value}{ks:List (List Int)}{e e1:Nat}{st:SortSt}{P:PySem.Fin->Shared->Prop}(k0:Kp s0 s) (hk:s.heap.get? kS=some (seqObj "list" keys.toArray e)) (hD:s.heap.get? D=some (seqObj "list" #[] e1)) (f1:s0.heap.get? kS=none) (f2:s0.heap.get? D=none) (hne:kS≠D)
  (hl:vs.length=ks.length) (hlk:keys.length=ks.length) (h128:vs.length<128) (hkey:∀ (i:Nat) (v:Value) (k:List Int),keys[i]? = some v->ks[i]? = some k->KeyOf s.heap v k)
  (hp:(arrOf st).Perm (keys.toArray.zip vs.toArray)) (hu:(arrOf st).toList.Pairwise λx y=>ltL (cP s.heap y.1) (cP s.heap x.1)=false) (hf:failedOf st=none)
  (h:∀ s' out c,Kp s0 s'->s'.heap.get? D=some (seqObj "list" out c)->(∃ ps:List (List Int×Value),ps.Perm (ks.zip vs)/\out.toList=ps.map (·.2)/\ps.Pairwise λx y=>ltL y.1 x.1=false)->P (.done (.ret .none)) s') :
  wpAny (model prog w) A (do
   let sorted:=(arrOf st).map (·.2)
   Builtin.List.listUpdate (.ref kS) λuu=>#[]
   letGo ((arrOf st).map (·.1)).toList (failedOf st).toList
   let touched:=(<- seqEpoch D) != e1
   Builtin.List.listUpdate (.ref D) λuu=>sorted
   if let some e:=failedOf st then rule "list.sort.comparison-raised"; throw e
   if touched then rule "list.sort.modified"; raiseError "ValueError" "list modified during sort"
   ret .none) P E s:=by
 have o:=Heap.SameBut.update s.heap kS (Obj.mapSeq λuu=>(#[]:Array Value))
 have g:(s.heap.update kS (Obj.mapSeq λuu=>(#[]:Array Value))).get? D=some (seqObj "list" #[] e1):=(o.2 D hne.symm).trans hD
 have u:=Heap.SameBut.update (s.heap.update kS (Obj.mapSeq λuu=>(#[]:Array Value))) D (Obj.mapSeq λuu=>(arrOf st).map (·.2))
 obtain ⟨n,m⟩:∃ n,((s.heap.update kS (Obj.mapSeq λuu=>(#[]:Array Value))).update D (Obj.mapSeq λuu=>(arrOf st).map (·.2))).get? D=some (seqObj "list" ((arrOf st).map (·.2)) n):=⟨_,get?_update_seq g λuu=>(arrOf st).map (·.2)⟩
 have j:(arrOf st).size=vs.length:=by rw[hp.size_eq,size_zip]; simp; exact E8 hl hlk
 have k1:=Kp.wr k0 hk f1 o
 have z:=Kp.wr (s:={s with heap:=s.heap.update kS (Obj.mapSeq λuu=>(#[]:Array Value)) }) k1 g f2 u
 dsimp only
 refine wpAny_bind (listUpdate_at hk rfl ?_ (by rw[size_toArray,sizeLine_eq]; exact GR hl hlk h128) (zero_le _))
 refine wpAny_bind (wpAny_letGo ?_)
 refine wpAny_bind (seqEpoch_at g rfl ?_)
 refine wpAny_bind (listUpdate_at g rfl ?_ (zero_le _) (by rw[Array.size_map,j,sizeLine_eq]; exact E2 h128))
 rw[hf]
 simp only[bne_self_eq_false,false_eq_true,if_false]
 refine wpAny_pure (h _ _ n z m ⟨(arrOf st).toList.map λp=>(cP s.heap p.1,p.2),?_,?_,?_⟩)
 ·have l:(arrOf st).toList.Perm (keys.zip vs):=by
   have:=Array.perm_iff_toList_perm.mp hp
   rwa [dF] at this
  refine (l.map _).trans (List.Perm.of_eq ?_)
  apply List.ext_getElem?
  intro i
  rw[List.getElem?_map]
  by_cases hi:i<ks.length
  ·have t:keys[i]? = some keys[i]:=List.getElem?_eq_getElem (pC hlk hi)
   have r:ks[i]? = some ks[i]:=List.getElem?_eq_getElem hi
   have q:vs[i]? = some vs[i]:=List.getElem?_eq_getElem (pC hl hi)
   rw[jb t q,jb r q]
   simp only[map_some]
   rw[fc (hkey i _ _ t r)]
  ·rw[List.getElem?_eq_none (by rw[length_zip]; exact GL hlk hi),List.getElem?_eq_none (by rw[length_zip]; exact zr hi)]
   rfl
 ·rw[Array.toList_map,map_map]; rfl
 ·rw[pairwise_map]; exact hu
set_option maxHeartbeats 4000000 in
theorem xZ {s0 s:Shared}{D q:Addr}{vs:List Value}{ks:List (List Int)}{n:Nat}{P:PySem.Fin->Shared->Prop}(ho:s.heap.get? D=some (seqObj "list" vs.toArray n)) (f2:s0.heap.get? D=none) (k0:Kp s0 s)
  (hl:vs.length=ks.length) (h64:vs.length<64) (hne:∀ k∈ks,k≠[])
  (hcall:∀ (i:Nat) (x:Value) (k:List Int) (s':Shared) (Q:Value->Shared->Prop) (Er:Value->Shared->Prop),vs[i]? = some x->ks[i]? = some k->Kp s0 s'->(∀ v s'',Kp s' s''->KeyOf s''.heap v k->Q v s'')->wpAny (model prog w) A (call (.ref q) [x]) Q Er s')
  (h:∀ s' out c,Kp s0 s'->s'.heap.get? D=some (seqObj "list" out c)->(∃ ps:List (List Int×Value),ps.Perm (ks.zip vs)/\out.toList=ps.map (·.2)/\ps.Pairwise λx y=>ltL y.1 x.1=false)->P (.done (.ret .none)) s') :
  wpAny (model prog w) A (Builtin.«list.sort» ⟨[.ref D],[(Str.ofString "key", .ref q)]⟩) P E s:=by
 have m:=lt_trans h64 (show 64<128 by decide)
 rw[r7]
 have s1:=Heap.SameBut.update s.heap D (Obj.mapSeq λuu=>(#[]:Array Value))
 obtain ⟨e1,ho1⟩:∃ e1,(s.heap.update D (Obj.mapSeq λuu=>(#[]:Array Value))).get? D=some (seqObj "list" #[] e1):=⟨_,get?_update_seq ho λuu=>#[]⟩
 have k1:=Kp.wr k0 ho f2 s1
 refine wpAny_bind (listItems_at ho rfl ?_)
 refine wpAny_bind (listUpdate_at ho rfl ?_ (by rw[size_toArray,sizeLine_eq]; exact AB m) (zero_le _))
 refine wpAny_bind (seqEpoch_at ho1 rfl ?_)
 refine wpAny_bind (wpAny_newTuple ?_ (by show vs.length<=_; rw[sizeLine_eq]; exact AB m))
 refine wpAny_bind (wpAny_newList ?_ (zero_le _))
 refine wpAny_holding ?_
 generalize hkS:((s.heap.update D (Obj.mapSeq λuu=>(#[]:Array Value))).push (seqObj "tuple" vs.toArray 0)).objs.size=kS
 have k3:Kp s0 {s with heap:=((s.heap.update D (Obj.mapSeq λuu=>(#[]:Array Value))).push (seqObj "tuple" vs.toArray 0)).push (seqObj "list" #[] 0) }:=(k1.trans (.push _ _ s.toks)).trans (.push _ _ s.toks)
 have hD3:(((s.heap.update D (Obj.mapSeq λuu=>(#[]:Array Value))).push (seqObj "tuple" vs.toArray 0)).push (seqObj "list" #[] 0)).get? D=some (seqObj "list" #[] e1):=Heap.get?_push_of_some _ (Heap.get?_push_of_some _ ho1)
 have hK3:(((s.heap.update D (Obj.mapSeq λuu=>(#[]:Array Value))).push (seqObj "tuple" vs.toArray 0)).push (seqObj "list" #[] 0)).get? kS=some (seqObj "list" #[] 0):=by rw[<- hkS]; exact Heap.get?_push_size _ rfl
 have hDk:kS≠D:=by
  rw[<- hkS]
  exact ne_of_gt (lt_size (Heap.get?_push_of_some _ ho1))
 have f1:s0.heap.get? kS=none:=by
  refine (k1.trans (.push _ (seqObj "tuple" vs.toArray 0) s.toks)).none ?_
  rw[<- hkS]
  exact Heap.get?_none_of_le (le_refl _)
 refine wpAny_bind (wpAny_rule ?_)
 first
  | rw[List.forIn_toArray]
  | (rw[<- Array.forIn_toList]; simp only[List.toList_toArray])
  | rw[<- Array.forIn_toList]
 refine wpAny_bind (rB (λi s'=>Kp s0 s'/\s'.heap.get? D=some (seqObj "list" #[] e1)/\∃ (g:List Value) (e:Nat),g.length=i/\s'.heap.get? kS=some (seqObj "list" g.toArray e)/\∀ (j:Nat) (v:Value) (k:List Int),g[j]? = some v->ks[j]? = some k->KeyOf s'.heap v k) vs 0 _ ⟨k3,hD3,[],0,rfl,hK3,λj v k hj=>by simp at hj⟩ (λj x s' hj hI=>?_) λs' hI=>?_)
 ·obtain ⟨kp,hD',g,e,r,z,l⟩:=hI
  have hjl:j<ks.length:=by rw[<- hl]; exact (List.getElem?_eq_some_iff.mp hj).1
  have hkj:ks[j]? = some ks[j]:=List.getElem?_eq_getElem hjl
  refine wpAny_bind (wpAny_attempt (hcall j x _ s' _ _ hj hkj kp λv s'' k'' kv=>?_))
  have hk'':=k''.k.get z rfl
  have hD'':=k''.k.get hD' rfl
  have sk:=Heap.SameBut.update s''.heap kS (Obj.mapSeq (·.push v))
  have ea:g.toArray.push v=(g++[v]).toArray:=by simp
  obtain ⟨c2,hc2⟩:∃ c2,(s''.heap.update kS (Obj.mapSeq (·.push v))).get? kS=some (seqObj "list" (g++[v]).toArray c2):=⟨_,by rw[<- ea]; exact get?_update_seq hk'' (·.push v)⟩
  have kg:KG (λb=>b≠kS) s''.heap (s''.heap.update kS (Obj.mapSeq (·.push v))):=KG.same sk (λq=>q rfl) λo q=>by rw[hk''] at q; (have oc:=Option.some.inj q; clear q; subst oc); exact Stay.not_list
  dsimp only
  refine wpAny_bind (listUpdate_at hk'' rfl ?_ (by rw[size_toArray,sizeLine_eq]; exact Im hl m r hjl) (le_trans (le_of_eq (Array.size_push ..)) (by rw[size_toArray,sizeLine_eq]; exact EA hl m r hjl)))
  refine wpAny_pure ⟨rfl,Kp.wr (kp.trans k'') hk'' f1 sk,(sk.2 D hDk.symm).trans hD'',g++[v],c2,by rw[length_append,length_singleton,r],hc2,λi u k hi t=>?_⟩
  by_cases hik:i<g.length
  ·rw[List.getElem?_append_left hik] at hi
   exact ((l i u k hi t).stays k''.k).stays kg
  ·rw[List.getElem?_append_right (mK hik)] at hi
   have:i-g.length=0:=by
    have:=(List.getElem?_eq_some_iff.mp hi).1
    simp at this; exact Ha this
   rw[this] at hi
   simp at hi
   subst hi
   have hij:i=j:=by exact Gf r hik this
   subst hij
   rw[hkj] at t; (have oc:=Option.some.inj t; clear t; subst oc)
   exact kv.stays kg
 ·obtain ⟨kp,hD',g,e,r,z,l⟩:=hI
  have hlk:g.length=ks.length:=by rw[r,<- hl]; exact Kb
  refine wpAny_bind (listItems_at z rfl ?_)
  by_cases h2:vs.toArray.size<2
  ·rw[if_pos h2,if_pos h2]
   refine wpAny_bind (wpAny_pure ?_)
   dsimp only
   rw[StateT.run_pure]
   refine wpAny_bind (wpAny_pure ?_)
   dsimp only
   refine tm (st:=SortSt.mk' general' (g.toArray.zip vs.toArray) #[] 7 none) kp z hD' f1 f2 hDk hl hlk m l (Array.Perm.refl _) ?_ rfl h
   have hz:(g.toArray.zip vs.toArray).toList.length<=1:=by
    rw[dF,length_zip]; rw[size_toArray] at h2; exact FQ h2
   show ((g.toArray.zip vs.toArray).toList).Pairwise _
   exact qL hz
  ·rw[if_neg h2,if_neg h2]
   rw[size_toArray] at h2
   refine wpAny_bind (pj (ks:=ks) hlk (DT r h2) (λi v k hi t=>⟨l i v k hi t,hne k (mem_of_getElem? t)⟩) ?_)
   have hzs:(g.toArray.zip vs.toArray).size=vs.length:=by rw[size_zip]; simp; exact Em r
   have mem:∀ p∈g.zip vs,∃ k∈ks,KeyOf s'.heap p.1 k:=λp hp=>by
    refine ai (List.getElem?_of_mem hp) λi hi=>?_
    refine aa (List.getElem?_zip_eq_some.mp hi) λq1 q2=>?_
    have hil:i<ks.length:=by rw[<- hlk]; exact (List.getElem?_eq_some_iff.mp q1).1
    exact ⟨ks[i],List.getElem_mem hil,l i _ _ q1 (List.getElem?_eq_getElem hil)⟩
   refine wpAny_bind (wpAny_mono (ms (vJ (E:=E) (s:=s') true ks) (st:=SortSt.mk' (tuples' true) (g.toArray.zip vs.toArray) #[] 7 none)
    (Q:=λuu st'=>(arrOf st').Perm (g.toArray.zip vs.toArray)/\failedOf st' = none/\Up (λp=>rkL ks (cP s'.heap p.1)) (arrOf st').toList) ⟨λp hp=>?_,rfl⟩ (by show 2<=(g.toArray.zip vs.toArray).size; rw[hzs]; exact zO h2) (by show (g.toArray.zip vs.toArray).size<64; rw[hzs]; exact h64) rfl rfl λst' a1 a2 a3=>⟨a1,a3,a2⟩) ?_ λuu uu e=>e)
   ·have hp':p∈(g.toArray.zip vs.toArray).toList:=Array.mem_def.mp hp
    rw[dF] at hp'
    exact mem p hp'
   ·rintro ⟨⟨⟩,st'⟩ s'' ⟨rfl,hp,hf,hu⟩
    dsimp only
    refine tm kp z hD' f1 f2 hDk hl hlk m l hp ?_ hf h
    have hm:∀ p∈(arrOf st').toList,∃ k∈ks,KeyOf s''.heap p.1 k:=λp hp'=>by
     have:=(Array.perm_iff_toList_perm.mp hp).mem_iff.mp hp'
     rw[dF] at this
     exact mem p this
    refine List.Pairwise.imp_of_mem (λ{a b} ha hb hab=>?_) hu
    refine ae (hm a ha) λk hk x=>?_
    refine ae (hm b hb) λk' z y=>?_
    have hab':rkL ks (cP s''.heap a.1)<=rkL ks (cP s''.heap b.1):=hab
    rw[fc x,fc y] at hab' ⊢
    rw[mD z hk]
    exact decide_eq_false (zA hab')
end
section
variable {A:Around}{E:Value->Shared->Prop}{s:Shared}
theorem qW {R:Result->Shared->Prop}{r:Addr}{n:Nat}{t u v:Tok}(hh:A.handled=none) (hr:IsRange s.heap r 0 n 1 t u v) (hsmall:Builtin.Range.small 0 n 1=true) (hn:Builtin.Range.rangeSize 0 n 1=n) (hlen:n<=2^24)
  (h:∀ h' tk acc' c',(∀ b o,s.heap.get? b=some o->h'.get? b=some o)->h'.get? s.heap.objs.size=some {cls:=.type "list", dict:=none,data:=.seq acc' c',slots:=#[] }->ItemsOf (λi v=>∃ t,v = .int (0+i*1) t) acc' n->R (.ok (.ret (.ref s.heap.objs.size))) {s with heap:=h',toks:=tk }) :
  codeAny (model prog w) A (.builtin "proto.collect" ⟨[.ref r],[]⟩) R s:=by
 refine codeAny_builtin entry_proto_collect' ?_
 show wpAny _ _ (do again (.builtin "list.__iadd__" ⟨[<- newList [],.ref r],[]⟩)) _ _ s
 refine wpAny_bind (wpAny_newList (wpAny_pure ⟨Code.quiet_builtin _ (by decide +kernel),codeAny_builtin entry_list_iadd' ?_⟩))
 show wpAny _ _ (Builtin.List.listExtendWith (.ref s.heap.objs.size) (.ref r) (.ref s.heap.objs.size)) _ _ {s with heap:=s.heap.push (seqObj "list" #[] 0) }
 rw[Around.under_plainId (by decide +kernel)]
 exact wpAny_extend_range (A:=A) (s:={s with heap:=s.heap.push (seqObj "list" #[] 0) }) (R:=R) hh (Heap.get?_push_of_some _ hr) hsmall hn hlen s.heap.objs.size (.ref s.heap.objs.size) 0 (Heap.get?_push_size _ rfl) λh' tk acc' c' hk j g=>
  h h' tk acc' c' (λb o e=>hk b o (ne_of_lt (lt_size e)) (Heap.get?_push_of_some _ e)) j g
theorem pq {r:Addr}{n:Nat}{t u v:Tok}{Q:List Value->Shared->Prop}(hh:A.handled=none) (hr:IsRange s.heap r 0 n 1 t u v) (hsmall:Builtin.Range.small 0 n 1=true) (hn:Builtin.Range.rangeSize 0 n 1=n) (hlen:n<=2^24)
  (h:∀ h' tk (vs:List Value),(∀ b o,s.heap.get? b=some o->h'.get? b=some o)->vs.length=n->(∀ (j:Nat) (v:Value),vs[j]? = some v->∃ t,v = .int j t)->Q vs {s with heap:=h',toks:=tk }):wpAny (model prog w) A (collect (.ref r)) Q E s:=by
 unfold collect
 refine wpAny_bind (wpAny_runValue (qW hh hr hsmall hn hlen λh' tk acc' c' hk hS hacc=>?_))
 show wpAny (model prog w) A (do
   let o <- load s.heap.objs.size
   match o.data with
   | .seq xs _=>pure xs.toList
   | _=>unsupported "internal:collect") Q E {s with heap:=h',toks:=tk }
 refine wpAny_bind (wpAny_load hS ?_)
 refine wpAny_pure (h h' tk acc'.toList hk (by rw[length_toList]; exact hacc.1) λj v hj=>?_)
 refine ai (hacc.2 j v (by simpa using hj)) λt e=>?_
 have q:(0+(j:Int)*1)=j:=by exact ET
 exact ⟨t,by rw[e,q]⟩
noncomputable def tB:Value->Nat
 | .int i _=>i.toNat
 | _=>0
theorem sF:∀ (l:List (List Int×Value)),(∀ p∈l,∃ (i:Nat) (t:Tok),p.2 = .int i t)->IntsAre (l.map (·.2)) ((l.map λp=>(p.1,tB p.2)).map λp=>(p.2:Int))
 | [],_=>.nil
 | p::l,h=>by
  refine bj (h p (.head _)) λi t e=>?_
  simp only[map_cons]
  rw[e]
  exact .cons _ t (sF l λq g=>h q (.tail _ g))
theorem qD (a v:Value):argsOk "sorted" ⟨[a],[(Str.ofString "key", v)]⟩:=by unfold argsOk; kernel_rfl
theorem ub (a v:Value):argsOk "list.sort" ⟨[a],[(Str.ofString "key", v)]⟩:=by unfold argsOk; kernel_rfl
theorem l5 {r q:Addr}{n:Nat}{t u v:Tok}{ks:List (List Int)}{Q:Value->Shared->Prop}(hh:A.handled=none) (hr:IsRange s.heap r 0 n 1 t u v) (hsmall:Builtin.Range.small 0 n 1=true) (hn:Builtin.Range.rangeSize 0 n 1=n)
  (hl:ks.length=n) (h64:n<64) (hne:∀ k∈ks,k≠[])
  (hcall:∀ (i:Nat) (x:Value) (k:List Int) (s':Shared) (Q:Value->Shared->Prop) (Er:Value->Shared->Prop),(∃ t,x = .int i t)->ks[i]? = some k->Kp s s'->(∀ v s'',Kp s' s''->KeyOf s''.heap v k->Q v s'')->wpAny (model prog w) A.in1.in1 (call (.ref q) [x]) Q Er s')
  (h:∀ (D:Addr) (s':Shared) (vs:List Value) (c:Nat) (ns:List Int),Kp s s'->s.heap.get? D=none->s'.heap.get? D=some (seqObj "list" vs.toArray c)->IntsAre vs ns->(∃ ps:List (List Int×Nat),ps.Perm (ks.zip (List.range n))/\ns=ps.map (λp=>(p.2:Int))/\ps.Pairwise λx y=>ltL y.1 x.1=false)->Q (.ref D) s') :
  wpAny (model prog w) A (call (.builtin "sorted") [.ref r] [(Str.ofString "key", .ref q)]) Q E s:=by
 have h128:=lt_trans h64 (show 64<128 by decide)
 refine call_function_entry_kw kind_sorted plain_sorted entry_sorted (qD _ _) ?_
 unfold Builtin.«sorted»
 refine wpAny_bind (m:=checkCount "sorted" 1 1 _) (wpAny_pure ?_)
 refine wpAny_bind (pq (A:=A.in1) hh hr hsmall hn (by exact Hf h128) λh1 tk1 vs kp hvl hvs=>?_)
 refine wpAny_bind (wpAny_newList ?_ (by rw[sizeLine_eq]; exact EO h128 hvl))
 have hoL:(h1.push (seqObj "list" vs.toArray 0)).get? h1.objs.size=some (seqObj "list" vs.toArray 0):=Heap.get?_push_size _ rfl
 have k1:Kp s {s with heap:=h1,toks:=tk1 }:=.of kp
 have k2:Kp s {s with heap:=h1.push (seqObj "list" vs.toArray 0),toks:=tk1 }:=k1.trans (.push _ _ _)
 have f2:s.heap.get? h1.objs.size=none:=k1.none (Heap.get?_none_of_le (le_refl _))
 refine wpAny_bind (wpAny_holding (wpAny_call_entry_kw slot_list_sort ⟨_,hoL,rfl⟩ entry_list_sort ?body (ub _ _)))
 case body=>
  refine xZ (s0:=s) (ks:=ks) hoL f2 k2 (by exact HT hl hvl) (by rw[hvl]; exact h64) hne (λi x k s' Q Er hx hk kp' hQ=>hcall i x k s' Q Er (hvs i x hx) hk kp' hQ) λs' out c kp' ho hps=>⟨_,rfl,wpAny_pure ⟨_,rfl,?_⟩⟩
  refine am (hps) λps p1 p2 p3=>?_
  clear hps
  have hm:∀ p∈ps,∃ (i:Nat) (t:Tok),p.2 = .int i t:=λp hp=>by
   have hp':=p1.mem_iff.mp hp
   refine ai (List.getElem?_of_mem (of_mem_zip hp').2) λi hi=>?_
   refine ai (hvs i _ hi) λt e=>?_
   exact ⟨i,t,e⟩
  have hmap:vs.map tB=List.range n:=by
   apply List.ext_getElem?
   intro i
   rw[List.getElem?_map]
   by_cases hi:i<n
   ·have q:vs[i]? = some vs[i]:=List.getElem?_eq_getElem (by exact pC hvl hi)
    refine ai (hvs i _ q) λt e=>?_
    rw[q,List.getElem?_range hi]
    simp only[map_some]
    rw[e]; rfl
   ·rw[List.getElem?_eq_none (by exact J0 hvl hi),List.getElem?_eq_none (by simp; exact mK hi)]; rfl
  have ho':s'.heap.get? h1.objs.size=some (seqObj "list" out.toList.toArray c):=by rw[Array.toArray_toList]; exact ho
  refine h h1.objs.size s' out.toList c _ kp' f2 ho' (by rw[p2]; exact sF ps hm) ⟨ps.map λp=>(p.1,tB p.2),?_,rfl,?_⟩
  ·refine (p1.map _).trans (List.Perm.of_eq ?_)
   rw[<- hmap,List.zip_map_right]
   exact map_congr_left λ⟨x,y⟩ _=>rfl
  ·rw[pairwise_map]; exact p3
end
theorem iE:∀ {ns:List Str}{vs:List α}{n:Str},vs.length=ns.length->n∈ns->((ns.zip vs).lookup n).isNone=false
 | [],_,_,_,h=>nomatch h
 | m::ns,[],_,h,_=>by simp at h
 | m::ns,v::vs,n,hl,h=>by
  rw[zip_cons_cons,lookup_cons]
  by_cases e:n=m
  ·(clear h hl; subst e); simp
  ·have g:(n==m)=false:=by simpa using e
   rw[g]
   exact iE (by simpa using hl) ((mem_cons.mp h).resolve_left e)
theorem kj:∀ {ns:List Str}{vs:List Value},ns.Nodup->vs.length=ns.length->(ns.filterMap λn=>((ns.zip vs).lookup n).map (n,·))=ns.zip vs
 | [],_,_,_=>rfl
 | m::ns,[],_,h=>by simp at h
 | m::ns,v::vs,hn,hl=>by
  rw[nodup_cons] at hn
  rw[List.filterMap_cons]
  simp only[zip_cons_cons,lookup_cons,beq_self_eq_true,map_some]
  congr 1
  have k:=kj hn.2 (vs:=vs) (by simpa using hl)
  have i:∀ (l:List Str),(∀ n∈l,n≠m)->(l.filterMap λn=>(match n==m with | true=>some v | false=>(ns.zip vs).lookup n).map (n,·))=l.filterMap λn=>((ns.zip vs).lookup n).map (n,·):=by
   intro l g
   induction l with
   | nil=>rfl
   | cons n l ihl=>
    have p:(n==m)=false:=beq_eq_false_iff_ne.mpr (g n (.head _))
    rw[List.filterMap_cons,List.filterMap_cons,ihl λx o=>g x (.tail _ o)]
    simp only[p]
  exact (i ns λn j e=>hn.1 (e▸j)).trans k
theorem pb (a:α) (f:α->Sem β):((pure a:Sem α)>>=f)=f a:=rfl
theorem CG {α β γ:Type}{l:List α}{i:β}{f:α->β->Sem (ForInStep β)}{k:β->Sem γ}{z:Sem γ}(h:l=[]) (e:k i=z):(forIn l i f>>=k)=z:=by subst h; exact e
theorem wY [Decidable c] (h:¬ c) (e:y=z):(if c then x else y)=z:=(if_neg h).trans e
theorem mq {ps:List Str}(h1:fd.params.posonlyargs=[]) (h2:fd.params.args.map (·.arg)=ps) (h3:fd.params.vararg=none) (h4:fd.params.kwonlyargs=[]) (h5:fd.params.kwarg=none) (h6:fd.defaults = .none)
  (hn:ps.Nodup) (hl:vals.length=ps.length):bindArgs fd ⟨vals,[]⟩=pure (ps.zip vals):=by
 obtain ⟨v,r,⟨t,g,p,z,kd,y,df⟩,bd,q,gl,cl,de,j,o,u,an,cd,ct,bu⟩:=fd
 dsimp only at h1 h2 h3 h4 h5 h6
 subst h1 h3 h4 h5 h6
 have m:(ps.take ps.length).filter (λn=>((ps.zip vals).lookup n).isNone)=[]:=by
  rw[List.take_length,List.filter_eq_nil_iff]
  intro n h
  rw[iE hl h]
  simp
 have k:(ps++[]).filterMap (λn=>((ps.zip vals).lookup n).map λx=>(n,x))=ps.zip vals:=by rw[append_nil]; exact kj hn hl
 subst h2
 refine wY (c:=(decide (vals.length>(g.map (·.arg)).length)&&true)=true) (by rw[hl]; simp) ?_
 have i:List.drop (0-(g.map (·.arg)).length) ([]:List Value)=[]:=List.drop_nil
 refine wY (c:=(!(((g.map (·.arg)).take ((g.map (·.arg)).length-(List.drop (0-(g.map (·.arg)).length) ([]:List Value)).length)).filter λn=>(((g.map (·.arg)).zip vals).lookup n).isNone).isEmpty)=true) (by rw[i]; show ¬ (!(((g.map (·.arg)).take (g.map (·.arg)).length).filter λn=>(((g.map (·.arg)).zip vals).lookup n).isNone).isEmpty)=true; rw[m]; simp) ?_
 refine CG (l:=((g.map (·.arg)).drop ((g.map (·.arg)).length-(List.drop (0-(g.map (·.arg)).length) ([]:List Value)).length)).zip (List.drop (0-(g.map (·.arg)).length) ([]:List Value))) (by rw[i]; exact List.zip_nil_right) ?_
 exact congrArg (λx=>(pure x:Sem _)) k
noncomputable def CodeV (h:Heap) (cv:Value):Prop:=∃ c o vs q t,cv = .ref c/\h.get? c=some o/\o.cls = .type "code" /\ o.data = .fields vs/\vs[1]? = some (.str q t)
theorem CodeV.onG (x:CodeV h cv) (k:KG G h h'):CodeV h' cv :=
 ny (x) λc o j q t m l i g=>(nk c o j q t m (k.stay l (.inl (aH i (bT _ g.1)))) i g)
theorem uI {pos p:Pos}{c x:Value}(l:List Value) (h:TriplesOk l) (hx:codeAmong p (l++[rawInt pos.line,rawInt pos.col,c])=some x):codeAmong p l=some x\/x=c:=by
 fun_induction TriplesOk l with
 | case1=>
  simp only[List.nil_append,codeAmong,rawInt] at hx
  split at hx
  ·(have oc:=Option.some.inj hx; clear hx; subst oc); exact .inr rfl
  ·exact nN hx
 | case2 a t b u y rest ih=>
  simp only[List.cons_append,codeAmong] at hx ⊢
  split at hx
  ·rename_i hc; rw[if_pos hc]; exact .inl hx
  ·rename_i hc; rw[if_neg hc]; exact ih h hx
 | case3 l h1 h2=>exact h.elim
section
variable {M:Model}{A:Around}{E:Value->Shared->Prop}{s:Shared}
theorem Bz (X:CodeOk s.heap env.code q)
  (h:∀ cv h' tk,K s.heap h'->CodeV h' cv->Q cv {s with heap:=h',toks:=tk }):wpAny M A (functionCode env pos firstLine name qualname p scope body) Q E s:=by
 refine cW (X) λc P ps hc _ hI hT hG hP=>?_
 clear X
 cases hf:codeAmong pos ps.toList with
 | some cv=>
  refine iC (hG.2 pos cv hf) λm o vs q' t K9 r=>?_
  subst K9
  exact wpAny_functionCode_hit hc hI hf (h _ s.heap s.toks KG.refl (mQ m o vs q' t rfl r))
 | none=>
  refine wpAny_functionCodeX hc hI hT hf λm h' tk hx hge hlt hI' j hT' k=>?_
  have g:=hT.2
  have hcv:CodeV h' (.ref m):=by
   refine am (k) λuu uu uu x=>?_
   clear k
   refine aa (x) λv _=>?_
   clear x
   refine bg (v) λy vc hoc hcc hdc _=>?_
   clear v
   refine gv (j) λc₂ ob n u eb i d₂ z=>?_
   clear j
   cases eb
   rw[hoc] at i; (have y:=Option.some.inj i; clear i; subst y)
   exact (v6 _ y n _ u rfl hoc hcc d₂ z)
  refine h _ h' tk (λb o _ e=>?_) hcv
  by_cases hb:b=P
  ·(clear hI hI' hT; subst hb)
   rw[g] at e
   have eo:=Option.some.inj e
   refine (af _ hT'.2 (.tab ps #[rawInt pos.line,rawInt pos.col,.ref m] hP eo.symm rfl λG=>⟨?_,λp cv l=>?_⟩))
   ·have hl:(ps ++ #[rawInt pos.line,rawInt pos.col,Value.ref m]).toList=ps.toList++[rawInt pos.line,rawInt pos.col,.ref m]:=by simp
    rw[hl]; exact TriplesOk_snoc _ _ _ _ G.1
   ·have hl:(ps ++ #[rawInt pos.line,rawInt pos.col,Value.ref m]).toList=ps.toList++[rawInt pos.line,rawInt pos.col,.ref m]:=by simp
    rw[hl] at l
    rcases uI _ G.1 l with hh | hh
    ·refine ny (G.2 p cv hh) λc1 o1 vs1 q1 t1 a1 a2 a3 a4=>?_
     refine (nk c1 o1 vs1 q1 t1 a1 (hx c1 o1 (λq=>?_) a2) a3 a4)
     rw[q,g] at a2; (have y:=Option.some.inj a2; clear a2; (clear a4; subst y)); cases a3
    ·subst hh; exact hcv
  ·exact (af o (hx b o hb e) (.same rfl))
noncomputable def LamAt (h:Heap) (f:Addr) (params:Arguments) (body:Expr) (scope:Scope) (clos:List (Str×Addr)):Prop :=
 ∃ o fd,h.get? f=some o/\o.data = .func fd/\fd.params=params/\fd.body = .expr body/\fd.scope=scope/\fd.closure=clos/\fd.globals=mainGlobals/\fd.builtins=builtinsNs/\fd.defaults = .none/\CodeV h fd.code
theorem LamAt.k (x:LamAt h f params body scope clos) (k:K h h'):LamAt h' f params body scope clos :=
 let ⟨o,fd,a1,a2,a3,a4,a5,a6,a7,a8,a9,a10⟩:=x
 (qX o fd (K.exact k a1 (λuu q=>by rw[a2] at q; cases q) (λuu uu q=>by rw[a2] at q; cases q)) a2 a3 a4 a5 a6 a7 a8 a9 (a10.onG k))
theorem zc (G:GE fns s.heap) (X:CodeOk s.heap env.code q) (hg:env.globals=mainGlobals)
  (hd:defaultsOf params env=([],[])) (hcl:closureFor scope env=pure [(x,c)])
  (h:∀ f s',Kp s s'->LamAt s'.heap f params body scope [(x,c)]->Q (.ref f) s'):wpAny M A (eval (.Lambda params body scope pos) env) Q E s:=by
 rw[arm_eval_Lambda,hd]
 refine wpAny_bind (wpAny_pure (wpAny_bind (wpAny_holding (wpAny_pure ?_))))
 rw[makeFunction_eq]
 simp only[List.zip_nil_right,List.filterMap_nil,List.isEmpty_nil,if_true,pure_bind]
 unfold makeTail
 rw[hcl,hg]
 refine wpAny_bind (wpAny_pure ?_)
 simp only[List.isEmpty_cons,false_eq_true,if_false]
 refine wpAny_bind (wpAny_newTextTuple ?_)
 have m:∀ o:Obj,Kp s {s with heap:=s.heap.push o }:=λo=>.push s o s.toks
 refine wpAny_bind (Bz (X.k (m _).k) λcv n j r l=>?_)
 have g:=(m _).trans (aC n j rfl r)
 refine wE (G.bm) λmg bm ob b1 z y v p u t=>?_
 have i:=gh b1 g.k
 refine wpAny_bind (wpAny_builtinsFor i z y (g.k.get v (by unfold hardB; rw[p]; decide)) p u t ?_)
 refine wpAny_bind (wpAny_nsGet i ?_)
 refine wpAny_bind (wpAny_pure (wpAny_newObj_type (h _ _ (g.trans (.push _ _ j)) ?_) (by size_fits)))
 exact (qX _ _ (Heap.get?_push_size _ rfl) rfl rfl rfl rfl rfl rfl rfl rfl (l.onG (Kp.push {s with heap:=n,toks:=j } _ j).k))
end
section
theorem v7 {R:Result->Shared->Prop}{e:Expr}{env:Env}
  (h:wpAny (model prog w) (A.deeper env) (eval e env) (λv s'=>R (.ok (.ret v)) s') (λuu uu=>False) s):codeAny (model prog w) A (.expr e env) R s:=by
 refine codeAny_of_tree ?_
 show wpAny _ (A.deeper env) (do point; ret (<- (eval e env).onRaise (leaving env))) _ _ s
 exact wpAny_bind (wpAny_point (wpAny_bind (wpAny_onRaise (wpAny_mono h (λv s' g=>wpAny_pure g) λuu uu g=>g.elim))))
theorem yx (hroom:A.depth<recursionLimit) (nl:s.heap.NoLimit) (L:LamAt s.heap f params body scope [(x,c)])
  (h1:params.posonlyargs=[]) (h2:params.args.map (·.arg)=[t]) (h3:params.vararg=none) (h4:params.kwonlyargs=[]) (h5:params.kwarg=none)
  (hk:scope.kind = .function) (hg:scope.isGenerator=false) (hc:scope.isCoroutine=false) (hn:scope.names=[(t,.local),(x,.free)]) (hxt:x≠t)
  (h:∀ env s',Kp s s'->env.scope=scope->env.globals=mainGlobals->env.builtins=builtinsNs->env.cells=[(x,c)]->s'.heap.Ns env.locals (λy=>[(t,v)].reverse.lookup y)->CodeV s'.heap env.code ->
   wpAny (model prog w) (A.deeper env) (eval body env) Q (λuu uu=>False) s'):wpAny (model prog w) A (call (.ref f) [v]) Q Er s:=by
 refine w7 (L) λo j ho hd n p2 l p4 p5 p6 p7 p8=>?_
 clear L
 have hb:bindArgs j ⟨[v],[]⟩=pure ([t].zip [v]):=mq (by rw[n]; exact h1) (by rw[n]; exact h2) (by rw[n]; exact h3) (by rw[n]; exact h4) (by rw[n]; exact h5) p7 (by simp) rfl
 refine wpAny_call (codeAny_of_tree ?_)
 show wpAny _ A.in1 (callAny (.ref f) ⟨[v],[]⟩) _ _ s
 simp only[callAny]
 refine wpAny_bind (wpAny_load ho ?_)
 refine wl (p8) λc' oc vs q tq hc' p u i hq=>?_
 clear p8
 have r:j.scope.isGenerator=false:=by rw[l]; exact hg
 have hco:j.scope.isCoroutine=false:=by rw[l]; exact hc
 simp only[hd,callFunction,hco,r,p2,hc']
 refine wpAny_bind (m:=field (.ref c') 1) (wpAny_field p i hq (wpAny_bind (wpAny_pure ?_)))
 rw[hb]
 refine wpAny_bind (wpAny_pure (wpAny_bind (wpAny_newFunctionEnv (λy hy=>?_) (λy hy=>?_) (λg hns hsb=>?_) (by rw[l]; exact hk))))
 ·rw[l,hn] at hy
  rcases mem_cons.mp hy with rfl | hy
  ·exact λq=>by cases q
  ·rw[mem_singleton.mp hy]; exact λq=>by cases q
 ·rw[l,hn]
  have:y=(t,v):=by simpa using hy
  rw[this]; simp
 ·have z:Kp s {s with heap:=g,toks:=s.toks+([t].zip [v]).length }:=(aC g _ rfl (.of λb o e=>hsb.extBut b o (ne_of_lt (lt_size e)) (Heap.get?_push_of_some _ e)))
  refine wpAny_bind (wpAny_enterFrame (la nl z.k) hroom (wpAny_pure ⟨rfl,v7 ?_⟩))
  exact h (newEnv j.scope s.heap.objs.size j.globals j.closure (q ++ ".<locals>.") (some f) (.ref c') none j.builtins) _ z l p5 p6 p4 hns (v6 c' oc vs q tq rfl (z.k.stay p (.inl (aH u (bT _ i)))) u i hq)
end
theorem yK (h:dS ns i=dS ns j):i=j:=by
 unfold dS at h
 simp at h
 have:=h.2
 exact Hy h
theorem uf {ps:List (List Int×Nat)}(hp:ps.Perm (((List.range ns.length).map (dS ns)).zip (List.range ns.length))) (hu:ps.Pairwise λx y=>ltL y.1 x.1=false):(ps.map λp=>(p.2:Int))=bJ ns:=by
 have o:((List.range ns.length).map (dS ns)).zip (List.range ns.length)=(List.range ns.length).map λi=>(dS ns i,i):=by
  apply List.ext_getElem?
  intro i
  by_cases hi:i<ns.length
  ·rw[jb (x:=dS ns i) (y:=i) (by simp[hi]) (by simp[hi])]
   simp[hi]
  ·rw[List.getElem?_eq_none (by simp; exact mK hi),List.getElem?_eq_none (by simp; exact mK hi)]
 rw[o] at hp
 unfold bJ
 congr 1
 have n:=mergeSort_perm ((List.range ns.length).map λi=>(dS ns i,i)) (λa b=>!ltL b.1 a.1)
 have t:=List.pairwise_mergeSort (le:=λ(a b:List Int×Nat)=>!ltL b.1 a.1) (λa b c k g=>by
  simp only[Bool.not_eq_true'] at k g ⊢
  cases q:ltL c.1 a.1 with
  | false=>rfl
  | true=>
   cases r:ltL a.1 b.1 with
   | true=>rw[cU q r] at g; exact nT g
   | false=>rw[<- eB r k,q] at g; cases g) (λa b=>by
  cases q:ltL b.1 a.1 with
  | false=>simp
  | true=>
   cases r:ltL a.1 b.1 with
   | true=>have:=cU q r; rw[iX] at this; exact nF this
   | false=>simp) ((List.range ns.length).map λi=>(dS ns i,i))
 refine List.Perm.eq_of_pairwise (le:=λa b=>ltL b.1 a.1=false) (λa b v u k g=>?_) hu (t.imp λh=>by simpa using h) (hp.trans n.symm)
 have e:=eB g k
 refine bG (hp.mem_iff.mp v) λi _ m=>?_
 subst m
 refine bG (n.mem_iff.mp u) λj _ l=>?_
 subst l
 have:=yK e
 subst this
 rfl
theorem x8 (ns:List Int):(bJ ns).length=ns.length:=by
 unfold bJ
 rw[length_map,(mergeSort_perm _ _).length_eq,length_map,List.length_range]
theorem xI (h:aJ xs=some ns):xs=ns.map .int:=by
 induction xs generalizing ns with
 | nil=>(have i:=Option.some.inj h; clear h; subst i); rfl
 | cons x xs ih=>
  cases x with
  | int j=>
   refine bl (show (aJ xs).map (j :: ·)=some ns from h) λl k g=>?_
   subst g
   rw[ih k]; rfl
  | _=>exact nN h
noncomputable def qO (x t:String) (xs:List PyData) (i:Nat):St:=λy=>if y=x then some (.d (.list xs),.sh) else if y=t then some (mk (.d (.int i))) else none
theorem A9 (hxt:x≠t) (hi:i<ns.length):∃ m,ev (λ_=>none) (mI x t) (qO x t (ns.map .int) i) = .ok (.d (.tuple ((dS ns i).map .int)),m):=by
 have h:qO x t (ns.map .int) i x=some (.d (.list (ns.map .int)),.sh):=if_pos rfl
 have g:qO x t (ns.map .int) i t=some (mk (.d (.int i))):=(if_neg (Ne.symm hxt)).trans (if_pos rfl)
 have j:fk (.list (ns.map .int)) (.int i) = .ok (mk (.d (.int (ns.getD i 0)))):=by
  have:jM (.list (ns.map .int)) i=some (.int (ns.getD i 0)):=by
   show (be (i:Int) (ns.map PyData.int).length).bind (λk=>(ns.map PyData.int)[k]?)=_
   unfold be
   rw[if_pos ml,if_pos (by rw[length_map]; exact Dg hi)]
   simp[hi]
  show al (d9 (.int (i:Int))) _=_
  show al (jM (.list (ns.map .int)) i) _=_
  rw[this]; rfl
 refine ⟨.deep,?_⟩
 unfold mI
 simp only[b7,eN,lc,gZ,g7,gT,fz,eJ,eK,eO,fU,br,fi,hW,d7,c7,fJ,gB,gQ,fx,fL,gS,eI,gO,fI,d8,fW,bc,bi,h,g,Out.ok_bind,mk,j]
 rfl
section
theorem wL {id:String}{args:List Expr}{kws:List Keyword}{A:Around}{env:Env}{p pos:Pos}{s:Shared}{Q:Value->Shared->Prop}{Er:Value->Shared->Prop}(eok:EnvOk env) (ge:GE fns s.heap) (hm:id∈bnames) (hg:bC env.scope.names id=true) (hd:(Str.ofString id==("__debug__" : Str))=false)
  (h:wpAny (model prog w) A (callWith pos (bval id) [] (backTo pos (starEach args env)) (backToKw pos (keywordEach kws env))) Q Er s):wpAny (model prog w) A (eval (.Call (.Name (Str.ofString id) p) args kws pos) env) Q Er s:=by
 refine am (ge.glob) λl i _ g=>?_
 refine ae (ge.blt) λm k j=>?_
 show wpAny _ A (do callWith pos (<- eval (.Name (Str.ofString id) p) env) [] (backTo pos (starEach args env)) (backToKw pos (keywordEach kws env))) Q Er s
 exact wpAny_bind (Calls.Name_function_global eok.kind (fA hg) (Calls.loadGlobal_builtin (eok.glob▸i) (g id hm) (eok.blt▸k) (j id hm) h) hd)
theorem xA (hn:sc.names=[(t,.local),(x,.free)]) (hc:env.cells.lookup x=some c):closureFor sc env=pure [(x,c)]:=by
 unfold closureFor
 rw[hn]
 simp only[forIn_cons,forIn_nil]
 have e:cellOf env x=pure c:=by unfold cellOf; rw[hc]
 rw[e]
 rfl
theorem star_call' (ys:List Expr) (env:Env):starEach (.Call f xs ks p::ys) env=(false,eval (.Call f xs ks p) env)::starEach ys env:=rfl
set_option maxHeartbeats 1000000 in
theorem wi (hf:fns.hand=false) (hk1:∀ g,C "law" = some g->fns.lam=true) (Sl:SimE fns k C XP (.bi1 .len (.name x))) (Sb:SimE {fns with lam:=false,hand:=true } 0 (λ_=>none) (λ_ _ _ _=>False) (mI x t)):SimE fns k C XP (.order x t):=by
 intro ex A env σ P s Q Er ok X nb hQ hE
 replace ok:=Bc ok
 rcases ok with ⟨id,p,jd,p2,y,p3,ar,body,sc,p4,p5,pos,rfl,ok⟩ | ok
 ·simp only[and_eq_true,beq_iff_eq] at ok
  refine aa (ok) λK5 obd=>?_
  clear ok
  refine aa (K5) λK7 olm=>?_
  clear K5
  refine aa (K7) λLc o=>?_
  clear K7
  refine aa (Lc) λLd hg'=>?_
  clear Lc
  refine aa (Ld) λK6 K3=>?_
  clear Ld
  refine aa (K6) λLa hg=>?_
  clear K6
  subst La
  subst K3
  unfold y1 at olm
  simp only[and_eq_true,decide_eq_true_eq,Bool.not_eq_true',isEmpty_iff,isNone_iff_eq_none] at olm
  refine aa (olm) λLe hcl=>?_
  clear olm
  refine aa (Le) λLb hxt=>?_
  clear Le
  refine aa (Lb) λLf b4=>?_
  clear Lb
  refine aa (Lf) λLg b3=>?_
  clear Lf
  refine aa (Lg) λLh b2=>?_
  clear Lg
  refine aa (Lh) λLj b1=>?_
  clear Lh
  refine aa (Lj) λLl a7=>?_
  clear Lj
  refine aa (Ll) λLm a6=>?_
  clear Ll
  refine aa (Lm) λLp a5=>?_
  clear Lm
  refine aa (Lp) λLn a4=>?_
  clear Lp
  refine aa (Ln) λLw a3=>?_
  clear Ln
  refine aa (Lw) λa1 a2=>?_
  clear Lw
  simp only[b7,eN,lc,gZ,g7,gT,fz,eJ,eK,eO,fU,br,fi,hW,d7,c7,fJ,gB,gQ,fx,fL,gS,eI,gO,fI,d8,fW] at nb hQ hE
  cases hCl:C "law" with
  | none=>rw[hCl] at nb; exact absurd rfl nb
  | some g=>
   rw[hCl] at nb hQ
   have hk:=hk1 g hCl
   clear hE
   have nb':fH (σ x)≠.bad:=nb
   cases hσ:σ x with
   | none=>rw[hσ] at nb'; exact absurd rfl nb'
   | some q=>
    obtain ⟨V,m⟩:=q
    have hov:∃ l:List Int,V = .d (.list (l.map .int))/\l.length<64/\fH (σ x) = .ok (.d (.list ((bJ l).map .int)),.deep):=by
     rw[hσ] at nb' ⊢
     cases hd:asD V with
     | none=>exact absurd (show fH (some (V,m)) = .bad by unfold fH; show al (asD V) _=_; rw[hd]; rfl) nb'
     | some d=>
      cases hl:asL d with
      | none=>exact absurd (show fH (some (V,m)) = .bad by unfold fH; show al (asD V) _=_; rw[hd]; show al (asL d) _=_; rw[hl]; rfl) nb'
      | some xs=>
       cases hi:aJ xs with
       | none=>exact absurd (show fH (some (V,m)) = .bad by unfold fH; show al (asD V) _=_; rw[hd]; show al (asL d) _=_; rw[hl]; show al (aJ xs) _=_; rw[hi]; rfl) nb'
       | some l=>
        have e:fH (some (V,m))=if l.length<64 then .ok (.d (.list ((bJ l).map .int)),.deep) else .bad:=by
         unfold fH; show al (asD V) _=_; rw[hd]; show al (asL d) _=_; rw[hl]; show al (aJ xs) _=_; rw[hi]; rfl
        by_cases z:l.length<64
        ·rw[if_pos z] at e
         refine ⟨l,?_,z,e⟩
         rw[bZ hd,bR hl,xI hi]
        ·rw[e,if_neg z] at nb'; exact absurd rfl nb'
    revert hov; intro Ma
    refine am (Ma) λl LB h64 hov=>?_
    have z:=lt_trans h64 (show 64<128 by decide)
    clear Ma
    subst LB
    have hvk:varK env.scope.names x=true:=by
     unfold yc at o
     refine aj o λ_ _ o=>?_
     refine aj o λ_ _ o=>?_
     simp only[and_eq_true] at o
     refine aj o.2 λ_ _ o=>?_
     simp only[and_eq_true] at o
     exact o.1.2
    refine az (X.vars x _ hσ hvk) λva as hvi Ly _=>?_
    refine aa (Ly) λhra hza=>?_
    clear Ly
    have hcell:∃ c,env.cells.lookup (Str.ofString x)=some c/\s.heap.IsCell c (some va):=by
     cases hvi with
     | loc m b c d=>exact absurd b (by unfold Env.kindOf; rw[hcl]; simp)
     | cell c b d e=>exact ⟨c,d,e⟩
    refine ae (hcell) λc hcl1 hcl2=>?_
    clear hcell
    have he:ev C (.bi1 .len (.name x)) σ = .ok (sI l.length):=by
     simp only[b7,eN,lc,gZ,g7,gT,fz,eJ,eK,eO,fU,br,fi,hW,d7,c7,fJ,gB,gQ,fx,fL,gS,eI,gO,fI,d8,fW]
     rw[hσ]
     show Out.bind (.ok (mk (.d (.list (l.map .int))))) _=_
     rw[Out.ok_bind]
     show Out.ok (sI ((l.map PyData.int).length:Int))=_
     rw[length_map]
    have on:okE env.scope.names (.bi1 .len (.name x)) y=true:=o
    refine wL X.eok X.ge (id:="sorted") (by decide) hg (by decide) ?_
    refine callWith_kw ?_
    refine wpAny_items_cons ?_ (star_call' [] env)
    refine dG X.eok X.ge (id:="range") (by decide) hg' (by decide) (fo (T:="range") _ on rfl (iY _ on (Sl on X (by rw[he]; simp) (λr hr v j Ea=>?_) λc hc=>by rw[he] at hc; cases hc)))
    rw[he] at hr
    (have oc:=Out.ok.inj hr; clear hr; subst oc)
    obtain ⟨ka,as',ra,_,_,_⟩:=Ea
    refine ra.1.isInt_k λtk LN _=>?_
    subst LN
    refine call_range_1 (wpAny_items_nil ?_)
    have k2:Kp s {j with heap:=j.heap.push {cls:=.type "range", data:=.fields #[.int 0 j.toks,.int (l.length:Int) tk,.int 1 (j.toks+1)] },toks:=j.toks+1+1 }:=ka.trans (.push _ _ _)
    generalize hs2:{j with heap:=j.heap.push {cls:=.type "range", data:=.fields #[.int 0 j.toks,.int (l.length:Int) tk,.int 1 (j.toks+1)] },toks:=j.toks+1+1 }=sb at k2 ⊢
    have hr2:IsRange sb.heap j.heap.objs.size 0 l.length 1 j.toks tk (j.toks+1):=by rw[<- hs2]; exact IsRange.new ..
    clear hs2
    refine kws_cons ?_
    refine ai (X.code hk) λqn hcode=>?_
    have hdef:defaultsOf ar env=([],[]):=by
     cases ar
     dsimp only at a5 a7
     subst a5 a7
     rfl
    refine zc (X.ge.k k2.k) (hcode.k k2.k) X.eok.glob hdef (xA b4 hcl1) λf s₃ k3 L=>kws_nil ?_
    have k23:=k2.trans k3
    have hsz:Builtin.Range.rangeSize 0 l.length 1=(l.length:Int):=by rw[rangeSize_one]; split<;>lia
    have hr3:IsRange s₃.heap j.heap.objs.size 0 l.length 1 j.toks tk (j.toks+1):=k3.k.get hr2 rfl
    show wpAny (model prog w) A (call (.builtin "sorted") [.ref j.heap.objs.size] [(Str.ofString "key", .ref f)]) Q Er s₃
    refine l5 (ks:=(List.range l.length).map (dS l)) (X.room.1 hf) hr3 (small_one zU At EK (E0 z)) hsz (by simp) h64 (λk hk=>?_) (λi xv kk s' Q' Er' hx hkk kp' hQ'=>?_) λD s' vs cc ns' kp' fD hD hI hps=>?_
    ·refine bG hk λi _ Lo=>?_
     subst Lo
     simp[dS]
    ·refine ai (hx) λti Lq=>?_
     clear hx
     subst Lq
     have hil:i<l.length:=by
      have:=(List.getElem?_eq_some_iff.mp hkk).1
      simpa using this
     have hkk':kk=dS l i:=by
      rw[List.getElem?_map,List.getElem?_range hil] at hkk
      (have oc:=Option.some.inj hkk; clear hkk; subst oc); rfl
     subst hkk'
     refine aa (X.room.at hf) λr1 r2=>?_
     have ks':=k23.trans kp'
     refine yx (show A.depth<recursionLimit by exact Ff r1) (la X.ge.nolim ks'.k) (L.k kp'.k) a1 a2 a3 a4 a6 b1 b2 b3 b4 (λq=>hxt (cy q)) λenv' s'' kp'' e1 e2 e3 e4 hns hcv=>?_
     have kall:=ks'.trans kp''
     have hkd:∀ n,env'.kindOf n=[(Str.ofString t,NameKind.local),(Str.ofString x,NameKind.free)].lookup n:=λn=>by unfold Env.kindOf; rw[e1,b4]
     have hxn:(Str.ofString x==Str.ofString t)=false:=beq_eq_false_iff_ne.mpr λq=>hxt (cy q)
     have cx:Cx {fns with lam:=false,hand:=true } 0 (A.in1.in1.deeper env') (λ_=>True) s''.heap env' (qO x t (l.map .int) i):=by
      refine ⟨⟨λq=>(by cases q),by show A.depth+1+2*0+1<recursionLimit; exact JU r1,by show A.units+1+1+3+100*0+200<cLine; exact Ic r2⟩,⟨by rw[e1]; exact b1,e2,e3,λn hn=>?_⟩,(X.ge.k kall.k).flag false true,(λh=>by cases h),(λh=>by cases h),λy' p' u _=>?_⟩
      ·rw[hkd] at hn
       refine ⟨c,?_⟩
       rw[e4]
       simp only[lookup_cons,List.lookup_nil] at hn ⊢
       cases q1:n==Str.ofString t with
       | true=>rw[q1] at hn; simp at hn
       | false=>
        rw[q1] at hn
        cases q2:n==Str.ofString x with
        | true=>rfl
        | false=>rw[q2] at hn; simp at hn
      ·unfold qO at u
       by_cases hyx:y' = x
       ·subst hyx
        rw[if_pos rfl] at u; (have oc:=Option.some.inj u; clear u; subst oc)
        refine ⟨va,as,.cell c (.inr ?_) ?_ (jn hcl2 kall.k),⟨hra.k kall.k,hza⟩,λ_ _=>trivial⟩
        ·rw[hkd]; simp only[lookup_cons,hxn]; simp
        ·rw[e4]; simp
       ·rw[if_neg hyx] at u
        by_cases hyt:y' = t
        ·subst hyt
         rw[if_pos rfl] at u; (have oc:=Option.some.inj u; clear u; subst oc)
         refine ⟨.int i ti,[],.loc _ ?_ hns ?_,⟨.int i ti,rfl⟩,λ_ _=>trivial⟩
         ·rw[hkd]; simp
         ·simp
        ·rw[if_neg hyt] at u; exact nN u
     refine ai (A9 (x:=x) (t:=t) hxt hil) λmm hev=>?_
     have obd':okE env'.scope.names (mI x t) body=true:=by rw[e1]; exact obd
     refine Sb obd' cx (by rw[hev]; simp) (λr hr v s4 E4=>?_) λ_ _ _ _ h=>h
     rw[hev] at hr
     (have oc:=Out.ok.inj hr; clear hr; subst oc)
     obtain ⟨k4,as4,Lr,_⟩:=E4
     refine aa (Lr) λr4 _=>?_
     clear Lr
     exact hQ' v s4 (kp''.trans k4) (KeyOf.ofR r4)
    ·refine am (hps) λps p1 p2 p3=>?_
     clear hps
     have e:=uf p1 p3
     rw[<- p2] at e
     subst e
     refine hQ _ hov _ _ ?_
     have ef:fresh ((bJ l).map PyData.int) = .deep:=by
      unfold fresh
      rw[if_pos]
      rw[all_map,all_eq_true]
      intro _ _; rfl
     rw[<- ef]
     exact EP.aList (as:=[]) (k23.trans kp') (k23.none fD) hD (RA.of_ints hI) (by rw[length_map,x8]; exact H4 z) (jF _) λ_ h=>(nomatch h)
 ·cases ok
end
def RawD (h:Heap) (d:Addr) (es:Array DictEntry) (ep:Nat):Prop:=∃ o,h.get? d=some o/\o.cls = .type "dict" /\ o.data = .dict es ep
theorem RawD.typ {s:Shared}{d:Addr}{es:Array DictEntry}{ep:Nat}(x:RawD s.heap d es ep):s.TypeIs (.ref d) "dict" := am (x) λo h g uu=>(af o h g)
theorem RawD.at (x:RawD h d es ep) (k:∀ o,h.get? d=some o->h'.get? d=some o):RawD h' d es ep:=ae (x) λo g r=>(af o (k o g) r)
section
variable {A:Around}{E:Value->Shared->Prop}{s:Shared}{d it:Addr}{es:Array DictEntry}{ep i:Nat}
theorem zl {Q:Value->Shared->Prop}(hd:(d==sysModules)=false) (hm:RawD s.heap d es ep)
  (hQ:Q (.ref s.heap.objs.size) {s with heap:=s.heap.push {cls:=.type "dict_keyiterator", data:=.fields #[.ref d,.int 0 0,.int es.size 0,.int ep 0] } }) :
  wpAny (model prog w) A (pyIter (.ref d)) Q E s:=by
 have h:=hm.typ
 refine am (hm) λo i j g=>?_
 clear hm
 refine wpAny_pyIter_slot h F.slot_dict_iter (wpAny_call_entry F.slot_dict_iter h F.entry_dict_iter ?_ (F.args_dict_iter_1 _))
 unfold Builtin.«dict.__iter__»
 refine wpAny_bind ?_
 unfold Builtin.Dict.dictSlotNone
 refine wpAny_bind (wpAny_notOrdered_dict h (wpAny_pure ?_))
 show wpAny _ _ (Builtin.Dict.showsAll d>>=_) _ _ s
 unfold Builtin.Dict.showsAll
 rw[if_neg (by rw[hd]; exact Bool.false_ne_true)]
 refine wpAny_bind (wpAny_pure (wpAny_bind (wpAny_dictEntries i g (wpAny_bind (wpAny_dictEpoch i g ?_)))))
 refine wpAny_bind (wpAny_newObj_type (wpAny_pure (af _ rfl (aU ("dict_keyiterator") _ (af _ (Heap.get?_push_size _ rfl) rfl) F.slot_dict_keyiterator_next.lookup ?_))))
 simpa [rawInt] using hQ
theorem qJ (hh:A.handled=none) (hit:s.heap.IsKeyIter it d i es.size ep) (hm:RawD s.heap d es ep)
  (hQ:∀ (hi:i<es.size) h',h'.IsKeyIter it d (i+1) es.size ep->Heap.SameBut it s.heap h'->Q (some es[i].key) {s with heap:=h' })
  (hE:es.size<=i->∀ h',Heap.ExtBut it s.heap h'->Q none {s with heap:=h' }):wpAny (model prog w) A (pyNext (.ref it)) Q E s:=by
 refine am (id hit) λo p r n=>?_
 refine am (hm) λt j q l=>?_
 clear hm
 unfold pyNext
 refine wpAny_bind (wpAny_attempt (wpAny_callSpecial?_slot (name:=Str.ofString "__next__") hit.typeIs F.slot_dict_keyiterator_next
  (wpAny_call_entry F.slot_dict_keyiterator_next hit.typeIs F.entry_dict_keyiterator_next ?_ (F.args_dict_keyiterator_next_1 _))))
 refine wpAny_bind (wpAny_pure (wpAny_bind (wpAny_bind ?_)))
 first | refine wpAny_bind (wpAny_typeNameOfWhole_keyiter hit.typeIs (wpAny_pure ?_)) | refine wpAny_bind (wpAny_typeNameOf_keyiter hit.typeIs (wpAny_pure ?_))
 refine wpAny_bind (wpAny_fieldsOf p n ?_)
 have h:Builtin.Dict_items.ownsTuple "dict_keyiterator" = false:=by decide
 rw[h,if_neg Bool.false_ne_true]
 show wpAny _ _ (if (Value.ref d==Value.none)=true then _ else _) _ _ s
 rw[if_neg (show ¬ ((Value.ref d==Value.none)=true) from Bool.false_ne_true)]
 refine wpAny_bind (wpAny_pure (wpAny_bind (wpAny_dictEntries j l ?_)))
 rw[if_neg (by simp)]
 refine wpAny_bind (wpAny_pure (wpAny_bind (wpAny_dictEpoch j l ?_)))
 rw[if_neg (by simp)]
 refine wpAny_pure ?_
 by_cases hi:i<es.size
 ·dsimp only
  rw[if_neg (show ¬ ((i:Int)<0) from by exact t7),Int.toNat_natCast,Array.getElem?_eq_getElem hi]
  dsimp only
  refine wpAny_bind ?_
  first | refine wpAny_bind (wpAny_typeNameOfWhole_keyiter hit.typeIs (wpAny_pure ?_)) | refine wpAny_bind (wpAny_typeNameOf_keyiter hit.typeIs (wpAny_pure ?_))
  refine wpAny_bind (wpAny_isOneOf_keyiter hit.typeIs ?_)
  show wpAny _ _ (setField (.ref it) 1 (rawInt ((i:Int)+1))>>=_) _ _ s
  refine wpAny_bind (wpAny_setField p n (by simp) ?_)
  have g:(s.heap.update it (Obj.mapFields (·.setIfInBounds 1 (rawInt ((i:Int)+1))))).IsKeyIter it d (i+1) es.size ep :=
   (aw _ (Heap.get?_update_self _ p (Obj.isFreed_of_fields (Obj.data_mapFields n _))) ((Obj.cls_mapFields ..).trans r) (by rw[Obj.data_mapFields n]; simp[rawInt]))
  refine wpAny_bind (wpAny_holding (wpAny_bind (wpAny_isOneOf_keyiter (s:={s with heap:=s.heap.update it (Obj.mapFields (·.setIfInBounds 1 (rawInt ((i:Int)+1)))) }) g.typeIs ?_)))
  show wpAny _ _ (pure es[i].key) _ _ _
  exact wpAny_pure (wpAny_pure (af _ rfl (wpAny_pure (hQ hi _ g (Heap.SameBut.update ..)))))
 ·have k:es.size<=i:=by exact mK hi
  dsimp only
  rw[if_neg (show ¬ ((i:Int)<0) from by exact t7),Int.toNat_natCast,Array.getElem?_eq_none k]
  dsimp only
  refine wpAny_bind ?_
  first | refine wpAny_bind (wpAny_typeNameOfWhole_keyiter hit.typeIs (wpAny_pure ?_)) | refine wpAny_bind (wpAny_typeNameOf_keyiter hit.typeIs (wpAny_pure ?_))
  show wpAny _ _ (setField (.ref it) 0 .none>>=_) _ _ s
  refine wpAny_bind (wpAny_setField p n (by simp) ?_)
  show wpAny _ _ (newExc (.type "StopIteration") []>>=_) _ _ _
  refine wpAny_bind ?_
  simp only[newExc,newTuple]
  refine wpAny_bind (wpAny_newObj_type ?_ (by size_fits))
  refine wpAny_bind (m:=firstArgMember _ _) (wpAny_of_eq (a:=Value.none) (by first | rfl | (simp only[firstArgMember]; rfl)) ?_)
  refine wpAny_newObj_type ?_ (by size_fits)
  simp only[raiseNew]
  refine wpAny_bind (wpAny_handled ?_)
  rw[show A.in1.handled=none from hh]
  refine wpAny_bind (wpAny_pure (wpAny_throw ?_))
  refine wpAny_bind (wpAny_isInstance (T:="StopIteration") (b:=true) (af _ (Heap.get?_push_size _ rfl) rfl) isSubtype_stop ?_)
  exact wpAny_pure (hE k _ (((Heap.SameBut.update ..).extBut.push _).push _))
end
theorem uT {A:Around}(hh:A.handled=none) (I d:Addr) (hne:d≠I) (es:Array DictEntry) (ep:Nat) :
  Walks prog w A I [I,d] [I] es.size (λi v=>∃ hi:i<es.size,v=es[i].key) (λi h=>h.IsKeyIter I d i es.size ep/\RawD h d es ep) where
 sub:=λb j=>by simp at j; simp[j]
 frame:=λuu uu uu g hk=>⟨g.1.at λo e=>hk I (by simp) o e,g.2.at λo e=>hk d (by simp) o e⟩
 item:=λi s Q E hi g m=>qJ hh g.1 g.2 (λn r l k=>m _ r s.toks ⟨n,rfl⟩ ⟨l,g.2.at λo e=>k.extBut d o hne e⟩ λb o j e=>k.extBut b o (λh=>j (by simp[h])) e) λp=>absurd hi (Nat.not_lt.mpr p)
 done:=λs Q E g m=>qJ hh g.1 g.2 (λhi=>absurd hi (Nat.lt_irrefl _)) λuu r q=>m r s.toks λb o j e=>q b o (λh=>j (by simp[h])) e
 self:=λuu uu uu uu g m=>wpAny_pyIter_keyiter g.1 m
section
variable {A:Around}{E:Value->Shared->Prop}{s:Shared}{d S:Addr}{es:Array DictEntry}{ep:Nat}
theorem wS (hT:s.TypeIs (.ref d) "dict") (h:Q false s):wpAny (model prog w) A (Builtin.List.listLengthHint (.ref d)) Q E s:=by
 unfold Builtin.List.listLengthHint
 refine wpAny_bind (wpAny_specialOf hT PySem.F.slot_dict_len.lookup ?_)
 generalize g:("dict.__len__" : String)=id0
 wp_delta
 rw[show splitId id0=some ("dict", "__len__") from by subst g; decide +kernel]
 subst g
 refine wpAny_bind (wpAny_isInstance (T:="dict") (b:=true) hT (by rw[isSubtype_type]; kernel_rfl) ?_)
 refine wpAny_ite_split (λq=>absurd q (by decide)) λuu=>wpAny_ite_split (λuu=>wpAny_bind (wpAny_typeOf hT (wpAny_pure h))) λq=>absurd (by decide +kernel) q
theorem tP {R:Result->Shared->Prop}(lo:(d==sysModules)=false) (hh:A.handled=none) (hm:RawD s.heap d es ep) (hn:es.size<=sizeLine) (hSd:S≠d) {co:Nat}(hS:s.heap.get? S=some {cls:=.type "list", data:=.seq #[] co })
  (hR:∀ h' tk acc' c',(∀ b o,b≠S->s.heap.get? b=some o->h'.get? b=some o)->h'.get? S=some {cls:=.type "list", dict:=none,data:=.seq acc' c',slots:=#[] }->ItemsOf (λi v=>∃ hi:i<es.size,v=es[i].key) acc' es.size->R (.ok (.ret .none)) {s with heap:=h',toks:=tk }) :
  wpAny (model prog w) A.in1 (Builtin.List.listExtendWith (.ref S) (.ref d) .none)
   (λfin s'=>match fin with | .done f=>R (.ok f) s' | .again c'=>c'.quiet=true/\codeAny (model prog w) A c' R s') (λe s'=>R (.error e) s') s:=by
 have z:S≠s.heap.objs.size:=ne_of_lt (lt_size hS)
 have y:d≠s.heap.objs.size:=ae (hm) λuu e uu=>ne_of_lt (lt_size e)
 have t:S∉[s.heap.objs.size,d]:=by simp only[mem_cons,not_mem_nil,or_false,not_or]; exact ⟨z,hSd⟩
 have W:=uT (A:=A.in1) hh s.heap.objs.size d y es ep
 have l:∀ (h:Heap) (k tk:Nat),(h.IsKeyIter s.heap.objs.size d 0 es.size ep/\RawD h d es ep)->(∀ b o,b≠S->s.heap.get? b=some o->h.get? b=some o) ->
   h.get? S=some {cls:=.type "list", data:=.seq #[] k }->codeAny (model prog w) A (.builtin "list.extend.loop" ⟨[.ref S,.ref s.heap.objs.size,.none],[]⟩) R {s with heap:=h,toks:=tk }:=λh k tk x hk g=>by
  refine codeAny_extend_loopS W.toS hn S t .none es.size 0 _ #[] k rfl (zero_le _) x g (ItemsOf.nil _) λs' acc' c' p hS' r=>?_
  rw[Moved.eq_with p]
  refine hR s'.heap s'.toks acc' c' (λb o m e=>p.heap b o (λhmem=>?_) (hk b o m e)) hS' r
  rcases mem_cons.mp hmem with e' | hmem
  ·exact m e'
  ·exact absurd (lt_size e) (by rw[mem_singleton.mp hmem]; exact Nat.lt_irrefl _)
 unfold Builtin.List.listExtendWith
 refine wpAny_bind (wpAny_typeOf (T:="dict") hm.typ ?_)
 have h1:Builtin.List.listSameRef (.ref S) (.ref d)=false:=by simp[Builtin.List.listSameRef,hSd]
 simp only[h1,show (Value.type "dict" == Value.type "list")=false by decide,show (Value.type "dict" == Value.type "tuple")=false by decide,Bool.or_false,false_eq_true,if_false]
 refine wpAny_bind (zl lo hm ?_)
 have g:=Heap.get?_push_of_some {cls:=.type "dict_keyiterator", data:=.fields #[.ref d,.int 0 0,.int es.size 0,.int ep 0] } hS
 have u:(s.heap.push {cls:=.type "dict_keyiterator", data:=.fields #[.ref d,.int 0 0,.int es.size 0,.int ep 0] }).IsKeyIter s.heap.objs.size d 0 es.size ep/\RawD (s.heap.push {cls:=.type "dict_keyiterator", data:=.fields #[.ref d,.int 0 0,.int es.size 0,.int ep 0] }) d es ep:=⟨(aw _ (Heap.get?_push_size _ rfl) rfl rfl),hm.at λo e=>Heap.get?_push_of_some _ e⟩
 refine wpAny_bind (wpAny_holding (wS u.2.typ ?_))
 refine wpAny_ite_split (λuu=>?_) (λuu=>wpAny_pure ⟨plainId_quiet PySem.F.plain_extend_loop _,l _ co _ u (λb o _ e=>Heap.get?_push_of_some _ e) g⟩)
 refine wpAny_bind (wpAny_rule (wpAny_bind ?_))
 show wpAny _ _ (updateSeq S (·.push .none)>>=λuu=>updateSeq S (·.pop)) _ _ _
 refine wpAny_bind (wpAny_updateSeq g rfl ?_)
 have j:=Heap.get?_update_self (Obj.mapSeq (·.push Value.none)) g rfl
 refine wpAny_updateSeq (hz:=by seq_fits) j rfl ?_
 have n:=Heap.get?_update_self (Obj.mapSeq (·.pop)) j rfl
 refine wpAny_pure ⟨plainId_quiet PySem.F.plain_extend_loop _,l _ _ _ ?_ (λb o m e=>?_) n⟩
 ·refine W.frame 0 _ _ u λb m o e=>?_
  have q:b≠S:=λh=>t (h▸m)
  exact (Heap.get?_update_other _ _ (Ne.symm q)).trans ((Heap.get?_update_other _ _ (Ne.symm q)).trans e)
 ·exact (Heap.get?_update_other _ _ (Ne.symm m)).trans ((Heap.get?_update_other _ _ (Ne.symm m)).trans (Heap.get?_push_of_some _ e))
theorem yf (lo:(d==sysModules)=false) (hh:A.handled=none) (hm:RawD s.heap d es ep) (hn:es.size<=sizeLine)
  (hQ:∀ h' tk acc' c',(∀ b o,s.heap.get? b=some o->h'.get? b=some o)->h'.get? s.heap.objs.size=some {cls:=.type "list", dict:=none,data:=.seq acc' c',slots:=#[] }->ItemsOf (λi v=>∃ hi:i<es.size,v=es[i].key) acc' es.size->Q (.ref s.heap.objs.size) {s with heap:=h',toks:=tk }) :
  wpAny (model prog w) A (call (.type "list") [.ref d]) Q E s:=by
 refine callType_codes (Q₁:=λl g=>l = .ref s.heap.objs.size/\g = {s with heap:=s.heap.push {cls:=.type "list", data:=.seq #[] } }) PySem.F.called_list (PySem.F.typeCall_list_1 _) PySem.F.entry_list_init
  (code_list_new _ ⟨rfl,rfl⟩) λl g h=>?_
 refine aa (h) λr q=>?_
 clear h
 subst r
 subst q
 have p:(s.heap.push {cls:=.type "list", data:=.seq #[] }).get? s.heap.objs.size=some {cls:=.type "list", data:=.seq #[] }:=Heap.get?_push_size _ rfl
 have m:s.heap.objs.size≠d:=ae (hm) λuu e uu=>ne_of_gt (lt_size e)
 refine ⟨(af _ p rfl),PySem.F.args_list_init_2 _ _,?_⟩
 show wpAny _ _ (do let old <- Builtin.List.listItems (.ref s.heap.objs.size); Builtin.List.listUpdate (.ref s.heap.objs.size) (λuu=>#[]); letGo old.toList.reverse; Builtin.List.listExtendWith (.ref s.heap.objs.size) (.ref d) .none) _ _ _
 refine wpAny_bind ?_
 unfold Builtin.List.listItems
 refine wpAny_bind (wpAny_seqItems p rfl (wpAny_pure ?_))
 show wpAny _ _ (updateSeq s.heap.objs.size (λuu=>#[])>>=λuu=>letGo (#[]:Array Value).toList.reverse>>=λuu=>Builtin.List.listExtendWith (.ref s.heap.objs.size) (.ref d) .none) _ _ _
 refine wpAny_bind (wpAny_updateSeq p rfl ?_)
 have j:=Heap.get?_update_self (Obj.mapSeq (λuu=>(#[]:Array Value))) p rfl
 have k:∀ b o,b≠s.heap.objs.size->s.heap.get? b=some o->((s.heap.push {cls:=.type "list", data:=.seq #[] }).update s.heap.objs.size (Obj.mapSeq (λuu=>(#[]:Array Value)))).get? b=some o :=
  λb o u e=>(Heap.get?_update_other _ _ (Ne.symm u)).trans (Heap.get?_push_of_some _ e)
 refine wpAny_bind (wpAny_letGo ?_)
 refine tP (A:=A.in1) (S:=s.heap.objs.size) (s:={s with heap:=(s.heap.push {cls:=.type "list", data:=.seq #[] }).update s.heap.objs.size (Obj.mapSeq (λuu=>(#[]:Array Value))) }) lo hh (hm.at λo e=>k d o m.symm e) hn m j λh' tk acc' c' hk t n=>?_
 exact ⟨rfl,hQ h' tk acc' c' (λb o e=>hk b o (ne_of_lt (lt_size e)) (k b o (ne_of_lt (lt_size e)) e)) t n⟩
end
section
variable {A:Around}{E:Value->Shared->Prop}
theorem yQ {rd:Value->List Int}{vs:List Value}{ks:List (List Int)}(hl:vs.length=ks.length) (hkey:∀ (i:Nat) (v:Value) (k:List Int),vs[i]? = some v->ks[i]? = some k->rd v=k):(vs.zip vs).map (λp=>(rd p.1,p.2))=ks.zip vs:=by
 apply List.ext_getElem?
 intro i
 rw[List.getElem?_map]
 by_cases hi:i<ks.length
 ·have h:ks[i]? = some ks[i]:=List.getElem?_eq_getElem hi
  have g:vs[i]? = some vs[i]:=List.getElem?_eq_getElem (pC hl hi)
  rw[jb g g,jb h g]
  simp only[map_some]
  rw[hkey i _ _ g h]
 ·rw[List.getElem?_eq_none (by rw[length_zip]; exact GS hl hi),List.getElem?_eq_none (by rw[length_zip]; exact zr hi)]
  rfl
theorem qb {s0 s:Shared}{D:Addr}{vs:List Value}{ks:List (List Int)}{e1:Nat}{st:SortSt}{rd:Value->List Int}{P:PySem.Fin->Shared->Prop}(k0:Kp s0 s) (hD:s.heap.get? D=some (seqObj "list" #[] e1)) (f2:s0.heap.get? D=none)
  (hl:vs.length=ks.length) (h64:vs.length<64) (hkey:∀ (i:Nat) (v:Value) (k:List Int),vs[i]? = some v->ks[i]? = some k->rd v=k)
  (hp:(arrOf st).Perm (vs.toArray.zip vs.toArray)) (hu:(arrOf st).toList.Pairwise λx y=>ltL (rd y.1) (rd x.1)=false) (hf:failedOf st=none)
  (h:∀ s' out c,Kp s0 s'->s'.heap.get? D=some (seqObj "list" out c)->(∃ ps:List (List Int×Value),ps.Perm (ks.zip vs)/\out.toList=ps.map (·.2)/\ps.Pairwise λx y=>ltL y.1 x.1=false)->P (.done (.ret .none)) s') :
  wpAny (model prog w) A (do
   let sorted:=(arrOf st).map (·.2)
   let touched:=(<- seqEpoch D) != e1
   Builtin.List.listUpdate (.ref D) λuu=>sorted
   if let some e:=failedOf st then rule "list.sort.comparison-raised"; throw e
   if touched then rule "list.sort.modified"; raiseError "ValueError" "list modified during sort"
   ret .none) P E s:=by
 have n:=Heap.SameBut.update s.heap D (Obj.mapSeq λuu=>(arrOf st).map (·.2))
 obtain ⟨m,l⟩:∃ m,(s.heap.update D (Obj.mapSeq λuu=>(arrOf st).map (·.2))).get? D=some (seqObj "list" ((arrOf st).map (·.2)) m):=⟨_,get?_update_seq hD λuu=>(arrOf st).map (·.2)⟩
 have g:(arrOf st).size=vs.length:=by rw[hp.size_eq,size_zip]; simp
 have o:=Kp.wr k0 hD f2 n
 dsimp only
 refine wpAny_bind (seqEpoch_at hD rfl ?_)
 refine wpAny_bind (listUpdate_at hD rfl ?_ (zero_le _) (by rw[Array.size_map,g,sizeLine_eq]; exact Ig h64))
 rw[hf]
 simp only[bne_self_eq_false,false_eq_true,if_false]
 refine wpAny_pure (h _ _ m o l (aw ((arrOf st).toList.map λp=>(rd p.1,p.2)) ?_ ?_ ?_))
 ·have j:(arrOf st).toList.Perm (vs.zip vs):=by
   have:=Array.perm_iff_toList_perm.mp hp
   rwa [dF] at this
  exact (j.map _).trans (List.Perm.of_eq (yQ hl hkey))
 ·rw[Array.toList_map,map_map]; rfl
 ·rw[pairwise_map]; exact hu
structure Keys (κ:SortKind) (Kd:Heap->Value->List Int->Prop) (ne:Prop):Prop where
 fn:∀ {h:Heap}{v:Value}{k k':List Int},Kd h v k->Kd h v k'->k=k'
 kind:∀ {A:Around}{E:Value->Shared->Prop}{s:Shared}{ks:List (List Int)}{vs:List Value}{Q:SortKind->Shared->Prop},vs.length=ks.length->1<=vs.length->(ne->[]∉ks)->(∀ (i:Nat) (v:Value) (k:List Int),vs[i]? = some v->ks[i]? = some k->Kd s.heap v k)->Q κ s->wpAny (model prog w) A (keyKind' vs.toArray) Q E s
 lt:∀ {A:Around}{E:Value->Shared->Prop}{s:Shared}{x y:Value}{k k':List Int}{Q:Bool->Shared->Prop},A.units<cLine->Kd s.heap x k->Kd s.heap y k'->Q (ltL k k') s->wpAny (model prog w) A (keyLt' κ x y) Q E s
section
variable {κ:SortKind}{Kd:Heap->Value->List Int->Prop}{ne:Prop}
open Classical in
noncomputable def eS (Kd:Heap->Value->List Int->Prop) (h:Heap) (v:Value):List Int:=if q:∃ k,Kd h v k then q.choose else []
theorem Keys.read (K:Keys κ Kd ne) (x:Kd h v k):eS Kd h v=k:=by
 unfold eS
 have q:∃ k,Kd h v k:=⟨k,x⟩
 rw[dif_pos q]
 exact K.fn q.choose_spec x
theorem Keys.ltOk (K:Keys κ Kd ne) (hu:A.units<cLine) (ks:List (List Int)):iJ (model prog w) A E s (λp=>rkL ks (eS Kd s.heap p.1)) (λp=>∃ k∈ks,Kd s.heap p.1 k) κ:=by
 intro x y q Q l j hk h
 revert l; intro i
 refine ae (i) λk o l=>?_
 clear i
 revert j; intro g
 refine ae (g) λn m j=>?_
 clear g
 have e:(some (decide ((λp:Keyed=>rkL ks (eS Kd s.heap p.1)) x<(λp:Keyed=>rkL ks (eS Kd s.heap p.1)) y)))=some (ltL k n):=by
  rw[mD o m,<- K.read l,<- K.read j]
 rw[e] at h
 rw[lt'_eq]
 refine wpS_bind (wpS_get ?_)
 rw[hk]
 refine wpS_bind (wpS_lift (wpAny_attempt (K.lt hu l j ⟨rfl,?_⟩)))
 exact wpS_pure h
set_option maxHeartbeats 4000000 in
theorem nO (K:Keys κ Kd ne) {s0 s:Shared}{D:Addr}{vs:List Value}{ks:List (List Int)}{n:Nat}{P:PySem.Fin->Shared->Prop}(hun:A.units<cLine) (ho:s.heap.get? D=some (seqObj "list" vs.toArray n)) (f2:s0.heap.get? D=none) (k0:Kp s0 s)
  (hl:vs.length=ks.length) (h64:vs.length<64) (hne:ks.length<2\/(ne->[]∉ks)) (hkey:∀ H,KG (λb=>b≠D) s.heap H->∀ (i:Nat) (v:Value) (k:List Int),vs[i]? = some v->ks[i]? = some k->Kd H v k)
  (h:∀ s' out c,Kp s0 s'->s'.heap.get? D=some (seqObj "list" out c)->(∃ ps:List (List Int×Value),ps.Perm (ks.zip vs)/\out.toList=ps.map (·.2)/\ps.Pairwise λx y=>ltL y.1 x.1=false)->P (.done (.ret .none)) s') :
  wpAny (model prog w) A (Builtin.«list.sort» ⟨[.ref D],[]⟩) P E s:=by
 rw[list_sort_plain]
 have s1:=Heap.SameBut.update s.heap D (Obj.mapSeq λuu=>(#[]:Array Value))
 obtain ⟨e1,ho1⟩:∃ e1,(s.heap.update D (Obj.mapSeq λuu=>(#[]:Array Value))).get? D=some (seqObj "list" #[] e1):=⟨_,get?_update_seq ho λuu=>#[]⟩
 have k1:=Kp.wr k0 ho f2 s1
 refine wpAny_bind (listItems_at ho rfl ?_)
 refine wpAny_bind (listUpdate_at ho rfl ?_ (by rw[size_toArray,sizeLine_eq]; exact AM h64) (zero_le _))
 refine wpAny_bind (seqEpoch_at ho1 rfl ?_)
 refine wpAny_bind (wpAny_newTuple ?_ (by show vs.length<=_; rw[sizeLine_eq]; exact AM h64))
 refine wpAny_bind (wpAny_newList ?_ (zero_le _))
 refine wpAny_holding ?_
 have k3:Kp s0 {s with heap:=((s.heap.update D (Obj.mapSeq λuu=>(#[]:Array Value))).push (seqObj "tuple" vs.toArray 0)).push (seqObj "list" #[] 0) }:=(k1.trans (.push _ _ s.toks)).trans (.push _ _ s.toks)
 have r:(((s.heap.update D (Obj.mapSeq λuu=>(#[]:Array Value))).push (seqObj "tuple" vs.toArray 0)).push (seqObj "list" #[] 0)).get? D=some (seqObj "list" #[] e1):=Heap.get?_push_of_some _ (Heap.get?_push_of_some _ ho1)
 have kg:KG (λb=>b≠D) s.heap (((s.heap.update D (Obj.mapSeq λuu=>(#[]:Array Value))).push (seqObj "tuple" vs.toArray 0)).push (seqObj "list" #[] 0)) :=
  (KG.same s1 (λq=>q rfl) λo q=>by rw[ho] at q; (have oc:=Option.some.inj q; clear q; subst oc); exact Stay.not_list).trans (.of λb o _ e=>Heap.get?_push_of_some _ (Heap.get?_push_of_some _ e))
 generalize ((s.heap.update D (Obj.mapSeq λuu=>(#[]:Array Value))).push (seqObj "tuple" vs.toArray 0)).push (seqObj "list" #[] 0)=H at k3 r kg
 have g:=hkey H kg
 have hrd:∀ (i:Nat) (v:Value) (k:List Int),vs[i]? = some v->ks[i]? = some k->eS Kd H v=k:=λi v k a b=>K.read (g i v k a b)
 show wpAny (model prog w) A _ P E {s with heap:=H }
 by_cases h2:vs.toArray.size<2
 ·rw[if_pos h2,if_pos h2]
  refine wpAny_bind (wpAny_pure ?_)
  dsimp only
  rw[StateT.run_pure]
  refine wpAny_bind (wpAny_pure ?_)
  dsimp only
  refine qb (s:={s with heap:=H }) (st:=SortSt.mk' general' (vs.toArray.zip vs.toArray) #[] 7 none) k3 r f2 hl h64 hrd (Array.Perm.refl _) ?_ rfl h
  have hz:(vs.toArray.zip vs.toArray).toList.length<=1:=by
   rw[dF,length_zip]; rw[size_toArray] at h2; simp; exact Gs h2
  show ((vs.toArray.zip vs.toArray).toList).Pairwise _
  exact qL hz
 ·rw[if_neg h2,if_neg h2]
  rw[size_toArray] at h2
  refine wpAny_bind (K.kind (s:={s with heap:=H }) (ks:=ks) hl (HV h2) (hne.resolve_left (EH hl h2)) g ?_)
  have z:(vs.toArray.zip vs.toArray).size=vs.length:=by rw[size_zip]; simp
  have u:∀ p∈vs.zip vs,∃ k∈ks,Kd H p.1 k:=λp t=>by
   refine ai (List.getElem?_of_mem t) λi hi=>?_
   refine aa (List.getElem?_zip_eq_some.mp hi) λq1 q2=>?_
   have hil:i<ks.length:=by rw[<- hl]; exact (List.getElem?_eq_some_iff.mp q1).1
   exact (af (ks[i]) (List.getElem_mem hil) (g i _ _ q1 (List.getElem?_eq_getElem hil)))
  refine wpAny_bind (wpAny_mono (ms (K.ltOk (E:=E) (s:={s with heap:=H }) hun ks) (st:=SortSt.mk' κ (vs.toArray.zip vs.toArray) #[] 7 none)
   (Q:=λuu j=>(arrOf j).Perm (vs.toArray.zip vs.toArray)/\failedOf j=none/\Up (λp=>rkL ks (eS Kd H p.1)) (arrOf j).toList) ⟨λp t=>?_,rfl⟩ (by show 2<=(vs.toArray.zip vs.toArray).size; rw[z]; exact zO h2) (by show (vs.toArray.zip vs.toArray).size<64; rw[z]; exact h64) rfl rfl λj a1 a2 a3=>⟨a1,a3,a2⟩) ?_ λuu uu e=>e)
  ·have l:p∈(vs.toArray.zip vs.toArray).toList:=Array.mem_def.mp t
   rw[dF] at l
   exact u p l
  ·rintro ⟨⟨⟩,j⟩ s'' ⟨rfl,t,hf,hu⟩
   dsimp only
   refine qb (s:={s with heap:=H }) k3 r f2 hl h64 hrd t ?_ hf h
   have hm:∀ p∈(arrOf j).toList,∃ k∈ks,Kd H p.1 k:=λp l=>by
    have:=(Array.perm_iff_toList_perm.mp t).mem_iff.mp l
    rw[dF] at this
    exact u p this
   refine List.Pairwise.imp_of_mem (λ{a b} ha hb hab=>?_) hu
   refine ae (hm a ha) λk hk x=>?_
   refine ae (hm b hb) λk' hk' y=>?_
   have m:rkL ks (eS Kd H a.1)<=rkL ks (eS Kd H b.1):=hab
   rw[K.read x,K.read y] at m ⊢
   rw[mD hk' hk]
   exact decide_eq_false (zA m)
end
theorem y7:Keys (tuples' true) KeyOf True where
 fn:=KeyOf.fn
 kind hl h1 hne hk h:=pj hl h1 (λi v k a b=>⟨hk i v k a b,λq=>hne trivial (q▸mem_of_getElem? b)⟩) h
 lt _ hx hy h:=pk true hx hy h
theorem RA.ofSub {h:Heap}{G:Addr->Prop}:∀ {vs:List Value}{ds:List PyData},vs.length=ds.length->(∀ (i:Nat) (v:Value) (d:PyData),vs[i]? = some v->ds[i]? = some d->∃ bs,R h v d bs/\∀ b∈bs,G b)->∃ cs,RA h vs ds cs/\∀ b∈cs,G b
 | [],[],_,_=>(af ([]) .nil (λuu q=>nomatch q))
 | v::vs,d::ds,hl,hr=>by
  refine ae (hr 0 v d rfl rfl) λbs r k=>?_
  refine ae (RA.ofSub (vs:=vs) (ds:=ds) (by simpa using hl) λi u e m l=>hr (i+1) u e m l) λcs g j=>?_
  exact (af _ (.cons r g) (λb q=>(mem_append.mp q).elim (k b) (j b)))
 | [],_::_,hl,_=>by cases hl
 | _::_,[],hl,_=>by cases hl
theorem RA.eachSub (r:RA h vs ds as):∀ (i:Nat) (v:Value) (d:PyData),vs[i]? = some v->ds[i]? = some d->∃ bs,R h v d bs/\∀ b∈bs,b∈as :=
 RA.ind (N:=λvs ds as=>∀ (i:Nat) (v:Value) (d:PyData),vs[i]? = some v->ds[i]? = some d->∃ bs,R h v d bs/\∀ b∈bs,b∈as) (λi v d g uu=>by simp at g) (λ{v vs d ds as bs} r o l i u e g j=>by
  cases i with
  | zero=>exact (af as (Option.some.inj g▸Option.some.inj j▸r) (λb q=>mem_append_left _ q))
  | succ i=>
   refine ae (l i u e g j) λn k m=>?_
   exact (af n k (λb q=>mem_append_right _ (m b q)))) r
theorem RA.ofEach:∀ {vs:List Value}{ds:List PyData},vs.length=ds.length->(∀ (i:Nat) (v:Value) (d:PyData),vs[i]? = some v->ds[i]? = some d->R h v d [])->RA h vs ds []
 | [],[],_,_=>.nil
 | v::vs,d::ds,hl,hr=>RA.cons (as:=[]) (bs:=[]) (hr 0 v d rfl rfl) (RA.ofEach (by simpa using hl) λi u e j g=>hr (i+1) u e j g)
 | [],_::_,hl,_=>by cases hl
 | _::_,[],hl,_=>by cases hl
theorem BX (k:List Int):dX (aK k)=some k:=by
 show aJ (k.map PyData.int)=some k
 induction k with
 | nil=>rfl
 | cons a k ih=>simp only[map_cons,aJ,ih,map_some]
theorem lQ (h:dX x=some k):x=aK k:=by
 cases x with
 | tuple g=>
  have l:∀ {g:List PyData}{k:List Int},aJ g=some k->g=k.map .int:=λ{g}=>by
   induction g with
   | nil=>intro k h; (have m:=Option.some.inj h; clear h; subst m); rfl
   | cons y g ih=>
    intro k h
    cases y with
    | int i=>
     simp only[aJ,map_eq_some_iff] at h
     refine ae (h) λo n j=>?_
     clear h
     subst j
     rw[ih n]; rfl
    | _=>exact nN h
  show PyData.tuple g = .tuple (k.map .int)
  rw[l h]
 | _=>exact nN h
theorem mR:∀ {xs:List PyData}{ks:List (List Int)},dY xs=some ks->xs=ks.map aK
 | [],ks,h=>by (have i:=Option.some.inj h; clear h; subst i); rfl
 | x::xs,ks,h=>by
  simp only[dY] at h
  refine bk h λk hk h=>?_
  refine bl h λj l g=>?_
  (clear h; subst g)
  rw[map_cons,<- mR l,lQ hk]
theorem Do (h:k.length<=2^22):sz (aK k)=true:=sz_tuple.mpr ⟨by rw[length_map]; exact h,jF k⟩
theorem uX (hh:A.handled=none) (ra:RV s.heap va (.dicT ks) as) (hk:ks.length<=lim) (hQ:∀ v s',EP P s (.d (.list (ks.map aK)),fresh (ks.map aK)) v s'->Q v s'):wpAny (model prog w) A (call (bval (b1n .list)) [va]) Q Er s:=by
 refine lh (ra) λa xs K8 _ lo l z hks htu=>?_
 clear ra
 subst K8
 refine cW (l) λo es ep e t hd he _ _=>?_
 clear l
 subst z
 have u:RawD s.heap a es ep:=(aw o e t.1 hd)
 have p:es.size=xs.length:=size_of_entries he
 rw[length_map] at hk
 unfold lim at hk
 refine yf lo hh u (by rw[p,sizeLine_eq]; exact HJ hk) λh' tk r c' q hS g=>hQ _ _ ?_
 refine EP.aList (vs:=r.toList) (n:=c') (as:=[]) (aC h' tk rfl (.of q)) (Heap.get?_none_of_le (le_refl _)) (by simpa using hS) (RA.ofEach ?_ λi v d hi j=>?_) (by rw[length_map,length_map]; exact Ap hk) (λx t=>?_) λuu h=>nomatch h
 ·rw[length_toList,length_map,length_map,g.1,p]
 ·obtain ⟨hi',rfl⟩:=g.2 i v (by rw[<- Array.getElem?_toList]; exact hi)
  have ee:=entry_at he i
  rw[Array.getElem?_eq_getElem hi'] at ee
  refine bl ee.symm λx m hxe=>?_
  have ek:es[i].key = .ref x.2.1:=by rw[<- hxe]; rfl
  rw[List.getElem?_map,List.getElem?_map,m] at j
  (have oc:=Option.some.inj j; clear j; subst oc)
  rw[ek]
  exact (htu x (mem_of_getElem? m)).keep q
 ·refine bG t λk hk' y=>?_
  (clear t; subst y)
  exact Do (hks k hk')
theorem mj (K:Keys κ Kd ne) (hkd:∀ {h:Heap}{v:Value}{k:List Int}{bs:List Addr},R h v (g k) bs->Kd h v k) (hu:A.units+200<cLine) (ra:R s.heap va (.list (ks.map g)) as) (ha:∀ b∈as,P b) (hz:sz (.list (ks.map g))=true) (h64:ks.length<64) (hne:ks.length<2\/(ne->[]∉ks)) (hQ:∀ v s',EP P s (.d (.list ((aA ks).map g)),fresh ((aA ks).map g)) v s'->Q v s') :
  wpAny (model prog w) A (call (.builtin "sorted") [va]) Q Er s:=by
 refine ra.isList_k λa vs n cs Ld ea z K6=>?_
 (clear ra; subst Ld)
 subst K6
 have hl:vs.length=ks.length:=by have:=z.length; rw[length_map] at this; exact DI this
 have y:∀ (i:Nat) (v:Value) (k:List Int),vs[i]? = some v->ks[i]? = some k->∃ bs,R s.heap v (g k) bs/\∀ b∈bs,b∈cs:=λi v k p t=>z.eachSub i v (g k) p (by rw[List.getElem?_map,t]; rfl)
 have old:∀ b∈cs,∃ o,s.heap.get? b=some o:=λb u=>bj (z.there b u) λuu uu e=>⟨_,e⟩
 refine Calls.call_function_entry kind_sorted plain_sorted entry_sorted (args_sorted1 _) ?_
 unfold Builtin.«sorted»
 refine wpAny_bind (m:=checkCount "sorted" 1 1 _) (wpAny_pure ?_)
 refine wpAny_bind (collect_list (isL ea) ?_ (by rw[sizeLine_eq]; exact AR h64 hl))
 refine wpAny_bind (wpAny_newList ?_ (by rw[sizeLine_eq]; exact AR h64 hl))
 have hsz:((s.heap.push (seqObj "list" #[] 0)).update s.heap.objs.size (Obj.mapSeq (· ++ vs.toArray))).objs.size=s.heap.objs.size+1:=by
  rw[Heap.size_update,size_push']
 have hoL:(((s.heap.push (seqObj "list" #[] 0)).update s.heap.objs.size (Obj.mapSeq (· ++ vs.toArray))).push (seqObj "list" vs.toArray 0)).get? (s.heap.objs.size+1)=some (seqObj "list" vs.toArray 0):=by
  rw[<- hsz]; exact Heap.get?_push_size _ rfl
 have keep:∀ b o,s.heap.get? b=some o->(((s.heap.push (seqObj "list" #[] 0)).update s.heap.objs.size (Obj.mapSeq (· ++ vs.toArray))).push (seqObj "list" vs.toArray 0)).get? b=some o:=λb o q=>by
  have hlt:b<s.heap.objs.size:=lt_size q
  rw[Heap.get?_push_ne _ _ _ (by rw[hsz]; exact ne_of_lt (lt_succ_of_lt hlt)),Heap.get?_update_ne _ _ _ _ (ne_of_lt hlt),Heap.get?_push_ne _ _ _ (ne_of_lt hlt)]
  exact q
 have l:s.heap.get? (s.heap.objs.size+1)=none:=Heap.get?_none_of_le (le_succ _)
 show wpAny _ _ _ _ _ {s with heap:=((s.heap.push (seqObj "list" #[] 0)).update s.heap.objs.size (Obj.mapSeq (· ++ vs.toArray))).push (seqObj "list" vs.toArray 0) }
 rw[hsz]
 refine wpAny_bind (wpAny_holding (wpAny_call_entry slot_list_sort (af _ hoL rfl) entry_list_sort ?body (args_list_sort _)))
 case body=>
  refine nO K (s0:=s) (s:={s with heap:=((s.heap.push (seqObj "list" #[] 0)).update s.heap.objs.size (Obj.mapSeq (· ++ vs.toArray))).push (seqObj "list" vs.toArray 0) }) (by show A.units+1+1<cLine; exact EZ hu) hoL l (.of keep) hl (z2 h64 hl) hne (λH kg i v k p t=>?_) λs' out c kp hD hps=>(af _ rfl (wpAny_pure (af _ rfl ?_)))
  ·refine ae (y i v k p t) λbs r u=>?_
   refine hkd ((r.keep keep).onG kg λb q e=>?_)
   refine ai (old b (u b q)) λo eo=>?_
   rw[e,l] at eo; exact nN eo
  refine am (hps) λps p1 p2 p3=>?_
  clear hps
  have q1:(ps.map (·.1)).Perm ks:=by
   have:=p1.map (·.1)
   rwa [List.map_fst_zip (zq hl)] at this
  have q2:ps.map (·.1)=aA ks:=gU (r:=λa b=>ltL b a=false) (λa b p t=>eB t p) (q1.trans (mergeSort_perm ks _).symm) (pairwise_map.mpr p3) (hH ks)
  have hlen:ps.length=ks.length:=by rw[<- q1.length_eq,length_map]
  obtain ⟨cs',rs,hcs⟩:=RA.ofSub (h:=s'.heap) (G:=λb=>b∈cs) (vs:=out.toList) (ds:=(aA ks).map g) (by rw[p2,length_map,length_map,<- q2,length_map]) λi v d p t=>by
   rw[<- q2,map_map,List.getElem?_map] at t
   rw[p2,List.getElem?_map] at p
   cases hp:ps[i]? with
   | none=>rw[hp] at p; exact nN p
   | some q=>
    rw[hp] at p t
    (have oc:=Option.some.inj p; clear p; subst oc); (have oc:=Option.some.inj t; clear t; subst oc)
    refine ai (List.getElem?_of_mem (p1.mem_iff.mp (mem_of_getElem? hp))) λj hj=>?_
    refine aa (List.getElem?_zip_eq_some.mp hj) λj1 j2=>?_
    refine ae (y j _ _ j2 j1) λbs r u=>?_
    exact (af bs (r.k kp.k) u)
  refine hQ _ _ (EP.aList (vs:=out.toList) (n:=c) (as:=cs') kp l (by simpa [seqObj] using hD) rs ?_ (λx hx=>?_) λb u=>⟨ha b (.tail _ (hcs b u)),λe=>?_⟩)
  ·rw[length_map,<- q2,length_map,hlen]; exact zK h64
  ·refine bG hx λk hk' K3=>?_
   (clear hx; subst K3)
   refine (sz_list.mp hz).2 _ (mem_map.mpr (af k ?_ rfl))
   exact (mergeSort_perm ks _).mem_iff.mp hk'
  ·refine ai (old b (hcs b u)) λo eo=>?_
   rw[e,l] at eo; exact nN eo
theorem uM (hu:A.units+200<cLine) (ra:R s.heap va (.list xs) as) (ha:∀ b∈as,P b) (hz:sz (.list xs)=true) (hk:dY xs=some ks) (h64:xs.length<64) (hne:ks.length<2\/[]∉ks) (hQ:∀ v s',EP P s (.d (.list ((aA ks).map aK)),fresh ((aA ks).map aK)) v s'->Q v s') :
  wpAny (model prog w) A (call (.builtin "sorted") [va]) Q Er s:=by
 cases mR hk
 rw[length_map] at h64
 exact mj y7 (λr=>KeyOf.ofR r) hu ra ha hz h64 (hne.imp id λh _=>h) hQ
end
section
end
section
open AutoSeq1 (wpAny_loadPart')
open MeetsSeq MeetsSeq2 MeetsSeq3
theorem ww (h:IntsAre vs ns):∀ {i:Nat}{v:Value},vs[i]? = some v->∃ x t,v = .int x t/\ns[i]? = some x:=by
 induction h with
 | nil=>intro i v q; simp at q
 | cons x t _ ih=>
  intro i v q
  cases i with
  | zero=>simp only[List.getElem?_cons_zero,Option.some.injEq] at q; exact ⟨x,t,q.symm,rfl⟩
  | succ i=>exact ih (by simpa using q)
theorem vq (l b:Addr) (vs us:List Value) (n m:Nat) (ks js:List Int) (ia:IntsAre vs ks) (ib:IntsAre us js) (k:Nat) :
  ∀ i:Nat,vs.length-i=k->i<=vs.length->i<=us.length->Meets (Builtin.«list.__eq__.loop» ⟨[.ref l,.ref b,rawInt i,rawInt 0],[]⟩)
   (λA R s=>s.heap.get? l=some ⟨.type "list", none,.seq vs.toArray n,#[]⟩/\s.heap.get? b=some ⟨.type "list", none,.seq us.toArray m,#[]⟩/\R (.ok (.ret (.bool (ltL (ks.drop i) (js.drop i))))) s):=by
 have l1:=ia.length
 have l2:=ib.length
 induction k with
 | zero=>
  intro i hk h1 h2 prog w A R s h
  obtain ⟨hp,g,d,tk,os⟩:=s; obtain ⟨p,v,h⟩:=h
  wp_walk using wpAny_loadPart' p,wpAny_loadPart' v
  have o:vs.toArray[((i:Nat):Int).toNat]? = none:=by simp; omega
  rw[o]
  wp_walk using wpAny_loadPart' p,wpAny_loadPart' v
  show R (.ok (.ret (.bool (decide (vs.toArray.size<us.toArray.size))))) _
  have e:ltL (ks.drop i) (js.drop i)=decide (vs.toArray.size<us.toArray.size):=by
   rw[size_toArray,size_toArray,List.drop_eq_nil_of_le (as:=ks) (by lia)]
   cases q:js.drop i with
   | nil=>
    have:=congrArg List.length q
    rw[length_drop,List.length_nil] at this
    exact (decide_eq_false (by lia)).symm
   | cons y r=>
    have:=congrArg List.length q
    rw[length_drop,length_cons] at this
    exact (decide_eq_true (by lia)).symm
  rwa [e] at h
 | succ k ih=>
  intro i hk h1 h2 prog w A R s h
  obtain ⟨hp,g,d,tk,os⟩:=s; obtain ⟨p,v,h⟩:=h
  wp_walk using wpAny_loadPart' p,wpAny_loadPart' v
  have z:i<vs.length:=by omega
  have o:vs.toArray[((i:Nat):Int).toNat]? = some vs[i]:=by simp[z]
  refine au (ww ia (List.getElem?_eq_getElem z)) λx t ex kx=>?_
  have dk:ks.drop i=x::ks.drop (i+1):=by
   refine ai (List.getElem?_eq_some_iff.mp kx) λhi e=>?_
   rw[List.drop_eq_getElem_cons hi,e]
  rw[o]
  by_cases hlt2:i<us.length
  ·have j:us.toArray[((i:Nat):Int).toNat]? = some us[i]:=by simp[hlt2]
   refine au (ww ib (List.getElem?_eq_getElem hlt2)) λy u ey jy=>?_
   have dj:js.drop i=y::js.drop (i+1):=by
    refine ai (List.getElem?_eq_some_iff.mp jy) λhi e=>?_
    rw[List.drop_eq_getElem_cons hi,e]
   have hc:((i:Int)+1)=((i+1:Nat):Int):=by push_cast; rfl
   rw[j,ex,ey]
   rw[dk,dj] at h
   refine wpAny_bind (wpAny_eqBool_int ?_)
   by_cases e:x=y
   ·subst e
    rw[show (x==x)=true from beq_self_eq_true x]
    wp_walk
    rw[hc]
    exact ⟨plainId_quiet plain_eq_loop _,codeAny_builtin entry_eq_loop (by
     rw[Around.under_plainId plain_eq_loop _]
     exact ih (i+1) (by omega) (by omega) (by omega) prog w A R _ ⟨p,v,by simpa [ltL] using h⟩)⟩
   ·rw[show (x==y)=false from beq_eq_false_iff_ne.mpr e]
    wp_walk using wpAny_loadPart' p,wpAny_loadPart' v
    rw[o,j,ex,ey]
    have e2:ltL (x::ks.drop (i+1)) (y::js.drop (i+1))=decide (x<y):=by unfold ltL; rw[if_neg e]
    rw[e2] at h
    exact wpAny_bind (wpAny_lt_int (wpAny_pure h))
  ·have j:us.toArray[((i:Nat):Int).toNat]? = none:=by simp; omega
   rw[j]
   wp_walk using wpAny_loadPart' p,wpAny_loadPart' v
   show R (.ok (.ret (.bool (decide (vs.toArray.size<us.toArray.size))))) _
   have e:ltL (ks.drop i) (js.drop i)=decide (vs.toArray.size<us.toArray.size):=by
    rw[size_toArray,size_toArray,dk,List.drop_eq_nil_of_le (as:=js) (by lia)]
    exact (decide_eq_false (by lia)).symm
   rwa [e] at h
theorem wg (l b:Addr) (vs us:List Value) (n m:Nat) (ks js:List Int) (ia:IntsAre vs ks) (ib:IntsAre us js) :
  Meets (Builtin.«list.__lt__» ⟨[.ref l,.ref b],[]⟩)
   (λA R s=>s.heap.get? l=some ⟨.type "list", none,.seq vs.toArray n,#[]⟩/\s.heap.get? b=some ⟨.type "list", none,.seq us.toArray m,#[]⟩/\R (.ok (.ret (.bool (ltL ks js)))) s):=by
 intro prog w A R s h
 obtain ⟨p,g,d,k,o⟩:=s; obtain ⟨i,j,h⟩:=h
 have q:=AutoSeq1.sub_list_list
 wp_walk using wpAny_loadPart' i,wpAny_loadPart' j
 exact ⟨plainId_quiet plain_eq_loop _,codeAny_builtin entry_eq_loop (by
  rw[Around.under_plainId plain_eq_loop _]
  exact vq l b vs us n m ks js ia ib _ 0 rfl (zero_le _) (zero_le _) prog w A R _ ⟨i,j,by simpa using h⟩)⟩
end
noncomputable def RowOf (h:Heap) (v:Value) (k:List Int):Prop:=∃ a vs n,v = .ref a/\h.get? a=some ⟨.type "list", none,.seq vs.toArray n,#[]⟩/\IntsAre vs k
theorem RowOf.fn (a:RowOf h v k) (b:RowOf h v k'):k=k':=by
 refine aL (a) λx m n j e i=>?_
 clear a
 subst j
 refine aL (b) λuu g p q l o=>?_
 clear b
 cases q
 rw[e] at l
 have:m=g:=by cases l; rfl
 subst this
 exact IntsAre.fn i o
section
variable {A:Around}{E:Value->Shared->Prop}{s:Shared}
theorem wv (hu:A.units<cLine) (hx:RowOf s.heap x k) (hy:RowOf s.heap y k') (h:Q (ltL k k') s):wpAny (model prog w) A (oneLt' true x y) Q E s:=by
 refine aL (hx) λa l n i j q=>?_
 clear hx
 subst i
 refine aL (hy) λb o m g r p=>?_
 clear hy
 subst g
 rw[oneLt'_eq]
 simp only[if_true]
 refine wpAny_bind (wpAny_cRoomFor hu ?_)
 refine wpAny_bind (wpAny_callSpecialIfBound?_slot ⟨_,j,rfl⟩ F.slot_list_lt (call_meets F.slot_list_lt ⟨_,j,rfl⟩ F.entry_list_lt (F.args_list_lt_2 _ _) (wg a b l o n m k k' q p) ⟨j,r,?_⟩))
 exact wpAny_truthy_bool h
theorem ls:∀ {vs:List Value},(∀ v∈vs,∃ k,RowOf s.heap v k)->Q (vs.map λuu=>none) s->wpAny (model prog w) A (vs.mapM firstOfTuple') Q E s
 | [],_,h=>by rw[mapM_nil]; exact wpAny_pure h
 | v::vs,hk,h=>by
  refine mF (hk v (.head _)) λk a l n g j m=>?_
  subst g
  rw[mapM_cons]
  refine wpAny_bind ?_
  rw[rN]
  refine wpAny_bind (wpAny_typeOf (T:="list") ⟨_,j,rfl⟩ ?_)
  rw[if_pos (by decide)]
  exact wpAny_pure (wpAny_bind (ls (vs:=vs) (λv i=>hk v (.tail _ i)) (wpAny_pure h)))
theorem mu:∀ {vs:List Value},(∀ v∈vs,∃ k,RowOf s.heap v k)->Q (vs.map λuu=>.type "list") s->wpAny (model prog w) A (vs.mapM typeOf) Q E s
 | [],_,h=>by rw[mapM_nil]; exact wpAny_pure h
 | v::vs,hk,h=>by
  refine mF (hk v (.head _)) λk a j n g i l=>?_
  subst g
  rw[mapM_cons]
  exact wpAny_bind (wpAny_typeOf (T:="list") ⟨_,i,rfl⟩ (wpAny_bind (mu (vs:=vs) (λf h=>hk f (.tail _ h)) (wpAny_pure h))))
theorem uZ {vs:List Value}{Q:SortKind->Shared->Prop}(h1:1<=vs.length) (hk:∀ v∈vs,∃ k,RowOf s.heap v k) (h:Q oneType' s):wpAny (model prog w) A (keyKind' vs.toArray) Q E s:=by
 rw[keyKind'_eq,List.mapM_toArray,map_eq_pure_bind]
 refine wpAny_bind (wpAny_bind (ls hk (wpAny_pure ?_)))
 obtain ⟨g,j,rfl⟩:∃ g j,vs=g::j:=by
  cases vs with
  | nil=>simp at h1
  | cons g j=>exact ⟨g,j,rfl⟩
 rw[if_neg (by simp),if_neg (by simp)]
 rw[oneTypeOnly'_eq,List.mapM_toArray,map_eq_pure_bind]
 refine wpAny_bind (wpAny_bind (wpAny_bind (mu hk (wpAny_pure ?_))))
 have i:((List.map (λuu=>Value.type "list") (g::j)).toArray.all λx=>x==Value.type "list")=true:=by
  simp only[List.all_toArray,all_map,all_eq_true]
  intro _ _
  rfl
 have l:(List.map (λuu=>Value.type "list") (g::j)).toArray[0]? = some (Value.type "list"):=by simp
 rw[l]
 simp only[i,if_true]
 exact wpAny_pure (wpAny_pure h)
theorem ze:Keys oneType' RowOf False where
 fn:=RowOf.fn
 kind hl h1 _ hk h:=uZ h1 (λv k=>by
  refine ai (List.getElem?_of_mem k) λi j=>?_
  have g:=(List.getElem?_eq_some_iff.mp j).1
  rw[hl] at g
  exact ⟨_,hk i v _ j (List.getElem?_eq_getElem g)⟩) h
 lt hu hx hy h:=wv hu hx hy h
end
section
theorem mv:∀ {xs:List PyData}{ks:List (List Int)},ik xs=some ks->xs=ks.map ac
 | [],ks,h=>by (have i:=Option.some.inj h; clear h; subst i); rfl
 | x::xs,ks,h=>by
  cases x with
  | list ys=>
   simp only[ik] at h
   refine bk h λk hk h=>?_
   refine bl h λj l g=>?_
   subst g
   rw[map_cons,<- mv l]
   have:=lQ (x:=.tuple ys) (k:=k) hk
   unfold aK at this
   injection this with e
   rw[e]; rfl
  | _=>exact nN h
theorem RowOf.ofR (r:R h v (ac k) bs):RowOf h v k:=by
 refine R.isList_k r λa i n m g l j _=>?_
 subst g
 exact ⟨a,i,n,rfl,l,(j.ints (BX k)).1⟩
theorem uo (hu:A.units+200<cLine) (ra:R s.heap va (.list xs) as) (ha:∀ b∈as,P b) (hz:sz (.list xs)=true) (hk:ik xs=some ks) (h64:xs.length<64) (hQ:∀ v s',EP P s (.d (.list ((aA ks).map ac)),fresh ((aA ks).map ac)) v s'->Q v s') :
  wpAny (model prog w) A (call (.builtin "sorted") [va]) Q Er s:=by
 cases mv hk
 rw[length_map] at h64
 exact mj ze (λr=>RowOf.ofR r) hu ra ha hz h64 (.inr λq=>q.elim) hQ
end
section
variable (fns:Fns) (k:Nat) (C:Calls) (XP:String->Shared->Value->Shared->Prop)
noncomputable def cr:Prop:=∀ f g,C f=some g->1<=k/\(f = "law" -> fns.lam=true)/\(f∈aV->f∈SF.excN)/\(f∉aV->∃ a,adr fns f=some a/\∀ {A:Around}{P:Addr->Prop}{s:Shared}{Q:Value->Shared->Prop}{Er:Value->Shared->Prop}{xs:List V}{vals:List Value}{as:List Addr},
 Room fns.hand k A->(∃ l,A.frames=some l/\FrOk s.heap l)->GE fns s.heap->RVs s.heap xs vals as->(∀ a∈as,P a)->g xs≠.bad->(∀ r,g xs = .ok r->∀ v s',EP P s r v s'->Q v s')->(∀ c,g xs = .exc c->∀ x s',XP c s x s'->Er x s') ->
 wpAny (model prog w) A (call (.ref a) vals []) Q Er s)
end
section
theorem oL (hs:mV a=true) (ok:okE ns a v=true):attributeBase v n env (eval v env)=eval v env:=by
 cases a with
 | name x=>
  refine Or.elim (vR ok) (λi=>?_) (λq=>?_)
  ·refine au (i) λt r k p=>?_
   clear i
   (clear ok; subst k)
   rfl
  ·cases q
 | call f es=>
  refine Or.elim (wh ok) (λg=>?_) (λq=>?_)
  ·refine cH (g) λo m u l j h=>?_
   clear g
   (clear ok; subst j)
   simp only[and_eq_true,Bool.not_eq_true'] at h
   cases u with
   | nil=>have:=h.1.1.2; exact nT this
   | cons x u=>rfl
  ·cases q
 | _=>exact nF hs
theorem oQ (r:RV h v (.rule c d n) as):∃ x D vf bs t u mA,v = .ref x/\as=x::D::bs/\h.Inst x SF.rule mA/\mA "count" = some (.int c t)/\mA "full" = some vf/\mA "size" = some (.int n u)/\(∀ m∈methNames,mA (Str.ofString m)=none)/\R h vf d bs/\sz d=true:=by
 refine jq (r) λx D o vf bs t u mA h1 h2 h3 h4 h5 z y q p l k j i g=>?_
 clear r
 exact ⟨x,D,vf,bs,t,u,mA,h1,h2,(bU o h3 h4 h5 (.inr (aw D z y q))),p,l,k,j,i,g⟩
theorem nj:typeLookup (.type "object") "count" = pure none:=by rw[typeLookup_type,builtinLookup_eq_fast]; kernel_rfl
theorem kG:typeLookup (.type "object") "full" = pure none:=by rw[typeLookup_type,builtinLookup_eq_fast]; kernel_rfl
theorem oK:typeLookup (.type "object") "size" = pure none:=by rw[typeLookup_type,builtinLookup_eq_fast]; kernel_rfl
theorem vL (hm:m∈methNames):typeLookup (.type "object") (Str.ofString m)=pure none:=by
 simp only[methNames,mem_cons,not_mem_nil,or_false] at hm
 rcases hm with rfl | rfl | rfl | rfl | rfl<;>(rw[typeLookup_type,builtinLookup_eq_fast]; kernel_rfl)
theorem v4 (ge:GE fns s.heap) (hi:fns.init.isSome=true) (he:li x n = .ok r) (ra:RV s.heap va x as) (ha:∀ a∈as,P a)
  (hQ:∀ v s',EP P s r v s'->Q v s'):wpAny (model prog w) A (getAttr va (Str.ofString n) expr) Q Er s:=by
 replace he:=aS he
 revert he; intro j
 refine ae (j) λz hq he=>?_
 clear j
 obtain ⟨c,d,sz'⟩:=z
 cases jA hq
 dsimp only at he ra
 refine uU (oQ ra) λy D vf bs t u mA p o I f1 f2 f3 f4 rd zd=>?_
 subst p
 subst o
 refine az (ge.cls (.inr hi)) λN mN m i _=>?_
 obtain ⟨k,hn⟩:=m
 refine eH (k) λnm q bs' sn sub col dd k0 k1 k2 k3 k5 hC=>?_
 clear k
 obtain ⟨hh,g,dr,tk,os⟩:=s
 have ga:=i "__getattribute__" (by simp)
 by_cases e1:n = "count"
 ·subst e1
  rw[if_pos rfl] at he; (have l:=Out.ok.inj he; clear he; subst l)
  exact load_attr hC hn ga (i "count" (by simp)) nj I f1 rfl (hQ _ _ (.int (.toks _ _)))
 rw[if_neg e1] at he
 by_cases e2:n = "full"
 ·(clear e1; subst e2)
  rw[if_pos rfl] at he; (have l:=Out.ok.inj he; clear he; subst l)
  have hf:handedOut vf=pure vf:=by cases rd<;>rfl
  refine load_attr hC hn ga (i "full" (by simp)) kG I f2 hf (hQ _ _ ?_)
  exact .after (.toks ⟨hh,g,dr,tk,os⟩ _) (tA (s:=⟨hh,g,dr,tk+1,os⟩) (x:=.d d) ⟨rd,zd⟩ λa h=>ha a (.tail _ (.tail _ h)))
 rw[if_neg e2] at he
 by_cases e3:n = "size"
 ·(clear e1 e2; subst e3)
  rw[if_pos rfl] at he; (have l:=Out.ok.inj he; clear he; subst l)
  exact load_attr hC hn ga (i "size" (by simp)) oK I f3 rfl (hQ _ _ (.int (.toks _ _)))
 rw[if_neg e3] at he
 exact nB he
theorem yT (hC:cr fns k C XP) (Sa:SimE fns k C XP a):SimE fns k C XP (.attr a n):=by
 intro ex A env σ P s Q Er ok X o p t
 replace ok:=CX ok
 revert ok; refine λi=>Or.elim i (λj=>?_) (λok=>?_)
 ·clear i
  refine bg (j) λy u l hn hs oa=>?_
  clear j
  subst l
  simp only[fx] at o p t
  cases hR:C "Rule" with
  | none=>rw[hR] at o; exact absurd rfl o
  | some g=>
  have hi:fns.init.isSome=true:=by
   refine ae ((hC "Rule" g hR).2.2.2 (by decide)) λfa m _=>?_
   unfold adr at m
   rw[if_pos rfl] at m
   refine bl m λuu q _=>?_
   rw[q]; rfl
  rw[hR] at o p t
  simp only[al] at o p t
  refine aN o λn1 n2=>?_
  rw[arm_eval_Attribute,oL hs oa]
  refine wpAny_bind (Sa oa X n1 (λx hx va z Ea=>?_) λc hc=>t c (by rw[hc]; rfl))
  obtain ⟨ka,as,ra,ha,_⟩:=Ea
  have:∃ r,li x.1 n = .ok r:=by
   cases h:li x.1 n with
   | ok r=>exact ⟨r,rfl⟩
   | exc c=>exact absurd h (xf c)
   | bad=>exact absurd h (n2 x hx)
  refine ai (this) λr hr=>?_
  clear this
  refine wpAny_bind (wpAny_standAt (wpAny_bind (wpAny_holding (v4 (P:=λa=>P a\/s.heap.get? a=none) (X.ge.k ka.k) hi hr ra ha λv s' E=>?_))))
  exact wpAny_bind (wpAny_letTemporaryGo (wpAny_pure (p r (by rw[hx]; exact hr) v s' (E.shift ka))))
 ·cases ok
theorem lE:∀ {es:Es}{xs:List Expr},dI ns es xs=true->∀ pos:Pos,(backTo pos (starEach xs env)).any (·.1)=false/\(backTo pos (starEach xs env)).all (λx=>!x.1)=true
 | .nil,xs,h,pos=>by
  refine Or.elim (uF h) (λi=>?_) (λq=>?_)
  ·refine aa (i) λk l=>?_
   clear i
   (clear h; subst k)
   exact ⟨rfl,rfl⟩
  ·cases q
 | .cons e es,xs,h,pos=>by
  refine Or.elim (qe h) (λg=>?_) (λq=>?_)
  ·refine au (g) λx m j h=>?_
   clear g
   subst j
   refine cR h λo n=>?_
   refine aa (lE (env:=env) n pos) λa b=>?_
   rw[aO o]
   constructor
   ·show (false||(backTo pos (starEach m env)).any (·.1))=false
    rw[a]; rfl
   ·show (!false&&(backTo pos (starEach m env)).all (λx=>!x.1))=true
    rw[b]; rfl
  ·cases q
theorem pw {A:Around}{env:Env}{pos:Pos}{e:Expr}{rest:List Expr}{Q:Value->Shared->Prop}{E:Value->Shared->Prop}{s:Shared}{Cl N:Addr}{mN:Str->Option Value}(he:starEach (e::rest) env=(false,eval e env)::starEach rest env) (hp:(backTo pos (starEach rest env)).any (·.1)=false)
  (h:wpAny (model prog w) A (spliced (backTo pos (starEach (e::rest) env))) (λvs s₁=>ClsAt s₁.heap Cl N mN/\wpAny (model prog w) A (call (.ref Cl) vs) Q E s₁) E s) :
  wpAny (model prog w) A (callWith pos (.ref Cl) [] (backTo pos (starEach (e::rest) env)) []) Q E s:=by
 rw[he] at h ⊢
 have m:((backTo pos ((false,eval e env)::starEach rest env)).any (λx=>x.fst)||([]:List (Option Str×Sem Value)).any λx=>x.fst.isNone)=false:=by
  show ((false||(backTo pos (starEach rest env)).any (·.1))||false)=false
  rw[hp]; rfl
 unfold callWith
 refine wpAny_bind (wpAny_holding (Calls.evalArgs_plain (wpAny_mono h (λvs s₁ i=>?_) λuu uu x=>x)))
 obtain ⟨v,g,d,t,p⟩:=s₁
 revert i; intro j
 refine aa (j) λl i=>?_
 clear j
 obtain ⟨k,_⟩:=l
 refine eH (k) λnm q bs z o y dd k0 k1 k2 k3 k5 n=>?_
 clear k
 have f1:=tc_lookup
 have hT:(⟨v,g,d,t,p⟩:Shared).TypeIs (.ref Cl) "type" := (af _ n rfl)
 refine wpAny_bind (wpAny_standAt ?_)
 show wpAny _ _ (keeperOf (.ref Cl)>>=_) _ _ _
 unfold keeperOf specialOf
 repeat (any_goals (first | assumption | with_reducible refine wpAny_loadPart_at n ?_ | with_reducible refine wpAny_load' n ?_ | wp_step))
 rw[if_pos (by rfl),m]
 show wpAny _ _ (call (.ref Cl) vs []>>=λr=>do holding [r] point; pure r) _ _ _
 exact wpAny_bind (wpAny_mono i (λr s' u=>wpAny_bind (wpAny_holding (wpAny_point (wpAny_pure u)))) λuu uu x=>x)
theorem xD (hf:fns.hand=false) (hC:cr fns k C XP) (hXP:∀ c s s₁ x s',Kp s s₁->XP c s₁ x s'->XP c s x s') {a:E}{m:String}{es:Es}(Sa:SimE fns k C XP a) (Ss:fg fns k C XP es):SimE fns k C XP (.meth a m es):=by
 intro ex A env σ P s Q Er ok X nb hQ hE
 replace ok:=Dv ok
 revert ok; refine λMe=>Or.elim Me (λMc=>?_) (λok=>?_)
 ·clear Me
  refine wJ (Mc) λv p xs pos LW hl hm hne hlt hs oa oes=>?_
  clear Mc
  subst LW
  simp only[d8] at nb hQ hE
  refine aN nb λn1 n2=>?_
  rw[arm_eval_Call,oL hs oa]
  refine wpAny_bind (Sa oa X n1 (λx hx va s₁ Ea=>?_) λc hc=>hE c (by rw[hc]; rfl))
  replace n2:=n2 x hx
  rw[hx] at hQ hE
  simp only[Out.ok_bind] at hQ hE
  obtain ⟨ka,as,ra,ha,_⟩:=Ea
  refine wpAny_bind (wpAny_standAt ?_)
  have Xa:=X.k ka.k
  by_cases hq:∃ q g,dB x.1=some q/\C m=some g
  ·revert hq; intro L9
   refine au (L9) λK6 g hq hg=>?_
   clear L9
   obtain ⟨c,d,n⟩:=K6
   have hx1:=jA hq
   rw[hx1] at ra
   rw[hq,hg] at n2 hQ hE
   simp only[al] at n2 hQ hE
   refine aN n2 λn3 n4=>?_
   obtain ⟨fa,hfa,hcall⟩:=(hC m g hg).2.2.2 (by
    simp only[methNames,mem_cons,not_mem_nil,or_false] at hm
    rcases hm with rfl | rfl | rfl | rfl | rfl<;>decide)
   have hmR:m ≠ "Rule" := by
    rintro rfl
    simp[methNames] at hm
   rw[s5 hmR hm] at hfa
   refine bl hfa λpm hpm K3=>?_
   subst K3
   refine uU (oQ ra) λy D vf bs t u mA La Le I f1 f2 f3 f4 rd zd=>?_
   subst La
   (clear deep top; subst Le)
   refine bg (Xa.ge.cls (.inl (bn m pm hpm))) λN mN Lb quiet _ hmth=>?_
   obtain ⟨Lf,hn⟩:=Lb
   refine eH (Lf) λnm q bs' sn sub col dd k0 k1 k2 k3 k5 hCl=>?_
   clear Lf
   refine cX (hmth m pm hpm) λof g1 g2 g3 g4=>?_
   have hform:methodCallForm (xs.length+([]:List Keyword).length) (backTo pos (starEach xs env)) (backToKw pos (keywordEach [] env))=true:=by
    unfold methodCallForm
    rw[(lE (env:=env) oes pos).2]
    show (true&&true&&decide (xs.length+0+0<30))=true
    simp; exact FM hlt
   have hpos:methodCallPos true v env p pos=pure pos:=by unfold methodCallPos; simp[hl]
   unfold methodCall
   rw[hform]
   obtain ⟨hh,gg,dr,tk,os⟩:=s₁
   refine wpAny_bind (wpAny_holding (method_of hCl hn (quiet "__getattribute__" (by simp)) (quiet "__getattr__" (by simp)) g1 g3 g4 (vL hm) I (f4 m hm) ?_))
   refine wpAny_bind (wpAny_of_eq hpos ?_)
   refine az (g2) λo fd ho hfd _=>?_
   clear g2
   refine Calls.callWith_function (o:=o) (fd:=fd) ?_
   cases xs with
   | nil=>simp at hne
   | cons y' ys=>
    cases es with
    | nil=>exact Bool.noConfusion (show false=true from oes)
    | cons e es=>
     have oy:okE env.scope.names e y' = true:=(and_eq_true_iff.mp (show (okE env.scope.names e y'&&dI env.scope.names es ys)=true from oes)).1
     have hS:=Ss (pos:=pos) (A:=A) (P:=P) (s:=⟨hh,gg,dr,tk,os⟩) (Er:=Er) (Q:=λvs j=>(j.heap.get? pm.1=some o/\o.data = .func fd)/\wpAny (model prog w) A (call (.ref pm.1) ([.ref y]++vs) []) Q Er j) oes Xa n3 (λl hl vs j Es=>?_) λc hc z s' hz=>hE c (by rw[hc]; rfl) z s' (hXP c s _ z s' ka hz)
     ·rw[aO oy] at hS ⊢
      exact Calls.evalArgs_plain hS
     ·obtain ⟨ks,bsb,rs,hb,_⟩:=Es
      refine ⟨⟨ks.k.exact ho (λuu q=>by rw[hfd] at q; cases q) λuu uu q=>(by rw[hfd] at q; cases q),hfd⟩,?_⟩
      have hnb':=n4 l hl
      rw[hl] at hQ hE
      simp only[Out.ok_bind] at hQ hE
      rw[hx1] at hQ hE hnb'
      have i:=ka.trans ks
      refine hcall (P:=λa=>P a\/s.heap.get? a=none) X.room (ae (X.frm hf) λl' a' b'=>(af l' a' (b'.k i.k))) (X.ge.k i.k) (.cons (ra.k ks.k) rs) (λb h=>?_) hnb' (λr hr v s' E=>hQ r hr v s' (E.shift i)) λc hc z s' hz=>hE c hc z s' (hXP c s _ z s' i hz)
      rcases mem_append.mp h with h | h
      ·exact ha b h
      ·exact (hb b h).imp id ka.none
  ·exfalso
   cases h1:dB x.1 with
   | none=>rw[h1] at n2; exact n2 rfl
   | some q=>
    cases h2:C m with
    | none=>rw[h1,h2] at n2; exact n2 rfl
    | some g=>exact hq (aC q g h1 h2)
 ·cases ok
end
section
theorem Cn:b1V f x≠.exc c:=CF c
theorem b1_list' (h:(al (asD v) λx=>al (asL x) f) = .ok r):∃ xs,v = .d (.list xs)/\f xs = .ok r:=by
 refine bh h λx i h=>?_
 refine bh h λxs g h=>?_
 exact (af xs (by rw[bZ i,bR g]) h)
set_option tactic.hygienic true in
theorem Bb (hh:A.handled=none) (hu:A.units+200<cLine) (he:b1V f x = .ok r) (ra:RV s.heap va x as) (ha:∀ a∈as,P a)
  (hQ:∀ v s',EP P s r v s'->Q v s'):wpAny (model prog w) A (call (bval (b1n f)) [va]) Q Er s:=by
 unfold b1V at he
 cases hd:t9 x with
 | some ks=>
  rw[hd] at he
  cases zo hd
  simp only[pF] at he
  split at he
  ·rename_i hk
   revert hk; intro u
   refine aa (u) λK9 hk=>?_
   clear u
   subst K9
   (have g:=Out.ok.inj he; clear he; subst g)
   exact uX hh ra hk hQ
  ·exact nB he
 | none=>
 rw[hd] at he
 dsimp only at he
 cases f with
 | len=>exact yt he ra hQ
 | list=>
  replace he:=aS he
  revert he; intro t
  refine ae (t) λy hy he=>?_
  clear t
  cases bZ hy
  cases ht:asT y with
  | none=>
   simp only[ht] at he
   replace he:=aS he
   revert he; intro q
   refine ae (q) λm hx he=>?_
   clear q
   cases bR hx
   (have g:=Out.ok.inj he; clear he; subst g)
   refine ra.1.isList_k λa vs n cs K4 ea k K8=>?_
   subst K4
   subst K8
   have z:=sz_list.mp ra.2
   exact pe (.inl rfl) ea k z.1 z.2 (λb hb=>ha b (.tail _ hb)) hQ
  | some m=>
   simp only[ht] at he
   (have g:=Out.ok.inj he; clear he; subst g)
   cases jh ht
   refine aL (ra.1.isTup) λa vs n K5 ea k=>?_
   subst K5
   have z:=sz_tuple.mp ra.2
   exact pe (.inr rfl) ea k z.1 z.2 ha hQ
 | tuple=>
  replace he:=b1_list' he
  revert he; intro p
  refine ae (p) λm K7 he=>?_
  clear p
  (clear hd; subst K7)
  (have g:=Out.ok.inj he; clear he; subst g)
  exact yg ra.1 ra.2 ha hQ
 | sorted=>
  replace he:=b1_list' he
  revert he; intro o
  refine ae (o) λm Lc he=>?_
  clear o
  (clear hd; subst Lc)
  unfold eP at he
  split at he
  ·rename_i l
   split at he
   ·rename_i ns hn
    (have g:=Out.ok.inj he; clear he; subst g)
    exact tY ra.1 hn l hQ
   ·unfold eL at he
    cases ht:dY m with
    | some ks=>
     rw[ht] at he
     dsimp only at he
     split at he
     ·rename_i hc
      (have g:=Out.ok.inj he; clear he; subst g)
      exact uM hu ra.1 ha ra.2 ht l hc hQ
     ·exact nB he
    | none=>
     rw[ht] at he
     dsimp only at he
     refine bh he λks hk he=>?_
     (have g:=Out.ok.inj he; clear he; subst g)
     exact uo hu ra.1 ha ra.2 hk l hQ
  ·exact nB he
 | max=>
  replace he:=b1_list' he
  revert he; intro j
  refine ae (j) λm Ld he=>?_
  clear j
  (clear hd; subst Ld)
  replace he:=aS he
  revert he; intro h
  refine ae (h) λi hi he=>?_
  clear h
  refine bk hi λns hi1 hi2=>?_
  (have g:=Out.ok.inj he; clear he; subst g)
  exact xz hh ra.1 hi1 hi2 hQ
theorem CB (f:B1):b1n f∈bnames:=by cases f<;>decide
theorem Da (f:B2):b2n f∈bnames:=by cases f<;>decide
theorem Fm (f:B1):(Str.ofString (b1n f)==("__debug__" : Str))=false:=by cases f<;>decide
theorem Ee (f:B2):(Str.ofString (b2n f)==("__debug__" : Str))=false:=by cases f<;>decide
theorem nY (hf:fns.hand=false) (Sa:SimE fns k C XP a):SimE fns k C XP (.bi1 f a):=by
 intro ex A env σ P s Q Er ok X nb hQ hE
 replace ok:=Az ok
 revert ok; refine λi=>Or.elim i (λj=>?_) (λok=>?_)
 ·clear i
  refine cH (j) λz y x u l ok=>?_
  clear j
  subst l
  simp only[and_eq_true,beq_iff_eq] at ok
  refine aa (ok) λo t=>?_
  clear ok
  refine aa (o) λp hg=>?_
  clear o
  subst p
  simp only[fL] at nb hQ hE
  refine aN nb λn1 n2=>?_
  have m:∀ {B:Value},B=bval (b1n f)->∀ {n:Pos},wpAny (model prog w) A (spliced (backTo n (starEach [_] env))) (λvs g=>wpAny (model prog w) A (call B vs) Q Er g) Er s:=λ{B} hB {n}=>by
   subst hB
   refine iY _ t (Sa t X n1 (λr hr v g Ea=>?_) λc hc=>hE c (by rw[hc]; rfl))
   have n3:=n2 r hr
   cases h:b1V f r.1 with
   | bad=>exact absurd h n3
   | exc c=>exact absurd h Cn
   | ok q=>
    obtain ⟨ka,as,ra,ha,_⟩:=Ea
    exact Bb (P:=λa=>P a\/s.heap.get? a=none) (X.room.1 hf) X.room.units h ra ha λv s' E=>hQ q (by rw[hr]; exact h) v s' (E.shift ka)
  refine dG X.eok X.ge (CB f) hg (Fm f) ?_
  cases f with
  | list=>exact fo (T:="list") _ t rfl (m rfl)
  | tuple=>exact fo (T:="tuple") _ t rfl (m rfl)
  | _=>exact lU _ t rfl (m rfl)
 ·cases ok
theorem Bk:b2V f x y≠.exc c:=Ct c
theorem Bi (hh0:fns.hand=false) (hXP:∀ c s s₁ x s',Kp s s₁->XP c s₁ x s'->XP c s x s') {f:B2}{a b:E}(Sa:SimE fns k C XP a) (Sb:SimE fns k C XP b):SimE fns k C XP (.bi2 f a b):=by
 intro ex A env σ P s Q Er g X nb hQ hE
 replace g:=HU g
 revert g; refine λm=>Or.elim m (λn=>?_) (λg=>?_)
 ·clear m
  refine iC (n) λMq Mi LV Mj L0 q g=>?_
  clear n
  subst q
  simp only[and_eq_true,beq_iff_eq] at g
  refine aa (g) λp ob=>?_
  clear g
  refine aa (p) λo oa=>?_
  clear p
  refine aa (o) λLf hg=>?_
  clear o
  subst Lf
  simp only[gS] at nb hQ hE
  have e:bval (b2n f) = .builtin (b2n f):=by cases f<;>rfl
  refine dG X.eok X.ge (Da f) hg (Ee f) ?_
  rw[e]
  refine lU _ oa (by rw[aO ob]; rfl) (wpAny_items_cons ?_ (aO oa _ env))
  refine wpAny_mono (jS hXP (f:=b2V f) (G:=λva vb l=>wpAny (model prog w) A (call (.builtin (b2n f)) [va,vb]) Q Er l) Sa Sb oa ob X nb hE (λuu uu uu=>Bk) λx y r he hf va vb l as bs kp ra rb ha hb=>?_) (λva s₁ h=>iY _ ob h) λuu uu e=>e
  refine az (iq hf) λx y Lg Lh h1=>?_
  subst Lg
  subst Lh
  refine az (eZ h1) λi j Lj Ll _=>?_
  (clear h1; subst Lj)
  subst Ll
  refine ra.1.isInt_k λuu Lm z=>?_
  (clear ra; subst Lm)
  subst z
  refine rb.1.isInt_k λuu u t=>?_
  (clear rb; subst u)
  subst t
  exact Cq (P:=λa=>P a\/s.heap.get? a=none) (X.room.1 hh0) hf λv s' E=>hQ r he v s' (E.shift kp)
 ·cases g
theorem oF (ys:List Expr) (env:Env):starEach (.Call f xs ks p::ys) env=(false,eval (.Call f xs ks p) env)::starEach ys env:=rfl
theorem rZ (n:Int):∀ {vs:Array Value}{m:Nat},ItemsOf (λi v=>∃ t,v=Value.int (0+(i:Nat)*1) t) vs m->∀ h:Heap,RA h vs.toList ((List.range m).map λ(k:Nat)=>PyData.int (0+k)) []:=by
 intro vs m r h
 refine aa (r) λhs z=>?_
 clear r
 have hI:IntsAre vs.toList ((List.range m).map λ(k:Nat)=>(0+(k:Int))):=by
  have g:∀ (l:List Value) (b:Nat),(∀ (j:Nat) (v:Value),l[j]? = some v->∃ t,v=Value.int ((b+j:Nat):Int) t)->IntsAre l ((List.range' b l.length).map λ(k:Nat)=>(k:Int)):=by
   intro l
   induction l with
   | nil=>intro b _; exact .nil
   | cons v l ih=>
    intro b x
    refine ai (x 0 v rfl) λt p=>?_
    rw[length_cons,List.range'_succ,map_cons]
    rw[p]
    refine .cons _ _ (ih (b+1) λj u q=>?_)
    refine ai (x (j+1) u (by simpa using q)) λy o=>?_
    exact ⟨y,by rw[o]; congr 1; exact Hp⟩
  have:=g vs.toList 0 λj v q=>by
   refine ai (z j v (by simpa using q)) λt p=>?_
   exact ⟨t,by rw[p]; congr 1; simp⟩
  rw[show vs.toList.length=m by simpa using hs] at this
  simpa [List.range_eq_range'] using this
 have:=RA.of_ints (h:=h) hI
 rw[map_map] at this
 exact this
set_option tactic.hygienic true in
theorem wo (hf:fns.hand=false) (Sn:SimE fns k C XP n):SimE fns k C XP (.listR n):=by
 intro ex A env σ P s Q Er ok X nb hQ hE
 replace ok:=BN ok
 revert ok; refine λl=>Or.elim l (λt=>?_) (λok=>?_)
 ·clear l
  refine k9 (t) λMK MF MP MX MW MY MS MQ ok=>?_
  clear t
  subst MQ
  simp only[and_eq_true,beq_iff_eq] at ok
  refine aa (ok) λz on=>?_
  clear ok
  refine aa (z) λy hg'=>?_
  clear z
  refine aa (y) λu Lo=>?_
  clear y
  refine aa (u) λLq hg=>?_
  clear u
  subst Lq
  subst Lo
  simp only[eI] at nb hQ hE
  refine aN nb λn1 n2=>?_
  refine dG X.eok X.ge (id:="list") (by decide) hg (by decide) ?_
  have j:∀ {pos:Pos}{f:Expr}{xs:List Expr}{p:Pos},wpAny (model prog w) A (spliced (backTo pos (starEach [.Call f xs [] p] env))) (λvs g=>wpAny (model prog w) A (call (.type "list") vs) Q Er g) Er s ->
    wpAny (model prog w) A (callWith pos (.type "list") [] (backTo pos (starEach [.Call f xs [] p] env)) []) Q Er s:=λh=>by
   rw[oF] at h ⊢
   exact PySem.callWith_type rfl (Calls.evalArgs_plain (wpAny_mono h (λvs g ha=>ha) λuu uu e=>e))
  refine j (wpAny_items_cons ?_ (oF [] env))
  refine dG X.eok X.ge (id:="range") (by decide) hg' (by decide) (fo (T:="range") _ on rfl (iY _ on (Sn on X n1 (λr hr v g Ea=>?_) λc hc=>hE c (by rw[hc]; rfl))))
  have n3:=n2 r hr
  obtain ⟨x,m⟩:=r
  obtain ⟨ka,as,ra,hx1,hx2,hx3⟩:=Ea
  clear hx1 hx2 hx3
  dsimp only at n3 ra
  split at n3
  ·rename_i i
   cases hq:bE 0 i with
   | bad=>rw[hq] at n3; exact absurd rfl n3
   | exc c=>exact absurd hq j8
   | ok q=>
    refine aG (kO hq) λLr h1 h2=>?_
    subst Lr
    refine ra.1.isInt_k λuu Ls LA=>?_
    (clear ra; subst Ls)
    subst LA
    refine call_range_1 (wpAny_items_nil ?_)
    have hsz:Builtin.Range.rangeSize 0 i 1=((i-0).toNat:Int):=by rw[rangeSize_one]; split<;>lia
    unfold lim at h1
    refine call_list_range (X.room.1 hf) (IsRange.new ..) (small_one zU At (GB h2) (Ga h2)) hsz (JP h1) λh' tk acc' c' kp hn hI=>?_
    refine hQ (.d (.list (cE 0 i)),.deep) (by rw[hr,Out.ok_bind]; dsimp only; rw[hq]; rfl) _ _ ?_
    have kp':Kp g {g with heap:=h',toks:=tk }:=(aC h' tk rfl (.of λb o e=>kp b o (Heap.get?_push_of_some _ e)))
    have ef:fresh (cE 0 i) = .deep:=by
     unfold fresh
     rw[if_pos]
     unfold cE
     rw[all_map,all_eq_true]
     intro _ _; rfl
    rw[<- ef]
    refine EP.aList (vs:=acc'.toList) (n:=c') (as:=[]) (ka.trans kp') (ka.none (Heap.get?_none_of_le ?_)) hn (rZ i hI h') (by rw[gj]; exact HC h1) (o4 0 i) λuu h=>(nomatch h)
    rw[size_push]; exact le_succ _
  ·exact absurd rfl n3
 ·cases ok
theorem y4:iG x t≠.exc c:=BY c
theorem y0 (h:nG t k=some b):t∈bnames/\bval t = .type t :=
 rJ h (λe uu=>e▸⟨by decide,rfl⟩) (λe uu=>e▸⟨by decide,rfl⟩) (λe uu=>e▸⟨by decide,rfl⟩) (λe uu=>e▸⟨by decide,rfl⟩) λe uu=>e▸⟨by decide,rfl⟩
theorem xb {id:Str}{p:Pos}(xs:List Expr) (env:Env):starEach (.Name id p::xs) env=(false,eval (.Name id p) env)::starEach xs env:=rfl
theorem Bu (Sa:SimE fns k C XP a):SimE fns k C XP (.isi a t):=by
 intro ex A r σ P s Q Er ok X nb hQ hE
 replace ok:=JC ok
 revert ok; refine λg=>Or.elim g (λi=>?_) (λok=>?_)
 ·clear g
  refine ud (i) λMZ MV z y v u o ok=>?_
  clear i
  subst o
  simp only[and_eq_true,beq_iff_eq] at ok
  refine aa (ok) λn hdt=>?_
  clear ok
  refine aa (n) λm hgt=>?_
  clear n
  refine aa (m) λl q=>?_
  clear m
  refine aa (l) λj oa=>?_
  clear l
  refine aa (j) λp hg=>?_
  clear j
  subst p
  subst q
  simp only[gO] at nb hQ hE
  refine aN nb λn1 n2=>?_
  refine dG X.eok X.ge (id:="isinstance") (by decide) hg (by decide) (lU (id:="isinstance") _ oa rfl (wpAny_items_cons ?_ (aO oa _ r)))
  refine Sa oa X n1 (λx hx va s₁ Ea=>?_) λc hc=>hE c (by rw[hc]; rfl)
  cases h:iG x.1 t with
  | bad=>exact absurd h (bp (n2 x hx)).1
  | exc c=>exact absurd h y4
  | ok b=>
   refine ae (zh h) λxd hxd hi=>?_
   refine aa (y0 hi) λhm hb=>?_
   have ge:=X.ge.k Ea.keeps.k
   refine am (ge.glob) λmg g1 _ g3=>?_
   refine ae (ge.blt) λmb b1 b2=>?_
   refine wpAny_items_cons ?_ (xb [] r)
   refine Calls.Name_function_global X.eok.kind (fA hgt) (Calls.loadGlobal_builtin (X.eok.glob▸g1) (g3 t hm) (X.eok.blt▸b1) (b2 t hm) ?_) (nd hdt)
   refine wpAny_items_nil ?_
   obtain ⟨ka,as,ra,ha,_⟩:=Ea
   rw[hxd] at ra
   rw[hb]
   exact yH hi ra.1 λs' kp=>hQ (sB b) (by rw[hx,Out.ok_bind,h]; rfl) _ _ (.bool (ka.trans kp))
 ·cases ok
set_option tactic.hygienic true in
theorem yG (hf:fns.hand=false) (hC:cr fns k C XP) (hXP:∀ c s s₁ x s',Kp s s₁->XP c s₁ x s'->XP c s x s') {f:String}{es:Es}(Ss:fg fns k C XP es):SimE fns k C XP (.call f es):=by
 intro ex A env σ P s Q Er ok X nb hQ hE
 replace ok:=wh ok
 revert ok; refine λn=>Or.elim n (λt=>?_) (λok=>?_)
 ·clear n
  refine cH (t) λMT p xs pos MM ok=>?_
  clear t
  subst MM
  simp only[and_eq_true,beq_iff_eq,Bool.not_eq_true',decide_eq_false_iff_not] at ok
  refine aa (ok) λLu m=>?_
  clear ok
  refine aa (Lu) λLF hl=>?_
  clear Lu
  refine aa (LF) λLx hne=>?_
  clear LF
  refine aa (Lx) λLR hx=>?_
  clear Lx
  refine aa (LR) λMf hm=>?_
  clear LR
  refine aa (Mf) λu hd=>?_
  clear Mf
  refine aa (u) λLU hg=>?_
  clear u
  subst LU
  simp only[fI] at nb hQ hE
  split at nb
  ·rename_i g hCf
   rw[hCf] at hQ hE
   dsimp only at hQ hE
   refine aN nb λn1 n2=>?_
   refine ae ((hC f g hCf).2.2.2 hx) λfa h i=>?_
   refine am (X.ge.glob) λmg g1 g2 _=>?_
   refine wpAny_Call_NameR (Calls.Name_function_global X.eok.kind (fA hg) (Calls.loadGlobal_global (X.eok.glob▸g1) (g2 f fa hm h) ?_) (nd hd))
   cases xs with
   | nil=>simp at hne
   | cons y ys=>
    cases es with
    | nil=>exact Bool.noConfusion (show false=true from m)
    | cons e es=>
     refine cR (show (okE env.scope.names e y&&dI env.scope.names es ys)=true from m) λoy oys=>?_
     have fin:∀ l,evs C (.cons e es) σ = .ok l->∀ j s₁,EPs P s l j s₁->wpAny (model prog w) A (call (.ref fa) j []) Q Er s₁:=λl hl j s₁ Es=>by
      obtain ⟨ks,as,rs,ha,_⟩:=Es
      exact i (P:=λa=>P a\/s.heap.get? a=none) X.room (ae (X.frm hf) λl' a' b'=>(af l' a' (b'.k ks.k))) (X.ge.k ks.k) rs ha (n2 l hl) (λr hr v s' E=>hQ r (by rw[hl]; exact hr) v s' (E.shift ks)) λc hc z s' hz=>hE c (by rw[hl]; exact hc) z s' (hXP c s s₁ z s' ks hz)
     by_cases hR:f = "Rule"
     ·have hi:fns.init.isSome=true:=by
       unfold adr at h
       rw[if_pos hR] at h
       refine bl h λuu q _=>?_
       rw[q]; rfl
      have hfr:fa=SF.rule:=by
       unfold adr at h
       rw[if_pos hR] at h
       refine bl h λuu uu q=>?_
       exact q.symm
      refine au (X.ge.cls (.inr hi)) λN mN hcl _=>?_
      rw[<- hfr] at hcl
      exact pw (aO oy _ env) (lE oys pos).1 (Ss (pos:=pos) m X n1 (λl hl j s₁ Es=>⟨ss hcl Es.keeps.k,fin l hl j s₁ Es⟩) λc hc=>hE c (by rw[hc]; rfl))
     ·rw[wu hR hm] at h
      refine bl h λq hq MJ=>?_
      (clear i; subst MJ)
      refine az (X.ge.funs f q hq) λo fd ho hfd _=>?_
      refine Calls.callWith_function (o:=o) (fd:=fd) ?_
      have hS:=Ss (pos:=pos) (A:=A) (P:=P) (s:=s) (Er:=Er) (Q:=λj s₁=>(s₁.heap.get? q.1=some o/\o.data = .func fd)/\wpAny (model prog w) A (call (.ref q.1) ([]++j) []) Q Er s₁) m X n1 (λl hl j s₁ Es=>?_) λc hc=>hE c (by rw[hc]; rfl)
      ·rw[aO oy] at hS ⊢
       exact Calls.evalArgs_plain hS
      ·refine ⟨⟨Es.keeps.k.exact ho (λuu q=>by rw[hfd] at q; cases q) λuu uu q=>(by rw[hfd] at q; cases q),hfd⟩,?_⟩
       rw[List.nil_append]
       exact fin l hl j s₁ Es
  ·exact absurd rfl nb
 ·cases ok
noncomputable def vQ:Expr->Bool
 | .UnaryOp .Not _ _=>false
 | .BoolOp _ _ _=>false
 | .IfExp _ _ _ _=>false
 | .Compare _ _ _ _=>false
 | _=>true
theorem qg {ex:Expr}(h:vQ ex=true) (env:Env) (t:Sem Value):isTrue ex env t=(do let v <- t; standAt ex.pos; holding [v] (truthy v)):=by
 cases ex with
 | UnaryOp op x p=>cases op<;>first | rfl | exact nF h
 | _=>first | rfl | exact nF h
noncomputable def wx:E->Bool
 | .not _ | .cmp _ _ _ | .and _ _ | .or _ _=>false
 | _=>true
theorem yb {ex:Expr}(hp:wx e=true) (h:okE ns e ex=true):vQ ex=true:=by
 cases ex with
 | UnaryOp op x p=>
  cases e with
  | not _=>exact nF hp
  | neg a=>
   refine Or.elim (AJ h) (λg=>?_) (λq=>?_)
   ·refine au (g) λk j q i=>?_
    clear g
    cases q; rfl
   ·cases q
  | _=>exact Bool.noConfusion (show false=true from h)
 | BoolOp _ _ _=>
  cases e with
  | and _ _=>exact nF hp
  | or _ _=>exact nF hp
  | _=>exact Bool.noConfusion (show false=true from h)
 | Compare _ _ _ _=>
  cases e with
  | cmp _ _ _=>exact nF hp
  | _=>exact Bool.noConfusion (show false=true from h)
 | IfExp _ _ _ _=>cases e<;>exact Bool.noConfusion (show false=true from h)
 | _=>rfl
variable (fns k C XP)
structure SimAll (ee:E):Prop where
 e:SimE fns k C XP ee
 t:SimT fns k C XP ee
 a:SimA fns k C XP ee
 o:SimO fns k C XP ee
 ta:SimTA fns k C XP ee
 to:SimTO fns k C XP ee
variable {fns k C XP}
noncomputable def qE:E->Bool
 | .and _ _=>false
 | _=>true
noncomputable def tT:E->Bool
 | .or _ _=>false
 | _=>true
theorem iy (h:qE e=true):okA ns e vs=false:=by cases e<;>first | rfl | exact nF h
theorem iD (h:tT e=true):okO ns e vs=false:=by cases e<;>first | rfl | exact nF h
theorem SimAll.ofET {e:E}(S:SimE fns k C XP e) (T:SimT fns k C XP e) (ha:qE e=true) (ho:tT e=true):SimAll fns k C XP e where
 e:=S
 t:=T
 a:=lF S λg=>by rw[iy ha] at g; exact nF g
 o:=lR S λg=>by rw[iD ho] at g; exact nF g
 ta:=ku T λg=>by rw[iy ha] at g; exact nF g
 to:=kA T λg=>by rw[iD ho] at g; exact nF g
theorem SimAll.ofE {e:E}(S:SimE fns k C XP e) (hp:wx e=true) (ha:qE e=true) (ho:tT e=true):SimAll fns k C XP e :=
 .ofET S (uk S λuu uu g t h=>qg (yb hp h) g t) ha ho
theorem yP (h:∀ c s s₁ x s',Kp s s₁->XP c s₁ x s'->XP c s x s'):SimE fns 0 (λuu=>none) XP (mI x t):=by
 have S1:SimE fns 0 (λuu=>none) XP (.neg (.sub (.name x) (.name t))):=te (nC h (ei x) (ei t))
 have S2:fg fns 0 (λuu=>none) XP (.cons (.name t) .nil):=gy h (ei t) kD
 have S3:fg fns 0 (λuu=>none) XP (.cons (.neg (.sub (.name x) (.name t))) (.cons (.name t) .nil)):=gy h S1 S2
 show SimE fns 0 (λuu=>none) XP (.tup (.cons (.neg (.sub (.name x) (.name t))) (.cons (.name t) .nil)))
 exact tv S3
section
variable (hf:fns.hand=false) (hC:cr fns k C XP) (hXP:∀ c s s₁ x s',Kp s s₁->XP c s₁ x s'->XP c s x s')
include hXP
theorem mn (Sa:SimAll fns k C XP a) (Sb:SimAll fns k C XP b):SimAll fns k C XP (.and a b) :=
  have S:SimE fns k C XP (.and a b):=Ca hXP Sa.e Sb.a
  have T:SimT fns k C XP (.and a b):=yp hXP Sa.t Sb.ta
  {e:=S,t:=T,o:=lR S λg=>(by rw[iD rfl] at g; cases g),to:=kA T λg=>(by rw[iD rfl] at g; cases g),
   a:=lF S λ{z} _ _ _ _ _ _ _ _ g X v x y=>(by
    replace g:=i_A g
    revert g; refine λi=>Or.elim i (λl=>?_) (λg=>?_)
    ·clear i
     refine au (l) λu r n g=>?_
     clear l
     subst n
     simp only[and_eq_true] at g
     exact CR hXP Sa.e Sb.a g.1 g.2 X v x y
    ·cases g),
   ta:=ku T λ{z} _ _ _ _ _ _ _ g X v x y=>(by
    replace g:=i_A g
    revert g; refine λh=>Or.elim h (λj=>?_) (λg=>?_)
    ·clear h
     refine au (j) λq p m g=>?_
     clear j
     subst m
     simp only[and_eq_true] at g
     exact AC hXP Sa.t Sb.ta g.1 g.2 X v x y
    ·cases g) }
theorem ov (Sa:SimAll fns k C XP a) (Sb:SimAll fns k C XP b):SimAll fns k C XP (.or a b) :=
  have S:SimE fns k C XP (.or a b):=C6 hXP Sa.e Sb.o
  have T:SimT fns k C XP (.or a b):=BP hXP Sa.t Sb.to
  {e:=S,t:=T,a:=lF S λg=>(by rw[iy rfl] at g; cases g),ta:=ku T λg=>(by rw[iy rfl] at g; cases g),
   o:=lR S λ{z} _ _ _ _ _ _ _ _ g X v x y=>(by
    replace g:=i_O g
    revert g; refine λj=>Or.elim j (λl=>?_) (λg=>?_)
    ·clear j
     refine au (l) λu r n g=>?_
     clear l
     subst n
     simp only[and_eq_true] at g
     exact orL hXP Sa.e Sb.o g.1 g.2 X v x y
    ·cases g),
   to:=kA T λ{z} _ _ _ _ _ _ _ g X v x y=>(by
    replace g:=i_O g
    revert g; refine λh=>Or.elim h (λi=>?_) (λg=>?_)
    ·clear h
     refine au (i) λq p m g=>?_
     clear i
     subst m
     simp only[and_eq_true] at g
     exact Cs hXP Sa.t Sb.to g.1 g.2 X v x y
    ·cases g) }
mutual
theorem eA:∀ e:E,hOk e=true->SimAll fns k C XP e
 | .name x,_=>.ofE (ei x) rfl rfl rfl
 | .int i,_=>.ofE (nP i) rfl rfl rfl
 | .bool b,_=>.ofE (qI b) rfl rfl rfl
 | .bin o a b,h=>.ofE (sL hXP (eA a (and_eq_true_iff.mp h).1).e (eA b (and_eq_true_iff.mp h).2).e) rfl rfl rfl
 | .not a,h=>.ofET (sC (eA a h).e) (qS (eA a h).t) rfl rfl
 | .cmp o a b,h=>.ofET (s7 hXP (eA a (and_eq_true_iff.mp h).1).e (eA b (and_eq_true_iff.mp h).2).e) (rO hXP (eA a (and_eq_true_iff.mp h).1).e (eA b (and_eq_true_iff.mp h).2).e) rfl rfl
 | .and a b,h=>mn hXP (eA a (and_eq_true_iff.mp h).1) (eA b (and_eq_true_iff.mp h).2)
 | .or a b,h=>ov hXP (eA a (and_eq_true_iff.mp h).1) (eA b (and_eq_true_iff.mp h).2)
 | .list es,h=>.ofE (rt (zH es h)) rfl rfl rfl
 | .str _,h | .none,h | .neg _,h | .tup _,h | .edic,h | .comp _ _ _,h | .compif _ _ _ _,h | .sub _ _,h | .slo _ _,h | .shi _ _,h | .attr _ _,h | .bi1 _ _,h | .bi2 _ _ _,h | .listR _,h | .isi _ _,h | .call _ _,h | .meth _ _ _,h | .order _ _,h=>Bool.noConfusion h
termination_by structural e=>e
theorem zH:∀ es:Es,yF es=true->fg fns k C XP es
 | .nil,_=>kD
 | .cons e es,h=>gy hXP (eA e (and_eq_true_iff.mp h).1).e (zH es (and_eq_true_iff.mp h).2)
termination_by structural es=>es
end
include hf hC
mutual
theorem ax:∀ e:E,SimAll fns k C XP e
 | .name x=>.ofE (ei x) rfl rfl rfl
 | .int i=>.ofE (nP i) rfl rfl rfl
 | .str s=>.ofE (Co s) rfl rfl rfl
 | .bool b=>.ofE (qI b) rfl rfl rfl
 | .none=>.ofE xL rfl rfl rfl
 | .bin o a b=>.ofE (sL hXP (ax a).e (ax b).e) rfl rfl rfl
 | .neg a=>.ofE (te (ax a).e) rfl rfl rfl
 | .not a=>.ofET (sC (ax a).e) (qS (ax a).t) rfl rfl
 | .cmp o a b=>.ofET (s7 hXP (ax a).e (ax b).e) (rO hXP (ax a).e (ax b).e) rfl rfl
 | .and a b=>mn hXP (ax a) (ax b)
 | .or a b=>ov hXP (ax a) (ax b)
 | .list es=>.ofE (rt (i0 es)) rfl rfl rfl
 | .tup es=>.ofE (tv (i0 es)) rfl rfl rfl
 | .edic=>.ofE yL rfl rfl rfl
 | .comp elt x it=>.ofE (x9 (dv it) (ax elt).e) rfl rfl rfl
 | .compif elt x it c=>.ofE (ui (dv it) (ax elt).e (ax c).t) rfl rfl rfl
 | .sub a i=>.ofE (nC hXP (ax a).e (ax i).e) rfl rfl rfl
 | .slo a i=>.ofE (Cd hXP (ax a).e (ax i).e) rfl rfl rfl
 | .shi a i=>.ofE (BZ hXP (ax a).e (ax i).e) rfl rfl rfl
 | .attr a n=>.ofE (yT hC (ax a).e) rfl rfl rfl
 | .bi1 f a=>.ofE (nY hf (ax a).e) rfl rfl rfl
 | .bi2 f a b=>.ofE (Bi hf hXP (ax a).e (ax b).e) rfl rfl rfl
 | .listR n=>.ofE (wo hf (ax n).e) rfl rfl rfl
 | .isi a t=>.ofE (Bu (ax a).e) rfl rfl rfl
 | .call f es=>.ofE (yG hf hC hXP (i0 es)) rfl rfl rfl
 | .meth a m es=>.ofE (xD hf hC hXP (ax a).e (i0 es)) rfl rfl rfl
 | .order x t=>.ofE (wi hf (λg j=>(hC "law" g j).2.1 rfl) (nY hf (ei x)) (yP (XP:=λuu uu uu uu=>False) λuu uu uu uu uu uu h=>h)) rfl rfl rfl
termination_by structural e=>e
theorem i0:∀ es:Es,fg fns k C XP es
 | .nil=>kD
 | .cons e es=>gy hXP (ax e).e (i0 es)
termination_by structural es=>es
theorem dv:∀ it:It,cZ fns k C XP it
 | .e a=>AV hf (ax a).e
 | .r1 n=>zn hf (ax n).e
 | .r2 a b=>y8 hf hXP (ax a).e (ax b).e
termination_by structural it=>it
end
end
end
theorem kL {σ τ:St}{x:String}{v:V×Mode}{ns:List String}(h:∀ y∈ns,σ y=τ y):∀ y∈ns,upd σ x v y=upd τ x v y:=by
 intro y g
 unfold upd
 split
 ·rfl
 ·exact h y g
mutual
theorem ay (C:Calls):∀ (e:E) (σ τ:St),(∀ y∈fv e,σ y=τ y)->ev C e σ=ev C e τ
 | .name x,σ,τ,h=>by simp only[b7]; rw[h x (by simp[bQ])]
 | .int _,_,_,_=>by simp only[eN]
 | .str _,_,_,_=>by simp only[lc]
 | .bool _,_,_,_=>by simp only[gZ]
 | .none,_,_,_=>by simp only[g7]
 | .bin o a b,σ,τ,h=>by
  simp only[nV,mem_append] at h
  simp only[gT]; rw[ay C a σ τ λy g=>h y (.inl g),ay C b σ τ λy g=>h y (.inr g)]
 | .neg a,σ,τ,h=>by simp only[AS] at h; simp only[fz]; rw[ay C a σ τ h]
 | .not a,σ,τ,h=>by simp only[AY] at h; simp only[eJ]; rw[ay C a σ τ h]
 | .cmp o a b,σ,τ,h=>by
  simp only[Bh,mem_append] at h
  simp only[eK]; rw[ay C a σ τ λy g=>h y (.inl g),ay C b σ τ λy g=>h y (.inr g)]
 | .and a b,σ,τ,h=>by
  simp only[BH,mem_append] at h
  simp only[eO]; rw[ay C a σ τ λy g=>h y (.inl g),ay C b σ τ λy g=>h y (.inr g)]
 | .or a b,σ,τ,h=>by
  simp only[Dh,mem_append] at h
  simp only[fU]; rw[ay C a σ τ λy g=>h y (.inl g),ay C b σ τ λy g=>h y (.inr g)]
 | .list es,σ,τ,h=>by simp only[xo] at h; simp only[br]; rw[f8 C es σ τ h]
 | .tup es,σ,τ,h=>by simp only[BG] at h; simp only[fi]; rw[f8 C es σ τ h]
 | .edic,_,_,_=>by simp only[hW]
 | .comp elt x it,σ,τ,h=>by
  simp only[xl,mem_append] at h
  simp only[d7]
  rw[eY C it σ τ λy g=>h y (.inl g)]
  have e:∀ d,(ev C elt (upd σ x (mk (.d d))))=ev C elt (upd τ x (mk (.d d))):=λd=>ay C elt _ _ (kL λy g=>h y (.inr g))
  simp only[e]
 | .compif elt x it c,σ,τ,h=>by
  simp only[uz,mem_append] at h
  simp only[c7]
  rw[eY C it σ τ λy g=>h y (.inl g)]
  have e:∀ d,(ev C elt (upd σ x (mk (.d d))))=ev C elt (upd τ x (mk (.d d))):=λd=>ay C elt _ _ (kL λy g=>h y (.inr (.inr g)))
  have i:∀ d,(ev C c (upd σ x (mk (.d d))))=ev C c (upd τ x (mk (.d d))):=λd=>ay C c _ _ (kL λy g=>h y (.inr (.inl g)))
  simp only[e,i]
 | .sub a b,σ,τ,h=>by
  simp only[B9,mem_append] at h
  simp only[fJ]; rw[ay C a σ τ λy g=>h y (.inl g),ay C b σ τ λy g=>h y (.inr g)]
 | .slo a b,σ,τ,h=>by
  simp only[BL,mem_append] at h
  simp only[gB]; rw[ay C a σ τ λy g=>h y (.inl g),ay C b σ τ λy g=>h y (.inr g)]
 | .shi a b,σ,τ,h=>by
  simp only[AU,mem_append] at h
  simp only[gQ]; rw[ay C a σ τ λy g=>h y (.inl g),ay C b σ τ λy g=>h y (.inr g)]
 | .attr a n,σ,τ,h=>by simp only[lK] at h; simp only[fx]; rw[ay C a σ τ h]
 | .bi1 f a,σ,τ,h=>by simp only[Cj] at h; simp only[fL]; rw[ay C a σ τ h]
 | .bi2 f a b,σ,τ,h=>by
  simp only[Bt,mem_append] at h
  simp only[gS]; rw[ay C a σ τ λy g=>h y (.inl g),ay C b σ τ λy g=>h y (.inr g)]
 | .listR a,σ,τ,h=>by simp only[wj] at h; simp only[eI]; rw[ay C a σ τ h]
 | .isi a t,σ,τ,h=>by simp only[A1] at h; simp only[gO]; rw[ay C a σ τ h]
 | .call f es,σ,τ,h=>by simp only[j6] at h; simp only[fI]; rw[f8 C es σ τ h]
 | .meth a m es,σ,τ,h=>by
  simp only[xM,mem_append] at h
  simp only[d8]; rw[ay C a σ τ λy g=>h y (.inl g),f8 C es σ τ λy g=>h y (.inr g)]
 | .order x _,σ,τ,h=>by simp only[fW]; rw[h x (by simp[w5])]
termination_by structural e=>e
theorem f8 (C:Calls):∀ (es:Es) (σ τ:St),(∀ y∈fvs es,σ y=τ y)->evs C es σ=evs C es τ
 | .nil,_,_,_=>by simp only[bc]
 | .cons e es,σ,τ,h=>by
  simp only[ip,mem_append] at h
  simp only[bi]; rw[ay C e σ τ λy g=>h y (.inl g),f8 C es σ τ λy g=>h y (.inr g)]
termination_by structural es=>es
theorem eY (C:Calls):∀ (it:It) (σ τ:St),(∀ y∈bD it,σ y=τ y)->aZ C it σ=aZ C it τ
 | .e a,σ,τ,h=>by simp only[dh] at h; simp only[jk]; rw[ay C a σ τ h]
 | .r1 a,σ,τ,h=>by simp only[qT] at h; simp only[fM]; rw[ay C a σ τ h]
 | .r2 a b,σ,τ,h=>by
  simp only[pO,mem_append] at h
  simp only[gV]; rw[ay C a σ τ λy g=>h y (.inl g),ay C b σ τ λy g=>h y (.inr g)]
termination_by structural it=>it
end
noncomputable def cK (σ:St) (ns:List String):St:=λx=>if x∈ns then σ x else none
theorem cj (σ:St) (ns:List String):∀ y∈ns,cK σ ns y=σ y:=λy g=>by unfold cK; rw[if_pos g]
theorem oO {M:Model}{A:Around}{E:Value->Shared->Prop}{s:Shared}{a:Addr}{m:Str->Option Value}{name:Str}{v:Value}{T:Value}{Q:Unit->Shared->Prop}(hn:s.heap.Ns a m) (hc:∃ o,s.heap.get? a=some o/\o.cls=T)
  (h:∀ h',h'.Ns a (λx=>if x=name then some v else m x)->Heap.SameBut a s.heap h'->(∃ o,h'.get? a=some o/\o.cls=T)->Q () {s with heap:=h',toks:=s.toks+1 }):wpAny M A (nsSet a name v) Q E s:=by
 refine fR (hn) λo es ep ho hd hk hm=>?_
 clear hn
 refine ae (hc) λo' ho' hT=>?_
 clear hc
 rw[ho] at ho'
 obtain rfl:=Option.some.inj ho'
 have hany:es.any (·.refKey)=false:=by
  rw[Array.any_eq_false']; intro e he; obtain ⟨n,t,h⟩:=hk e he; simp[DictEntry.refKey,h]
 intro Γ p _
 simp only[nsSet,strHash,Sem.wp_bind',Sem.wp_cmd_ask,Sem.wp_pure',Sem.wp_cmd_mkText]
 rw[Sem.wp_loadPart_of M Γ _ p {s with toks:=s.toks+1 } (o:=o) _ ho]
 simp only[hd,aRefKeyMayBeTheName_eq,aRefKeyMayBeTheNameByArray,hany,Bool.and_false,false_eq_true,if_false,Sem.wp_cmd_updatePart]
 refine ⟨by rw[ho]; rfl,h _ ?_ (Heap.SameBut.update ..) ?_⟩
 ·obtain ⟨c,d,dt,sl⟩:=o
  (clear hT ho'; subst hd)
  cases hi:es.findIdx? (·.key.isStr name) with
  | some i=>
   refine (iu _ _ ep (Heap.get?_update_self _ ho (by simp only[Obj.putName_eq,Obj.putNameByArray,hi]; rfl)) (by simp only[Obj.putName_eq,Obj.putNameByArray,hi]; rfl) (hk.modify _ _) (λx=>?_))
   show _=if x=name then some v else m x
   rw[<- hm]; exact findBy_modify (λn v=>v.isStr n) Value.isStr_inj es name x v i hi
  | none=>
   refine (iu _ _ (ep+1) (Heap.get?_update_self _ ho (by simp only[Obj.putName_eq,Obj.putNameByArray,hi]; rfl)) (by simp only[Obj.putName_eq,Obj.putNameByArray,hi]; rfl) (hk.push _ _ _ _) (λx=>?_))
   show _=if x=name then some v else m x
   rw[<- hm]
   exact findBy_push (λn v=>v.isStr n) es name x _ _ v (λy=>by
    show (name==y)=decide (y=name)
    by_cases h:y=name
    ·(clear hi; subst h); simp
    ·have:¬ name=y:=λe=>h e.symm
     simp[h,this]) hi
 ·obtain ⟨c,d,dt,sl⟩:=o
  (clear ho'; subst hd)
  cases hi:es.findIdx? (·.key.isStr name) with
  | some i=>exact (af _ (Heap.get?_update_self _ ho (by simp only[Obj.putName_eq,Obj.putNameByArray,hi]; rfl)) (by simp only[Obj.putName_eq,Obj.putNameByArray,hi]; exact hT))
  | none=>exact (af _ (Heap.get?_update_self _ ho (by simp only[Obj.putName_eq,Obj.putNameByArray,hi]; rfl)) (by simp only[Obj.putName_eq,Obj.putNameByArray,hi]; exact hT))
structure Loc (env:Env) (Z:Addr->Prop) (h:Heap) (vals:String->Option Value):Prop where
 cls:∃ o,h.get? env.locals=some o/\o.cls = .type "frame"
 ns:∃ m,h.Ns env.locals m/\∀ x v,vals x=some v->env.kindOf (Str.ofString x)=some .local->m (Str.ofString x)=some v
 nz:¬ Z env.locals
 cell:∀ n c,env.kindOf n=some .cell->env.cells.lookup n=some c->c≠env.locals/\¬ Z c/\∃ v,h.IsCell c v
 cval:∀ x v c,vals x=some v->env.kindOf (Str.ofString x)=some .cell->env.cells.lookup (Str.ofString x)=some c->h.IsCell c (some v)
 apart:∀ n n' c,env.cells.lookup n=some c->env.cells.lookup n' = some c->n=n'
 kinds:∀ x v,vals x=some v->env.kindOf (Str.ofString x)=some .local\/env.kindOf (Str.ofString x)=some .cell
noncomputable def gb (vals:String->Option Value) (x:String) (v:Value):String->Option Value:=λy=>if y=x then some v else vals y
noncomputable def yr (T:Addr) (h h':Heap):Prop:=(∃ v,h.IsCell T v)->∀ o,h.get? T=some o->∃ o',h'.get? T=some o'/\o'.cls=o.cls/\o'.dict=o.dict/\∀ c,o'.data≠.cls c
theorem yD {M:Model}{A:Around}{E:Value->Shared->Prop}{s:Shared}{env:Env}{name:Str}{c:Addr}{l:Option Value}{v:Value}{Q:Unit->Shared->Prop}(hk:env.scope.kind = .function) (hl:env.kindOf name=some .cell) (hc:env.cells.lookup name=some c) (hv:s.heap.IsCell c l)
  (h:∀ h',h'.IsCell c (some v)->Heap.SameBut c s.heap h'->yr c s.heap h'->Q () {s with heap:=h' }):wpAny M A (storeName env name v) Q E s:=by
 unfold storeName
 simp only[hl,hk]
 refine wpAny_bind (wpAny_cellOf hc ?_)
 refine ae (hv) λo g j=>?_
 clear hv
 unfold cellSet
 refine wpAny_bind (wpAny_load g ?_)
 rw[j]
 refine wpAny_update g (h _ (af ({o with data:=.cell (some v) }) (Heap.get?_update_self _ g rfl) rfl) (.update ..) λuu k e=>?_)
 rw[g] at e; (have i:=Option.some.inj e; clear e; subst i)
 exact (bU ({o with data:=.cell (some v) }) (Heap.get?_update_self _ g rfl) rfl rfl (λuu q=>by cases q))
noncomputable def Spot (env:Env) (h:Heap) (T:Addr):Prop:=(T=env.locals/\∃ m,h.Ns T m)\/∃ v,h.IsCell T v
theorem Spot.noseq (t:Spot env h T) (o:Obj) (e:h.get? T=some o) (vs:Array Value) (n:Nat):o.data≠.seq vs n:=by
 intro q
 rcases t with ⟨_,m,o',es,ep,e',hd,_⟩ | ⟨v,o',e',hd⟩
 ·rw[e'] at e; (have g:=Option.some.inj e; clear e; subst g); rw[hd] at q; cases q
 ·rw[e'] at e; (have g:=Option.some.inj e; clear e; subst g); rw[hd] at q; cases q
theorem Spot.nostay (t:Spot env h T) (o:Obj) (e:h.get? T=some o):¬ Stay o:=by
 rcases t with ⟨_,m,o',es,ep,e',hd,_⟩ | ⟨v,o',e',hd⟩
 ·rw[e'] at e; (have g:=Option.some.inj e; clear e; subst g); exact Stay.not_dict hd
 ·rw[e'] at e; (have g:=Option.some.inj e; clear e; subst g); exact Stay.not_data (λuu q=>by rw[hd] at q; cases q) λuu uu q=>by rw[hd] at q; cases q
section
theorem Loc.onK {env:Env}{Z:Addr->Prop}{h h':Heap}{vals:String->Option Value}(L:Loc env Z h vals) (kp:K h h'):Loc env Z h' vals where
 cls:=ae (L.cls) λo e c=>ae (kp _ o (.inl trivial) e) λg i l=>(af g i (l.cls.trans c))
 ns:=ae (L.ns) λm a b=>(af m (gh a kp) b)
 nz:=L.nz
 cell:=λn c a b=>let ⟨h1,h2,v,h3⟩:=L.cell n c a b; (cA h1 h2 (bT v (jn h3 kp)))
 cval:=λx v c a b d=>jn (L.cval x v c a b d) kp
 apart:=L.apart
 kinds:=L.kinds
theorem Loc.var (L:Loc env Z h vals) (eok:EnvOk env) (hv:vals x=some v):VarIs h env (Str.ofString x) v:=by
 rcases L.kinds x v hv with hk | hk
 ·refine ae (L.ns) λm a b=>?_
  exact .loc m hk a (b x v hv hk)
 ·refine ai (eok.cells _ (.inl hk)) λc g=>?_
  exact .cell c (.inl hk) g (L.cval x v c hv hk g)
theorem Loc.store (L:Loc env Z s.heap vals) (eok:EnvOk env)
  (hx:env.kindOf (Str.ofString x)=some .local\/env.kindOf (Str.ofString x)=some .cell)
  (hQ:∀ T h' tk,Heap.SameBut T s.heap h'->Spot env s.heap T->yr T s.heap h'->¬ Z T->Loc env Z h' (gb vals x v)->Q () {s with heap:=h',toks:=tk }):wpAny (model prog w) A (storeName env (Str.ofString x) v) Q Er s:=by
 have inj:∀ y,Str.ofString y=Str.ofString x->y=x:=λy e=>cy e
 have kinds':∀ y u,gb vals x v y=some u->env.kindOf (Str.ofString y)=some .local\/env.kindOf (Str.ofString y)=some .cell:=λy u hu=>by
  unfold gb at hu
  split at hu
  ·rename_i e; (clear hQ inj; subst e); exact hx
  ·exact L.kinds y u hu
 refine ae (L.ns) λm hm hmv=>?_
 rcases hx with hk | hk
 ·rw[storeName_local hk (by rw[eok.kind]; rfl)]
  refine oO hm L.cls (λh' hn hs hcl=>hQ env.locals h' _ hs (.inl (aH rfl (bT m hm))) (λ⟨u,o,e,q⟩=>by obtain ⟨o',es,ep,e',q',_⟩:=hm; rw[e] at e'; (have oc:=Option.some.inj e'; clear e'; subst oc); rw[q] at q'; cases q') L.nz ?_)
  refine ⟨hcl,(af _ hn (λy u hu hky=>?_)),L.nz,λn c hkn hc=>?_,λy u c hu hky hc=>?_,L.apart,kinds'⟩
  ·unfold gb at hu
   split at hu
   ·rename_i e; (clear hQ hk hn inj kinds'; subst e); (have oc:=Option.some.inj hu; clear hu; subst oc); simp
   ·rename_i e
    rw[if_neg λq=>e (inj y q)]
    exact hmv y u hu hky
  ·refine aG (L.cell n c hkn hc) λh1 h2 Md=>?_
   refine au (Md) λu o h3 h4=>?_
   clear Md
   exact (cA h1 h2 (aC u o (hs.extBut c o h1 h3) h4))
  ·unfold gb at hu
   split at hu
   ·rename_i e; (clear hQ hn inj kinds'; subst e); rw[hk] at hky; cases hky
   ·refine aa (L.cell _ c hky hc) λh1 _=>?_
    refine ae (L.cval y u c hu hky hc) λo h3 h4=>?_
    exact (af o (hs.extBut c o h1 h3) h4)
 ·refine ai (eok.cells _ (.inl hk)) λco hco=>?_
  refine aG (L.cell _ co hk hco) λh1 h2 My=>?_
  refine ai (My) λg h3=>?_
  clear My
  refine yD eok.kind hk hco h3 λh' hn hs hkp=>hQ co h' s.toks hs (.inr ⟨g,h3⟩) hkp h2 ?_
  refine ⟨(ae (L.cls) λo e c=>(af o (hs.extBut _ o (Ne.symm h1) e) c)),(af m (hm.sameBut hs (Ne.symm h1)) (λy u hu hky=>?_)),L.nz,λn c hkn hc=>?_,λy u c hu hky hc=>?_,L.apart,kinds'⟩
  ·unfold gb at hu
   split at hu
   ·rename_i e; (clear hQ hco inj kinds'; subst e); rw[hk] at hky; cases hky
   ·exact hmv y u hu hky
  ·refine aG (L.cell n c hkn hc) λg1 g2 Lz=>?_
   refine au (Lz) λu o g3 g4=>?_
   clear Lz
   by_cases e:c=co
   ·(clear h1 h2 h3 hco hkp hs; subst e); exact (cA g1 g2 (bT _ hn))
   ·exact (cA g1 g2 (aC u o (hs.extBut c o e g3) g4))
  ·unfold gb at hu
   split at hu
   ·rename_i e; (clear hQ hk inj kinds'; subst e); (have oc:=Option.some.inj hu; clear hu; subst oc)
    rw[hco] at hc; (have oc:=Option.some.inj hc; clear hc; subst oc)
    exact hn
   ·rename_i e
    refine ae (L.cval y u c hu hky hc) λo g3 g4=>?_
    refine (af o (hs.extBut c o (λq=>?_) g3) g4)
    (clear h1 h2 h3 hkp hn hs; subst q)
    exact e (inj y (L.apart _ _ c hc hco))
theorem RV.spot (r:RV h v x as) (tt:Spot env h T) (hkp:yr T h h') (hL:∀ a∈as,a≠env.locals) (hs:Heap.SameBut T h h'):RV h' v x as:=by
 have i:∀ b o,b≠T->h.get? b=some o->h'.get? b=some o:=λb o k e=>hs.extBut b o k e
 have l:∀ a∈as,∀ o p z,h.get? a=some o->o.data = .dict p z->a≠T:=λa ha o p z e m q=>by
  (clear hkp hs i; subst q)
  rcases tt with ⟨t,_⟩ | ⟨v,g,e',hd'⟩
  ·exact hL a ha t
  ·rw[e'] at e; (have oc:=Option.some.inj e; clear e; subst oc); rw[hd'] at m; cases m
 have key:∀ ks a,IsTupleKey (intKind prog w) h ks a->IsTupleKey (intKind prog w) h' ks a:=λks a hk=>by
  refine aL (hk) λo it n a1 a2 a3=>?_
  clear hk
  refine (cI o it n (i a o (λq=>?_) a1) a2 a3)
  (clear l hkp hs i; subst q)
  exact tt.noseq o a1 _ _ a3.1
 cases x with
 | d x=>exact ⟨r.1.off (wr:=[T]) (λb k o e=>.inl (by rw[mem_singleton.mp k] at e; exact tt.noseq o e)) λb o k e=>i b o (λq=>k (by simp[q])) e,r.2⟩
 | dic0=>
  refine lj (r) λa h1 h2 h3 K9 K4=>?_
  clear r
  refine fR (K9) λo p z e hx m hr=>?_
  clear K9
  refine cW (K4) λg es' ep' e' h4 h5 h6 h7 h8=>?_
  clear K4
  (clear hL; subst h2)
  have j:=l a (.head _) o p z e m
  exact (jL a h1 rfl h3 (iu o p z (i a o j e) hx m hr) (gz g es' ep' (i a g j e') h4 h5 h6 (λy hy=>key _ _ (h7 y hy)) h8))
 | dicI ks=>
  refine cX (r) λa h1 h2 h3 K8=>?_
  clear r
  refine fR (K8) λo p z e hx m hr=>?_
  clear K8
  (clear hL; subst h2)
  have j:=l a (.head _) o p z e m
  exact (bU a h1 rfl h3 (iu o p z (i a o j e) hx m hr))
 | dicT ks=>
  refine m9 (r) λa xs h1 h2 h3 K5 h9=>?_
  clear r
  refine cW (K5) λg es' ep' e' h4 h5 h6 h7 h8=>?_
  clear K5
  (clear hL; subst h2)
  have j:=l a (.head _) g es' ep' e' h5
  exact (gu a xs h1 rfl h3 (gz g es' ep' (i a g j e') h4 h5 h6 (λy hy=>key _ _ (h7 y hy)) h8) h9.1 h9.2.1 (λx hx=>(h9.2.2 x hx).off (wr:=[T]) (λb k o e=>.inl (by rw[mem_singleton.mp k] at e; exact tt.noseq o e)) λb o k e=>i b o (λq=>k (by simp[q])) e))
 | rule c d n=>
  refine jq (r) λx D o vf bs t u mA h1 h2 h3 h4 h5 h6 h7 K7 h9 h10 h11 h12 h13 h14=>?_
  clear r
  refine bz (K7) λoD p z e m=>?_
  clear K7
  subst h2
  have hneD:D≠T:=l D (.tail _ (.head _)) oD p z e m.1
  have hx:∃ g,h'.get? x=some g/\g.cls = .ref SF.rule/\g.dict=some D/\∀ c,g.data≠.cls c:=by
   by_cases q:x=T
   ·(clear l hneD hs i; subst q)
    revert tt; refine λLH=>Or.elim LH (λLi=>?_) (λtt=>?_)
    ·clear LH
     refine aa (Li) λtt LP=>?_
     clear Li
     exact absurd tt (hL x (.head _))
    ·refine cX (hkp tt o h3) λg k1 k2 k3 k4=>?_
     exact (bU g k1 (k2.trans h4) (k3.trans h6) k4)
   ·exact (bU o (i x o q h3) h4 h6 h5)
  refine cX (hx) λg x1 x2 x3 x4=>?_
  clear hx
  exact (iW x D g vf bs t u mA h1 rfl x1 x2 x4 x3 h7 (cz oD p z (i D oD hneD e) m) h9 h10 h11 h12 (h13.off (wr:=[T]) (λb k o e=>.inl (by rw[mem_singleton.mp k] at e; exact tt.noseq o e)) λb o k e=>i b o (λq=>k (by simp[q])) e) h14)
end
section
variable (fns:Fns) (k:Nat)
structure SOK (h0:Heap) (P Z:Addr->Prop) (A:Around) (env:Env) (h:Heap) (σ:St) (vals:String->Option Value) (fp:String->List Addr):Prop where
 room:Room fns.hand k A
 eok:EnvOk env
 ge:GE fns h0
 z0:∀ b o,h0.get? b=some o->Z b
 kp0:K h0 h
 code:fns.lam=true->∃ q,CodeOk h0 env.code q
 out:fns.hand=false->∃ l,A.frames=some (env::l)/\FrOk h0 l/\env.frame=some env.locals/\¬ SF.old env.locals
 zdom:∀ b,Z b->∃ o,h.get? b=some o
 loc:Loc env Z h vals
 val:∀ x p,σ x=some p->varK env.scope.names x=true/\∃ v,vals x=some v/\RV h v p.1 (fp x)/\∀ a∈fp x,a≠env.locals/\(P a\/h0.get? a=none)
 top:∀ x p,σ x=some p->p.2 = .top->∃ a bs,fp x=a::bs/\¬ Z a/\a∉bs/\∀ y q,y≠x->σ y=some q->a∉fp y
 deep:∀ x p,σ x=some p->p.2 = .deep->(∀ a∈fp x,¬ Z a/\∀ y q,y≠x->σ y=some q->a∉fp y)/\(fp x).Nodup
noncomputable def Stp (Z:Addr->Prop) (s s':Shared):Prop:=∃ h' tk,s' = {s with heap:=h',toks:=tk }/\KG Z s.heap h'
noncomputable def l7 (h0:Heap) (P:Addr->Prop) (r:V×Mode) (v:Value) (s':Shared):Prop :=
 ∃ as,RV s'.heap v r.1 as/\(∀ a∈as,P a\/h0.get? a=none)/\(r.2 = .top->∃ a bs,as=a::bs/\h0.get? a=none/\a∉bs)/\(r.2 = .deep->(∀ a∈as,h0.get? a=none)/\as.Nodup)
end
theorem Stp.refl (Z:Addr->Prop) (s:Shared):Stp Z s s:=(aC s.heap s.toks rfl KG.refl)
theorem Stp.trans (a:Stp Z s s₁) (b:Stp Z s₁ sb):Stp Z s sb:=by
 refine au (a) λh t i k=>?_
 clear a
 subst i
 refine au (b) λm j g l=>?_
 clear b
 subst g
 exact (aC m j rfl (k.trans l))
theorem Kp.stp (a:Kp s s₁):Stp Z s s₁:=by
 refine au (a) λh t g k=>?_
 clear a
 subst g
 exact (aC h t rfl (k.mono λuu uu=>trivial))
theorem Stp.mono (a:Stp Z' s s₁) (h:∀ b,Z b->Z' b):Stp Z s s₁:=by
 refine au (a) λi t g k=>?_
 clear a
 subst g
 exact (aC i t rfl (k.mono h))
theorem Stp.same (st:Stp Z s s₁) (hs:Heap.SameBut a s₁.heap h') (hz:¬ Z a) (hn:∀ o,s₁.heap.get? a=some o->¬ Stay o):Stp Z s {s₁ with heap:=h',toks:=tk }:=by
 refine au (st) λh t g k=>?_
 clear st
 subst g
 exact (aC h' tk rfl (k.trans (KG.same hs hz hn)))
section
theorem SOK.onK (K:SOK fns k h0 P Z A env h σ vals fp) (kp:KG (λuu=>True) h h'):SOK fns k h0 P Z A env h' σ vals fp where
 room:=K.room
 eok:=K.eok
 ge:=K.ge
 z0:=K.z0
 kp0:=KG.trans K.kp0 kp
 code:=K.code
 out:=K.out
 zdom:=λb i=>ai (K.zdom b i) λuu e=>Internal.K.there kp e
 loc:=K.loc.onK kp
 val:=λx p g=>let ⟨a,v,b,c,d⟩:=K.val x p g; (aH a (aw v b (c.k kp) d))
 top:=K.top
 deep:=K.deep
theorem SOK.h0n (K:SOK fns k h0 P Z A env h σ vals fp) (ha:¬ Z a):h0.get? a=none:=by
 cases q:h0.get? a with
 | none=>rfl
 | some o=>exact absurd (K.z0 a o q) ha
theorem gH (h:(mk v).2 = .deep):tU v=true:=by
 unfold mk at h; dsimp only at h
 split at h
 ·assumption
 ·cases h
theorem jf:(mk v).2≠.top:=by
 unfold mk; dsimp only; split<;>simp
theorem RV.scal_nil (r:RV h v x as) (hs:tU x=true):as=[]:=by
 cases x with
 | d x=>exact r.1.sx_nil hs
 | _=>exact nF hs
theorem ck (h:demote σ ns x=some p):∃ q,σ x=some q/\p.1=q.1/\((x∈ns/\p=mk q.1)\/(x∉ns/\p=q)):=by
 unfold demote at h
 split at h
 ·refine bl h λq i g=>?_
  subst g
  exact (aw q i rfl (.inl ⟨by assumption,rfl⟩))
 ·exact (aw p h rfl (.inr ⟨by assumption,rfl⟩))
theorem fh {σ:St}{ns:List String}{x:String}{p:V×Mode}{G:Prop}(h:demote σ ns x=some p) (k:∀ q,σ x=some q->p.1=q.1->((x∈ns/\p=mk q.1)\/(x∉ns/\p=q))->G):G:=am (ck h) k
theorem SOK.demote (K:SOK fns k h0 P Z A env h σ vals fp) (ns:List String):SOK fns k h0 P Z A env h (demote σ ns) vals fp where
 room:=K.room
 eok:=K.eok
 ge:=K.ge
 z0:=K.z0
 kp0:=K.kp0
 code:=K.code
 out:=K.out
 zdom:=K.zdom
 loc:=K.loc
 val:=λx p m=>by
  refine fh m λq j e _=>?_
  rw[e]
  exact K.val x q j
 top:=λx p m ht=>by
  refine fh m λq j e u=>?_
  rcases u with ⟨_,rfl⟩ | ⟨_,rfl⟩
  ·exact absurd ht jf
  ·refine bg (K.top x p j ht) λa bs n z h3 h4=>?_
   refine (bF a bs n z h3 (λy r t l=>?_))
   refine ae (ck l) λo i _=>?_
   exact h4 y o t i
 deep:=λx p m hd=>by
  refine fh m λq j e u=>?_
  rcases u with ⟨_,rfl⟩ | ⟨_,rfl⟩
  ·refine aa (K.val x q j) λuu g=>?_
   refine am (g) λv _ l _=>?_
   clear g
   rw[l.scal_nil (gH hd)]
   exact ⟨λuu h=>(nomatch h),.nil⟩
  ·refine aa (K.deep x p j hd) λn z=>?_
   refine ⟨λa ha=>⟨(n a ha).1,λy r t l=>?_⟩,z⟩
   refine ae (ck l) λo i _=>?_
   exact (n a ha).2 y o t i
theorem SOK.consume (K:SOK fns k h0 P Z A env h σ vals fp) (ns:List String) (m:Mode):SOK fns k h0 P Z A env h (consume σ ns m) vals fp:=by
 unfold Internal.consume
 split
 ·exact K
 ·exact K.demote ns
noncomputable def Own (σ:St) (fp:String->List Addr) (ns:List String) (a:Addr):Prop:=∃ y q,y∈ns/\σ y=some q/\a∈fp y
theorem SOK.cx {s:Shared}(K:SOK fns k h0 P Z A env s.heap σ vals fp) (ns:List String):Cx fns k A (Own σ fp ns) s.heap env (cK σ ns) where
 room:=K.room
 eok:=K.eok
 ge:=K.ge.k K.kp0
 code:=λe=>ai (K.code e) λq c=>⟨q,c.k K.kp0⟩
 frm:=λe=>by
  refine cX (K.out e) λl h1 h2 h3 h4=>?_
  refine (af _ h1 (λj he=>?_))
  rcases mem_cons.mp he with rfl | he
  ·refine ae (K.loc.ns) λm h _=>?_
   refine aL (h) λo es ep r e2 _=>?_
   clear h
   refine ae (K.loc.cls) λo' n e4=>?_
   rw[r] at n; (have t:=Option.some.inj n; clear n; subst t)
   exact (aH K.eok.kind (kZ _ _ es ep h3 h4 r e4 e2))
  ·exact (h2.k K.kp0) j he
 vars:=λx p i _=>by
  unfold cK at i
  split at i
  ·refine aa (K.val x p i) λuu g=>?_
   refine am (g) λv u y _=>?_
   clear g
   exact (aU v (fp x) (K.loc.var K.eok u) y (λa z=>(aU x p ‹_› i z)))
  ·exact nN i
theorem SOK.eval (K:SOK fns k h0 P Z A env s.heap σ vals fp) (S:SimE fns k C XP e) (ok:okE env.scope.names e exx=true) (he:ev C e σ = .ok r)
  (hQ:∀ v s',EP (Own σ fp (fv e)) s r v s'->Q v s'):wpAny (model prog w) A (eval exx env) Q Er s:=by
 have h:ev C e (cK σ (fv e)) = .ok r:=by rw[ay C e _ σ (cj σ (fv e))]; exact he
 exact S ok (K.cx (fv e)) (by rw[h]; simp) (λl g v s' E=>by rw[h] at g; (have j:=Out.ok.inj g; clear g; subst j); exact hQ v s' E) λc i=>by rw[h] at i; cases i
theorem SOK.evalT (K:SOK fns k h0 P Z A env s.heap σ vals fp) (S:SimT fns k C XP e) (ok:okE env.scope.names e exx=true) (he:((ev C e σ).bind λr=>ao r.1) = .ok b)
  (hQ:∀ s',Kp s s'->Q b s'):wpAny (model prog w) A (isTrue exx env (PySem.eval exx env)) Q Er s:=by
 have h:ev C e (cK σ (fv e))=ev C e σ:=ay C e _ σ (cj σ (fv e))
 refine S ok (K.cx (fv e)) (by rw[h,he]; simp) (λm g s' l=>by rw[h,he] at g; (have j:=Out.ok.inj g; clear g; subst j); exact hQ s' l) λc i=>?_
 rw[h] at i; rw[i] at he; exact nE he
theorem SOK.own (K:SOK fns k h0 P Z A env h σ vals fp) (ha:Own σ fp ns a):(∃ o,h.get? a=some o)/\a≠env.locals/\(P a\/h0.get? a=none):=by
 refine az (ha) λy q _ l i=>?_
 clear ha
 refine aa (K.val y q l) λuu g=>?_
 refine am (g) λv _ j m=>?_
 clear g
 exact ⟨j.there a i,m a i⟩
noncomputable def Frm (Z:Addr->Prop) (xs:List String) (σ:St) (vals:String->Option Value) (fp:String->List Addr) (σ':St) (vals':String->Option Value) (fp':String->List Addr):Prop :=
 (∀ y,y∉xs->vals' y=vals y/\fp' y=fp y)/\∀ b,Z b->(∀ z q,σ z=some q->b∉fp z)->∀ z q,σ' z=some q->b∉fp' z
section
theorem Frm.id (h:∀ z q,σa z=some q->∃ q',σ z=some q'):Frm Z xs σ vals fp σa vals fp :=
 ⟨λuu uu=>⟨rfl,rfl⟩,λb _ j z q i=>ai (h z q i) λq' g=>j z q' g⟩
theorem Frm.more (f:Frm Z xs σ vals fp σa valsa fpa) (h:∀ y∈xs,y∈ys):Frm Z ys σ vals fp σa valsa fpa:=⟨λy g=>f.1 y λq=>g (h y q),f.2⟩
theorem Frm.trans (f:Frm Z xs σ vals fp σa valsa fpa) (g:Frm Z ys σa valsa fpa σb valsb fpb):Frm Z (xs++ys) σ vals fp σb valsb fpb :=
 ⟨λy i=>let a:=f.1 y λq=>i (mem_append_left _ q); let b:=g.1 y λq=>i (mem_append_right _ q); ⟨b.1.trans a.1,b.2.trans a.2⟩,λb h j=>g.2 b h (f.2 b h j)⟩
theorem Frm.less (f:Frm Z' xs σ vals fp σa valsa fpa) (h:∀ b,Z b->Z' b):Frm Z xs σ vals fp σa valsa fpa:=⟨f.1,λb g=>f.2 b (h b g)⟩
theorem Frm.one (hv:∀ y,y≠x->valsa y=vals y) (h:∀ z q,σa z=some q->∃ q',σ z=some q') (ha:∀ b∈as,Z b->∃ z q,σ z=some q/\b∈fp z) :
  Frm Z [x] σ vals fp (upd σa x r) valsa (λy=>if y=x then as else fp y):=by
 refine ⟨λy l=>⟨hv y λq=>l (by simp[q]),if_neg λq=>l (by simp[q])⟩,λb o m z q j g=>?_⟩
 unfold upd at j
 dsimp only at g
 by_cases e:z=x
 ·have k:b∈as:=by rwa [if_pos e] at g
  refine au (ha b k o) λn q' t p=>?_
  exact m n q' t p
 ·rw[if_neg e] at j g
  refine ai (h z q j) λq' i=>?_
  exact m z q' i g
end
theorem dE (hq:Internal.consume σ ns m y=some q):∃ q',σ y=some q':=by
 unfold Internal.consume at hq
 split at hq
 ·exact ⟨q,hq⟩
 ·obtain ⟨q',g,_⟩:=ck hq; exact ⟨q',g⟩
theorem SOK.put (K:SOK fns k h0 P Z A env s.heap σ vals fp)
  (hvk:varK env.scope.names x=true) (hk:env.kindOf (Str.ofString x)=some .local\/env.kindOf (Str.ofString x)=some .cell)
  (rv:RV s.heap v r.1 as) (ha:∀ a∈as,a≠env.locals/\(P a\/h0.get? a=none))
  (ht:r.2 = .top->∃ a bs,as=a::bs/\¬ Z a/\a∉bs/\∀ y q,y≠x->σ y=some q->a∉fp y) (hd:r.2 = .deep->(∀ a∈as,¬ Z a/\∀ y q,y≠x->σ y=some q->a∉fp y)/\as.Nodup)
  (hdis:∀ y q,y≠x->σ y=some q->(q.2 = .top->∀ a bs,fp y=a::bs->a∉as)/\(q.2 = .deep->∀ a∈fp y,a∉as))
  (hQ:∀ s',Stp Z s s'->(∀ b o,b≠env.locals->(∀ u,o.data≠.cell u)->s.heap.get? b=some o->s'.heap.get? b=some o)->SOK fns k h0 P Z A env s'.heap (upd σ x r) (gb vals x v) (λy=>if y=x then as else fp y)->Q () s'):wpAny (model prog w) A (storeName env (Str.ofString x) v) Q Er s:=by
 refine K.loc.store K.eok hk λT h' tk hs hT hKp hZ L=>hQ _ ((Stp.refl Z s).same hs hZ hT.nostay) (λb o hb hc e=>hs.extBut b o (λq=>?_) e) ?_
 ·rcases hT with ⟨hT,_⟩ | ⟨u,o',e',hd'⟩
  ·exact hb (q.trans hT)
  ·(clear hKp hZ hs; subst q)
   rw[e'] at e; (have t:=Option.some.inj e; clear e; subst t)
   exact hc u hd'
 have h0n:∀ a,¬ Z a->h0.get? a=none:=λa ha=>by
  cases q:h0.get? a with
  | none=>rfl
  | some o=>exact absurd (K.z0 a o q) ha
 have kz:∀ b o,Z b->s.heap.get? b=some o->h'.get? b=some o:=λb o hb e=>hs.extBut b o (λq=>hZ (q▸hb)) e
 refine ⟨K.room,K.eok,K.ge,K.z0,Internal.K.same K.kp0 hs (h0n _ hZ) hT.nostay,K.code,K.out,λb hb=>ai (K.zdom b hb) λo e=>⟨o,kz b o hb e⟩,L,λy p g=>?_,λy p g htp=>?_,λy p g hdp=>?_⟩
 ·unfold upd at g
  by_cases hy:y=x
  ·(clear L hQ hd hdis hk ht; subst hy)
   rw[if_pos rfl] at g; (have t:=Option.some.inj g; clear g; subst t)
   refine (aH hvk (aw v (by simp[gb]) ?_ ?_))
   ·rw[if_pos rfl]; exact rv.spot hT hKp (λa h=>(ha a h).1) hs
   ·rw[if_pos rfl]; exact ha
  ·rw[if_neg hy] at g
   refine aa (K.val y p g) λj l=>?_
   refine am (l) λu n h3 h4=>?_
   clear l
   refine (aH j (aw u (by simpa [gb,hy] using n) ?_ ?_))
   ·rw[if_neg hy]; exact h3.spot hT hKp (λa h=>(h4 a h).1) hs
   ·rw[if_neg hy]; exact h4
 ·unfold upd at g
  by_cases hy:y=x
  ·(clear L hQ hd hdis hk hvk; subst hy)
   rw[if_pos rfl] at g; (have t:=Option.some.inj g; clear g; subst t)
   refine bg (ht htp) λa bs j n h3 h4=>?_
   refine (bF a bs (by rw[if_pos rfl]; exact j) n h3 (λz q m i=>?_))
   unfold upd at i
   rw[if_neg m] at i ⊢
   exact h4 z q m i
  ·rw[if_neg hy] at g
   refine bg (K.top y p g htp) λa bs j n h3 h4=>?_
   refine (bF a bs (by rw[if_neg hy]; exact j) n h3 (λz q m i=>?_))
   unfold upd at i
   by_cases hzx:z=x
   ·rw[if_pos hzx]
    exact (hdis y p hy g).1 htp a bs j
   ·rw[if_neg hzx] at i ⊢
    exact h4 z q m i
 ·unfold upd at g
  by_cases hy:y=x
  ·(clear L hQ hdis hk ht hvk; subst hy)
   rw[if_pos rfl] at g; (have t:=Option.some.inj g; clear g; subst t)
   refine aa (hd hdp) λj n=>?_
   rw[if_pos rfl]
   refine ⟨λa h=>⟨(j a h).1,λz q m i=>?_⟩,n⟩
   unfold upd at i
   rw[if_neg m] at i ⊢
   exact (j a h).2 z q m i
  ·rw[if_neg hy] at g ⊢
   refine aa (K.deep y p g hdp) λj n=>?_
   refine ⟨λa h=>⟨(j a h).1,λz q m i=>?_⟩,n⟩
   unfold upd at i
   by_cases hzx:z=x
   ·rw[if_pos hzx]
    exact (hdis y p hy g).2 hdp a h
   ·rw[if_neg hzx] at i ⊢
    exact (j a h).2 z q m i
theorem SOK.put_ep (K:SOK fns k h0 P Z A env s.heap σ vals fp)
  (hvk:varK env.scope.names x=true) (hk:env.kindOf (Str.ofString x)=some .local\/env.kindOf (Str.ofString x)=some .cell) (E:EP (Own σ fp ns) s r v s₁)
  (hQ:∀ s' as,RV s₁.heap v r.1 as->Stp Z s₁ s'->(∀ b o,b≠env.locals->(∀ u,o.data≠.cell u)->s₁.heap.get? b=some o->s'.heap.get? b=some o)->SOK fns k h0 P Z A env s'.heap (upd (Internal.consume σ ns r.2) x r) (gb vals x v) (λy=>if y=x then as else fp y)->Frm Z [x] σ vals fp (upd (Internal.consume σ ns r.2) x r) (gb vals x v) (λy=>if y=x then as else fp y)->Q () s'):wpAny (model prog w) A (storeName env (Str.ofString x) v) Q Er s₁:=by
 obtain ⟨kp,as,rv,ha,ht,hd⟩:=E
 have K₁:=(K.onK kp.k).consume ns r.2
 have nz:∀ a,s.heap.get? a=none->¬ Z a:=λa e hz=>by
  refine ai (K.zdom a hz) λo t=>?_
  rw[e] at t; exact nN t
 have nf:∀ a,s.heap.get? a=none->∀ y q,σ y=some q->a∉fp y:=λa e y q i hm=>by
  refine aa (K.val y q i) λuu n=>?_
  refine am (n) λu _ hr _=>?_
  clear n
  refine ai (hr.there a hm) λo t=>?_
  rw[e] at t; exact nN t
 have cs:∀ y q,Internal.consume σ ns r.2 y=some q->∃ l,σ y=some l:=λy q i=>by
  unfold Internal.consume at i
  split at i
  ·exact ⟨q,i⟩
  ·obtain ⟨l,g,_⟩:=ck i; exact ⟨l,g⟩
 refine ae (K.loc.ns) λmL hmL _=>?_
 refine K₁.put hvk hk rv (λa h=>?_) (λhtop=>?_) (λhdeep=>?_) (λy q hy i=>?_) (λs' st kk K'=>hQ s' as rv st kk K' (.one (λy hy=>if_neg hy) (λz q i=>dE i) λb hb hz=>(ha b hb).elim (λ⟨y,q,_,h1,h2⟩=>(aC y q h1 h2)) λe=>absurd hz (nz b e)))
 ·rcases ha a h with h1 | h1
  ·exact (K.own h1).2
  ·refine ⟨λq=>?_,.inr ?_⟩
   ·refine bz (hmL) λo _ _ e _=>?_
    clear hmL
    rw[<- q] at e
    rw[h1] at e; exact nN e
   ·cases e:h0.get? a with
    | none=>rfl
    | some o=>obtain ⟨_,t⟩:=Internal.K.there K.kp0 e; rw[t] at h1; exact nM h1
 ·refine az (ht htop) λa bs h1 h2 h3=>?_
  exact (bF a bs h1 (nz a h2) h3 (λy q _ i=>ai (cs y q i) λl g=>nf a h2 y l g))
 ·refine aa (hd hdeep) λh1 h2=>?_
  exact ⟨λa h=>⟨nz a (h1 a h),λy q _ i=>ai (cs y q i) λl g=>nf a (h1 a h) y l g⟩,h2⟩
 ·have main:∀ a,(a∈as)->(∀ y' l,σ y' = some l->a∈fp y'->y'≠y\/(y'∈ns/\r.2≠.deep))\/True:=λuu uu=>.inr trivial
  clear main
  by_cases hdp:r.2 = .deep
  ·have h1:=(hd hdp).1
   refine ai (cs y q i) λl g=>?_
   exact ⟨λuu a bs e hm=>nf a (h1 a hm) y l g (by rw[e]; exact .head _),λuu a j hm=>nf a (h1 a hm) y l g j⟩
  ·have hq2:Internal.demote σ ns y=some q:=by unfold Internal.consume at i; rwa [if_neg hdp] at i
   refine fh hq2 λl g e1 hc=>?_
   rcases hc with ⟨_,rfl⟩ | ⟨hn,rfl⟩
   ·refine ⟨λh=>absurd h jf,λh a j=>?_⟩
    refine aa (K.val y l g) λuu m=>?_
    refine am (m) λu _ hr _=>?_
    clear m
    rw[hr.scal_nil (gH h)] at j
    cases j
   ·refine ⟨λh a bs e hm=>?_,λh a j hm=>?_⟩
    ·refine Or.elim (ha a hm) (λLi=>?_) (λh1=>?_)
     ·refine az (Li) λz p hz hp hf=>?_
      clear Li
      refine bg (K.top y q g h) λa' bs' t _ _ h4=>?_
      rw[e] at t; cases t
      exact h4 z p (λq=>hn (q▸hz)) hp hf
     ·exact nf a h1 y q g (by rw[e]; exact .head _)
    ·refine Or.elim (ha a hm) (λLk=>?_) (λh1=>?_)
     ·refine az (Lk) λz p hz hp hf=>?_
      clear Lk
      exact ((K.deep y q g h).1 a j).2 z p (λq=>hn (q▸hz)) hp hf
     ·exact nf a h1 y q g j
theorem SOK.freeze (K:SOK fns k h0 P Z A env h σ vals fp) {G:Addr->Prop}(hdom:∀ b,G b->∃ o,h.get? b=some o) (hL:¬ G env.locals) (hc:∀ n c,env.kindOf n=some .cell->env.cells.lookup n=some c->¬ G c)
  (ht:∀ x p,σ x=some p->p.2 = .top->∀ a bs,fp x=a::bs->¬ G a) (hd:∀ x p,σ x=some p->p.2 = .deep->∀ a∈fp x,¬ G a):SOK fns k h0 P (λb=>Z b\/G b) A env h σ vals fp where
 room:=K.room
 eok:=K.eok
 ge:=K.ge
 z0:=λb o e=>.inl (K.z0 b o e)
 kp0:=K.kp0
 code:=K.code
 out:=K.out
 zdom:=λb y=>y.elim (K.zdom b) (hdom b)
 loc:={K.loc with
  nz:=λq=>q.elim K.loc.nz hL
  cell:=λn c a b=>by
   refine aG (K.loc.cell n c a b) λi m g=>?_
   refine au (g) λv o u t=>?_
   clear g
   exact (cA i (λq=>q.elim m (hc n c a b)) (aC v o u t)) }
 val:=K.val
 top:=λx p l j=>by
  refine bg (K.top x p l j) λa bs i m u t=>?_
  exact (bF a bs i (λq=>q.elim m (ht x p l j a bs i)) u t)
 deep:=λx p l j=>by
  refine aa (K.deep x p l j) λi m=>?_
  exact ⟨λa r=>⟨λq=>q.elim (i a r).1 (hd x p l j a r),(i a r).2⟩,m⟩
theorem SOK.thaw {Z':Addr->Prop}(K:SOK fns k h0 P Z' A env h σ vals fp) (hz:∀ b,Z b->Z' b) (h0z:∀ b o,h0.get? b=some o->Z b):SOK fns k h0 P Z A env h σ vals fp where
 room:=K.room
 eok:=K.eok
 ge:=K.ge
 z0:=h0z
 kp0:=K.kp0
 code:=K.code
 out:=K.out
 zdom:=λb t=>K.zdom b (hz b t)
 loc:={K.loc with
  nz:=λq=>K.loc.nz (hz _ q)
  cell:=λn c a b=>by
   refine aG (K.loc.cell n c a b) λg i m=>?_
   exact ⟨g,λq=>i (hz _ q),m⟩ }
 val:=K.val
 top:=λx p l j=>by
  refine bg (K.top x p l j) λa v g i m u=>?_
  exact (bF a v g (λq=>i (hz _ q)) m u)
 deep:=λx p l j=>by
  refine aa (K.deep x p l j) λg i=>?_
  exact ⟨λa r=>⟨λq=>(g a r).1 (hz _ q),(g a r).2⟩,i⟩
end
section
theorem RV.offA (r:RV h v x as) (ho:h.get? a=some o) (hc:o.cls≠.type "tuple") (hn:a∉as) (hs:Heap.SameBut a h h'):RV h' v x as:=by
 have k:∀ b o,b≠a->h.get? b=some o->h'.get? b=some o:=λb o i e=>hs.extBut b o i e
 have key:∀ ks b,IsTupleKey (intKind prog w) h ks b->IsTupleKey (intKind prog w) h' ks b:=λks b hk=>by
  refine aL (hk) λj it n a1 a2 a3=>?_
  clear hk
  refine (cI j it n (k b j (λq=>?_) a1) a2 a3)
  (clear hn hs k; subst q)
  rw[ho] at a1; (have l:=Option.some.inj a1; clear a1; (clear a3; subst l))
  exact hc a2
 cases x with
 | d x=>exact ⟨r.1.off (wr:=[a]) (λb i j e=>.inr (by
   rw[mem_singleton.mp i] at e ⊢
   rw[ho] at e; (have l:=Option.some.inj e; clear e; subst l)
   exact ⟨hc,hn⟩)) λb o i e=>k b o (λq=>i (by simp[q])) e,r.2⟩
 | dic0=>
  refine lj (r) λb z p m K9 K4=>?_
  clear r
  refine bz (K9) λo es ep e hr=>?_
  clear K9
  refine cW (K4) λj es' ep' e' h4 h5 h6 h7 h8=>?_
  clear K4
  subst p
  have g:b≠a:=λq=>hn (by simp[q])
  exact (jL b z rfl m (cz o es ep (k b o g e) hr) (gz j es' ep' (k b j g e') h4 h5 h6 (λy hy=>key _ _ (h7 y hy)) h8))
 | dicI ks=>
  refine cX (r) λb z p m K8=>?_
  clear r
  refine bz (K8) λo es ep e hr=>?_
  clear K8
  subst p
  have g:b≠a:=λq=>hn (by simp[q])
  exact (bU b z rfl m (cz o es ep (k b o g e) hr))
 | dicT ks=>
  refine m9 (r) λb xs z p m K5 h9=>?_
  clear r
  refine cW (K5) λj es' ep' e' h4 h5 h6 h7 h8=>?_
  clear K5
  subst p
  have g:b≠a:=λq=>hn (by simp[q])
  exact (gu b xs z rfl m (gz j es' ep' (k b j g e') h4 h5 h6 (λy hy=>key _ _ (h7 y hy)) h8) h9.1 h9.2.1 (λx hx=>(h9.2.2 x hx).off (wr:=[a]) (λb i j e=>.inr (by
   rw[mem_singleton.mp i] at e ⊢
   rw[ho] at e; (have l:=Option.some.inj e; clear e; subst l)
   exact ⟨hc,λq=>nomatch q⟩)) λb o i e=>k b o (λq=>i (by simp[q])) e))
 | rule c d n=>
  refine jq (r) λy D oy vf bs t u mA z p m h4 h5 h6 h7 K7 h9 h10 h11 h12 h13 h14=>?_
  clear r
  refine bz (K7) λoD es ep e hd=>?_
  clear K7
  subst p
  have n1:y≠a:=λq=>hn (by simp[q])
  have n2:D≠a:=λq=>hn (by simp[q])
  exact (iW y D oy vf bs t u mA z rfl (k y oy n1 m) h4 h5 h6 h7 (cz oD es ep (k D oD n2 e) hd) h9 h10 h11 h12 (h13.off (wr:=[a]) (λb i j e=>.inr (by
   rw[mem_singleton.mp i] at e ⊢
   rw[ho] at e; (have l:=Option.some.inj e; clear e; subst l)
   exact ⟨hc,λq=>hn (.tail _ (.tail _ q))⟩)) λb o i e=>k b o (λq=>i (by simp[q])) e) h14)
theorem Loc.offA {a:Addr}{o:Obj}(L:Loc env Z h vals) (ho:h.get? a=some o) (hc:∀ v,o.data≠.cell v) (hL:a≠env.locals) (hs:Heap.SameBut a h h'):Loc env Z h' vals where
 cls:=ae (L.cls) λo e c=>(af o (hs.extBut _ o (Ne.symm hL) e) c)
 ns:=ae (L.ns) λm x y=>(af m (x.sameBut hs (Ne.symm hL)) y)
 nz:=L.nz
 cell:=λn c x y=>by
  refine aG (L.cell n c x y) λu t g=>?_
  refine au (g) λv j i k=>?_
  clear g
  refine (cA u t (aC v j (hs.extBut c j (λq=>?_) i) k))
  (clear hL hs; subst q)
  rw[ho] at i; (have l:=Option.some.inj i; clear i; subst l)
  exact hc v k
 cval:=λx v c p q r=>by
  refine ae (L.cval x v c p q r) λj i k=>?_
  refine (af j (hs.extBut c j (λq=>?_) i) k)
  (clear hL hs; subst q)
  rw[ho] at i; (have l:=Option.some.inj i; clear i; subst l)
  exact hc _ k
 apart:=L.apart
 kinds:=L.kinds
theorem SOK.write (K:SOK fns k h0 P Z A env h σ vals fp) (hp:σ x=some p) (hval:vals x=some (.ref a)) (ho:h.get? a=some o) (hoc:o.cls≠.type "tuple") (hst:¬ Stay o) (hod:∀ v,o.data≠.cell v)
  (hnz:¬ Z a) (hne:∀ y q,y≠x->σ y=some q->a∉fp y) (haL:a≠env.locals/\(P a\/h0.get? a=none)) (hs:Heap.SameBut a h h') (rv:RV h' (.ref a) v' (a::bs')) (hb:∀ b∈bs',b≠env.locals/\(P b\/h0.get? b=none))
  (ht:m' = .top->a∉bs') (hd:m' = .deep->(∀ b∈bs',¬ Z b/\∀ y q,y≠x->σ y=some q->b∉fp y)/\(a::bs').Nodup)
  (hdis:∀ y q,y≠x->σ y=some q->(q.2 = .top->∀ b cs,fp y=b::cs->b∉bs')/\(q.2 = .deep->∀ b∈fp y,b∉bs')) :
  SOK fns k h0 P Z A env h' (upd σ x (v',m')) vals (λy=>if y=x then a::bs' else fp y):=by
 have h0n:h0.get? a=none:=by
  cases q:h0.get? a with
  | none=>rfl
  | some o=>exact absurd (K.z0 a o q) hnz
 have kz:∀ b o,Z b->h.get? b=some o->h'.get? b=some o:=λb o hb e=>hs.extBut b o (λq=>hnz (q▸hb)) e
 refine ⟨K.room,K.eok,K.ge,K.z0,Internal.K.same K.kp0 hs h0n (λo' e=>by rw[ho] at e; (have t:=Option.some.inj e; clear e; subst t); exact hst),K.code,K.out,λb hb=>ai (K.zdom b hb) λo e=>⟨o,kz b o hb e⟩,K.loc.offA ho hod haL.1 hs,λy q i=>?_,λy q i htp=>?_,λy q i hdp=>?_⟩
 ·unfold upd at i
  by_cases hy:y=x
  ·(clear hd hdis hne; subst hy)
   rw[if_pos rfl] at i; (have t:=Option.some.inj i; clear i; subst t)
   rw[if_pos rfl]
   refine (aH ((K.val y p hp).1) (aw (.ref a) hval rv (λb g=>?_)))
   rcases mem_cons.mp g with rfl | g
   ·exact haL
   ·exact hb b g
  ·rw[if_neg hy] at i ⊢
   refine aa (K.val y q i) λn m=>?_
   refine am (m) λu h2 h3 h4=>?_
   clear m
   exact (aH n (aw u h2 (h3.offA ho hoc (hne y q hy i) hs) h4))
 ·unfold upd at i
  by_cases hy:y=x
  ·(clear hd hdis hp hval; subst hy)
   rw[if_pos rfl] at i; (have t:=Option.some.inj i; clear i; subst t)
   rw[if_pos rfl]
   refine (bF a bs' rfl hnz (ht htp) (λz r l j=>?_))
   unfold upd at j
   rw[if_neg l] at j ⊢
   exact hne z r l j
  ·rw[if_neg hy] at i ⊢
   refine bg (K.top y q i htp) λb cs n h2 h3 h4=>?_
   refine (bF b cs n h2 h3 (λz r l j=>?_))
   unfold upd at j
   by_cases hzx:z=x
   ·rw[if_pos hzx]
    intro hm
    rcases mem_cons.mp hm with e | hm
    ·exact hne y q hy i (by rw[n,e]; exact .head _)
    ·exact (hdis y q hy i).1 htp b cs n hm
   ·rw[if_neg hzx] at j ⊢
    exact h4 z r l j
 ·unfold upd at i
  by_cases hy:y=x
  ·(clear hdis hp hval; subst hy)
   rw[if_pos rfl] at i; (have t:=Option.some.inj i; clear i; subst t)
   rw[if_pos rfl]
   refine aa (hd hdp) λn h2=>?_
   refine ⟨λb g=>?_,h2⟩
   rcases mem_cons.mp g with rfl | g
   ·refine ⟨hnz,λz r l j=>?_⟩
    unfold upd at j
    rw[if_neg l] at j ⊢
    exact hne z r l j
   ·refine ⟨(n b g).1,λz r l j=>?_⟩
    unfold upd at j
    rw[if_neg l] at j ⊢
    exact (n b g).2 z r l j
  ·rw[if_neg hy] at i ⊢
   refine aa (K.deep y q i hdp) λn h2=>?_
   refine ⟨λb g=>⟨(n b g).1,λz r l j=>?_⟩,h2⟩
   unfold upd at j
   by_cases hzx:z=x
   ·rw[if_pos hzx]
    intro hm
    rcases mem_cons.mp hm with e | hm
    ·exact hne y q hy i (e▸g)
    ·exact (hdis y q hy i).2 hdp b g hm
   ·rw[if_neg hzx] at j ⊢
    exact (n b g).2 z r l j
theorem SOK.head (K:SOK fns k h0 P Z A env h σ vals fp) (hp:σ x=some (.d (.list xs),m)) (hm:m≠.sh) :
  ∃ a vs n bs,vals x=some (.ref a)/\h.get? a=some ⟨.type "list", none,.seq vs.toArray n,#[]⟩/\RA h vs xs bs/\fp x=a::bs/\sz (.list xs)=true/\¬ Z a/\a∉bs/\(∀ y q,y≠x->σ y=some q->a∉fp y)/\(∀ b∈a::bs,b≠env.locals/\(P b\/h0.get? b=none)) /\
   (m = .deep->(∀ b∈bs,¬ Z b/\∀ y q,y≠x->σ y=some q->b∉fp y)/\bs.Nodup):=by
 refine aa (K.val x _ hp) λuu g=>?_
 refine am (g) λv hv l o=>?_
 clear g
 refine aa (l) λr z=>?_
 clear l
 refine r.isList_k λa vs n bs p ea u e=>?_
 (clear r; subst p)
 refine ⟨a,vs,n,bs,hv,ea,u,e,z,?_⟩
 rw[e] at o
 cases m with
 | sh=>exact absurd rfl hm
 | top=>
  refine bg (K.top x _ hp rfl) λa' bs' t j i h3=>?_
  rw[e] at t; cases t
  exact (bw j i h3 o (λh=>(by cases h)))
 | deep=>
  refine aa (K.deep x _ hp rfl) λj i=>?_
  rw[e] at j i
  rw[nodup_cons] at i
  exact (bw ((j a (.head _)).1) i.1 ((j a (.head _)).2) o (λuu=>⟨λb o=>j b (.tail _ o),i.2⟩))
end
section
variable (fns:Fns) (k:Nat) (C:Calls)
noncomputable def dW (st:S):Prop:=∀ {stmt:Stmt}{h0:Heap}{P Z:Addr->Prop}{A:Around}{env:Env}{σ:St}{vals:String->Option Value}{fp:String->List Addr}{s:Shared}{Q:Flow->Shared->Prop}{Er:Value->Shared->Prop}{σ':St}{fl:Flw},
 okS env.scope.names st stmt=true->SOK fns k h0 P Z A env s.heap σ vals fp->ex C st σ = .ok (σ',fl) ->
 (fl = .next->∀ s' vals' fp',Stp Z s s'->SOK fns k h0 P Z A env s'.heap σ' vals' fp'->Frm Z (asg st) σ vals fp σ' vals' fp'->Q .next s')->(∀ r,fl = .ret r->∀ v s',Stp Z s s'->l7 h0 P r v s'->Q (.ret v) s') ->
 wpAny (model prog w) A (exec stmt env) Q Er s
noncomputable def dq (st:Ss):Prop:=∀ {stmts:List Stmt}{h0:Heap}{P Z:Addr->Prop}{A:Around}{env:Env}{σ:St}{vals:String->Option Value}{fp:String->List Addr}{s:Shared}{Q:Flow->Shared->Prop}{Er:Value->Shared->Prop}{σ':St}{fl:Flw},
 cu env.scope.names st stmts=true->SOK fns k h0 P Z A env s.heap σ vals fp->exs C st σ = .ok (σ',fl) ->
 (fl = .next->∀ s' vals' fp',Stp Z s s'->SOK fns k h0 P Z A env s'.heap σ' vals' fp'->Frm Z (hY st) σ vals fp σ' vals' fp'->Q .next s')->(∀ r,fl = .ret r->∀ v s',Stp Z s s'->l7 h0 P r v s'->Q (.ret v) s') ->
 wpAny (model prog w) A (execs stmts env) Q Er s
end
section
theorem bnd {env:Env}{x:String}(h:bv env.scope.names x=true):varK env.scope.names x=true/\aX x=true/\(env.kindOf (Str.ofString x)=some .local\/env.kindOf (Str.ofString x)=some .cell):=by
 unfold bv at h
 simp only[and_eq_true,or_eq_true,beq_iff_eq] at h
 exact ⟨h.1.1,h.1.2,h.2⟩
theorem ir {env:Env}{x:String}{G:Prop}(h:bv env.scope.names x=true) (k:varK env.scope.names x=true->aX x=true->(env.kindOf (Str.ofString x)=some .local\/env.kindOf (Str.ofString x)=some .cell)->G):G:=aG (bnd h) k
theorem BF (K:SOK fns k h0 P Z A env s.heap σ vals fp) (E:EP (Own σ fp ns) s r v s') :
  l7 h0 P r v s':=by
 obtain ⟨y,as,j,m,l,i⟩:=E
 have g:∀ a,s.heap.get? a=none->h0.get? a=none:=λa e=>by
  cases q:h0.get? a with
  | none=>rfl
  | some o=>obtain ⟨_,u⟩:=Internal.K.there K.kp0 q; rw[u] at e; exact nM e
 exact (bU as j (λa h=>(m a h).elim (λq=>(K.own q).2.2) λq=>.inr (g a q)) (λq=>az (l q) λa x t p n=>(aU a x t (g a p) n)) (λq=>⟨λa h=>g a ((i q).1 a h),(i q).2⟩))
theorem mz {σa σ':St}{fl:Flw}{l:List String}{h0:Heap}{P Z:Addr->Prop}{A:Around}{env:Env}{σ:St}{vals:String->Option Value}{fp:String->List Addr}{s:Shared}{Q:Flow->Shared->Prop}(he:(Out.ok (σa,Flw.next):Out (St×Flw)) = .ok (σ',fl))
  (hN:fl = .next->∀ s' vals' fp',Stp Z s s'->SOK fns k h0 P Z A env s'.heap σ' vals' fp'->Frm Z l σ vals fp σ' vals' fp'->Q .next s'):∀ s' vals' fp',Stp Z s s'->SOK fns k h0 P Z A env s'.heap σa vals' fp'->Frm Z l σ vals fp σa vals' fp'->Q .next s':=by
 cases he
 exact hN rfl
theorem G3 {σa σ':St}{fl:Flw}{r:V×Mode}{N:V×Mode->Prop}(he:(Out.ok (σa,Flw.ret r):Out (St×Flw)) = .ok (σ',fl)) (hN:∀ r,fl = .ret r->N r):N r:=by
 cases he
 exact hN r rfl
theorem qY (S:SimE fns k C XP e):dW fns k C (.ret e):=by
 intro p h0 P Z A y z o fp s Q Er q fl j K l hN x
 replace j:=wW j
 revert j; refine λg=>Or.elim g (λh=>?_) (λj=>?_)
 ·clear g
  refine au (h) λn m i j=>?_
  clear h
  subst i
  simp only[gN] at l
  refine Out.bind_k l λr u l=>?_
  exact wpAny_Return_some (K.eval S j u λv t E=>G3 l x v t E.keeps.stp (BF K E))
 ·cases j
theorem uJ:dW fns k C (.raise c):=by
 intro i q P Z A l m h r s Q Er j t n K g p o
 exfalso
 simp only[iA] at g
 refine bh g λuu uu g=>?_
 split at g<;>cases g
set_option tactic.hygienic true in
theorem wQ:dW fns k C (.retn x):=by
 intro stmt h0 P Z A env σ vals fp s Q Er σ' fl i K n hN hR
 replace i:=Bl i
 revert i; refine λj=>Or.elim j (λl=>?_) (λi=>?_)
 ·clear j
  refine bz (l) λu t p m i=>?_
  clear l
  subst m
  simp only[and_eq_true,beq_iff_eq] at i
  refine aa (i) λy hb=>?_
  clear i
  subst y
  refine ir hb λh1 h2 h3=>?_
  simp only[lJ] at n
  split at n
  ·rename_i r hr
   cases n
   refine aa (K.val x r hr) λuu g=>?_
   refine am (g) λv hv z hd=>?_
   clear g
   have nh:∀ a,¬ Z a->h0.get? a=none:=λa e=>by
    cases q:h0.get? a with
    | none=>rfl
    | some o=>exact absurd (K.z0 a o q) e
   refine wpAny_Return_some (dZ K.eok.kind h2 (K.loc.var K.eok hv) (hR r rfl v s (.refl Z s) (bU (fp x) z (λa h=>(hd a h).2) (λq=>?_) (λq=>?_))))
   ·refine bg (K.top x r hr q) λa bs e1 e2 e3 _=>?_
    exact (aU a bs e1 (nh a e2) e3)
   ·refine aa (K.deep x r hr q) λe1 e2=>?_
    exact ⟨λa h=>nh a (e1 a h).1,e2⟩
  ·exact nB n
 ·cases i
theorem xw (T:SimT fns k C XP c) (Sa:dq fns k C a) (Sb:dq fns k C b):dW fns k C (.ite c a b):=by
 intro stmt h0 P Z A env σ vals fp s Q Er σ' fl h K i hN hR
 replace h:=vS h
 revert h; refine λj=>Or.elim j (λl=>?_) (λh=>?_)
 ·clear j
  refine cH (l) λLV z x u o h=>?_
  clear l
  subst o
  simp only[and_eq_true] at h
  simp only[je] at i
  refine Out.bind_k i λr hr i=>?_
  refine Out.bind_k i λt ht i=>?_
  refine wpAny_If (K.evalT T h.1.1 (b:=t) (by rw[hr]; exact ht) λs₁ q=>?_)
  have K₁:=K.onK q.k
  cases t with
  | true=>
   rw[if_pos rfl] at i ⊢
   exact Sa h.1.2 K₁ i (λe n g p m K' F=>hN e n g p (q.stp.trans m) K' (F.more λy hy=>mem_append_left _ hy)) λr e v n m R=>hR r e v n (q.stp.trans m) R
  | false=>
   simp only[false_eq_true,if_false] at i ⊢
   exact Sb h.2 K₁ i (λe n g p m K' F=>hN e n g p (q.stp.trans m) K' (F.more λy hy=>mem_append_right _ hy)) λr e v n m R=>hR r e v n (q.stp.trans m) R
 ·cases h
theorem wR:dq fns k C .nil:=by
 intro n y P Z A u v m t s Q Er p fl l K o r x
 replace l:=Cz l
 revert l; refine λg=>Or.elim g (λi=>?_) (λl=>?_)
 ·clear g
  refine aa (i) λj l=>?_
  clear i
  subst j
  simp only[dA] at o
  cases o
  exact wpAny_execs_nil (r rfl s m t (.refl Z s) K (.id λz q h=>⟨q,h⟩))
 ·cases l
theorem tQ {st:S}{r:Ss}(S:dW fns k C st) (T:dq fns k C r):dq fns k C (.cons st r):=by
 intro z h0 P Z A env σ vals fp s Q Er σ' fl h K o hN hR
 replace h:=sQ h
 revert h; refine λi=>Or.elim i (λj=>?_) (λh=>?_)
 ·clear i
  refine au (j) λx u n h=>?_
  clear j
  subst n
  simp only[and_eq_true] at h
  simp only[ch] at o
  refine Out.bind_k o λK3 h1 o=>?_
  obtain ⟨t,fla⟩:=K3
  dsimp only at o
  refine wpAny_execs_cons (S h.1 K h1 (λe s' y fp' st K' F=>?_) λq e v s' st R=>?_)
  ·(clear h1; subst e)
   dsimp only at o ⊢
   exact T h.2 K' o (λe m g p l K'' F'=>hN e m g p (st.trans l) K'' (F.trans F')) λr e v m l R=>hR r e v m (st.trans l) R
  ·(clear h1; subst e)
   cases o
   exact hR q rfl v s' st R
 ·cases h
theorem wB (S:SimE fns k C XP e):dW fns k C (.expr e):=by
 intro stmt h0 P Z A env σ m fp s Q Er σ' fl l K n y hR
 replace l:=n9 l
 revert l; refine λg=>Or.elim g (λi=>?_) (λl=>?_)
 ·clear g
  refine iC (i) λx u t p o j l=>?_
  clear i
  subst j
  simp only[fw] at n
  refine Out.bind_k n λr hr n=>?_
  replace y:=mz n y
  clear n hR
  have hi:interactive env=false:=by unfold interactive; rw[K.eok.kind]; rfl
  exact wpAny_Expr_any (K.eval S l hr λv s' E=>y s' m fp E.keeps.stp ((K.onK E.keeps.k).consume _ _) (.id λz q h=>dE h)) hi
 ·cases l
theorem SOK.same (K:SOK fns k h0 P Z A env h σ vals fp) (hm:h.Ns D m) (hZ:¬ Z D) (hL:D≠env.locals) (hf:∀ y q,σ y=some q->D∉fp y)
  (hs:Heap.SameBut D h h'):SOK fns k h0 P Z A env h' σ vals fp:=by
 have kz:∀ b o,Z b->h.get? b=some o->h'.get? b=some o:=λb o j e=>hs.extBut b o (λq=>hZ (q▸j)) e
 have i:=hm
 refine aL (i) λo es ep t x _=>?_
 clear i
 refine ⟨K.room,K.eok,K.ge,K.z0,Internal.K.same K.kp0 hs (K.h0n hZ) (λz e=>by rw[t] at e; (have l:=Option.some.inj e; clear e; subst l); exact Stay.not_dict x),K.code,K.out,λb j=>ai (K.zdom b j) λo e=>⟨o,kz b o j e⟩,K.loc.offA t (λv q=>by rw[x] at q; cases q) hL hs,λy q r=>?_,K.top,K.deep⟩
 refine aa (K.val y q r) λh1 g=>?_
 refine am (g) λu h2 h3 h4=>?_
 clear g
 exact (aH h1 (aw u h2 (h3.spot (env:={env with locals:=D }) (.inl (aH rfl (bT m hm))) (λ⟨u,o,e,q⟩=>by obtain ⟨z,es,ep,n,p,_⟩:=hm; rw[e] at n; (have l:=Option.some.inj n; clear n; subst l); rw[q] at p; cases p) (λa ha (e:a=D)=>hf y q r (e▸ha)) hs) h4))
end
noncomputable def TrAt (N:Addr->Prop) (h:Heap) (e:Addr) (vs:Array Value) (fl:Value):Prop :=
 ∃ T oT ts,vs[1]? = some (.ref T)/\¬ N T/\T≠e/\h.get? T=some oT/\oT.cls = .type "traceback" /\ oT.data = .fields ts/\ts[3]? = some fl
noncomputable def Ex0 (N:Addr->Prop) (h:Heap) (c:String) (e:Addr) (vs:Array Value):Prop:=¬ N e/\c∈SF.excN/\∃ oe,h.get? e=some oe/\oe.cls = .ref (SF.exc c)/\oe.data = .fields vs
noncomputable def Exc (N:Addr->Prop) (h:Heap) (c:String) (L:Addr) (x:Value):Prop:=∃ e vs,x = .ref e/\Ex0 N h c e vs/\(vs[1]? = some .none\/∃ fl,(fl = .none\/fl=rawInt L)/\TrAt N h e vs fl)
noncomputable def FlyA (N:Addr->Prop) (h:Heap) (c:String) (fl:Value) (x:Value):Prop:=∃ e vs,x = .ref e/\Ex0 N h c e vs/\TrAt N h e vs fl
noncomputable def Fly (N:Addr->Prop) (h:Heap) (c:String) (x:Value):Prop:=FlyA N h c .none x
theorem Fly.exc (f:Fly N h c x):Exc N h c L x:=az (f) λe g k j i=>(aU e g k j (.inr (af _ (.inl rfl) i)))
theorem FlyA.exc {N:Addr->Prop}{h:Heap}{c:String}{L:Addr}{x:Value}(f:FlyA N h c (rawInt L) x):Exc N h c L x:=az (f) λe g k j i=>(aU e g k j (.inr (af _ (.inr rfl) i)))
theorem TrAt.old (t:TrAt N h e vs fl) (hn:∀ b,N' b->N b):TrAt N' h e vs fl:=aL (t) λT i g a b r=>(cI T i g a (λq=>b (hn _ q)) r)
theorem FlyA.old (f:FlyA N h c fl x) (hn:∀ b,N' b->N b):FlyA N' h c fl x:=az (f) λe i k g j=>(aU e i k ⟨λq=>g.1 (hn _ q),g.2⟩ (j.old hn))
theorem Exc.old (f:Exc N h c L x) (hn:∀ b,N' b->N b):Exc N' h c L x:=az (f) λe i k g j=>(aU e i k ⟨λq=>g.1 (hn _ q),g.2⟩ (j.imp id λ⟨l,q,t⟩=>(af l q (t.old hn))))
noncomputable def Chg (N:Addr->Prop) (h h':Heap):Prop:=∀ b o,h.get? b=some o->h'.get? b=some o\/(∃ es ep,¬ SF.old b/\o.cls = .type "frame" /\ o.data = .dict es ep/\∃ sl,h'.get? b=some {o with slots:=sl })\/(¬ N b/\¬ Stay o/\∃ fs,o.data = .fields fs)
theorem Chg.kg (c:Chg N h h'):KG N h h':=λb o g e=>by
 rcases c b o e with q | ⟨es,ep,h1,h2,h3,sl,h4⟩ | ⟨h1,h2,_⟩
 ·exact (af o q (.same rfl))
 ·exact (af _ h4 (.frame es ep h1 h2 h3 rfl rfl rfl))
 ·exact absurd g (λq=>q.elim h1 h2)
theorem Chg.frames (c:Chg N h h') (x:FrOk h l):FrOk h' l:=λi t=>by
 obtain ⟨n,L,o,p,r,m,k,u,j,g⟩:=x i t
 rcases c L o u with q | ⟨_,_,_,_,_,sl,q⟩ | ⟨_,_,fs,q⟩
 ·exact (aH n (kZ L o p r m k q j g))
 ·exact (aH n (kZ L _ p r m k q j g))
 ·rw[g] at q; cases q
noncomputable def noH (h:Heap):Heap:={h with objs:=#[] }
theorem B0 (h:Heap) (b:Addr):(noH h).get? b=none:=rfl
theorem FrOk.fun:∀ {l:List Env},FrOk h l->h.FunFrames (noH h) l
 | [],_=>trivial
 | env::l,x=>by
  obtain ⟨m,L,o,t,u,k,r,j,p,i⟩:=x env (.head _)
  exact ⟨by rw[m]; decide,(bF L o k (B0 h L) j (λn q=>by rw[i] at q; cases q)),FrOk.fun λy g=>x y (.tail _ g)⟩
section
variable {M:Model}{A:Around}{E:Value->Shared->Prop}{env:Env}{l:List Env}{h:Heap}{g:Array GenState}{dr:Drawn}{tk:Nat}{os:OsState}{c:String}{x:Value}{Q:Unit->Shared->Prop}{N:Addr->Prop}{L:Addr}
theorem As (hN:∀ b,N b->∃ o,h.get? b=some o) (hfr:A.frames=some (env::l)) (hF:FrOk h (env::l)) (hf:env.frame=some L) (he:Ex0 N h c e vs) (hsz:1<vs.size)
  (hQ:∀ h',FlyA N h' c (rawInt L) (.ref e)->Chg N h h'->Q () ⟨h',g,dr,tk,os⟩) :
  wpAny M A (do let a <- frameOf env; let pl <- entryPlaceOf L hadNext; let b <- EntryCells.newEntry head a .none (rawInt L) .none pl; setField (.ref e) 1 b) Q E ⟨h,g,dr,tk,os⟩:=by
 refine aG (he) λne cn m=>?_
 clear he
 refine am (m) λoe ee hc hd=>?_
 clear m
 have hl:=hF.fun
 have notf:∀ b o fs,h.get? b=some o->o.data = .fields fs->b∉(env::l).filterMap (·.frame):=λb o fs u hb hm=>by
  refine aa (hl.mem hm) λuu k=>?_
  refine ae (k) λz y hnf=>?_
  clear k
  rw[u] at y; (have v:=Option.some.inj y; clear y; subst v)
  exact hnf fs hb
 refine wpAny_bind (wpAny_frameOf_fun (s:=⟨h,g,dr,tk,os⟩) hfr hl hf λi j=>?_)
 refine wpAny_bind (wpAny_entryPlaceOf λpl hpl=>?_)
 unfold EntryCells.newEntry newFields
 refine wpAny_bind (wpAny_newObj_type ?_ (hpl.sizeOk5 _ _ _ _ _))
 generalize hts:([head,.ref L,.none,rawInt L,.none]++(if pl.isEmpty then List.replicate 6 Value.none else pl)).toArray=ts
 have h3:ts[3]? = some (rawInt L):=by rw[<- hts]; simp
 have r:i.get? e=some oe:=(j.2.1 e (notf e oe vs ee hd)).trans ee
 have p:=Heap.get?_push_of_some (h:=i) {cls:=.type "traceback", dict:=none,data:=.fields ts } r
 have x:i.objs.size≠e:=ne_of_gt (lt_size r)
 have hTN:¬ N i.objs.size:=λq=>by
  refine ai (hN _ q) λo eo=>?_
  have:=lt_size eo
  rw[j.1] at this
  exact Nat.lt_irrefl _ this
 have n:=Obj.data_mapFields hd (·.setIfInBounds 1 (Value.ref i.objs.size))
 refine wpAny_setField p hd hsz (hQ _ (aU e _ rfl (cA ne cn (aw _ (Heap.get?_update_self _ p (Obj.isFreed_of_fields n)) ((Obj.cls_mapFields _ _).trans hc) n)) (mC i.objs.size _ ts (by simp[hsz]) hTN x ((Heap.get?_update_other _ _ (Ne.symm x)).trans (Heap.get?_push_size i rfl)) rfl rfl h3)) λb o u=>?_)
 by_cases hbe:b=e
 ·(clear r p hQ x; subst hbe)
  rw[ee] at u; (have v:=Option.some.inj u; clear u; subst v)
  exact .inr (.inr (cA ne (Stay.not_cls (by rw[hc]; simp) (by rw[hc]; simp)) (bT vs hd)))
 ·have t:∀ z,i.get? b=some z->((i.push {cls:=.type "traceback", dict:=none,data:=.fields ts }).update e (Obj.mapFields (·.setIfInBounds 1 (Value.ref i.objs.size)))).get? b=some z:=λz y=>by
   rw[Heap.get?_update_other _ _ (Ne.symm hbe)]
   exact Heap.get?_push_of_some _ y
  by_cases hm:b∈(env::l).filterMap (·.frame)
  ·refine ae (List.mem_filterMap.mp hm) λenv' he' hb'=>?_
   obtain ⟨_,L',z,es,ep,f1,f2,f3,f4,f5⟩:=hF env' he'
   rw[hb'] at f1; (have v:=Option.some.inj f1; clear f1; subst v)
   rw[u] at f3; (have v:=Option.some.inj f3; clear f3; subst v)
   refine ai (j.2.2 b o u) λsl y=>?_
   exact .inr (.inl (bF es ep f2 f4 f5 (bT sl (t _ y))))
  ·exact .inl (t o ((j.2.1 b hm).trans u))
theorem Chg.upd (ht:h.get? T=some oT) (hc:oT.cls = .type "traceback") (hd:oT.data = .fields ts) (hn:¬ N T):Chg N h (h.update T (Obj.mapFields (·.setIfInBounds 3 v))):=λb o g=>by
 by_cases hb:b=T
 ·subst hb
  rw[ht] at g; (have i:=Option.some.inj g; clear g; subst i)
  exact .inr (.inr (cA hn (Stay.not_cls (by rw[hc]; simp) (by rw[hc]; simp)) (bT ts hd)))
 ·exact .inl ((Heap.get?_update_other _ _ (Ne.symm hb)).trans g)
theorem yU (hN:∀ b,N b->∃ o,h.get? b=some o) (hfr:A.frames=some (env::l)) (hF:FrOk h (env::l)) (hf:env.frame=some L) (hx:Exc N h c L x)
  (hQ:∀ h',FlyA N h' c (rawInt L) x->KG N h h'->FrOk h' (env::l)->Q () ⟨h',g,dr,tk,os⟩):wpAny M A (noteFrame x env) Q E ⟨h,g,dr,tk,os⟩:=by
 refine az (hx) λe vs p h0 n=>?_
 clear hx
 subst p
 refine aG (h0) λt v i=>?_
 clear h0
 refine am (i) λr m u j=>?_
 clear i
 unfold noteFrame
 simp only[hf]
 rcases n with n | ⟨fl,hfl,T,oT,ts,h1,hTN,hTe,hT,hTc,hTd,h3⟩
 ·refine wpAny_bind (wpAny_field m j n ?_)
  rw[if_neg (by decide)]
  exact As hN hfr hF hf (cA t v (aw r m u j)) (Array.getElem?_eq_some_iff.mp n).1 λh' f k=>hQ h' f k.kg (k.frames hF)
 ·refine wpAny_bind (wpAny_field m j h1 ?_)
  rw[if_pos (show (Value.ref T != Value.none)=true from by simp)]
  refine wpAny_bind (wpAny_field hT hTd h3 ?_)
  rcases hfl with rfl | rfl
  ·rw[if_neg (show ¬ ((Value.none==rawInt L)=true) from by simp[rawInt])]
   refine wpAny_bind (wpAny_setField hT hTd (Array.getElem?_eq_some_iff.mp h3).1 ?_)
   have y:Chg N h (h.update T (Obj.mapFields (·.setIfInBounds 3 Value.none))):=Chg.upd hT hTc hTd hTN
   refine As (λb z=>?_) hfr (y.frames hF) hf (cA t v (aw r ((Heap.get?_update_other _ _ hTe).trans m) u j)) (Array.getElem?_eq_some_iff.mp h1).1 λh' f k=>hQ h' f (y.kg.trans k.kg) (k.frames (y.frames hF))
   refine ai (hN b z) λo e=>?_
   exact ⟨o,(Heap.get?_update_other _ _ (show T≠b from λq=>hTN (by rw[q]; exact z))).trans e⟩
  ·rw[if_pos (show (rawInt L==rawInt L)=true from by simp)]
   exact wpAny_pure (hQ h (aU e vs rfl (cA t v (aw r m u j)) (mC T oT ts h1 hTN hTe hT hTc hTd h3)) .refl hF)
theorem nv (hF:FrOk h l) (hx:FlyA N h c fl x) (hQ:∀ h',FlyA N h' c (fr.elim .none λf=>rawInt f) x->KG N h h'->FrOk h' l->Q () ⟨h',g,dr,tk,os⟩):wpAny M A (setFlight x fr) Q E ⟨h,g,dr,tk,os⟩:=by
 obtain ⟨e,z,q,k,T,oT,ts,u,p,n,r,o,j,h3⟩:=hx
 subst q
 refine aG (k) λne cn i=>?_
 clear k
 refine am (i) λoe v hc t=>?_
 clear i
 unfold setFlight
 refine wpAny_bind (wpAny_field v t u ?_)
 rw[if_pos (show (Value.ref T != Value.none)=true from by simp)]
 have m:=(Array.getElem?_eq_some_iff.mp h3).1
 have y:Chg N h (h.update T (Obj.mapFields (·.setIfInBounds 3 (fr.elim .none λf=>rawInt f)))):=Chg.upd r o j p
 exact wpAny_setField r j m (hQ _ (aU e z rfl (cA ne cn (aw oe ((Heap.get?_update_other _ _ n).trans v) hc t)) (mC T _ _ u p n (Heap.get?_update_self _ r (Obj.isFreed_of_fields (Obj.data_mapFields j _))) ((Obj.cls_mapFields _ _).trans o) (Obj.data_mapFields j _) (by simp[m]))) y.kg (y.frames hF))
theorem Gz (hN:∀ b,N b->∃ o,h.get? b=some o) (hfr:A.frames=some (env::l)) (hF:FrOk h (env::l)) (hf:env.frame=some L) (hx:Exc N h c L x)
  (hQ:∀ h',Fly N h' c x->KG N h h'->Q () ⟨h',g,dr,tk,os⟩):wpAny M A (leaving env x) Q E ⟨h,g,dr,tk,os⟩:=by
 unfold leaving
 exact wpAny_bind (yU hN hfr hF hf hx λp n j q=>nv q n λk m i _=>hQ k m (j.trans i))
theorem DV (hN:∀ b,N b->∃ o,h.get? b=some o) (hfr:A.frames=some (env::l)) (hF:FrOk h (env::l)) (hf:env.frame=some L) (hx:Exc N h c L x)
  (hQ:∀ h',Exc N h' c L x->KG N h h'->FrOk h' (env::l)->E' x ⟨h',g,dr,tk,os⟩):notedBy (model prog w) A env (cameBackBy (model prog w) A env E') x ⟨h,g,dr,tk,os⟩:=by
 refine yU hN hfr hF hf hx λv k p F₁=>?_
 refine az (k) λe vs t m j=>?_
 clear k
 refine bz (j) λT oT ts z u=>?_
 clear j
 (clear hx; subst t)
 refine aG (m) λne cn i=>?_
 clear m
 refine am (i) λoe ee hc y=>?_
 clear i
 refine wpAny_bind (wpAny_field ee y z ?_)
 rw[if_neg (show ¬ (Value.ref T==Value.none)=true from by simp),hf]
 exact nv F₁ (aU e vs rfl (cA ne cn (aw oe ee hc y)) (cz T oT ts z u)) λq r n F₂=>hQ q r.exc (p.trans n) F₂
end
noncomputable def dom (h:Heap) (b:Addr):Prop:=∃ o,h.get? b=some o
noncomputable def XPc (c:String) (s:Shared) (x:Value) (s':Shared):Prop:=Kp s s'/\Fly (dom s.heap) s'.heap c x
theorem XPc.of (k:Kp s s₁) (h:XPc c s₁ x s'):XPc c s x s':=⟨k.trans h.1,h.2.old λuu ⟨_,e⟩=>ae (k.k _ _ (.inl trivial) e) λg i uu=>⟨g,i⟩⟩
theorem bY:∀ (c:String) (s s₁:Shared) (x:Value) (s':Shared),Kp s s₁->XPc c s₁ x s'->XPc c s x s':=λuu uu uu uu uu k h=>.of k h
noncomputable def Lv (A:Around) (env:Env) (h:Heap):Prop:=∃ l,A.frames=some (env::l)/\FrOk h (env::l)/\env.frame=some env.locals
section
variable (fns:Fns) (k:Nat) (C:Calls)
noncomputable def dU (st:S):Prop:=∀ {stmt:Stmt}{h0:Heap}{P Z:Addr->Prop}{A:Around}{env:Env}{σ:St}{vals:String->Option Value}{fp:String->List Addr}{s:Shared}{Q:Flow->Shared->Prop}{Er:Value->Shared->Prop}{c:String},
 okS env.scope.names st stmt=true->SOK fns k h0 P Z A env s.heap σ vals fp->ex C st σ = .exc c->(∀ x s',Stp Z s s'->Lv A env s'.heap->Exc Z s'.heap c env.locals x->Er x s')->wpAny (model prog w) A (exec stmt env) Q Er s
noncomputable def dm (st:Ss):Prop:=∀ {stmts:List Stmt}{h0:Heap}{P Z:Addr->Prop}{A:Around}{env:Env}{σ:St}{vals:String->Option Value}{fp:String->List Addr}{s:Shared}{Q:Flow->Shared->Prop}{Er:Value->Shared->Prop}{c:String},
 cu env.scope.names st stmts=true->SOK fns k h0 P Z A env s.heap σ vals fp->exs C st σ = .exc c->(∀ x s',Stp Z s s'->Lv A env s'.heap->Exc Z s'.heap c env.locals x->Er x s')->wpAny (model prog w) A (execs stmts env) Q Er s
end
section
noncomputable def wp:Expr->Bool
 | .ListComp .. | .SetComp .. | .DictComp ..=>false
 | _=>true
theorem iN (h:wp v=true) (t:Option Expr) (l:Nat) (env:Env):swapsWith v t l env=pure false:=by
 cases v<;>first | rfl | exact nF h
theorem mt {gs:List Comprehension}:swapsWith (.ListComp e gs sc p) (some (.Name t q)) l env=pure true\/swapsWith (.ListComp e gs sc p) (some (.Name t q)) l env=pure false:=by
 have g:swapsWith (.ListComp e gs sc p) (some (.Name t q)) l env=pure (env.blockKind == .function&&env.kindOf t==some .local&&q.line==(Expr.ListComp e gs sc p).pos.line && !(sc.names.any λ(n,k)=>n==t&&(k == .local||k == .cell))):=rfl
 rw[g]
 generalize (env.blockKind == .function&&env.kindOf t==some .local&&q.line==(Expr.ListComp e gs sc p).pos.line && !(sc.names.any λ(n,k)=>n==t&&(k == .local||k == .cell)))=b
 cases b
 ·exact .inr rfl
 ·exact .inl rfl
theorem kF {ex:Expr}(hp:iV e=false) (h:okE ns e ex=true):wp ex=true:=by
 cases ex with
 | ListComp _ _ _ _=>
  cases e with
  | comp _ _ _=>exact nT hp
  | compif _ _ _ _=>exact nT hp
  | _=>exact Bool.noConfusion (show false=true from h)
 | _=>first | rfl | (cases e<;>exact Bool.noConfusion (show false=true from h))
theorem ma {px pt:Pos}{elt iter:Expr}
  (hsc:iH env.scope.names sc x=true) (X:Cx fns k A P h env σ) (hset:∀ v,foldedSetIterable iter env v=pure v) (hsw:swapsWith (.ListComp elt [⟨.Name (Str.ofString x) px,iter,ifs,0⟩] sc pos) (some (.Name (Str.ofString t) pt)) spos.line env=pure true)
  (h:∀ cl:List (Str×Addr),(∀ n,(n,NameKind.free)∈sc.names->cl.lookup n=env.cells.lookup n)->wpAny (model prog w) A (eval iter env) (λv s₁=>wpAny (model prog w) A (pyIter v) (λi sb=>wpAny (model prog w) A (newObj (.type "list") (.seq #[]) none) (λacc z=>
   wpAny (model prog w) A (newFunctionEnv sc env.globals cl [] env.qual none .none (some env)) (λcenv s₄=>
    codeAny (model prog w) A (.compStart (.ListComp elt [⟨.Name (Str.ofString x) px,iter,ifs,0⟩] sc pos) 0 i acc {cenv with scope:=relabel sc env }) (compPost (model prog w) A Er (some (assign (.Name (Str.ofString t) pt) env)) (λuu s'=>Q .next s') acc cenv.locals) s₄) Er z) Er sb) Er s₁) Er s) :
  wpAny (model prog w) A (exec (.Assign [.Name (Str.ofString t) pt] (.ListComp elt [⟨.Name (Str.ofString x) px,iter,ifs,0⟩] sc pos) spos) env) Q Er s:=by
 refine c6 (jJ hsc) λhk l q g=>?_
 obtain ⟨cl,m,j⟩:=mh (scope:=sc) (env:=env) (λp u e=>by
  rcases g p u with h | h | h | h
  ·rw[h.1] at e; cases e
  ·rw[h] at e; cases e
  ·rw[h.1] at e; cases e
  ·exact X.eok.cells p.1 h.2)
 rw[exec_Assign_Name_used _ _ _ _ hsw]
 refine wpAny_bind (wpAny_standAt (wpAny_bind ?_))
 show wpAny _ A (do let _ <- comprehension (.ListComp elt [⟨.Name (Str.ofString x) px,iter,ifs,0⟩] sc pos) sc env _ (newList []) false (eval iter env) (some (assign (.Name (Str.ofString t) pt) env))) _ _ s
 exact wpAny_bind (wpAny_mono (wpAny_comprehension_free (use:=some (assign (.Name (Str.ofString t) pt) env)) (Q:=λuu s'=>Q .next s') rfl hset m hk (λy o e=>by rw[<- e]; exact jO l o) (h cl j)) (λuu s' r=>wpAny_pure (wpAny_pure r)) λuu uu e=>e)
theorem pW {h0:Heap}{P Z:Addr->Prop}{A:Around}{env:Env}{σ:St}{vals:String->Option Value}{fp:String->List Addr}{s sb:Shared}{Q:Flow->Shared->Prop}{Er:Value->Shared->Prop}{x:String}{px:Pos}{ns:List String}{d:PyData}{md:Mode}{v:Value}{h:Heap}{tk:Nat}{D:Addr}{m:Str->Option Value}
  (K:SOK fns k h0 P Z A env s.heap σ vals fp) (hb:bv env.scope.names x=true) (E:EP (Own σ fp ns) s (.d d,md) v {sb with heap:=h,toks:=tk }) (hm:h.Ns D m) (hD:s.heap.get? D=none)
  (hN:∀ s' vals' fp',Stp Z s s'->SOK fns k h0 P Z A env s'.heap (upd (consume σ ns md) x (.d d,md)) vals' fp'->Frm Z [x] σ vals fp (upd (consume σ ns md) x (.d d,md)) vals' fp'->Q .next s') :
  compPost (model prog w) A Er (some (assign (.Name (Str.ofString x) px) env)) (λuu s'=>Q .next s') v D (.ok .next) {sb with heap:=h,toks:=tk }:=by
 refine ir hb λh1 h2 h3=>?_
 show wpAny _ A (assign (.Name (Str.ofString x) px) env v) _ _ _
 refine wpAny_assign_Name (K.put_ep h1 h3 E λs' as rv st kk K' F=>?_)
 have dL:D≠env.locals:=λq=>by
  refine ae (K.loc.ns) λm' p _=>?_
  refine bz (p) λo _ _ e _=>?_
  clear p
  rw[<- q] at e
  rw[hD] at e; exact nN e
 have r:=hm
 refine aL (r) λo es ep ho z hr=>?_
 clear r
 have j:=kk D o dL (λu q=>by rw[z] at q; cases q) ho
 have t:s'.heap.Ns D m:=(cI o es ep j z hr)
 refine (af m t (λh' hs=>hN _ _ _ ?_ (K'.same t (λhz=>?_) dL (λy q l hf=>?_) hs) F))
 ·refine (E.keeps.stp.trans st).same hs (λhz=>?_) λo' e=>by rw[j] at e; (have oc:=Option.some.inj e; clear e; subst oc); exact Stay.not_dict z
  refine ai (K.zdom D hz) λo e=>?_
  rw[hD] at e; exact nN e
 ·refine ai (K.zdom D hz) λo e=>?_
  rw[hD] at e; exact nN e
 ·split at hf
  ·refine bj (rv.1.there D hf) λuu uu e=>?_
   rw[ho] at e; (have oc:=Option.some.inj e; clear e; (clear ho j; subst oc)); cases z
  ·rename_i hy
   unfold upd at l
   rw[if_neg hy] at l
   have:∃ n,σ y=some n:=by
    unfold consume at l
    split at l
    ·exact ⟨q,l⟩
    ·obtain ⟨n,i,_⟩:=ck l; exact ⟨n,i⟩
   refine ai (this) λn i=>?_
   clear this
   refine aa (K.val y n i) λuu g=>?_
   refine am (g) λu _ hr _=>?_
   clear g
   refine ai (hr.there D hf) λo e=>?_
   rw[hD] at e; exact nN e
theorem uC (h:iV e=true):(∃ elt y it,e = .comp elt y it)\/∃ elt y it c,e = .compif elt y it c:=by
 cases e with
 | comp elt y it=>exact .inl ⟨_,_,_,rfl⟩
 | compif elt y it c=>exact .inr ⟨_,_,_,_,rfl⟩
 | _=>exact nF h
theorem ly (S:SimE fns k C XP e) (Sc:(∀ elt y it,e = .comp elt y it->cZ fns k C XP it/\SimE fns k C XP elt)/\∀ elt y it c,e = .compif elt y it c->cZ fns k C XP it/\SimE fns k C XP elt/\SimT fns k C XP c):dW fns k C (.assign x e):=by
 intro stmt h0 P Z A env σ vals fp s Q Er σ' fl ok K he hN hR
 replace ok:=ko ok
 revert ok; refine λLH=>Or.elim LH (λLi=>?_) (λok=>?_)
 ·clear LH
  refine cH (Li) λt pt v spos LS ok=>?_
  clear Li
  subst LS
  simp only[and_eq_true,beq_iff_eq] at ok
  refine aa (ok) λK4 oe=>?_
  clear ok
  refine aa (K4) λK8 hb=>?_
  clear K4
  subst K8
  refine ir hb λh1 h2 h3=>?_
  simp only[bW] at he
  refine Out.bind_k he λr hr he=>?_
  replace hr:=DC hr
  replace hN:=mz he hN
  clear he hR
  have n:swapsWith v (some (.Name (Str.ofString x) pt)) spos.line env=pure false->wpAny (model prog w) A (exec (.Assign [.Name (Str.ofString x) pt] v spos) env) Q Er s:=λhsw=>by
   refine wpAny_Assign_Name (K.eval S oe hr λu s' E=>?_) hsw
   exact K.put_ep h1 h3 E λs'' as rv st kk K' F=>hN s'' _ _ (E.keeps.stp.trans st) K' F
  cases hc:iV e with
  | false=>exact n (iN (kF hc oe) _ _ _)
  | true=>
   refine Or.elim (uC hc) (λq0=>?_) (λq0=>?_)
   ·refine Hh (q0) λelt y it e0=>?_
    clear q0
    refine aa (Sc.1 elt y it e0) λSi Se=>?_
    clear Sc S hc
    subst e0
    replace oe:=xc oe
    revert oe; refine λLO=>Or.elim LO (λLk=>?_) (λoe=>?_)
    ·clear LO
     refine ud (Lk) λee ty py iter sc pos MC oe=>?_
     clear Lk
     subst MC
     rcases mt (e:=ee) (gs:=[⟨.Name ty py,iter,[],0⟩]) (sc:=sc) (p:=pos) (t:=Str.ofString x) (q:=pt) (l:=spos.line) (env:=env) with hsw | hsw
     ·simp only[and_eq_true,beq_iff_eq] at oe
      revert oe; intro Mz
      refine aa (Mz) λK5 oe=>?_
      clear Mz
      refine aa (K5) λK7 oi=>?_
      clear K5
      refine aa (K7) λLc hsc=>?_
      clear K7
      (clear n; subst Lc)
      have X:=K.cx (fv (.comp elt y it))
      have e1:ev C (.comp elt y it) (cK σ (fv (.comp elt y it))) = .ok r:=by rw[ay C _ _ σ (cj σ _)]; exact hr
      simp only[d7] at e1
      refine Out.bind_k e1 λq hq e1=>?_
      refine Out.bind_k e1 λres g e1=>?_
      (have j:=Out.ok.inj e1; clear e1; (clear hr; subst j))
      refine ma hsc X (nQ oi env) hsw λcl hcl=>Si oi X (by rw[hq]; simp) (λq' hq' i sb I=>?_) λc hc=>by rw[hq] at hc; cases hc
      rw[hq] at hq'; (have j:=Out.ok.inj hq'; clear hq'; subst j)
      obtain ⟨res',o⟩:=fO (by rw[g]; simp:(bx _ q.1).calm≠.bad)
      rw[o] at g; (have j:=Out.ok.inj g; clear g; subst j)
      refine gw (RR:=λacc C=>compPost (model prog w) A Er (some (assign (.Name (Str.ofString x) pt) env)) (λuu s'=>Q .next s') acc C) (ds:=q.1) hsc X o (λd r hf cenv s₃ P' Q₁ Qb Er' hNm X' g1 g2=>wpAny_tests_nil ?_) I (λD C h tk m E hm hC=>pW K hb E hm hC λs' vals' fp' st K' F=>hN s' vals' fp' st K' F) hcl
      rw[if_pos rfl]
      refine Out.bind_k hf λz hz e=>?_
      (have j:=Out.ok.inj e; clear e; (clear g1 hf; subst j))
      exact Se (hNm▸oe) X' (by rw[hz]; simp) (λr hr v s' E=>g2 r (by rw[hz] at hr; (have j:=Out.ok.inj hr; clear hr; (clear E; subst j)); rfl) v s' E) λc hc=>by rw[hz] at hc; cases hc
     ·exact n hsw
    ·cases oe
   ·refine GO (q0) λelt y it c e0=>?_
    clear q0
    refine aG (Sc.2 elt y it c e0) λSi Se Sc'=>?_
    clear Sc S hc
    subst e0
    replace oe:=qr oe
    revert oe; refine λLZ=>Or.elim LZ (λLM=>?_) (λoe=>?_)
    ·clear LZ
     refine k9 (LM) λee ty py iter ff sc pos MO oe=>?_
     clear LM
     subst MO
     rcases mt (e:=ee) (gs:=[⟨.Name ty py,iter,[ff],0⟩]) (sc:=sc) (p:=pos) (t:=Str.ofString x) (q:=pt) (l:=spos.line) (env:=env) with hsw | hsw
     ·simp only[and_eq_true,beq_iff_eq] at oe
      revert oe; intro L1
      refine aa (L1) λLd oe=>?_
      clear L1
      refine aa (Ld) λK6 j=>?_
      clear Ld
      refine aa (K6) λK3 oi=>?_
      clear K6
      refine aa (K3) λLa hsc=>?_
      clear K3
      (clear n; subst La)
      have X:=K.cx (fv (.compif elt y it c))
      have e1:ev C (.compif elt y it c) (cK σ (fv (.compif elt y it c))) = .ok r:=by rw[ay C _ _ σ (cj σ _)]; exact hr
      simp only[c7] at e1
      refine Out.bind_k e1 λq hq e1=>?_
      refine Out.bind_k e1 λres g e1=>?_
      (have j:=Out.ok.inj e1; clear e1; (clear hr; subst j))
      refine ma hsc X (nQ oi env) hsw λcl hcl=>Si oi X (by rw[hq]; simp) (λq' hq' i sb I=>?_) λc hc=>by rw[hq] at hc; cases hc
      rw[hq] at hq'; (have j:=Out.ok.inj hq'; clear hq'; subst j)
      obtain ⟨res',o⟩:=fO (by rw[g]; simp:(bx _ q.1).calm≠.bad)
      rw[o] at g; (have j:=Out.ok.inj g; clear g; subst j)
      refine gw (RR:=λacc C=>compPost (model prog w) A Er (some (assign (.Name (Str.ofString x) pt) env)) (λuu s'=>Q .next s') acc C) (ds:=q.1) hsc X o (λd r hf cenv s₃ P' Q₁ Qb Er' hNm X' g1 g2=>wpAny_tests_one ?_) I (λD C h tk m E hm hC=>pW K hb E hm hC λs' vals' fp' st K' F=>hN s' vals' fp' st K' F) hcl
      refine Out.bind_k hf λt ht hf=>?_
      refine Out.bind_k hf λb hb' hf=>?_
      refine Sc' (hNm▸j) X' (by rw[ht,Out.ok_bind,hb']; simp) (λb'' hb'' s₄ kd=>?_) λc hc=>by rw[ht] at hc; cases hc
      rw[ht,Out.ok_bind,hb'] at hb''
      (have j:=Out.ok.inj hb''; clear hb''; subst j)
      cases b with
      | false=>(have j:=Out.ok.inj hf; clear hf; (clear g2; subst j)); simpa using g1 rfl s₄ kd
      | true=>
       rw[if_pos rfl] at hf ⊢
       refine Out.bind_k hf λz hz e=>?_
       (have j:=Out.ok.inj e; clear e; (clear g1; subst j))
       exact Se (hNm▸oe) (X'.k kd.k) (by rw[hz]; simp) (λr hr v s' E=>g2 r (by rw[hz] at hr; (have j:=Out.ok.inj hr; clear hr; (clear E; subst j)); rfl) v s' (E.after kd)) λc hc=>by rw[hz] at hc; cases hc
     ·exact n hsw
    ·cases oe
 ·cases ok
end
section
theorem SOK.putl {s sb:Shared}{h':Heap}{ns:List String}{x:String}{xs zs:List PyData}{mx m:Mode}{as:List Addr}{σ':St}{fl:Flw}{a:Addr}{vs vs':List Value}{n n':Nat}{bs bs':List Addr}
  (K:SOK fns k h0 P Z A env s.heap σ vals fp) (kp:Kp s sb) (ha:∀ b∈as,Own σ fp ns b\/s.heap.get? b=none) (hdp:m = .deep->(∀ b∈as,s.heap.get? b=none)/\as.Nodup)
  (hx:σ x=some (.d (.list xs),mx)) (hput:nK σ x ns mx zs m = .ok (σ',fl)) (hm:mx≠.sh)
  (hv:vals x=some (.ref a)) (ea:s.heap.get? a=some ⟨.type "list", none,.seq vs.toArray n,#[]⟩) (hfp:fp x=a::bs) (hZ:¬ Z a) (hab:a∉bs) (hne:∀ y q,y≠x->σ y=some q->a∉fp y) (hP:∀ b∈a::bs,b≠env.locals/\(P b\/h0.get? b=none))
  (hdx:mx = .deep->(∀ b∈bs,¬ Z b/\∀ y q,y≠x->σ y=some q->b∉fp y)/\bs.Nodup)
  (hs:Heap.SameBut a sb.heap h') (ea':h'.get? a=some ⟨.type "list", none,.seq vs'.toArray n',#[]⟩) (rr:RA sb.heap vs' zs bs') (hz:∀ z∈zs,sz z=true) (hbs:∀ b∈bs',b∈bs\/b∈as) (hnd:(bs++as).Nodup->bs'.Nodup) :
  fl = .next/\∃ fp',SOK fns k h0 P Z A env h' σ' vals fp'/\Frm Z [x] σ vals fp σ' vals fp':=by
 have nz:∀ a,s.heap.get? a=none->¬ Z a:=λa e hz=>by
  refine ai (K.zdom a hz) λo e'=>?_
  rw[e] at e'; exact nN e'
 have nf:∀ a,s.heap.get? a=none->∀ y q,σ y=some q->a∉fp y:=λa e y q r hm=>by
  refine aa (K.val y q r) λuu Mx=>?_
  refine am (Mx) λu _ hr _=>?_
  clear Mx
  refine ai (hr.there a hm) λo e'=>?_
  rw[e] at e'; exact nN e'
 unfold nK at hput
 split at hput
 ·rename_i hlen
  have l:=kp.k.get ea rfl
  have main:∀ (g:m = .deep\/x∉ns),a∉as:=λg hm=>by
   refine Or.elim (ha a hm) (λLi=>?_) (λh1=>?_)
   ·refine az (Li) λz q hz r hf=>?_
    clear Li
    rcases g with hc | hc
    ·have:=(hdp hc).1 a hm
     rw[ea] at this; exact nM this
    ·exact hne z q (λe=>hc (e▸hz)) r hf
   ·rw[ea] at h1; exact nM h1
  have rv':(g:m = .deep\/x∉ns)->RV h' (.ref a) (.d (.list zs)) (a::bs'):=λg=>by
   refine ⟨.list ea' (rr.off (wr:=[a]) (λb hb o e=>.inr ?_) λb o hb e=>hs.extBut b o (λq=>hb (by simp[q])) e),sz_list.mpr ⟨?_,hz⟩⟩
   ·rw[mem_singleton.mp hb] at e ⊢
    rw[l] at e; (have oc:=Option.some.inj e; clear e; subst oc)
    exact ⟨by simp,λhm=>(hbs a hm).elim hab (main g)⟩
   ·unfold lim at hlen; exact Ap hlen
  have pb:∀ b∈bs',b≠env.locals/\(P b\/h0.get? b=none):=λb hb=>by
   rcases hbs b hb with h1 | h1
   ·exact hP b (.tail _ h1)
   ·rcases ha b h1 with h2 | h2
    ·exact (K.own h2).2
    ·refine ⟨λq=>?_,.inr ?_⟩
     ·refine ae (K.loc.ns) λm' K9 _=>?_
      refine bz (K9) λo _ _ e _=>?_
      clear K9
      rw[<- q] at e
      rw[h2] at e; exact nN e
     ·cases e:h0.get? b with
      | none=>rfl
      | some o=>obtain ⟨_,e'⟩:=Internal.K.there K.kp0 e; rw[e'] at h2; exact nM h2
  have abs:(g:m = .deep\/x∉ns)->a∉bs':=λg hm=>(hbs a hm).elim hab (main g)
  have org:∀ b∈a::bs',Z b->∃ z q,σ z=some q/\b∈fp z:=λb hb hz=>by
   rcases mem_cons.mp hb with rfl | hb
   ·exact absurd hz hZ
   ·rcases hbs b hb with hb | hb
    ·exact (aC x _ hx (by rw[hfp]; exact .tail _ hb))
    ·refine Or.elim (ha b hb) (λLk=>?_) (λh1=>?_)
     ·refine az (Lk) λy q LP h1 h2=>?_
      clear Lk
      exact (aC y q h1 h2)
     ·exact absurd hz (nz b h1)
  split at hput
  ·rename_i v
   cases hput
   refine (aH rfl (af _ ?_ (.one (λuu uu=>rfl) (λz q h=>⟨q,h⟩) org)))
   refine ((K.onK kp.k).write hx hv l (by simp) Stay.not_list (λuu q=>by cases q) hZ hne (hP a (.head _)) hs (rv' (.inl v)) pb (λuu=>abs (.inl v)) (λj=>?_) λt q hy r=>?_)
   ·refine aa (hdx j) λg1 g2=>?_
    refine aa (hdp v) λg3 g4=>?_
    refine ⟨λb hb=>?_,nodup_cons.mpr ⟨abs (.inl v),hnd (nodup_append.mpr ⟨g2,g4,λb hb c hc q=>?_⟩)⟩⟩
    ·rcases hbs b hb with h1 | h1
     ·exact g1 b h1
     ·exact ⟨nz b (g3 b h1),λy q _ r=>nf b (g3 b h1) y q r⟩
    ·subst q
     exact nf b (g3 b hc) x _ hx (by rw[hfp]; exact .tail _ hb)
   ·have g3:=(hdp v).1
    refine ⟨λht b cs e hm=>?_,λhd b hb hm=>?_⟩
    ·refine bg (K.top t q r ht) λb' cs' e' _ _ h4=>?_
     rw[e] at e'; cases e'
     rcases hbs b hm with h1 | h1
     ·exact h4 x _ (Ne.symm hy) hx (by rw[hfp]; exact .tail _ h1)
     ·exact nf b (g3 b h1) t q r (by rw[e]; exact .head _)
    ·rcases hbs b hm with h1 | h1
     ·exact ((K.deep t q r hd).1 b hb).2 x _ (Ne.symm hy) hx (by rw[hfp]; exact .tail _ h1)
     ·exact nf b (g3 b h1) t q r hb
  ·split at hput
   ·exact nB hput
   ·rename_i v hxn
    cases hput
    have hx':Internal.demote σ ns x=some (V.d (.list xs),mx):=by unfold Internal.demote; rw[if_neg hxn]; exact hx
    refine (aH rfl (af _ ?_ (.one (λuu uu=>rfl) (λz q h=>ae (ck h) λq' h' uu=>⟨q',h'⟩) org)))
    refine (((K.onK kp.k).demote ns).write hx' hv l (by simp) Stay.not_list (λuu q=>by cases q) hZ (λt q hy r=>?_) (hP a (.head _)) hs (rv' (.inr hxn)) pb (λuu=>abs (.inr hxn)) (λj=>by cases j) λt q hy r=>?_)
    ·refine ae (ck r) λq' i _=>?_
     exact hne t q' hy i
    ·refine fh r λq' i e1 hc=>?_
     rcases hc with ⟨_,rfl⟩ | ⟨hn,rfl⟩
     ·refine ⟨λh=>absurd h jf,λh b hb=>?_⟩
      refine aa (K.val t q' i) λuu Mb=>?_
      refine am (Mb) λu _ hr _=>?_
      clear Mb
      rw[hr.scal_nil (gH h)] at hb
      cases hb
     ·refine ⟨λht b cs e hm=>?_,λhd b hb hm=>?_⟩
      ·refine bg (K.top t q i ht) λb' cs' e' _ _ h4=>?_
       rw[e] at e'; cases e'
       rcases hbs b hm with h1 | h1
       ·exact h4 x _ (Ne.symm hy) hx (by rw[hfp]; exact .tail _ h1)
       ·refine Or.elim (ha b h1) (λLM=>?_) (λh2=>?_)
        ·refine az (LM) λz p hz hp hf=>?_
         clear LM
         exact h4 z p (λq=>hn (q▸hz)) hp hf
        ·exact nf b h2 t q i (by rw[e]; exact .head _)
      ·rcases hbs b hm with h1 | h1
       ·exact ((K.deep t q i hd).1 b hb).2 x _ (Ne.symm hy) hx (by rw[hfp]; exact .tail _ h1)
       ·refine Or.elim (ha b h1) (λLI=>?_) (λh2=>?_)
        ·refine az (LI) λz p hz hp hf=>?_
         clear LI
         exact ((K.deep t q i hd).1 b hb).2 z p (λq=>hn (q▸hz)) hp hf
        ·exact nf b h2 t q i hb
 ·exact nB hput
theorem zQ (eok:EnvOk env):interactive env=false:=by unfold interactive; rw[eok.kind]; rfl
set_option tactic.hygienic true in
theorem rY (S:SimE fns k C XP e):dW fns k C (.append x e):=by
 intro stmt h0 P Z A env σ vals fp s Q Er σ' fl j K i hN hR
 replace j:=vY j
 revert j; refine λl=>Or.elim l (λq=>?_) (λj=>?_)
 ·clear l
  refine k9 (q) λt pt mm ap v pos spos MN j=>?_
  clear q
  subst MN
  simp only[and_eq_true,beq_iff_eq] at j
  refine aa (j) λK4 oe=>?_
  clear j
  refine aa (K4) λK8 hb=>?_
  clear K4
  refine aa (K8) λK5 K7=>?_
  clear K8
  refine aa (K5) λLc hl=>?_
  clear K5
  subst Lc
  subst K7
  refine ir hb λh1 h2 h3=>?_
  simp only[eV] at i
  replace i:=sD i
  refine Out.bind_k i λr hr hA=>?_
  clear i
  obtain ⟨ry,m⟩:=r
  refine bh hA λy hy hB=>?_
  clear hA
  refine bh hB λp hx hA=>?_
  clear hB
  obtain ⟨vv,mx⟩:=p
  refine bh hA λxs hxx i=>?_
  clear hA
  dsimp only at hy hxx i
  cases bZ hy
  cases oz hxx
  clear hy hxx
  by_cases hmx:mx = .sh
  ·rw[if_pos hmx] at i; exact nB i
  ·rw[if_neg hmx] at i
   ·refine Cw (K.head hx hmx) λa vs n bs hv ea ra hfp hz hZ hab hne hP hdx=>?_
    refine wpAny_Expr_any (wpAny_Call_append rfl (by rw[aO oe]; rfl) (by simpa using hl) (by rw[aO oe]; rfl) ?_) (zQ K.eok)
    refine dZ K.eok.kind h2 (K.loc.var K.eok hv) (aU a vs.toArray rfl (bF _ n ea rfl rfl rfl) (K.eval S oe hr λu sb E=>?_))
    obtain ⟨kp,as,Ld,ha,ht,hd⟩:=E
    refine aa (Ld) λru zu=>?_
    clear Ld
    have hlen:=ra.length
    have hzl:=(sz_list.mp hz)
    refine wpAny_list_append_plain (hsz:=by rw[size_toArray,hlen]; unfold sizeLine; exact JD hzl) ⟨n,kp.k.get ea rfl⟩ λh' hp hs=>?_
    refine ai (hp) λn' ep=>?_
    clear hp
    have:=K.putl kp ha hd hx i hmx hv ea hfp hZ hab hne hP hdx hs (vs':=vs++[u]) (by simpa using ep) ((ra.k kp.k).append (.cons ru .nil)) (λz hz'=>by
     rcases mem_append.mp hz' with h | h
     ·exact hzl.2 z h
     ·rw[mem_singleton.mp h]; exact zu) (λb hb=>by
     rcases mem_append.mp hb with h | h
     ·exact .inl h
     ·exact .inr (by simpa using h)) (λh=>by simpa using h)
    refine aa (this) λhfl g=>?_
    clear this
    refine ae (g) λfp' K' F'=>?_
    clear g
    exact hN hfl _ vals fp' (kp.stp.same hs hZ λo e=>by rw[kp.k.get ea rfl] at e; (have oc:=Option.some.inj e; clear e; subst oc); exact Stay.not_list) K' F'
 ·cases j
end
section
theorem SOK.dict (K:SOK fns k h0 P Z A env h σ vals fp) (hx:σ x=some (v,.deep)) (hfp:fp x=[a]) :
  ¬ Z a/\(∀ y q,y≠x->σ y=some q->a∉fp y)/\a≠env.locals/\(P a\/h0.get? a=none):=by
 refine aa (K.deep x _ hx rfl) λj _=>?_
 refine aa (K.val x _ hx) λuu g=>?_
 refine am (g) λu _ _ l=>?_
 clear g
 have i:a∈fp x:=by rw[hfp]; exact .head _
 exact ⟨(j a i).1,(j a i).2,l a i⟩
theorem sm (ks:List Int) (i:Int):stored (ks.map λk=>(k,Value.bool true)) i (.bool true)=(if i∈ks then ks else ks++[i]).map λk=>(k,.bool true):=by
 unfold stored
 by_cases hi:i∈ks
 ·rw[if_pos (by simpa using hi),if_pos hi,map_map]
  apply map_congr_left
  intro a _
  simp only[Function.comp]
  split<;>rfl
 ·rw[if_neg (by simpa using hi),if_neg hi,map_append]
  rfl
theorem qo (ho:h.get? a=some o) (hd:o.data = .dict es ep) (hs:Heap.SameBut a h h') (r:R h (.ref a') (aK t) []) (hx:∀ x∈xs,R h (.ref x.2.1) (aK x.1) []):∀ x∈storedH xs t a' v,R h' (.ref x.2.1) (aK x.1) []:=by
 have off:∀ {v:Value}{d:PyData},R h v d []->R h' v d []:=λr=>r.off (wr:=[a]) (λb g l e=>.inl λk n q=>by rw[mem_singleton.mp g,ho] at e; (have i:=Option.some.inj e; clear e; subst i); rw[hd] at q; cases q) λb o g e=>hs.extBut b o (λq=>g (by simp[q])) e
 intro x j
 rcases mem_storedH j with ⟨y,hy,e1,e2⟩ | ⟨e1,e2⟩
 ·rw[e1,e2]; exact off (hx y hy)
 ·rw[e1,e2]; exact off r
theorem ky (xs:List (List Int×Addr×Value)) (t:List Int) (a:Addr) (v:Value):(storedH xs t a v).map (·.1)=if t∈xs.map (·.1) then xs.map (·.1) else xs.map (·.1)++[t]:=by
 unfold storedH
 rw[kE]
 by_cases hi:t∈xs.map (·.1)
 ·rw[if_pos (by simpa using hi),if_pos hi,map_map]
  apply map_congr_left
  intro y _
  simp only[Function.comp,putAt]
  split<;>rfl
 ·rw[if_neg (by simpa using hi),if_neg hi,map_append]
  rfl
theorem mW:∀ {xs:List PyData}{ns:List Int},aJ xs=some ns->ns.length=xs.length
 | [],ns,h=>by simp[aJ] at h; subst h; rfl
 | y::xs,ns,h=>by
  cases y<;>simp only[aJ] at h<;>try (cases h)
  refine bl h λi e g=>?_
  (clear h; subst g)
  rw[length_cons,length_cons,mW e]
theorem qP (h:dX x=some t) (z:sz x=true):t.length<=2^22:=by
 cases x<;>simp only[dX] at h<;>try (cases h)
 rw[mW h]
 exact (sz_tuple.mp z).1
set_option tactic.hygienic true in
theorem pT (S:SimE fns k C XP e):dW fns k C (.setitem x e):=by
 intro stmt h0 P Z A env σ vals fp s Q Er σ' fl ok K he hN hR
 replace ok:=uK ok
 revert ok; refine λLO=>Or.elim LO (λLk=>?_) (λok=>?_)
 ·clear LO
  refine k9 (Lk) λt pt ix ps c1 c2 spos MD ok=>?_
  clear Lk
  subst MD
  simp only[and_eq_true,beq_iff_eq] at ok
  refine aa (ok) λK6 oe=>?_
  clear ok
  refine aa (K6) λK3 hb=>?_
  clear K6
  subst K3
  refine ir hb λh1 h2 h3=>?_
  simp only[db] at he
  replace he:=sD he
  refine Out.bind_k he λr hr g=>?_
  clear he
  obtain ⟨ri,mi⟩:=r
  refine bh g λkd m hA=>?_
  clear g
  refine bh hA λp hx g=>?_
  clear hA
  obtain ⟨v,mx⟩:=p
  dsimp only at m g
  cases bZ m
  clear m
  by_cases hmx:mx = .deep
  ·rw[if_pos hmx] at g
   subst hmx
   refine wpAny_Assign_Subscript (wpAny_Constant_bool ?_)
   refine aa (K.val x _ hx) λuu Lz=>?_
   refine am (Lz) λu hv hrv _=>?_
   clear Lz
   dsimp only at hrv
   refine dZ K.eok.kind h2 (K.loc.var K.eok hv) (K.eval S oe hr λvk sb E=>?_)
   obtain ⟨kk,is,La,_⟩:=E
   refine aa (La) λrk zk=>?_
   clear La
   have K₂:=K.onK kk.k
   have l:=hrv.k kk.k
   have fin:∀ {a:Addr}{o:Obj}{v':V}{h':Heap}{tk':Nat},u = .ref a->fp x=[a]->sb.heap.get? a=some o->o.ExactDict->(∃ es ep,o.data = .dict es ep)->Heap.SameBut a sb.heap h'->RV h' (.ref a) v' [a]->(Out.ok (upd σ x (v',.deep),Flw.next):Out (St×Flw)) = .ok (σ',fl)->Q .next {sb with heap:=h',toks:=tk' }:=λ{a} {o} {v'} {h'} {tk'} hu hfp ho hox j hs rv he=>by
    (clear hrv l; subst hu)
    refine c6 (K.dict hx hfp) λd1 d2 d3 d4=>?_
    have hoc:o.cls≠.type "tuple" := λq=>by
     rw[hox.1] at q; simp at q
    have hod:∀ v,o.data≠.cell v:=λv q=>by
     refine bj (j) λes ep e=>?_
     clear j
     rw[e] at q; cases q
    have K':=K₂.write (m':=.deep) (bs':=[]) hx hv ho hoc (j.elim λes j=>j.elim λep j=>Stay.not_dict j) hod d1 d2 ⟨d3,d4⟩ hs rv (λuu h=>(nomatch h)) (λuu h=>(nomatch h)) (λuu=>⟨λuu h=>(nomatch h),by simp⟩) λy q hy hq=>⟨λuu uu uu uu h=>(nomatch h),λuu uu uu h=>(nomatch h)⟩
    exact mz he hN _ vals _ (kk.stp.same hs d1 λo' e=>by rw[ho] at e; (have oc:=Option.some.inj e; clear e; subst oc); exact j.elim λes j=>j.elim λep j=>Stay.not_dict j) K' (.one (λuu uu=>rfl) (λz q h=>⟨q,h⟩) λb hb hz=>absurd hz (mem_singleton.mp hb▸d1))
   cases v with
   | dic0=>
    refine lj (l) λa Le hfp hsm hdI hdT=>?_
    clear l
    (clear hrv hv; subst Le)
    simp only[iK] at g
    split at g
    ·rename_i i hi
     (have oc:=c8 hi; (clear hr zk; subst oc))
     refine R.isInt_k rk λti oqi _=>?_
     (clear rk; subst oqi)
     have m:=hdI
     refine fR (m) λo es ep ho hox j _=>?_
     clear m
     refine wpAny_setItem_pairs (intKind_is prog w _ _) hdI (λh' hm' hs=>fin (v':=.dicI [_]) rfl hfp ho hox (bn _ _ j) hs (bU a rfl rfl hsm ?_) g) (by simp[sizeLine])
     simpa [stored] using hm'
    ·split at g
     ·rename_i t ht
      refine ae (fQ rk ht) λa' Lb hk=>?_
      subst Lb
      have m:=hdT
      refine fR (m) λo es ep ho hox j _=>?_
      clear m
      refine wpAny_setItem_heap (tupleKind_room_in1 (rm1 K.room.2.2)) hk hdT (λh' hm' hs=>fin (v':=.dicT [_]) rfl hfp ho hox (bn _ _ j) hs (gu a _ rfl rfl hsm hm' ?_ ?_ ?_) g) (by simp[sizeLine])
      ·rw[ky]; simp
      ·intro z hz
       rw[mem_singleton.mp hz]
       exact qP ht zk
      ·exact qo ho j hs (s8 rk ht) λx hx=>nomatch hx
     ·exact nB g
   | dicI ks=>
    refine cX (l) λa Lf hfp hsm hdI=>?_
    clear l
    (clear hrv hv; subst Lf)
    simp only[iK] at g
    split at g
    ·rename_i i hi
     split at g
     ·rename_i n
      (have oc:=c8 hi; (clear hr zk; subst oc))
      refine R.isInt_k rk λti oqi _=>?_
      (clear rk; subst oqi)
      have m:=hdI
      refine fR (m) λo es ep ho hox j _=>?_
      clear m
      refine wpAny_setItem_pairs (intKind_is prog w _ _) hdI (λh' hm' hs=>fin (v':=.dicI _) rfl hfp ho hox (bn _ _ j) hs (bU a rfl rfl hsm ?_) g) (by rw[length_map]; unfold lim at n; unfold sizeLine; exact Aq n)
      rw[sm] at hm'
      exact hm'
     ·exact nB g
    ·exact nB g
   | dicT ks=>
    refine lh (l) λa xs Lg hfp hsm hdT Lh hks htu=>?_
    clear l
    (clear hrv hv; subst Lg)
    subst Lh
    simp only[iK] at g
    split at g
    ·rename_i t ht
     split at g
     ·rename_i n
      refine ae (fQ rk ht) λa' Lj hk=>?_
      subst Lj
      have m:=hdT
      refine fR (m) λo es ep ho hox j _=>?_
      clear m
      refine wpAny_setItem_heap (tupleKind_room_in1 (rm1 K.room.2.2)) hk hdT (λh' hm' hs=>fin (v':=.dicT _) rfl hfp ho hox (bn _ _ j) hs (gu a _ rfl rfl hsm hm' ?_ ?_ ?_) g) (by rw[length_map] at n; unfold lim at n; unfold sizeLine; exact Aq n)
      ·rw[ky]
      ·intro z hz
       split at hz
       ·exact hks z hz
       ·rcases mem_append.mp hz with h | h
        ·exact hks z h
        ·rw[mem_singleton.mp h]; exact qP ht zk
      ·exact qo ho j hs (s8 rk ht) htu
     ·exact nB g
    ·exact nB g
   | _=>simp only[iK] at g; exact nB g
  ·rw[if_neg hmx] at g; exact nB g
 ·cases ok
def AtV (h:Heap):List Int->Value->Value->Prop
 | [],v,u=>u=v
 | k::p,v,u=>∃ v1,ItemV h v k v1/\AtV h p v1 u
theorem AtV.snoc {h:Heap}{k:Int}{u u1:Value}(i:ItemV h u k u1):∀ {p:List Int}{v:Value},AtV h p v u->AtV h (p++[k]) v u1
 | [],v,a=>(af u1 (a▸i) rfl)
 | j::p,v,a=>ae (a) λg b a=>(af g b (AtV.snoc i a))
theorem ItemV.keep (i:ItemV h v k u) (kp:K h h'):ItemV h' v k u:=IK (i) λa T g n j o m l=>⟨a,T,g,n,j,o,kp.exact m (by simp) (by simp),l⟩
theorem AtV.keep {h h':Heap}{u:Value}(kp:K h h'):∀ {p:List Int}{v:Value},AtV h p v u->AtV h' p v u
 | [],_,a=>a
 | _::_,_,a=>ae (a) λv1 b a=>(af v1 (b.keep kp) (AtV.keep kp a))
theorem RA.setAt (r:RA h vs xs bs):∀ (j:Nat) {v:Value}{e:PyData},vs[j]? = some v->xs[j]? = some e->∃ b1 c b2,bs=b1++(c++b2)/\R h v e c /\
  ∀ h' e',(∀ u d cs,(∀ b∈cs,b∈b1\/b∈b2)->R h u d cs->R h' u d cs)->R h' v e' c->RA h' vs (xs.set j e') bs:=by
 refine RA.ind (N:=λvs xs bs=>∀ (j:Nat) {v:Value}{e:PyData},vs[j]? = some v->xs[j]? = some e->∃ b1 c b2,bs=b1++(c++b2)/\R h v e c /\
  ∀ h' e',(∀ u d cs,(∀ b∈cs,b∈b1\/b∈b2)->R h u d cs->R h' u d cs)->R h' v e' c->RA h' vs (xs.set j e') bs) (λj v e n=>by cases n) (λ{v vs d o as bs} x r y j u e n t=>?_) r
 have l:∀ (B:Addr->Prop) (h':Heap) {vs:List Value}{o:List PyData}{bs:List Addr},RA h vs o bs->(∀ b∈bs,B b)->(∀ u d cs,(∀ b∈cs,B b)->R h u d cs->R h' u d cs)->RA h' vs o bs:=λB h' _ _ _ r=>RA.ind (N:=λvs o bs=>(∀ b∈bs,B b)->(∀ u d cs,(∀ b∈cs,B b)->R h u d cs->R h' u d cs)->RA h' vs o bs) (λuu uu=>.nil)
  (λx _ i g k=>.cons (k _ _ _ (λb q=>g b (mem_append_left _ q)) x) (i (λb q=>g b (mem_append_right _ q)) k)) r
 cases j with
 | zero=>
  (have p:=Option.some.inj n; clear n; subst p); (have p:=Option.some.inj t; clear t; subst p)
  exact (cI ([]) as bs rfl x (λh' e' k q=>.cons q (l (λb=>b∈[]\/b∈bs) h' r (λb g=>.inr g) k)))
 | succ j=>
  refine aL (y j n t) λb1 c b2 m q1 z=>?_
  (clear y r; subst m)
  exact (cI (as++b1) c b2 (by rw[append_assoc]) q1 (λh' e' k q=>.cons (k _ _ _ (λb g=>.inl (mem_append_left _ g)) x) (z h' e' (λu d cs hc=>k u d cs λb g=>(hc b g).imp (mem_append_right _) id) q)))
theorem R.modP:∀ (p:List Int) {v:Value}{d d':PyData}{as:List Addr},R h v d as->as.Nodup->modP y p d=some d'->AtV h p v u ->
  ∃ a vs n,u = .ref a/\h.get? a=some ⟨.type "list", Option.none,.seq vs.toArray n,#[]⟩/\a∈as/\vs.length<lim /\
   ∀ (h':Heap) (w:Value) (n':Nat),KG (λb=>b≠a) h h'->h'.get? a=some ⟨.type "list", Option.none,.seq (vs++[w]).toArray n',#[]⟩->R h' w y []->R h' v d' as
 | [],v,d,d',as,r,nd,g,l=>by
  replace g:=bind_eq_some_iff.mp g
  revert g; intro Mg
  refine ae (Mg) λxs hx g=>?_
  clear Mg
  cases bR hx
  by_cases hl:xs.length<lim
  ·rw[if_pos hl] at g
   (have oc:=Option.some.inj g; clear g; subst oc)
   refine r.isList_k λa vs n bs Lp ea x Ln=>?_
   (clear r; subst Lp)
   subst Ln
   subst l
   refine (tN a vs n rfl ea (.head _) (by rw[x.length]; exact hl) (λh' w n' z t o=>?_))
   have q:RA h' vs xs bs:=x.onG z λb hb q=>(nodup_cons.mp nd).1 (q▸hb)
   have:=R.list t (q.append (.cons o .nil))
   rwa [append_nil,append_nil] at this
  ·rw[if_neg hl] at g; exact nN g
 | k::p,v,d,d',as,r,nd,g,l=>by
  revert l; intro MA
  refine ae (MA) λv1 Lw l=>?_
  clear MA
  refine ny (Lw) λa0 T vs0 n0 j0 LB ea0 hj0 hv0=>?_
  clear Lw
  subst LB
  unfold Internal.modP at g
  cases hx:asL d with
  | some xs=>
   rw[hx] at g
   cases bR hx
   replace g:=bind_eq_some_iff.mp g
   revert g; intro Mv
   refine ae (Mv) λj hj g=>?_
   clear Mv
   replace g:=bind_eq_some_iff.mp g
   revert g; intro Mw
   refine ae (Mw) λe he g=>?_
   clear Mw
   replace g:=map_eq_some_iff.mp g
   refine ae (g) λe' he' Ly=>?_
   clear g
   subst Ly
   refine r.isList_k λa1 vs n bs e1 ea x LN=>?_
   (clear r; subst LN)
   cases e1
   rw[ea] at ea0
   have hvs:vs=vs0:=by cases ea0; rfl
   subst hvs
   rw[x.length] at hj0
   cases hj.symm.trans hj0
   refine aL (x.setAt j0 hv0 he) λb1 c b2 Lo q1 q2=>?_
   subst Lo
   have nd2:=(nodup_cons.mp nd).2
   refine aG (nodup_append.mp nd2) λn1 n2 n3=>?_
   refine aG (nodup_append.mp n2) λn4 n5 n6=>?_
   refine uL (R.modP p q1 n4 he' l) λa ws m Lq eb i hl hu=>?_
   (clear l; subst Lq)
   refine (tN a ws m rfl eb (.tail _ (mem_append_right _ (mem_append_left _ i))) hl (λh' w n' z t o=>?_))
   refine .list (z.hard (.inl λq=>(nodup_cons.mp nd).1 (q▸mem_append_right _ (mem_append_left _ i))) ea rfl) (q2 h' e' (λu d cs hc ru=>ru.onG z λb hb q=>?_) (hu h' w n' z t o))
   subst q
   exact (hc b hb).elim (λh1=>n3 b h1 b (mem_append_left _ i) rfl) λh1=>n6 b i b h1 rfl
  | none=>
   rw[hx] at g
   replace g:=bind_eq_some_iff.mp g
   revert g; intro Mh
   refine ae (Mh) λxs ht g=>?_
   clear Mh
   cases jh ht
   replace g:=bind_eq_some_iff.mp g
   revert g; intro Ml
   refine ae (Ml) λj hj g=>?_
   clear Ml
   replace g:=bind_eq_some_iff.mp g
   revert g; intro Ms
   refine ae (Ms) λe he g=>?_
   clear Ms
   replace g:=map_eq_some_iff.mp g
   refine ae (g) λe' he' Lr=>?_
   clear g
   subst Lr
   refine aL (r.isTup) λa1 vs n e1 ea x=>?_
   cases e1
   rw[ea] at ea0
   have hvs:vs=vs0:=by cases ea0; rfl
   subst hvs
   rw[x.length] at hj0
   cases hj.symm.trans hj0
   refine aL (x.setAt j0 hv0 he) λb1 c b2 Ls q1 q2=>?_
   (clear r x; subst Ls)
   refine aG (nodup_append.mp nd) λn1 n2 n3=>?_
   refine aG (nodup_append.mp n2) λn4 n5 n6=>?_
   refine uL (R.modP p q1 n4 he' l) λa ws m LA eb i hl hu=>?_
   (clear l; subst LA)
   refine (tN a ws m rfl eb (mem_append_right _ (mem_append_left _ i)) hl (λh' w n' z t o=>?_))
   refine .tuple (z.stay ea (.inr (aH rfl (bn _ _ rfl)))) (q2 h' e' (λu d cs hc ru=>ru.onG z λb hb q=>?_) (hu h' w n' z t o))
   subst q
   exact (hc b hb).elim (λh1=>n3 b h1 b (mem_append_left _ i) rfl) λh1=>n6 b i b h1 rfl
theorem nX (hy:sz y=true):∀ (p:List Int) {d d':PyData},modP y p d=some d'->sz d=true->sz d' = true
 | [],d,d',g,hd=>by
  replace g:=bind_eq_some_iff.mp g
  revert g; intro t
  refine ae (t) λxs i g=>?_
  clear t
  cases bR i
  by_cases hl:xs.length<lim
  ·rw[if_pos hl] at g
   (have oc:=Option.some.inj g; clear g; subst oc)
   have h:=sz_list.mp hd
   unfold lim at hl
   exact sz_list.mpr ⟨by rw[length_append,length_singleton]; exact FA hl,λx i=>(mem_append.mp i).elim (h.2 x) λq=>mem_singleton.mp q▸hy⟩
  ·rw[if_neg hl] at g; exact nN g
 | k::p,d,d',g,hd=>by
  unfold modP at g
  cases i:asL d with
  | some xs=>
   rw[i] at g
   cases bR i
   replace g:=bind_eq_some_iff.mp g
   revert g; intro r
   refine ae (r) λj hj g=>?_
   clear r
   replace g:=bind_eq_some_iff.mp g
   revert g; intro o
   refine ae (o) λe he g=>?_
   clear o
   replace g:=map_eq_some_iff.mp g
   refine ae (g) λe' u z=>?_
   clear g
   subst z
   have h:=sz_list.mp hd
   exact sz_list.mpr ⟨by rw[List.length_set]; exact h.1,λx i=>(List.mem_or_eq_of_mem_set i).elim (h.2 x) λq=>q▸nX hy p u (h.2 e (mem_of_getElem? he))⟩
  | none=>
   rw[i] at g
   replace g:=bind_eq_some_iff.mp g
   revert g; intro n
   refine ae (n) λxs ht g=>?_
   clear n
   cases jh ht
   replace g:=bind_eq_some_iff.mp g
   revert g; intro m
   refine ae (m) λj hj g=>?_
   clear m
   replace g:=bind_eq_some_iff.mp g
   revert g; intro l
   refine ae (l) λe he g=>?_
   clear l
   replace g:=map_eq_some_iff.mp g
   refine ae (g) λe' u v=>?_
   clear g
   subst v
   have h:=sz_tuple.mp hd
   exact sz_tuple.mpr ⟨by rw[List.length_set]; exact h.1,λx i=>(List.mem_or_eq_of_mem_set i).elim (h.2 x) λq=>q▸nX hy p u (h.2 e (mem_of_getElem? he))⟩
theorem SOK.inner (K:SOK fns k h0 P Z A env h σ vals fp) (hx:σ x=some (V0,.deep)) (hv:vals x=some v0) (ha:a∈fp x) (ho:h.get? a=some o) (hoc:o.cls≠.type "tuple") (hst:¬ Stay o) (hod:∀ v,o.data≠.cell v)
  (hs:Heap.SameBut a h h') (rv:RV h' v0 V1 (fp x)):SOK fns k h0 P Z A env h' (upd σ x (V1,.deep)) vals fp:=by
 refine aa (K.deep x _ hx rfl) λj t=>?_
 have hnz:=(j a ha).1
 have kz:∀ b o,Z b->h.get? b=some o->h'.get? b=some o:=λb o hb e=>hs.extBut b o (λq=>hnz (q▸hb)) e
 have g:∀ y q,y≠x->upd σ x (V1,.deep) y=some q->σ y=some q:=λy q m l=>(if_neg m).symm.trans l
 have i:∀ q,upd σ x (V1,.deep) x=some q->q=(V1,.deep):=λq l=>(Option.some.inj ((if_pos rfl).symm.trans l)).symm
 refine ⟨K.room,K.eok,K.ge,K.z0,Internal.K.same K.kp0 hs (K.h0n hnz) (λo' e=>by rw[ho] at e; (have oc:=Option.some.inj e; clear e; subst oc); exact hst),K.code,K.out,λb hb=>ai (K.zdom b hb) λo e=>⟨o,kz b o hb e⟩,K.loc.offA ho hod ((K.val x _ hx).2.choose_spec.2.2 a ha).1 hs,λy q l=>?_,λy q l htp=>?_,λy q l hdp=>?_⟩
 ·by_cases m:y=x
  ·(clear g ha j t; subst m)
   cases i q l
   refine aa (K.val y _ hx) λh1 p=>?_
   refine am (p) λu h2 h3 h4=>?_
   clear p
   exact (aH h1 (aw v0 hv rv h4))
  ·refine aa (K.val y q (g y q m l)) λh1 n=>?_
   refine am (n) λu h2 h3 h4=>?_
   clear n
   exact (aH h1 (aw u h2 (h3.offA ho hoc ((j a ha).2 y q m (g y q m l)) hs) h4))
 ·by_cases m:y=x
  ·(clear g ha j t hv hx rv; subst m)
   cases i q l
   cases htp
  ·refine bg (K.top y q (g y q m l) htp) λb cs h1 h2 h3 h4=>?_
   refine (bF b cs h1 h2 h3 (λz r hz hr=>?_))
   by_cases hzx:z=x
   ·(clear g ha j t i l hr hv m rv; subst hzx); exact h4 z _ hz hx
   ·exact h4 z r hz (g z r hzx hr)
 ·by_cases m:y=x
  ·(clear ha i l hv hx rv; subst m)
   refine ⟨λb hb=>⟨(j b hb).1,λz r hz hr=>(j b hb).2 z r hz (g z r hz hr)⟩,t⟩
  ·refine aa (K.deep y q (g y q m l) hdp) λh1 h2=>?_
   refine ⟨λb hb=>⟨(h1 b hb).1,λz r hz hr=>?_⟩,h2⟩
   by_cases hzx:z=x
   ·(clear g ha j t i l hr hv m rv; subst hzx); exact (h1 b hb).2 z _ hz hx
   ·exact (h1 b hb).2 z r hz (g z r hzx hr)
end
section
theorem BU (hC:cr fns k C XP) (hR:C "Rule" = some g):fns.init.isSome=true:=by
 refine ae ((hC "Rule" g hR).2.2.2 (by decide)) λi h _=>?_
 unfold adr at h
 rw[if_pos rfl] at h
 refine bl h λuu q _=>?_
 rw[q]; rfl
theorem wF (hi:fns.init.isSome=true) (K:SOK fns k h0 P Z A env s.heap σ vals fp) (hv:vals x=some (.ref y))
  (I:s.heap.Inst y SF.rule mA) (f2:mA "full" = some vf) (rd:R s.heap vf d bs) (ok:mr env.scope.names x exx=true) (hQ:∀ s',Kp s s'->Q vf s'):wpAny (model prog w) A (eval exx env) Q Er s:=by
 refine au (ur ok) λp pa l v=>?_
 (clear ok; subst l)
 refine az ((K.ge.k K.kp0).cls (.inr hi)) λN mN j h _=>?_
 obtain ⟨i,r⟩:=j
 refine eH (i) λnm q bs' sn n col dd k0 k1 k2 k3 k5 z=>?_
 have ga:=h "__getattribute__" (by simp)
 have u:handedOut vf=pure vf:=by cases rd<;>rfl
 rw[arm_eval_Attribute]
 refine wpAny_bind (dZ K.eok.kind (bnd v).2.1 (K.loc.var K.eok hv) ?_)
 obtain ⟨t,g,dr,m,o⟩:=s
 exact wpAny_bind (wpAny_standAt (wpAny_bind (wpAny_holding (load_attr z r ga (h "full" (by simp)) kG I f2 u (wpAny_bind (wpAny_letTemporaryGo (wpAny_pure (hQ _ (.toks ⟨t,g,dr,m,o⟩ _)))))))))
theorem rK (S:∀ i,SimE fns k C XP i) {s:Shared}{x:String}{d:PyData}{v0:Value}{bs0:List Addr}{Er:Value->Shared->Prop}(K:SOK fns k h0 P Z A env s.heap σ vals fp) (hr:R s.heap v0 d bs0) (hz:sz d=true)
  (base:∀ {exx:Expr}{Q:Value->Shared->Prop},mr env.scope.names x exx=true->(∀ s',Kp s s'->Q v0 s')->wpAny (model prog w) A (eval exx env) Q Er s) :
  ∀ {is:Es}{exx:Expr}{p:List Int×PyData},t8 env.scope.names x is exx=true->evP C d is σ = .ok p->∀ {Q:Value->Shared->Prop},(∀ u s' bs,Kp s s'->AtV s'.heap p.1 v0 u->R s'.heap u p.2 bs->sz p.2=true->Q u s')->wpAny (model prog w) A (eval exx env) Q Er s
 | .nil,exx,p,ok,g,Q,hQ=>by
  (have o:=Out.ok.inj g; clear g; subst o)
  exact base ok λs' n=>hQ v0 s' bs0 n rfl (hr.k n.k) hz
 | .cons i r,exx,p,ok,g,Q,hQ=>by
  refine aj ok λq e1 h=>?_
  refine cR h λo1 o2=>?_
  rw[fG e1]
  refine Out.bind_k g λp1 hp1 g=>?_
  refine Out.bind_k g λr1 y g=>?_
  refine bh g λk1 hk1 g=>?_
  refine bh g λk2 hk2 g=>?_
  refine bh g λe2 he2 g=>?_
  (have o:=Out.ok.inj g; clear g; subst o)
  refine Subscript_ (rK S K hr hz base o1 hp1 λu s₁ bs n at1 ru zu=>?_)
  refine (K.onK n.k).eval (S i) o2 y λvb l E=>?_
  obtain ⟨j,cs,rb,_⟩:=E
  rw[bZ hk1,c8 hk2] at rb
  refine rb.1.isInt_k λt m _=>?_
  subst m
  exact pN (gn o2) he2 (ru.k j.k) zu λv ds it rv z hd=>hQ v l ds (n.trans j) (.snoc it (at1.keep j.k)) rv z
theorem wU (hC:cr fns k C XP) (Si:∀ i,SimE fns k C XP i) (S:SimE fns k C XP e):dW fns k C (.appF x is e):=by
 intro stmt h0 P Z A env σ vals fp s Q Er σ' fl ok K j hN hR
 replace ok:=A3 ok
 refine Cv (ok.resolve_right id) λyy ii pp mm ap v pos sp MG ok1=>?_
 clear ok
 subst MG
 revert ok1; intro ok
 simp only[and_eq_true,beq_iff_eq] at ok
 refine aa (ok) λLG oe=>?_
 clear ok
 refine aa (LG) λLD op=>?_
 clear LG
 refine aa (LD) λLK hl=>?_
 clear LD
 subst LK
 cases hx:σ x with
 | none=>simp only[jX,hx] at j; exact nB j
 | some q=>
  obtain ⟨vx,mx⟩:=q
  simp only[jX,hx] at j
  cases mx with
  | sh=>exact nB j
  | top=>exact nB j
  | deep=>
   refine bh j λg hg j=>?_
   refine bh j λq hq j=>?_
   refine vM j λp1 hp1 j=>?_
   refine vM j λr hr j=>?_
   refine bh j λy hy j=>?_
   by_cases hsy:sx y=true
   ·rw[if_pos hsy] at j
    refine bh j λd' hd' j=>?_
    replace hN:=mz j hN
    obtain ⟨c,d,n⟩:=q
    cases jA hq
    dsimp only at hp1 hd' hN
    refine aa (K.val x _ hx) λuu LQ=>?_
    refine am (LQ) λv0 hv0 LC hb=>?_
    refine aa (K.deep x _ hx rfl) λhd1 hd2=>?_
    refine jq (LC) λX D o vf bs t u mA h1 h2 h3 h4 h5 h6 h7 h8 h9 h10 h11 h12 h13 h14=>?_
    (clear LC; subst h1)
    have nd:(X::D::bs).Nodup:=h2▸hd2
    have nd1:=nodup_cons.mp nd
    have nd2:=nodup_cons.mp nd1.2
    have I:s.heap.Inst X SF.rule mA:=(bU o h3 h4 h5 (.inr (aw D h6 h7 h8)))
    refine wpAny_Expr_any (wpAny_Call_append rfl (by rw[aO oe]; rfl) (by simpa using hl) (by rw[aO oe]; rfl) ?_) (zQ K.eok)
    refine rK Si K h13 h14 (λok' hq'=>wF (BU hC hg) K hv0 I h10 h13 ok' hq') op hp1 λu2 s₁ bs1 kp at1 ru zu=>?_
    refine uL (R.modP p1.1 (h13.k kp.k) nd2.2 hd' at1) λa vs m Lu ea ham hlen hup=>?_
    (clear at1 ru; subst Lu)
    refine (aU a vs.toArray rfl (bF _ m ea rfl rfl rfl) ((K.onK kp.k).eval S oe hr λu2 sb E=>?_))
    obtain ⟨kp2,as2,p,_⟩:=E
    rw[bZ hy] at p
    revert p; intro Mt
    refine aa (Mt) λp zu2=>?_
    clear Mt
    cases p.sx_nil hsy
    unfold lim at hlen
    refine wpAny_list_append_plain (hsz:=by rw[size_toArray]; unfold sizeLine; exact Is hlen) ⟨m,kp2.k.get ea rfl⟩ λh' hp hs=>?_
    refine ai (hp) λn' ep=>?_
    have ea2:=kp2.k.get ea rfl
    have ru3:R h' u2 y []:=p.off (wr:=[a]) (λb hb o l=>.inr (by
     rw[mem_singleton.mp hb] at l ⊢
     rw[ea2] at l; (have oc:=Option.some.inj l; clear l; subst oc)
     exact ⟨by simp,λhm=>by cases hm⟩)) λb o hb l=>hs.extBut b o (λq=>hb (by simp[q])) l
    have kg1:KG (λb=>b≠a) s₁.heap h':=(kp2.k.mono λuu uu=>trivial).trans (KG.same hs (λq=>q rfl) λo l=>by rw[ea2] at l; (have oc:=Option.some.inj l; clear l; subst oc); exact Stay.not_list)
    have rn:=hup h' u2 n' kg1 (by simpa using ep) ru3
    have kg0:KG (λb=>b≠a) s.heap h':=(kp.k.mono λuu uu=>trivial).trans kg1
    have neX:X≠a:=λq=>nd1.1 (q▸mem_cons_of_mem _ ham)
    have neD:D≠a:=λq=>nd2.1 (q▸ham)
    have rvn:RV h' (.ref X) (.rule c d' n) (fp x):=by
     rw[h2]
     refine bz (h8) λoD es ep' e hd=>?_
     obtain ⟨oD',eD,q,_⟩:=kg0.dataG (.inl neD) e λfs q=>by rw[hd.1] at q; cases q
     exact iW X D o vf bs t u mA rfl rfl (kg0.hard (.inl neX) h3 (by unfold hardB; rw[h4])) h4 h5 h6 h7 (cz oD' es ep' eD ⟨q.trans hd.1,hd.2⟩) h9 h10 h11 h12 rn (nX zu2 p1.1 hd' h14)
    have hax:a∈fp x:=by rw[h2]; exact mem_cons_of_mem _ (mem_cons_of_mem _ ham)
    have K':=((K.onK kp.k).onK kp2.k).inner hx hv0 hax ea2 (by simp) Stay.not_list (λuu q=>by cases q) hs (V1:=.rule c d' n) rvn
    exact hN _ vals fp ((kp.trans kp2).stp.same hs (hd1 a hax).1 λo l=>by rw[ea2] at l; (have oc:=Option.some.inj l; clear l; subst oc); exact Stay.not_list) K' (.id λz q h=>by
     by_cases ez:z=x
     ·exact ⟨_,ez▸hx⟩
     ·exact ⟨q,(if_neg ez).symm.trans h⟩)
   ·rw[if_neg hsy] at j; exact nB j
end
section
theorem SOK.lv (hf:fns.hand=false) (K:SOK fns k h0 P Z A env h σ vals fp):Lv A env h:=by
 refine cX (K.out hf) λl x v p u=>?_
 refine (aw l x (λj g=>?_) p)
 rcases mem_cons.mp g with rfl | g
 ·refine ae (K.loc.ns) λm i _=>?_
  refine aL (i) λo y z e r _=>?_
  clear i
  refine ae (K.loc.cls) λo' n t=>?_
  rw[e] at n; (have q:=Option.some.inj n; clear n; subst q)
  exact (aH K.eok.kind (kZ _ o y z p u e t r))
 ·exact v.k K.kp0 j g
theorem SOK.zd (K:SOK fns k h0 P Z A env h σ vals fp) (b:Addr) (hb:Z b):dom h b:=K.zdom b hb
theorem SOK.evalX (hf:fns.hand=false) (K:SOK fns k h0 P Z A env s.heap σ vals fp) (S:SimE fns k C XPc e) (ok:okE env.scope.names e exx=true) (he:ev C e σ = .exc c)
  (hE:∀ x s',Stp Z s s'->Lv A env s'.heap->Exc Z s'.heap c env.locals x->Er x s'):wpAny (model prog w) A (PySem.eval exx env) Q Er s:=by
 have g:ev C e (cK σ (fv e)) = .exc c:=by rw[ay C e _ σ (cj σ (fv e))]; exact he
 refine S ok (K.cx (fv e)) (by rw[g]; simp) (λr h=>by rw[g] at h; cases h) λj i x s' X=>?_
 rw[g] at i; cases i
 exact hE x s' X.1.stp ((K.onK X.1.k).lv hf) (Fly.exc (X.2.old K.zd))
theorem SOK.evalTX (hf:fns.hand=false) (K:SOK fns k h0 P Z A env s.heap σ vals fp) (S:SimT fns k C XPc e) (ok:okE env.scope.names e exx=true) (he:ev C e σ = .exc c)
  (hE:∀ x s',Stp Z s s'->Lv A env s'.heap->Exc Z s'.heap c env.locals x->Er x s'):wpAny (model prog w) A (isTrue exx env (PySem.eval exx env)) Q Er s:=by
 have g:ev C e (cK σ (fv e)) = .exc c:=by rw[ay C e _ σ (cj σ (fv e))]; exact he
 refine S ok (K.cx (fv e)) (by rw[g]; simp) (λr h=>by rw[g] at h; cases h) λj i x s' X=>?_
 rw[g] at i; cases i
 exact hE x s' X.1.stp ((K.onK X.1.k).lv hf) (Fly.exc (X.2.old K.zd))
theorem x7:NE (ao v):=λc h=>by
 unfold ao at h
 split at h<;>cases h
theorem zp (hf:fns.hand=false) (S:SimE fns k C XPc e):dU fns k C (.ret e):=by
 intro p u P Z A r t o v s Q Er c j K l q
 replace j:=wW j
 revert j; refine λg=>Or.elim g (λh=>?_) (λj=>?_)
 ·clear g
  refine au (h) λn m i j=>?_
  clear h
  subst i
  simp only[gN] at l
  rcases b8 l with l | ⟨_,_,l⟩
  ·exact wpAny_Return_some (K.evalX hf S j l q)
  ·cases l
 ·cases j
theorem vy (hf:fns.hand=false) (S:SimE fns k C XPc e):dU fns k C (.expr e):=by
 intro u z P Z A r y t fp s Q Er c j K l x
 replace j:=n9 j
 revert j; refine λg=>Or.elim g (λh=>?_) (λj=>?_)
 ·clear g
  refine iC (h) λq p o n m i j=>?_
  clear h
  subst i
  simp only[fw] at l
  have v:interactive r=false:=by unfold interactive; rw[K.eok.kind]; rfl
  rcases b8 l with l | ⟨_,_,l⟩
  ·exact wpAny_Expr_any (K.evalX hf S j l x) v
  ·cases l
 ·cases j
theorem sd (hf:fns.hand=false) (S:SimE fns k C XPc e):dU fns k C (.assign x e):=by
 intro u h0 P Z A env σ t fp s Q Er c g K j z
 replace g:=ko g
 revert g; refine λh=>Or.elim h (λi=>?_) (λg=>?_)
 ·clear h
  refine cH (i) λq p o n l g=>?_
  clear i
  subst l
  simp only[and_eq_true,beq_iff_eq] at g
  refine aa (g) λm v=>?_
  clear g
  refine aa (m) λr hb=>?_
  clear m
  subst r
  simp only[bW] at j
  rcases b8 j with j | ⟨_,_,j⟩
  ·refine aa (su j) λj y=>?_
   exact wpAny_Assign_Name (K.evalX hf S v j z) (iN (kF y v) _ _ _)
  ·cases j
 ·cases g
theorem xm (hf:fns.hand=false) (T:SimT fns k C XPc c) (Xa:dm fns k C a) (Xb:dm fns k C b):dU fns k C (.ite c a b):=by
 intro stmt h0 P Z A env σ z fp s Q Er c' h K g y
 replace h:=vS h
 revert h; refine λi=>Or.elim i (λj=>?_) (λh=>?_)
 ·clear i
  refine cH (j) λp o n m l h=>?_
  clear j
  subst l
  simp only[and_eq_true] at h
  simp only[je] at g
  rcases b8 g with g | ⟨r,hr,g⟩
  ·exact wpAny_If (K.evalTX hf T h.1.1 g y)
  ·rcases b8 g with g | ⟨t,ht,g⟩
   ·exact absurd g (x7 c')
   ·refine wpAny_If (K.evalT T h.1.1 (b:=t) (by rw[hr]; exact ht) λs₁ v=>?_)
    have K₁:=K.onK v.k
    cases t with
    | true=>
     rw[if_pos rfl] at g ⊢
     exact Xa h.1.2 K₁ g λx u q=>y x u (v.stp.trans q)
    | false=>
     simp only[false_eq_true,if_false] at g ⊢
     exact Xb h.2 K₁ g λx u q=>y x u (v.stp.trans q)
 ·cases h
theorem ua {st:S}{r:Ss}(S:dW fns k C st) (X:dU fns k C st) (Xr:dm fns k C r):dm fns k C (.cons st r):=by
 intro p h0 P Z A env σ y fp s Q Er c g K j z
 replace g:=sQ g
 revert g; refine λh=>Or.elim h (λi=>?_) (λg=>?_)
 ·clear h
  refine au (i) λn m l g=>?_
  clear i
  subst l
  simp only[and_eq_true] at g
  simp only[ch] at j
  rcases b8 j with j | ⟨⟨σa,fla⟩,h1,j⟩
  ·exact wpAny_execs_cons (X g.1 K j z)
  ·dsimp only at j
   cases fla with
   | ret v=>cases j
   | next=>
    refine wpAny_execs_cons (S g.1 K h1 (λuu s' o fp' st K' F=>?_) λq e=>by cases e)
    exact Xr g.2 K' j λx u t=>z x u (st.trans t)
 ·cases g
theorem vZ:dm fns k C .nil:=by
 intro g o P Z A j l h p s Q Er c m K i n
 simp only[dA] at i
 cases i
theorem tJ (hf:fns.hand=false) (hC:cr fns k C XPc):dU fns k C (.raise c):=by
 intro x h0 P Z A env σ v fp s Q Er c' h K l hE
 replace h:=yM h
 revert h; refine λi=>Or.elim i (λj=>?_) (λh=>?_)
 ·clear i
  refine k9 (j) λr np t kk p2 cp pos m h=>?_
  clear j
  subst m
  simp only[and_eq_true,beq_iff_eq,decide_eq_true_eq] at h
  refine aa (h) λp hl=>?_
  clear h
  refine aa (p) λn hd=>?_
  clear p
  refine aa (n) λu hg=>?_
  clear n
  subst u
  simp only[iA] at l
  cases hc:C c with
  | none=>rw[hc] at l; cases l
  | some g=>
   rw[hc] at l
   simp only[al] at l
   split at l
   ·rename_i hn
    cases l
    have z:=(hC c g hc).2.2.1 hn
    have ge:=K.ge.k K.kp0
    refine am (ge.exc) λmg g1 g2 _=>?_
    refine aa (g2 c z) λgm xd=>?_
    refine xd.use @λN nm q bs hdct sn sub ab col dd k0 k1 k2 k3 k5 mN e1 e2 e3 e4=>?_
    refine wpAny_Raise_call_subT (C:=SF.exc c) (nm:=nm) (q:=q) (N:=N) (bs:=bs) (bm:=dR c) (hdct:=hdct) (sn:=sn) (sub:=sub) (ab:=ab) (col:=col) (dd:=dd) (k0:=k0) (k1:=k1) (k2:=k2) (k3:=k3) (k5:=k5)
     PySem.F.excBase_ValueError (mN:=mN) (e4.hasType PySem.F.excBase_ValueError.hasBase) (K.room.1 hf) rfl e3 (Calls.Name_function_global K.eok.kind (fA hg) (Calls.loadGlobal_global (K.eok.glob▸g1) gm ⟨rfl,?_⟩) (nd hd))
    refine Calls.evalArgs_plain (wpAny_items_cons (wpAny_Constant_str (wpAny_items_nil (io rfl (by show 1<=sizeLine; rw[sizeLine_eq]; exact JI) e1 e2 e4 (λh' e Mk=>?_)))) rfl)
    refine am (Mk.there) λtt m1 m2 m3=>?_
    have y:Kp s {s with heap:=h',toks:=s.toks+1 }:=.of Mk.keeps
    refine hE _ _ y.stp ((K.onK y.k).lv hf) (aU e _ rfl (cA (λq=>(by obtain ⟨o,eo⟩:=K.zdom e q; rw[Mk.new] at eo; cases eo)) z (aw _ m1 rfl rfl)) (.inl rfl))
   ·cases l
 ·cases h
theorem pz {α β:Type}{o:Out α}{f:α->Out β}{c:String}(h:o.calm.bind f = .exc c):∃ a,f a = .exc c:=by
 cases o with
 | ok a=>exact ⟨a,h⟩
 | exc c=>cases h
 | bad=>cases h
theorem lp {α β:Type}{o:Out α}{f:α->Out β}{c:String}{G:Prop}(h:o.calm.bind f = .exc c) (k:∀ a,f a = .exc c->G):G:=ai (pz h) k
theorem pY (h:al o f = .exc c):∃ a,f a = .exc c:=by
 cases o with
 | some a=>exact ⟨a,h⟩
 | none=>cases h
theorem cD {α β:Type}{o:Option α}{f:α->Out β}{c:String}{G:Prop}(h:al o f = .exc c) (k:∀ a,f a = .exc c->G):G:=ai (pY h) k
theorem gG {st:S}(h:∀ σ c,ex C st σ≠.exc c):dU fns k C st:=by
 intro i o P Z A l σ g p s Q Er c m K j n
 exact absurd j (h σ c)
theorem qR:dU fns k C (.setitem x e):=gG λg c h=>by rw[db] at h; exact NE.calm c h
theorem sj:dU fns k C (.append x e):=gG λg c h=>by rw[eV] at h; exact NE.calm c h
theorem wA:dU fns k C (.appF x is e):=gG λg c h=>by
 simp only[jX] at h
 split at h
 ·refine cD h λuu h=>?_
  refine cD h λd h=>?_
  refine lp h λp h=>?_
  refine lp h λr h=>?_
  refine cD h λy h=>?_
  split at h
  ·obtain ⟨i,h⟩:=pY h; cases h
  ·cases h
 ·cases h
theorem vT:dU fns k C (.retn x):=gG λg c h=>by
 simp only[lJ] at h
 split at h<;>cases h
theorem xg:dU fns k C .bad:=gG λg c h=>by simp only[BW] at h; cases h
end
section
end
section
variable {M:Model}{A:Around}{E:Value->Shared->Prop}{g:Array GenState}{dr:Drawn}{tk:Nat}{os:OsState}
theorem so
  (hC:h.get? C=some (excClassObj nm q C N bs bm hdct sn sub ab col dd k0 k1 k2 k3 k5 ni)) (hD:h.get? D=some (excClassObj nm' q' D N' bs' bm' hdct' sn' sub' ab' col' dd' j0 j1 j2 j3 j5 ni')) (he:h.get? e=some oe) (hcls:oe.cls = .ref C) (hbase:bm'.contains (.type "BaseException")=true)
  (hq:Q ((Value.ref C::bm).contains (.ref D)) ⟨h,g,dr,tk,os⟩):wpAny M A (excMatches (.ref e) (.ref D)) Q E ⟨h,g,dr,tk,os⟩:=by
 have i:(Value.ref D::bm').contains (.type "BaseException")=true:=by rw[List.contains_cons,hbase,Bool.or_true]
 have f:=tc_notTuple
 unfold excMatches
 repeat (first | (with_reducible refine wpAny_loadPart_at he ?_; rw[hcls]) | with_reducible refine wpAny_loadPart_at hD ?_ | (with_reducible refine wpAny_isSubtype_exc hD ?_; rw[i]) | with_reducible refine wpAny_isSubtype_exc hC ?_ | wp_step)
 cases hb:(Value.ref C::bm).contains (.ref D)<;>(rw[hb] at hq; wp_walk; exact hq)
end
section
theorem SOK.hand (hf:fns.hand=false) {h:Heap}(K:SOK fns k h0 P Z A env h σ vals fp) (v:Value):SOK {fns with hand:=true } k h0 P Z (A.mark (some v)) env h σ vals fp where
 room:=by
  refine aa (K.room.at hf) λi g=>?_
  refine ⟨(λq=>by cases q),?_,?_⟩
  ·show A.depth+2*k+1<_; exact HW i
  ·show A.units+100*k+200<_; exact IY g
 eok:=K.eok
 ge:=K.ge.flag _ _
 z0:=K.z0
 kp0:=K.kp0
 code:=K.code
 out:=λq=>by exact nT q
 zdom:=K.zdom
 loc:=K.loc
 val:=K.val
 top:=K.top
 deep:=K.deep
theorem SOK.back {h ha:Heap}{σa:St}{valsa:String->Option Value}{fpa:String->List Addr}{v:Value}(K:SOK {fns with hand:=true } k h0 P Z (A.mark (some v)) env h σ vals fp) (g:SOK fns k h0 P Z A env ha σa valsa fpa):SOK fns k h0 P Z A env h σ vals fp where
 room:=g.room
 eok:=K.eok
 ge:=g.ge
 z0:=K.z0
 kp0:=K.kp0
 code:=K.code
 out:=g.out
 zdom:=K.zdom
 loc:=K.loc
 val:=K.val
 top:=K.top
 deep:=K.deep
theorem calm_bind_ok' {α β:Type}{o:Out α}{f:α->Out β}{b:β}(h:o.calm.bind f = .ok b):∃ a,o = .ok a/\f a = .ok b:=by
 cases o with
 | ok a=>exact (af a rfl h)
 | exc c=>exact nB h
 | bad=>exact nB h
theorem z3:∀ (b:List H1) {stmts:List Stmt}{h0:Heap}{P Z:Addr->Prop}{A:Around}{env:Env}{σ:St}{vals:String->Option Value}{fp:String->List Addr}{s:Shared}{Q:Flow->Shared->Prop}{Er:Value->Shared->Prop}{σ':St}{fl:Flw},
  xP env.scope.names b stmts=true->SOK fns k h0 P Z A env s.heap σ vals fp->exH b σ = .ok (σ',fl) ->
  (fl = .next->∀ s' vals' fp',Stp Z s s'->SOK fns k h0 P Z A env s'.heap σ' vals' fp'->Frm Z (ye b) σ vals fp σ' vals' fp'->Q .next s')->(∀ r,fl = .ret r->∀ v s',Stp Z s s'->l7 h0 P r v s'->Q (.ret v) s') ->
  wpAny (model prog w) A (execs stmts env) Q Er s
 | [],stmts,h0,P,Z,A,env,σ,vals,fp,s,Q,Er,σ',fl,ok,K,g,hN,hR=>by
  refine bP (show (dH stmts).isSome=true from ok) λuu e=>?_
  rw[b6 e]
  cases g
  exact wpAny_execs_nil (hN rfl s vals fp (.refl Z s) K (.id λz q h=>⟨q,h⟩))
 | .asg x e::r,stmts,h0,P,Z,A,env,σ,vals,fp,s,Q,Er,σ',fl,ok,K,g,hN,hR=>by
  refine aj ok λq t ok=>?_
  refine cR ok λm o2=>?_
  rw[cT t]
  unfold exH at g
  split at g
  ·rename_i o
   refine ae (calm_bind_ok' g) λv n g=>?_
   have S:SimE fns k noC XPc e:=(eA bY e o).e
   refine wpAny_execs_cons (ly (x:=x) S ⟨λuu uu uu q=>(by (clear S hN g n m ok; subst q); cases o),λuu uu uu uu q=>(by (clear S hN g n m ok; subst q); cases o)⟩ (show okS env.scope.names (.assign x e) q.1=true from m) K (σ':=upd (consume σ (fv e) v.2) x v) (fl:=.next) (by simp only[bW]; rw[jv n]; rfl) (λuu y j p i K₁ F₁=>?_) λr q=>by cases q)
   exact z3 r o2 K₁ g (λe s' vals' fp' l K' F=>hN e s' vals' fp' (i.trans l) K' (F₁.trans F)) λr e v s' l=>hR r e v s' (i.trans l)
  ·exact nB g
 | .ret e::r,stmts,h0,P,Z,A,env,σ,vals,fp,s,Q,Er,σ',fl,ok,K,g,hN,hR=>by
  refine aj ok λq t ok=>?_
  refine cR ok λm o2=>?_
  rw[cT t]
  unfold exH at g
  split at g
  ·rename_i o
   refine ae (calm_bind_ok' g) λv n g=>?_
   cases g
   have S:SimE fns k noC XPc e:=(eA bY e o).e
   exact wpAny_execs_cons (qY S (show okS env.scope.names (.ret e) q.1=true from m) K (σ':=σ) (fl:=.ret v) (by simp only[gN]; rw[n]; rfl) (λq=>by cases q) λr q u s' l R=>hR r q u s' l R)
  ·exact nB g
noncomputable def Kx (fns:Fns) (k:Nat) (C:Calls) (st:S):Prop:=∀ {stmt:Stmt}{h0:Heap}{P Z:Addr->Prop}{A:Around}{env:Env}{σ:St}{vals:String->Option Value}{fp:String->List Addr}{s:Shared}{Q:Flow->Shared->Prop}{Er:Value->Shared->Prop}{c:String},
 okS env.scope.names st stmt=true->SOK fns k h0 P Z A env s.heap σ vals fp->ex C st σ = .exc c->(∀ x s',XPc c s x s'->Er x s')->wpAny (model prog w) A (exec stmt env) Q Er s
theorem SOK.evalK (K:SOK fns k h0 P Z A env s.heap σ vals fp) (S:SimE fns k C XPc e) (ok:okE env.scope.names e exx=true) (he:ev C e σ = .exc c)
  (hE:∀ x s',XPc c s x s'->Er x s'):wpAny (model prog w) A (PySem.eval exx env) Q Er s:=by
 have g:ev C e (cK σ (fv e)) = .exc c:=by rw[ay C e _ σ (cj σ (fv e))]; exact he
 refine S ok (K.cx (fv e)) (by rw[g]; simp) (λr h=>by rw[g] at h; cases h) λj i x s' X=>?_
 rw[g] at i; cases i
 exact hE x s' X
theorem y6 (hb:xk b=true) (Se:∀ e,b = .expr e->SimE fns k C XPc e) (Sa:∀ x e,b = .assign x e->SimE fns k C XPc e):Kx fns k C b:=by
 intro stmt h0 P Z A env σ vals fp s Q Er c g K h hE
 cases b with
 | expr e=>
  replace g:=n9 g
  revert g; refine λj=>Or.elim j (λm=>?_) (λg=>?_)
  ·clear j
   refine iC (m) λLP L6 z y v o g=>?_
   clear m
   subst o
   simp only[fw] at h
   have hi:interactive env=false:=by unfold interactive; rw[K.eok.kind]; rfl
   rcases b8 h with h | ⟨_,_,h⟩
   ·exact wpAny_Expr_any (K.evalK (Se e rfl) g h hE) hi
   ·cases h
  ·cases g
 | assign x e=>
  replace g:=ko g
  revert g; refine λi=>Or.elim i (λl=>?_) (λg=>?_)
  ·clear i
   refine cH (l) λu t r q n g=>?_
   clear l
   subst n
   simp only[and_eq_true,beq_iff_eq] at g
   refine aa (g) λp oe=>?_
   clear g
   refine aa (p) λK4 hb=>?_
   clear p
   subst K4
   simp only[bW] at h
   rcases b8 h with h | ⟨_,_,h⟩
   ·refine aa (su h) λh hc=>?_
    exact wpAny_Assign_Name (K.evalK (Sa x e rfl) oe h hE) (iN (kF hc oe) _ _ _)
   ·cases h
  ·cases g
 | _=>exact nF hb
theorem xW (inj:∀ c∈SF.excN,∀ c' ∈ "PickError" :: SF.excN,SF.exc c=SF.exc c'->c=c') (hc:c∈SF.excN) (hd:d∈SF.excN):(Value.ref (SF.exc c)::dR c).contains (.ref (SF.exc d))=decide (d=c\/d = "PickError"):=by
 have g:bmV.contains (.ref (SF.exc d))=false:=by unfold bmV; simp
 by_cases h1:d=c
 ·(clear hc; subst h1); simp
 ·have h:SF.exc d≠SF.exc c:=λq=>h1 (inj d hd c (.tail _ hc) q)
  rw[List.contains_cons]
  have i:(Value.ref (SF.exc d)==Value.ref (SF.exc c))=false:=by simpa using h
  rw[i,Bool.false_or]
  unfold dR
  by_cases h2:d = "PickError"
  ·(clear i g hd h; subst h2)
   have:c ≠ "PickError" := λq=>h1 q.symm
   rw[if_neg this]
   simp
  ·have j:SF.exc d≠SF.exc "PickError" := λq=>h2 (inj d hd _ (.head _) q)
   have:decide (d=c\/d = "PickError")=false:=by simp[h1,h2]
   rw[this]
   split
   ·exact g
   ·rw[List.contains_cons,g,Bool.or_false]
    simpa using j
theorem vP (hf:fns.hand=false) (hC:cr fns k C XPc) (K₀:SOK fns k h0 P Z A env s.heap σ vals fp):∀ (hs:List (String×List H1)) (ds:List ExceptHandler) {h:Heap}{tk:Nat},tR env.scope.names hs ds=true ->
  K s.heap h->FlyA (dom s.heap) h c .none x->FrOk h l->lY C c hs σ = .ok (σ',fl) ->
  (fl = .next->∀ s' vals' fp',Stp Z s s'->SOK fns k h0 P Z A env s'.heap σ' vals' fp'->Frm Z (uO hs) σ vals fp σ' vals' fp'->Q .next s')->(∀ r,fl = .ret r->∀ v s',Stp Z s s'->l7 h0 P r v s'->Q (.ret v) s') ->
  wpAny (model prog w) A (handleBy x env ds) Q Er {s with heap:=h,toks:=tk }
 | [],ds,h,tk,ok,kk,fly,fr,m,hN,hR=>by exact nB m
 | p::r,[],h,tk,ok,kk,fly,fr,m,hN,hR=>by exact nF ok
 | p::r,d::ds,h,tk,ok,kk,fly,fr,m,hN,hR=>by
  refine cR ok λu o2=>?_
  refine aj u λq e1 u=>?_
  refine aj u λn e2 u=>?_
  simp only[and_eq_true,beq_iff_eq] at u
  refine aa (u) λK8 ob=>?_
  clear u
  refine aa (K8) λK5 hd=>?_
  clear K8
  refine aa (K5) λhn hg=>?_
  clear K5
  refine ai (xJ e1) λpos e3=>?_
  rw[e3,aY e2,hn]
  unfold lY at m
  refine bh m λgC hgC m=>?_
  split at m
  ·rename_i hne
   have hdN:=(hC p.1 gC hgC).2.2.1 hne
   have ge:=K₀.ge.k (KG.trans K₀.kp0 kk)
   refine am (ge.exc) λmg g1 g2 g3=>?_
   refine aa (g2 p.1 hdN) λgm xd=>?_
   refine xd.use λd1 d2 d3 d4=>?_
   clear xd
   have t:=fly
   refine az (fly) λe vs K7 Lc _=>?_
   clear fly
   subst K7
   refine aG (Lc) λne cn j=>?_
   clear Lc
   refine am (j) λoe ee hc hdt=>?_
   clear j
   refine (g2 c cn).2.use λc1 c2 c3 c4=>?_
   refine wpAny_handleBy_cons (codeAny_handlers_test (Calls.Name_function_global K₀.eok.kind (fA hg) (Calls.loadGlobal_global (K₀.eok.glob▸g1) gm ?_) (nd hd))) (by intro q; cases q)
   refine so c1 d1 ee hc (d4.hasType PySem.F.excBase_ValueError.hasBase) ?_
   rw[xW g3 cn hdN]
   split at m
   ·rename_i hm
    rw[decide_eq_true hm]
    refine codeAny_handlers_suite (nv (l:=l) fr t λg fd kd F₄=>?_)
    have k04:K s.heap g:=Internal.K.step kk kd λb o e=>⟨o,e⟩
    have i:Stp Z s {s with heap:=g,toks:=tk }:=(aC g tk rfl (k04.mono λuu uu=>trivial))
    refine z3 (fns:={fns with hand:=true }) (s:={s with heap:=g,toks:=tk }) p.2 ob ((K₀.onK k04).hand hf (.ref e)) m (λe s' vals' fp' z K' F=>?_) λr e v s' z R=>hR r e v s' (i.trans z) R
    (clear hR; subst e)
    exact hN rfl s' vals' fp' (i.trans z) (K'.back K₀) (F.more λy hy=>mem_append_left _ hy)
   ·rename_i hm
    rw[decide_eq_false hm]
    exact vP hf hC K₀ r ds o2 kk t fr m (λe s' vals' fp' z K' F=>hN e s' vals' fp' z K' (F.more λy hy=>mem_append_right _ hy)) hR
  ·exact nB m
theorem B5 (h:orH C b hs σ o = .ok r):o = .ok r\/∃ c,o = .exc c/\xk b=true/\lY C c hs σ = .ok r:=by
 cases o with
 | ok a=>exact .inl h
 | exc c=>
  simp only[orH] at h
  split at h
  ·rename_i q; exact .inr (aw c rfl q h)
  ·exact nB h
 | bad=>exact nB h
theorem xT (hf:fns.hand=false) (hC:cr fns k C XPc) (Sb:dW fns k C b) (Se:∀ e,b = .expr e->SimE fns k C XPc e) (Sa:∀ x e,b = .assign x e->SimE fns k C XPc e):dW fns k C (.tryS b hs):=by
 intro stmt h0 P Z A env σ vals fp s Q Er σ' fl ok K j hN hR
 refine mF (CW ok) λt d ds p Ld ob oh=>?_
 (clear ok; subst Ld)
 simp only[hJ] at j
 refine wpAny_Try_except (wpAny_execs_cons ?_)
 rcases B5 j with j | ⟨c,j,h1,h2⟩
 ·refine Sb ob K j (λe n g i m K' F=>?_) λr e v n m R=>hR r e v n m R
  exact wpAny_execs_nil (wpAny_execs_nil (hN e n g i m K' (F.more λy hy=>mem_append_left _ hy)))
 ·refine y6 h1 Se Sa ob K j λx s₁ X=>?_
  refine aa (X) λq fly=>?_
  clear X
  refine au (q) λha tka K3 h=>?_
  clear q
  subst K3
  refine am ((K.onK h).lv hf) λl l1 l2 l3=>?_
  have hN':∀ b,dom s.heap b->∃ o,ha.get? b=some o:=λb ⟨o,e⟩=>ae (h b o (.inl trivial) e) λo' e' uu=>⟨o',e'⟩
  refine yU hN' l1 l2 l3 (Fly.exc fly) λhb fb z F₂=>nv F₂ fb λhc f₃ u F₃=>?_
  exact vP hf hC K hs (d::ds) oh (Internal.K.step (Internal.K.step h z λb o e=>⟨o,e⟩) u λb o e=>⟨o,e⟩) f₃ F₃ h2 (λe n g i m K' F=>hN e n g i m K' (F.more λy hy=>mem_append_right _ hy)) hR
theorem xe:∀ (b:List H1) (σ:St),exH b σ≠.exc c
 | [],σ,h=>by cases h
 | .asg x e::r,σ,h=>by
  unfold exH at h
  split at h
  ·refine lp h λq h=>?_
   exact xe r _ h
  ·cases h
 | .ret e::r,σ,h=>by
  unfold exH at h
  split at h
  ·refine lp h λq h=>?_
   cases h
  ·cases h
theorem sU:∀ (hs:List (String×List H1)) (σ:St),lY C c hs σ≠.exc c'
 | [],σ,h=>by cases h
 | p::r,σ,h=>by
  unfold lY at h
  refine cD h λuu h=>?_
  split at h
  ·split at h
   ·exact xe _ _ h
   ·exact sU r σ h
  ·cases h
theorem xx:dU fns k C (.tryS b hs):=gG λg c h=>by
 simp only[hJ] at h
 cases o:ex C b g with
 | ok a=>rw[o] at h; cases h
 | exc c=>
  rw[o] at h
  simp only[orH] at h
  split at h
  ·exact sU _ _ h
  ·cases h
 | bad=>rw[o] at h; cases h
end
section
theorem RV.fields {h h':Heap}{wr:List Addr}{v:Value}{x:V}{as:List Addr}(r:RV h v x as) (hw:∀ b∈wr,∃ o,h.get? b=some o/\(∀ C,o.cls≠.ref C)/\∃ fs,o.data = .fields fs) (kp:∀ b o,b∉wr->h.get? b=some o->h'.get? b=some o):RV h' v x as:=by
 have j:∀ b o,h.get? b=some o->(∀ fs,o.data≠.fields fs)->b∉wr:=λb o e z hm=>by
  refine am (hw b hm) λi g _ p=>?_
  refine ai (p) λfs q=>?_
  clear p
  rw[e] at g; (have oc:=Option.some.inj g; clear g; subst oc)
  exact z fs q
 have key:∀ ks b,IsTupleKey (intKind prog w) h ks b->IsTupleKey (intKind prog w) h' ks b:=λks b hk=>by
  refine aL (hk) λi it n a1 a2 a3=>?_
  clear hk
  exact (cI i it n (kp b i (j b i a1 λfs q=>by rw[a3.1] at q; cases q) a1) a2 a3)
 cases x with
 | d x=>exact ⟨r.1.off (wr:=wr) (λb hb o e=>.inl λvs n q=>by
   refine am (hw b hb) λi g _ m=>?_
   refine ai (m) λfs q'=>?_
   clear m
   rw[e] at g; (have oc:=Option.some.inj g; clear g; subst oc)
   rw[q] at q'; cases q') kp,r.2⟩
 | dic0=>
  refine lj (r) λb h1 h2 h3 K9 K4=>?_
  clear r
  refine fR (K9) λo es ep e hx z hr=>?_
  clear K9
  refine cW (K4) λi es' ep' g h4 h5 h6 h7 h8=>?_
  clear K4
  exact (jL b h1 h2 h3 (iu o es ep (kp b o (j b o e λfs q=>by rw[z] at q; cases q) e) hx z hr) (gz i es' ep' (kp b i (j b i g λfs q=>by rw[h5] at q; cases q) g) h4 h5 h6 (λy hy=>key _ _ (h7 y hy)) h8))
 | dicI ks=>
  refine cX (r) λb h1 h2 h3 K8=>?_
  clear r
  refine fR (K8) λo es ep e hx z hr=>?_
  clear K8
  exact (bU b h1 h2 h3 (iu o es ep (kp b o (j b o e λfs q=>by rw[z] at q; cases q) e) hx z hr))
 | dicT ks=>
  refine m9 (r) λb xs h1 h2 h3 K5 h9=>?_
  clear r
  refine cW (K5) λi es' ep' g h4 h5 h6 h7 h8=>?_
  clear K5
  exact (gu b xs h1 h2 h3 (gz i es' ep' (kp b i (j b i g λfs q=>by rw[h5] at q; cases q) g) h4 h5 h6 (λy hy=>key _ _ (h7 y hy)) h8) h9.1 h9.2.1 (λx hx=>(h9.2.2 x hx).off (wr:=wr) (λb hb o e=>.inl λvs n q=>by
   refine am (hw b hb) λi g _ l=>?_
   refine ai (l) λfs q'=>?_
   clear l
   rw[e] at g; (have oc:=Option.some.inj g; clear g; subst oc)
   rw[q] at q'; cases q') kp))
 | rule c d n=>
  refine jq (r) λx D o vf bs t u mA h1 h2 h3 h4 h5 h6 h7 K7 h9 h10 h11 h12 h13 h14=>?_
  clear r
  refine bz (K7) λoD es ep e z=>?_
  clear K7
  have nx:x∉wr:=λhm=>by
   refine am (hw x hm) λi g hn _=>?_
   rw[h3] at g; (have oc:=Option.some.inj g; clear g; subst oc)
   exact hn _ h4
  have nD:D∉wr:=j D oD e λfs q=>by rw[z.1] at q; cases q
  exact (iW x D o vf bs t u mA h1 h2 (kp x o nx h3) h4 h5 h6 h7 (cz oD es ep (kp D oD nD e) z) h9 h10 h11 h12 (h13.off (wr:=wr) (λb hb o e=>.inl λvs n q=>by
   refine am (hw b hb) λi g _ k=>?_
   refine ai (k) λfs q'=>?_
   clear k
   rw[e] at g; (have oc:=Option.some.inj g; clear g; subst oc)
   rw[q] at q'; cases q') kp) h14)
theorem SOK.iter {h h':Heap}{wr:List Addr}(K:SOK fns k h0 P Z A env h σ vals fp) (hw:∀ b∈wr,∃ o,h.get? b=some o/\(∀ C,o.cls≠.ref C)/\∃ fs,o.data = .fields fs) (hw':∀ b∈wr,Z b->∃ o,h'.get? b=some o) (hw0:∀ b∈wr,h0.get? b=none) (hns:∀ b∈wr,∀ o,h.get? b=some o->¬ Stay o) (kp:∀ b o,b∉wr->h.get? b=some o->h'.get? b=some o):SOK fns k h0 P Z A env h' σ vals fp:=by
 have out:∀ b o,h.get? b=some o->(∀ fs,o.data≠.fields fs)->b∉wr:=λb o e y u=>by
  refine am (hw b u) λo' t _ j=>?_
  refine ai (j) λfs q=>?_
  clear j
  rw[e] at t; (have oc:=Option.some.inj t; clear t; subst oc)
  exact y fs q
 refine ⟨K.room,K.eok,K.ge,K.z0,Internal.K.step K.kp0 (KG.ofW kp hns) (λb o e u=>by rw[hw0 b u] at e; cases e),K.code,K.out,λb hb=>?_,⟨(let ⟨m,⟨o',es,ep,t,y,_⟩,_⟩:=K.loc.ns; ae (K.loc.cls) λo e c=>(af o (kp _ o (out _ o e λfs q=>by rw[e] at t; (have oc:=Option.some.inj t; clear t; subst oc); rw[y] at q; cases q) e) c)),?_,K.loc.nz,λn c a b=>?_,λx v c a b d=>?_,K.loc.apart,K.loc.kinds⟩,λx p hp=>?_,K.top,K.deep⟩
 ·by_cases u:b∈wr
  ·exact hw' b u hb
  ·refine ai (K.zdom b hb) λo e=>?_
   exact ⟨o,kp b o u e⟩
 ·refine ae (K.loc.ns) λm z hv=>?_
  refine aL (z) λo es ep e y hr=>?_
  clear z
  exact (af m (cI o es ep (kp _ o (out _ o e λfs q=>by rw[y] at q; cases q) e) y hr) hv)
 ·refine aG (K.loc.cell n c a b) λh1 h2 i=>?_
  refine au (i) λv o r l=>?_
  clear i
  exact (cA h1 h2 (aC v o (kp c o (out c o r λfs q=>by rw[l] at q; cases q) r) l))
 ·refine ae (K.loc.cval x v c a b d) λo r l=>?_
  exact (af o (kp c o (out c o r λfs q=>by rw[l] at q; cases q) r) l)
 ·refine aa (K.val x p hp) λh1 g=>?_
  refine am (g) λv h2 r l=>?_
  clear g
  exact (aH h1 (aw v h2 (r.fields hw kp) l))
theorem SOK.excl {s:Shared}{ns:List String}{m:Mode}{F:List Addr}(K:SOK fns k h0 P Z A env s.heap σ vals fp) (ha:∀ a∈F,Own σ fp ns a\/s.heap.get? a=none) (hd:m = .deep->∀ a∈F,s.heap.get? a=none) :
  ∀ y q,Internal.consume σ ns m y=some q->(q.2 = .top->∀ a bs,fp y=a::bs->a∉F)/\(q.2 = .deep->∀ a∈fp y,a∉F):=by
 have nf:∀ a,s.heap.get? a=none->∀ y q,σ y=some q->a∉fp y:=λa e y q hq hm=>by
  refine aa (K.val y q hq) λuu LL=>?_
  refine am (LL) λu _ hr _=>?_
  clear LL
  refine ai (hr.there a hm) λo e'=>?_
  rw[e] at e'; exact nN e'
 intro y q hq
 by_cases hdp:m = .deep
 ·have hq':σ y=some q:=by unfold Internal.consume at hq; rwa [if_pos hdp] at hq
  exact ⟨λuu a bs e hm=>nf a (hd hdp a hm) y q hq' (by rw[e]; exact .head _),λuu a ha' hm=>nf a (hd hdp a hm) y q hq' ha'⟩
 ·have hq2:Internal.demote σ ns y=some q:=by unfold Internal.consume at hq; rwa [if_neg hdp] at hq
  refine fh hq2 λq' hq' e1 hc=>?_
  rcases hc with ⟨_,rfl⟩ | ⟨hn,rfl⟩
  ·refine ⟨λh=>absurd h jf,λh a ha'=>?_⟩
   refine aa (K.val y q' hq') λuu L7=>?_
   refine am (L7) λu _ hr _=>?_
   clear L7
   rw[hr.scal_nil (gH h)] at ha'
   cases ha'
  ·refine ⟨λh a bs e hm=>?_,λh a ha' hm=>?_⟩
   ·refine Or.elim (ha a hm) (λLi=>?_) (λh1=>?_)
    ·refine az (Li) λz p hz hp hf=>?_
     clear Li
     refine bg (K.top y q hq' h) λa' bs' e' _ _ h4=>?_
     rw[e] at e'; cases e'
     exact h4 z p (λq=>hn (q▸hz)) hp hf
    ·exact nf a h1 y q hq' (by rw[e]; exact .head _)
   ·refine Or.elim (ha a hm) (λLk=>?_) (λh1=>?_)
    ·refine az (Lk) λz p hz hp hf=>?_
     clear Lk
     exact ((K.deep y q hq' h).1 a ha').2 z p (λq=>hn (q▸hz)) hp hf
    ·exact nf a h1 y q hq' ha'
noncomputable def FI (fns:Fns) (k:Nat) (C:Calls) (h0:Heap) (P Z:Addr->Prop) (A:Around) (env:Env) (xs:List String) (B:PyData->Internal.St->Option Internal.St) (b:Ss) (s sb:Shared) (ds:List PyData) (F wr:List Addr) (L:Addr->Prop) (St:Nat->Heap->Prop) (out:Out (Internal.St×Flw)) (σo:Internal.St) (vals:String->Option Value) (fp:String->List Addr) (n:Nat) (s':Shared):Prop :=
 ∃ (j:Nat) (σj:Internal.St) (vals':String->Option Value) (fp':String->List Addr),Stp Z s s'/\SOK fns k h0 P (λb=>Z b\/(b∈F\/b∈wr\/L b)) A env s'.heap σj vals' fp'/\St j s'.heap/\j<=ds.length/\n=ds.length+1-j /\
    bB (λy g=>al (B y g) (exs C b)) (ds.drop j) σj=out/\KG (λb=>Z b\/(b∈F\/L b)) sb.heap s'.heap/\Frm (λb=>Z b\/L b) (xs++hY b) σo vals fp σj vals' fp'
noncomputable def qF (fns:Fns) (k:Nat) (A:Around) (env:Env) (tg:Expr) (xs:List String) (B:PyData->Internal.St->Option Internal.St):Prop:=∀ {h0:Heap}{P Z:Addr->Prop}{s:Shared}{σ σ':Internal.St}{vals:String->Option Value}{fp:String->List Addr}{v:Value}{d:PyData}{bs:List Addr}{Q:Unit->Shared->Prop}{Er:Value->Shared->Prop},
 SOK fns k h0 P Z A env s.heap σ vals fp->R s.heap v d bs->sz d=true->(∀ a∈bs,Z a/\a≠env.locals/\(P a\/h0.get? a=none))->B d σ=some σ' ->
 (∀ s' vals' fp',Stp Z s s'->SOK fns k h0 P Z A env s'.heap σ' vals' fp'->(∀ y,y∉xs->vals' y=vals y/\fp' y=fp y)->(∀ y q,σ' y=some q->(∀ a∈fp' y,a∈bs)\/(σ y=some q/\fp' y=fp y))->Q () s')->wpAny (model prog w) A (assign tg env v) Q Er s
theorem Dw (h:∃ o,s.heap.get? I=some o/\(hardB o=true/\noIt o.cls=true/\∀ C,o.cls≠.ref C)/\∃ fs,o.data = .fields fs) (hQ:Q () s):wpAny (model prog w) A (letOwnedTupleGo tg (.ref I) v) Q Er s:=by
 obtain ⟨o,e,⟨_,h,_⟩,fs,i⟩:=h
 have g:wpAny (model prog w) A (letOwnedTupleGo (.Tuple [] 0 default) (.ref I) v) Q Er s:=by
  cases v with
  | ref a=>
   unfold letOwnedTupleGo
   refine wpAny_bind (wpAny_load e ?_)
   rw[i]
   cases hc:o.cls with
   | type n=>
    rw[hc] at h
    have:["enumerate", "zip", "dict_itemiterator", "dict_reverseitemiterator", "odict_iterator", "itertools.zip_longest", "itertools.pairwise"].contains n=false:=by
     unfold noIt at h
     simp at h ⊢
     exact h.2
    show wpAny _ A (if (["enumerate", "zip", "dict_itemiterator", "dict_reverseitemiterator", "odict_iterator", "itertools.zip_longest", "itertools.pairwise"].contains n&&fs[0]? == some (rawInt a))=true then _ else _) Q Er s
    rw[this,if_neg (by simp)]
    exact wpAny_pure hQ
   | _=>exact wpAny_pure hQ
  | _=>exact wpAny_pure hQ
 cases tg with
 | Tuple _ _ _=>exact g
 | List _ _=>exact g
 | _=>exact wpAny_pure hQ
theorem s6 {pt:Pos}(hb:bv env.scope.names x=true):qF fns k A env (.Name (Str.ofString x) pt) [x] λd σ=>some (upd σ x (mk (.d d))):=by
 intro h0 P Z s σ σ' t fp v d bs Q Er K r hz g he hQ
 cases he
 refine ir hb λg1 g2 g3=>?_
 refine wpAny_assign_Name (K.put (r:=mk (.d d)) (as:=bs) g1 g3 ⟨r,hz⟩ (λa l=>(g a l).2) (λh=>absurd h jf) (λh=>?_) (λy q u j=>⟨λht a cs e o=>?_,λp a l o=>?_⟩) λm i _ K₃=>hQ m _ _ i K₃ (λy u=>?_) λy q j=>?_)
 ·have:bs=[]:=r.sx_nil (gH h)
  (clear g r; subst this)
  exact ⟨λuu h=>(nomatch h),.nil⟩
 ·refine az (K.top y q j ht) λa' bs' z h1 _=>?_
  rw[e] at z; cases z
  exact h1 (g a o).1
 ·exact ((K.deep y q j p).1 a l).1 (g a o).1
 ·have n:y≠x:=λq=>u (q▸.head _)
  exact ⟨if_neg n,if_neg n⟩
 ·unfold upd at j
  by_cases e:y=x
  ·exact .inl λa l=>by rw[if_pos e] at l; exact l
  ·rw[if_neg e] at j
   exact .inr ⟨j,if_neg e⟩
set_option maxHeartbeats 1000000 in
theorem vg (Si:cZ fns k C XP it) (Sb:dq fns k C b) (Xb:dm fns k C b) (L:Addr->Prop)
  (oi:eh env.scope.names it iter=true) (ob:cu env.scope.names b body=true) (TG:qF fns k A env tg xs B) (K:SOK fns k h0 P Z A env s.heap σ vals fp) (e1:aZ C it (cK σ (bD it)) = .ok (ds,md)) (he1:bB (λy σ=>al (B y σ) (exs C b)) ds σo=out) (hnb:out≠.bad)
  (hK:∀ h',Internal.K s.heap h'->SOK fns k h0 P Z A env h' σo vals fp) (cs:∀ y q,σo y=some q->∃ q',σ y=some q')
  (hex:∀ F:List Addr,(∀ a∈F,Own σ fp (bD it) a\/s.heap.get? a=none)->(md = .deep->∀ a∈F,s.heap.get? a=none)->∀ y q,σo y=some q->(q.2 = .top->∀ a bs,fp y=a::bs->a∉F)/\(q.2 = .deep->∀ a∈fp y,a∉F))
  (hL1:∀ a,L a->a≠env.locals/\∃ vs n,s.heap.get? a=some ⟨.type "list", none,.seq vs n,#[]⟩) (hL2:∀ y q,σo y=some q->∀ a∈fp y,¬ L a) (hsc:(∀ d∈ds,sx d=true)\/∀ y q,σ y=some q->∃ q',σo y=some q')
  (hN:∀ σ',out = .ok (σ',.next)->∀ s' vals' fp',Stp Z s s'->KG (λb=>Z b\/L b) s.heap s'.heap->SOK fns k h0 P Z A env s'.heap σ' vals' fp'->Frm (λb=>Z b\/L b) (xs++hY b) σo vals fp σ' vals' fp'->Q .next s')
  (hR:∀ σ' r,out = .ok (σ',.ret r)->∀ v s',Stp Z s s'->l7 h0 P r v s'->Q (.ret v) s') (hX:∀ c,out = .exc c->∀ x s',Stp Z s s'->Lv A env s'.heap->Exc Z s'.heap c env.locals x->Er x s'):wpAny (model prog w) A (exec (.For tg iter body [] spos) env) Q Er s:=by
 refine wpAny_For (Si oi (K.cx (bD it)) (by rw[e1]; simp) (λq' hq' i sb I=>?_) λc hc=>by rw[e1] at hc; cases hc) (nQ oi env)
 rw[e1] at hq'; (have oc:=Out.ok.inj hq'; clear hq'; subst oc)
 obtain ⟨kpb,La,hsm⟩:=I
 refine vh (La) λI fpw wr Pw St F Le W hst hwr hfp hPw hF hFP hFd=>?_
 clear La
 refine aa (Le) λLe hIw=>?_
 subst Le
 have exists_s:∀ b o,s.heap.get? b=some o->b∉wr:=λb o e hm=>by rw[(hwr b hm).1] at e; exact nN e
 have hLs:∃ o es ep,s.heap.get? env.locals=some o/\o.data = .dict es ep:=by
  refine ae (K.loc.ns) λm Lb _=>?_
  refine aL (Lb) λo es ep e hd _=>?_
  clear Lb
  exact (cz o es ep e hd)
 have hFL:env.locals∉F:=λhm=>by
  refine bz (hLs) λo es ep e hd=>?_
  clear hLs
  refine bj (hF _ hm) λvs n e'=>?_
  obtain ⟨_,e1,d1,_⟩:=kpb.k.data e λfs q=>by rw[hd] at q; cases q
  rw[e1] at e'; (have oc:=Option.some.inj e'; clear e'; (clear e1 right; subst oc)); rw[hd] at d1; cases d1
 have ex0:=hex F hFP hFd
 have nf:∀ y q,σo y=some q->∀ a∈fp y,a∉wr:=λy q hq a ha hm=>by
  refine ai (cs y q hq) λq' hq'=>?_
  refine aa (K.val y q' hq') λuu LQ=>?_
  refine am (LQ) λu _ hr _=>?_
  clear LQ
  refine ai (hr.there a ha) λo e=>?_
  exact exists_s a o e hm
 have wz:∀ b∈wr,¬ Z b:=λb hm hz=>by
  refine ai (K.zdom b hz) λo e=>?_
  exact exists_s b o e hm
 have w0:∀ b∈wr,h0.get? b=none:=λb hm=>by
  cases e:h0.get? b with
  | none=>rfl
  | some o=>exact absurd (K.z0 b o e) (wz b hm)
 have K₂:SOK fns k h0 P (λb=>Z b\/(b∈F\/b∈wr\/L b)) A env sb.heap σo vals fp:=by
  refine (hK _ kpb.k).freeze (λb hb=>?_) (λhm=>?_) (λn c hkn hc hm=>?_) (λy q hq hqt a bs e hm=>?_) (λy q hq hqd a ha hm=>?_)
  ·rcases hb with hb | hb | hb
   ·obtain ⟨vs,n,e⟩:=hF b hb; exact ⟨_,e⟩
   ·obtain ⟨o,e,_⟩:=(hwr b hb).2.2 0 _ hst; exact ⟨o,e⟩
   ·obtain ⟨_,vs,n,e⟩:=hL1 b hb; exact ⟨_,kpb.k.get e rfl⟩
  ·rcases hm with hm | hm | hm
   ·exact hFL hm
   ·refine bz (hLs) λo es ep e hd=>?_
    clear hLs
    exact exists_s _ o e hm
   ·exact (hL1 _ hm).1 rfl
  ·refine aG (K.loc.cell n c hkn hc) λuu uu Mn=>?_
   refine au (Mn) λv o e hd=>?_
   clear Mn
   rcases hm with hm | hm | hm
   ·refine bj (hF c hm) λvs n e'=>?_
    obtain ⟨_,e1,d1,_⟩:=kpb.k.data e λfs q=>by rw[hd] at q; cases q
    rw[e1] at e'; (have oc:=Option.some.inj e'; clear e'; (clear e1 right; subst oc)); rw[hd] at d1; cases d1
   ·exact exists_s c o e hm
   ·refine aa (hL1 c hm) λuu L5=>?_
    refine bj (L5) λvs n e'=>?_
    clear L5
    rw[e] at e'; (have oc:=Option.some.inj e'; clear e'; (clear e; subst oc)); cases hd
  ·rcases hm with hm | hm | hm
   ·exact (ex0 y q hq).1 hqt a bs e hm
   ·exact nf y q hq a (by rw[e]; exact .head _) hm
   ·exact hL2 y q hq a (by rw[e]; exact .head _) hm
  ·rcases hm with hm | hm | hm
   ·exact (ex0 y q hq).2 hqd a ha hm
   ·exact nf y q hq a ha hm
   ·exact hL2 y q hq a ha hm
 have FP:∀ a∈F,a≠env.locals/\(P a\/h0.get? a=none):=λa ha=>by
  refine ⟨λq=>hFL (q▸ha),?_⟩
  rcases hFP a ha with h | h
  ·exact (K.own h).2.2
  ·right
   cases e:h0.get? a with
   | none=>rfl
   | some o=>obtain ⟨_,e'⟩:=Internal.K.there K.kp0 e; rw[e'] at h; exact nM h
 have stpb:Stp Z s sb:=kpb.stp
 refine codeAny_forLoop_any
  (FI fns k C h0 P Z A env xs B b s sb ds F wr L St out σo vals fp) ?_ (ds.length+1)
  (qc 0 _ vals fp stpb K₂ hst (zero_le _) rfl (by simpa using he1) KG.refl (.id λz q h=>⟨q,h⟩))
 intro n s' Lf
 refine wJ (Lf) λj σj vals' fp' stp' K' hst' hj Lg p hkp hfr=>?_
 clear Lf
 subst Lg
 have hLw:∀ b,L b->b∉wr:=λb hb=>let ⟨_,vs,n,e⟩:=hL1 b hb; exists_s b _ e
 have hwf:∀ b∈wr,∃ o,s'.heap.get? b=some o/\(∀ C,o.cls≠.ref C)/\∃ fs,o.data = .fields fs:=λb hm=>am ((hwr b hm).2.2 j _ hst') λo e g f=>(aw o e g.2.2 f)
 have hFw:∀ a∈F,a∉wr:=λa ha hm=>(hwr a hm).2.1 ha
 have hns:∀ b∈wr,∀ o,s'.heap.get? b=some o->¬ Stay o:=λb hm o e=>by
  refine am ((hwr b hm).2.2 j _ hst') λo' e' Lh Mp=>?_
  refine ai (Mp) λfs q=>?_
  clear Mp
  refine aa (Lh) λuu hc=>?_
  clear Lh
  rw[e] at e'; (have oc:=Option.some.inj e'; clear e'; (clear uu; subst oc))
  exact λx=>x.elim (λx=>noIt.code hc.1 x.1) λx=>let ⟨_,vs,n,e⟩:=x; by rw[q] at e; cases e
 have step1:∀ t tka,(∀ b∈wr,∃ o,t.get? b=some o)->(∀ b o,b∉wr->s'.heap.get? b=some o->t.get? b=some o)->SOK fns k h0 P (λb=>Z b\/(b∈F\/b∈wr\/L b)) A env t σj vals' fp'/\Stp Z s {s' with heap:=t,toks:=tka }:=λt tka hwa hka=>by
  refine ⟨K'.iter hwf (λb hm _=>hwa b hm) w0 hns hka,?_⟩
  refine au (stp') λhh tk' Lj kk=>?_
  clear stp'
  (clear K' hkp hst' hwf; subst Lj)
  exact (aC t tka rfl (kk.trans ((KG.ofW hka hns).mono λb hz hm=>wz b hm hz)))
 by_cases hlt:j<ds.length
 ·obtain ⟨d,hd⟩:∃ d,ds[j]? = some d:=⟨_,List.getElem?_eq_getElem hlt⟩
  have hdd:ds.drop j=d::ds.drop (j+1):=by
   rw[List.drop_eq_getElem_cons hlt]
   rw[List.getElem?_eq_getElem hlt] at hd
   (have oc:=Option.some.inj hd; clear hd; subst oc); rfl
  rw[hdd] at p
  simp only[bB] at p
  refine W.item j _ _ _ hlt hst' λv t tka hPv hsta hka=>?_
  obtain ⟨K₁,stpa⟩:=step1 t tka (λb hm=>ae ((hwr b hm).2.2 (j+1) t hsta) λo e uu=>⟨o,e⟩) hka
  refine ae (hPw j v hPv d hd) λbs hrv hbs=>?_
  have hkpa:KG (λb=>Z b\/(b∈F\/L b)) sb.heap t:=hkp.trans ((KG.ofW hka hns).mono λb hb hm=>hb.elim (wz b hm) λhf=>hf.elim (λhf=>hFw b hf hm) λhf=>hLw b hf hm)
  have hrva:R t v d bs:=hrv.onG hkpa λb hb=>.inr (.inl (hbs b hb))
  have hfpH:∀ b∈fpw,∀ o,t.get? b=some o->hardB o=true:=λb hb o e=>by
   rcases hfp b hb with hb | hb
   ·refine am ((hwr b hb).2.2 _ _ hsta) λo' e' Ll _=>?_
    refine aa (Ll) λhh _=>?_
    clear Ll
    rw[e] at e'; (have oc:=Option.some.inj e'; clear e'; subst oc); exact hh
   ·refine bj (hF b hb) λvs' n' e'=>?_
    rw[hkpa.hard (.inl (.inr (.inl hb))) e' rfl] at e
    (have oc:=Option.some.inj e; clear e; subst oc); rfl
  have hzd:sz d=true:=hsm.2 d (mem_of_getElem? hd)
  cases hB:B d σj with
  | none=>rw[hB] at p; exact absurd p.symm hnb
  | some σ1=>
   rw[hB] at p
   refine Dw ((hwr I hIw).2.2 _ _ hsta) ?_
   refine TG K₁ hrva hzd (λa ha=>⟨.inr (.inl (hbs a ha)),FP a (hbs a ha)⟩) hB λsc valsc fpc stc K₃ hvc hfc=>?_
   have hfx:Frm (λb=>Z b\/L b) (xs++hY b) σo vals fp σ1 valsc fpc:=by
    refine ⟨λy hy=>?_,λb' hz hb' z q hq hm=>?_⟩
    ·have h1:=hfr.1 y hy
     have h2:=hvc y λq=>hy (mem_append_left _ q)
     exact ⟨h2.1.trans h1.1,h2.2.trans h1.2⟩
    ·rcases hfc z q hq with h1 | ⟨h1,h2⟩
     ·replace hm:=h1 b' hm
      rcases hsc with h | h
      ·rw[hrva.sx_nil (h d (mem_of_getElem? hd))] at hm; cases hm
      ·refine Or.elim (hFP b' (hbs b' hm)) (λLI=>?_) (λh1=>?_)
       ·refine az (LI) λy q Mi h1 h2=>?_
        clear LI
        refine ai (h y q h1) λq' hq'=>?_
        exact hb' y q' hq' h2
       ·rcases hz with hz | hz
        ·refine ai (K.zdom b' hz) λo e=>?_
         rw[h1] at e; exact nN e
        ·refine aa (hL1 b' hz) λuu Mr=>?_
         refine bj (Mr) λvs n e=>?_
         clear Mr
         rw[h1] at e; exact nN e
     ·rw[h2] at hm
      exact hfr.2 b' hz hb' z q h1 hm
   have bodyc:∀ s₄,Stp (λb=>Z b\/(b∈F\/b∈wr\/L b)) sc s₄->Stp Z s s₄/\St (j+1) s₄.heap/\KG (λb=>Z b\/(b∈F\/L b)) sb.heap s₄.heap:=λs₄ std=>by
    have st:=stc.trans std
    refine ⟨stpa.trans (st.mono λb hb=>.inl hb),?_,?_⟩
    ·refine au (st) λh₄ tkd Lm kkd=>?_
     clear st
     (clear std; subst Lm)
     exact W.frame _ _ _ hsta λb hb o e=>kkd.hard (.inl (.inr ((hfp b hb).elim (λh=>.inr (.inl h)) .inl))) e (hfpH b hb o e)
    ·refine au (st) λh₄ tkd Lp kkd=>?_
     clear st
     (clear std; subst Lp)
     exact hkpa.trans (kkd.mono λb hb=>hb.imp id λh=>h.imp id .inr)
   cases hbody:exs C b σ1 with
   | bad=>rw[show al (some σ1) (exs C b)=exs C b σ1 from rfl,hbody] at p; exact absurd p.symm hnb
   | exc c=>
    rw[show al (some σ1) (exs C b)=exs C b σ1 from rfl,hbody] at p
    refine Xb ob K₃ hbody λz s₄ std lv exc=>?_
    refine am (lv) λl l1 l2 l3=>?_
    clear lv
    refine au ((bodyc s₄ std).1) λh₄ tkd ed kkd=>?_
    (clear std; subst ed)
    refine DV (N:=Z) (λb hb=>?_) l1 l2 l3 (exc.old λb hb=>.inl hb) λh' ex' kg' fr'=>hX c p.symm z _ (aC h' tkd rfl (kkd.trans kg')) (aw l l1 fr' l3) ex'
    refine ai (K.zdom b hb) λo e=>?_
    refine ae (kkd b o (.inl hb) e) λo' e' _=>?_
    exact ⟨o',e'⟩
   | ok o=>
   obtain ⟨σa,fla⟩:=o
   rw[show al (some σ1) (exs C b)=exs C b σ1 from rfl,hbody] at p
   simp only[Out.ok_bind] at p
   refine Sb ob K₃ hbody (λe s₄ valsd fpd std Kd F₄=>?_) λr e v s₄ std Rd=>?_
   ·(clear hbody; subst e)
    refine aG (bodyc s₄ std) λq1 q2 q3=>?_
    refine (af (ds.length+1-(j+1)) (uh hlt) (qc (j+1) σa valsd fpd q1 Kd q2 hlt rfl p q3 ((hfx.trans (F₄.less λb hb=>hb.imp id λh=>.inr (.inr h))).more λy hy=>(mem_append.mp hy).elim (λh=>h) (mem_append_right _))))
   ·(clear hbody; subst e)
    exact hR σa r p.symm v s₄ (bodyc s₄ std).1 Rd
 ·have hjl:j=ds.length:=by exact zS hj hlt
  (clear hj hlt; subst hjl)
  rw[List.drop_length] at p
  simp only[bB] at p
  refine W.done _ _ _ hst' λt tka hka=>?_
  have st1:Stp Z s {s' with heap:=t,toks:=tka }:=by
   refine au (stp') λhh tk' Ln kk=>?_
   clear stp'
   (clear K' hkp hst' hwf step1; subst Ln)
   exact (aC t tka rfl (kk.trans ((KG.ofW hka hns).mono λb hz hm=>wz b hm hz)))
  have kgL:KG (λb=>Z b\/L b) s.heap t:=((kpb.k.mono λuu uu=>trivial).trans (hkp.mono λb hb=>hb.imp id .inr)).trans ((KG.ofW hka hns).mono λb hb hm=>hb.elim (wz b hm) λh=>hLw b h hm)
  exact wpAny_execs_nil (hN σj p.symm {s' with heap:=t,toks:=tka } vals' fp' st1 kgL ((K'.thaw (Z:=Z) (λb hb=>.inl hb) K.z0).iter hwf (λb hm hz=>absurd hz (wz b hm)) w0 hns hka) hfr)
theorem Ae (y:String) (q:V×Mode) (hy:σ y=some q):∃ q',Internal.consume σ ns md y=some q':=by
 unfold Internal.consume
 split
 ·exact ⟨q,hy⟩
 ·unfold Internal.demote
  split
  ·exact ⟨_,by rw[hy]; rfl⟩
  ·exact ⟨q,hy⟩
theorem oJ (Si:cZ fns k C XP it) (Sb:dq fns k C b) (Xb:dm fns k C b)
  (oi:eh env.scope.names it iter=true) (ob:cu env.scope.names b body=true) (TG:qF fns k A env tg xs B) (K:SOK fns k h0 P Z A env s.heap σ vals fp) (he:((aZ C it σ).bind λq=>bB (λy σ=>al (B y σ) (exs C b)) q.1 (consume σ (bD it) q.2)) = .ok (σ',fl))
  (hN:fl = .next->∀ s' vals' fp',Stp Z s s'->SOK fns k h0 P Z A env s'.heap σ' vals' fp'->Frm Z (xs++hY b) σ vals fp σ' vals' fp'->Q .next s') (hR:∀ r,fl = .ret r->∀ v s',Stp Z s s'->l7 h0 P r v s'->Q (.ret v) s'):wpAny (model prog w) A (exec (.For tg iter body [] spos) env) Q Er s:=by
 refine Out.bind_k he λi j m=>?_
 obtain ⟨ds,n⟩:=i
 have e1:aZ C it (cK σ (bD it)) = .ok (ds,n):=by rw[eY C it _ σ (cj σ _)]; exact j
 exact vg Si Sb Xb (λuu=>False) oi ob TG K e1 m (by simp) (λh' t=>(K.onK t).consume (bD it) n) (λy q j=>dE j) (λF h1 h2=>K.excl h1 h2) (λa h=>h.elim) (λuu uu uu uu uu h=>h) (.inr Ae)
  (λg e s' vals' fp' o _ K' F=>by cases e; exact hN rfl s' vals' fp' o K' ⟨F.1,λb u x=>F.2 b (.inl u) λz q j=>ai (dE j) λp l=>x z p l⟩) (λg r e=>by cases e; exact hR r rfl) λc e=>by cases e
theorem pi (hf:fns.hand=false) (Si:cZ fns k C XPc it) (Sb:dq fns k C b) (Xb:dm fns k C b)
  (oi:eh env.scope.names it iter=true) (ob:cu env.scope.names b body=true) (TG:qF fns k A env tg xs B) (K:SOK fns k h0 P Z A env s.heap σ vals fp) (he:((aZ C it σ).bind λq=>bB (λy σ=>al (B y σ) (exs C b)) q.1 (consume σ (bD it) q.2)) = .exc c)
  (hE:∀ x s',Stp Z s s'->Lv A env s'.heap->Exc Z s'.heap c env.locals x->Er x s'):wpAny (model prog w) A (exec (.For tg iter body [] spos) env) Q Er s:=by
 rcases b8 he with he | ⟨⟨ds,md⟩,l,he1⟩
 ·have j:aZ C it (cK σ (bD it)) = .exc c:=by rw[eY C it _ σ (cj σ _)]; exact he
  refine wpAny_For (Si oi (K.cx (bD it)) (by rw[j]; simp) (λu i=>by rw[j] at i; cases i) λt m x s' X=>?_) (nQ oi env)
  rw[j] at m; cases m
  exact hE x s' X.1.stp ((K.onK X.1.k).lv hf) (Fly.exc (X.2.old K.zd))
 ·have j:aZ C it (cK σ (bD it)) = .ok (ds,md):=by rw[eY C it _ σ (cj σ _)]; exact l
  exact vg Si Sb Xb (λuu=>False) oi ob TG K j he1 (by simp) (λv n=>(K.onK n).consume (bD it) md) (λy q l=>dE l) (λF p o=>K.excl p o) (λa h=>h.elim) (λuu uu uu uu uu h=>h) (.inr Ae)
   (λg e=>by cases e) (λg r e=>by cases e) λt e=>by cases e; exact hE
theorem xR (Si:cZ fns k C XP it) (Sb:dq fns k C b) (Xb:dm fns k C b):dW fns k C (.for1 x it b):=by
 intro m h0 P Z A y z l fp s Q Er q fl g K r v u
 replace g:=sO g
 revert g; refine λh=>Or.elim h (λi=>?_) (λg=>?_)
 ·clear h
  refine iC (i) λt pt o p n j g=>?_
  clear i
  subst j
  simp only[and_eq_true,beq_iff_eq] at g
  rw[g.1.1.1]
  exact oJ Si Sb Xb g.1.2 g.2 (s6 g.1.1.2) K r v u
 ·cases g
theorem xq (hf:fns.hand=false) (Si:cZ fns k C XPc it) (Sb:dq fns k C b) (Xb:dm fns k C b):dU fns k C (.for1 x it b):=by
 intro m y P Z A u v l z s Q Er c g K q r
 replace g:=sO g
 revert g; refine λh=>Or.elim h (λi=>?_) (λg=>?_)
 ·clear h
  refine iC (i) λt pt o p n j g=>?_
  clear i
  subst j
  simp only[and_eq_true,beq_iff_eq] at g
  rw[g.1.1.1]
  exact pi hf Si Sb Xb g.1.2 g.2 (s6 g.1.1.2) K q r
 ·cases g
theorem xn (h:jY d=some p):d = .tuple [.int p.1,.int p.2]:=by
 refine bk h λl g h=>?_
 rw[lQ g]
 split at h
 ·cases h; rfl
 ·cases h
theorem vd (hf:fns.hand=false) (hx:bv env.scope.names x=true) (hy:bv env.scope.names y=true):qF fns k A env (.Tuple [.Name (Str.ofString x) px,.Name (Str.ofString y) py] kk tp) [x,y] λd σ=>(jY d).map λp=>upd (upd σ x (sI p.1)) y (sI p.2):=by
 intro h0 P Z s σ σ' vals fp v d bs Q Er K r hz hbs he hQ
 refine bl he λp hp K9=>?_
 clear he
 subst K9
 obtain rfl:=xn hp
 obtain ⟨a,vs,n,rfl,ea,ra⟩:=r.isTup
 obtain ⟨v1,v2,rfl⟩:∃ v1 v2,vs=[v1,v2]:=by
  cases ra with
  | cons _ r2=>cases r2 with
   | cons _ r3=>cases r3; exact ⟨_,_,rfl⟩
 obtain ⟨t1,t2,rfl,rfl⟩:∃ t1 t2,v1 = .int p.1 t1/\v2 = .int p.2 t2:=by
  cases ra with
  | cons r1 r2=>cases r2 with
   | cons r3 _=>cases r1; cases r3; exact ⟨_,_,rfl,rfl⟩
 refine ir hx λg1 g2 g3=>?_
 refine ir hy λq1 q2 q3=>?_
 refine assign_Tuple_tuple (K.room.1 hf) (items:=#[.int p.1 t1,.int p.2 t2]) ⟨_,ea,rfl,n,rfl⟩ rfl rfl λg l=>?_
 have kp:Internal.K s.heap g:=Internal.K.of λb o e=>l b o (ne_of_lt (lt_size e)) e
 have st:Stp Z s {s with heap:=g }:=(aC g s.toks rfl (KG.mono kp λuu uu=>trivial))
 refine assignInOrder_cons (wpAny_assign_Name ((K.onK kp).put (r:=sI p.1) (as:=[]) (s:={s with heap:=g }) g1 g3 ⟨.int _ _,rfl⟩ (λ_ h=>nomatch h) (λh=>nomatch h) (λ_=>⟨λ_ h=>(nomatch h),.nil⟩) (λ_ _ _ _=>⟨λ_ _ _ _ h=>(nomatch h),λ_ _ _ h=>(nomatch h)⟩) λsb j _ K₂=>?_))
 refine assignInOrder_cons (wpAny_assign_Name (K₂.put (r:=sI p.2) (as:=[]) q1 q3 ⟨.int _ _,rfl⟩ (λ_ h=>nomatch h) (λh=>nomatch h) (λ_=>⟨λ_ h=>(nomatch h),.nil⟩) (λ_ _ _ _=>⟨λ_ _ _ _ h=>(nomatch h),λ_ _ _ h=>(nomatch h)⟩) λm i _ K₃=>?_))
 refine assignInOrder_nil (hQ m _ _ ((st.trans j).trans i) K₃ (λz t=>?_) λz q hq=>?_)
 ·have n1:z≠x:=λq=>t (q▸.head _)
  have n2:z≠y:=λq=>t (q▸.tail _ (.head _))
  exact ⟨(if_neg n2).trans (if_neg n1),(if_neg n2).trans (if_neg n1)⟩
 ·unfold upd at hq
  by_cases e2:z=y
  ·exact .inl λa u=>by rw[if_pos e2] at u; cases u
  ·rw[if_neg e2] at hq ⊢
   by_cases e1:z=x
   ·exact .inl λa u=>by rw[if_pos e1] at u; cases u
   ·rw[if_neg e1] at hq ⊢
    exact .inr ⟨hq,rfl⟩
theorem vV (hf:fns.hand=false) (Si:cZ fns k C XP it) (Sb:dq fns k C b) (Xb:dm fns k C b):dW fns k C (.for2 x y it b):=by
 intro l h0 P Z A v z j fp s Q Er p fl q K r u t
 obtain ⟨px,py,kk,tp,n,o,m,rfl,i,h,ok3,g⟩:=tr q
 exact oJ Si Sb Xb ok3 g (vd hf i h) K r u t
theorem vN (hf:fns.hand=false) (Si:cZ fns k C XPc it) (Sb:dq fns k C b) (Xb:dm fns k C b):dU fns k C (.for2 x y it b):=by
 intro l h0 P Z A t u j fp s Q Er c p K q r
 obtain ⟨px,z,kk,v,n,o,m,rfl,i,h,ok3,g⟩:=tr p
 exact pi hf Si Sb Xb ok3 g (vd hf i h) K q r
section
variable (hf:fns.hand=false) (hC:cr fns k C XPc)
include hf hC
mutual
theorem iw:∀ st:S,dW fns k C st/\dU fns k C st
 | .assign x e=>⟨ly (ax hf hC bY e).e ⟨λelt y g _=>⟨dv hf hC bY g,(ax hf hC bY elt).e⟩,λelt y g c _=>⟨dv hf hC bY g,(ax hf hC bY elt).e,(ax hf hC bY c).t⟩⟩,sd hf (ax hf hC bY e).e⟩
 | .setitem x e=>⟨pT (ax hf hC bY e).e,qR⟩
 | .append x e=>⟨rY (ax hf hC bY e).e,sj⟩
 | .appF x is e=>⟨wU hC (λi=>(ax hf hC bY i).e) (ax hf hC bY e).e,wA⟩
 | .expr e=>⟨wB (ax hf hC bY e).e,vy hf (ax hf hC bY e).e⟩
 | .ret e=>⟨qY (ax hf hC bY e).e,zp hf (ax hf hC bY e).e⟩
 | .retn x=>⟨wQ,vT⟩
 | .ite c a b=>⟨xw (ax hf hC bY c).t (aR a).1 (aR b).1,xm hf (ax hf hC bY c).t (aR a).2 (aR b).2⟩
 | .for1 x g b=>⟨xR (dv hf hC bY g) (aR b).1 (aR b).2,xq hf (dv hf hC bY g) (aR b).1 (aR b).2⟩
 | .for2 x y g b=>⟨vV hf (dv hf hC bY g) (aR b).1 (aR b).2,vN hf (dv hf hC bY g) (aR b).1 (aR b).2⟩
 | .raise _=>⟨uJ,tJ hf hC⟩
 | .tryS b hs=>⟨xT hf hC (iw b).1 (λe _=>(ax hf hC bY e).e) (λx e _=>(ax hf hC bY e).e),xx⟩
 | .bad=>⟨λh=>Bool.noConfusion (show false=true from h),xg⟩
termination_by structural s=>s
theorem aR:∀ st:Ss,dq fns k C st/\dm fns k C st
 | .nil=>⟨wR,vZ⟩
 | .cons s r=>⟨tQ (iw s).1 (aR r).1,ua (iw s).1 (iw s).2 (aR r).2⟩
termination_by structural s=>s
end
theorem pd (st:Ss):dq fns k C st:=(aR hf hC st).1
theorem oG (st:Ss):dm fns k C st:=(aR hf hC st).2
end
end
structure InF (s₀:Shared) (L:Addr) (m:Str->Option Value) (cs:List (Str×Addr)) (cm:Str->Option Value) (s:Shared):Prop where
 x:InCallC s₀ L m cs cm s
 c:∃ o,s.heap.get? L=some o/\o.cls = .type "frame"
section
variable {M:Model}{A:Around}{E:Value->Shared->Prop}{s₀:Shared}{env:Env}
theorem kC (f:Str×Value->PUnit->Sem (ForInStep PUnit)) (hf:∀ n v u,f (n,v) u=(do storeName env n v; pure (.yield ⟨⟩))) (hk:env.scope.kind = .function) :
  ∀ (binds:List (Str×Value)) (m cm:Str->Option Value) (s:Shared) (Q:PUnit->Shared->Prop),InF s₀ env.locals m env.cells cm s ->
   (∀ x∈binds,env.kindOf x.1=some .local\/(env.kindOf x.1=some .cell/\(env.cells.lookup x.1).isSome=true)) ->
   (∀ s',InF s₀ env.locals (bindL env.kindOf binds m) env.cells (bindC env.kindOf binds cm) s'->Q ⟨⟩ s')->wpAny M A (forIn binds ⟨⟩ f) Q E s
 | [],m,cm,s,Q,x,_,h=>by rw[forIn_nil]; exact wpAny_pure (h s x)
 | (n,v)::r,m,cm,s,Q,⟨x,c⟩,hkind,h=>by
  rw[forIn_cons,hf]
  have hr:∀ y∈r,env.kindOf y.1=some .local\/(env.kindOf y.1=some .cell/\(env.cells.lookup y.1).isSome=true):=λy hy=>hkind y (mem_cons_of_mem _ hy)
  refine bj (x.toInCall.same) λha tk l=>?_
  rcases hkind (n,v) mem_cons_self with hl | ⟨hl,j⟩
  ·refine wpAny_bind (wpAny_bind ?_)
   rw[storeName_local hl (by rw[hk]; rfl)]
   refine oO x.toInCall.ns c λh' hn' g hc'=>wpAny_pure (kC f hf hk r (λx=>if x=n then some v else m x) cm _ Q ⟨⟨⟨(bn h' (s.toks+1) (by rw[l])),hn',λb o e=>?_,x.toInCall.fresh⟩,λk c j=>?_,x.apart,x.above⟩,hc'⟩ hr λt p=>h t ?_)
   ·exact g.extBut b o (ne_of_lt (lt_of_lt_of_le (lt_size e) x.toInCall.fresh)) (x.toInCall.keep b o e)
   ·exact (x.cell k c j).sameBut g (ne_of_gt (x.above k c (mem_of_lookup j)))
   ·unfold bindL bindC; rw[if_pos hl,if_pos hl]; exact p
  ·refine bP j λcc j=>?_
   have z:¬ env.kindOf n=some .local:=by rw[hl]; decide
   have hLc:=x.above n cc (mem_of_lookup j)
   refine wpAny_bind (wpAny_bind (wpAny_storeName_cell hk hl j (x.cell n cc j) λh' hc' g=>wpAny_pure (kC f hf hk r m (λy=>if y=n then some v else cm y) _ Q ⟨⟨⟨(bn h' s.toks (by rw[l])),x.toInCall.ns.sameBut g (ne_of_lt hLc),λb o e=>?_,x.toInCall.fresh⟩,λk c' i=>?_,x.apart,x.above⟩,ae (c) λo e q=>(af o (g.extBut _ o (ne_of_lt hLc) e) q)⟩ hr λt p=>h t ?_)))
   ·exact g.extBut b o (ne_of_lt (lt_trans (lt_of_lt_of_le (lt_size e) x.toInCall.fresh) hLc)) (x.toInCall.keep b o e)
   ·by_cases hkn:k=n
    ·(clear h hkind hl z; subst hkn)
     rw[j] at i; (have oc:=Option.some.inj i; clear i; subst oc)
     show h'.IsCell _ (if _=_ then some v else cm _)
     rw[if_pos rfl]; exact hc'
    ·show h'.IsCell _ (if _=_ then some v else cm _)
     rw[if_neg hkn]
     exact (x.cell k c' i).sameBut g λe=>hkn (name_of_addr x.apart (mem_of_lookup i) (e▸mem_of_lookup j))
   ·unfold bindL bindC; rw[if_neg z,if_neg z]; exact p
end
section
theorem sE {R:Result->Shared->Prop}{a:Addr}{o:Obj}{fd:FuncData}{body:List Stmt}{vals:List Value}{binds:List (Str×Value)}
  (hroom:A.depth<recursionLimit) (ho:s.heap.get? a=some o) (hdata:o.data = .func fd) (hlim:s.heap.NoLimit) (hcd:s.heap.CodeRec fd.code fd.qualname)
  (hbody:fd.body = .stmts body) (hbind:bindArgs fd ⟨vals,[]⟩=pure binds) (hclo:fd.closure=[])
  (hkind:∀ x∈binds,fd.scope.names.lookup x.1=some .local\/(fd.scope.names.lookup x.1=some .cell/\((cellsFrom (s.heap.objs.size+1) fd.scope.names []).lookup x.1).isSome=true))
  (h:∀ s₁,InF s (callEnvC fd s.heap.objs.size a).locals (bindL (callEnvC fd s.heap.objs.size a).kindOf binds λuu=>none) (callEnvC fd s.heap.objs.size a).cells
    (bindC (callEnvC fd s.heap.objs.size a).kindOf binds λuu=>none) s₁ ->
   wpAny (model prog w) (A.deeper (callEnvC fd s.heap.objs.size a)) (execs body (callEnvC fd s.heap.objs.size a)) (λf s'=>R (.ok (.ret (match f with | .ret v=>v | _=>.none))) s')
    (λe s'=>wpAny (model prog w) (A.deeper (callEnvC fd s.heap.objs.size a)) (leaving (callEnvC fd s.heap.objs.size a) e) (λuu s''=>R (.error e) s'') (λe' s''=>R (.error e') s'') s') s₁)
  (hco:fd.scope.isCoroutine=false) (hgen:fd.scope.isGenerator=false) (hk:fd.scope.kind = .function) :
  codeAny (model prog w) A (.call (.ref a) ⟨vals,[]⟩) R s:=by
 refine codeAny_call_function hroom ho hdata hco hgen hbody hcd ?_
 rw[hbind,hclo]
 refine wpAny_pure ?_
 simp only[newFunctionEnv,Option.isSome_none,false_eq_true,if_false]
 refine wpAny_bind (wpAny_alloc ?_)
 refine wpAny_bind (wpAny_layCells _ (λi kind cells=>by cases hkc:kind==NameKind.cell<;>simp[hkc]) _ _ _ _ ?_)
 have ok:=cellsFrom_ok fd.scope.names (s.heap.push {cls:=.type "frame", data:=.dict #[] }) (s.heap.objs.size+1) [] ⟨λuu uu g=>(nomatch g),List.Pairwise.nil⟩ (by rw[size_push]; exact le_refl _)
 rw[size_push] at ok
 rw[show ({s with heap:=s.heap.push {cls:=.type "frame", data:=.dict #[] } }:Shared).heap.objs.size=s.heap.objs.size+1 from size_push ..]
 refine wpAny_bind (kC (s₀:=s) (env:=callEnvC fd s.heap.objs.size a) _ (λuu uu uu=>rfl) hk binds (λuu=>none) (λuu=>none) _ _
  ⟨⟨⟨(bn _ _ rfl),(Heap.Ns.new s.heap (.type "frame")).keeps (pushCells_keeps _ _),λb o e=>pushCells_keeps _ _ b o (Heap.get?_push_of_some _ e),le_refl _⟩,
   λn c j=>(ok.empty n c (mem_of_lookup j)).1,ok.apart,λn c g=>(ok.empty n c g).2⟩,_,pushCells_keeps _ _ _ _ (Heap.get?_push_size _ rfl),rfl⟩
  hkind λs' x=>wpAny_pure ⟨hlim.keeps x.x.toInCall.keep,codeAny_func (h s' x)⟩)
end
theorem dP:∀ (names:List (Str×NameKind)) (k:Nat) (acc:List (Str×Addr)),(names.lookup n=some .cell\/(acc.lookup n).isSome=true)->((cellsFrom k names acc).lookup n).isSome=true
 | [],_,acc,h=>h.elim (λe=>by cases e) id
 | (m,kd)::r,k,acc,h=>by
  unfold cellsFrom
  by_cases hk:kd = .cell
  ·subst hk
   simp only[beq_self_eq_true,if_true]
   by_cases e:n=m
   ·(clear h; subst e)
    exact dP r _ _ (.inr (by simp))
   ·have g:(n==m)=false:=by simpa using e
    refine dP r _ _ (h.imp (λh=>?_) λh=>?_)
    ·rw[lookup_cons,g] at h; exact h
    ·rw[lookup_cons,g]; exact h
  ·have i:(kd==NameKind.cell)=false:=by simpa using hk
   simp only[i,false_eq_true,if_false]
   by_cases e:n=m
   ·subst e
    rcases h with h | h
    ·simp at h; exact absurd h hk
    ·exact dP r _ _ (.inr h)
   ·have g:(n==m)=false:=by simpa using e
    refine dP r _ _ (h.imp (λh=>?_) id)
    rw[lookup_cons,g] at h; exact h
theorem lz:∀ (bs:List (Str×Value)) (m:Str->Option Value),(∀ p∈bs,p.1≠y)->bindL kd bs m y=m y
 | [],_,_=>rfl
 | (n,v)::r,m,h=>by
  unfold bindL
  rw[lz r _ λp g=>h p (.tail _ g)]
  split
  ·exact if_neg λ(e:y=n)=>h (n,v) (.head _) e.symm
  ·rfl
theorem lq:∀ (bs:List (Str×Value)) (m:Str->Option Value),(∀ p∈bs,p.1≠y)->bindC kd bs m y=m y
 | [],_,_=>rfl
 | (n,v)::r,m,h=>by
  unfold bindC
  rw[lq r _ λp g=>h p (.tail _ g)]
  split
  ·rfl
  ·exact if_neg λ(e:y=n)=>h (n,v) (.head _) e.symm
theorem w2 {ps:List String}(h:p∉ps):∀ q∈(ps.map Str.ofString).zip vs,q.1≠Str.ofString p:=by
 intro q i e
 have:=(of_mem_zip i).1
 refine bG this λy g j=>?_
 exact h (cy (j.trans e)▸g)
theorem oM:∀ (ps:List String) (vs:List Value) (m:Str->Option Value),ps.Nodup->(ps.zip vs).lookup x=some v->kd (Str.ofString x)=some .local->bindL kd ((ps.map Str.ofString).zip vs) m (Str.ofString x)=some v
 | [],_,_,_,h,_=>by simp at h
 | _::_,[],_,_,h,_=>by simp at h
 | p::ps,u::vs,m,hn,h,hk=>by
  rw[nodup_cons] at hn
  rw[zip_cons_cons,lookup_cons] at h
  rw[map_cons,zip_cons_cons]
  unfold bindL
  by_cases e:x=p
  ·subst e
   simp at h
   subst h
   rw[lz _ _ (w2 hn.1),if_pos hk]
   simp
  ·have g:(x==p)=false:=by simpa using e
   rw[g] at h
   exact oM ps vs _ hn.2 h hk
theorem o6:∀ (ps:List String) (vs:List Value) (m:Str->Option Value),ps.Nodup->(ps.zip vs).lookup x=some v->kd (Str.ofString x)=some .cell->bindC kd ((ps.map Str.ofString).zip vs) m (Str.ofString x)=some v
 | [],_,_,_,h,_=>by simp at h
 | _::_,[],_,_,h,_=>by simp at h
 | p::ps,u::vs,m,hn,h,hk=>by
  rw[nodup_cons] at hn
  rw[zip_cons_cons,lookup_cons] at h
  rw[map_cons,zip_cons_cons]
  unfold bindC
  by_cases e:x=p
  ·subst e
   simp at h
   subst h
   rw[lq _ _ (w2 hn.1),if_neg (by rw[hk]; simp)]
   simp
  ·have g:(x==p)=false:=by simpa using e
   rw[g] at h
   exact o6 ps vs _ hn.2 h hk
section
theorem qw (rs:RVs h xs vals as):∀ {ps:List String}{σ:St},bN ps xs=some σ ->
  vals.length=ps.length/\∃ fp:String->List Addr,∀ x q,σ x=some q->x∈ps/\∃ V v,q=mk V/\(ps.zip vals).lookup x=some v/\RV h v V (fp x)/\∀ a∈fp x,a∈as:=by
 induction rs with
 | nil=>
  intro ps σ j
  cases ps with
  | nil=>exact (aH rfl (bT (λuu=>[]) (λx q h=>nN ((congrFun (Option.some.inj j) x).trans h))))
  | cons p ps=>exact nN j
 | @cons V xs v vs a1 bs r rs IH=>
  intro ps σ j
  cases ps with
  | nil=>exact nN j
  | cons p ps=>
  replace j:=map_eq_some_iff.mp (show (bN ps xs).map _=_ from j)
  refine ae (j) λu m l=>?_
  clear j
  subst l
  obtain ⟨hl,g,z⟩:=IH m
  refine (aH (by rw[length_cons,length_cons,hl]) (bT (λx=>if x=p then a1 else g x) (λx q k=>?_)))
  unfold upd at k
  by_cases e:x=p
  ·subst e
   rw[if_pos rfl] at k; (have y:=Option.some.inj k; clear k; subst y)
   have t:(if x=x then a1 else g x)=a1:=if_pos rfl
   refine (aH (.head _) (bF V v rfl (by simp) ?_ (λa n=>?_)))
   ·show RV h v V (if x=x then a1 else g x)
    rw[t]; exact r
   ·have i:a∈(if x=x then a1 else g x):=n
    rw[t] at i
    exact mem_append_left _ i
  ·rw[if_neg e] at k
   obtain ⟨h1,V',o,h2,h3,h4,h5⟩:=z x q k
   have e':(x==p)=false:=by simpa using e
   exact (aH (.tail _ h1) (bF V' o h2 (by rw[zip_cons_cons,lookup_cons,e']; exact h3) (by show RV h o V' (if x=p then a1 else g x); rw[if_neg e]; exact h4) (λa n=>mem_append_right _ (h5 a (by have i:a∈(if x=p then a1 else g x):=n; rwa [if_neg e] at i)))))
theorem po {ft:FnT}{fd:FuncData}{fa:Addr}{A:Around}{P:Addr->Prop}{s:Shared}{ha:Heap}{tka:Nat}{σ:St}{pn:List String}{pv:List Value}{fp:String->List Addr}
  (hf:fns.hand=false) (hnd:pn.Nodup) (hpb:∀ x∈pn,bv ft.scope.names x=true) (hfree:∀ p∈ft.scope.names,(p.2 != .free)=true) (hh:fns.hand=false->A.handled=none) (r1:A.depth+2*k+5<recursionLimit) (r2:A.units+100*k+303<cLine) (hfr:∃ l,A.frames=some l/\FrOk s.heap l) (ge:GE fns s.heap)
  (hsc:fd.scope=ft.scope) (hgl:fd.globals=mainGlobals) (hbl:fd.builtins=builtinsNs) (hkind:fd.scope.kind = .function) (hcode:ft.lam=true->CodeOk s.heap fd.code fd.qualname)
  (X:InF s (callEnvC fd s.heap.objs.size fa).locals (bindL (callEnvC fd s.heap.objs.size fa).kindOf ((pn.map Str.ofString).zip pv) λuu=>none) (callEnvC fd s.heap.objs.size fa).cells (bindC (callEnvC fd s.heap.objs.size fa).kindOf ((pn.map Str.ofString).zip pv) λuu=>none) {s with heap:=ha,toks:=tka })
  (hfp:∀ x q,σ x=some q->x∈pn/\∃ V v,q=mk V/\(pn.zip pv).lookup x=some v/\RV s.heap v V (fp x)/\∀ a∈fp x,P a) :
  SOK {fns with lam:=ft.lam } k s.heap P (λb=>∃ o,s.heap.get? b=some o) (A.deeper (callEnvC fd s.heap.objs.size fa)) (callEnvC fd s.heap.objs.size fa) ha σ (λx=>(pn.zip pv).lookup x) fp:=by
 have r:=X.x.toInCall
 have m:(callEnvC fd s.heap.objs.size fa).scope.names=ft.scope.names:=by show fd.scope.names=_; rw[hsc]
 have i:(callEnvC fd s.heap.objs.size fa).locals=s.heap.objs.size:=rfl
 have y:∀ n,(callEnvC fd s.heap.objs.size fa).kindOf n=ft.scope.names.lookup n:=λn=>by show fd.scope.names.lookup n=_; rw[hsc]
 have j:∀ n,(callEnvC fd s.heap.objs.size fa).kindOf n≠some .free:=λn e=>by
  rw[y] at e
  have:=hfree _ (mem_of_lookup e)
  simp at this
 have hold:¬ SF.old s.heap.objs.size:=λq=>by
  refine ai (ge.old _ q) λo e=>?_
  rw[bq] at e; exact nN e
 refine ⟨⟨hh,?_,?_⟩,⟨hkind,hgl,hbl,λn hn=>?_⟩,ge.flag ft.lam fns.hand,λb o e=>⟨o,e⟩,.of r.keep,λq=>⟨_,hcode q⟩,λuu=>?_,λb ⟨o,e⟩=>⟨o,r.keep b o e⟩,⟨X.c,(af _ r.ns (λx v g hk=>?_)),λ⟨o,e⟩=>?_,λn c hk hc=>?_,λx v c g hk hc=>?_,λn n' c h1 h2=>?_,λx v g=>?_⟩,λx p t=>?_,λx p t ht=>?_,λx p t hdp=>?_⟩
 ·show A.depth+1+2*k+(if fns.hand then 1 else 4)<_
  rw[hf]; simp only[false_eq_true,if_false]; exact Fu r1
 ·show A.units+3+100*k+(if fns.hand then 200 else 300)<_
  rw[hf]; simp only[false_eq_true,if_false]; exact H6 r2
 ·rcases hn with hn | hn
  ·rw[y] at hn
   exact Option.isSome_iff_exists.mp (by show ((cellsFrom _ fd.scope.names []).lookup n).isSome=true; rw[hsc]; exact dP _ _ _ (.inl hn))
  ·exact absurd hn (j n)
 ·refine ae (hfr) λl e1 e2=>?_
  clear hfr
  exact (bU l (Around.frames_deeper e1) e2 rfl hold)
 ·exact oM pn pv _ hnd g hk
 ·rw[i] at e
  rw[bq] at e; exact nN e
 ·have hm:=mem_of_lookup hc
  have u:=X.x.above n c hm
  refine (cA (ne_of_gt u) (λ⟨o,e⟩=>?_) (bT _ (X.x.cell n c hc)))
  have:=lt_size e
  rw[i] at u
  exact Nat.lt_irrefl _ (lt_trans this u)
 ·have:=X.x.cell _ c hc
  rw[o6 pn pv _ hnd g hk] at this
  exact this
 ·exact name_of_addr X.x.apart (mem_of_lookup h1) (mem_of_lookup h2)
 ·have hm:x∈pn:=by
   have:(x,v)∈pn.zip pv:=by
    generalize pn.zip pv=l at g
    induction l with
    | nil=>exact nN g
    | cons q l ih=>
     rw[lookup_cons] at g
     split at g
     ·rename_i e
      (have oc:=Option.some.inj g; clear g; (clear ih; subst oc))
      rw[beq_iff_eq.mp e]
      exact .head _
     ·exact .tail _ (ih g)
   exact (of_mem_zip this).1
  have z:=hpb x hm
  unfold bv at z
  simp only[and_eq_true,or_eq_true,beq_iff_eq] at z
  rw[y]
  exact z.2
 ·obtain ⟨h1,V,v,K4,h3,h4,h5⟩:=hfp x p t
  (clear t; subst K4)
  have z:=hpb x h1
  unfold bv at z
  simp only[and_eq_true] at z
  refine (aH (by rw[m]; exact z.1.1) (aw v h3 (h4.keep r.keep) (λa h=>⟨λq=>?_,.inl (h5 a h)⟩)))
  refine ai (h4.there a h) λo e=>?_
  rw[q,i,bq] at e; exact nN e
 ·obtain ⟨h1,V,v,K8,_⟩:=hfp x p t
  (clear t; subst K8)
  exact absurd ht jf
 ·obtain ⟨h1,V,v,K5,h3,h4,h5⟩:=hfp x p t
  (clear t; subst K5)
  rw[h4.scal_nil (gH hdp)]
  exact ⟨λuu h=>(nomatch h),.nil⟩
theorem mT {ft:FnT}{fd:FuncData}{pn:List String}{vals:List Value}{n:Nat}(hsc:fd.scope=ft.scope) (hbk:∀ x∈pn,bv ft.scope.names x=true):∀ x∈(pn.map Str.ofString).zip vals,fd.scope.names.lookup x.1=some .local\/(fd.scope.names.lookup x.1=some .cell/\((cellsFrom n fd.scope.names []).lookup x.1).isSome=true):=by
 intro x j
 refine bG (of_mem_zip j).1 λy i e=>?_
 have g:=hbk y i
 unfold bv at g
 simp only[and_eq_true,or_eq_true,beq_iff_eq] at g
 rw[hsc,<- e]
 rcases g.2 with h | h
 ·exact .inl h
 ·exact .inr ⟨h,dP _ _ _ (.inl h)⟩
section
theorem yi (h:bN f.params vs=some σ) (e:exs C f.body σ = .bad):aD C f vs = .bad:=by unfold aD; rw[h]; dsimp only; rw[e]; rfl
theorem yI (h:bN f.params vs=some σ) (e:exs C f.body σ = .exc c):aD C f vs = .exc c:=by unfold aD; rw[h]; dsimp only; rw[e]; rfl
theorem wk (h:bN f.params vs=some σ) (e:exs C f.body σ = .ok (σ',.next)):aD C f vs = .ok (.d .none,.deep):=by unfold aD; rw[h]; dsimp only; rw[e]; rfl
theorem yz (h:bN f.params vs=some σ) (e:exs C f.body σ = .ok (σ',.ret r)):aD C f vs = .ok r:=by unfold aD; rw[h]; dsimp only; rw[e]; rfl
theorem xN (h:bN f.params vs=some σ) (e:exs C f.body σ = .bad):di C f vs = .bad:=by unfold di; rw[h]; dsimp only; rw[e]; rfl
theorem yN (h:bN f.params vs=some σ) (e:exs C f.body σ = .exc c):di C f vs = .exc c:=by unfold di; rw[h]; dsimp only; rw[e]; rfl
theorem oY (h:bN f.params vs=some σ) (e:exs C f.body σ = .ok (σ',.next)):di C f vs=fZ σ':=by unfold di; rw[h]; dsimp only; rw[e]; rfl
theorem zj (h:bN f.params vs=some σ) (e:exs C f.body σ = .ok (σ',.ret r)):di C f vs = .bad:=by unfold di; rw[h]; dsimp only; rw[e]; rfl
end
theorem rC {A:Around}{env:Env}{s s₁:Shared}{c:String}{x:Value}{R:Shared->Prop}{E:Value->Shared->Prop}(kp:Kp s s₁) (lv:Lv A env s₁.heap) (ex:Exc (dom s.heap) s₁.heap c env.locals x) (hR:∀ s',XPc c s x s'->R s') :
  wpAny (model prog w) A (leaving env x) (λuu s'=>R s') E s₁:=by
 refine am (lv) λl q p n=>?_
 clear lv
 refine au (kp) λj h i g=>?_
 clear kp
 subst i
 refine Gz (N:=dom s.heap) (λb k=>?_) q p n ex λt u r=>hR _ ⟨(aC t h rfl (Internal.K.step g r λb o e=>⟨o,e⟩)),u⟩
 refine ai (k) λo e=>?_
 clear k
 refine ae (g b o (.inl trivial) e) λm v _=>?_
 exact ⟨m,v⟩
set_option maxHeartbeats 1000000 in
theorem nA (hf:fns.hand=false) (hC:cr {fns with lam:=ft.lam } k C XPc) (hok:okF ft fn=true)
  (hroom:Room fns.hand (k+1) A) (hfr:∃ l,A.frames=some l/\FrOk s.heap l) (ge:GE fns s.heap) (hfa:FnAt s.heap ft fa) (rs:RVs s.heap xs vals as) (ha:∀ a∈as,P a) (nb:aD C fn xs≠.bad) (hQ:∀ r,aD C fn xs = .ok r->∀ v s',EP P s r v s'->Q v s') (hE:∀ c,aD C fn xs = .exc c->∀ x s',XPc c s x s'->Er x s') :
  wpAny (model prog w) A (call (.ref fa) vals []) Q Er s:=by
 unfold okF at hok
 simp only[and_eq_true,decide_eq_true_eq,all_eq_true] at hok
 refine aa (hok) λLc p=>?_
 clear hok
 refine aa (Lc) λz u=>?_
 clear Lc
 refine aa (z) λy hnd=>?_
 clear z
 refine aa (y) λhps hbk=>?_
 clear y
 cases hσ:bN fn.params xs with
 | none=>exact absurd (by unfold aD; rw[hσ]) nb
 | some σ=>
 obtain ⟨hlen,fp,hfp⟩:=qw rs hσ
 refine vD (hfa) λo fd ho hd hbd n hgl hcl hbl hcr t i hco hgen g=>?_
 clear hfa
 rw[hps] at i
 refine wpAny_call (sE (by have:=hroom.at hf; exact Ho this) ho hd ge.nolim hcr hbd (i vals hlen) hcl (mT n hbk) (λs₁ X=>?_) hco hgen g)
 refine bj (X.x.toInCall.same) λh₁ m K3=>?_
 subst K3
 have K:=po (k:=k) (ft:=ft) (fa:=fa) (σ:=σ) (pn:=fn.params) (pv:=vals) (fp:=fp) (P:=P) hf hnd hbk p hroom.1 (lt_of_le_of_lt (le_succ _) (hroom.at hf).1) (lt_of_le_of_lt DQ (hroom.at hf).2) hfr ge n hgl hbl g t X λx q hq=>by
  obtain ⟨h1,V,v,h2,h3,h4,h5⟩:=hfp x q hq
  exact (aH h1 (bF V v h2 h3 h4 (λa h=>ha a (h5 a h))))
 have kp:∀ s',Stp (λb=>∃ o,s.heap.get? b=some o) {s with heap:=h₁,toks:=m } s'->Kp s s':=λs' j=>by
  refine au (j) λh' tk' La kk=>?_
  clear j
  subst La
  exact (aC h' tk' rfl (Internal.K.step (Internal.K.of X.x.toInCall.keep) kk λb o e=>⟨o,e⟩))
 have okb:cu (callEnvC fd s.heap.objs.size fa).scope.names fn.body ft.body=true:=by show cu fd.scope.names fn.body ft.body=true; rw[n]; exact u
 cases hex:exs C fn.body σ with
 | bad=>exact absurd (yi hσ hex) nb
 | exc c=>exact oG (fns:={fns with lam:=ft.lam }) hf hC fn.body okb K hex λx s' j lv ex=>rC (kp s' j) lv ex λs'' X=>hE c (yI hσ hex) x s'' X
 | ok o=>
  obtain ⟨σ',fl⟩:=o
  refine pd (fns:={fns with lam:=ft.lam }) hf hC fn.body okb K hex (λe s' vals' fp' j K' _=>?_) λq e v s' j R=>?_
  ·subst e
   exact hQ _ (wk hσ hex) _ _ (.scalar (kp s' j) .none rfl (by simp))
  ·subst e
   refine cX (R) λas' h1 h2 h3 h4=>?_
   clear R
   exact hQ _ (yz hσ hex) _ _ ⟨kp s' j,as',h1,h2,h3,h4⟩
end
theorem o9:∀ (l1 l2:List Stmt),execs (l1++l2) env=(execs l1 env>>=λf=>match f with | .next=>execs l2 env | f=>pure f)
 | [],l2=>rfl
 | st::l1,l2=>by
  rw[List.cons_append,execs_cons,execs_cons,bind_assoc]
  congr 1
  funext f
  cases f with
  | next=>exact o9 l1 l2
  | _=>rfl
section
noncomputable def But2 (x D:Addr) (h h':Heap):Prop:=∀ b o,b≠x->b≠D->h.get? b=some o->h'.get? b=some o
theorem But2.kk (a:But2 x D h h') (k:K h0 h) (hx:h0.get? x=none) (hD:h0.get? D=none) (nx:∀ o,h.get? x=some o->¬ Stay o) (nD:∀ o,h.get? D=some o->¬ Stay o):K h0 h' :=
 K.step k (G:=λb=>b≠x/\b≠D) (.of λb o g e=>a b o (λq=>g.elim (λh=>h.1 q) (nx o (q▸e))) (λq=>g.elim (λh=>h.2 q) (nD o (q▸e))) e) λb o e=>⟨λq=>(by rw[q,hx] at e; cases e),λq=>(by rw[q,hD] at e; cases e)⟩
theorem Loc.but2 {x D:Addr}{h h':Heap}{env:Env}{Z:Addr->Prop}{vals:String->Option Value}(L:Loc env Z h vals) (a:But2 x D h h') (hx:Z x) (hD:Z D):Loc env Z h' vals where
 cls:=ae (L.cls) λo e c=>(af o (a _ o (λq=>L.nz (q▸hx)) (λq=>L.nz (q▸hD)) e) c)
 ns:=let ⟨m,⟨o,es,ep,e,r⟩,q⟩:=L.ns; (af m (cz o es ep (a _ o (λq=>L.nz (q▸hx)) (λq=>L.nz (q▸hD)) e) r) q)
 nz:=L.nz
 cell:=λn c k j=>by
  refine aG (L.cell n c k j) λp i g=>?_
  refine au (g) λv o e r=>?_
  clear g
  exact (cA p i (aC v o (a c o (λq=>i (q▸hx)) (λq=>i (q▸hD)) e) r))
 cval:=λy v c k j l=>by
  refine aG (L.cell _ c j l) λuu i _=>?_
  refine ae (L.cval y v c k j l) λo e r=>?_
  exact (af o (a c o (λq=>i (q▸hx)) (λq=>i (q▸hD)) e) r)
 apart:=L.apart
 kinds:=L.kinds
theorem kB {A:Around}{h:Heap}{g:Array GenState}{dr:Drawn}{tk:Nat}{os:OsState}{E:Value->Shared->Prop}{x D:Addr}{mA:Str->Option Value}{n:String}{v:Value}{Q:Unit->Shared->Prop}{ns:List Str}(ge:RuleAt fns h) (hn:n∈fieldNames) (hw:Within mA ns) (hs:ns.length<=8) (hxC:x≠SF.rule)
  (I:h.Inst x SF.rule mA) (hd:∀ o,h.get? x=some o->o.dict=some D)
  (hQ:∀ h' tk',h'.Inst x SF.rule (λy=>if y=Str.ofString n then some v else mA y)->But2 x D h h'->(∀ o,h'.get? x=some o->o.dict=some D)->Q () ⟨h',g,dr,tk',os⟩) :
  wpAny (model prog w) A (setAttr (.ref x) (Str.ofString n) v) Q E ⟨h,g,dr,tk,os⟩:=by
 refine az (ge) λN mN t i _=>?_
 clear ge
 obtain ⟨m,hN⟩:=t
 refine eH (m) λnm q bs' sn sub col dd k0 k1 k2 k3 k5 hC=>?_
 clear m
 have hB:typeLookup (.type "object") (Str.ofString n)=pure none:=by
  simp only[fieldNames,mem_cons,not_mem_nil,or_false] at hn
  rcases hn with rfl | rfl | rfl
  ·exact nj
  ·exact kG
  ·exact oK
 have hq:mN (Str.ofString n)=none:=i n (by
  simp only[fieldNames,mem_cons,not_mem_nil,or_false] at hn
  rcases hn with rfl | rfl | rfl<;>simp)
 refine store_attr PySem.F.store_object hC hN (i "__setattr__" (by simp)) hq hB hxC I (λh' tk' I' hk l=>?_) hw (by rw[sizeLine_eq]; exact D6 hs)
 refine ae (I) λo e _=>?_
 clear I
 have r:=hd o e
 refine hQ h' tk' I' (λb ob h1 h2 eb=>hk b ob h1 (λoo dx k z=>by rw[e] at k; (have p:=Option.some.inj k; clear k; subst p); rw[r] at z; (have p:=Option.some.inj z; clear z; subst p); exact h2) eb) λo' e'=>?_
 refine lj (l o e) λoa j _ _ _ u=>?_
 rw[e'] at j; (have p:=Option.some.inj j; clear j; subst p)
 exact u D r
theorem Inst.ns1 {h:Heap}{x Cl D:Addr}{mA:Str->Option Value}(I:h.Inst x Cl mA) (hd:∀ o,h.get? x=some o->o.dict=some D):∃ o,h.get? x=some o/\o.cls = .ref Cl/\(∀ c,o.data≠.cls c)/\o.dict=some D/\D≠x/\h.Ns1 D mA:=by
 refine cX (I) λo e k j i=>?_
 clear I
 have:=hd o e
 rcases i with ⟨q,_⟩ | ⟨d,q1,q2,q3⟩
 ·rw[this] at q; exact nM q
 ·rw[this] at q1; (have g:=Option.some.inj q1; clear q1; subst g)
  exact (pE o e k j this q2 q3)
theorem Inst.kk {h h':Heap}{x Cl D:Addr}{mA:Str->Option Value}(I:h.Inst x Cl mA) (hd:∀ o,h.get? x=some o->o.dict=some D) (k:K h h'):h'.Inst x Cl mA/\∀ o,h'.get? x=some o->o.dict=some D:=by
 refine m8 (Inst.ns1 I hd) λo e n v m u g=>?_
 refine aL (g) λoD y z eD i r=>?_
 clear g
 have p:=K.get k e (by unfold hardB; rw[n])
 obtain ⟨j,l,q,_⟩:=K.data k eD λfs q=>by rw[i] at q; cases q
 exact ⟨(bU o p n v (.inr (aw D m u (cI j y z l (q.trans i) r)))),λo' q=>by rw[p] at q; (have t:=Option.some.inj q; clear q; subst t); exact m⟩
theorem wd (h:fZ σ = .exc c):False:=by
 unfold fZ at h
 refine cD h λuu h=>?_
 refine cD h λuu h=>?_
 refine cD h λuu h=>?_
 refine cD h λuu h=>?_
 refine cD h λuu h=>?_
 refine cD h λuu h=>?_
 refine cD h λuu h=>?_
 refine cD h λuu h=>?_
 split at h<;>cases h
set_option maxHeartbeats 2000000 in
theorem uy (h:fZ σ = .ok r):∃ ci mc rows ys,r=(.rule ci (.list rows) (ys:List PyData).length,.deep)/\σ "count" = some (.d (.int ci),mc)/\σ "full" = some (.d (.list rows),.deep)/\rows[0]? = some (.list ys):=by
 unfold fZ at h
 obtain ⟨⟨pc,mc⟩,j,h⟩:=aS h
 obtain ⟨dc,o,h⟩:=aS h
 obtain ⟨ci,n,h⟩:=aS h
 obtain ⟨⟨z,u⟩,i,h⟩:=aS h
 obtain ⟨df,m,h⟩:=aS h
 obtain ⟨rows,l,h⟩:=aS h
 obtain ⟨p,g,h⟩:=aS h
 obtain ⟨ys,k,h⟩:=aS h
 by_cases hd:u = .deep
 ·rw[if_pos hd] at h
  have t:=bZ o
  have y:=c8 n
  have q:=bZ m
  have x:=bR l
  have v:=bR k
  dsimp only at t q
  rw[t,y] at j
  rw[q,x,hd] at i
  rw[v] at g
  exact (j4 ci mc rows ys ((Out.ok.inj h).symm) j i g)
 ·rw[if_neg hd] at h; exact nB h
theorem xQ (hf1:σ "full" = some (.d (.list rows),.deep)) (hf4:rows[0]? = some (.list ys)):ev C fj (cK σ ["full"]) = .ok (sI ys.length):=by
 have i:cK σ ["full"] "full" = some (.d (.list rows),.deep):=by unfold cK; rw[if_pos (by simp)]; exact hf1
 have h:jM (.list rows) 0=some (.list ys):=by
  show (be 0 rows.length).bind (λk=>rows[k]?)=_
  have g:0<rows.length:=(List.getElem?_eq_some_iff.mp hf4).1
  unfold be
  rw[if_pos (Int.le_refl 0),if_pos (la3 g)]
  exact hf4
 unfold fj
 rw[fL,fJ,b7,eN,i]
 show ((fk (.list rows) (.int 0)).bind _)=_
 unfold fk
 rw[show d9 (.int 0)=some 0 from rfl]
 simp only[al,h,Out.ok_bind]
 rfl
theorem w9 (C:Calls) (hf:fns.hand=false) {A:Around}{env:Env}{P:Addr->Prop}{hh h' hs:Heap}{g:Array GenState}{dr:Drawn}{tk tk':Nat}{os:OsState}{x D:Addr}{σ:St}{vals:String->Option Value}{fp:String->List Addr}{Q:Flow->Shared->Prop}{Er:Value->Shared->Prop}
  {ci:Int}{mc:Mode}{rows ys:List PyData}{a3 b3 c3:Stmt}(Mk:Heap.MadeObj hh h' x D SF.rule) (hxC:x≠SF.rule) (kh:K h' hs) (ge:GE fns hh) (R0:RuleAt fns hh) (hlam:fns.lam=false)
  (K':SOK fns k h' P (λb=>∃ o,h'.get? b=some o) A env hs σ vals fp) (hfr:∃ l,A.frames=some (env::l)/\FrOk hh l) (hvs:vals "self" = some (.ref x))
  (hc1:σ "count" = some (.d (.int ci),mc)) (hf1:σ "full" = some (.d (.list rows),.deep)) (hf4:rows[0]? = some (.list ys))
  (o1:fC env.scope.names "count" (.name "count") a3=true) (o2:fC env.scope.names "full" (.name "full") b3=true) (o3:fC env.scope.names "size" fj c3=true)
  (hQ:∀ s',EP P ⟨hh,g,dr,tk,os⟩ (.rule ci (.list rows) ys.length,.deep) (.ref x) s'->Q .next s'):wpAny (model prog w) A (execs [a3,b3,c3] env) Q Er ⟨hs,g,dr,tk',os⟩:=by
 have kM:K hh h':=.of Mk.keeps
 have Zx:∃ o,h'.get? x=some o:=by obtain ⟨o,e,_⟩:=Mk.inst; exact ⟨o,e⟩
 refine m8 (Inst.ns1 Mk.inst Mk.dict) λox ex hxc hxd hxdict hDx hNs=>?_
 have ZD:∃ o,h'.get? D=some o:=by obtain ⟨o,_,_,e,_⟩:=hNs; exact ⟨o,e⟩
 have kall:K hh hs:=KG.trans kM kh
 refine aa (K'.val "count" _ hc1) λuu z=>?_
 refine am (z) λvc hvc Lj _=>?_
 clear z
 refine aa (Lj) λrvc _=>?_
 clear Lj
 refine rvc.isInt_k λtc Ll _=>?_
 (clear rvc; subst Ll)
 refine aa (K'.val "full" _ hf1) λuu u=>?_
 refine am (u) λvf hvf Lm _=>?_
 clear u
 refine aa (Lm) λrvf zvf=>?_
 clear Lm
 refine aa (K'.deep "full" _ hf1 rfl) λdp1 dp2=>?_
 refine aa (Inst.kk Mk.inst Mk.dict kh) λI1 D1=>?_
 refine cH (lX o1) λq1 q2 v1 q3 Lp ov1=>?_
 (clear o1; subst Lp)
 refine cH (lX o2) λq4 q5 v2 q6 Ln ov2=>?_
 (clear o2; subst Ln)
 refine cH (lX o3) λq7 q8 v3 q9 Lw ov3=>?_
 (clear o3; subst Lw)
 refine am (l4 ov1) λq10 LB _ nd1=>?_
 subst LB
 refine am (l4 ov2) λq11 Ly _ nd2=>?_
 subst Ly
 have nds:aX "self" = true:=by decide
 have p:∀ {h:Heap}{mA:Str->Option Value},h.Inst x SF.rule mA->∀ o,h.get? x=some o->¬ Stay o:=λI o e=>by
  refine am (I) λo' e' c' _=>?_
  clear I
  rw[e] at e'; (have oc:=Option.some.inj e'; clear e'; subst oc)
  exact Stay.not_cls (by rw[c']; simp) (by rw[c']; simp)
 have j:∀ {h:Heap}{mA:Str->Option Value},h.Inst x SF.rule mA->(∀ o,h.get? x=some o->o.dict=some D)->(∀ o,h.get? D=some o->¬ Stay o)/\∀ o,h.get? D=some o->∀ vs n,o.data≠.seq vs n:=λI d=>by
  obtain ⟨_,_,_,_,_,_,o',es,ep,e',hd',_⟩:=Inst.ns1 I d
  exact ⟨λo e=>by rw[e] at e'; (have oc:=Option.some.inj e'; clear e'; subst oc); exact Stay.not_dict hd',λo e vs n q=>by rw[e] at e'; (have oc:=Option.some.inj e'; clear e'; subst oc); rw[hd'] at q; cases q⟩
 have nxf:x∉fp "full" := λq=>(dp1 x q).1 Zx
 have nDf:D∉fp "full" := λq=>(dp1 D q).1 ZD
 have t:∀ {h h2:Heap}{mA:Str->Option Value},h.Inst x SF.rule mA->(∀ o,h.get? x=some o->o.dict=some D)->But2 x D h h2->R h vf (.list rows) (fp "full")->R h2 vf (.list rows) (fp "full"):=λI d b r=>by
  refine r.on2 λa o ha ⟨vs,n,hs⟩ e=>b a o (λq=>?_) (λq=>?_) e
  ·(clear D1 I1 Mk Zx b d j ex hDx hQ hvs hxC p; subst q)
   refine am (I) λo' e' c' _=>?_
   clear I
   rw[e] at e'; (have oc:=Option.some.inj e'; clear e'; subst oc)
   rcases ha with ha | ha
   ·exact nxf ha
   ·rw[c'] at ha; cases ha
  ·(clear D1 Mk ZD b hDx hNs hxdict nDf; subst q)
   exact (j I d).2 o e vs n hs
 refine wpAny_execs_cons (plainObj_wpAny_Assign_Attribute (dZ K'.eok.kind nd1 (K'.loc.var K'.eok hvc) (dZ K'.eok.kind nds (K'.loc.var K'.eok hvs) (kB (fns:=fns) (R0.k kall) (by simp[fieldNames]) Within.nil (by simp) hxC I1 D1 λh2 tk2 I2 b2 D2=>?_))) rfl)
 have k2:K hh h2:=b2.kk kall Mk.newX Mk.newD (p I1) (j I1 D1).1
 have L2:=K'.loc.but2 b2 Zx ZD
 refine wpAny_execs_cons (plainObj_wpAny_Assign_Attribute (dZ K'.eok.kind nd2 (L2.var K'.eok hvf) (dZ K'.eok.kind nds (L2.var K'.eok hvs) (kB (fns:=fns) (R0.k k2) (by simp[fieldNames]) (Within.cons _ _ Within.nil) (by simp) hxC I2 D2 λh3 tk3 I3 b3 D3=>?_))) rfl)
 have k3:K hh h3:=b3.kk k2 Mk.newX Mk.newD (p I2) (j I2 D2).1
 have L3:=L2.but2 b3 Zx ZD
 have rf3:R h3 vf (.list rows) (fp "full"):=t I2 D2 b3 (t I1 D1 b2 rvf)
 have he:ev C fj (cK σ ["full"]) = .ok (sI ys.length):=xQ hf1 hf4
 have cx3:Cx fns k A (λuu=>True) h3 env (cK σ ["full"]):=by
  refine ⟨K'.room,K'.eok,ge.k k3,(λq=>by rw[hlam] at q; cases q),λq=>?_,λy py hy _=>?_⟩
  ·refine cX (K'.out q) λl e1 e2 e3 e4=>?_
   refine ae (hfr) λl' f1 f2=>?_
   refine (af _ f1 (λenv' he'=>?_))
   rcases mem_cons.mp he' with rfl | he'
   ·refine ae (L3.ns) λm LN _=>?_
    refine aL (LN) λo es ep g1 g2 _=>?_
    refine ae (L3.cls) λo' g3 g4=>?_
    rw[g1] at g3; (have oc:=Option.some.inj g3; clear g3; subst oc)
    exact (aH K'.eok.kind (kZ _ _ es ep e3 e4 g1 g4 g2))
   ·exact (f2.k k3) env' he'
  ·unfold cK at hy
   split at hy
   ·rename_i hm
    rw[mem_singleton.mp hm] at hy ⊢
    rw[hf1] at hy; (have oc:=Option.some.inj hy; clear hy; subst oc)
    exact (aU vf (fp "full") (L3.var K'.eok hvf) ⟨rf3,zvf⟩ (λuu uu=>trivial))
   ·exact nN hy
 have S3:SimE fns k C XPc fj:=nY hf (nC bY (ei "full") (nP 0))
 refine wpAny_execs_cons (plainObj_wpAny_Assign_Attribute (S3 ov3 cx3 (by rw[he]; simp) (λr hr v s4 E4=>?_) (λc hc=>by rw[he] at hc; cases hc)) (by
  refine Or.elim (Az ov3) (λLi=>?_) (λq=>?_)
  ·refine cH (Li) λLP L6 ML ME LS Mq=>?_
   clear Li
   subst LS
   rfl
  ·cases q))
 rw[he] at hr; (have oc:=Out.ok.inj hr; clear hr; subst oc)
 obtain ⟨Lo,as4,Lq,_⟩:=E4
 refine au (Lo) λh4 tk4 Lr k34=>?_
 clear Lo
 subst Lr
 refine aa (Lq) λrv4 _=>?_
 clear Lq
 refine rv4.isInt_k λt4 Ls _=>?_
 (clear rv4; subst Ls)
 refine aa (Inst.kk I3 D3 k34) λI4 D4=>?_
 have k4:K hh h4:=KG.trans k3 k34
 have L4:=L3.onK k34
 refine dZ K'.eok.kind nds (L4.var K'.eok hvs) (kB (fns:=fns) (R0.k k4) (by simp[fieldNames]) (Within.cons _ _ (Within.cons _ _ Within.nil)) (by simp) hxC I4 D4 λh5 tk5 I5 b5 D5=>?_)
 have k5':K hh h5:=b5.kk k4 Mk.newX Mk.newD (p I4) (j I4 D4).1
 have rf5:R h5 vf (.list rows) (fp "full"):=t I4 D4 b5 (rf3.k k34)
 refine m8 (Inst.ns1 I5 D5) λo5 e5 c5 d5 di5 ne5 ns5=>?_
 have nh:∀ a,¬ (∃ o,h'.get? a=some o)->hh.get? a=none:=λa q=>by
  cases e:hh.get? a with
  | none=>rfl
  | some o=>exact absurd ⟨o,Mk.keeps a o e⟩ q
 refine wpAny_execs_nil (hQ _ ⟨(aC h5 tk5 rfl k5'),x::D::fp "full", (iW x D o5 vf (fp "full") tc t4 _ rfl rfl e5 c5 d5 di5 ne5 ns5 ?_ ?_ ?_ ?_ rf5 zvf),λa i=>.inr ?_,(λq=>by cases q),λuu=>⟨λa i=>?_,?_⟩⟩)
 ·rfl
 ·rfl
 ·rfl
 ·intro m hm
  simp only[methNames,mem_cons,not_mem_nil,or_false] at hm
  rcases hm with rfl | rfl | rfl | rfl | rfl<;>rfl
 ·rcases mem_cons.mp i with rfl | i
  ·exact Mk.newX
  ·rcases mem_cons.mp i with rfl | i
   ·exact Mk.newD
   ·exact nh a (dp1 a i).1
 ·rcases mem_cons.mp i with rfl | i
  ·exact Mk.newX
  ·rcases mem_cons.mp i with rfl | i
   ·exact Mk.newD
   ·exact nh a (dp1 a i).1
 ·refine nodup_cons.mpr ⟨λq=>?_,nodup_cons.mpr ⟨nDf,dp2⟩⟩
  rcases mem_cons.mp q with q | q
  ·exact ne5 q.symm
  ·exact nxf q
theorem wI (hf:fns.hand=false) (hp:fns.init=some p) (hC:cr {fns with lam:=p.2.lam } k C XPc) (hok:okI p.2 fn=true)
  (hroom:Room fns.hand (k+1) A) (hfr:∃ l,A.frames=some l/\FrOk s.heap l) (ge:GE fns s.heap) (rs:RVs s.heap xs vals as) (ha:∀ a∈as,P a) (nb:di C fn xs≠.bad) (hQ:∀ r,di C fn xs = .ok r->∀ v s',EP P s r v s'->Q v s') (hE:∀ c,di C fn xs = .exc c->∀ x s',XPc c s x s'->Er x s') :
  wpAny (model prog w) A (call (.ref SF.rule) vals []) Q Er s:=by
 unfold okI at hok
 simp only[and_eq_true,decide_eq_true_eq,all_eq_true,Bool.not_eq_true'] at hok
 refine aa (hok) λK5 hlam=>?_
 clear hok
 refine aa (K5) λK7 hfree=>?_
 clear K5
 refine aa (K7) λLc hself=>?_
 clear K7
 refine aa (Lc) λLd hlast=>?_
 clear Lc
 refine aa (Ld) λK6 hbody=>?_
 clear Ld
 refine aa (K6) λK3 hnd=>?_
 clear K6
 refine aa (K3) λn hbk=>?_
 clear K3
 refine fR (By hlast) λa3 b3 c3 hl3 o1 o2 o3=>?_
 cases hσ:bN fn.params xs with
 | none=>exact absurd (by unfold di; rw[hσ]) nb
 | some σ=>
  refine aa (qw rs hσ) λhlen m=>?_
  refine ai (m) λfp hfp=>?_
  clear m
  have R0:=ge.cls (.inr (by rw[hp]; rfl))
  refine bg (R0) λN mN La quiet Le _=>?_
  clear R0
  obtain ⟨Lb,hN⟩:=La
  refine eH (Lb) λnm q bs' sn sub col dd k0 k1 k2 k3 k5 hCl=>?_
  clear Lb
  refine m9 (Le) λp' oI i1 i2 i3 i4 i5=>?_
  clear Le
  rw[hp] at i1; (have oc:=Option.some.inj i1; clear i1; subst oc)
  obtain ⟨hh,g,dr,tk,os⟩:=s
  refine wpAny_call_obj_init PySem.F.objNew hCl hN i2 i4 i5 λh' x D Mk=>?_
  have hxC:x≠SF.rule:=λq=>by have:=Mk.newX; rw[q] at this; rw[this] at hCl; exact nN hCl
  have kM:K hh h':=.of Mk.keeps
  refine vD (i3.k kM) λo fd ho hd hbd i hgl hcl hbl hcr hcode z hco hgen u=>?_
  rw[n] at z
  refine aa (hroom.at hf) λr1 r2=>?_
  have ge':GE fns h':=ge.k kM
  have K0fp:∀ y q,σ y=some q->y ∈ "self" :: fn.params/\∃ V v,q=mk V/\(("self" :: fn.params).zip (.ref x::vals)).lookup y=some v/\RV h' v V (fp y)/\∀ a∈fp y,P a:=λy q hq=>by
   refine aa (hfp y q hq) λh1 j=>?_
   refine bg (j) λV v h2 h3 h4 h5=>?_
   clear j
   have hys:y ≠ "self" := λe=>by
    rw[n] at hnd
    exact (nodup_cons.mp hnd).1 (e▸h1)
   refine (aH (.tail _ h1) (bF V v h2 ?_ (h4.k kM) (λa h=>ha a (h5 a h))))
   rw[zip_cons_cons,lookup_cons,beq_eq_false_iff_ne.mpr hys]
   exact h3
  have hu:(A.under (.builtin "type.__call__" ⟨.ref SF.rule::vals,[]⟩)).units<=A.units+50:=by
   have:(Code.builtin "type.__call__" ⟨.ref SF.rule::vals,[]⟩).cUnits<=50:=by
    have:(Code.builtin "type.__call__" ⟨.ref SF.rule::vals,[]⟩).cUnits=1+3*(Code.builtin "type.__call__" ⟨.ref SF.rule::vals,[]⟩).frames:=rfl
    rw[this]
    have:(Code.builtin "type.__call__" ⟨.ref SF.rule::vals,[]⟩).frames<=1:=by first | exact le_refl _ | exact zero_le _
    exact GH this
   show A.units+_<=_
   exact F7 this
  refine wpAny_call (sE (s:=⟨h',g,dr,tk,os⟩) (A:=A.under (.builtin "type.__call__" ⟨.ref SF.rule::vals,[]⟩)) (by rw[depth_under_make]; exact GU r1) ho hd (la ge.nolim kM) hcr hbd (z (.ref x::vals) (by rw[length_cons,length_cons,hlen])) hcl (mT i (λy hy=>hbk y (n▸hy))) (λs₁ X=>?_) hco hgen u)
  refine bj (X.x.toInCall.same) λh₁ tka Lf=>?_
  subst Lf
  have t:=X.x.toInCall.keep
  have KS:=po (k:=k) (ft:=p.2) (fa:=p.1) (σ:=σ) (pn:="self" :: fn.params) (pv:=.ref x::vals) (fp:=fp) (P:=P) (s:=⟨h',g,dr,tk,os⟩) hf (n▸hnd) (λy hy=>hbk y (n▸hy)) hfree (A:=A.under (.builtin "type.__call__" ⟨.ref SF.rule::vals,[]⟩)) hroom.1 (by rw[depth_under_make]; exact Je r1) (lt_of_le_of_lt (JN hu) r2) (by
   refine ae (hfr) λl e1 e2=>?_
   clear hfr
   exact (af l e1 (e2.k kM))) ge' i hgl hbl u hcode X K0fp
  have hsplit:p.2.body=p.2.body.take (p.2.body.length-3)++[a3,b3,c3]:=by rw[<- hl3]; exact (List.take_append_drop _ _).symm
  rw[hsplit,o9]
  refine wpAny_bind ?_
  have okb:cu (callEnvC fd h'.objs.size p.1).scope.names fn.body (p.2.body.take (p.2.body.length-3))=true:=by show cu fd.scope.names fn.body _=true; rw[i]; exact hbody
  cases hex:exs C fn.body σ with
  | bad=>exact absurd (xN hσ hex) nb
  | exc c=>
   refine oG (fns:={fns with lam:=p.2.lam }) hf hC fn.body okb KS hex λx s' st lv ex=>?_
   have kp:Kp ⟨h',g,dr,tk,os⟩ s':=by
    refine au (st) λhb tk' Lg kk=>?_
    clear st
    (clear ex lv; subst Lg)
    exact (aC hb tk' rfl (Internal.K.step (Internal.K.of t) kk λb o e=>⟨o,e⟩))
   exact rC kp lv ex λs'' X=>hE c (yN hσ hex) x s'' (.of (aC h' tk rfl kM) X)
  | ok o=>
  obtain ⟨σ',fl⟩:=o
  cases fl with
  | ret q=>exact absurd (zj hσ hex) nb
  | next=>
  cases hfl:fZ σ' with
  | bad=>exact absurd ((oY hσ hex).trans hfl) nb
  | exc c=>
   exact (wd hfl).elim
  | ok r=>
  replace hQ:=hQ r ((oY hσ hex).trans hfl)
  refine gv (uy hfl) λci mc rows ys er hc1 hf1 hf4=>?_
  refine pd (fns:={fns with lam:=p.2.lam }) hf hC fn.body okb KS hex (λuu s' vals' fp' st K' F=>?_) λq e=>by cases e
  refine au (st) λhs' tk' Lh kgs=>?_
  (clear st; subst Lh)
  rw[er] at hQ
  have R0:=ge.cls (.inr (by rw[hp]; rfl))
  refine w9 (fns:={fns with lam:=p.2.lam }) C hf Mk hxC (Internal.K.step (Internal.K.of t) kgs λb o e=>⟨o,e⟩) (ge.flag _ _) R0 hlam K' ?_ ?_ hc1 hf1 hf4 (by show fC fd.scope.names _ _ _=true; rw[i]; exact o1) (by show fC fd.scope.names _ _ _=true; rw[i]; exact o2) (by show fC fd.scope.names _ _ _=true; rw[i]; exact o3) λs' E=>⟨rfl,hQ _ _ E⟩
  ·refine ae (hfr) λl' f1 f2=>?_
   exact (af l' (Around.frames_deeper (A:=A.under (.builtin "type.__call__" ⟨.ref SF.rule::vals,[]⟩)) f1) f2)
  ·rw[(F.1 "self" hself).1]
   show (("self" :: fn.params).zip (Value.ref x::vals)).lookup "self" = _
   rw[zip_cons_cons,lookup_cons,beq_self_eq_true]
end
section
noncomputable def zM (fns:Fns) (L:List (String×Fn)):Prop:=∀ f fn,L.lookup f=some fn->(f∈aV->f∈SF.excN)/\(f∉aV->if f = "Rule" then ∃ p,fns.init=some p/\okI p.2 fn=true else if f∈methNames then ∃ p,fns.mth f=some p/\okF p.2 fn=true/\p.2.lam=false else ∃ p,fns.fn f=some p/\okF p.2 fn=true/\p.2.lam=true)
theorem BQ (h:okI ft f=true):ft.lam=false:=by
 unfold okI at h
 simp only[and_eq_true,Bool.not_eq_true'] at h
 exact h.2
theorem vA (hf:fns.hand=false) (hL:zM fns L):∀ n,cr {fns with lam:=true } n (mkC L n) XPc/\cr {fns with lam:=false } n (aM (mkC L n)) XPc
 | 0=>⟨(λf g h=>by cases h),λf g h=>by
  unfold aM at h
  split at h<;>cases h⟩
 | n+1=>by
  refine aa (vA hf hL n) λi1 i2=>?_
  have u:∀ (b:Bool) (f:String) (g:List V->Out (V×Mode)),mkC L (n+1) f=some g->(f∈aV->f∈SF.excN)/\(f∉aV->∃ a,adr {fns with lam:=b } f=some a/\∀ {A:Around}{P:Addr->Prop}{s:Shared}{Q:Value->Shared->Prop}{Er:Value->Shared->Prop}{j:List V}{vals:List Value}{as:List Addr},
    Room fns.hand (n+1) A->(∃ l,A.frames=some l/\FrOk s.heap l)->GE {fns with lam:=b } s.heap->RVs s.heap j vals as->(∀ a∈as,P a)->g j≠.bad->(∀ r,g j = .ok r->∀ v s',EP P s r v s'->Q v s')->(∀ c,g j = .exc c->∀ x s',XPc c s x s'->Er x s') ->
    wpAny (model prog w) A (call (.ref a) vals []) Q Er s):=λb f g h=>by
   refine bl (show (L.lookup f).map (λfn vs=>cC f (mkC L n) fn vs)=some g from h) λfn hfn K9=>?_
   (clear h; subst K9)
   refine aa (hL f fn hfn) λh1 m=>?_
   refine ⟨h1,λhe=>?_⟩
   replace m:=m he
   by_cases hr:f = "Rule"
   ·rw[if_pos hr] at m
    refine ae (m) λp t k=>?_
    clear m
    refine (af SF.rule (by unfold adr; rw[if_pos hr]; show (fns.init).map _=_; rw[t]; rfl) (λi fr y z ha o hQ hE=>?_))
    have hk:∀ j,cC f (mkC L n) fn j=di (aM (mkC L n)) fn j:=λj=>by unfold cC; rw[if_pos hr]
    dsimp only at o
    rw[hk] at o
    refine wI (fns:={fns with lam:=b }) hf (p:=p) t (by rw[BQ k]; exact i2) k i fr y z ha o (λr e=>hQ r ((hk _).trans e)) λc e=>hE c ((hk _).trans e)
   ·rw[if_neg hr] at m
    by_cases hm:f∈methNames
    ·rw[if_pos hm] at m
     refine am (m) λp t k hl=>?_
     clear m
     refine (af p.1 (by rw[s5 hr hm]; show (fns.mth f).map _=_; rw[t]; rfl) (λi fr y z ha o hQ hE=>?_))
     have hk:∀ j,cC f (mkC L n) fn j=aD (aM (mkC L n)) fn j:=λj=>by unfold cC; rw[if_neg hr,if_pos hm]
     dsimp only at o
     rw[hk] at o
     refine bg (y.cls (.inl (bn f p t))) λuu uu uu uu uu hmt=>?_
     refine am (hmt f p t) λuu uu hat _=>?_
     exact nA (fns:={fns with lam:=b }) hf (ft:=p.2) (by rw[hl]; exact i2) k i fr y hat z ha o (λr e=>hQ r ((hk _).trans e)) λc e=>hE c ((hk _).trans e)
    ·rw[if_neg hm] at m
     refine am (m) λp t k hl=>?_
     clear m
     refine (af p.1 (by rw[wu hr hm]; show (fns.fn f).map _=_; rw[t]; rfl) (λi fr y z ha o hQ hE=>?_))
     have hk:∀ j,cC f (mkC L n) fn j=aD (mkC L n) fn j:=λj=>by unfold cC; rw[if_neg hr,if_neg hm]
     dsimp only at o
     rw[hk] at o
     exact nA (fns:={fns with lam:=b }) hf (ft:=p.2) (by rw[hl]; exact i1) k i fr y (y.funs f p t) z ha o (λr e=>hQ r ((hk _).trans e)) λc e=>hE c ((hk _).trans e)
  refine ⟨λf g h=>⟨le_add_left 1 n,λuu=>rfl,u true f g h⟩,λf g h=>?_⟩
  unfold aM at h
  split at h
  ·exact nN h
  ·rename_i hn
   exact ⟨le_add_left 1 n,λq=>absurd q hn,u false f g h⟩
end
noncomputable def cB (p:Program) (loose:List Str) (mg mN:Str->Option Value) (L:List (String×Fn)):Fns where
 fn f:=if f = "Rule" \/ f∈methNames\/f∈aV then none else (L.lookup f).bind λfn=>((recsOf p).find? λd=>d.name==Str.ofString f).bind λd=>(hM (mg (Str.ofString f))).map λa=>(a,⟨fn.params,d.body,d.scope,true⟩)
 mth m:=if m∈methNames then (L.lookup m).bind λfn=>(eG p loose m).bind λr=>(hM (mN (Str.ofString m))).map λa=>(a,⟨fn.params,r.body,r.scope,false⟩) else none
 init:=(L.lookup "Rule").bind λfn=>(eG p loose "__init__").bind λr=>(hM (mN "__init__")).map λa=>(a,⟨"self" :: fn.params,r.body,r.scope,false⟩)
 lam:=true
 hand:=false
theorem iR:∀ {l:List (String×α)}{x:String}{v:α},l.lookup x=some v->(x,v)∈l
 | (y,u)::l,x,v,h=>by
  rw[lookup_cons] at h
  split at h
  ·rename_i e; (have g:=Option.some.inj h; clear h; subst g); rw[beq_iff_eq.mp e]; exact .head _
  ·exact .tail _ (iR h)
theorem um {ps:List String}(h:ps.Nodup):(ps.map Str.ofString).Nodup:=pairwise_map.mpr (List.Pairwise.imp (λh e=>h (cy e)) h)
theorem sY {ps:List String}(h:gW fd.params ps=true) (hd:fd.defaults = .none) (hn:ps.Nodup) (vals:List Value) (hl:vals.length=ps.length):bindArgs fd ⟨vals,[]⟩=pure ((ps.map Str.ofString).zip vals):=by
 unfold gW at h
 simp only[and_eq_true,beq_iff_eq,isEmpty_iff,isNone_iff_eq_none] at h
 refine aa (h) λj k=>?_
 clear h
 refine aa (j) λi l=>?_
 clear j
 refine aa (i) λg m=>?_
 clear i
 refine aa (g) λo n=>?_
 clear g
 exact mq o n m l k hd (um hn) (by rw[length_map]; exact hl)
theorem ot (h:okF ft f=true):f.params.Nodup:=by
 unfold okF at h
 simp only[and_eq_true,decide_eq_true_eq] at h
 exact h.1.1.2
theorem wV (h:okI ft f=true):ft.params.Nodup:=by
 unfold okI at h
 simp only[and_eq_true,decide_eq_true_eq] at h
 exact h.1.1.1.1.1.2
theorem mH (h:gX sc=true):sc.isCoroutine=false/\sc.isGenerator=false/\sc.kind = .function:=by
 unfold gX at h
 simp only[and_eq_true,Bool.not_eq_true',beq_iff_eq] at h
 exact ⟨h.1.1,h.1.2,h.2⟩
section
theorem HB (hS:∀ c P,h.TableAt c P #[]->SF.tab P) (T:Top p loose mean mg mb h) {f:String}{ps:List String}{d:DefRec}(hd:(recsOf p).find? (λd=>d.name==Str.ofString f)=some d) (hn:ps.Nodup) (h1:gW d.params ps=true) (h2:gX d.scope=true) :
  ∃ a,mg (Str.ofString f)=some (.ref a)/\FnAt h ⟨ps,d.body,d.scope,true⟩ a:=by
 have y:=List.mem_of_find?_eq_some hd
 have j:=List.find?_some hd
 simp only[beq_iff_eq] at j
 refine ny (T.fn d y) λa o pm k doc x v u t=>?_
 have g:CodeOk h k d.name:=by
  refine Cu (T.tab d y) λa' o' fd c P r l n u4 z m=>?_
  rw[x] at r; cases r
  rw[v] at l; (have oc:=Option.some.inj l; clear l; subst oc)
  rw[u] at n; cases n
  exact ⟨c,P,#[],u4,t,z,m,⟨trivial,λpos cv q=>by cases q⟩,hS c P m⟩
 refine aG (mH h2) λh7 h8 h9=>?_
 exact ⟨a,by rw[<- j]; exact x,o,_,v,u,rfl,rfl,rfl,rfl,rfl,t,λuu=>g,λi hl=>sY h1 rfl hn i hl,h7,h8,h9⟩
theorem sV (P:PlainAt h c C N mN) {ps:List String}(hr:c.meths.find? (λr=>r.name==Str.ofString m)=some r) (hn:ps.Nodup) (h1:gW r.params ps=true) (h2:gX r.scope=true) :
  ∃ a o,mN (Str.ofString m)=some (.ref a)/\FnAt h ⟨ps,r.body,r.scope,false⟩ a/\h.get? a=some o/\o.cls = .type "function" := by
 have i:=List.find?_some hr
 simp only[beq_iff_eq] at i
 refine wl (P.meths r (List.mem_of_find?_eq_some hr)) λa o z cd y p j n l k=>?_
 refine aG (mH h2) λx v u=>?_
 exact ⟨a,o,by rw[<- i]; exact p,⟨o,_,j,l,rfl,rfl,rfl,rfl,rfl,k,(λq=>by cases q),λg t=>sY h1 rfl hn g t,x,v,u⟩,j,n⟩
theorem B7 (TE:TopE p loose mg h) (Y:iF (bI L) h) (T:Top p loose mean mg mb h) (hr:(gK p loose).isSome=true):∃ c C N mN,gK p loose=some c/\mg "Rule" = some (.ref C)/\PlainAt h c C N mN/\∀ n∈fieldNames,mN (Str.ofString n)=none:=by
 refine bP hr λc k=>?_
 have x:=List.mem_of_find?_eq_some k
 have m:=List.find?_some k
 simp only[beq_iff_eq] at m
 refine bz (TE c x) λC N mN l P=>?_
 rw[m] at l
 refine ⟨c,C,N,mN,k,l,P.ofCmp,λn z=>?_⟩
 obtain ⟨i,g',ad,_,_,C',o,cd,j,b1,t,b3,b4,b5⟩:=Y
 have y:i=mg:=g'.eq_nsMap.trans T.g.eq_nsMap.symm
 (clear T TE; subst y)
 have r:i "Rule" = some (.ref C):=l
 rw[b1] at r; cases r
 refine eH (P.cls.obj) λnm q bs sn u col dd k0 k1 k2 k3 k5 e=>?_
 rw[t] at e; (have v:=Option.some.inj e; clear e; (clear t; subst v))
 cases b3
 have hN:j=mN:=b4.eq_nsMap.trans P.cls.ns.eq_nsMap.symm
 rw[<- hN]
 exact b5 n z
theorem CA (Y:iF (bI L) h) (T:Top p loose mean mg mb h) (ht:nu p loose L=true) {ad:String->Addr}(had:∀ c∈bI L,mg (Str.ofString c)=some (.ref (ad c))) (hP:bI L=[] \/ "PickError" ∈ bI L) (hSF:∀ c,SF.exc c=ad c) :
  (∀ c∈bI L,ExcAt h c)/\∀ c∈bI L,∀ c' ∈ "PickError" :: bI L,ad c=ad c'->c=c':=by
 obtain ⟨mg',g',m,a1,a2,_⟩:=Y
 have hg:mg' = mg:=g'.eq_nsMap.trans T.g.eq_nsMap.symm
 subst hg
 have t:∀ c∈bI L,m c=ad c:=λc i=>by
  refine au (a1 c i) λuu uu q _=>?_
  rw[had c i] at q
  exact (Value.ref.inj (Option.some.inj q)).symm
 refine ⟨λc i=>?_,λc i c' hc' q=>?_⟩
 ·have l : "PickError" ∈ bI L:=hP.resolve_left λq=>by rw[q] at i; cases i
  refine bg (a1 c i) λo cd b1 v b3 u=>?_
  refine xt i λr hce=>?_
  refine bG r λz hq y=>?_
  obtain ⟨f,fn⟩:=z
  (clear r; subst y)
  have k:=all_eq_true.mp ht _ hq
  unfold jm at k
  rw[if_pos (of_decide_eq_true hce),beq_iff_eq] at k
  refine ae (T.ownAt k) λC O _=>?_
  obtain ⟨bm,N,nm,q,bs,n,sn,x,ab,col,dd,k0,k1,k2,k3,k5,mN,c1,c2,c3,c4⟩:=O.obj
  have eC:=O.bound
  rw[b1] at eC; cases eC
  rw[v] at c1; (have oc:=Option.some.inj c1; clear c1; subst oc)
  cases b3
  dsimp only at u
  injection u with _ u
  have e1:SF.exc f=m f:=by rw[hSF,t f i]
  have e2:SF.exc "PickError" = m "PickError" := by rw[hSF,t _ l]
  have e3:bm=dR f:=by rw[u]; unfold dR; rw[e2]
  subst e3
  rw[<- e1] at v
  exact ⟨N,nm,q,bs,n,sn,x,ab,col,dd,k0,k1,k2,k3,k5,mN,by rw[e1] at v ⊢; exact v,c2,c3 _ (.head _),c4.tail⟩
 ·have l : "PickError" ∈ bI L:=hP.resolve_left λq=>by rw[q] at i; cases i
  have j:c'∈bI L:=(mem_cons.mp hc').elim (λq=>q▸l) id
  exact a2 c i c' j (by rw[t c i,t c' j]; exact q)
theorem Bv (Y:iF (bI L) h) (T:Top p loose mean mg mb h):∀ c∈bI L,∃ a,mg (Str.ofString c)=some (.ref a):=λc k=>by
 obtain ⟨i,l,m,n,_⟩:=Y
 have j:i=mg:=l.eq_nsMap.trans T.g.eq_nsMap.symm
 (clear T; subst j)
 refine au (n c k) λuu uu q _=>?_
 exact ⟨_,q⟩
theorem nZ (ht:nu p loose L=true) (hf:L.lookup f=some fn):jm p loose f fn=true:=all_eq_true.mp ht _ (iR hf)
theorem yX (hf:L.lookup f=some fn) (he:f∈aV):f∈bI L:=mem_filter.mpr ⟨mem_map.mpr ⟨_,iR hf,rfl⟩,decide_eq_true he⟩
theorem wD (hS:∀ c P,h.TableAt c P #[]->SF.tab P) (hO:∀ b,SF.old b->∃ o,h.get? b=some o) (T:Top p loose mean mg mb h) (TE:TopE p loose mg h) (Y:iF (bI L) h) (ht:nu p loose L=true) (hb:x5 p loose=true) (hr:(gK p loose).isSome=true) (hL:(L.lookup "Rule").isSome=true) (hP:bI L=[] \/ "PickError" ∈ bI L)
  (hN:SF.excN=bI L) (hA:∀ c,SF.exc c=((hM (mg (Str.ofString c))).getD 0)) (hR:SF.rule=(hM (mg "Rule")).getD 0):∃ mN,GE (cB p loose mg mN L) h/\zM (cB p loose mg mN L) L:=by
 refine gv (B7 TE Y T hr) λc C N mN hc hC Pl t=>?_
 have eR:SF.rule=C:=by rw[hR,hC]; rfl
 have had:∀ c∈bI L,mg (Str.ofString c)=some (.ref (SF.exc c)):=λc hc=>by
  refine ai (Bv Y T c hc) λa e=>?_
  rw[hA,e]; rfl
 refine aa (CA Y T ht (ad:=SF.exc) had hP λuu=>rfl) λx1 x2=>?_
 have mrec:∀ m,eG p loose m=c.meths.find? λr=>r.name==Str.ofString m:=λm=>by unfold eG; rw[hc]; rfl
 have tM:∀ m fn,L.lookup m=some fn->m∈methNames->∃ a o r,eG p loose m=some r/\mN (Str.ofString m)=some (.ref a)/\FnAt h ⟨fn.params,r.body,r.scope,false⟩ a/\h.get? a=some o/\o.cls = .type "function" /\ okF ⟨fn.params,r.body,r.scope,false⟩ fn=true:=λm fn hm hmm=>by
  have i:=nZ ht hm
  have n1:m∉aV:=λq=>by
   simp only[methNames,mem_cons,not_mem_nil,or_false] at hmm
   rcases hmm with rfl | rfl | rfl | rfl | rfl<;>revert q<;>decide
  have n2:m ≠ "Rule" := λq=>by (clear i hm n1; subst q); revert hmm; decide
  unfold jm at i
  rw[if_neg n1,if_neg n2,if_pos hmm] at i
  refine aj i λr hr i=>?_
  simp only[and_eq_true] at i
  refine bg (sV Pl ((mrec m).symm.trans hr) (ot i.1.1) i.1.2 i.2) λa o u l v z=>?_
  exact ⟨a,o,r,hr,u,l,v,z,i.1.1⟩
 have tI:∀ fn,L.lookup "Rule" = some fn->∃ a o r,eG p loose "__init__" = some r/\mN "__init__" = some (.ref a)/\FnAt h ⟨"self" :: fn.params,r.body,r.scope,false⟩ a/\h.get? a=some o/\o.cls = .type "function" /\ okI ⟨"self" :: fn.params,r.body,r.scope,false⟩ fn=true:=λfn hm=>by
  have i:=nZ ht hm
  unfold jm at i
  rw[if_neg (by decide),if_pos rfl] at i
  refine aj i λr hr i=>?_
  simp only[and_eq_true] at i
  refine bg (sV Pl (ps:="self" :: fn.params) ((mrec "__init__").symm.trans hr) (wV i.1.1) i.1.2 i.2) λa o u l v z=>?_
  exact ⟨a,o,r,hr,u,l,v,z,i.1.1⟩
 have tF:∀ f fn,L.lookup f=some fn->¬ (f = "Rule" \/ f∈methNames\/f∈aV)->∃ a d,(recsOf p).find? (λd=>d.name==Str.ofString f)=some d/\mg (Str.ofString f)=some (.ref a)/\FnAt h ⟨fn.params,d.body,d.scope,true⟩ a/\okF ⟨fn.params,d.body,d.scope,true⟩ fn=true:=λf fn hm y=>by
  have i:=nZ ht hm
  unfold jm at i
  rw[if_neg (λq=>y (.inr (.inr q))),if_neg (λq=>y (.inl q)),if_neg (λq=>y (.inr (.inl q)))] at i
  refine aj i λd hd i=>?_
  simp only[and_eq_true] at i
  refine ae (HB hS T hd (ot i.1.1) i.1.2 i.2) λa u l=>?_
  exact ⟨a,d,hd,u,l,i.1.1⟩
 have gF:∀ f k,(cB p loose mg mN L).fn f=some k->¬ (f = "Rule" \/ f∈methNames\/f∈aV)/\mg (Str.ofString f)=some (.ref k.1)/\FnAt h k.2 k.1:=λf k j=>by
  simp only[cB] at j
  split at j
  ·exact nN j
  ·rename_i y
   refine bk j λfn t j=>?_
   refine bg (tF f fn t y) λa d u l v _=>?_
   rw[u,l] at j
   (have oc:=Option.some.inj j; clear j; subst oc)
   exact ⟨y,l,v⟩
 have gM:∀ m k,(cB p loose mg mN L).mth m=some k->m∈methNames/\∃ o,mN (Str.ofString m)=some (.ref k.1)/\FnAt h k.2 k.1/\h.get? k.1=some o/\o.cls = .type "function" := λm k j=>by
  simp only[cB] at j
  split at j
  ·rename_i y
   refine bk j λfn t j=>?_
   refine cW (tM m fn t y) λa o r u l v z e5 _=>?_
   rw[u,l] at j
   (have oc:=Option.some.inj j; clear j; subst oc)
   exact ⟨y,o,l,v,z,e5⟩
  ·exact nN j
 have gI:∀ k,(cB p loose mg mN L).init=some k->∃ o,mN "__init__" = some (.ref k.1)/\FnAt h k.2 k.1/\h.get? k.1=some o/\o.cls = .type "function" := λk j=>by
  simp only[cB] at j
  refine bk j λfn t j=>?_
  refine cW (tI fn t) λa o r u l v z e5 _=>?_
  rw[u,l] at j
  (have oc:=Option.some.inj j; clear j; subst oc)
  exact ⟨o,l,v,z,e5⟩
 refine ⟨mN,⟨⟨mg,T.g,λf a hf hq=>?_,λx hx=>?_⟩,λf k j=>(gF f k j).2.2,λuu=>?_,⟨mb,T.b,λx hx=>?_⟩,T.nolimit,hO,⟨mg,T.g,λc hc=>?_,?_⟩,z7 (T.bmain) λbm ob a b c d e f=>⟨mg,bm,ob,T.g,a,b,c,d,e,f⟩⟩,λf fn hf=>⟨λhe=>by rw[hN]; exact yX hf he,λhe=>?_⟩⟩
 ·unfold adr at hq
  by_cases i:f = "Rule"
  ·rw[if_pos i] at hq
   refine bl hq λuu uu K6=>?_
   subst K6
   rw[i,eR]; exact hC
  ·rw[if_neg i,if_neg hf] at hq
   refine bl hq λk j K3=>?_
   subst K3
   exact (gF f k j).2.1
 ·have:=all_eq_true.mp hb x hx
  simp only[and_eq_true,Bool.not_eq_true',List.contains_eq_mem,decide_eq_false_iff_not] at this
  refine aa (this) λLa h5=>?_
  clear this
  refine aa (La) λLe h4=>?_
  clear La
  refine aa (Le) λLb h3=>?_
  clear Le
  refine aa (Lb) λi h2=>?_
  clear Lb
  exact T.free _ i h2 h3 h4 h5
 ·refine bP hL λfn hfn'=>?_
  refine cW (tI fn hfn') λa o r u l v z e5 _=>?_
  refine ⟨N,mN,eR▸Pl.cls,λn y=>?_,⟨(a,⟨"self" :: fn.params,r.body,r.scope,false⟩),o,?_,l,v,z,e5⟩,λm k j=>(gM m k j).2⟩
  ·simp only[mem_cons,not_mem_nil,or_false] at y
   rcases y with rfl | rfl | rfl | rfl | rfl | rfl
   ·exact Pl.quiet _ (mem_append_left _ (.head _))
   ·exact Pl.quiet _ (mem_append_left _ (.tail _ (.head _)))
   ·exact Pl.quiet _ (mem_append_left _ (.tail _ (.tail _ (.head _))))
   ·exact t _ (.head _)
   ·exact t _ (.tail _ (.head _))
   ·exact t _ (.tail _ (.tail _ (.head _)))
  ·simp only[cB,hfn',u,l,bind_some,hM,map_some]
 ·simp only[bnames,mem_cons,not_mem_nil,or_false] at hx
  rcases hx with rfl | rfl | rfl | rfl | rfl | rfl | rfl | rfl | rfl | rfl | rfl | rfl<;>(rw[T.builtins _ (by decide +kernel)]; kernel_rfl)
 ·rw[hN] at hc
  exact ⟨had c hc,x1 c hc⟩
 ·rw[hN]; exact x2
 ·by_cases i:f = "Rule"
  ·rw[if_pos i]
   (clear he; subst i)
   refine cW (tI fn hf) λa o r u l v z e5 e6=>?_
   exact ⟨(a,⟨"self" :: fn.params,r.body,r.scope,false⟩),by simp only[cB,hf,u,l,bind_some,hM,map_some],e6⟩
  ·rw[if_neg i]
   by_cases h2:f∈methNames
   ·rw[if_pos h2]
    refine cW (tM f fn hf h2) λa o r u l v z e5 e6=>?_
    exact ⟨(a,⟨fn.params,r.body,r.scope,false⟩),by simp only[cB,if_pos h2,hf,u,l,bind_some,hM,map_some],e6,rfl⟩
   ·rw[if_neg h2]
    refine bg (tF f fn hf λq=>q.elim i λq=>q.elim h2 he) λa d u l v e6=>?_
    exact ⟨(a,⟨fn.params,d.body,d.scope,true⟩),by simp only[cB,if_neg (show ¬ (f = "Rule" \/ f∈methNames\/f∈aV) from λq=>q.elim i λq=>q.elim h2 he),hf,u,l,bind_some,hM,map_some],e6,rfl⟩
theorem sf (h:n<=60):Room false n callerA:=⟨λuu=>rfl,by show 1+claimMargin+2*n+4<recursionLimit; unfold claimMargin recursionLimit; exact Ib h,by show 4+100*n+300<cLine; unfold cLine; exact F6 h⟩
theorem Db:rz gl:=by
 intro p g mean mg mb L s fn fa a n ns vs m Q Er i T TE Y ht hb hr hL hP hf hmg hn j ea hI hlen hQ
 replace i:SF=qC mg L s.heap:=i
 show wpAny (model prog w) callerA (call (.ref fa) [.ref a]) Q Er s
 refine ae (wD (λc P x=>by rw[i]; exact ⟨c,x⟩) (λb hb=>by rw[i] at hb; exact hb) T TE Y ht hb hr hL hP (by rw[i]; rfl) (λuu=>by rw[i]; rfl) (by rw[i]; rfl)) λmN ge tab=>?_
 obtain ⟨k,hp,hok,z⟩:∃ k,(cB p g mg mN L).fn "law" = some k/\okF k.2 fn=true/\k.2.lam=true:=(tab "law" fn hf).2 (by decide)
 have ha:k.1=fa:=by
  have:(cB p g mg mN L).fn "law" = some k:=hp
  simp only[cB] at this
  rw[if_neg (by decide),hf] at this
  refine bk (show ((recsOf p).find? _).bind _=some k from this) λd _ this=>?_
  rw[hmg] at this
  (have oc:=Option.some.inj this; clear this; (clear z hok hp; subst oc)); rfl
 have hC:cr { (cB p g mg mN L) with lam:=k.2.lam } n (mkC L n) XPc:=by rw[z]; exact (vA (fns:=cB p g mg mN L) rfl tab n).1
 have rs:RVs s.heap [.d (ac ns)] [.ref a] ([a]++[]):=by
  refine .cons ⟨.list ea (RA.of_ints hI),?_⟩ .nil
  exact sz_list.mpr ⟨by rw[length_map]; exact hlen,jF ns⟩
 have hat:FnAt s.heap k.2 fa:=ha▸ge.funs "law" k hp
 refine nA (fns:=cB p g mg mN L) (P:=λuu=>True) rfl hC hok (sf (GJ hn)) ⟨[],rfl,λuu h=>nomatch h⟩ ge hat rs (λuu uu=>trivial) (by rw[j]; simp) (λr hr v s' E=>?_) λc hc=>by rw[j] at hc; cases hc
 rw[j] at hr; (have oc:=Out.ok.inj hr; clear hr; subst oc)
 obtain ⟨y,as,u,_⟩:=E
 refine au (y) λh' tk Lh kp=>?_
 clear y
 subst Lh
 refine aa (u) λr _=>?_
 clear u
 cases r
 refine hQ h' tk ⟨λb o e=>?_,λb o e=>K.there kp e⟩
 refine ae (kp b o (.inl trivial) e) λo' e' l=>?_
 cases l with
 | same q=>exact .inl (q▸e')
 | tab ps more q1 q2 q3 _=>
  rw[i] at q1; revert q1; intro t
  refine ai (t) λc q1=>?_
  clear t
  (clear e; subst q2 q3)
  exact .inr (.inl ⟨q1.isCodeTable,rfl,ps,more,rfl,e'⟩)
 | frame es ep q1 _ _ _ _ _=>rw[i] at q1; exact absurd ⟨o,e⟩ q1
end
theorem tC {P:Params}{h:Heap}{a:Addr}{vs:List Value}{xs:List W.WData}(x:W.Well P h (.ref a) (.list xs)) (hL:h.IsList a vs.toArray):h.get? a=some {cls:=.type "list", data:=.seq vs.toArray }:=by
 obtain ⟨o,e,j,n,g⟩:=hL
 cases x with
 | list e' _=>
  rw[e] at e'; (have i:=Option.some.inj e'; clear e'; (clear j; subst i))
  dsimp only at g
  injection g with h1 h2
  rw[e,h1]
theorem yZ {w:World}{prog:Program}(T:Top p loose mean mg mb s.heap) (TE:TopE p loose mg s.heap) (Y:iF (bI L) s.heap) (ht:nu p loose L=true) (hb:x5 p loose=true) (hr:(gK p loose).isSome=true) (hL:(L.lookup "Rule").isSome=true) (hP:bI L=[] \/ "PickError" ∈ bI L)
  (hf:L.lookup "law" = some fn) (hmg:mg (Str.ofString "law")=some (.ref fa)) (hn:n<=50) (hrun:aD (mkC L n) fn [.d (ac ns)] = .ok (.d (.bool true),m)) (ea:s.heap.get? a=some {cls:=.type "list", data:=.seq vs.toArray }) (hI:IntsAre vs ns) (hlen:ns.length<=2^22)
  (hQ:∀ h' tk,OldK s.heap h'->Q (.bool true) {s with heap:=h',toks:=tk }):wpAny (model prog w) callerA (call (.ref fa) [.ref a]) Q Er s :=
 C0 Db ⟨prog,w,qC mg L s.heap⟩ rfl T TE Y ht hb hr hL hP hf hmg hn hrun ea hI hlen hQ
theorem iQ:∀ {xs:List PyData},(∀ x∈xs,x.depth<=n)->PyData.depthAll xs<=n
 | [],_=>by simp[PyData.depthAll]
 | x::xs,h=>by
  rw[PyData.depthAll]
  exact Nat.max_le.mpr ⟨h x (.head _),iQ λy g=>h y (.tail _ g)⟩
theorem gf:∀ {xs:List PyData},(∀ x∈xs,x.canLay0=true)->PyData.canLayAll0 xs=true
 | [],_=>by simp[PyData.canLayAll0]
 | x::xs,h=>by
  rw[PyData.canLayAll0,h x (.head _),gf λy g=>h y (.tail _ g)]; rfl
noncomputable def Low (n:Nat) (d:PyData):Prop:=d.canLay0=true/\d.depth<=n
theorem Low.okc (h:Low n d) (hn:n<=64:=by decide):okc d=true:=by
 unfold Internal.okc
 rw[h.1,decide_eq_true (le_trans h.2 hn)]; rfl
theorem Low.int (i:Int) (n:Nat):Low (n+1) (.int i):=⟨rfl,by simp[PyData.depth]⟩
theorem Low.list (h:∀ x∈xs,Low n x):Low (n+1) (.list xs) :=
 ⟨by rw[PyData.canLay0]; exact gf λx g=>(h x g).1,by rw[PyData.depth]; have:=iQ λx g=>(h x g).2; exact ld this⟩
theorem Low.tuple (h:∀ x∈xs,Low n x):Low (n+1) (.tuple xs) :=
 ⟨by rw[PyData.canLay0]; exact gf λx g=>(h x g).1,by rw[PyData.depth]; have:=iQ λx g=>(h x g).2; exact ld this⟩
theorem pZ (ns:List Int) (n:Nat):Low (n+2) (ac ns):=.list λx h=>by
 refine bG h λi _ g=>?_
 (clear h; subst g)
 exact .int i n
theorem BM (ns:List Int) (n:Nat):Low (n+2) (aK ns):=.tuple λx h=>by
 refine bG h λi _ g=>?_
 (clear h; subst g)
 exact .int i n
theorem xS (t:List (List Int)) (n:Nat):Low (n+3) (ah t):=.list λx h=>by
 refine bG h λi _ g=>?_
 (clear h; subst g)
 exact pZ i n
@[simp] theorem ji (i:Int):okc (.int i)=true:=(Low.int i 0).okc
@[simp] theorem Kh:okc .none=true:=rfl
@[simp] theorem du (ns:List Int):okc (ac ns)=true:=(pZ ns 0).okc
@[simp] theorem okc_ints' (ns:List Int):okc (.list (ns.map .int))=true:=du ns
@[simp] theorem fy (t:List (List Int)):okc (ah t)=true:=(xS t 0).okc
@[simp] theorem okc_rows' (t:List (List Int)):okc (.list (t.map ac))=true:=fy t
@[simp] theorem KP:okc (.list [])=true:=du []
@[simp] theorem oq (a b:Int):PyData.eqv (.int a) (.int b)=decide (a=b):=by
 rw[PyData.eqv]; by_cases h:a=b<;>simp[h]
theorem iM:∀ (a b:List Int),PyData.eqvAll (a.map .int) (b.map .int)=decide (a=b)
 | [],[]=>by simp[PyData.eqvAll]
 | [],y::b=>by simp[PyData.eqvAll]
 | x::a,[]=>by simp[PyData.eqvAll]
 | x::a,y::b=>by
  rw[map_cons,map_cons,PyData.eqvAll,iM a b,oq]
  by_cases h1:x=y<;>by_cases h2:a=b<;>simp[h1,h2]
@[simp] theorem g6 (a b:List Int):PyData.eqv (ac a) (ac b)=decide (a=b):=by
 unfold ac; rw[PyData.eqv]; exact iM a b
@[simp] theorem eqv_ints' (a b:List Int):PyData.eqv (.list (a.map .int)) (.list (b.map .int))=decide (a=b):=g6 a b
theorem lC:∀ (a b:List (List Int)),PyData.eqvAll (a.map ac) (b.map ac)=decide (a=b)
 | [],[]=>by simp[PyData.eqvAll]
 | [],y::b=>by simp[PyData.eqvAll]
 | x::a,[]=>by simp[PyData.eqvAll]
 | x::a,y::b=>by
  rw[map_cons,map_cons,PyData.eqvAll,lC a b,g6]
  by_cases h1:x=y<;>by_cases h2:a=b<;>simp[h1,h2]
@[simp] theorem rh (a b:List (List Int)):PyData.eqv (ah a) (ah b)=decide (a=b):=by
 unfold ah; rw[PyData.eqv]; exact lC a b
@[simp] theorem CZ (a:List Int):PyData.eqv (ac a) (.list [])=decide (a=[]):=g6 a []
@[simp] theorem pX (k:Int) (ns:List Int):inV (.int k) (.d (ac ns)) = .ok (decide (k∈ns)):=by
 show (if okc (.int k)&&okc (ac ns) then Out.ok ((ns.map PyData.int).any λy=>PyData.eqv y (.int k)) else .bad)=_
 rw[ji,du,if_pos (by decide)]
 congr 1
 rw[Bool.eq_iff_iff,List.any_map]
 simp[any_eq_true]
@[simp] theorem zi (k:List Int) (t:List (List Int)):inV (ac k) (.d (ah t)) = .ok (decide (k∈t)):=by
 show (if okc (ac k)&&okc (ah t) then Out.ok ((t.map ac).any λy=>PyData.eqv y (ac k)) else .bad)=_
 rw[du,fy,if_pos (by decide)]
 congr 1
 rw[Bool.eq_iff_iff,List.any_map]
 simp[any_eq_true]
@[simp] theorem dO:∀ ns:List Int,aJ (ns.map .int)=some ns
 | []=>rfl
 | i::ns=>by rw[map_cons,aJ,dO ns]; rfl
theorem v9 (ns:List Int):(ns.map PyData.int).all sx=true:=by rw[all_map,all_eq_true]; intro _ _; rfl
@[simp] theorem im (ns:List Int):fresh (ns.map .int) = .deep:=by unfold fresh; rw[v9]; rfl
@[simp] theorem wy (i:Int):mk (.d (.int i))=sI i:=rfl
@[simp] theorem KU (ns:List Int):mk (.d (ac ns))=(.d (ac ns),.sh):=rfl
theorem jE:∀ {ns:List Int},(∀ i∈ns,F (.int i) = .ok (if p i then some (sI (f i)) else none))->bx F (ns.map .int) = .ok (((ns.filter p).map f).map .int,true)
 | [],_=>rfl
 | i::ns,h=>by
  rw[map_cons,bx,h i (.head _),jE λj g=>h j (.tail _ g)]
  simp only[Out.ok_bind]
  cases hp:p i<;>simp[hp,sI,filter_cons]
theorem rX {F:PyData->Out (Option (V×Mode))}{f:Int->Int}{ns:List Int}(h:∀ i∈ns,F (.int i) = .ok (some (sI (f i)))):bx F (ns.map .int) = .ok ((ns.map f).map .int,true):=by
 have:=jE (p:=λuu=>true) (F:=F) (f:=f) (ns:=ns) λi g=>by simpa using h i g
 rwa [filter_eq_self.mpr (λuu uu=>rfl)] at this
theorem qd:∀ {l:List α},(∀ i∈l,F (e i) = .ok (some (sI (f i))))->bx F (l.map e) = .ok ((l.map f).map .int,true)
 | [],_=>rfl
 | i::l,h=>by
  rw[map_cons,bx,h i (.head _),qd λj g=>h j (.tail _ g)]
  rfl
theorem ki {α:Type}{F:PyData->Out (Option (V×Mode))}{e:α->PyData}{f:α->List Int}{p:α->Bool}{m:α->Mode}:∀ {l:List α},(∀ i∈l,F (e i) = .ok (if p i then some (.d (ac (f i)),m i) else none)) ->
  ∃ b,bx F (l.map e) = .ok (((l.filter p).map f).map ac,b)/\((∀ i∈l,m i = .deep)->b=true)
 | [],_=>(af true rfl (λuu=>rfl))
 | i::l,h=>by
  refine ae (ki (l:=l) λj g=>h j (.tail _ g)) λb n k=>?_
  rw[map_cons,bx,h i (.head _),n]
  simp only[Out.ok_bind]
  cases hp:p i
  ·exact (af b (by simp[hp,filter_cons]) (λq=>k λj g=>q j (.tail _ g)))
  ·refine (af (decide (m i = .deep)&&b) (by simp[hp,filter_cons]) (λq=>?_))
   rw[q i (.head _),k λj g=>q j (.tail _ g)]; rfl
theorem nw (a b:Int):cE a b=((List.range (b-a).toNat).map λ(k:Nat)=>a+(k:Int)).map .int:=by
 unfold cE; rw[map_map]; rfl
noncomputable def aF (n:Nat):List Int:=(List.range n).map λ(k:Nat)=>(k:Int)
theorem w6 {n:Nat}(h:n<=1000000):bE 0 n = .ok ((aF n).map .int,.deep):=by
 unfold bE
 rw[if_pos (bw (by unfold lim; exact Gg h) Ip I9 E6 (GA h)),nw]
 simp[aF]
theorem mem_upTo:i∈aF n↔0<=i/\i<n:=by
 unfold aF
 simp only[mem_map,List.mem_range]
 constructor
 ·rintro ⟨k,hk,rfl⟩; exact DS hk
 ·rintro ⟨g,h⟩; exact (af i.toNat (la1 g h) (D0 g))
theorem o0 (hk:be i xs.length=some k) (h:xs[k]? = some y):fk (.list xs) (.int i) = .ok (mk (.d y)):=by
 show (al ((be i xs.length).bind λk=>xs[k]?) λz=>Out.ok (mk (.d z)))=_
 rw[hk,bind_some,h]; rfl
theorem mG {i:Int}{n:Nat}(h0:0<=i) (h:i<n):be i n=some i.toNat:=by unfold be; rw[if_pos h0,if_pos h]
theorem wb (h0:0<=i) (h:ns[i.toNat]? = some x):fk (ac ns) (.int i) = .ok (sI x):=by
 have g:i.toNat<ns.length:=(List.getElem?_eq_some_iff.mp h).1
 exact o0 (mG h0 (by rw[length_map]; exact AK g)) (by rw[List.getElem?_map,h]; rfl)
section
variable (a b:Int) (xs ys:List Int) (t u:List (List Int)) (σ:St) (x y:String) (v:V×Mode)
@[simp] theorem KT:upd σ x v y=if y=x then some v else σ y:=rfl
@[simp] theorem cf (b:Bool):ao (.d (.bool b)) = .ok b:=rfl
@[simp] theorem K0:cM .lt (.d (.int a)) (.d (.int b)) = .ok (decide (a<b)):=rfl
@[simp] theorem KZ:cM .gt (.d (.int a)) (.d (.int b)) = .ok (decide (b<a)):=rfl
@[simp] theorem K1:cM .ge (.d (.int a)) (.d (.int b)) = .ok (decide (b<=a)):=rfl
@[simp] theorem CJ:cM .eq (.d (.int a)) (.d (.int b)) = .ok (decide (a=b)):=by
 show (if okc (.int a)&&okc (.int b) then Out.ok (PyData.eqv (.int a) (.int b)) else .bad)=_
 rw[ji,ji,oq,if_pos (by decide)]
@[simp] theorem CU:cM .ne (.d (.int a)) (.d (.int b)) = .ok (!decide (a=b)):=by
 show (if okc (.int a)&&okc (.int b) then Out.ok (!PyData.eqv (.int a) (.int b)) else .bad)=_
 rw[ji,ji,oq,if_pos (by decide)]
@[simp] theorem Bf:cM .eq (.d (ac xs)) (.d (ac ys)) = .ok (decide (xs=ys)):=by
 show (if okc (ac xs)&&okc (ac ys) then Out.ok (PyData.eqv (ac xs) (ac ys)) else .bad)=_
 rw[du,du,g6,if_pos (by decide)]
@[simp] theorem KO:cM .ne (.d (ac xs)) (.d (ac ys)) = .ok (!decide (xs=ys)):=by
 show (if okc (ac xs)&&okc (ac ys) then Out.ok (!PyData.eqv (ac xs) (ac ys)) else .bad)=_
 rw[du,du,g6,if_pos (by decide)]
@[simp] theorem KQ:cM .eq (.d (ah t)) (.d (ah u)) = .ok (decide (t=u)):=by
 show (if okc (ah t)&&okc (ah u) then Out.ok (PyData.eqv (ah t) (ah u)) else .bad)=_
 rw[fy,fy,rh,if_pos (by decide)]
@[simp] theorem Ce:cM .ne (.d (ah t)) (.d (ah u)) = .ok (!decide (t=u)):=by
 show (if okc (ah t)&&okc (ah u) then Out.ok (!PyData.eqv (ah t) (ah u)) else .bad)=_
 rw[fy,fy,rh,if_pos (by decide)]
@[simp] theorem De:cM .isin (.d (.int a)) (.d (ac xs)) = .ok (decide (a∈xs)):=pX a xs
@[simp] theorem Bo:cM .notin (.d (.int a)) (.d (ac xs)) = .ok (!decide (a∈xs)):=by
 show ((inV (.int a) (.d (ac xs))).bind λb=>Out.ok (!b))=_
 rw[pX]; rfl
@[simp] theorem KY:cM .isin (.d (ac xs)) (.d (ah t)) = .ok (decide (xs∈t)):=zi xs t
@[simp] theorem KR:eg .add (.int a) (.int b) = .ok (sI (a+b)):=rfl
@[simp] theorem KX:eg .sub (.int a) (.int b) = .ok (sI (a-b)):=rfl
@[simp] theorem KW:eg .xor (.int a) (.int b) = .ok (sI (Builtin.bitXor a b)):=rfl
theorem vo (h:b.natAbs<2^63):eg .mul (.int a) (.int b) = .ok (sI (a*b)):=by
 show (if a.natAbs<2^63\/b.natAbs<2^63 then Out.ok (sI (a*b)) else .bad)=_
 rw[if_pos (.inr h)]
theorem Bw (h:0<b):eg .mod (.int a) (.int b) = .ok (sI (a%b)):=by
 show (if b=0 then Out.bad else Out.ok (sI (a.fmod b)))=_
 rw[if_neg (DX h),Int.fmod_eq_emod_of_nonneg _ (zC h)]
theorem Bg (h:0<b) (h':b<1000000000):eg .fdiv (.int a) (.int b) = .ok (sI (a/b)):=by
 show (if b=0\/1000000000<=b.natAbs then Out.bad else Out.ok (sI (a.fdiv b)))=_
 rw[if_neg (by lia),Int.fdiv_eq_ediv_of_nonneg _ (zC h)]
theorem yh (h:xs.length+ys.length<=1000000):eg .add (ac xs) (ac ys) = .ok (.d (ac (xs++ys)),.deep):=by
 show (if (xs.map PyData.int).length+(ys.map PyData.int).length<=lim then Out.ok (V.d (.list (xs.map .int++ys.map .int)),fresh (xs.map .int++ys.map .int)) else .bad)=_
 rw[length_map,length_map,if_pos (show _<=lim from h),<- map_append,im]; rfl
@[simp] theorem DB:b1V .len (.d (ac xs)) = .ok (sI xs.length):=by
 show Out.ok (sI (xs.map PyData.int).length)=_
 rw[length_map]
@[simp] theorem Be:b1V .len (.d (ah t)) = .ok (sI t.length):=by
 show Out.ok (sI (t.map ac).length)=_
 rw[length_map]
@[simp] theorem A2:b1V .list (.d (ac xs)) = .ok (.d (ac xs),.deep):=by
 show Out.ok (V.d (.list (xs.map PyData.int)),fresh (xs.map PyData.int))=_
 rw[im]; rfl
@[simp] theorem yC:b1V .tuple (.d (ac xs)) = .ok (.d (aK xs),.deep):=by
 show Out.ok (V.d (.tuple (xs.map PyData.int)),if (xs.map PyData.int).all sx then Mode.deep else .sh)=_
 rw[v9,if_pos rfl]; rfl
noncomputable def dl (xs:List Int):List Int:=xs.mergeSort λa b=>decide (a<=b)
theorem wP (h:xs.length<64):b1V .sorted (.d (ac xs)) = .ok (.d (ac (dl xs)),.deep):=by
 show eP (xs.map PyData.int)=_
 unfold eP
 rw[length_map,if_pos h,dO]; rfl
@[simp] theorem DH:iG (.d (.int a)) "int" = .ok true:=rfl
@[simp] theorem CD:iG (.d (.int a)) "bool" = .ok false:=rfl
@[simp] theorem Cr:iG (.d (ac xs)) "list" = .ok true:=rfl
@[simp] theorem KH:(sI a).1 = .d (.int a):=rfl
@[simp] theorem Kj:(sI a).2 = .deep:=rfl
@[simp] theorem jC (b:Bool):(sB b).1 = .d (.bool b):=rfl
@[simp] theorem K2 (b:Bool):(sB b).2 = .deep:=rfl
@[simp] theorem KE:cg []=some []:=rfl
@[simp] theorem Kk (m:Mode) (l:List (V×Mode)):cg ((.d (.int a),m)::l)=(cg l).map (.int a :: ·):=rfl
@[simp] theorem KN (l:List (V×Mode)):cg (sI a::l)=(cg l).map (.int a :: ·):=rfl
@[simp] theorem DG:allDeep []=true:=rfl
@[simp] theorem Gu (l:List (V×Mode)):allDeep (sI a::l)=allDeep l:=by simp[allDeep]
end
theorem bH (xs:List Int):(dl xs).Perm xs:=mergeSort_perm ..
theorem kK (xs:List Int):(dl xs).Pairwise (·<=·):=by
 have:=List.pairwise_mergeSort (le:=λa b:Int=>decide (a<=b)) (λa b c h1 h2=>by simp at *; exact z6 h1 h2) (λa b=>by simp; exact AH) xs
 exact this.imp (by intro a b h; simpa using h)
theorem oU:∀ {l l':List Int},l.Perm l'->l.Pairwise (·<=·)->l'.Pairwise (·<=·)->l=l'
 | [],l',p,_,_=>by rw[p.nil_eq]
 | a::l,[],p,_,_=>by cases p.eq_nil
 | a::l,b::l',p,h,h'=>by
  refine aa (pairwise_cons.mp h) λk j=>?_
  refine aa (pairwise_cons.mp h') λg i=>?_
  have e:a=b:=by
   rcases mem_cons.mp (p.mem_iff.mp (mem_cons_self (a:=a) (l:=l))) with e | e
   ·exact e
   ·rcases mem_cons.mp (p.mem_iff.mpr (mem_cons_self (a:=b) (l:=l'))) with e' | e'
    ·exact e'.symm
    ·have:=k b e'; have:=g a e; exact zX ‹_› this
  (clear h' g; subst e)
  rw[oU ((List.perm_cons a).mp p) j i]
theorem ic (p:xs.Perm ys) (h:ys.Pairwise (·<=·)):dl xs=ys:=oU ((bH xs).trans p) (kK xs) h
@[simp] theorem vI (xs:List Int):kH (.d (ac xs))=some (xs.map .int):=rfl
@[simp] theorem uQ (t:List (List Int)):kH (.d (ah t))=some (t.map ac):=rfl
@[simp] theorem dD (xs:List Int) (m:Mode):itV (.d (ac xs),m) = .ok (xs.map .int,m):=rfl
@[simp] theorem bS (t:List (List Int)) (m:Mode):itV (.d (ah t),m) = .ok (t.map ac,m):=rfl
@[simp] theorem si (xs:List Int) (a:Int):PyData.list (xs.map .int++[.int a])=ac (xs++[a]):=by unfold ac; rw[map_append]; rfl
theorem kR (h:xs.length<=1000000):nK σ x ns mx xs .deep = .ok (upd σ x (.d (.list xs),mx),.next):=by
 unfold nK
 rw[if_pos (show _<=lim from h),if_pos rfl]
@[simp] theorem ba (n:Nat):(aF n).length=n:=by simp[aF]
theorem uW (xs:List Int) (n:Nat) (h:n<=1000000):jK (ac xs) (.int n) = .ok (.d (ac (xs.take n)),.deep):=by
 unfold ac jK
 dsimp only
 rw[if_pos ⟨by exact ml,by exact AG h⟩,Int.toNat_natCast,<- List.map_take,im]
theorem wN (xs:List Int) (n:Nat) (h:n<=1000000):jR (ac xs) (.int n) = .ok (.d (ac (xs.drop n)),.deep):=by
 unfold ac jR
 dsimp only
 rw[if_pos ⟨by exact ml,by exact AG h⟩,Int.toNat_natCast,<- List.map_drop,im]
theorem jI (h:ex C s σ = .ok (σ',.next)):exs C (.cons s r) σ=exs C r σ':=by
 simp only[ch,h,Out.ok_bind]
theorem Ci (h:ex C s σ = .ok (σ',.ret v)):exs C (.cons s r) σ = .ok (σ',.ret v):=by
 simp only[ch,h,Out.ok_bind]
section
theorem Dx (ha:ev C a σ = .ok (.d x,mx)) (hb:ev C b σ = .ok (.d y,my)):ev C (.shi a b) σ=jK x y:=by simp only[gQ,ha,hb,Out.ok_bind]
theorem DF (ha:ev C a σ = .ok (.d x,mx)) (hb:ev C b σ = .ok (.d y,my)):ev C (.slo a b) σ=jR x y:=by simp only[gB,ha,hb,Out.ok_bind]
theorem kY (ha:ev C a σ = .ok (.d x,mx)) (hb:ev C b σ = .ok (.d y,my)):ev C (.sub a b) σ=fk x y:=by simp only[fJ,ha,hb,Out.ok_bind]
theorem f7 (ha:ev C a σ = .ok (.d x,mx)) (hb:ev C b σ = .ok (.d y,my)):ev C (.bin o a b) σ=eg o x y:=by simp only[gT,ha,hb,Out.ok_bind]
theorem CP (h:ev C a σ = .ok r):ex C (.ret a) σ = .ok (σ,.ret r):=by simp only[gN,h,Out.ok_bind]
theorem wX (h:ev C a σ = .ok r) (hd:r.2 = .deep):ex C (.assign z a) σ = .ok (upd σ z r,.next):=by
 simp only[bW,jv h,Out.ok_bind,consume,hd,if_true]
theorem B8 (h:σ z=some p):ev C (.name z) σ = .ok (mk p.1):=by simp only[b7,h]
end
section
theorem gP (hC:C f=some g) (he:evs C es σ = .ok l):ev C (.call f es) σ=g (l.map (·.1)):=by simp only[fI,hC,he,Out.ok_bind]
theorem ag (h:ev C a σ = .ok r) (hs:evs C es σ = .ok l):evs C (.cons a es) σ = .ok (r::l):=by simp only[bi,h,hs,Out.ok_bind]
theorem aq:evs C .nil σ = .ok []:=by simp only[bc]
theorem cF (ha:ev C a σ = .ok (x,mx)) (hb:ev C b σ = .ok (y,my)) (h:cM o x y = .ok t):ev C (.cmp o a b) σ = .ok (sB t):=by simp only[eK,ha,hb,h,Out.ok_bind]
theorem b9 (ha:ev C a σ = .ok (sB t)):ev C (.not a) σ = .ok (sB (!t)):=by simp only[eJ,ha,Out.ok_bind,jC,cf]
theorem Bd (ha:ev C a σ = .ok (sB false)) (hb:ev C b σ = .ok (sB t)):ev C (.or a b) σ = .ok (sB t):=by
 simp only[fU,ha,hb,Out.ok_bind,jC,cf,false_eq_true,if_false]
theorem B4 (ha:ev C a σ = .ok (sB true)):ev C (.or a b) σ = .ok (sB true):=by
 simp only[fU,ha,Out.ok_bind,jC,cf,if_true]
theorem yE (ha:ev C a σ = .ok (sB true)) (hb:ev C b σ = .ok (sB t)):ev C (.and a b) σ = .ok (sB t):=by
 simp only[eO,ha,hb,Out.ok_bind,jC,cf,if_true]
theorem zg (ha:ev C a σ = .ok (sB false)):ev C (.and a b) σ = .ok (sB false):=by
 simp only[eO,ha,Out.ok_bind,jC,cf,false_eq_true,if_false]
theorem lf (h:ev C c σ = .ok (sB false)):ex C (.ite c u v) σ=exs C v σ:=by simp only[je,h,Out.ok_bind,jC,cf,false_eq_true,if_false]
theorem k7 (h:ev C c σ = .ok (sB true)):ex C (.ite c u v) σ=exs C u σ:=by simp only[je,h,Out.ok_bind,jC,cf,if_true]
theorem iZ:exs C .nil σ = .ok (σ,.next):=by simp only[dA]
theorem d6 (ha:ev C a σ = .ok (x,mx)):ev C (.bi1 f a) σ=b1V f x:=by simp only[fL,ha,Out.ok_bind]
theorem ug (h:σ z=some p) (hr:mk p.1=r):ev C (.name z) σ = .ok r:=by simp only[b7,h,hr]
theorem aQ (h:ev C a σ = .ok r) (hq:itV r = .ok q):aZ C (.e a) σ = .ok q:=by simp only[jk,h,Out.ok_bind,hq]
theorem da {n:Nat}{m:Mode}(h:ev C a σ = .ok (.d (.int n),m)) (hn:n<=1000000):aZ C (.r1 a) σ = .ok ((aF n).map .int,.deep):=by
 simp only[fM,h,Out.ok_bind]; exact w6 hn
theorem nW {elt:E}(h:aZ C it σ = .ok q) (hr:bx (λy=>(ev C elt (upd σ z (mk (.d y)))).bind λr=>.ok (some r)) q.1 = .ok r):ev C (.comp elt z it) σ = .ok (.d (.list r.1),if r.2 then .deep else .top):=by
 simp only[d7,h,Out.ok_bind,hr,Out.calm_ok]
theorem kq {elt c:E}(h:aZ C it σ = .ok q) (hr:bx (λy=>(ev C c (upd σ z (mk (.d y)))).bind λt=>(ao t.1).bind λb=>if b then (ev C elt (upd σ z (mk (.d y)))).bind λr=>.ok (some r) else .ok none) q.1 = .ok r):ev C (.compif elt z it c) σ = .ok (.d (.list r.1),if r.2 then .deep else .top):=by
 simp only[c7,h,Out.ok_bind,hr,Out.calm_ok]
theorem kJ {c:E}{z:String}{it:It}{ns:List Int}{m:Mode}(p:Int->Bool) (h:aZ C it σ = .ok (ns.map .int,m)) (hc:∀ i∈ns,ev C c (upd σ z (sI i)) = .ok (sB (p i))):ev C (.compif (.name z) z it c) σ = .ok (.d (ac (ns.filter p)),.deep):=by
 rw[kq h (r:=((ns.filter p).map .int,true))]
 ·rfl
 ·have:=jE (F:=λy=>(ev C c (upd σ z (mk (.d y)))).bind λt=>(ao t.1).bind λb=>if b then (ev C (.name z) (upd σ z (mk (.d y)))).bind λr=>.ok (some r) else .ok none) (f:=λi=>i) (p:=p) (ns:=ns) λi g=>by
   rw[wy,hc i g]
   cases p i<;>simp[b7]
  simpa using this
theorem og {elt:E}{z:String}{it:It}{ns:List Int}{m:Mode}(f:Int->Int) (h:aZ C it σ = .ok (ns.map .int,m)) (hc:∀ i∈ns,ev C elt (upd σ z (sI i)) = .ok (sI (f i))):ev C (.comp elt z it) σ = .ok (.d (ac (ns.map f)),.deep):=by
 rw[nW h (r:=((ns.map f).map .int,true))]
 ·rfl
 ·exact rX (F:=λy=>(ev C elt (upd σ z (mk (.d y)))).bind λr=>.ok (some r)) λi g=>by rw[wy,hc i g]; rfl
theorem vr (hz:σ z=some (.d (ac xs),m)) (hm:m≠.sh) (h:ev C a σ = .ok (sI i)) (hl:xs.length<1000000):ex C (.append z a) σ = .ok (upd σ z (.d (ac (xs++[i])),m),.next):=by
 simp only[eV,h,Out.ok_bind,pJ,iB,hz,vI,if_neg hm,KH,Kj]
 rw[kR (by rw[length_append,length_map]; exact hl),si,Out.calm_ok]
theorem vU (h0:0<=i) (h:t[i.toNat]? = some r):fk (ah t) (.int i) = .ok (.d (ac r),.sh):=by
 have g:i.toNat<t.length:=(List.getElem?_eq_some_iff.mp h).1
 exact o0 (mG h0 (by rw[length_map]; exact AK g)) (by rw[List.getElem?_map,h]; rfl)
end
def Val (σ:St) (x:String) (v:V):Prop:=∃ m,σ x=some (v,m)
def Has (σ:St) (l:List (String×V)):Prop:=∀ x v,l.lookup x=some v->Val σ x v
def Sub (l:List (String×V)):List (String×V)->Prop
 | []=>True
 | p::r=>l.lookup p.1=some p.2/\Sub l r
theorem qA (σ:St) (x:String) (r:V×Mode):upd σ x r x=some r:=if_pos rfl
theorem oZ (x:String) (v:β) (l:List (String×β)):List.lookup x ((x,v)::l)=some v:=by
 rw[lookup_cons,beq_self_eq_true]
theorem oN (h:x≠y) (v:β) (l:List (String×β)):List.lookup x ((y,v)::l)=l.lookup x:=by
 rw[lookup_cons,beq_eq_false_iff_ne.mpr h]
section
variable {C:Calls}{σ:St}{l l':List (String×V)}
theorem Has.nil:Has σ []:=λuu uu h=>by exact nN h
theorem Has.ev (H:Has σ l) (h:l.lookup x=some v):ev C (.name x) σ = .ok (mk v):=by
 refine ai (H x v h) λm e=>?_
 exact ug e rfl
theorem Has.upd (H:Has σ l) (x:String) (v:V) (m:Mode):Has (Internal.upd σ x (v,m)) ((x,v)::l):=by
 intro y u h
 by_cases e:y=x
 ·subst e
  rw[oZ] at h
  (have g:=Option.some.inj h; clear h; subst g)
  exact ⟨m,if_pos rfl⟩
 ·rw[oN e] at h
  refine ai (H y u h) λi q=>?_
  exact ⟨i,(if_neg e).trans q⟩
theorem Has.demote (H:Has σ l) (ns:List String):Has (Internal.demote σ ns) l:=by
 intro x v h
 refine ai (H x v h) λm q=>?_
 by_cases e:x∈ns
 ·exact ⟨(mk v).2,(if_pos e).trans (by rw[q]; rfl)⟩
 ·exact ⟨m,(if_neg e).trans q⟩
theorem Has.consume (H:Has σ l) (ns:List String) (m:Mode):Has (Internal.consume σ ns m) l:=by
 unfold Internal.consume
 by_cases e:m = .deep
 ·rw[if_pos e]; exact H
 ·rw[if_neg e]; exact H.demote ns
theorem Has.sub (H:Has σ l) (h:Sub l l'):Has σ l':=by
 induction l' with
 | nil=>exact .nil
 | cons p r ih=>
  intro x v g
  by_cases e:x=p.1
  ·subst e
   rw[oZ] at g
   (have i:=Option.some.inj g; clear g; subst i)
   exact H _ _ h.1
  ·rw[oN e] at g
   exact ih h.2 x v g
noncomputable def Runs (C:Calls) (b:Ss) (σ:St) (Post:St->Flw->Prop):Prop:=∃ σ' fl,exs C b σ = .ok (σ',fl)/\Post σ' fl
noncomputable def Cont (C:Calls) (b:Ss) (Post:St->Flw->Prop) (σ:St):Flw->Prop
 | .next=>Runs C b σ Post
 | .ret v=>Post σ (.ret v)
variable {b u v:Ss}{s:S}{e c:E}{Post Post':St->Flw->Prop}{r:V×Mode}{x:String}
theorem Cont.ret (h:Post σ (.ret r)):Cont C b Post σ (.ret r):=h
theorem Runs.mono (h:Runs C b σ Post) (k:∀ σ' fl,Post σ' fl->Post' σ' fl):Runs C b σ Post':=au (h) λa f i g=>(aC a f i (k a f g))
theorem Runs.nil (h:Post σ .next):Runs C .nil σ Post:=(aC σ .next iZ h)
theorem Runs.cons (he:ex C s σ = .ok o) (k:Cont C b Post o.1 o.2):Runs C (.cons s b) σ Post:=by
 obtain ⟨g,j⟩:=o
 cases j with
 | next=>
  refine au (k) λa f i h=>?_
  clear k
  exact (aC a f (by rw[jI he]; exact i) h)
 | ret v=>exact (aC g (.ret v) (Ci he) k)
theorem Runs.set (H:Has σ l) (he:Internal.ev C e σ = .ok r) (k:∀ σ',Has σ' ((x,r.1)::l)->σ' x=some r->Runs C b σ' Post):Runs C (.cons (.assign x e) b) σ Post :=
 Runs.cons (o:=(Internal.upd (Internal.consume σ (fv e) r.2) x r,.next)) (by simp only[bW,jv he,Out.ok_bind]) (k _ ((H.consume _ _).upd x r.1 r.2) (if_pos rfl))
theorem Runs.expr (H:Has σ l) (he:Internal.ev C e σ = .ok r) (k:∀ σ',Has σ' l->(∀ y,y∉fv e->σ' y=σ y)->Runs C b σ' Post):Runs C (.cons (.expr e) b) σ Post :=
 Runs.cons (o:=(Internal.consume σ (fv e) r.2,.next)) (by simp only[fw,he,Out.ok_bind]) (k _ (H.consume _ _) λy g=>by
  unfold Internal.consume
  by_cases q:r.2 = .deep
  ·rw[if_pos q]
  ·rw[if_neg q]; exact if_neg g)
theorem Runs.ret (he:Internal.ev C e σ = .ok r) (k:Post σ (.ret r)):Runs C (.cons (.ret e) b) σ Post:=Runs.cons (o:=(σ,.ret r)) (CP he) k
theorem Runs.retn (he:σ x=some r) (k:Post σ (.ret r)):Runs C (.cons (.retn x) b) σ Post:=Runs.cons (o:=(σ,.ret r)) (by simp only[lJ,he]) k
theorem Runs.no (he:Internal.ev C c σ = .ok (sB false)) (k:Runs C b σ Post):Runs C (.cons (.ite c u .nil) b) σ Post:=Runs.cons (o:=(σ,.next)) ((lf he).trans iZ) k
theorem Runs.ite (he:Internal.ev C c σ = .ok (sB t)) (kt:t=true->Runs C u σ (Cont C b Post)) (kf:t=false->Runs C v σ (Cont C b Post)):Runs C (.cons (.ite c u v) b) σ Post:=by
 cases t with
 | true=>
  refine au (kt rfl) λa f h g=>?_
  exact Runs.cons (o:=(a,f)) ((k7 he).trans h) g
 | false=>
  refine au (kf rfl) λa f h g=>?_
  exact Runs.cons (o:=(a,f)) ((lf he).trans h) g
theorem Runs.next (he:ex C s σ = .ok (σ',.next)) (k:Runs C b σ' Post):Runs C (.cons s b) σ Post:=Runs.cons (o:=(σ',.next)) he k
theorem Runs.iteTo (Inv:St->Prop) (he:Internal.ev C c σ = .ok (sB t)) (kt:t=true->Runs C u σ (λσ' fl=>fl = .next/\Inv σ')) (kf:t=false->Runs C v σ (λσ' fl=>fl = .next/\Inv σ')) (k:∀ σ',Inv σ'->Runs C b σ' Post):Runs C (.cons (.ite c u v) b) σ Post :=
 Runs.ite he (λq=>(kt q).mono λσ' fl h=>by obtain ⟨rfl,h⟩:=h; exact k σ' h) λq=>(kf q).mono λσ' fl h=>by obtain ⟨rfl,h⟩:=h; exact k σ' h
theorem dg:(∀ l,Has σ l->Has (Internal.consume σ ns m) l)/\∀ y,y∉ns->Internal.consume σ ns m y=σ y:=⟨λuu H=>H.consume ns m,λy g=>by
 unfold Internal.consume
 by_cases q:m = .deep
 ·rw[if_pos q]
 ·rw[if_neg q]; exact if_neg g⟩
theorem oC (Inv:List α->St->Prop)
  (hs:∀ pre y post,xs=pre++y::post->∀ σ,Inv pre σ->Runs C body (Internal.upd σ z (mk (.d (g y)))) (λσ' fl=>match fl with | .next=>Inv (pre++[y]) σ' | .ret v=>Post σ' (.ret v))) :
  ∀ (post pre:List α) (σ:St),xs=pre++post->Inv pre σ->∃ o,bB (λy σ=>exs C body (Internal.upd σ z (mk (.d y)))) (post.map g) σ = .ok o/\match o.2 with | .next=>Inv xs o.1 | .ret v=>Post o.1 (.ret v)
 | [],pre,σ,hl,h=>(af (σ,.next) rfl (by rw[hl,append_nil]; exact h))
 | y::post,pre,σ,hl,h=>by
  refine au (hs pre y post hl σ h) λa f j i=>?_
  cases f with
  | ret v=>exact (af (a,.ret v) (by rw[map_cons,bB,j]; rfl) i)
  | next=>
   obtain ⟨o,l,k⟩:=oC Inv hs post (pre++[y]) a (by rw[hl,append_assoc]; rfl) i
   exact (af o (by rw[map_cons,bB,j]; exact l) k)
theorem Runs.for (Inv:List α->St->Prop) (hit:aZ C it σ = .ok (xs.map g,m)) (h0:∀ σ0,(∀ l,Has σ l->Has σ0 l)->(∀ y,y∉bD it->σ0 y=σ y)->Inv [] σ0)
  (hs:∀ pre y post,xs=pre++y::post->∀ σ,Inv pre σ->Runs C body (Internal.upd σ z (mk (.d (g y)))) (λσ' fl=>match fl with | .next=>Inv (pre++[y]) σ' | .ret v=>Post σ' (.ret v)))
  (k:∀ σ',Inv xs σ'->Runs C b σ' Post):Runs C (.cons (.for1 z it body) b) σ Post:=by
 refine ae (oC Inv hs xs [] (Internal.consume σ (bD it) m) rfl (h0 _ dg.1 dg.2)) λo i h=>?_
 refine Runs.cons (o:=o) (by simp only[qk,hit,Out.ok_bind]; exact i) ?_
 obtain ⟨a,f⟩:=o
 cases f with
 | next=>exact k a h
 | ret v=>exact h
noncomputable def Sk (o:Option β) (Inv:St->Prop) (rv:β->V×Mode) (σ:St) (fl:Flw):Prop:=match o with
 | none=>fl = .next/\Inv σ
 | some q=>fl = .ret (rv q)
theorem Sk.next {β:Type}{o:Option β}{Inv:St->Prop}{rv:β->V×Mode}(h:o=none) (hI:Inv σ):Sk o Inv rv σ .next:=by subst h; exact ⟨rfl,hI⟩
theorem Sk.ret {β:Type}{o:Option β}{q:β}{Inv:St->Prop}{rv:β->V×Mode}(h:o=some q):Sk o Inv rv σ (.ret (rv q)):=by subst h; exact rfl
theorem Runs.seek {α β:Type}{body:Ss}{z:String}{it:It}{g:α->PyData}{xs:List α}{m:Mode}(Inv:St->Prop) (f:α->Option β) (rv:β->V×Mode) (hit:aZ C it σ = .ok (xs.map g,m)) (h0:∀ σ0,(∀ l,Has σ l->Has σ0 l)->(∀ y,y∉bD it->σ0 y=σ y)->Inv σ0)
  (hs:∀ y∈xs,∀ σ,Inv σ->Runs C body (Internal.upd σ z (mk (.d (g y)))) (Sk (f y) Inv rv))
  (k:xs.findSome? f=none->∀ σ',Inv σ'->Runs C b σ' Post) (kr:∀ q,xs.findSome? f=some q->∀ σ',Post σ' (.ret (rv q))):Runs C (.cons (.for1 z it body) b) σ Post:=by
 refine Runs.for (λj σ=>Inv σ/\j.findSome? f=none) hit (λσ0 n u=>⟨h0 σ0 n u,rfl⟩) (λj y r t o n=>?_) λσ' h=>k h.2 σ' h.1
 refine (hs y (by rw[t]; exact mem_append_right _ (.head _)) o n.1).mono λσ' v h=>?_
 cases hf:f y with
 | none=>
  rw[hf] at h
  revert h; intro i
  refine aa (i) λp h=>?_
  clear i
  subst p
  exact ⟨h,by rw[List.findSome?_append,n.2,List.findSome?_cons,hf]; rfl⟩
 | some q=>
  rw[hf] at h
  subst h
  exact kr q (by rw[t,List.findSome?_append,n.2,List.findSome?_cons,hf]; rfl) σ'
theorem dC:∀ (ps:List String) (vs:List V),ps.length=vs.length->∃ σ,bN ps vs=some σ/\Has σ (ps.zip vs)
 | [],[],_=>(af _ rfl .nil)
 | [],v::vs,h=>by cases h
 | p::ps,[],h=>by cases h
 | p::ps,v::vs,h=>by
  refine ae (dC ps vs (Nat.succ.inj h)) λσ i g=>?_
  exact (af _ (by rw[bN,i]; rfl) (g.upd p (mk v).1 (mk v).2))
theorem ja {ps:List String}{vs:List V}{P:V×Mode->Prop}(hl:ps.length=vs.length) (h:∀ σ,Has σ (ps.zip vs)->Runs C b σ (λuu fl=>∃ r,fl = .ret r/\P r)):∃ r,aD C ⟨ps,b⟩ vs = .ok r/\P r:=by
 refine ae (dC ps vs hl) λσ l k=>?_
 obtain ⟨a,f,j,r,g,i⟩:=h σ k
 subst g
 exact (af r (by unfold aD; dsimp only; rw[l]; dsimp only; rw[j]; rfl) i)
theorem bM {ps:List String}(hl:ps.length=vs.length) (h:∀ σ,Has σ (ps.zip vs)->Runs C b σ (λuu fl=>fl = .ret r)):aD C ⟨ps,b⟩ vs = .ok r:=by
 refine ae (ja (P:=λq=>q=r) hl λσ H=>(h σ H).mono λuu uu e=>(af r e rfl)) λq i g=>?_
 (clear h; subst g)
 exact i
noncomputable def jg (f:String):Bool:=!decide (f = "Rule") && !decide (f∈methNames)
theorem nL (h:jg f=true) (fn:Fn) (vs:List V):cC f C fn vs=aD C fn vs:=by
 unfold jg at h
 simp only[and_eq_true,Bool.not_eq_true',decide_eq_false_iff_not] at h
 unfold cC
 rw[if_neg h.1,if_neg h.2]
theorem aP (hL:L.lookup f=some fn) (he:evs (mkC L (n+1)) es σ = .ok q) (hv:q.map (·.1)=vs) (h:aD (mkC L n) fn vs = .ok r) (hp:jg f=true:=by decide):Internal.ev (mkC L (n+1)) (.call f es) σ = .ok r:=by
 have g:mkC L (n+1) f=some λvs=>cC f (mkC L n) fn vs:=by show (L.lookup f).map _=_; rw[hL]; rfl
 rw[gP g he,hv,nL hp,h]
end
section
theorem av (i:Int):ev C (.int i) σ = .ok (sI i):=by simp only[eN]
theorem nq (i:Bool):ev C (.bool i) σ = .ok (sB i):=by simp only[gZ]
theorem wc:ev C .none σ = .ok (.d .none,.deep):=by simp only[g7]
theorem wK:ev C .edic σ = .ok (.dic0,.deep):=by simp only[hW]
theorem tL:ev C (.list .nil) σ = .ok (.d (ac []),.deep):=by simp only[br,bc]; rfl
theorem nr (h:ev C a σ = .ok (sI x)):ev C (.list (.cons a .nil)) σ = .ok (.d (ac [x]),.deep):=by simp only[br,bc,bi,h,Out.ok_bind]; rfl
theorem Go (h:ev C a σ = .ok (sI x)) (h':ev C b σ = .ok (sI y)):ev C (.list (.cons a (.cons b .nil))) σ = .ok (.d (ac [x,y]),.deep):=by simp only[br,bc,bi,h,h',Out.ok_bind]; rfl
theorem cN (ha:ev C a σ = .ok (sI x)) (hb:ev C b σ = .ok (sI y)):ev C (.bin .add a b) σ = .ok (sI (x+y)):=(f7 ha hb).trans rfl
theorem k6 (ha:ev C a σ = .ok (sI x)) (hb:ev C b σ = .ok (sI y)):ev C (.bin .sub a b) σ = .ok (sI (x-y)):=(f7 ha hb).trans rfl
theorem cY (ha:ev C a σ = .ok (sI x)) (hb:ev C b σ = .ok (sI y)) (h:0<y):ev C (.bin .mod a b) σ = .ok (sI (x%y)):=(f7 ha hb).trans (Bw x y h)
theorem t0 (ha:ev C a σ = .ok (sI x)) (hb:ev C b σ = .ok (sI y)) (h:0<y) (h':y<1000000000):ev C (.bin .fdiv a b) σ = .ok (sI (x/y)):=(f7 ha hb).trans (Bg x y h h')
theorem lL (ha:ev C a σ = .ok (sI x)) (hb:ev C b σ = .ok (sI y)):ev C (.cmp .lt a b) σ = .ok (sB (decide (x<y))):=cF ha hb rfl
theorem y9 (ha:ev C a σ = .ok (sI x)) (hb:ev C b σ = .ok (sI y)):ev C (.cmp .gt a b) σ = .ok (sB (decide (y<x))):=cF ha hb rfl
theorem CS (ha:ev C a σ = .ok (sI x)) (hb:ev C b σ = .ok (sI y)):ev C (.cmp .ge a b) σ = .ok (sB (decide (y<=x))):=cF ha hb rfl
theorem iI (ha:ev C a σ = .ok (sI x)) (hb:ev C b σ = .ok (sI y)):ev C (.cmp .eq a b) σ = .ok (sB (decide (x=y))):=cF ha hb (CJ x y)
theorem lO (ha:ev C a σ = .ok (sI x)) (hb:ev C b σ = .ok (sI y)):ev C (.cmp .ne a b) σ = .ok (sB (!decide (x=y))):=cF ha hb (CU x y)
theorem Ag (ha:ev C a σ = .ok (.d (ac xs),m)) (hb:ev C b σ = .ok (.d (ac ys),m')):ev C (.cmp .eq a b) σ = .ok (sB (decide (xs=ys))):=cF ha hb (Bf xs ys)
theorem Hr (ha:ev C a σ = .ok (.d (ah t),m)) (hb:ev C b σ = .ok (.d (ah u),m')):ev C (.cmp .ne a b) σ = .ok (sB (!decide (t=u))):=cF ha hb (Ce t u)
theorem Dm (ha:ev C a σ = .ok (sI x)) (hb:ev C b σ = .ok (.d (ac xs),m)):ev C (.cmp .isin a b) σ = .ok (sB (decide (x∈xs))):=cF ha hb (De x xs)
theorem Ac (ha:ev C a σ = .ok (sI x)) (hb:ev C b σ = .ok (.d (ac xs),m)):ev C (.cmp .notin a b) σ = .ok (sB (!decide (x∈xs))):=cF ha hb (Bo x xs)
theorem ig (ha:ev C a σ = .ok (.d (ac xs),m)) (hb:ev C b σ = .ok (.d (ac ys),m')) (h:xs.length+ys.length<=1000000):ev C (.bin .add a b) σ = .ok (.d (ac (xs++ys)),.deep):=(f7 ha hb).trans (yh xs ys h)
theorem xB (t u:List (List Int)) (h:t.length+u.length<=1000000):∃ m,eg .add (ah t) (ah u) = .ok (.d (ah (t++u)),m):=by
 refine ⟨fresh ((t++u).map ac),?_⟩
 show (if (t.map ac).length+(u.map ac).length<=lim then Out.ok (V.d (.list (t.map ac++u.map ac)),fresh (t.map ac++u.map ac)) else .bad)=_
 rw[length_map,length_map,if_pos (show _<=lim from h),<- map_append]; rfl
theorem vK (ha:ev C a σ = .ok (.d (ah t),m)) (hb:ev C b σ = .ok (.d (ah u),m')) (h:t.length+u.length<=1000000):∃ m,ev C (.bin .add a b) σ = .ok (.d (ah (t++u)),m):=by
 refine ai (xB t u h) λm q=>?_
 exact ⟨m,(f7 ha hb).trans q⟩
theorem eU (ha:ev C a σ = .ok (.d (ac xs),m)):ev C (.bi1 .len a) σ = .ok (sI xs.length):=(d6 ha).trans (DB xs)
theorem mY (ha:ev C a σ = .ok (.d (ah t),m)):ev C (.bi1 .len a) σ = .ok (sI t.length):=(d6 ha).trans (Be t)
theorem wn (ha:ev C a σ = .ok (.d (ac xs),m)):ev C (.bi1 .list a) σ = .ok (.d (ac xs),.deep):=(d6 ha).trans (A2 xs)
theorem sy (ha:ev C a σ = .ok (.d (ac xs),m)):ev C (.bi1 .tuple a) σ = .ok (.d (aK xs),.deep):=(d6 ha).trans (yC xs)
theorem lZ (ha:ev C a σ = .ok (.d (ac xs),m)) (h:xs.length<64):ev C (.bi1 .sorted a) σ = .ok (.d (ac (dl xs)),.deep):=(d6 ha).trans (wP xs h)
theorem rT (h:r.Pairwise (· < ·)):dl r=r:=ic (.refl _) (h.imp λh=>Int.le_of_lt h)
theorem mE (ha:ev C a σ = .ok (.d (ac xs),m)) (hb:ev C b σ = .ok (sI i)) (h0:0<=i) (h:xs[i.toNat]? = some x):ev C (.sub a b) σ = .ok (sI x):=(kY ha hb).trans (wb h0 h)
theorem pU (ha:ev C a σ = .ok (.d (ah t),m)) (hb:ev C b σ = .ok (sI i)) (h0:0<=i) (h:t[i.toNat]? = some xs):ev C (.sub a b) σ = .ok (.d (ac xs),.sh):=(kY ha hb).trans (vU h0 h)
theorem ke (ha:ev C a σ = .ok (sB p)) (hb:p=true->ev C b σ = .ok (sB q)):ev C (.and a b) σ = .ok (sB (p&&q)):=by
 cases p with
 | true=>exact yE ha (hb rfl)
 | false=>exact zg ha
theorem gd (ha:ev C a σ = .ok (sB p)) (hb:p=false->ev C b σ = .ok (sB q)):ev C (.or a b) σ = .ok (sB (p||q)):=by
 cases p with
 | true=>exact B4 ha
 | false=>exact Bd ha (hb rfl)
theorem Bx (ha:ev C a σ = .ok (sI i)) (hb:ev C b σ = .ok (sI j)) (h1:0<=i) (h2:i<=1000) (h3:0<=j) (h4:j<=1000):aZ C (.r2 a b) σ = .ok (((List.range (j-i).toNat).map λ(k:Nat)=>i+(k:Int)).map .int,.deep):=by
 simp only[gV,ha,hb,Out.ok_bind]
 show bE i j=_
 unfold bE
 rw[if_pos (bw (by unfold lim; exact Jz h1 h4) (AA h1) (zN h2) (AA h3) (zN h4)),nw]
theorem gL {α:Type}{g:α->PyData}{l:List α}{z:String}{it:It}{q:Mode}(f:α->List Int) (mm:Mode) (h:aZ C it σ = .ok (l.map g,q)) (hc:∀ i∈l,ev C a (upd σ z (mk (.d (g i)))) = .ok (.d (ac (f i)),mm)) :
  ∃ m,ev C (.comp a z it) σ = .ok (.d (ah (l.map f)),m)/\(mm = .deep->m = .deep)/\m≠.sh:=by
 obtain ⟨b,j,o⟩:=ki (F:=λy=>(ev C a (upd σ z (mk (.d y)))).bind λr=>.ok (some r)) (e:=g) (f:=f) (p:=λuu=>true) (m:=λuu=>mm) (l:=l) λi n=>by rw[hc i n]; rfl
 rw[filter_eq_self.mpr (λuu uu=>rfl)] at j
 exact (aw (if b then .deep else .top) (nW h j) (λk=>by rw[o λuu uu=>k]; rfl) (by cases b<;>simp))
theorem CC {α:Type}{g:α->PyData}{l:List α}{z:String}{it:It}{r:Mode}(f:α->List Int) (p:α->Bool) (mm:Mode) (h:aZ C it σ = .ok (l.map g,r)) (hp:∀ i∈l,ev C c (upd σ z (mk (.d (g i)))) = .ok (sB (p i)))
  (hc:∀ i∈l,p i=true->ev C a (upd σ z (mk (.d (g i)))) = .ok (.d (ac (f i)),mm)):∃ m,ev C (.compif a z it c) σ = .ok (.d (ah ((l.filter p).map f)),m)/\(mm = .deep->m = .deep)/\m≠.sh:=by
 obtain ⟨b,o,n⟩:=ki (F:=λy=>(ev C c (upd σ z (mk (.d y)))).bind λt=>(ao t.1).bind λb=>if b then (ev C a (upd σ z (mk (.d y)))).bind λr=>.ok (some r) else .ok none) (e:=g) (f:=f) (p:=p) (m:=λuu=>mm) (l:=l) λi j=>by
  rw[hp i j]
  cases hq:p i with
  | true=>simp only[Out.ok_bind,jC,cf,if_true,hc i j hq]
  | false=>simp only[Out.ok_bind,jC,cf,false_eq_true,if_false]
 exact (aw (if b then .deep else .top) (kq h o) (λk=>by rw[n λuu uu=>k]; rfl) (by cases b<;>simp))
theorem sM {α:Type}{g:α->PyData}{l:List α}{z:String}{it:It}{q:Mode}(f:α->Int) (h:aZ C it σ = .ok (l.map g,q)) (hc:∀ i∈l,ev C a (upd σ z (mk (.d (g i)))) = .ok (sI (f i))):ev C (.comp a z it) σ = .ok (.d (ac (l.map f)),.deep):=by
 rw[nW h (r:=((l.map f).map .int,true))]
 ·rfl
 ·exact qd (F:=λy=>(ev C a (upd σ z (mk (.d y)))).bind λr=>.ok (some r)) (e:=g) λi j=>by rw[hc i j]; rfl
theorem oV (h:xs≠[]):∃ i,fE xs=some i/\i∈xs:=by
 cases xs with
 | nil=>exact absurd rfl h
 | cons x xs=>
  refine (af _ rfl ?_)
  have g:∀ (l:List Int) (a:Int),l.foldl (λa b=>if a<b then b else a) a=a\/l.foldl (λa b=>if a<b then b else a) a∈l:=by
   intro l
   induction l with
   | nil=>exact λa=>.inl rfl
   | cons y l ih=>
    intro a
    rw[foldl_cons]
    by_cases q:a<y
    ·rw[if_pos q]
     rcases ih y with e | e
     ·exact .inr (by rw[e]; exact .head _)
     ·exact .inr (.tail _ e)
    ·rw[if_neg q]
     exact (ih a).imp id λe=>.tail _ e
  rcases g xs x with e | e
  ·rw[e]; exact .head _
  ·exact .tail _ e
theorem rp:ev C (.list (.cons (.list .nil) .nil)) σ = .ok (.d (ah [[]]),.deep):=by simp only[br,bc,bi]; rfl
theorem ju:ev C (.list .nil) σ = .ok (.d (ah []),.deep):=by simp only[br,bc]; rfl
theorem Has.mk (H:Has σ l) (z:String) (v:V):Has (Internal.upd σ z (Internal.mk v)) ((z,v)::l):=H.upd z v (Internal.mk v).2
theorem Runs.app (H:Has σ l) (hz:σ z=some (.d (ac xs),m)) (hm:m≠.sh) (h:ev C a σ = .ok (sI x)) (hl:xs.length<1000000) (k:∀ σ',Has σ' ((z,.d (ac (xs++[x])))::l)->σ' z=some (.d (ac (xs++[x])),m)->(∀ y,y≠z->σ' y=σ y)->Runs C bb σ' Post):Runs C (.cons (.append z a) bb) σ Post :=
 Runs.cons (o:=(upd σ z (.d (ac (xs++[x])),m),.next)) (vr hz hm h hl) (k _ (H.upd z _ m) (if_pos rfl) λy g=>if_neg g)
theorem Runs.appR (H:Has σ l) (hz:σ z=some (.d (ah t),m)) (hm:m≠.sh) (h:ev C a σ = .ok (.d (ac xs),.deep)) (hl:t.length<1000000) (k:∀ σ',Has σ' ((z,.d (ah (t++[xs])))::l)->σ' z=some (.d (ah (t++[xs])),m)->(∀ y,y≠z->σ' y=σ y)->Runs C bb σ' Post):Runs C (.cons (.append z a) bb) σ Post:=by
 refine Runs.cons (o:=(upd σ z (.d (ah (t++[xs])),m),.next)) ?_ (k _ (H.upd z _ m) (if_pos rfl) λy g=>if_neg g)
 simp only[eV,h,Out.ok_bind,pJ,iB,hz,uQ,if_neg hm]
 rw[kR (by rw[length_append,length_map]; exact hl)]
 unfold ah; rw[map_append]; rfl
theorem pG (h:ev C a σ = .ok (v,m)) (hi:iG v ty = .ok p):ev C (.isi a ty) σ = .ok (sB p):=by simp only[gO,h,Out.ok_bind,hi]
theorem Dt {x y z:PyData}{m1 m2 m3:Mode}(ha:ev C a σ = .ok (.d x,m1)) (hb:ev C b σ = .ok (.d y,m2)) (hc:ev C c σ = .ok (.d z,m3)):ev C (.tup (.cons a (.cons b (.cons c .nil)))) σ = .ok (.d (.tuple [x,y,z]),if allDeep [(.d x,m1),(.d y,m2),(.d z,m3)] then .deep else .sh):=by
 simp only[fi,bc,bi,ha,hb,hc,Out.ok_bind]; rfl
end
noncomputable def p_exchanged:Fn:=⟨["choice", "out", "thing"],
(.cons (.ret (.bi1 .sorted (.bin .add (.compif (.name "one") "one" (.e (.name "choice")) (.cmp .ne (.name "one") (.name "out"))) (.list (.cons (.name "thing") .nil)))))
.nil)⟩
noncomputable def p_known_of:Fn:=⟨["table"],
(.cons (.assign "known" .edic)
(.cons (.for1 "choice" (.e (.name "table"))
(.cons (.setitem "known" (.bi1 .tuple (.name "choice")))
.nil))
(.cons (.retn "known")
.nil)))⟩
noncomputable def p_goes:Fn:=⟨["known", "one", "other", "thing"],
(.cons (.for1 "out" (.e (.name "one"))
(.cons (.ite (.and (.cmp .notin (.name "out") (.name "other")) (.cmp .isin (.bi1 .tuple (.call "exchanged" (.cons (.name "one") (.cons (.name "out") (.cons (.name "thing") .nil))))) (.name "known")))
(.cons (.ret (.bool true))
.nil)
.nil)
.nil))
(.cons (.ret (.bool false))
.nil))⟩
noncomputable def p_fault:Fn:=⟨["count", "table"],
(.cons (.assign "known" (.call "known_of" (.cons (.name "table") .nil)))
(.cons (.for1 "one" (.e (.name "table"))
(.cons (.for1 "thing" (.r1 (.name "count"))
(.cons (.ite (.cmp .notin (.name "thing") (.name "one"))
(.cons (.for1 "other" (.e (.name "table"))
(.cons (.ite (.and (.cmp .isin (.name "thing") (.name "other")) (.not (.call "goes" (.cons (.name "known") (.cons (.name "one") (.cons (.name "other") (.cons (.name "thing") .nil)))))))
(.cons (.ret (.tup (.cons (.bi1 .list (.name "one")) (.cons (.bi1 .list (.name "other")) (.cons (.name "thing") .nil)))))
.nil)
.nil)
.nil))
.nil)
.nil)
.nil))
.nil))
(.cons (.ret .none)
.nil)))⟩
noncomputable def l_cell_at:Fn:=⟨["_law_script", "_law_k"],
(.cons (.ite (.cmp .lt (.name "_law_k") (.bi1 .len (.name "_law_script")))
(.cons (.ret (.sub (.name "_law_script") (.name "_law_k")))
.nil)
.nil)
(.cons (.ite (.cmp .eq (.name "_law_script") (.list .nil))
(.cons (.ret (.int 0))
.nil)
.nil)
(.cons (.ret (.bin .add (.bin .mul (.sub (.name "_law_script") (.bin .mod (.name "_law_k") (.bi1 .len (.name "_law_script")))) (.int 7)) (.name "_law_k")))
.nil)))⟩
noncomputable def l_whole:Fn:=⟨["_law_found"],
(.cons (.ret (.and (.isi (.name "_law_found") "int") (.not (.isi (.name "_law_found") "bool"))))
.nil)⟩
noncomputable def l_subsets:Fn:=⟨["_law_count"],
(.cons (.assign "_law_rows" (.list (.cons (.list .nil) .nil)))
(.cons (.for1 "_law_thing" (.r1 (.name "_law_count"))
(.cons (.assign "_law_rows" (.bin .add (.name "_law_rows") (.comp (.bin .add (.name "_law_row") (.list (.cons (.name "_law_thing") .nil))) "_law_row" (.e (.name "_law_rows")))))
.nil))
(.cons (.retn "_law_rows")
.nil)))⟩
structure Lib (L:List (String×Fn)):Prop where
 cell:L.lookup "_law_cell_at" = some l_cell_at
 whole:L.lookup "_law_whole" = some l_whole
 subs:L.lookup "_law_subsets" = some l_subsets
 exch:L.lookup "exchanged" = some p_exchanged
 known:L.lookup "known_of" = some p_known_of
 goes:L.lookup "goes" = some p_goes
 fault:L.lookup "fault" = some p_fault
noncomputable def cw (s:List Int) (k:Int):Int:=if k<s.length then s[k.toNat]?.getD 0 else if s=[] then 0 else s[(k%s.length).toNat]?.getD 0*7+k
theorem getD_some {s:List Int}{i:Nat}(h:i<s.length):s[i]? = some (s[i]?.getD 0):=by rw[List.getElem?_eq_getElem h]; rfl
theorem qB (C:Calls) (s:List Int) (k:Int) (hk:0<=k):aD C l_cell_at [.d (ac s),.d (.int k)] = .ok (sI (cw s k)):=by
 unfold l_cell_at
 refine bM rfl λm H=>?_
 have i:=lL (C:=C) (H.ev (x:="_law_k") rfl) (eU (H.ev (x:="_law_script") rfl))
 unfold cw
 by_cases h1:k<s.length
 ·rw[if_pos h1]
  refine Runs.ite (i.trans (by rw[decide_eq_true h1])) (λuu=>Runs.ret (mE (H.ev rfl) (H.ev rfl) hk (getD_some (la1 hk h1))) rfl) λq=>by cases q
 ·rw[if_neg h1]
  refine Runs.no (i.trans (by rw[decide_eq_false h1])) ?_
  have h:=Ag (C:=C) (H.ev (x:="_law_script") rfl) tL
  by_cases h2:s=[]
  ·rw[if_pos h2]
   exact Runs.ite (h.trans (by rw[decide_eq_true h2])) (λuu=>Runs.ret (av 0) rfl) λq=>by cases q
  ·rw[if_neg h2]
   refine Runs.no (h.trans (by rw[decide_eq_false h2])) ?_
   have g:0<s.length:=List.length_pos_iff.mpr h2
   have l:0<=k%s.length:=emod_nonneg _ (la2 g)
   have j:k%s.length<s.length:=emod_lt_of_pos _ (la3 g)
   refine Runs.ret (cN ((f7 (mE (H.ev rfl) (cY (H.ev rfl) (eU (H.ev rfl)) (la3 g)) l (getD_some (la4 g j))) (av 7)).trans (vo _ 7 (by decide))) (H.ev rfl)) rfl
theorem jW (C:Calls) (i:Int):aD C l_whole [.d (.int i)] = .ok (sB true):=by
 unfold l_whole
 refine bM rfl λg H=>Runs.ret (ke (p:=true) (q:=true) ?_ λuu=>?_) rfl
 ·exact pG (H.ev rfl) rfl
 ·exact b9 (t:=false) (pG (H.ev rfl) rfl)
def Srt (c:Int) (r:List Int):Prop:=r.Pairwise (· < ·)/\∀ x∈r,0<=x/\x<c
theorem Srt.snoc (h:Srt c r) (h0:0<=c) (hx:c<=x):Srt (x+1) (r++[x]):=by
 refine ⟨pairwise_append.mpr ⟨h.1,List.pairwise_singleton _ _,λa ha b g=>?_⟩,λa ha=>?_⟩
 ·rw[mem_singleton.mp g]; have:=h.2 a ha; exact la5 hx this
 ·rcases mem_append.mp ha with ha | ha
  ·have:=h.2 a ha; exact la6 hx this
  ·rw[mem_singleton.mp ha]; exact la7 h0 hx
theorem Srt.mono (h:Srt c r) (hd:c<=d):Srt d r:=⟨h.1,λx g=>by have:=h.2 x g; exact la8 hd this⟩
theorem Srt.nil (c:Int):Srt c []:=⟨.nil,λuu h=>by cases h⟩
theorem qi (h:aF c=pre++y::post):y=pre.length/\pre.length<c:=by
 have j:=congrArg List.length h
 rw[ba,length_append,length_cons] at j
 have g:(aF c)[pre.length]? = some y:=by rw[h,List.getElem?_append_right (le_refl _),Nat.sub_self]; rfl
 have i:pre.length<c:=by exact la9 j
 unfold aF at g
 rw[List.getElem?_map,List.getElem?_range i] at g
 exact ⟨(Option.some.inj g).symm,i⟩
theorem Dy {c:Nat}{pre post:List Int}{y:Int}{G:Prop}(h:aF c=pre++y::post) (k:y=pre.length->pre.length<c->G):G:=aa (qi h) k
def CO (k n:Nat) (c:Int) (t:List (List Int)):Prop:=t≠[]/\t.length<=n/\∀ r∈t,r.length<=k/\Srt c r
noncomputable def subs:Nat->List (List Int)
 | 0=>[[]]
 | k+1=>subs k++(subs k).map λr=>r++[(k:Int)]
theorem pS:∀ c≤6,∀ r∈subs c,((subs c).filter λr'=>decide ((r'.length:Int)=r.length)).length<=63:=by decide +kernel
theorem qj {t:List (List Int)}(h:∀ r∈t,(t.filter λr'=>decide ((r'.length:Int)=r.length)).length<=63) (k:Int):(t.filter λr=>decide ((r.length:Int)=k)).length<=63:=by
 cases e:t.filter λr=>decide ((r.length:Int)=k) with
 | nil=>exact zero_le _
 | cons r u=>
  obtain ⟨i,g⟩:=mem_filter.mp (show r∈t.filter λr=>decide ((r.length:Int)=k) by rw[e]; exact .head _)
  have:=h r i
  rw[of_decide_eq_true g,e] at this
  exact this
theorem rj (C:Calls) (c:Nat) (hc:c<=7):∃ r,aD C l_subsets [.d (.int c)] = .ok r/\∃ t,r.1 = .d (ah t)/\t=subs c/\[]∈t/\CO c 128 c t:=by
 unfold l_subsets
 refine ja rfl λl H=>?_
 refine Runs.set H rp λl H _=>?_
 refine Runs.for (g:=PyData.int) (xs:=aF c) (λi l=>∃ t,Has l [("_law_rows", .d (ah t)),("_law_count", .d (.int c))]/\t=subs i.length/\[]∈t/\CO i.length (2^i.length) i.length t) (da (H.ev rfl) (Ki hc)) (λσ0 h _=>(pE ([[]]) ((h _ H).sub ⟨rfl,rfl,trivial⟩) rfl (.head _) (by simp) (by simp) (λr hr=>?_))) ?_ ?_
 ·cases mem_singleton.mp hr; exact ⟨le_refl _,.nil _⟩
 ·intro i y post hl l o
  refine m8 (o) λt H p h0 g1 u k=>?_
  clear o
  refine Dy hl λhy hp=>?_
  have j:2^i.length<=2^6:=Nat.pow_le_pow_right (by decide) (Kt hc hp)
  have H1:=H.mk "_law_thing" (.d (.int y))
  obtain ⟨m1,e1,_⟩:=gL (λr=>r++[y]) .deep (aQ (H1.ev (C:=C) (x:="_law_rows") rfl) (bS t .sh)) (a:=.bin .add (.name "_law_row") (.list (.cons (.name "_law_thing") .nil))) (z:="_law_row") (λr hr=>by
   have H2:=H1.mk "_law_row" (.d (ac r))
   exact ig (H2.ev rfl) (nr (H2.ev rfl)) (by have:=(k r hr).1; rw[length_singleton]; exact KF hc hp this))
  obtain ⟨m2,e2⟩:=vK (H1.ev (C:=C) (x:="_law_rows") rfl) e1 (by rw[length_map]; exact Kz u j)
  refine Runs.set H1 e2 λl H _=>Runs.nil (pE _ (H.sub ⟨rfl,rfl,trivial⟩) (by rw[p,hy,length_append,length_singleton]; rfl) (mem_append_left _ h0) ?_ ?_ (λr hr=>?_))
  ·exact λq=>g1 (List.append_eq_nil_iff.mp q).1
  ·rw[length_append,length_append,length_map,length_singleton,Nat.pow_succ]; exact Km u
  ·rw[length_append,length_singleton]
   rcases mem_append.mp hr with hr | hr
   ·obtain ⟨q1,v⟩:=k r hr; exact ⟨by exact Nat.le_succ_of_le ‹_›,v.mono C5⟩
   ·refine bG hr λr' hr' K4=>?_
    (clear hr; subst K4)
    refine aa (k r' hr') λq1 v=>?_
    rw[length_append,length_singleton]
    exact ⟨by exact Nat.lt_succ_of_le ‹_›,(v.snoc (natCast_nonneg _) (x:=y) (KD hy)).mono (Ks hy)⟩
 ·intro σ' n
  refine m8 (n) λt H p h0 g1 u k=>?_
  clear n
  refine ai (H "_law_rows" _ rfl) λm e=>?_
  rw[ba] at p u k
  have j:2^c<=2^7:=Nat.pow_le_pow_right (by decide) ‹_›
  exact Runs.retn e (af _ rfl (pE t rfl p h0 g1 (by exact le_trans ‹_› ‹_›) k))
section
theorem eF (lib:Lib L) (ha:ev (mkC L (n+1)) a σ = .ok (.d (ac s),m)) (hb:ev (mkC L (n+1)) b σ = .ok (sI k)) (hk:0<=k):ev (mkC L (n+1)) (.call "_law_cell_at" (.cons a (.cons b .nil))) σ = .ok (sI (cw s k)) :=
 aP lib.cell (ag ha (ag hb aq)) rfl (qB _ s k hk)
end
theorem eW {L:List (String×Fn)}{n:Nat}{σ:St}{f:String}{fn:Fn}{es:Es}{q:List (V×Mode)}{vs:List V}{P:V×Mode->Prop}(hL:L.lookup f=some fn) (he:evs (mkC L (n+1)) es σ = .ok q) (hv:q.map (·.1)=vs) (h:∃ r,aD (mkC L n) fn vs = .ok r/\P r) (hp:jg f=true:=by decide):∃ r,ev (mkC L (n+1)) (.call f es) σ = .ok r/\P r:=by
 refine ae (h) λr i g=>?_
 clear h
 exact (af r (aP hL he hv i hp) g)
theorem aT (c:Nat):(aF c).Pairwise (· < ·):=by
 unfold aF
 rw[pairwise_map]
 exact List.pairwise_lt_range.imp λ{a b} h=>by exact Dg h
noncomputable def bf (one:List Int) (o x:Int):List Int:=dl (one.filter (λy=>!decide (y=o))++[x])
noncomputable def fe (t:List (List Int)) (one other:List Int) (x:Int):Bool:=one.any λo=>!decide (o∈other)&&decide (bf one o x∈t)
noncomputable def mo (c:Nat) (t:List (List Int)):Option (List Int×List Int×Int) :=
 t.findSome? λh=>(aF c).findSome? λx=>if x∈h then none else t.findSome? λg=>if (decide (x∈g) && !fe t h g x)=true then some (h,g,x) else none
theorem qK (p:α->Bool) (l:List α):l.findSome? (λx=>if p x=true then some () else none)=if l.any p=true then some () else none:=by
 induction l with
 | nil=>rfl
 | cons a l ih=>
  rw[List.findSome?_cons,List.any_cons]
  cases p a with
  | true=>rfl
  | false=>simpa using ih
theorem Cb (H:Has σ l) (hz:z ≠ "x") (ha:ev C a σ = .ok (.d (ac c),m)) (hd:ev C d σ = .ok (sI t)) (hb:∀ i:Int,ev C b (upd σ z (sI i)) = .ok (sI o)) (h:c.length<63) :
  ev C (.bi1 .sorted (.bin .add (.compif (.name z) z (.e a) (.cmp .ne (.name z) b)) (.list (.cons d .nil)))) σ = .ok (.d (ac (bf c o t)),.deep):=by
 have g:(c.filter λx=>!decide (x=o)).length<=c.length:=List.length_filter_le ..
 refine lZ (ig (kJ (λi=>!decide (i=o)) (aQ ha (dD c m)) λi _=>lO (ug (p:=sI i) (if_pos rfl) rfl) (hb i)) (nr hd) (by rw[length_singleton]; exact KL h g)) ?_
 rw[length_append,length_singleton]; exact Kl h g
theorem nR (C:Calls) (c:List Int) (o t:Int) (h:c.length<63):aD C p_exchanged [.d (ac c),.d (.int o),.d (.int t)] = .ok (.d (ac (bf c o t)),.deep):=by
 unfold p_exchanged
 exact bM rfl λg H=>Runs.ret (Cb H (by decide) (H.ev rfl) (H.ev rfl) (λi=>(H.upd "one" (.d (.int i)) .deep).ev rfl) h) rfl
def Kn (pre:List (List Int)) (v:V):Prop:=(pre=[]/\v = .dic0)\/∃ ks,v = .dicT ks/\ks.length<=pre.length/\(∀ k,k∈ks↔k∈pre)/\ks.Nodup
theorem jN (r:List Int):dX (aK r)=some r:=dO r
theorem Kn.add (K:Kn pre v) (r:List Int) (hl:pre.length<=1000):∃ v',iK σ z v (aK r) = .ok (upd σ z (v',.deep),.next)/\Kn (pre++[r]) v':=by
 rcases K with ⟨rfl,rfl⟩ | ⟨ks,rfl,h1,h2,h3⟩
 ·refine (af (.dicT [r]) ?_ (.inr (bU ([r]) rfl (le_refl _) (λk=>Iff.rfl) (by simp))))
  simp only[iK,jN,show d9 (aK r)=none from rfl]
 ·refine (af (.dicT (if r∈ks then ks else ks++[r])) ?_ (.inr (bU _ rfl ?_ (λk=>?_) ?_)))
  ·show (match dX (aK r) with | some i=>if ks.length<=lim then Out.ok (upd σ z (V.dicT (if i∈ks then ks else ks++[i]),Mode.deep),Flw.next) else .bad | none=>.bad)=_
   rw[jN]
   show (if ks.length<=lim then _ else _)=_
   rw[if_pos (by unfold lim; exact CH hl h1)]
  ·rw[length_append,length_singleton]
   by_cases e:r∈ks
   ·rw[if_pos e]; exact AL h1
   ·rw[if_neg e,length_append,length_singleton]; exact ld h1
  ·by_cases e:r∈ks
   ·rw[if_pos e,h2,mem_append,mem_singleton]
    exact ⟨.inl,λq=>q.elim id λq=>q▸(h2 r).mp e⟩
   ·rw[if_neg e,mem_append,mem_append,h2]
  ·by_cases e:r∈ks
   ·rw[if_pos e]; exact h3
   ·rw[if_neg e]; exact nodup_append.mpr ⟨h3,by simp,λa h b g q=>e (by rw[mem_singleton.mp g] at q; exact q▸h)⟩
theorem mJ (C:Calls) (t:List (List Int)) (hl:t.length<=1000):∃ r,aD C p_known_of [.d (ah t)] = .ok r/\∃ v,r=(v,.deep)/\Kn t v:=by
 unfold p_known_of
 refine ja rfl λσ H=>?_
 refine Runs.set H wK λσ H k=>?_
 refine Runs.for (g:=ac) (xs:=t) (λj σ=>∃ v,σ "known" = some (v,.deep)/\Kn j v) (aQ (H.ev rfl) (bS t .sh)) (λu _ hh=>(af .dic0 ((hh _ (by simp[dh,bQ])).trans k) (.inl ⟨rfl,rfl⟩))) ?_ ?_
 ·intro j y q n σ i
  refine ae (i) λv m K=>?_
  clear i
  have x:j.length<t.length:=by rw[n,length_append,length_cons]; exact KC
  refine ae (K.add (σ:=upd σ "choice" (mk (.d (ac y)))) (z:="known") y (Ia hl x)) λo h1 h2=>?_
  have l:upd σ "choice" (mk (.d (ac y))) "known" = some (v,.deep):=(if_neg (by decide)).trans m
  refine Runs.next (σ':=upd (upd σ "choice" (mk (.d (ac y)))) "known" (o,.deep)) ?_ (Runs.nil (af o (qA _ _ _) h2))
  simp only[db,sy (C:=C) (ug (C:=C) (σ:=upd σ "choice" (mk (.d (ac y)))) (z:="choice") (p:=(.d (ac y),.sh)) (if_pos rfl) rfl),Out.ok_bind,pJ,iB,l]
  rw[if_pos trivial,h1]; rfl
 ·intro σ' h
  refine ae (h) λv m K=>?_
  clear h
  exact Runs.retn m (af _ rfl (af v rfl K))
noncomputable def uc:Option (List Int×List Int×Int)->V×Mode
 | none=>(.d .none,.deep)
 | some q=>(.d (.tuple [ac q.1,ac q.2.1,.int q.2.2]),.deep)
noncomputable def p_need_row:Fn:=⟨["count", "things"],
(.cons (.assign "seen" .edic)
(.cons (.for1 "thing" (.e (.name "things"))
(.cons (.ite (.or (.cmp .lt (.name "thing") (.int 0)) (.or (.cmp .ge (.name "thing") (.name "count")) (.cmp .isin (.name "thing") (.name "seen"))))
(.cons (.raise "NoThing")
.nil)
.nil)
(.cons (.setitem "seen" (.name "thing"))
.nil)))
.nil))⟩
noncomputable def jG:Ss:=(.cons (.ite (.or (.cmp .lt (.name "thing") (.int 0)) (.or (.cmp .ge (.name "thing") (.name "count")) (.cmp .isin (.name "thing") (.name "seen"))))
(.cons (.raise "NoThing")
.nil)
.nil)
(.cons (.setitem "seen" (.name "thing"))
.nil))
def fu (c:Int) (xs:List Int):Prop:=(∀ x∈xs,0<=x/\x<c)/\xs.Nodup
def Sn (pre:List Int) (v:V):Prop:=(pre=[]/\v = .dic0)\/∃ ks,v = .dicI ks/\ks.length<=pre.length/\∀ k,k∈ks↔k∈pre
theorem Sn.has (K:Sn pre v) (x:Int):cM .isin (.d (.int x)) v = .ok (decide (x∈pre)):=by
 rcases K with ⟨rfl,rfl⟩ | ⟨ks,rfl,h1,h2⟩
 ·rfl
 ·show Out.ok (decide (x∈ks))=_
  rw[decide_eq_decide.mpr (h2 x)]
theorem Sn.add (K:Sn pre v) (x:Int) (hl:pre.length<=1000):∃ v',iK σ z v (.int x) = .ok (upd σ z (v',.deep),.next)/\Sn (pre++[x]) v':=by
 rcases K with ⟨rfl,rfl⟩ | ⟨ks,rfl,h1,h2⟩
 ·exact (af (.dicI [x]) rfl (.inr (aw ([x]) rfl (le_refl _) (λk=>Iff.rfl))))
 ·refine (af (.dicI (if x∈ks then ks else ks++[x])) ?_ (.inr (aw _ rfl ?_ (λk=>?_))))
  ·show (if ks.length<=lim then _ else _)=_
   rw[if_pos (by unfold lim; exact CH hl h1)]
  ·rw[length_append,length_singleton]
   by_cases e:x∈ks
   ·rw[if_pos e]; exact AL h1
   ·rw[if_neg e,length_append,length_singleton]; exact ld h1
  ·by_cases e:x∈ks
   ·rw[if_pos e,h2,mem_append,mem_singleton]
    exact ⟨.inl,λq=>q.elim id λq=>q▸(h2 x).mp e⟩
   ·rw[if_neg e,mem_append,mem_append,h2]
theorem o7 (hC:C "NoThing" = some g) (c:Int):∀ (xs pre:List Int) (σ:St) (v:V),Has σ [("count", .d (.int c))]->σ "seen" = some (v,.deep)->Sn pre v->fu c pre->pre.length+xs.length<=1000 ->
  (fu c (pre++xs)->∃ σ',bB (λy σ=>exs C jG (upd σ "thing" (mk (.d y)))) (xs.map .int) σ = .ok (σ',.next))/\(¬ fu c (pre++xs)->bB (λy σ=>exs C jG (upd σ "thing" (mk (.d y)))) (xs.map .int) σ = .exc "NoThing")
 | [],pre,σ,v,H,hs,K,hg,hl=>by
  rw[append_nil]
  exact ⟨λuu=>⟨σ,rfl⟩,λq=>absurd hg q⟩
 | x::xs,pre,σ,v,H,hs,K,hg,hl=>by
  have H1:Has (upd σ "thing" (mk (.d (.int x)))) [("thing", .d (.int x)),("count", .d (.int c))]:=H.mk "thing" (.d (.int x))
  have i:upd σ "thing" (mk (.d (.int x))) "seen" = some (v,.deep):=(if_neg (by decide)).trans hs
  have k:=H1.ev (C:=C) (x:="thing") rfl
  have e2:ev C (.cmp .isin (.name "thing") (.name "seen")) (upd σ "thing" (mk (.d (.int x)))) = .ok (sB (decide (x∈pre))):=cF k (by simp only[b7,i]; rfl) (K.has x)
  have m:ev C (.or (.cmp .lt (.name "thing") (.int 0)) (.or (.cmp .ge (.name "thing") (.name "count")) (.cmp .isin (.name "thing") (.name "seen")))) (upd σ "thing" (mk (.d (.int x)))) = .ok (sB (decide (x<0)||(decide (c<=x)||decide (x∈pre)))) :=
   gd (lL k (av 0)) λuu=>gd (CS k (H1.ev rfl)) λuu=>e2
  simp only[map_cons,bB]
  by_cases bad:x<0\/c<=x\/x∈pre
  ·have n:(decide (x<0)||(decide (c<=x)||decide (x∈pre)))=true:=by simpa using bad
   rw[n] at m
   have ng:¬ fu c (pre++x::xs):=λ⟨h1,h2⟩=>by
    have r:=h1 x (by simp)
    rcases bad with q | q | q
    ·exact Fp r q
    ·exact GT r q
    ·exact (nodup_append.mp h2).2.2 x q x (.head _) rfl
   have l:exs C jG (upd σ "thing" (mk (.d (.int x)))) = .exc "NoThing" := by
    unfold jG
    simp only[dA,ch]
    rw[k7 m]
    simp only[dA,ch,db,iA,hC,al]
    rfl
   refine ⟨λq=>absurd q ng,λuu=>?_⟩
   rw[l]; rfl
  ·have n:(decide (x<0)||(decide (c<=x)||decide (x∈pre)))=false:=by simpa using bad
   rw[n] at m
   obtain ⟨j,u,K'⟩:=K.add (σ:=upd σ "thing" (mk (.d (.int x)))) (z:="seen") x (by rw[length_cons] at hl; exact HS hl)
   have l:exs C jG (upd σ "thing" (mk (.d (.int x)))) = .ok (upd (upd σ "thing" (mk (.d (.int x)))) "seen" (j,.deep),.next):=by
    unfold jG
    rw[jI ((lf m).trans iZ)]
    refine (jI (σ':=upd (upd σ "thing" (mk (.d (.int x)))) "seen" (j,.deep)) ?_).trans iZ
    simp only[db,k,Out.ok_bind,i]
    show (iK _ _ _ _).calm=_
    rw[u]; rfl
   have o:fu c (pre++[x]):=by
    refine ⟨λy hy=>?_,nodup_append.mpr ⟨hg.2,by simp,λa ha b t q=>?_⟩⟩
    ·rcases mem_append.mp hy with h | h
     ·exact hg.1 y h
     ·rw[mem_singleton.mp h]; exact IX bad
    ·rw[mem_singleton.mp t] at q; (clear H1 K' e2 u n l k t hl i; subst q); exact bad (.inr (.inr ha))
   have p:=o7 hC c xs (pre++[x]) (upd (upd σ "thing" (mk (.d (.int x)))) "seen" (j,.deep)) j ((H1.upd "seen" j .deep).sub ⟨rfl,trivial⟩) (qA _ _ _) K' o (by rw[length_append,length_singleton]; rw[length_cons] at hl; exact DY hl)
   rw[append_assoc] at p
   rw[l]
   exact p
theorem kl (hC:C "NoThing" = some g) (c:Int) (xs:List Int) (hl:xs.length<=1000) :
  (fu c xs->aD C p_need_row [.d (.int c),.d (ac xs)] = .ok (.d .none,.deep))/\(¬ fu c xs->aD C p_need_row [.d (.int c),.d (ac xs)] = .exc "NoThing"):=by
 refine ae (dC ["count", "things"] [.d (.int c),.d (ac xs)] rfl) λσ k H=>?_
 have m:bN p_need_row.params [.d (.int c),.d (ac xs)]=some σ:=k
 have p:ex C (.assign "seen" .edic) σ = .ok (upd σ "seen" (.dic0,.deep),.next):=by
  simp only[bW]
  rw[jv (wK (C:=C) (σ:=σ))]
  rfl
 have H1:Has (upd σ "seen" (.dic0,.deep)) [("seen", .dic0),("count", .d (.int c)),("things", .d (ac xs))]:=H.upd "seen" .dic0 .deep
 have l:=aQ (C:=C) (H1.ev (C:=C) (x:="things") rfl) (dD xs .sh)
 refine aa (o7 hC c xs [] (consume (upd σ "seen" (.dic0,.deep)) (bD (.e (.name "things"))) .sh) .dic0 ((H1.sub (l':=[("count", .d (.int c))]) ⟨rfl,trivial⟩).consume _ _) ((dg.2 "seen" (by simp[dh,bQ])).trans (qA _ _ _)) (.inl ⟨rfl,rfl⟩) ⟨λuu h=>(nomatch h),.nil⟩ (by simpa using hl)) λj o=>?_
 have i:exs C p_need_row.body σ=(bB (λy σ=>exs C jG (upd σ "thing" (mk (.d y)))) (xs.map .int) (consume (upd σ "seen" (.dic0,.deep)) (bD (.e (.name "things"))) .sh)).bind λq=>match q.2 with | .next=>exs C .nil q.1 | .ret v=>.ok (q.1,.ret v):=by
  show exs C (.cons (.assign "seen" .edic) _) σ=_
  rw[jI p]
  simp only[dA,ch,db,je,qk,iA,l,Out.ok_bind]
  rfl
 refine ⟨λq=>?_,λq=>?_⟩
 ·refine ai (j q) λn j=>?_
  rw[j] at i
  unfold aD
  rw[m]
  dsimp only
  rw[i]
  simp only[Out.ok_bind,iZ]
 ·rw[o q] at i
  unfold aD
  rw[m]
  dsimp only
  rw[i]
  rfl
def NoF (c:Nat) (t:List (List Int)):Prop:=∀ one∈t,∀ x∈aF c,x∉one->∀ other∈t,x∈other->fe t one other x=true
theorem fault_none:mo c t=none↔NoF c t:=by
 unfold mo NoF
 rw[List.findSome?_eq_none_iff]
 refine forall_congr' λj=>imp_congr_right λuu=>?_
 rw[List.findSome?_eq_none_iff]
 refine forall_congr' λx=>imp_congr_right λuu=>?_
 by_cases hx:x∈j
 ·simp[hx]
 ·rw[if_neg hx,List.findSome?_eq_none_iff]
  refine ⟨λh _ g k i=>?_,λh g k=>?_⟩
  ·have:=h g k
   cases hc:fe t j g x with
   | true=>rfl
   | false=>rw[if_pos (by simp[i,hc])] at this; cases this
  ·by_cases i:x∈g
   ·rw[if_neg (by simp[h hx g k i])]
   ·rw[if_neg (by simp[i])]
theorem xF (h:∀ r,r∈t↔r∈u) (one other:List Int) (x:Int):fe t one other x=fe u one other x:=by
 unfold fe
 congr 1
 funext o
 rw[decide_eq_decide.mpr (h (bf one o x))]
theorem NoF.set (n:NoF c t) (h:∀ r,r∈t↔r∈u):NoF c u:=λi m x l o g k j=>by
 rw[<- xF h]
 exact n i ((h i).mpr m) x l o g ((h g).mpr k) j
theorem NoF.empty (n:NoF c t) (hr:∀ r∈t,Srt c r) (h:[]∈t):∀ r∈t,r=[]:=λr g=>by
 cases r with
 | nil=>rfl
 | cons x r=>
  have i:=(hr _ g).2 x (.head _)
  have:=n [] h x (mem_upTo.mpr i) (λq=>nomatch q) _ g (.head _)
  cases this
noncomputable def p_Rule:Fn:=⟨["count", "table"],
(.cons (.ite (.cmp .eq (.bi1 .len (.name "table")) (.int 0))
(.cons (.raise "NoChoice")
.nil)
.nil)
(.cons (.for1 "choice" (.e (.name "table"))
(.cons (.expr (.call "need_row" (.cons (.name "count") (.cons (.name "choice") .nil))))
.nil))
(.cons (.assign "known" (.call "known_of" (.cons (.comp (.bi1 .sorted (.name "choice")) "choice" (.e (.name "table"))) .nil)))
(.cons (.assign "full" (.comp (.bi1 .list (.name "choice")) "choice" (.e (.bi1 .sorted (.bi1 .list (.name "known"))))))
(.cons (.ite (.cmp .isnot (.call "fault" (.cons (.name "count") (.cons (.name "full") .nil))) .none)
(.cons (.raise "NoExchange")
.nil)
.nil)
.nil)))))⟩
structure LibR (L:List (String×Fn)):Prop extends Lib L where
 need:L.lookup "need_row" = some p_need_row
 rule:L.lookup "Rule" = some p_Rule
 nth:∃ f,L.lookup "NoThing" = some f
theorem nc (hL:L.lookup f=some fn) (he:evs (aM (mkC L (n+1))) es σ = .ok q) (hv:q.map (·.1)=vs) (h:aD (mkC L n) fn vs = .ok r) (hp:jg f=true:=by decide) (hl:f ≠ "law" := by decide):ev (aM (mkC L (n+1))) (.call f es) σ = .ok r:=by
 have g:aM (mkC L (n+1)) f=some λvs=>cC f (mkC L n) fn vs:=by
  unfold aM
  rw[if_neg hl]
  show (L.lookup f).map _=_; rw[hL]; rfl
 rw[gP g he,hv,nL hp,h]
theorem Srt.good (h:Srt c r):fu c r:=⟨h.2,h.1.imp λq e=>by rw[e] at q; exact lt_irrefl _ q⟩
theorem lw:∀ ks:List (List Int),dY (ks.map aK)=some ks
 | []=>rfl
 | k::ks=>by simp only[map_cons,dY,jN,lw ks,bind_some,map_some]
theorem sq (h0:ks≠[]) (h64:ks.length<64) (hne:ks.length<2\/[]∉ks):∃ m,b1V .sorted (.d (.list (ks.map aK))) = .ok (.d (.list ((aA ks).map aK)),m):=by
 refine ⟨fresh ((aA ks).map aK),?_⟩
 show eP (ks.map aK)=_
 unfold eP
 have g:aJ (ks.map aK)=none:=by
  cases ks with
  | nil=>exact absurd rfl h0
  | cons k ks=>rfl
 rw[if_pos (by rw[length_map]; exact h64),g]
 show eL _=_
 unfold eL
 rw[lw]
 show (if ks.length<2\/[]∉ks then _ else _)=_
 rw[if_pos hne]
theorem xX (r:List Int):b1V .list (.d (aK r)) = .ok (.d (ac r),.deep):=by
 show Out.ok (V.d (.list (r.map PyData.int)),fresh (r.map PyData.int))=_
 have:fresh (r.map PyData.int) = .deep:=by
  unfold fresh
  rw[if_pos]
  rw[all_map,all_eq_true]
  intro _ _; rfl
 rw[this]; rfl
noncomputable def p_rank:Fn:=⟨["self", "things"],
(.cons (.expr (.call "need_row" (.cons (.attr (.name "self") "count") (.cons (.name "things") .nil))))
(.cons (.ret (.bi1 .max (.comp (.bi1 .len (.compif (.name "thing") "thing" (.e (.name "choice")) (.cmp .isin (.name "thing") (.name "things")))) "choice" (.e (.attr (.name "self") "full")))))
.nil))⟩
noncomputable def p_together:Fn:=⟨["self", "things"],
(.cons (.ret (.cmp .eq (.meth (.name "self") "rank" (.cons (.name "things") .nil)) (.bi1 .len (.name "things"))))
.nil)⟩
noncomputable def jD (things choice:List Int):Nat:=(choice.filter λx=>decide (x∈things)).length
theorem jc:∀ {a b:List Int},a.Nodup->(∀ x∈a,x∈b)->a.length<=b.length
 | [],_,_,_=>zero_le _
 | x::a,b,hn,h=>by
  have i:=h x (.head _)
  refine aa (nodup_cons.mp hn) λk j=>?_
  have:=jc (b:=b.erase x) j λy g=>(List.mem_erase_of_ne (λ(q:y=x)=>k (q▸g))).mpr (h y (.tail _ g))
  rw[List.length_erase_of_mem i] at this
  have l:0<b.length:=List.length_pos_of_mem i
  rw[length_cons]; exact Ao this l
theorem nU {a b:List Int}(hn:a.Nodup) (h:∀ x∈a,x∈b) (hl:b.length<=a.length):∀ x∈b,x∈a:=λx i=>by
 by_cases q:x∈a
 ·exact q
 ·have:=jc (a:=x::a) (nodup_cons.mpr ⟨q,hn⟩) λy g=>(mem_cons.mp g).elim (λe=>e▸i) (h y)
  rw[length_cons] at this
  exact Jk hl this
theorem sS (h:choice.Nodup):jD things choice<=things.length:=jc (h.filter _) λx g=>of_decide_eq_true (mem_filter.mp g).2
theorem qq (hc:choice.Nodup) (ht:things.Nodup):jD things choice=things.length↔∀ x∈things,x∈choice:=by
 constructor
 ·intro h x g
  exact (mem_filter.mp (nU (hc.filter λx=>decide (x∈things)) (λx g=>of_decide_eq_true (mem_filter.mp g).2) (by unfold jD at h; exact zq h) x g)).1
 ·intro h
  exact le_antisymm (sS hc) (jc ht λx g=>mem_filter.mpr ⟨h x g,decide_eq_true g⟩)
theorem Cy (hL:L.lookup f=some fn) (he:evs (aM (mkC L (n+1))) es σ = .ok q) (hv:q.map (·.1)=vs) (h:aD (mkC L n) fn vs = .exc c) (hp:jg f=true:=by decide) (hl:f ≠ "law" := by decide):ev (aM (mkC L (n+1))) (.call f es) σ = .exc c:=by
 have g:aM (mkC L (n+1)) f=some λvs=>cC f (mkC L n) fn vs:=by
  unfold aM
  rw[if_neg hl]
  show (L.lookup f).map _=_; rw[hL]; rfl
 rw[gP g he,hv,nL hp,h]
theorem d0 (hC:C "Rule" = some g) (h:ev C a σ = .ok (.rule c d k,m)):ev C (.attr a "count") σ = .ok (sI c)/\ev C (.attr a "full") σ = .ok (mk (.d d))/\ev C (.attr a "size") σ = .ok (sI k):=by
 refine ⟨?_,?_,?_⟩<;>(simp only[fx,hC,al,h,Out.ok_bind]; rfl)
theorem CK (ha:ev C a σ = .ok (.d (ac xs),m)) (h:fE xs=some i):ev C (.bi1 .max a) σ = .ok (sI i):=by
 rw[d6 ha]
 show (al ((aJ (xs.map PyData.int)).bind fE) λi=>Out.ok (sI i))=_
 rw[dO,bind_some,h]
 rfl
theorem wH (lib:LibR L) (n:Nat) (c k:Int) (u:List (List Int)) (things:List Int) (hu:u≠[]) (hl:things.length<=1000) :
  (fu c things->∃ i,fE (u.map λr=>(jD things r:Int))=some i/\aD (aM (mkC L (n+2))) p_rank [.rule c (ah u) k,.d (ac things)] = .ok (sI i)) /\
  (¬ fu c things->aD (aM (mkC L (n+2))) p_rank [.rule c (ah u) k,.d (ac things)] = .exc "NoThing"):=by
 refine ai (lib.nth) λnt q=>?_
 have v:mkC L (n+1) "NoThing" = some λo=>cC "NoThing" (mkC L n) nt o:=by show (L.lookup "NoThing").map _=_; rw[q]; rfl
 have h:aM (mkC L (n+2)) "Rule" = some λo=>cC "Rule" (mkC L (n+1)) p_Rule o:=by
  unfold aM
  rw[if_neg (by decide)]
  show (L.lookup "Rule").map _=_; rw[lib.rule]; rfl
 refine aa (kl v c things hl) λs1 z=>?_
 refine ⟨λt=>?_,λt=>?_⟩
 ·refine ae (oV (xs:=u.map λr=>(jD things r:Int)) (by simpa using hu)) λi y _=>?_
  refine (af i y ?_)
  unfold p_rank
  refine bM rfl λm H=>?_
  have j:=H.ev (C:=aM (mkC L (n+2))) (x:="self") rfl
  refine Runs.expr H (nc lib.need (ag (d0 h j).1 (ag (H.ev (x:="things") rfl) aq)) rfl (s1 t)) λm H _=>?_
  have j:=H.ev (C:=aM (mkC L (n+2))) (x:="self") rfl
  refine Runs.ret (CK (sM (g:=ac) (l:=u) (λr=>(jD things r:Int)) (aQ (d0 h j).2.1 (bS u .sh)) λr _=>?_) y) rfl
  have H1:=H.mk "choice" (.d (ac r))
  exact eU (kJ (λx=>decide (x∈things)) (aQ (H1.ev rfl) (dD r .sh)) λx _=>by
   have H2:=H1.mk "thing" (.d (.int x))
   exact Dm (H2.ev (x:="thing") rfl) (H2.ev (x:="things") rfl))
 ·refine ae (dC ["self", "things"] [V.rule c (ah u) k,V.d (ac things)] rfl) λm p H=>?_
  have j:=H.ev (C:=aM (mkC L (n+2))) (x:="self") rfl
  have e1:=Cy lib.need (ag (d0 h j).1 (ag (H.ev (x:="things") rfl) aq)) rfl (z t)
  unfold aD
  rw[show bN p_rank.params [V.rule c (ah u) k,V.d (ac things)]=some m from p]
  dsimp only
  unfold p_rank
  simp only[dA,ch,fw,gN,e1,Out.exc_bind]
structure LibT (L:List (String×Fn)):Prop extends LibR L where
 rank:L.lookup "rank" = some p_rank
 tog:L.lookup "together" = some p_together
theorem sZ (lib:LibT L) (n:Nat) (hC:C "rank" = mkC L (n+3) "rank") (ha:ev C a σ = .ok (.rule c (ah u) k,m)) (hb:ev C b σ = .ok (.d (ac things),m')) :
  ev C (.meth a "rank" (.cons b .nil)) σ=aD (aM (mkC L (n+2))) p_rank [.rule c (ah u) k,.d (ac things)]:=by
 have h:C "rank" = some λg=>cC "rank" (mkC L (n+2)) p_rank g:=by rw[hC]; show (L.lookup "rank").map _=_; rw[lib.rank]; rfl
 simp only[d8,ha,Out.ok_bind,dB,al,h,bc,bi,hb,map_cons,map_nil]
 rfl
theorem pA (lib:LibT L) (n:Nat) (c k:Int) (u:List (List Int)) (things:List Int) (hu:u≠[]) (hl:things.length<=1000) :
  (fu c things->∃ i,fE (u.map λr=>(jD things r:Int))=some i/\aD (aM (mkC L (n+3))) p_together [.rule c (ah u) k,.d (ac things)] = .ok (sB (decide (i=things.length)))) /\
  (¬ fu c things->aD (aM (mkC L (n+3))) p_together [.rule c (ah u) k,.d (ac things)] = .exc "NoThing"):=by
 refine aa (wH lib.toLibR n c k u things hu hl) λp o=>?_
 have m:aM (mkC L (n+3)) "rank" = mkC L (n+3) "rank" := by unfold aM; rw[if_neg (by decide)]
 refine ⟨λl=>?_,λl=>?_⟩
 ·refine ae (p l) λi q h=>?_
  refine (af i q ?_)
  unfold p_together
  refine bM rfl λg H=>?_
  refine Runs.ret (iI ((sZ lib n m (H.ev (x:="self") rfl) (H.ev (x:="things") rfl)).trans h) (eU (H.ev (x:="things") rfl))) rfl
 ·refine ae (dC ["self", "things"] [V.rule c (ah u) k,V.d (ac things)] rfl) λg j H=>?_
  have t:=(sZ lib n m (H.ev (x:="self") rfl) (H.ev (x:="things") rfl)).trans (o l)
  unfold aD
  rw[show bN p_together.params [V.rule c (ah u) k,V.d (ac things)]=some g from j]
  dsimp only
  unfold p_together
  simp only[dA,ch,gN]
  rw[show ev (aM (mkC L (n+3))) (.cmp .eq (.meth (.name "self") "rank" (.cons (.name "things") .nil)) (.bi1 .len (.name "things"))) g = .exc "NoThing" from by rw[eK,t]; rfl]
  rfl
structure LibH (L:List (String×Fn)):Prop extends Lib L where
structure Hd (c:Nat) (t:List (List Int)):Prop where
theorem nI (lib:LibR L) (he:evs (mkC L (n+1)) es σ = .ok q) (hv:q.map (·.1)=vs) (h:di (aM (mkC L n)) p_Rule vs = .ok r):ev (mkC L (n+1)) (.call "Rule" es) σ = .ok r:=by
 have g:mkC L (n+1) "Rule" = some λvs=>cC "Rule" (mkC L n) p_Rule vs:=by show (L.lookup "Rule").map _=_; rw[lib.rule]; rfl
 rw[gP g he,hv]
 exact h
theorem bt {a:List Int}(h:a.Pairwise (· < ·)):a.Nodup:=List.Pairwise.imp (R:=(· < ·)) (S:=(·≠·)) (λh=>Int.ne_of_lt h) h
theorem canF_iff:fe t one other x=true↔∃ o∈one,o∉other/\bf one o x∈t:=by
 unfold fe
 simp[any_eq_true]
noncomputable def l_row_is:Fn:=⟨["_law_found", "_law_due"],
(.cons (.ite (.or (.not (.isi (.name "_law_found") "list")) (.cmp .ne (.bi1 .len (.name "_law_found")) (.bi1 .len (.name "_law_due"))))
(.cons (.ret (.bool false))
.nil)
.nil)
(.cons (.for1 "_law_k" (.r1 (.bi1 .len (.name "_law_due")))
(.cons (.ite (.or (.not (.call "_law_whole" (.cons (.sub (.name "_law_found") (.name "_law_k")) .nil))) (.cmp .ne (.sub (.name "_law_found") (.name "_law_k")) (.sub (.name "_law_due") (.name "_law_k"))))
(.cons (.ret (.bool false))
.nil)
.nil)
.nil))
(.cons (.ret (.bool true))
.nil)))⟩
noncomputable def l_rows_are:Fn:=⟨["_law_found", "_law_due"],
(.cons (.ite (.or (.not (.isi (.name "_law_found") "list")) (.cmp .ne (.bi1 .len (.name "_law_found")) (.bi1 .len (.name "_law_due"))))
(.cons (.ret (.bool false))
.nil)
.nil)
(.cons (.for1 "_law_k" (.r1 (.bi1 .len (.name "_law_due")))
(.cons (.ite (.not (.call "_law_row_is" (.cons (.sub (.name "_law_found") (.name "_law_k")) (.cons (.sub (.name "_law_due") (.name "_law_k")) .nil))))
(.cons (.ret (.bool false))
.nil)
.nil)
.nil))
(.cons (.ret (.bool true))
.nil)))⟩
structure LibM (L:List (String×Fn)):Prop extends LibR L where
theorem lx (lib:Lib L) (n:Nat) (r:List Int) (hl:r.length<=1000):aD (mkC L (n+1)) l_row_is [.d (ac r),.d (ac r)] = .ok (sB true):=by
 unfold l_row_is
 refine bM rfl λi H=>?_
 refine Runs.no (gd (p:=false) (q:=false) (b9 (t:=true) (pG (H.ev (x:="_law_found") rfl) rfl)) λuu=>(lO (eU (H.ev (x:="_law_found") rfl)) (eU (H.ev (x:="_law_due") rfl))).trans (by simp)) ?_
 refine Runs.for (g:=PyData.int) (xs:=aF r.length) (λj i=>Has i [("_law_found", .d (ac r)),("_law_due", .d (ac r))]) (da (eU (H.ev (x:="_law_due") rfl)) (xO hl)) (λu h _=>(h _ H).sub ⟨rfl,rfl,trivial⟩) ?_ λi H=>Runs.ret (nq true) rfl
 intro j y l z i H
 have k:=mem_upTo.mp (show y∈aF r.length by rw[z]; simp)
 have H1:=H.mk "_law_k" (.d (.int y))
 obtain ⟨v,m⟩:∃ v,r[y.toNat]? = some v:=⟨_,List.getElem?_eq_getElem (tK k)⟩
 have o:ev (mkC L (n+1)) (.sub (.name "_law_found") (.name "_law_k")) (upd i "_law_k" (mk (.d (.int y)))) = .ok (sI v):=mE (H1.ev rfl) (H1.ev rfl) k.1 m
 have e2:ev (mkC L (n+1)) (.sub (.name "_law_due") (.name "_law_k")) (upd i "_law_k" (mk (.d (.int y)))) = .ok (sI v):=mE (H1.ev rfl) (H1.ev rfl) k.1 m
 exact Runs.no (gd (p:=false) (q:=false) (b9 (t:=true) (aP lib.whole (ag o aq) rfl (jW _ v))) λuu=>(lO o e2).trans (by simp)) (Runs.nil (H1.sub ⟨rfl,rfl,trivial⟩))
theorem lN (lib:LibR L) (n:Nat):∃ g,mkC L (n+1) "Rule" = some g:=⟨_,by show (L.lookup "Rule").map _=_; rw[lib.rule]; rfl⟩
structure LibE (L:List (String×Fn)):Prop extends LibR L where
theorem x6 (h:(L.lookup f).isSome=true) (n:Nat):∃ g,mkC L (n+1) f=some g:=by
 refine bP h λj i=>?_
 exact ⟨_,by show (L.lookup f).map _=_; rw[i]; rfl⟩
theorem tn {ps:List String}(hl:ps.length=vs.length) (h:∀ σ,Has σ (ps.zip vs)->ex C s σ = .exc c):aD C ⟨ps,.cons s b⟩ vs = .exc c:=by
 refine ae (dC ps vs hl) λσ g H=>?_
 unfold aD
 rw[show bN (Fn.mk ps (.cons s b)).params vs=some σ from g]
 dsimp only
 rw[ch,h σ H]
 rfl
section
end
theorem oX:∀ {b:List Int},(∀ y∈b,p y=true->q y=true)->x∈b->q x=true->p x=false->(b.filter p).length<(b.filter q).length
 | y::b,h,hx,hq,hp=>by
  have j:(b.filter p).length<=(b.filter q).length:=by
   have:∀ l:List Int,(∀ y∈l,p y=true->q y=true)->(l.filter p).length<=(l.filter q).length:=λl=>by
    induction l with
    | nil=>exact λ_=>le_refl _
    | cons z l ih=>
     intro i
     have:=ih λy g=>i y (.tail _ g)
     rw[filter_cons,filter_cons]
     cases e:p z with
     | true=>rw[i z (.head _) e]; simp only[if_true,length_cons]; exact ld this
     | false=>cases q z<;>simp only[false_eq_true,if_true,if_false,length_cons]<;>lia
   exact this b λy g=>h y (.tail _ g)
  rw[filter_cons,filter_cons]
  rcases mem_cons.mp hx with rfl | hx
  ·rw[hp,hq]; simp only[false_eq_true,if_true,if_false,length_cons]; exact Am j
  ·have:=oX (b:=b) (λy g=>h y (.tail _ g)) hx hq hp
   cases e:p y with
   | true=>rw[h y (.head _) e]; simp only[if_true,length_cons]; exact FS this
   | false=>cases q y<;>simp only[false_eq_true,if_true,if_false,length_cons]<;>lia
theorem yV {a:List Int}{o:Int}(hn:a.Nodup) (ho:o∈a):(a.filter λy=>!decide (y=o)).length+1=a.length:=by
 have e:(a.filter λy=>!decide (y=o))=a.erase o:=by rw[hn.erase_eq_filter]; congr 1
 rw[e,List.length_erase_of_mem ho]
 have:=List.length_pos_of_mem ho
 exact FJ this
theorem NoF.le (nf:NoF c t) (hr:∀ r∈t,Srt c r) {b:List Int}(hb:b∈t):∀ (n:Nat) (a:List Int),a∈t->(b.filter λx=>!decide (x∈a)).length<=n->b.length<=a.length
 | n,a,ha,h=>by
  by_cases e:∀ x∈b,x∈a
  ·exact jc (hr b hb).good.2 e
  ·refine ai (Classical.not_forall.mp e) λx z=>?_
   refine aa (Classical.not_imp.mp z) λg i=>?_
   have u:=nf a ha x (mem_upTo.mpr ((hr b hb).2 x g)) i b hb g
   unfold fe at u
   refine ae (any_eq_true.mp u) λo ho h2=>?_
   refine cR h2 λh3 h4=>?_
   have h5:bf a o x∈t:=of_decide_eq_true h4
   have k:o∉b:=by simpa using h3
   have m:∀ y,y∈bf a o x↔(y∈a/\y≠o)\/y=x:=λy=>by
    unfold bf
    rw[(bH _).mem_iff,mem_append,mem_singleton,mem_filter]
    simp
   have hl:(bf a o x).length=a.length:=by
    unfold bf
    rw[(bH _).length_eq,length_append,length_singleton]
    exact yV (hr a ha).good.2 ho
   have l:=oX (p:=λy=>!decide (y∈bf a o x)) (q:=λy=>!decide (y∈a)) (x:=x) (b:=b) (λy v q=>by
    simp only[Bool.not_eq_true',decide_eq_false_iff_not] at q ⊢
    exact λj=>q ((m y).mpr (.inl ⟨j,λe=>k (e▸v)⟩))) g (by simpa using i) (by simp[m])
   cases n with
   | zero=>exact IR l h
   | succ n=>
    rw[<- hl]
    exact NoF.le nf hr hb n _ h5 (Js l h)
theorem NoF.len (nf:NoF c t) (hr:∀ r∈t,Srt c r) {a b:List Int}(ha:a∈t) (hb:b∈t):a.length=b.length:=le_antisymm (nf.le hr ha _ b hb (le_refl _)) (nf.le hr hb _ a ha (le_refl _))
noncomputable def p_order:Fn:=⟨["weights"],
(.cons (.ret (.order "weights" "thing"))
.nil)⟩
noncomputable def p_picked:Fn:=⟨["rule", "weights"],
(.cons (.ite (.cmp .ne (.bi1 .len (.name "weights")) (.attr (.name "rule") "count"))
(.cons (.raise "NoWeights")
.nil)
.nil)
(.cons (.assign "kept" (.list .nil))
(.cons (.for1 "thing" (.e (.call "order" (.cons (.name "weights") .nil)))
(.cons (.ite (.meth (.name "rule") "together" (.cons (.bin .add (.name "kept") (.list (.cons (.name "thing") .nil))) .nil))
(.cons (.append "kept" (.name "thing"))
.nil)
.nil)
.nil))
(.cons (.ret (.bi1 .sorted (.name "kept")))
.nil))))⟩
noncomputable def l_weight:Fn:=⟨["_law_cell", "_law_mode"],
(.cons (.ite (.cmp .eq (.name "_law_mode") (.int 0))
(.cons (.ret (.bin .sub (.bin .mod (.name "_law_cell") (.int 5)) (.int 2)))
.nil)
.nil)
(.cons (.ite (.cmp .eq (.name "_law_mode") (.int 1))
(.cons (.ret (.bin .sub (.bin .mod (.name "_law_cell") (.int 2001)) (.int 1000)))
.nil)
.nil)
(.cons (.assign "_law_far" (.bin .mod (.name "_law_cell") (.bin .pow (.int 10) (.int 60))))
(.cons (.ite (.and (.cmp .eq (.name "_law_mode") (.int 2)) (.cmp .eq (.bin .mod (.bin .fdiv (.name "_law_cell") (.int 10)) (.int 2)) (.int 0)))
(.cons (.retn "_law_far")
.nil)
.nil)
(.cons (.ret (.neg (.name "_law_far")))
.nil)))))⟩
theorem BO (h:ltL [a,b] [c,d]=false):c<=a/\(a=c->d<=b):=by
 unfold ltL ltL ltL at h
 by_cases e:a=c
 ·rw[if_pos e] at h
  refine ⟨by exact z4 e,λ_=>?_⟩
  by_cases e2:b=d
  ·exact z4 e2
  ·rw[if_neg e2] at h; simp at h; exact Aw h
 ·rw[if_neg e] at h
  simp at h
  exact ⟨by exact Aw h,λq=>absurd q e⟩
noncomputable def zm (ns:List Int):List (List Int×Nat):=((List.range ns.length).map λi=>(dS ns i,i)).mergeSort λa b=>!ltL b.1 a.1
theorem km (ns:List Int):(zm ns).Perm ((List.range ns.length).map λi=>(dS ns i,i)):=mergeSort_perm _ _
theorem AT (ns:List Int):(zm ns).Pairwise λa b=>ltL b.1 a.1=false:=by
 refine (List.pairwise_mergeSort (le:=λ(a b:List Int×Nat)=>!ltL b.1 a.1) (λa b c i g=>?_) (λa b=>?_) _).imp λh=>by simpa using h
 ·simp only[Bool.not_eq_true'] at i g ⊢
  cases q:ltL c.1 a.1 with
  | false=>rfl
  | true=>
   cases r:ltL a.1 b.1 with
   | true=>rw[cU q r] at g; cases g
   | false=>rw[<- eB r i,q] at g; cases g
 ·cases q:ltL b.1 a.1 with
  | false=>simp
  | true=>
   cases r:ltL a.1 b.1 with
   | true=>have:=cU q r; rw[iX] at this; cases this
   | false=>simp
theorem tu (ns:List Int):bJ ns=(zm ns).map λp=>(p.2:Int):=rfl
theorem cV (ns:List Int):(bJ ns).Perm (aF ns.length):=by
 rw[tu]
 refine ((km ns).map _).trans (List.Perm.of_eq ?_)
 rw[map_map]; rfl
theorem jZ (h:i∈bJ ns):0<=i/\i<ns.length:=mem_upTo.mp ((cV ns).mem_iff.mp h)
theorem jx (ns:List Int):(bJ ns).Nodup:=by
 refine (cV ns).symm.nodup ?_
 unfold aF
 exact pairwise_map.mpr (List.nodup_range.imp λh q=>h (FU q))
theorem lB (ns:List Int):(bJ ns).length=ns.length:=by rw[(cV ns).length_eq,ba]
noncomputable def wt (ns:List Int) (a:Int):Int:=ns.getD a.toNat 0
def Bef (ns:List Int) (a b:Int):Prop:=wt ns b<=wt ns a/\(wt ns a=wt ns b->a<=b)
theorem k8 (ns:List Int):(bJ ns).Pairwise (Bef ns):=by
 rw[tu,pairwise_map]
 refine List.Pairwise.imp_of_mem (λ{a b} m l h=>?_) (AT ns)
 refine ae (mem_map.mp ((km ns).mem_iff.mp m)) λi _ k=>?_
 subst k
 refine ae (mem_map.mp ((km ns).mem_iff.mp l)) λj _ g=>?_
 subst g
 have:=BO (show ltL [-(ns.getD j 0),(j:Int)] [-(ns.getD i 0),(i:Int)]=false from h)
 show ns.getD j 0<=ns.getD i 0/\(ns.getD i 0=ns.getD j 0->(i:Int)<=j)
 exact ⟨by exact FC this,λq=>this.2 (Ec q)⟩
theorem Bef.anti (h:Bef ns a b) (g:Bef ns b a):a=b:=by
 have e:wt ns a=wt ns b:=Int.le_antisymm g.1 h.1
 exact Int.le_antisymm (h.2 e) (g.2 e.symm)
theorem v5 {ns a b:List Int}(p:a.Perm b) (ha:a.Pairwise (Bef ns)) (hb:b.Pairwise (Bef ns)):a=b:=p.eq_of_pairwise (λx y _ _ h g=>h.anti g) ha hb
structure LibO (L:List (String×Fn)):Prop extends LibT L where
 order:L.lookup "order" = some p_order
 picked:L.lookup "picked" = some p_picked
 law:(L.lookup "law").isSome=true
 now:(L.lookup "NoWeights").isSome=true
theorem tH (hl:(L.lookup "law").isSome=true) (n:Nat) (ws:List Int) (h:ws.length<64):aD (mkC L (n+1)) p_order [.d (ac ws)] = .ok (.d (ac (bJ ws)),.deep):=by
 unfold p_order
 refine bM rfl λi H=>Runs.ret ?_ rfl
 refine ai (H "weights" (.d (ac ws)) rfl) λm k=>?_
 refine ai (Option.isSome_iff_exists.mp hl) λl g=>?_
 rw[fW]
 have:mkC L (n+1) "law" = some λj=>cC "law" (mkC L n) l j:=by show (L.lookup "law").map _=_; rw[g]; rfl
 rw[this]
 show fH (i "weights")=_
 rw[k]
 show al (aJ (ws.map PyData.int)) _=_
 rw[dO]
 show (if ws.length<64 then _ else _)=_
 rw[if_pos h]; rfl
theorem DM (h:ev C a σ = .ok (sI x)):ev C (.neg a) σ = .ok (sI (-x)):=by simp only[fz,h,Out.ok_bind]; rfl
noncomputable def ll (c m:Int):Int:=if m=0 then c%5-2 else if m=1 then c%2001-1000 else if m=2/\c/10%2=0 then c%10^60 else -(c%10^60)
theorem rV (C:Calls) (c m:Int):aD C l_weight [.d (.int c),.d (.int m)] = .ok (sI (ll c m)):=by
 unfold l_weight ll
 refine bM rfl λh H=>?_
 refine Runs.ite (iI (H.ev (x:="_law_mode") rfl) (av 0)) (λq=>?_) λq=>Runs.nil ?_
 ·rw[if_pos (of_decide_eq_true q)]
  exact Runs.ret (k6 (cY (H.ev rfl) (av 5) (by decide)) (av 2)) (Cont.ret rfl)
 rw[if_neg (of_decide_eq_false q)]
 refine Runs.ite (iI (H.ev (x:="_law_mode") rfl) (av 1)) (λq=>?_) λq=>Runs.nil ?_
 ·rw[if_pos (of_decide_eq_true q)]
  exact Runs.ret (k6 (cY (H.ev rfl) (av 2001) (by decide)) (av 1000)) (Cont.ret rfl)
 rw[if_neg (of_decide_eq_false q)]
 refine Runs.set H (cY (H.ev rfl) (y:=10^60) ((f7 (av 10) (av 60)).trans rfl) (by decide)) λh H g=>?_
 refine Runs.ite (ke (iI (H.ev (x:="_law_mode") rfl) (av 2)) λuu=>iI (cY (t0 (H.ev rfl) (av 10) (by decide) (by decide)) (av 2) (by decide)) (av 0)) (λq=>?_) λq=>Runs.nil ?_
 ·simp only[and_eq_true,decide_eq_true_eq] at q
  rw[if_pos q]
  exact Runs.retn g (Cont.ret rfl)
 ·have i:¬ (m=2/\c/10%2=0):=by simpa using q
  rw[if_neg i]
  exact Runs.ret (DM (H.ev rfl)) rfl
def dT (u:List (List Int)) (xs:List Int):Bool:=u.any λr=>xs.all λx=>decide (x∈r)
theorem togB_iff:dT u xs=true↔∃ r∈u,∀ x∈xs,x∈r:=by
 unfold dT
 simp only[any_eq_true,all_eq_true,decide_eq_true_eq]
noncomputable def cb (u:List (List Int)) (kept:List Int) (x:Int):List Int:=if dT u (kept++[x]) then kept++[x] else kept
noncomputable def aI (u:List (List Int)) (l:List Int):List Int:=l.foldl (cb u) []
noncomputable def jH (u:List (List Int)) (ws:List Int):List Int:=dl (aI u (bJ ws))
theorem eQ (u:List (List Int)) (l:List Int) (x:Int):aI u (l++[x])=cb u (aI u l) x:=by unfold aI; rw[List.foldl_append]; rfl
theorem kU (u:List (List Int)):∀ (l acc:List Int),(l.foldl (cb u) acc).Sublist (acc++l)
 | [],acc=>by rw[append_nil]; exact List.Sublist.refl _
 | x::l,acc=>by
  refine (kU u l _).trans ?_
  show (cb u acc x++l).Sublist (acc++([x]++l))
  rw[<- append_assoc]
  refine List.Sublist.append ?_ (List.Sublist.refl _)
  unfold cb
  split
  ·exact List.Sublist.refl _
  ·exact List.sublist_append_left _ _
theorem f9 (u:List (List Int)) (l:List Int):(aI u l).Sublist l:=kU u l []
theorem AZ (h:fE xs=some i):∀ x∈xs,x<=i:=by
 cases xs with
 | nil=>cases h
 | cons a xs=>
  have m:∀ (l:List Int) (a:Int),a<=l.foldl (λa b=>if a<b then b else a) a/\∀ x∈l,x<=l.foldl (λa b=>if a<b then b else a) a:=by
   intro l
   induction l with
   | nil=>exact λa=>⟨Int.le_refl _,λuu q=>nomatch q⟩
   | cons y l ih=>
    intro a
    rw[foldl_cons]
    by_cases q:a<y
    ·rw[if_pos q]
     refine aa (ih y) λg k=>?_
     exact ⟨by exact E5 q g,λx j=>(mem_cons.mp j).elim (λe=>e▸g) (k x)⟩
    ·rw[if_neg q]
     refine aa (ih a) λg k=>?_
     exact ⟨g,λx j=>(mem_cons.mp j).elim (λe=>by rw[e]; exact J2 q g) (k x)⟩
  refine aa (m xs a) λg k=>?_
  cases h
  exact λx j=>(mem_cons.mp j).elim (λe=>e▸g) (k x)
theorem BJ (nd:∀ r∈u,r.Nodup) (hg:things.Nodup) (hi:fE (u.map λr=>(jD things r:Int))=some i) (hu:u≠[]):decide (i=things.length)=dT u things:=by
 refine ae (oV (xs:=u.map λr=>(jD things r:Int)) (by simpa using hu)) λj x m=>?_
 obtain rfl:i=j:=Option.some.inj (hi.symm.trans x)
 refine ae (mem_map.mp m) λk g h=>?_
 have l:=AZ hi
 rw[Bool.eq_iff_iff,togB_iff,decide_eq_true_eq]
 refine ⟨λq=>⟨k,g,(qq (nd k g) hg).mp (Ju h q)⟩,λ⟨r,n,v⟩=>?_⟩
 have t:=(qq (nd r n) hg).mpr v
 have p:=l _ (mem_map.mpr ⟨r,n,rfl⟩)
 have o:=sS (things:=things) (nd k g)
 exact Hb h t p o
theorem CQ (lib:LibT L) (n:Nat) (hC:C "together" = mkC L (n+4) "together") (ha:ev C a σ = .ok (.rule c (ah u) k,m)) (hb:ev C b σ = .ok (.d (ac things),m')) :
  ev C (.meth a "together" (.cons b .nil)) σ=aD (aM (mkC L (n+3))) p_together [.rule c (ah u) k,.d (ac things)]:=by
 have h:C "together" = some λg=>cC "together" (mkC L (n+3)) p_together g:=by rw[hC]; show (L.lookup "together").map _=_; rw[lib.tog]; rfl
 simp only[d8,ha,Out.ok_bind,dB,al,h,bc,bi,hb,map_cons,map_nil]
 rfl
theorem iT (lib:LibO L) (n:Nat) (c:Nat) (k:Int) (u:List (List Int)) (ws:List Int) (hu:u≠[]) (nd:∀ r∈u,r.Nodup) (hc:c<=60) (hw:ws.length=c) :
  aD (mkC L (n+4)) p_picked [.rule c (ah u) k,.d (ac ws)] = .ok (.d (ac (jH u ws)),.deep):=by
 obtain ⟨gR,hR⟩:=x6 (L:=L) (f:="Rule") (by rw[lib.rule]; rfl) (n+3)
 unfold p_picked
 refine bM rfl λo H=>?_
 refine Runs.no ((lO (eU (H.ev (x:="weights") rfl)) (d0 hR (H.ev (x:="rule") rfl)).1).trans (by simp[hw])) ?_
 refine Runs.set H tL λo H m=>?_
 have eo:ev (mkC L (n+4)) (.call "order" (.cons (.name "weights") .nil)) o = .ok (.d (ac (bJ ws)),.deep):=aP lib.order (ag (H.ev (x:="weights") rfl) aq) rfl (tH lib.law (n+2) ws (by lia))
 refine Runs.for (g:=PyData.int) (xs:=bJ ws) (λj o=>Has o [("rule", .rule c (ah u) k),("kept", .d (ac (aI u j)))]/\o "kept" = some (.d (ac (aI u j)),.deep)) (aQ eo (dD _ .deep)) (λσ0 h hh=>⟨(h _ H).sub ⟨rfl,rfl,trivial⟩,(hh _ (by simp[dh,j6,ip,l6,bQ])).trans m⟩) ?_ ?_
 ·intro j y post hl o v
  refine aa (v) λH m=>?_
  clear v
  have hs:(aI u j).Sublist (bJ ws):=(f9 u j).trans (by rw[hl]; exact List.sublist_append_left _ _)
  have hy:y∉aI u j:=λq=>by
   have:=jx ws
   rw[hl,nodup_append] at this
   exact this.2.2 y ((f9 u j).subset q) y (.head _) rfl
  have hy0:=jZ (ns:=ws) (i:=y) (by rw[hl]; simp)
  have hg:fu c (aI u j++[y]):=by
   refine ⟨λx hx=>?_,?_⟩
   ·rcases mem_append.mp hx with q | q
    ·have:=jZ (hs.subset q); exact zz hw this
    ·rw[mem_singleton.mp q]; exact zz hw hy0
   ·rw[nodup_append]
    exact ⟨(jx ws).sublist hs,by simp,λa ha b hb q=>hy (by rw[<- mem_singleton.mp hb,<- q]; exact ha)⟩
  have l:(aI u j).length<=100:=by have:=hs.length_le; rw[lB] at this; exact E9 (le_trans hc (by decide)) hw this
  obtain ⟨i,hi,e1⟩:=(pA lib.toLibT n c k u (aI u j++[y]) hu (by rw[length_append]; simp; exact Hn l)).1 hg
  rw[BJ nd hg.2 hi hu] at e1
  have H1:=H.mk "thing" (.d (.int y))
  have p:upd o "thing" (mk (.d (.int y))) "kept" = some (.d (ac (aI u j)),.deep):=(if_neg (by decide)).trans m
  refine Runs.ite ((CQ lib.toLibT n rfl (H1.ev (x:="rule") rfl) (ig (H1.ev (x:="kept") rfl) (nr (H1.ev (x:="thing") rfl)) (by simp; exact Ed l))).trans e1) (λq=>?_) λq=>Runs.nil (Runs.nil ?_)
  ·refine Runs.app H1 p (by decide) (H1.ev rfl) (Iu l) λσ' H2 z _=>Runs.nil (Runs.nil ?_)
   have e:aI u (j++[y])=aI u j++[y]:=by rw[eQ]; unfold cb; rw[if_pos q]
   rw[e]
   exact ⟨H2.sub ⟨rfl,rfl,trivial⟩,z⟩
  ·have e:aI u (j++[y])=aI u j:=by rw[eQ]; unfold cb; rw[if_neg (by rw[q]; decide)]
   rw[e]
   exact ⟨H1.sub ⟨rfl,rfl,trivial⟩,p⟩
 ·intro o t
  refine aa (t) λH m=>?_
  clear t
  have hs:=f9 u (bJ ws)
  refine Runs.ret (lZ (H.ev rfl) (by have:=hs.length_le; rw[lB] at this; lia)) rfl
theorem Srt.sort (h:Srt c r) (pm:p.Perm r):dl p=r:=ic pm (h.1.imp λh=>Int.le_of_lt h)
section
end
theorem lV:∀ {l acc:List Int},y∈acc->y∈l.foldl (cb u) acc
 | [],_,h=>h
 | x::l,acc,h=>lV (l:=l) (by unfold cb; split; exact mem_append_left _ h; exact h)
theorem yO {u:List (List Int)}{y:Int}{l acc:List Int}(h:y∈l.foldl (cb u) acc):y∈acc\/y∈l:=mem_append.mp ((kU u l acc).subset h)
theorem mB (u:List (List Int)) (pre:List Int) (x:Int) (post:List Int):aI u (pre++x::post)=post.foldl (cb u) (cb u (aI u pre) x):=by
 unfold aI; rw[List.foldl_append]; rfl
theorem xK (h:y∈aI u pre):y∈aI u (pre++x::post):=by
 rw[mB]
 refine lV ?_
 unfold cb; split
 ·exact mem_append_left _ h
 ·exact h
theorem yY (h1:x∉pre) (h2:x∉post):x∈aI u (pre++x::post)↔dT u (aI u pre++[x])=true:=by
 rw[mB]
 constructor
 ·intro h
  rcases yO h with h | h
  ·unfold cb at h
   split at h
   ·assumption
   ·exact absurd ((f9 u pre).subset h) h1
  ·exact absurd h h2
 ·intro h
  refine lV ?_
  unfold cb
  rw[if_pos h]
  simp
theorem lM (hu:u≠[]):∀ (l acc:List Int),dT u acc=true->dT u (l.foldl (cb u) acc)=true
 | [],_,h=>h
 | x::l,acc,h=>lM hu l _ (by unfold cb; split; assumption; exact h)
theorem r5 (hn:l.Nodup) (e:l=pre++x::post):x∉pre/\x∉post:=by
 rw[e,nodup_append] at hn
 exact ⟨λh=>hn.2.2 x h x (.head _) rfl,(nodup_cons.mp hn.2.1).1⟩
theorem wT {c:Nat}{u:List (List Int)}{l:List Int}(hu:u≠[]) (hr:∀ r∈u,Srt c r) (hp:l.Perm (aF c)) (hn:l.Nodup):dl (aI u l)∈u/\∀ x,x∈dl (aI u l)↔x∈aI u l:=by
 refine ae (togB_iff.mp (lM (u:=u) hu l [] (togB_iff.mpr (ai (exists_mem_of_ne_nil u hu) λr h=>⟨r,h,λ_ q=>nomatch q⟩)))) λr i g=>?_
 have n:=hr r i
 have j:∀ x∈r,x∈aI u l:=λx v=>by
  have z:x∈l:=hp.mem_iff.mpr (mem_upTo.mpr (n.2 x v))
  refine bj (List.append_of_mem z) λk o e=>?_
  have t:=r5 hn e
  have h2:∀ y∈aI u k,y∈r:=λy m=>g y (show y∈aI u l by rw[e]; exact xK m)
  rw[e,yY t.1 t.2]
  refine togB_iff.mpr ⟨r,i,λy m=>?_⟩
  rcases mem_append.mp m with q | q
  ·exact h2 y q
  ·rw[mem_singleton.mp q]; exact v
 have p:(aI u l).Perm r:=(perm_ext_iff_of_nodup (hn.sublist (f9 u l)) n.good.2).mpr λx=>⟨g x,j x⟩
 rw[n.sort p]
 exact ⟨i,λx=>p.mem_iff.symm⟩
structure Step (u:List (List Int)) (ws g held:List Int) (x o:Int):Prop where
structure WayI (u:List (List Int)) (g:List Int) (pre h:List Int):Prop where
theorem l8 {c:Nat}{u:List (List Int)}{ws:List Int}(hu:u≠[]) (hr:∀ r∈u,Srt c r) (hw:ws.length=c):jH u ws∈u:=(wT hu hr (hw▸cV ws) (jx ws)).1
theorem uE (lib:Lib L) (n:Nat) (t:List (List Int)) (v:V) (K:Kn t v) (one other:List Int) (x:Int) (ht:t≠[]) (h:∀ o,aD (mkC L n) p_exchanged [.d (ac one),.d (.int o),.d (.int x)] = .ok (.d (ac (bf one o x)),.deep)):aD (mkC L (n+1)) p_goes [v,.d (ac one),.d (ac other),.d (.int x)] = .ok (sB (fe t one other x)):=by
 rcases K with ⟨q,_⟩ | ⟨ks,rfl,_,hk,_⟩
 ·exact absurd q ht
 unfold p_goes fe
 refine bM rfl λj H=>?_
 refine Runs.seek (g:=PyData.int) (xs:=one) (λj=>Has j [("known", .dicT ks),("one", .d (ac one)),("other", .d (ac other)),("thing", .d (.int x))]) (λo=>if (!decide (o∈other)&&decide (bf one o x∈t))=true then some () else none) (λuu=>sB true) (aQ (H.ev rfl) (dD one .sh)) (λl h _=>(h _ H).sub (bw rfl rfl rfl rfl trivial)) (λo p j H=>?_) (λq k _=>?_) λuu q k=>?_
 ·have H1:=H.mk "out" (.d (.int o))
  have m:ev (mkC L (n+1)) (.cmp .isin (.bi1 .tuple (.call "exchanged" (.cons (.name "one") (.cons (.name "out") (.cons (.name "thing") .nil))))) (.name "known")) (upd j "out" (mk (.d (.int o)))) = .ok (sB (decide (bf one o x∈t))):=by
   refine cF (sy (aP lib.exch (ag (H1.ev rfl) (ag (H1.ev rfl) (ag (H1.ev rfl) aq))) rfl (h o))) (H1.ev (x:="known") rfl) ?_
   show (al (dX (aK (bf one o x))) λi=>Out.ok (decide (i∈ks)))=_
   rw[jN]
   exact congrArg Out.ok (decide_eq_decide.mpr (hk _))
  refine Runs.ite (ke (Ac (H1.ev rfl) (H1.ev rfl)) λuu=>m) (λq=>Runs.ret (nq true) (Cont.ret (Sk.ret (q:=()) (if_pos q)))) λq=>Runs.nil (Runs.nil (Sk.next (if_neg (by rw[q]; decide)) (H1.sub (bw rfl rfl rfl rfl trivial))))
 ·rw[qK] at q
  refine Runs.ret (nq false) ?_
  by_cases e:(one.any λo=>!decide (o∈other)&&decide (bf one o x∈t))=true
  ·rw[if_pos e] at q; cases q
  ·rw[Bool.eq_false_iff.mpr e]
 ·rw[qK] at q
  by_cases e:(one.any λo=>!decide (o∈other)&&decide (bf one o x∈t))=true
  ·rw[e]
  ·rw[if_neg e] at q; cases q
theorem r9 (lib:Lib L) (n:Nat) (c:Nat) (t:List (List Int)) (hc:c<=1000) (hl:t.length<=1000) (h:∀ one∈t,∀ other∈t,∀ x∈other,x∉one->∀ o,aD (mkC L n) p_exchanged [.d (ac one),.d (.int o),.d (.int x)] = .ok (.d (ac (bf one o x)),.deep)):aD (mkC L (n+2)) p_fault [.d (.int c),.d (ah t)] = .ok (uc (mo c t)):=by
 unfold p_fault mo
 refine bM rfl λσ H=>?_
 obtain ⟨_,y,v,m,K⟩:=eW (σ:=σ) (n:=n+1) lib.known (es:=.cons (.name "table") .nil) (ag (H.ev rfl) aq) rfl (mJ _ t hl)
 subst m
 refine Runs.set H y λσ H _=>?_
 refine Runs.seek (g:=ac) (xs:=t) (λσ=>Has σ [("table", .d (ah t)),("count", .d (.int c)),("known", v)]) (λone=>(aF c).findSome? λx=>if x∈one then none else t.findSome? λother=>if (decide (x∈other) && !fe t one other x)=true then some (one,other,x) else none) (λq=>uc (some q)) (aQ (H.ev rfl) (bS t .sh)) (λl h _=>(h _ H).sub (bV rfl rfl rfl trivial)) (λone k σ H=>?_) (λq i _=>?_) λq p i=>?_
 ·have H1:=H.mk "one" (.d (ac one))
  refine Runs.seek (g:=PyData.int) (xs:=aF c) (λσ=>Has σ [("table", .d (ah t)),("count", .d (.int c)),("known", v),("one", .d (ac one))]) (λx=>if x∈one then none else t.findSome? λother=>if (decide (x∈other) && !fe t one other x)=true then some (one,other,x) else none) (λq=>uc (some q)) (da (H1.ev rfl) (xO hc)) (λl h _=>(h _ H1).sub (bw rfl rfl rfl rfl trivial)) (λx z σ H=>?_) (λq i H=>Runs.nil ?_) λq p i=>?_
  ·have H2:=H.mk "thing" (.d (.int x))
   refine Runs.ite (Ac (H2.ev rfl) (H2.ev rfl)) (λq=>?_) λq=>Runs.nil (Runs.nil ?_)
   ·have j:x∉one:=by simpa using q
    refine Runs.seek (g:=ac) (xs:=t) (λσ=>Has σ [("table", .d (ah t)),("count", .d (.int c)),("known", v),("one", .d (ac one)),("thing", .d (.int x))]) (λother=>if (decide (x∈other) && !fe t one other x)=true then some (one,other,x) else none) (λq=>uc (some q)) (aQ (H2.ev rfl) (bS t .sh)) (λl h _=>(h _ H2).sub (io rfl rfl rfl rfl rfl trivial)) (λother u σ H=>?_) (λq i H=>Runs.nil (Runs.nil ?_)) λq p i=>?_
    ·have H3:=H.mk "other" (.d (ac other))
     refine Runs.ite (ke (Dm (H3.ev rfl) (H3.ev rfl)) λr=>b9 (aP lib.goes (ag (H3.ev rfl) (ag (H3.ev rfl) (ag (H3.ev rfl) (ag (H3.ev rfl) aq)))) rfl (uE lib n t v K one other x (List.ne_nil_of_mem k) (h one k other u x (of_decide_eq_true r) j)))) (λq=>?_) λq=>Runs.nil (Runs.nil ?_)
     ·exact Runs.ret (Dt (wn (H3.ev rfl)) (wn (H3.ev rfl)) (H3.ev rfl)) (Cont.ret (Sk.ret (q:=(one,other,x)) (if_pos q)))
     ·exact Sk.next (if_neg (by rw[q]; decide)) (H3.sub (io rfl rfl rfl rfl rfl trivial))
    ·exact Sk.next ((if_neg j).trans q) (H.sub (bw rfl rfl rfl rfl trivial))
    ·exact Cont.ret (Sk.ret ((if_neg j).trans p))
   ·have j:x∈one:=by simpa using q
    exact Sk.next (if_pos j) (H2.sub (bw rfl rfl rfl rfl trivial))
  ·exact Sk.next q (H.sub (bV rfl rfl rfl trivial))
  ·exact Sk.ret p
 ·rw[q]; exact Runs.ret wc rfl
 ·rw[p]
theorem jQ (lib:LibR L) (n:Nat) (c:Nat) (t:List (List Int)) (hc:c<=1000) (ht:t≠[]) (hl:t.length<=63) (hr:∀ r∈t,r.length<=60/\Srt c r) (nf:NoF c t) :
  ∃ u x,di (aM (mkC L (n+3))) p_Rule [.d (.int c),.d (ah t)] = .ok (.rule c (ah u) (x:List Int).length,.deep)/\(∀ r,r∈u↔r∈t)/\u[0]? = some x/\∃ ks,u=aA ks/\ks.Nodup/\ks.length<=t.length:=by
 refine ai (lib.nth) λnt hnt=>?_
 have hNT:mkC L (n+2) "NoThing" = some λvs=>cC "NoThing" (mkC L (n+1)) nt vs:=by show (L.lookup "NoThing").map _=_; rw[hnt]; rfl
 have m:∀ σ,Has σ (["count", "table"].zip [V.d (.int c),V.d (ah t)])->Runs (aM (mkC L (n+3))) p_Rule.body σ (λj fl=>fl = .next/\∃ u:List (List Int),Has j [("count", .d (.int c))]/\j "full" = some (.d (ah u),.deep)/\(∀ r,r∈u↔r∈t)/\∃ ks,u=aA ks/\ks.Nodup/\ks.length<=t.length):=λσ H=>by
  refine Runs.no ((iI (mY (H.ev (x:="table") rfl)) (av 0)).trans (by rw[decide_eq_false (λq=>ht (List.eq_nil_of_length_eq_zero (GK q)))])) ?_
  refine Runs.for (g:=ac) (xs:=t) (λpre σ=>Has σ [("count", .d (.int c)),("table", .d (ah t))]) (aQ (H.ev (x:="table") rfl) (bS t .sh)) (λσ0 h _=>(h _ H).sub ⟨rfl,rfl,trivial⟩) ?_ ?_
  ·rintro pre y post hl' σ H
   have hy:y∈t:=by rw[hl']; simp
   have H1:=H.mk "choice" (.d (ac y))
   refine Runs.expr H1 (nc lib.need (ag (H1.ev (x:="count") rfl) (ag (H1.ev (x:="choice") rfl) aq)) rfl ((kl hNT c y (by have:=(hr y hy).1; lia)).1 (hr y hy).2.good)) λj H' _=>Runs.nil (H'.sub ⟨rfl,rfl,trivial⟩)
  ·rintro σ H
   obtain ⟨m1,e1,_,_⟩:=gL (C:=aM (mkC L (n+3))) (σ:=σ) (g:=ac) (l:=t) (z:="choice") (it:=.e (.name "table")) (a:=.bi1 .sorted (.name "choice")) (λr=>r) .deep (aQ (H.ev rfl) (bS t .sh)) λr i=>(lZ ((Has.nil.mk "choice" (.d (ac r))).ev rfl) (by have:=(hr r i).1; lia)).trans (by rw[rT (hr r i).2.1])
   rw[List.map_id'] at e1
   obtain ⟨r,e2,v,K9,K⟩:=mJ (mkC L (n+2)) t (mw hl)
   subst K9
   refine Runs.set H (nc lib.known (ag e1 aq) rfl e2) λσ H hk=>?_
   rcases K with ⟨q,_⟩ | ⟨ks,rfl,k1,k2,k3⟩
   ·exact absurd q ht
   have hne:ks.length<2\/[]∉ks:=by
    by_cases q:[]∈ks
    ·left
     have all:=nf.empty (λr i=>(hr r i).2) ((k2 _).mp q)
     rcases ks with _ | ⟨a,_ | ⟨b,ks⟩⟩
     ·simp
     ·simp
     ·have ha:=all a ((k2 a).mp (by simp))
      have hb:=all b ((k2 b).mp (by simp))
      (clear H e2 hk k1 k2 q; subst ha hb)
      simp at k3
    ·exact .inr q
   have h0:ks≠[]:=λq=>by
    refine ai (exists_mem_of_ne_nil t ht) λa ha=>?_
    have:=(k2 a).mpr ha
    rw[q] at this; cases this
   have e3:ev (aM (mkC L (n+3))) (.bi1 .list (.name "known")) σ = .ok (.d (.list (ks.map aK)),fresh (ks.map aK)):=by
    rw[d6 (H.ev (x:="known") rfl)]
    show pF .list ks=_
    unfold pF
    rw[if_pos ⟨rfl,by unfold lim; exact JL hl k1⟩]
   refine ai (sq h0 (EJ hl k1) hne) λm4 e4=>?_
   have e5:ev (aM (mkC L (n+3))) (.bi1 .sorted (.bi1 .list (.name "known"))) σ = .ok (.d (.list ((aA ks).map aK)),m4):=(d6 e3).trans e4
   refine am (gL (C:=aM (mkC L (n+3))) (σ:=σ) (g:=aK) (l:=aA ks) (z:="choice") (it:=.e (.bi1 .sorted (.bi1 .list (.name "known")))) (a:=.bi1 .list (.name "choice")) (λr=>r) .deep (aQ e5 rfl) λr _=>(d6 ((Has.nil.mk "choice" (.d (aK r))).ev rfl)).trans (xX r)) λm6 e6 hm6 _=>?_
   rw[List.map_id',hm6 rfl] at e6
   have k:∀ r,r∈aA ks↔r∈t:=λr=>((mergeSort_perm ks _).mem_iff).trans (k2 r)
   refine Runs.set H e6 λσ H hf=>?_
   have ef:=r9 lib.toLib n c (aA ks) hc (by have:=(mergeSort_perm ks (λa b=>!ltL b a)).length_eq; show (aA ks).length<=_; unfold aA; exact IS hl k1 this) λr i o ho x hx hn z=>by
    have q:=hr r ((k r).mp i)
    exact nR _ r z x (lt_of_le_of_lt q.1 (by decide))
   rw[fault_none.mpr (nf.set λr=>(k r).symm)] at ef
   refine Runs.no (cF (t:=false) (nc lib.fault (ag (H.ev (x:="count") rfl) (ag (H.ev (x:="full") rfl) aq)) rfl ef) wc rfl) ?_
   exact Runs.nil (aH rfl (bU (aA ks) (H.sub ⟨rfl,trivial⟩) hf k (aw ks rfl k3 k1)))
 refine ae (dC ["count", "table"] [V.d (.int c),V.d (ah t)] rfl) λσ hσ H=>?_
 obtain ⟨j,fl,he,K4,u,H',hu,hm,hks⟩:=m σ H
 subst K4
 obtain ⟨x,hx⟩:∃ x,u[0]? = some x:=by
  cases u with
  | nil=>
   refine ai (exists_mem_of_ne_nil t ht) λa ha=>?_
   have:=(hm a).mpr ha
   cases this
  | cons x u=>exact ⟨x,rfl⟩
 refine (bF u x ?_ hm hx hks)
 refine ai (H' "count" _ rfl) λmc p=>?_
 unfold di
 rw[show bN p_Rule.params [V.d (.int c),V.d (ah t)]=some σ from hσ]
 dsimp only
 rw[he]
 simp only[Out.ok_bind]
 unfold fZ
 rw[p,hu]
 show (al ((u.map ac)[0]?) _)=_
 rw[List.getElem?_map,hx]
 show Out.ok (V.rule c (.list (u.map ac)) ((x.map PyData.int).length:Int),Mode.deep)=_
 rw[length_map]
 rfl
structure LibI (L:List (String×Fn)):Prop extends LibO L where
 rowIs:L.lookup "_law_row_is" = some l_row_is
 rowsAre:L.lookup "_law_rows_are" = some l_rows_are
 weight:L.lookup "_law_weight" = some l_weight
theorem uj (lib:LibI L) (n:Nat) (t:List (List Int)) (hl:t.length<=1000) (hr:∀ r∈t,r.length<=1000):aD (mkC L (n+2)) l_rows_are [.d (ah t),.d (ah t)] = .ok (sB true):=by
 unfold l_rows_are
 refine bM rfl λi H=>?_
 refine Runs.no (gd (p:=false) (q:=false) (b9 (t:=true) (pG (H.ev (x:="_law_found") rfl) rfl)) λuu=>(lO (mY (H.ev (x:="_law_found") rfl)) (mY (H.ev (x:="_law_due") rfl))).trans (by simp)) ?_
 refine Runs.for (g:=PyData.int) (xs:=aF t.length) (λj i=>Has i [("_law_found", .d (ah t)),("_law_due", .d (ah t))]) (da (mY (H.ev (x:="_law_due") rfl)) (xO hl)) (λo h _=>(h _ H).sub ⟨rfl,rfl,trivial⟩) ?_ λi H=>Runs.ret (nq true) rfl
 intro j y m u i H
 have k:=mem_upTo.mp (show y∈aF t.length by rw[u]; simp)
 have H1:=H.mk "_law_k" (.d (.int y))
 obtain ⟨v,l⟩:∃ v,t[y.toNat]? = some v:=⟨_,List.getElem?_eq_getElem (tK k)⟩
 have e1:ev (mkC L (n+2)) (.sub (.name "_law_found") (.name "_law_k")) (upd i "_law_k" (mk (.d (.int y)))) = .ok (.d (ac v),.sh):=pU (H1.ev rfl) (H1.ev rfl) k.1 l
 have z:ev (mkC L (n+2)) (.sub (.name "_law_due") (.name "_law_k")) (upd i "_law_k" (mk (.d (.int y)))) = .ok (.d (ac v),.sh):=pU (H1.ev rfl) (H1.ev rfl) k.1 l
 exact Runs.no (b9 (t:=true) (aP lib.rowIs (ag e1 (ag z aq)) rfl (lx lib.toLib n v (hr v (mem_of_getElem? l))))) (Runs.nil (H1.sub ⟨rfl,rfl,trivial⟩))
theorem Runs.setD (H:Has σ l) (he:ev C e σ = .ok r) (hd:r.2 = .deep) (k:∀ σ',Has σ' ((x,r.1)::l)->σ' x=some r->(∀ y,y≠x->σ' y=σ y)->Runs C b σ' Post):Runs C (.cons (.assign x e) b) σ Post:=by
 refine Runs.cons (o:=(upd (consume σ (fv e) r.2) x r,.next)) (by simp only[bW,jv he,Out.ok_bind]) (k _ ((H.consume _ _).upd x r.1 r.2) (if_pos rfl) λy g=>(if_neg g).trans ?_)
 unfold consume
 rw[if_pos hd]
theorem lu:∀ t:List (List Int),ik (t.map ac)=some t
 | []=>rfl
 | r::t=>by
  rw[map_cons]
  show (aJ (r.map PyData.int)).bind _=_
  rw[dO,bind_some,lu t]; rfl
theorem tw (ha:ev C a σ = .ok (.d (ah t),m)) (h0:t≠[]) (h:t.length<64):∃ m,ev C (.bi1 .sorted a) σ = .ok (.d (ah (aA t)),m):=by
 refine ⟨fresh ((aA t).map ac),(d6 ha).trans ?_⟩
 show eP (t.map ac)=_
 unfold eP
 have g:aJ (t.map ac)=none/\dY (t.map ac)=none:=by
  cases t with
  | nil=>exact absurd rfl h0
  | cons k ks=>exact ⟨rfl,rfl⟩
 rw[if_pos (by rw[length_map]; exact h),g.1]
 show eL _=_
 unfold eL
 rw[g.2]
 show al (ik (t.map ac)) _=_
 rw[lu]; rfl
theorem cS (ks:List (List Int)) (r:List Int):r∈aA ks↔r∈ks:=(mergeSort_perm ks _).mem_iff
theorem fV (ks:List (List Int)):(aA ks).length=ks.length:=(mergeSort_perm ks _).length_eq
structure LibW (L:List (String×Fn)):Prop where
noncomputable def bK (p:Int×Int):PyData:=.tuple [.int p.1,.int p.2]
noncomputable def aE (l:List (Int×Int)):PyData:=.list (l.map bK)
theorem DD (ha:ev C a σ = .ok (sI x)) (hb:ev C b σ = .ok (sI y)):ev C (.tup (.cons a (.cons b .nil))) σ = .ok (.d (bK (x,y)),.deep):=by
 simp only[fi,bc,bi,ha,hb,Out.ok_bind]; rfl
theorem Runs.appT (H:Has σ l) (hz:σ z=some (.d (aE t),m)) (hm:m≠.sh) (h:ev C a σ = .ok (.d (bK p),.deep)) (hl:t.length<1000000) (k:∀ σ',Has σ' ((z,.d (aE (t++[p])))::l)->σ' z=some (.d (aE (t++[p])),m)->(∀ y,y≠z->σ' y=σ y)->Runs C bb σ' Post):Runs C (.cons (.append z a) bb) σ Post:=by
 refine Runs.cons (o:=(upd σ z (.d (aE (t++[p])),m),.next)) ?_ (k _ (H.upd z _ m) (if_pos rfl) λy g=>if_neg g)
 have i:kH (.d (aE t))=some (t.map bK):=rfl
 simp only[eV,h,Out.ok_bind,pJ,iB,hz,i,if_neg hm]
 rw[kR (by rw[length_append,length_map]; exact hl)]
 unfold aE; rw[map_append]; rfl
theorem xa (p:Int×Int):bK p = .tuple ([p.1,p.2].map .int):=rfl
theorem lI (l:List (Int×Int)):okc (aE l)=true:=(show Low 3 (aE l) from .list λx g=>by
 refine bG g λp _ e=>?_
 rw[<- e]
 exact BM [p.1,p.2] 0).okc
theorem oE:∀ l:List (Int×Int),PyData.eqvAll (l.map bK) (l.map bK)=true
 | []=>by rw[map_nil,PyData.eqvAll]
 | p::l=>by
  rw[map_cons,PyData.eqvAll,oE l,xa,PyData.eqv,iM]
  simp
theorem qQ (l:List (Int×Int)):PyData.eqv (aE l) (aE l)=true:=by unfold aE; rw[PyData.eqv]; exact oE l
theorem zF (ha:ev C a σ = .ok (.d (aE l),m)) (hb:ev C b σ = .ok (.d (aE l),m')):ev C (.cmp .ne a b) σ = .ok (sB false):=cF ha hb (by
 show (if okc (aE l)&&okc (aE l) then Out.ok (!PyData.eqv (aE l) (aE l)) else .bad)=_
 rw[lI,qQ]; rfl)
theorem Bm (l:List (Int×Int)):(l.map bK).all sx=true:=by rw[all_map,all_eq_true]; intro _ _; rfl
theorem sJ (ha:ev C a σ = .ok (.d (aE l),m)):ev C (.bi1 .list a) σ = .ok (.d (aE l),.deep):=(d6 ha).trans (by
 show Out.ok (V.d (.list (l.map bK)),fresh (l.map bK))=_
 unfold fresh
 rw[if_pos (Bm l)]; rfl)
noncomputable def eX:Fn:=⟨["count", "size"],
(.cons (.assign "rows" (.list (.cons (.list .nil) .nil)))
(.cons (.for1 "turn" (.r1 (.name "size"))
(.cons (.assign "longer" (.list .nil))
(.cons (.for1 "row" (.e (.name "rows"))
(.cons (.assign "first" (.int 0))
(.cons (.ite (.cmp .gt (.bi1 .len (.name "row")) (.int 0))
(.cons (.assign "first" (.bin .add (.sub (.name "row") (.neg (.int 1))) (.int 1)))
.nil)
.nil)
(.cons (.for1 "thing" (.r2 (.name "first") (.bin .add (.bin .add (.bin .sub (.name "count") (.name "size")) (.name "turn")) (.int 1)))
(.cons (.append "longer" (.bin .add (.name "row") (.list (.cons (.name "thing") .nil))))
.nil))
.nil))))
(.cons (.assign "rows" (.name "longer"))
.nil))))
(.cons (.retn "rows")
.nil)))⟩
theorem xG (h:xs.Nodup):(dl xs).Pairwise (· < ·):=((kK xs).and ((bH xs).nodup_iff.mpr h)).imp λh=>Int.lt_iff_le_and_ne.mpr h
theorem pL {a:List Int}{o:Int}(hn:a.Nodup) (ho:o∈a):a.Perm (o::a.filter λy=>!decide (y=o)):=(perm_ext_iff_of_nodup hn (nodup_cons.mpr ⟨λq=>by simpa using (mem_filter.mp q).2,hn.filter _⟩)).mpr λz=>by
 rw[mem_cons,mem_filter]
 by_cases e:z=o
 ·simp[e,ho]
 ·simp[e]
theorem A7 {a:List Int}{o x:Int}(hn:a.Nodup) (hx:x∉a):(a.filter (λy=>!decide (y=o))++[x]).Nodup:=by
 rw[nodup_append]
 exact ⟨hn.filter _,by simp,λp h q g e=>hx (by rw[mem_singleton.mp g] at e; exact e▸(mem_filter.mp h).1)⟩
theorem lT (h:Srt n a) (ho:o∈a) (hx:x∉a) (h0:0<=x/\x<n):Srt n (bf a o x)/\(bf a o x).length=a.length:=by
 have nd:=bt h.1
 refine ⟨⟨xG (A7 nd hx),λy g=>?_⟩,?_⟩
 ·unfold bf at g
  rcases mem_append.mp ((bH _).mem_iff.mp g) with q | q
  ·exact h.2 y (mem_filter.mp q).1
  ·rw[mem_singleton.mp q]; exact h0
 ·unfold bf
  rw[(bH _).length_eq,length_append,length_singleton,(pL nd ho).length_eq]; rfl
def Uni (n:Int) (k:Nat) (t:List (List Int)):Prop:=∀ r,r∈t↔Srt n r/\r.length=k
theorem sX {n k:Nat}{t:List (List Int)}(h:Uni n k t):NoF n t:=by
 intro j ho x hx v g m l
 refine aa ((h _).mp ho) λr u=>?_
 refine aa ((h _).mp m) λs2 z=>?_
 refine canF_iff.mpr ?_
 apply Classical.byContradiction
 intro q
 have p:∀ o∈j,o∈g:=λo i=>Classical.byContradiction λy=>by
  refine aa (lT (o:=o) r i v (mem_upTo.mp hx)) λe1 e2=>?_
  exact q (aw o i y ((h _).mpr ⟨e1,e2.trans u⟩))
 exact v (nU (bt r.1) p (by rw[u,z]; exact le_refl _) x l)
theorem Uni.same (h:Uni n k t) (hm:∀ r,r∈u↔r∈t):Uni n k u:=λr=>(hm r).trans (h r)
theorem jt [DecidableEq α]:∀ {a b:List α},a.Nodup->(∀ x∈a,x∈b)->a.length<=b.length
 | [],b,_,_=>zero_le _
 | x::a,b,hn,h=>by
  have i:=h x (.head _)
  have:=jt (b:=b.erase x) (nodup_cons.mp hn).2 λy g=>(List.mem_erase_of_ne (λ(e:y=x)=>(nodup_cons.mp hn).1 (e▸g))).mpr (h y (.tail _ g))
  rw[List.length_erase_of_mem i] at this
  have:=List.length_pos_of_mem i
  rw[length_cons]; exact Ao ‹_› this
noncomputable def rng (i j:Int):List Int:=(List.range (j-i).toNat).map λ(k:Nat)=>i+(k:Int)
theorem mem_rng:x∈rng i j↔i<=x/\x<j:=by
 unfold rng
 rw[mem_map]
 refine ⟨λ⟨k,hk,e⟩=>?_,λh=>(af ((x-i).toNat) ?_ ?_)⟩
 ·rw[List.mem_range] at hk
  subst e
  exact ⟨by exact J1,by exact G6 hk⟩
 ·rw[List.mem_range]; exact DK h
 ·exact EB h
theorem Du (i j:Int):(rng i j).Nodup:=by
 unfold rng
 exact pairwise_map.mpr (List.nodup_range.imp λh e=>h (EE e))
noncomputable def fB (r:List Int):Int:=match r.getLast? with
 | some y=>y+1
 | none=>0
noncomputable def cO (m:Int) (t:List (List Int)):List (List Int):=t.flatMap λr=>(rng (fB r) m).map λx=>r++[x]
theorem mf (h:Srt n r):fB r<=x↔(∀ y∈r,y<x)/\0<=x:=by
 unfold fB
 cases e:r.getLast? with
 | none=>
  rw[List.getLast?_eq_none_iff] at e
  subst e
  exact ⟨λq=>⟨λy j=>(nomatch j),q⟩,λq=>q.2⟩
 | some y=>
  refine ai (List.getLast?_eq_some_iff.mp e) λl g=>?_
  subst g
  have m:=pairwise_append.mp h.1
  have k:=h.2 y (by simp)
  refine ⟨λq=>⟨λz i=>?_,by show 0<=x; have:y+1<=x:=q; exact JB k this⟩,λq=>q.1 y (by simp)⟩
  have q:y+1<=x:=q
  rcases mem_append.mp i with a | a
  ·have:=m.2.2 z a y (by simp); exact Gi q this
  ·rw[mem_singleton.mp a]; exact HF q
theorem uV (h:Uni m k t) (hm:0<=m):Uni (m+1) (k+1) (cO (m+1) t):=λr=>by
 unfold cO
 rw[List.mem_flatMap]
 constructor
 ·intro j
  refine ae (j) λa ha hr=>?_
  clear j
  refine ae (mem_map.mp hr) λx n u=>?_
  subst u
  refine aa ((h a).mp ha) λs l=>?_
  refine aa (mem_rng.mp n) λx1 x2=>?_
  refine aa ((mf s).mp x1) λx3 x4=>?_
  refine ⟨⟨pairwise_append.mpr ⟨s.1,by simp,λp hp q hq=>by rw[mem_singleton.mp hq]; exact x3 p hp⟩,λy g=>?_⟩,by rw[length_append,l]; rfl⟩
  rcases mem_append.mp g with q | q
  ·have:=s.2 y q; exact Jc this
  ·rw[mem_singleton.mp q]; exact ⟨x4,x2⟩
 ·intro i
  refine aa (i) λs l=>?_
  clear i
  have o:r≠[]:=λq=>by rw[q] at l; cases l
  obtain ⟨a,x,rfl⟩:∃ a x,r=a++[x]:=(bn r.dropLast (r.getLast o) ((List.dropLast_concat_getLast o).symm))
  have v:=pairwise_append.mp s.1
  have n:=s.2 x (by simp)
  have z:Srt m a:=⟨v.1,λy g=>by
   have:=v.2.2 y g x (by simp)
   have:=s.2 y (mem_append_left _ g)
   exact EY n ‹_› this⟩
  rw[length_append,length_singleton] at l
  exact (af a ((h a).mpr ⟨z,Nat.succ.inj l⟩) (mem_map.mpr (af x (mem_rng.mpr ⟨(mf z).mpr ⟨λy g=>v.2.2 y g x (by simp),n.1⟩,n.2⟩) rfl)))
theorem yJ (h:t.Nodup):(cO m t).Nodup:=by
 unfold cO
 refine List.pairwise_flatMap.mpr ⟨λr _=>?_,?_⟩
 ·refine pairwise_map.mpr ((Du _ _).imp λ{a b} q e=>q ?_)
  have:=List.append_inj_right' e rfl
  simpa using this
 ·refine h.imp λ{a b} q x k y j e=>q ?_
  refine ae (mem_map.mp k) λp _ i=>?_
  subst i
  refine ae (mem_map.mp j) λl _ g=>?_
  subst g
  exact List.append_inj_left' e rfl
theorem BI {n k j:Nat}{t due:List (List Int)}(hd:∀ r,Srt n r->r.length=k->r∈due) (hk:k<=n) (hj:j<=k) (nd:t.Nodup) (h:∀ r∈t,Srt ((n:Int)-k+j) r/\r.length=j):t.length<=due.length:=by
 let g:List Int->List Int:=λr=>r++rng ((n:Int)-k+j) n
 have m:(t.map g).Nodup:=by
  refine pairwise_map.mpr (List.Pairwise.imp_of_mem (λ{a b} p o q e=>q ?_) nd)
  exact List.append_inj_left e ((h a p).2.trans (h b o).2.symm)
 have:=jt (b:=due) m λx z=>by
  refine ae (mem_map.mp z) λr hr i=>?_
  subst i
  refine aa (h r hr) λs l=>?_
  have u:(rng ((n:Int)-k+j) n).Pairwise (· < ·):=by
   unfold rng
   exact pairwise_map.mpr (List.pairwise_lt_range.imp λq=>by exact EU q)
  refine hd _ ⟨pairwise_append.mpr ⟨s.1,u,λa p b o=>?_⟩,λy v=>?_⟩ ?_
  ·have:=s.2 a p; have:=(mem_rng.mp o).1; exact JK ‹_› this
  ·rcases mem_append.mp v with q | q
   ·have:=s.2 y q; exact Hs hj this
   ·have:=mem_rng.mp q; exact HL hk this
  ·show (r++_).length=k
   rw[length_append,l]
   unfold rng
   rw[length_map,List.length_range]; exact GM hj
 rwa [length_map] at this
theorem BA (h:xs.getLast? = some y) (ha:ev C a σ = .ok (.d (ac xs),m)):ev C (.sub a (.neg (.int 1))) σ = .ok (sI y):=by
 refine ai (List.getLast?_eq_some_iff.mp h) λl g=>?_
 subst g
 have i:ev C (.neg (.int 1)) σ = .ok (sI (-1)):=by simp only[fz,eN,Out.ok_bind]; rfl
 rw[kY ha i]
 show (al ((be (-1) ((l++[y]).map PyData.int).length).bind λk=>((l++[y]).map PyData.int)[k]?) λz=>Out.ok (mk (.d z)))=_
 have e:be (-1) ((l++[y]).map PyData.int).length=some l.length:=by
  unfold be
  rw[if_neg (by decide),length_map,length_append,length_singleton,if_pos Gn]
  exact congrArg some Iv
 rw[e,bind_some,List.getElem?_map,List.getElem?_append_right (le_refl _),Nat.sub_self]
 rfl
theorem rS (ha:ev C a σ = .ok (sI i)) (hb:ev C b σ = .ok (sI j)) (h1:0<=i) (h2:i<=1000) (h3:0<=j) (h4:j<=1000):aZ C (.r2 a b) σ = .ok ((rng i j).map .int,.deep):=Bx ha hb h1 h2 h3 h4
theorem rQ (C:Calls) (n k:Nat) (due:List (List Int)) (hk:k<=n) (hn:n<=60) (hd:∀ r,Srt n r->r.length=k->r∈due) (hl:due.length<=63):∃ q,aD C eX [.d (.int n),.d (.int k)] = .ok q/\∃ t,q.1 = .d (ah t)/\Uni n k t/\t.Nodup:=by
 unfold eX
 refine ja rfl λo H=>?_
 refine Runs.set H rp λo H _=>?_
 refine Runs.for (g:=PyData.int) (xs:=aF k) (λi o=>∃ t,Has o [("rows", .d (ah t)),("count", .d (.int n)),("size", .d (.int k))]/\Uni ((n:Int)-k+i.length) i.length t/\t.Nodup) (da (H.ev (x:="size") rfl) (Fz hk hn)) (λσ0 h _=>(aw ([[]]) ((h _ H).sub (bV rfl rfl rfl trivial)) (λr=>?_) (by simp))) ?_ ?_
 ·rw[mem_singleton]
  exact ⟨λe=>by rw[e]; exact ⟨.nil _,rfl⟩,λe=>length_eq_zero_iff.mp e.2⟩
 ·intro i y post hp o u
  refine am (u) λt H U nd=>?_
  clear u
  refine aa (qi hp) λhy hpl=>?_
  have H1:=H.mk "turn" (.d (.int y))
  generalize upd o "turn" (mk (.d (.int y)))=o at H1
  have hm:(0:Int)<=(n:Int)-k+i.length:=by exact G7 hk
  have U':=uV U hm
  have nd':=yJ (m:=(n:Int)-k+i.length+1) nd
  have hlen:(cO ((n:Int)-k+i.length+1) t).length<=63:=le_trans (BI (j:=i.length+1) hd hk hpl nd' λr hr=>by
   have:=(U' r).mp hr
   rw[natCast_add,<- Int.add_assoc]
   exact this) hl
  refine Runs.setD H1 ju rfl λo H1 hg _=>?_
  refine Runs.for (g:=ac) (xs:=t) (λl o=>∃ m,Has o [("longer", .d (ah (cO ((n:Int)-k+i.length+1) l))),("turn", .d (.int y)),("count", .d (.int n)),("size", .d (.int k))]/\o "longer" = some (.d (ah (cO ((n:Int)-k+i.length+1) l)),m)/\m≠.sh) (aQ (H1.ev (x:="rows") rfl) (bS t .sh)) (λσ0 h hh=>(aw .deep ((h _ H1).sub (bw rfl rfl rfl rfl trivial)) ((hh _ (by simp[dh,bQ])).trans hg) (by decide))) ?_ ?_
  ·intro l r post2 hp2 o u
   refine am (u) λm H hg hms=>?_
   clear u
   have hr:=(U r).mp (by rw[hp2]; simp)
   have H1:=H.mk "row" (.d (ac r))
   have v:upd o "row" (mk (.d (ac r))) "longer" = _:=(if_neg (by decide)).trans hg
   generalize upd o "row" (mk (.d (ac r)))=o at H1 v
   refine Runs.setD H1 (av 0) rfl λo H2 _ kp=>?_
   replace v:=(kp _ (by decide)).trans v
   clear kp
   refine Runs.iteTo (λo=>Has o [("first", .d (.int (fB r))),("row", .d (ac r)),("longer", .d (ah (cO ((n:Int)-k+i.length+1) l))),("turn", .d (.int y)),("count", .d (.int n)),("size", .d (.int k))]/\o "longer" = some (.d (ah (cO ((n:Int)-k+i.length+1) l)),m)) (y9 (eU (H2.ev (x:="row") rfl)) (av 0)) (λq=>?_) (λq=>?_) ?_
   ·have q:0<r.length:=by have:=of_decide_eq_true q; exact ES this
    cases e:r.getLast? with
    | none=>rw[List.getLast?_eq_none_iff] at e; rw[e] at q; cases q
    | some z=>
     have ef:fB r=z+1:=by unfold fB; rw[e]
     rw[ef]
     exact Runs.setD H2 (cN (BA e (H2.ev (x:="row") rfl)) (av 1)) rfl λo H3 _ kp=>Runs.nil ⟨rfl,H3.sub (Ay rfl rfl rfl rfl rfl rfl trivial),(kp _ (by decide)).trans v⟩
   ·have q:r=[]:=length_eq_zero_iff.mp (by have:=of_decide_eq_false q; exact Fx this)
    have ef:fB r=0:=by rw[q]; rfl
    rw[ef]
    exact Runs.nil ⟨rfl,H2.sub (Ay rfl rfl rfl rfl rfl rfl trivial),v⟩
   clear H H1 H2 hg v
   intro o u
   refine aa (u) λH hg=>?_
   clear u
   have f0:0<=fB r/\fB r<=(n:Int)-k+i.length:=by
    have h1:=(mf (x:=fB r) hr.1).mp (Int.le_refl _)
    exact ⟨h1.2,(mf hr.1).mpr ⟨λz hz=>(hr.1.2 z hz).2,hm⟩⟩
   have hpre:∀ p:List Int,(∃ q,rng (fB r) ((n:Int)-k+i.length+1)=p++q)->(cO ((n:Int)-k+i.length+1) l++p.map λx=>r++[x]).length<=63:=λp ⟨q,hq⟩=>by
    refine le_trans ?_ hlen
    rw[hp2]
    unfold cO
    rw[flatMap_append,flatMap_cons,hq,map_append,length_append,length_append,length_append,length_append]
    exact Ji
   refine Runs.for (g:=PyData.int) (xs:=rng (fB r) ((n:Int)-k+i.length+1)) (λp o=>Has o [("longer", .d (ah (cO ((n:Int)-k+i.length+1) l++p.map λx=>r++[x]))),("row", .d (ac r)),("turn", .d (.int y)),("count", .d (.int n)),("size", .d (.int k))]/\o "longer" = some (.d (ah (cO ((n:Int)-k+i.length+1) l++p.map λx=>r++[x])),m)) (rS (H.ev (x:="first") rfl) (by
    have:=cN (cN (k6 (H.ev (C:=C) (x:="count") rfl) (H.ev (x:="size") rfl)) (H.ev (x:="turn") rfl)) (av 1)
    rw[hy] at this
    exact this) f0.1 (HZ hn hpl f0) (JR hk) (Hq hn hpl)) (λσ0 h hh=>?_) ?_ ?_
   ·rw[map_nil,append_nil]
    exact ⟨(h _ H).sub (io rfl rfl rfl rfl rfl trivial),(hh _ (by simp[pO,nV,bQ,nJ])).trans hg⟩
   ·intro p x post3 hp3 o u
    refine aa (u) λH hg=>?_
    clear u
    have H1:=H.mk "thing" (.d (.int x))
    have v:upd o "thing" (mk (.d (.int x))) "longer" = _:=(if_neg (by decide)).trans hg
    have hrl:r.length<=60:=by rw[hr.2]; exact JH hk hn hpl
    have hle:=hpre p ⟨_,hp3⟩
    refine Runs.appR H1 v hms (ig (H1.ev (x:="row") rfl) (nr (H1.ev (x:="thing") rfl)) (by rw[length_singleton]; exact Ix hk hn hpl hr)) (tD hle) λσ' H2 hg2 _=>Runs.nil ?_
    show Has _ _/\_
    rw[map_append,<- append_assoc]
    exact ⟨H2.sub (io rfl rfl rfl rfl rfl trivial),hg2⟩
   ·intro o u
    refine aa (u) λH hg=>?_
    clear u
    refine Runs.nil ?_
    have e:cO ((n:Int)-k+i.length+1) (l++[r])=cO ((n:Int)-k+i.length+1) l++(rng (fB r) ((n:Int)-k+i.length+1)).map λx=>r++[x]:=by
     unfold cO
     rw[flatMap_append,flatMap_cons,List.flatMap_nil,append_nil]
    show ∃ m,Has o _/\_
    rw[e]
    exact (aw m (H.sub (bw rfl rfl rfl rfl trivial)) hg hms)
  ·intro o u
   refine am (u) λm H hg hms=>?_
   clear u
   refine Runs.set H (H.ev (x:="longer") rfl) λo H2 _=>Runs.nil (aw _ (H2.sub (bV rfl rfl rfl trivial)) ?_ nd')
   rw[length_append,length_singleton,natCast_add,<- Int.add_assoc]
   exact U'
 ·intro o u
  refine am (u) λt H U nd=>?_
  clear u
  refine ai (H "rows" _ rfl) λm hm=>?_
  refine Runs.retn hm (af _ rfl (aw t rfl ?_ nd))
  rw[ba] at U
  have e:(n:Int)-k+k=n:=by exact G1
  rwa [e] at U
theorem fK:∀ (n:Nat) (r:List Int),r∈subs n↔Srt n r
 | 0,r=>by
  show r∈[[]]↔_
  rw[mem_singleton]
  refine ⟨λe=>by rw[e]; exact .nil _,λh=>?_⟩
  cases r with
  | nil=>rfl
  | cons a l=>have:=h.2 a (.head _); exact absurd this IP
 | n+1,r=>by
  show r∈subs n++(subs n).map (λr=>r++[(n:Int)])↔_
  rw[mem_append,fK n r]
  constructor
  ·rintro (h | h)
   ·exact h.mono C5
   ·refine ae (mem_map.mp h) λa o j=>?_
    subst j
    have:=((fK n a).mp o).snoc ml (Int.le_refl (n:Int))
    rwa [natCast_add]
  ·intro h
   by_cases q:(n:Int)∈r
   ·right
    have i:r≠[]:=λe=>by rw[e] at q; cases q
    obtain ⟨a,x,rfl⟩:∃ a x,r=a++[x]:=(bn r.dropLast (r.getLast i) ((List.dropLast_concat_getLast i).symm))
    have k:=pairwise_append.mp h.1
    have m:=h.2 x (by simp)
    have ex:x=n:=by
     rcases mem_append.mp q with q | q
     ·have:=k.2.2 _ q x (by simp); exact GW m this
     ·exact (mem_singleton.mp q).symm
    subst ex
    exact mem_map.mpr (af a ((fK n a).mpr ⟨k.1,λy g=>⟨(h.2 y (mem_append_left _ g)).1,k.2.2 y g _ (by simp)⟩⟩) rfl)
   ·left
    exact ⟨h.1,λy g=>by
     have:=h.2 y g
     have:y≠n:=λe=>q (e▸g)
     exact Ht ‹_› this⟩
theorem oj:∀ n:Nat,(subs n).Nodup
 | 0=>by show ([[]]:List (List Int)).Nodup; simp
 | n+1=>by
  show (subs n++(subs n).map (λr=>r++[(n:Int)])).Nodup
  rw[nodup_append]
  refine ⟨oj n,pairwise_map.mpr ((oj n).imp λh e=>h (List.append_inj_left' e rfl)),λa j b i e=>?_⟩
  refine ae (mem_map.mp i) λc _ g=>?_
  subst g
  have:=((fK n a).mp j).2 n (by rw[e]; simp)
  exact Ew this
noncomputable def b0 (n:Nat) (k:Int):List (List Int):=(subs n).filter λr=>decide ((r.length:Int)=k)
theorem gJ (n k:Nat):Uni n k (b0 n k):=λr=>by
 unfold b0
 rw[mem_filter,fK,decide_eq_true_eq]
 exact ⟨λh=>⟨h.1,by exact GN h⟩,λh=>⟨h.1,by exact J6 h⟩⟩
theorem jo (n:Nat) (k:Int):(b0 n k).Nodup:=(oj n).filter _
structure Ru (c:Nat) (u:List (List Int)):Prop where
 ne:u≠[]
 srt:∀ r∈u,Srt c r
 nf:NoF c u
 nd:u.Nodup
 up:u.Pairwise λa b=>ltL b a=false
theorem qp (h:ks.Nodup):(aA ks).Nodup:=(mergeSort_perm ks _).nodup_iff.mpr h
theorem jj {n k:Nat}{ks:List (List Int)}(h:Uni n k ks) (nd:ks.Nodup) (hk:k<=n):Ru n (aA ks) where
 ne:=λq=>by
  have:aF k∈aA ks:=(cS _ _).mpr ((h _).mpr ⟨⟨aT k,λx g=>by have:=mem_upTo.mp g; exact Fi hk this⟩,ba k⟩)
  rw[q] at this; cases this
 srt:=λr i=>((h r).mp ((cS _ _).mp i)).1
 nf:=sX (h.same λr=>cS _ r)
 nd:=qp nd
 up:=hH ks
theorem pV:∀ (a x y:List Int),ltL (a++x) (a++y)=ltL x y
 | [],_,_=>rfl
 | z::a,x,y=>by
  show (if z=z then ltL (a++x) (a++y) else _)=_
  rw[if_pos rfl,pV a x y]
theorem vE:∀ {a b:List Int}(x y:List Int),a.length=b.length->a≠b->ltL (a++x) (b++y)=ltL a b
 | [],[],_,_,_,h=>absurd rfl h
 | [],_::_,_,_,h,_=>by cases h
 | _::_,[],_,_,h,_=>by cases h
 | p::a,q::b,x,y,hl,h=>by
  show (if p=q then ltL (a++x) (b++y) else decide (p<q))=if p=q then ltL a b else decide (p<q)
  by_cases e:p=q
  ·rw[if_pos e,if_pos e]
   exact vE x y (Nat.succ.inj hl) λg=>h (by rw[e,g])
  ·rw[if_neg e,if_neg e]
theorem th (c:Int):∀ (a b:List Int),ltL (a.map (c + ·)) (b.map (c + ·))=ltL a b
 | [],[]=>rfl
 | [],_::_=>rfl
 | _::_,[]=>rfl
 | p::a,q::b=>by
  show (if c+p=c+q then ltL (a.map (c + ·)) (b.map (c + ·)) else decide (c+p<c+q))=if p=q then ltL a b else decide (p<q)
  by_cases e:p=q
  ·rw[if_pos e,if_pos (by rw[e]),th c a b]
  ·rw[if_neg e,if_neg (EX e)]
   exact decide_eq_decide.mpr Jt
noncomputable def aB (u v:List (List Int)) (c:Int):List (List Int):=u.flatMap λa=>v.map λb=>a++b.map (c + ·)
theorem mem_prod:r∈aB u v c↔∃ a∈u,∃ b∈v,r=a++b.map (c + ·):=by
 unfold aB
 rw[List.mem_flatMap]
 constructor
 ·intro j
  refine ae (j) λa l h=>?_
  clear j
  refine ae (mem_map.mp h) λb k e=>?_
  exact (af a l (af b k e.symm))
 ·intro i
  refine ae (i) λa l g=>?_
  clear i
  refine ae (g) λb k e=>?_
  clear g
  exact (af a l (mem_map.mpr (af b k e.symm)))
theorem jT {c d:Nat}{a b:List Int}(ha:Srt c a) (hb:Srt d b):Srt ((c+d:Nat):Int) (a++b.map ((c:Int) + ·)):=by
 refine ⟨pairwise_append.mpr ⟨ha.1,pairwise_map.mpr (hb.1.imp λh=>by exact JM h),λx k y l=>?_⟩,λx k=>?_⟩
 ·refine ae (mem_map.mp l) λz j i=>?_
  subst i
  have:=ha.2 x k; have:=hb.2 z j; exact IE ‹_› this
 ·rcases mem_append.mp k with h | h
  ·have:=ha.2 x h; exact DL this
  ·refine ae (mem_map.mp h) λz j g=>?_
   subst g
   have:=hb.2 z j; exact Fy this
theorem wZ {c:Nat}{a s:List Int}{o x:Int}(ha:Srt c a) (hs:s.Pairwise (· < ·)) (hc:∀ y∈s,(c:Int)<=y) (ho:o∈a) (hx:x∉a) (h0:0<=x/\x<c):bf (a++s) o x=bf a o x++s:=by
 have e1:=(lT ha ho hx h0).1
 have fs:s.filter (λy=>!decide (y=o))=s:=filter_eq_self.mpr λy hy=>by
  have:=hc y hy
  have:=(ha.2 o ho).2
  simp; exact D7 (by assumption) this
 conv=>lhs; unfold bf
 rw[List.filter_append,fs]
 refine ic ?_ ?_
 ·rw[append_assoc]
  refine ((List.perm_append_comm (l₁:=s) (l₂:=[x])).append_left _).trans ?_
  rw[<- append_assoc]
  exact ((bH _).symm).append_right _
 ·refine pairwise_append.mpr ⟨e1.1.imp λh=>Int.le_of_lt h,hs.imp λh=>Int.le_of_lt h,λy hy z hz=>?_⟩
  have:=e1.2 y hy; have:=hc z hz; exact IA (by assumption) this
theorem tW {c d:Nat}{a b:List Int}{o y:Int}(ha:Srt c a) (hb:Srt d b) (ho:o∈b) (hy:y∉b) (h0:0<=y/\y<d):bf (a++b.map ((c:Int) + ·)) (c+o) (c+y)=a++(bf b o y).map ((c:Int) + ·):=by
 have e1:=(lT hb ho hy h0).1
 have fa:a.filter (λz=>!decide (z=(c:Int)+o))=a:=filter_eq_self.mpr λz hz=>by
  have:=ha.2 z hz
  have:=(hb.2 o ho).1
  simp; exact GY (by assumption) this
 have fb:(b.map ((c:Int) + ·)).filter (λz=>!decide (z=(c:Int)+o))=(b.filter λz=>!decide (z=o)).map ((c:Int) + ·):=by
  rw[List.filter_map]
  congr 1
  refine List.filter_congr λz _=>?_
  simp
 conv=>lhs; unfold bf
 rw[List.filter_append,fa,fb]
 refine ic ?_ ?_
 ·rw[append_assoc]
  refine List.Perm.append_left _ ?_
  rw[show [(c:Int)+y]=[y].map ((c:Int) + ·) from rfl,<- map_append]
  exact ((bH _).symm).map _
 ·exact (jT ha e1).1.imp λh=>Int.le_of_lt h
theorem Ru.prod {c d:Nat}{u v:List (List Int)}(hu:Ru c u) (hv:Ru d v):Ru (c+d) (aB u v c) where
 ne:=λq=>by
  refine ai (exists_mem_of_ne_nil u hu.ne) λa l=>?_
  refine ai (exists_mem_of_ne_nil v hv.ne) λb hb=>?_
  have:=(mem_prod (c:=(c:Int))).mpr (af a l (af b hb rfl))
  rw[q] at this; cases this
 srt:=λr hr=>by
  refine ae (mem_prod.mp hr) λa l k=>?_
  refine ae (k) λb hb Ld=>?_
  clear k
  subst Ld
  exact jT (hu.srt a l) (hv.srt b hb)
 nd:=by
  refine List.pairwise_flatMap.mpr ⟨λa _=>pairwise_map.mpr (hv.nd.imp λh e=>h ?_),List.Pairwise.imp_of_mem (λ{a a'} l ha' h x hx y m e=>h ?_) hu.nd⟩
  ·have:=List.append_cancel_left e
   exact (List.map_inj_right (λx y h=>by exact Av h)).mp this
  ·refine ae (mem_map.mp hx) λb _ K6=>?_
   subst K6
   refine ae (mem_map.mp m) λb' _ K3=>?_
   subst K3
   exact List.append_inj_left e (hu.nf.len hu.srt l ha')
 up:=by
  refine List.pairwise_flatMap.mpr ⟨λa _=>pairwise_map.mpr (hv.up.imp λh=>?_),List.Pairwise.imp_of_mem (λ{a a'} l ha' h x hx y m=>?_) (hu.up.and hu.nd)⟩
  ·rw[pV,th]; exact h
  ·refine ae (mem_map.mp hx) λb _ La=>?_
   subst La
   refine ae (mem_map.mp m) λb' _ Le=>?_
   subst Le
   rw[vE _ _ (hu.nf.len hu.srt ha' l) λe=>h.2 e.symm]; exact h.1
 nf:=by
  intro one ho x hx hn other hot hxo
  refine ae (mem_prod.mp ho) λa l j=>?_
  refine ae (j) λb hb Lb=>?_
  clear j
  subst Lb
  refine ae (mem_prod.mp hot) λa2 ha2 i=>?_
  refine ae (i) λb2 hb2 Lf=>?_
  clear i
  subst Lf
  have sa:=hu.srt a l; have sb:=hv.srt b hb; have t:=hu.srt a2 ha2; have n:=hv.srt b2 hb2
  rcases mem_append.mp hxo with q | q
  ·have hxa:x∉a:=λg=>hn (mem_append_left _ g)
   refine am (canF_iff.mp (hu.nf a l x (mem_upTo.mpr (t.2 x q)) hxa a2 ha2 q)) λo o1 o2 o3=>?_
   refine canF_iff.mpr (aw o (mem_append_left _ o1) (λg=>?_) ?_)
   ·rcases mem_append.mp g with g | g
    ·exact o2 g
    ·refine ae (mem_map.mp g) λz hz e=>?_
     have:=sa.2 o o1; have:=n.2 z hz; exact Ja e ‹_› this
   ·have p:=(jT sa sb).1
    rw[wZ sa (pairwise_append.mp p).2.1 (λy m=>by obtain ⟨z,hz,rfl⟩:=mem_map.mp m; have:=sb.2 z hz; exact Fs this) o1 hxa (t.2 x q)]
    exact mem_prod.mpr (af _ o3 (af b hb rfl))
  ·refine ae (mem_map.mp q) λy m Lg=>?_
   subst Lg
   have hyb:y∉b:=λg=>hn (mem_append_right _ (mem_map.mpr (af y g rfl)))
   refine am (canF_iff.mp (hv.nf b hb y (mem_upTo.mpr (n.2 y m)) hyb b2 hb2 m)) λo o1 o2 o3=>?_
   refine canF_iff.mpr (aw ((c:Int)+o) (mem_append_right _ (mem_map.mpr (af o o1 rfl))) (λg=>?_) ?_)
   ·rcases mem_append.mp g with g | g
    ·have:=t.2 _ g; have:=sb.2 o o1; exact Ek ‹_› this
    ·refine ae (mem_map.mp g) λz hz e=>?_
     have:z=o:=by exact Av e
     exact o2 (this▸hz)
   ·rw[tW sa sb o1 hyb (n.2 y m)]
    exact mem_prod.mpr (af a l (af _ o3 rfl))
noncomputable def lP (c:Int) (xs:List Int):List Int:=xs.filter λx=>decide (x<c)
noncomputable def rP (c:Int) (xs:List Int):List Int:=(xs.filter λx=>!decide (x<c)).map λx=>x-c
theorem kQ (c:Int) (a b:List Int):lP c (a++b)=lP c a++lP c b:=List.filter_append ..
theorem kP (c:Int) (a b:List Int):rP c (a++b)=rP c a++rP c b:=by unfold rP; rw[List.filter_append,map_append]
theorem Kg (h:x<c):lP c [x]=[x]/\rP c [x]=[]:=by unfold lP rP; simp[h]
theorem Ku (h:¬ x<c):lP c [x]=[]/\rP c [x]=[x-c]:=by unfold lP rP; simp[h]
theorem lD (hu:Ru c u) (hv:Ru d v) (xs:List Int):dT (aB u v c) xs=true↔dT u (lP c xs)=true/\dT v (rP c xs)=true:=by
 simp only[togB_iff]
 constructor
 ·intro n
  refine ae (n) λr hr h=>?_
  clear n
  refine ae (mem_prod.mp hr) λa t i=>?_
  refine ae (i) λb p K4=>?_
  clear i
  subst K4
  have sa:=hu.srt a t; have sb:=hv.srt b p
  refine (aH (af a t (λx j=>?_)) (af b p (λx j=>?_)))
  ·refine aa (mem_filter.mp j) λo k=>?_
   rcases mem_append.mp (h x o) with q | q
   ·exact q
   ·refine ae (mem_map.mp q) λz hz K8=>?_
    subst K8
    have:=of_decide_eq_true k; have:=sb.2 z hz; exact JF ‹_› this
  ·refine ae (mem_map.mp j) λy hy K5=>?_
   subst K5
   refine aa (mem_filter.mp hy) λo k=>?_
   rcases mem_append.mp (h y o) with q | q
   ·have:=sa.2 y q; simp at k; exact Jb this k
   ·refine ae (mem_map.mp q) λz hz e=>?_
    have:y-c=z:=by exact Gr e
    rw[this]; exact hz
 ·intro m
  refine aa (m) λl g=>?_
  clear m
  refine ae (g) λb p k=>?_
  clear g
  refine ae (l) λa t o=>?_
  clear l
  refine (af _ (mem_prod.mpr (af a t (af b p rfl))) (λx j=>?_))
  by_cases q:x<(c:Int)
  ·exact mem_append_left _ (o x (mem_filter.mpr ⟨j,decide_eq_true q⟩))
  ·exact mem_append_right _ (mem_map.mpr (af (x-c) (k _ (mem_map.mpr (af x (mem_filter.mpr ⟨j,by simp[q]⟩) rfl))) Jn))
theorem ou (hu:Ru c u) (hv:Ru d v):∀ (n:Nat) (l:List Int),l.length=n->lP c (aI (aB u v c) l)=aI u (lP c l)/\rP c (aI (aB u v c) l)=aI v (rP c l)
 | 0,l,h=>by rw[length_eq_zero_iff.mp h]; exact ⟨rfl,rfl⟩
 | n+1,l,h=>by
  have j:l≠[]:=λq=>by rw[q] at h; cases h
  obtain ⟨p,x,rfl⟩:∃ p x,l=p++[x]:=(bn l.dropLast (l.getLast j) ((List.dropLast_concat_getLast j).symm))
  rw[length_append,length_singleton] at h
  refine aa (ou hu hv n p (Nat.succ.inj h)) λk i2=>?_
  have T:=(lD hu hv _).mp (lM (u:=aB u v c) (hu.prod hv).ne p [] (togB_iff.mpr (ai (exists_mem_of_ne_nil _ (hu.prod hv).ne) λr m=>(af r m (λ_ q=>nomatch q)))))
  have T:dT u (lP c (aI (aB u v c) p))=true/\dT v (rP c (aI (aB u v c) p))=true:=T
  rw[eQ,kQ,kP]
  by_cases q:x<(c:Int)
  ·refine aa (Kg q) λi g=>?_
   rw[i,g,append_nil,eQ,<- k,<- i2]
   have:dT (aB u v c) (aI (aB u v c) p++[x])=dT u (lP c (aI (aB u v c) p)++[x]):=by
    rw[Bool.eq_iff_iff,lD hu hv,kQ,kP,i,g,append_nil]
    exact ⟨λh=>h.1,λh=>⟨h,T.2⟩⟩
   unfold cb
   rw[this]
   split
   ·rw[kQ,kP,i,g,append_nil]; exact ⟨rfl,rfl⟩
   ·exact ⟨rfl,rfl⟩
  ·refine aa (Ku q) λi g=>?_
   rw[i,g,append_nil,eQ,<- k,<- i2]
   have:dT (aB u v c) (aI (aB u v c) p++[x])=dT v (rP c (aI (aB u v c) p)++[x-c]):=by
    rw[Bool.eq_iff_iff,lD hu hv,kQ,kP,i,g,append_nil]
    exact ⟨λh=>h.2,λh=>⟨T.1,h⟩⟩
   unfold cb
   rw[this]
   split
   ·rw[kQ,kP,i,g,append_nil]; exact ⟨rfl,rfl⟩
   ·exact ⟨rfl,rfl⟩
theorem sA {ws:List Int}{c:Nat}{x:Int}(h:0<=x/\x<c):wt (ws.take c) x=wt ws x:=by
 unfold wt
 rw[List.getD_eq_getElem?_getD,List.getD_eq_getElem?_getD,List.getElem?_take,if_pos (tK h)]
theorem sN {ws:List Int}{c:Nat}{x:Int}(h:(c:Int)<=x):wt (ws.drop c) (x-c)=wt ws x:=by
 unfold wt
 rw[List.getD_eq_getElem?_getD,List.getD_eq_getElem?_getD,List.getElem?_drop,show c+(x-(c:Int)).toNat=x.toNat by exact J7 h]
theorem yB {c d:Nat}{ws:List Int}(hw:ws.length=c+d):lP c (bJ ws)=bJ (ws.take c):=by
 have n:(ws.take c).length=c:=by rw[length_take]; exact zW hw
 refine v5 (ns:=ws.take c) ?_ ?_ (k8 _)
 ·refine ((cV ws).filter _).trans ?_
  refine List.Perm.trans ?_ (cV (ws.take c)).symm
  rw[n,hw]
  refine (perm_ext_iff_of_nodup ((bt (aT _)).filter _) (bt (aT _))).mpr λx=>?_
  rw[mem_filter,mem_upTo,mem_upTo,decide_eq_true_eq]
  exact FT
 ·refine List.Pairwise.imp_of_mem (λ{a b} m l h=>?_) ((k8 ws).filter _)
  have k:=(jZ (mem_filter.mp m).1).1; have j:=of_decide_eq_true (mem_filter.mp m).2
  have i:=(jZ (mem_filter.mp l).1).1; have g:=of_decide_eq_true (mem_filter.mp l).2
  unfold Bef
  rw[sA ⟨k,j⟩,sA ⟨i,g⟩]
  exact h
theorem wf {c d:Nat}{ws:List Int}(hw:ws.length=c+d):rP c (bJ ws)=bJ (ws.drop c):=by
 have n:(ws.drop c).length=d:=by rw[length_drop]; exact zI hw
 refine v5 (ns:=ws.drop c) ?_ ?_ (k8 _)
 ·refine (((cV ws).filter _).map _).trans ?_
  refine List.Perm.trans ?_ (cV (ws.drop c)).symm
  rw[n,hw]
  refine (perm_ext_iff_of_nodup (pairwise_map.mpr (((bt (aT _)).filter _).imp λh e=>h (Jx e))) (bt (aT _))).mpr λx=>?_
  rw[mem_map,mem_upTo]
  constructor
  ·intro g
   refine ae (g) λy m i=>?_
   clear g
   subst i
   refine aa (mem_filter.mp m) λq l=>?_
   have:=mem_upTo.mp q
   simp at l
   exact Ex this l
  ·intro h
   exact (af (x+c) (mem_filter.mpr ⟨mem_upTo.mpr (EN h),by simp; exact I6 h⟩) Iy)
 ·refine pairwise_map.mpr (List.Pairwise.imp_of_mem (λ{a b} p o h=>?_) ((k8 ws).filter _))
  have k:(c:Int)<=a:=by have:=(mem_filter.mp p).2; simp at this; exact zw this
  have j:(c:Int)<=b:=by have:=(mem_filter.mp o).2; simp at this; exact zw this
  unfold Bef
  rw[sN k,sN j]
  exact ⟨h.1,λe=>by have:=h.2 e; exact FF this⟩
theorem uS (hu:Ru c u) (hv:Ru d v) (hw:ws.length=c+d):jH (aB u v c) ws=jH u (ws.take c)++(jH v (ws.drop c)).map ((c:Int) + ·):=by
 refine aa (ou hu hv _ (bJ ws) rfl) λi g=>?_
 have k:=l8 (ws:=ws.take c) hu.ne hu.srt (by rw[length_take]; exact zW hw)
 have j:=l8 (ws:=ws.drop c) hv.ne hv.srt (by rw[length_drop]; exact zI hw)
 rw[yB hw] at i
 rw[wf hw] at g
 conv=>lhs; unfold jH
 refine ic ?_ ((jT (hu.srt _ k) (hv.srt _ j)).1.imp λh=>Int.le_of_lt h)
 refine (List.filter_append_perm (λx=>decide (x<(c:Int))) _).symm.trans ?_
 refine List.Perm.append ?_ ?_
 ·show (lP c _).Perm _
  rw[i]
  exact (bH _).symm
 ·have e:(aI (aB u v c) (bJ ws)).filter (λx=>!decide (x<(c:Int)))=(rP c (aI (aB u v c) (bJ ws))).map ((c:Int) + ·):=by
   unfold rP
   rw[map_map]
   conv=>lhs; rw[<- map_id ((aI (aB u v c) (bJ ws)).filter λx=>!decide (x<(c:Int)))]
   refine map_congr_left λx _=>?_
   show x=(c:Int)+(x-c)
   exact Hv
  rw[e,g]
  exact ((bH _).symm).map _
noncomputable def rU:Fn:=⟨[],.nil⟩
noncomputable def t6:Fn:=⟨[],.nil⟩
noncomputable def ve:Fn:=⟨[],.nil⟩
noncomputable def pR:Fn:=⟨[],.nil⟩
noncomputable def r6:Fn:=⟨[],.nil⟩
noncomputable def cL:Fn:=⟨["count", "size"],
(.cons (.ite (.or (.cmp .lt (.name "size") (.int 0)) (.cmp .gt (.name "size") (.name "count")))
(.cons (.raise "NoChoice")
.nil)
.nil)
(.cons (.ret (.call "Rule" (.cons (.name "count") (.cons (.call "choices_of" (.cons (.name "count") (.cons (.name "size") .nil))) .nil))))
.nil))⟩
noncomputable def fq:Fn:=⟨["one", "other"],
(.cons (.assign "table" (.list .nil))
(.cons (.for1 "choice" (.e (.attr (.name "one") "full"))
(.cons (.for1 "more" (.e (.attr (.name "other") "full"))
(.cons (.append "table" (.bin .add (.name "choice") (.comp (.bin .add (.name "thing") (.attr (.name "one") "count")) "thing" (.e (.name "more")))))
.nil))
.nil))
(.cons (.ret (.call "Rule" (.cons (.bin .add (.attr (.name "one") "count") (.attr (.name "other") "count")) (.cons (.name "table") .nil))))
.nil)))⟩
noncomputable def il:Fn:=⟨["rows"],
(.cons (.for2 "many" "most" (.e (.name "rows"))
(.cons (.ite (.cmp .lt (.name "most") (.int 0))
(.cons (.raise "NoChoice")
.nil)
.nil)
.nil))
(.cons (.assign "made" (.call "Rule" (.cons (.int 0) (.cons (.list (.cons (.list .nil) .nil)) .nil))))
(.cons (.for2 "many" "most" (.e (.name "rows"))
(.cons (.assign "made" (.call "joined" (.cons (.name "made") (.cons (.call "any_of" (.cons (.name "many") (.cons (.bi2 .min (.name "many") (.name "most")) .nil))) .nil))))
.nil))
(.cons (.retn "made")
.nil))))⟩
noncomputable def gD:Fn:=⟨["_law_count", "_law_size"],
(.cons (.ret (.bi1 .sorted (.compif (.name "_law_row") "_law_row" (.e (.call "_law_subsets" (.cons (.name "_law_count") .nil))) (.cmp .eq (.bi1 .len (.name "_law_row")) (.name "_law_size")))))
.nil)⟩
noncomputable def eE:Fn:=⟨["_law_left", "_law_right", "_law_count"],
(.cons (.assign "_law_table" (.list .nil))
(.cons (.for1 "_law_one" (.e (.name "_law_left"))
(.cons (.for1 "_law_other" (.e (.name "_law_right"))
(.cons (.append "_law_table" (.bin .add (.name "_law_one") (.comp (.bin .add (.name "_law_count") (.name "_law_thing")) "_law_thing" (.e (.name "_law_other")))))
.nil))
.nil))
(.cons (.retn "_law_table")
.nil)))⟩
noncomputable def bX:Fn:=⟨["_law_rule", "_law_count", "_law_table"],
(.cons (.ite (.or (.not (.call "_law_whole" (.cons (.attr (.name "_law_rule") "count") .nil))) (.or (.cmp .ne (.attr (.name "_law_rule") "count") (.name "_law_count")) (.not (.call "_law_whole" (.cons (.attr (.name "_law_rule") "size") .nil)))))
(.cons (.ret (.bool false))
.nil)
.nil)
(.cons (.ret (.and (.cmp .eq (.attr (.name "_law_rule") "size") (.bi1 .len (.sub (.name "_law_table") (.int 0)))) (.call "_law_rows_are" (.cons (.attr (.name "_law_rule") "full") (.cons (.name "_law_table") .nil)))))
.nil))⟩
noncomputable def gp:Fn:=⟨["_law_count", "_law_size"],
(.cons (.assign "_law_due" (.call "_law_any" (.cons (.name "_law_count") (.cons (.name "_law_size") .nil))))
(.cons (.tryS (.assign "_law_made" (.call "any_of" (.cons (.name "_law_count") (.cons (.name "_law_size") .nil)))) [("NoChoice", [.ret (.cmp .eq (.name "_law_due") (.list .nil))])])
(.cons (.ret (.and (.cmp .ne (.name "_law_due") (.list .nil)) (.call "_law_rule_is" (.cons (.name "_law_made") (.cons (.name "_law_count") (.cons (.name "_law_due") .nil))))))
.nil)))⟩
noncomputable def eT:Fn:=⟨["_law_count", "_law_kind"],
(.cons (.ite (.cmp .eq (.name "_law_kind") (.int 4))
(.cons (.assign "_law_count" (.bin .add (.int 7) (.bin .mod (.name "_law_count") (.int 5))))
.nil)
.nil)
(.cons (.assign "_law_size" (.sub (.list (.cons (.int 1) (.cons (.bin .sub (.name "_law_count") (.int 1)) (.cons (.int 0) (.cons (.name "_law_count") (.cons (.int 2) .nil)))))) (.name "_law_kind")))
(.cons (.assign "_law_due" (.list (.cons (.list .nil) .nil)))
(.cons (.ite (.cmp .eq (.name "_law_kind") (.int 0))
(.cons (.assign "_law_due" (.comp (.list (.cons (.name "_law_thing") .nil)) "_law_thing" (.r1 (.name "_law_count"))))
.nil)
.nil)
(.cons (.ite (.cmp .eq (.name "_law_kind") (.int 1))
(.cons (.assign "_law_due" (.bi1 .sorted (.comp (.compif (.name "_law_thing") "_law_thing" (.r1 (.name "_law_count")) (.cmp .ne (.name "_law_thing") (.name "_law_gone"))) "_law_gone" (.r1 (.name "_law_count")))))
.nil)
.nil)
(.cons (.ite (.cmp .eq (.name "_law_kind") (.int 3))
(.cons (.assign "_law_due" (.list (.cons (.listR (.name "_law_count")) .nil)))
.nil)
.nil)
(.cons (.ite (.cmp .eq (.name "_law_kind") (.int 4))
(.cons (.assign "_law_due" (.list .nil))
(.cons (.for1 "_law_one" (.r1 (.name "_law_count"))
(.cons (.assign "_law_due" (.bin .add (.name "_law_due") (.comp (.list (.cons (.name "_law_one") (.cons (.name "_law_thing") .nil))) "_law_thing" (.r2 (.bin .add (.name "_law_one") (.int 1)) (.name "_law_count")))))
.nil))
.nil))
.nil)
(.cons (.ret (.call "_law_rule_is" (.cons (.call "any_of" (.cons (.name "_law_count") (.cons (.name "_law_size") .nil))) (.cons (.name "_law_count") (.cons (.name "_law_due") .nil)))))
.nil))))))))⟩
noncomputable def c0:Fn:=⟨["_law_rows"],
(.cons (.tryS (.expr (.call "bins" (.cons (.name "_law_rows") .nil))) [("NoChoice", [.ret (.bool true)])])
(.cons (.ret (.bool false))
.nil))⟩
noncomputable def fN:Fn:=⟨["_law_script"],
(.cons (.assign "_law_rows" (.list .nil))
(.cons (.for1 "_law_k" (.r1 (.bin .mod (.call "_law_cell_at" (.cons (.name "_law_script") (.cons (.int 3) .nil))) (.int 4)))
(.cons (.assign "_law_cell" (.call "_law_cell_at" (.cons (.name "_law_script") (.cons (.bin .add (.int 4) (.name "_law_k")) .nil))))
(.cons (.append "_law_rows" (.tup (.cons (.bin .mod (.name "_law_cell") (.int 4)) (.cons (.bin .sub (.bin .mod (.bin .fdiv (.name "_law_cell") (.int 4)) (.int 6)) (.int 1)) .nil))))
.nil)))
(.cons (.retn "_law_rows")
.nil)))⟩
noncomputable def dM:Fn:=⟨["_law_script", "_law_both", "_law_made", "_law_other", "_law_count"],
(.cons (.assign "_law_mode" (.bin .mod (.call "_law_cell_at" (.cons (.name "_law_script") (.cons (.int 8) .nil))) (.int 4)))
(.cons (.assign "_law_weights" (.comp (.call "_law_weight" (.cons (.call "_law_cell_at" (.cons (.name "_law_script") (.cons (.bin .add (.int 9) (.name "_law_thing")) .nil))) (.cons (.name "_law_mode") .nil))) "_law_thing" (.r1 (.bin .add (.name "_law_count") (.int 2)))))
(.cons (.assign "_law_last" (.comp (.bin .add (.name "_law_count") (.name "_law_thing")) "_law_thing" (.e (.call "picked" (.cons (.name "_law_other") (.cons (.slo (.name "_law_weights") (.name "_law_count")) .nil))))))
(.cons (.ret (.call "_law_row_is" (.cons (.call "picked" (.cons (.name "_law_both") (.cons (.name "_law_weights") .nil))) (.cons (.bin .add (.call "picked" (.cons (.name "_law_made") (.cons (.shi (.name "_law_weights") (.name "_law_count")) .nil))) (.name "_law_last")) .nil))))
.nil))))⟩
noncomputable def tV:Fn:=⟨["_law_script"],
(.cons (.assign "_law_count" (.bin .mod (.call "_law_cell_at" (.cons (.name "_law_script") (.cons (.int 0) .nil))) (.int 7)))
(.cons (.assign "_law_size" (.bin .sub (.bin .mod (.call "_law_cell_at" (.cons (.name "_law_script") (.cons (.int 1) .nil))) (.int 11)) (.int 2)))
(.cons (.ite (.not (.call "_law_any_is" (.cons (.name "_law_count") (.cons (.name "_law_size") .nil))))
(.cons (.ret (.bool false))
.nil)
.nil)
(.cons (.assign "_law_more" (.call "_law_cell_at" (.cons (.name "_law_script") (.cons (.int 2) .nil))))
(.cons (.ite (.not (.call "_law_many_are" (.cons (.bin .add (.int 7) (.bin .mod (.name "_law_more") (.int 14))) (.cons (.bin .mod (.bin .fdiv (.name "_law_more") (.int 14)) (.int 5)) .nil))))
(.cons (.ret (.bool false))
.nil)
.nil)
(.cons (.assign "_law_rows" (.call "_law_bins_by" (.cons (.name "_law_script") .nil)))
(.cons (.assign "_law_handed" (.bi1 .list (.name "_law_rows")))
(.cons (.ite (.cmp .ne (.compif (.name "_law_row") "_law_row" (.e (.name "_law_rows")) (.cmp .lt (.sub (.name "_law_row") (.int 1)) (.int 0))) (.list .nil))
(.cons (.ite (.or (.not (.call "_law_bins_refused" (.cons (.name "_law_handed") .nil))) (.cmp .ne (.name "_law_handed") (.name "_law_rows")))
(.cons (.ret (.bool false))
.nil)
.nil)
(.cons (.assign "_law_rows" (.compif (.name "_law_row") "_law_row" (.e (.name "_law_rows")) (.cmp .ge (.sub (.name "_law_row") (.int 1)) (.int 0))))
(.cons (.assign "_law_handed" (.bi1 .list (.name "_law_rows")))
.nil)))
.nil)
(.cons (.assign "_law_full" (.list (.cons (.list .nil) .nil)))
(.cons (.assign "_law_count" (.int 0))
(.cons (.for1 "_law_row" (.e (.name "_law_rows"))
(.cons (.assign "_law_full" (.call "_law_pairs" (.cons (.name "_law_full") (.cons (.call "_law_any" (.cons (.sub (.name "_law_row") (.int 0)) (.cons (.bi2 .min (.sub (.name "_law_row") (.int 0)) (.sub (.name "_law_row") (.int 1))) .nil))) (.cons (.name "_law_count") .nil)))))
(.cons (.assign "_law_count" (.bin .add (.name "_law_count") (.sub (.name "_law_row") (.int 0))))
.nil)))
(.cons (.assign "_law_made" (.call "bins" (.cons (.name "_law_handed") .nil)))
(.cons (.ite (.or (.cmp .ne (.name "_law_handed") (.name "_law_rows")) (.not (.call "_law_rule_is" (.cons (.name "_law_made") (.cons (.name "_law_count") (.cons (.name "_law_full") .nil))))))
(.cons (.ret (.bool false))
.nil)
.nil)
(.cons (.assign "_law_some" (.bin .mod (.call "_law_cell_at" (.cons (.name "_law_script") (.cons (.int 7) .nil))) (.int 3)))
(.cons (.assign "_law_other" (.call "any_of" (.cons (.int 2) (.cons (.name "_law_some") .nil))))
(.cons (.assign "_law_both" (.call "joined" (.cons (.name "_law_made") (.cons (.name "_law_other") .nil))))
(.cons (.assign "_law_due" (.call "_law_pairs" (.cons (.name "_law_full") (.cons (.call "_law_any" (.cons (.int 2) (.cons (.name "_law_some") .nil))) (.cons (.name "_law_count") .nil)))))
(.cons (.ite (.or (.not (.call "_law_rule_is" (.cons (.name "_law_both") (.cons (.bin .add (.name "_law_count") (.int 2)) (.cons (.name "_law_due") .nil))))) (.not (.call "_law_rule_is" (.cons (.name "_law_made") (.cons (.name "_law_count") (.cons (.name "_law_full") .nil))))))
(.cons (.ret (.bool false))
.nil)
.nil)
(.cons (.ite (.not (.call "_law_rule_is" (.cons (.call "joined" (.cons (.name "_law_other") (.cons (.name "_law_made") .nil))) (.cons (.bin .add (.name "_law_count") (.int 2)) (.cons (.call "_law_pairs" (.cons (.call "_law_any" (.cons (.int 2) (.cons (.name "_law_some") .nil))) (.cons (.name "_law_full") (.cons (.int 2) .nil)))) .nil)))))
(.cons (.ret (.bool false))
.nil)
.nil)
(.cons (.ite (.not (.call "_law_picked_are" (.cons (.name "_law_script") (.cons (.name "_law_both") (.cons (.name "_law_made") (.cons (.name "_law_other") (.cons (.name "_law_count") .nil)))))))
(.cons (.ret (.bool false))
.nil)
.nil)
(.cons (.appF "_law_both" (.cons (.int 0) .nil) (.name "_law_count"))
(.cons (.ret (.and (.call "_law_rule_is" (.cons (.name "_law_other") (.cons (.int 2) (.cons (.call "_law_any" (.cons (.int 2) (.cons (.name "_law_some") .nil))) .nil)))) (.call "_law_rule_is" (.cons (.name "_law_made") (.cons (.name "_law_count") (.cons (.name "_law_full") .nil))))))
.nil))))))))))))))))))))))⟩
noncomputable def p_L:List (String×Fn):=[("PickError", rU),("NoChoice", t6),("NoThing", ve),("NoExchange", pR),("NoWeights", r6),("exchanged", p_exchanged),("known_of", p_known_of),("goes", p_goes),("fault", p_fault),("need_row", p_need_row),("Rule", p_Rule),("together", p_together),("rank", p_rank),("choices_of", eX),("any_of", cL),("joined", fq),("bins", il),("order", p_order),("picked", p_picked),("_law_cell_at", l_cell_at),("_law_whole", l_whole),("_law_row_is", l_row_is),("_law_rows_are", l_rows_are),("_law_subsets", l_subsets),("_law_weight", l_weight),("_law_any", gD),("_law_pairs", eE),("_law_rule_is", bX),("_law_any_is", gp),("_law_many_are", eT),("_law_bins_refused", c0),("_law_bins_by", fN),("_law_picked_are", dM),("law", tV)]
theorem lib0:Lib p_L:=⟨rfl,rfl,rfl,rfl,rfl,rfl,rfl⟩
theorem iO:LibR p_L:=⟨lib0,rfl,rfl,⟨_,rfl⟩⟩
theorem libO:LibO p_L:=⟨⟨iO,rfl,rfl⟩,rfl,rfl,rfl,rfl⟩
theorem libI:LibI p_L:=⟨libO,rfl,rfl,rfl⟩
theorem kX:aA []=[]:=length_eq_zero_iff.mp (fV [])
theorem n7 (hu:u=aA ks) (hk:ks.Nodup) (hF:F.Nodup) (hs:F.Pairwise λa b=>ltL b a=false) (hm:∀ r,r∈u↔r∈F):u=F:=by
 subst hu
 exact gY ((perm_ext_iff_of_nodup (qp hk) hF).mpr hm) (hH ks) hs
theorem fS (m c k:Nat) (U:Uni c k ks) (nd:ks.Nodup) (hl:ks.length<=63) (hk:k<=c) (hc:c<=60):aD (mkC p_L (m+4)) cL [.d (.int c),.d (.int k)] = .ok (.rule c (ah (aA ks)) k,.deep):=by
 unfold cL
 refine bM rfl λσ H=>?_
 refine Runs.no (gd (p:=false) (q:=false) ((lL (H.ev (x:="size") rfl) (av 0)).trans (by rw[decide_eq_false t7])) λ_=>(y9 (H.ev (x:="size") rfl) (H.ev (x:="count") rfl)).trans (by rw[decide_eq_false (F2 hk)])) ?_
 refine ae (eW (σ:=σ) (n:=m+3) (show p_L.lookup "choices_of" = some eX from rfl) (ag (H.ev (x:="count") rfl) (ag (H.ev (x:="size") rfl) aq)) rfl (rQ _ c k ks hk hc (λr a b=>(U r).mpr ⟨a,b⟩) hl)) λq e g=>?_
 refine am (g) λt e2 V h=>?_
 clear g
 obtain ⟨qv,qm⟩:=q
 subst e2
 have i:∀ r,r∈t↔r∈ks:=λr=>(V r).trans (U r).symm
 have hu:=jj V h hk
 obtain ⟨u,x,y,o,z,kk,v,h2,_⟩:=jQ iO m c t (tE hc) (λq=>hu.ne (by rw[q]; exact kX)) (le_trans (jt h λr j=>(i r).mp j) hl) (λr j=>⟨by rw[((V r).mp j).2]; exact Kc hk hc,((V r).mp j).1⟩) (sX V)
 have eu:u=aA ks:=by
  rw[v]
  exact vn h2 nd λr=>by rw[<- i r,<- o r,v,cS]
 have l:x.length=k:=((V x).mp ((o x).mp (mem_of_getElem? z))).2
 rw[eu,l] at y
 exact Runs.ret (nI iO (ag (H.ev (x:="count") rfl) (ag e aq)) rfl y) rfl
theorem y2 (m:Nat) (c k:Int) (h:k<0\/c<k):aD (mkC p_L (m+1)) cL [.d (.int c),.d (.int k)] = .exc "NoChoice" := by
 unfold cL
 refine tn rfl λg H=>?_
 have e:ev (mkC p_L (m+1)) (.or (.cmp .lt (.name "size") (.int 0)) (.cmp .gt (.name "size") (.name "count"))) g = .ok (sB true):=(gd (lL (H.ev (x:="size") rfl) (av 0)) λ_=>y9 (H.ev (x:="size") rfl) (H.ev (x:="count") rfl)).trans (by rw[show (decide (k<0)||decide (c<k))=true by simpa using h])
 rw[k7 e]
 rfl
theorem iP (m c d:Nat) (k1 k2:Int) (hu:Ru c u) (hv:Ru d v) (hl:(aB u v c).length<=63) (hcd:c+d<=60) (hul:∀ r∈u,r.length<=60):∃ x,(aB u v c)[0]? = some x/\aD (mkC p_L (m+4)) fq [.rule c (ah u) k1,.rule d (ah v) k2] = .ok (.rule ((c+d:Nat):Int) (ah (aB u v c)) (x:List Int).length,.deep):=by
 have P:=hu.prod hv
 have rl:∀ r∈aB u v c,r.length<=60:=λr hr=>by
  have s:=P.srt r hr
  have:=jt (b:=aF (c+d)) (bt s.1) λx hx=>mem_upTo.mpr (s.2 x hx)
  rw[ba] at this
  exact Gp hcd this
 refine bg (jQ iO m (c+d) (aB u v c) (Jp hcd) P.ne hl (λr hr=>⟨rl r hr,P.srt r hr⟩) P.nf) λw x er hm hx l=>?_
 refine am (l) λkk h1 h2 _=>?_
 clear l
 have ew:=n7 h1 h2 P.nd P.up hm
 rw[ew] at er hx
 refine (af x hx ?_)
 refine ai (lN iO (m+3)) λgR hR=>?_
 have t:∀ b:List Int,(b.map λy=>y+(c:Int))=b.map ((c:Int) + ·):=λb=>map_congr_left λy _=>add_comm y c
 unfold fq
 refine bM rfl λj H=>?_
 refine Runs.setD H ju rfl λj H hg _=>?_
 refine Runs.for (g:=ac) (xs:=u) (λk j=>∃ z,Has j [("table", .d (ah (aB k v c))),("one", .rule c (ah u) k1),("other", .rule d (ah v) k2)]/\j "table" = some (.d (ah (aB k v c)),z)/\z≠.sh) (aQ (d0 hR (H.ev (x:="one") rfl)).2.1 (bS u .sh)) (λσ0 h hh=>(aw .deep ((h _ H).sub (bV rfl rfl rfl trivial)) ((hh _ (by simp[dh,lK,bQ])).trans hg) (by decide))) ?_ ?_
 ·intro k a post hp j n
  refine am (n) λz H hg hms=>?_
  clear n
  have ha:a∈u:=by rw[hp]; simp
  have hal:=hul a ha
  have H1:=H.mk "choice" (.d (ac a))
  have o:upd j "choice" (mk (.d (ac a))) "table" = _:=(if_neg (by decide)).trans hg
  generalize upd j "choice" (mk (.d (ac a)))=j at H1 o
  have e1:∀ p:List (List Int),aB (k++[a]) v c=aB k v c++v.map λb=>a++b.map ((c:Int) + ·):=λp=>by
   unfold aB
   rw[flatMap_append,flatMap_cons,List.flatMap_nil,append_nil]
  have hpre:∀ p q:List (List Int),v=p++q->(aB k v c++p.map λb=>a++b.map ((c:Int) + ·)).length<=63:=λp q hq=>by
   refine le_trans ?_ hl
   rw[hp]
   unfold aB
   rw[flatMap_append,flatMap_cons,length_append,length_append,length_append,length_map,length_map]
   have:p.length<=v.length:=by rw[hq,length_append]; exact zG
   exact zD this
  refine Runs.for (g:=ac) (xs:=v) (λp j=>Has j [("table", .d (ah (aB k v c++p.map λb=>a++b.map ((c:Int) + ·)))),("choice", .d (ac a)),("one", .rule c (ah u) k1),("other", .rule d (ah v) k2)]/\j "table" = some (.d (ah (aB k v c++p.map λb=>a++b.map ((c:Int) + ·))),z)) (aQ (d0 hR (H1.ev (x:="other") rfl)).2.1 (bS v .sh)) (λσ0 h hh=>?_) ?_ ?_
  ·rw[map_nil,append_nil]
   exact ⟨(h _ H1).sub (bw rfl rfl rfl rfl trivial),(hh _ (by simp[dh,lK,bQ])).trans o⟩
  ·intro p b q hq j n
   refine aa (n) λH hg=>?_
   clear n
   have H1:=H.mk "more" (.d (ac b))
   have o:upd j "more" (mk (.d (ac b))) "table" = _:=(if_neg (by decide)).trans hg
   have hle:=hpre p (b::q) hq
   have hbl:=rl (a++b.map ((c:Int) + ·)) (mem_prod.mpr (af a ha (af b (by rw[hq]; simp) rfl)))
   rw[length_append,length_map] at hbl
   have ec:ev (mkC p_L (m+4)) (.comp (.bin .add (.name "thing") (.attr (.name "one") "count")) "thing" (.e (.name "more"))) (upd j "more" (mk (.d (ac b)))) = .ok (.d (ac (b.map ((c:Int) + ·))),.deep):=by
    rw[<- t b]
    exact og (λy=>y+(c:Int)) (aQ (H1.ev (x:="more") rfl) (dD b .sh)) λi _=>by
     have H2:=H1.upd "thing" (.d (.int i)) .deep
     exact cN (H2.ev (x:="thing") rfl) (d0 hR (H2.ev (x:="one") rfl)).1
   refine Runs.appR H1 o hms (ig (H1.ev (x:="choice") rfl) ec (by rw[length_map]; exact EL hbl)) (tD hle) λσ' H2 hg2 _=>Runs.nil ?_
   show Has _ _/\_
   rw[map_append,<- append_assoc]
   exact ⟨H2.sub (bw rfl rfl rfl rfl trivial),hg2⟩
  ·intro j n
   refine Runs.nil ?_
   show ∃ z,Has j _/\_
   rw[e1 []]
   exact (aw z (n.1.sub (bV rfl rfl rfl trivial)) n.2 hms)
 ·intro j n
  refine ae (n) λz H _=>?_
  clear n
  have en:ev (mkC p_L (m+4)) (.bin .add (.attr (.name "one") "count") (.attr (.name "other") "count")) j = .ok (sI ((c+d:Nat):Int)):=by
   rw[natCast_add]
   exact cN (d0 hR (H.ev (x:="one") rfl)).1 (d0 hR (H.ev (x:="other") rfl)).1
  exact Runs.ret (nI iO (ag en (ag (H.ev (x:="table") rfl) aq)) rfl er) rfl
theorem cq (n:Nat) (c:Int) (t:List (List Int)) (x:List Int) (h0:t[0]? = some x) (hl:t.length<=1000) (hr:∀ r∈t,r.length<=1000):aD (mkC p_L (n+3)) bX [.rule c (ah t) x.length,.d (.int c),.d (ah t)] = .ok (sB true):=by
 refine ai (lN iO (n+2)) λg h=>?_
 unfold bX
 refine bM rfl λi H=>?_
 have A:=d0 h (H.ev (x:="_law_rule") rfl)
 refine Runs.no (gd (p:=false) (q:=false) (b9 (t:=true) (aP lib0.whole (ag A.1 aq) rfl (jW _ c))) λuu=>gd (p:=false) (q:=false) ((lO A.1 (H.ev (x:="_law_count") rfl)).trans (by simp)) λuu=>b9 (t:=true) (aP lib0.whole (ag A.2.2 aq) rfl (jW _ x.length))) ?_
 exact Runs.ret (ke (p:=true) (q:=true) ((iI A.2.2 (eU (pU (H.ev (x:="_law_table") rfl) (av 0) (Int.le_refl 0) h0))).trans (by simp)) λuu=>aP libI.rowsAre (ag A.2.1 (ag (H.ev (x:="_law_table") rfl) aq)) rfl (uj libI n t hl hr)) rfl
theorem jz (m n:Nat) (k:Int) (hn:n<=6):∃ q,aD (mkC p_L (m+1)) gD [.d (.int n),.d (.int k)] = .ok q/\q.1 = .d (ah (aA (b0 n k))):=by
 unfold gD
 refine ja rfl λσ H=>?_
 refine ae (eW (σ:=σ) (n:=m) lib0.subs (ag (H.ev (x:="_law_count") rfl) aq) rfl (rj _ n (Fa hn))) λq e h=>?_
 refine cX (h) λt e2 v _ G=>?_
 clear h
 obtain ⟨qv,j⟩:=q
 subst e2
 subst v
 obtain ⟨o,i,_⟩:=CC (C:=mkC p_L (m+1)) (σ:=σ) (g:=ac) (l:=subs n) (z:="_law_row") (it:=.e (.call "_law_subsets" (.cons (.name "_law_count") .nil))) (a:=.name "_law_row") (c:=.cmp .eq (.bi1 .len (.name "_law_row")) (.name "_law_size")) (λr=>r) (λr=>decide ((r.length:Int)=k)) .sh (aQ e (bS (subs n) j)) (λr p=>by
  have H2:=H.mk "_law_row" (.d (ac r))
  exact iI (eU (H2.ev (x:="_law_row") rfl)) (H2.ev (x:="_law_size") rfl)) (λr p _=>(H.mk "_law_row" (.d (ac r))).ev rfl)
 rw[List.map_id'] at i
 have u:(b0 n k).length<=63:=qj (pS n hn) k
 by_cases h0:b0 n k=[]
 ·have i:ev (mkC p_L (m+1)) _ σ = .ok (.d (ah (b0 n k)),o):=i
  rw[h0] at i ⊢
  exact Runs.ret ((d6 i).trans rfl) (af _ rfl (by rw[kX]; show V.d (ac (dl []))=_; rw[show dl []=[] from length_eq_zero_iff.mp (bH []).length_eq]; rfl))
 ·refine ai (tw (t:=b0 n k) i h0 (IZ u)) λm2 y=>?_
  exact Runs.ret y (af _ rfl rfl)
theorem g8 (C:Calls) (c:Nat) (hl:(aB u v c).length<=63) (hul:∀ r∈u,r.length<=60) (hvl:∀ r∈v,r.length<=60):∃ q,aD C eE [.d (ah u),.d (ah v),.d (.int c)] = .ok q/\q.1 = .d (ah (aB u v c)):=by
 unfold eE
 refine ja rfl λj H=>?_
 refine Runs.setD H ju rfl λj H o _=>?_
 refine Runs.for (g:=ac) (xs:=u) (λk j=>∃ n,Has j [("_law_table", .d (ah (aB k v c))),("_law_right", .d (ah v)),("_law_count", .d (.int c))]/\j "_law_table" = some (.d (ah (aB k v c)),n)/\n≠.sh) (aQ (H.ev (x:="_law_left") rfl) (bS u .sh)) (λσ0 h hh=>(aw .deep ((h _ H).sub (bV rfl rfl rfl trivial)) ((hh _ (by simp[dh,bQ])).trans o) (by decide))) ?_ ?_
 ·intro k a post hp j l
  refine am (l) λn H o z=>?_
  clear l
  have hal:=hul a (by rw[hp]; simp)
  have H1:=H.mk "_law_one" (.d (ac a))
  have m:upd j "_law_one" (mk (.d (ac a))) "_law_table" = _:=(if_neg (by decide)).trans o
  generalize upd j "_law_one" (mk (.d (ac a)))=j at H1 m
  have t:∀ p q:List (List Int),v=p++q->(aB k v c++p.map λb=>a++b.map ((c:Int) + ·)).length<=63:=λp q hq=>by
   refine le_trans ?_ hl
   rw[hp]
   unfold aB
   rw[flatMap_append,flatMap_cons,length_append,length_append,length_append,length_map,length_map]
   have:p.length<=v.length:=by rw[hq,length_append]; exact zG
   exact zD this
  refine Runs.for (g:=ac) (xs:=v) (λp j=>Has j [("_law_table", .d (ah (aB k v c++p.map λb=>a++b.map ((c:Int) + ·)))),("_law_one", .d (ac a)),("_law_right", .d (ah v)),("_law_count", .d (.int c))]/\j "_law_table" = some (.d (ah (aB k v c++p.map λb=>a++b.map ((c:Int) + ·))),n)) (aQ (H1.ev (x:="_law_right") rfl) (bS v .sh)) (λσ0 h hh=>?_) ?_ ?_
  ·rw[map_nil,append_nil]
   exact ⟨(h _ H1).sub (bw rfl rfl rfl rfl trivial),(hh _ (by simp[dh,bQ])).trans m⟩
  ·intro p b q hq j l
   refine aa (l) λH o=>?_
   clear l
   have H1:=H.mk "_law_other" (.d (ac b))
   have m:upd j "_law_other" (mk (.d (ac b))) "_law_table" = _:=(if_neg (by decide)).trans o
   have hle:=t p (b::q) hq
   have hbl:=hvl b (by rw[hq]; simp)
   have ec:ev C (.comp (.bin .add (.name "_law_count") (.name "_law_thing")) "_law_thing" (.e (.name "_law_other"))) (upd j "_law_other" (mk (.d (ac b)))) = .ok (.d (ac (b.map ((c:Int) + ·))),.deep) :=
    og (λy=>(c:Int)+y) (aQ (H1.ev (x:="_law_other") rfl) (dD b .sh)) λi _=>by
     have H2:=H1.upd "_law_thing" (.d (.int i)) .deep
     exact cN (H2.ev (x:="_law_count") rfl) (H2.ev (x:="_law_thing") rfl)
   refine Runs.appR H1 m z (ig (H1.ev (x:="_law_one") rfl) ec (by rw[length_map]; exact He hal hbl)) (tD hle) λσ' H2 hg2 _=>Runs.nil ?_
   show Has _ _/\_
   rw[map_append,<- append_assoc]
   exact ⟨H2.sub (bw rfl rfl rfl rfl trivial),hg2⟩
  ·intro j l
   refine Runs.nil ?_
   show ∃ n,Has j _/\_
   rw[show aB (k++[a]) v c=aB k v c++v.map λb=>a++b.map ((c:Int) + ·) by unfold aB; rw[flatMap_append,flatMap_cons,List.flatMap_nil,append_nil]]
   exact (aw n (l.1.sub (bV rfl rfl rfl trivial)) l.2 z)
 ·intro j l
  refine am (l) λn H o _=>?_
  clear l
  exact Runs.retn o (af _ rfl rfl)
theorem FD (ha:ev C a σ = .ok (.d (ah []),m)):ev C (.cmp .eq a (.list .nil)) σ = .ok (sB true):=(Ag (xs:=[]) (ys:=[]) ha tL).trans (by simp)
theorem cQ {n:Nat}{r:List Int}(h:Srt n r):r.length<=n:=by
 have:=jt (b:=aF n) (bt h.1) λx hx=>mem_upTo.mpr (h.2 x hx)
 rwa [ba] at this
theorem r8 (m n:Nat) (k:Int) (hn:n<=6):aD (mkC p_L (m+5)) gp [.d (.int n),.d (.int k)] = .ok (sB true):=by
 unfold gp
 refine bM rfl λσ H=>?_
 refine ae (eW (σ:=σ) (n:=m+4) (show p_L.lookup "_law_any" = some gD from rfl) (ag (H.ev (x:="_law_count") rfl) (ag (H.ev (x:="_law_size") rfl) aq)) rfl (jz (m+3) n k hn)) λq e1 e2=>?_
 obtain ⟨qv,qm⟩:=q
 subst e2
 refine Runs.set H e1 λσ H _=>?_
 have hl:(b0 n k).length<=63:=qj (pS n hn) k
 by_cases hk:0<=k/\k<=n
 ·refine ai (Int.eq_ofNat_of_zero_le hk.1) λj K9=>?_
  subst K9
  have hj:j<=n:=by exact Fh hk
  have U:=gJ n j
  have R:=jj U (jo n j) hj
  have ea:=aP (show p_L.lookup "any_of" = some cL from rfl) (ag (H.ev (C:=mkC p_L (m+5)) (x:="_law_count") rfl) (ag (H.ev (x:="_law_size") rfl) aq)) rfl (fS m n j U (jo n j) hl hj (by exact EI hn))
  refine Runs.cons (o:=(upd σ "_law_made" (.rule n (ah (aA (b0 n j))) j,.deep),.next)) (by rw[hJ,wX ea rfl]; rfl) ?_
  have H:=H.upd "_law_made" (.rule n (ah (aA (b0 n j))) j) .deep
  obtain ⟨x,hx⟩:∃ x,(aA (b0 n j))[0]? = some x:=by
   cases e:aA (b0 n j) with
   | nil=>exact absurd e R.ne
   | cons a l=>exact ⟨a,rfl⟩
  have hxl:x.length=j:=((U x).mp ((cS _ _).mp (mem_of_getElem? hx))).2
  have er:=aP (σ:=upd σ "_law_made" (.rule n (ah (aA (b0 n j))) j,.deep)) (show p_L.lookup "_law_rule_is" = some bX from rfl) (ag (H.ev (C:=mkC p_L (m+5)) (x:="_law_made") rfl) (ag (H.ev (x:="_law_count") rfl) (ag (H.ev (x:="_law_due") rfl) aq))) rfl (hxl▸cq (m+1) n _ x hx (by rw[fV]; exact mw hl) λr hr=>by have:=cQ (R.srt r hr); exact El hn this)
  exact Runs.ret (ke (p:=true) (q:=true) ((Hr (H.ev (x:="_law_due") rfl) ju).trans (by simp[R.ne])) λ_=>er) rfl
 ·have h0:b0 n k=[]:=List.filter_eq_nil_iff.mpr λr hr q=>by
   have:=cQ ((fK n r).mp hr)
   have:=of_decide_eq_true q
   exact hk ⟨by exact FK this,by exact HH (by assumption) this⟩
  rw[h0,kX] at H
  have ex:evA (mkC p_L (m+5)) (.call "any_of" (.cons (.name "_law_count") (.cons (.name "_law_size") .nil))) σ = .exc "NoChoice" := (by
   have hC:mkC p_L (m+5) "any_of" = some λvs=>cC "any_of" (mkC p_L (m+4)) cL vs:=rfl
   show ev _ _ _=_
   rw[gP hC (ag (H.ev (x:="_law_count") rfl) (ag (H.ev (x:="_law_size") rfl) aq))]
   exact y2 (m+3) n k (by exact FE hk))
  refine Runs.cons (o:=(σ,.ret (sB true))) ?_ rfl
  rw[hJ,bW,ex]
  show ((ev noC (.cmp .eq (.name "_law_due") (.list .nil)) σ).calm.bind λq=>Out.ok (σ,Flw.ret q))=_
  rw[FD (H.ev (x:="_law_due") rfl)]; rfl
theorem fX (nd:ks.Nodup) (up:ks.Pairwise λa b=>ltL b a=false):aA ks=ks:=n7 rfl nd nd up λr=>cS ks r
theorem Ck (c:Nat):Uni c 1 ((aF c).map λi=>[i]):=λr=>by
 rw[mem_map]
 constructor
 ·intro h
  refine ae (h) λi n k=>?_
  clear h
  subst k
  exact ⟨⟨by simp,λx m=>by rw[mem_singleton.mp m]; exact mem_upTo.mp n⟩,rfl⟩
 ·intro g
  refine aa (g) λs l=>?_
  clear g
  refine ai (List.length_eq_one_iff.mp l) λi j=>?_
  subst j
  exact (af i (mem_upTo.mpr (s.2 i (by simp))) rfl)
theorem wC (ha:Srt n a) (hb:Srt n b) (h:∀ x∈a,x∈b) (hl:b.length<=a.length):a=b:=by
 have g:a.Perm b:=(perm_ext_iff_of_nodup (bt ha.1) (bt hb.1)).mpr λx=>⟨h x,nU (bt ha.1) h hl x⟩
 rw[<- hb.sort g,rT ha.1]
theorem rH (c:Nat):Srt c (aF c):=⟨aT c,λx g=>mem_upTo.mp g⟩
theorem xr (c:Nat):Uni c c [aF c]:=λr=>by
 rw[mem_singleton]
 exact ⟨λe=>by rw[e]; exact ⟨rH c,ba c⟩,λh=>wC h.1 (rH c) (λx g=>mem_upTo.mpr (h.1.2 x g)) (by rw[ba,h.2]; exact le_refl _)⟩
theorem rc (c:Nat):Uni c 0 [[]]:=λr=>by
 rw[mem_singleton]
 exact ⟨λe=>by rw[e]; exact ⟨.nil _,rfl⟩,λh=>length_eq_zero_iff.mp h.2⟩
noncomputable def iS (c:Nat) (g:Int):List Int:=(aF c).filter λx=>!decide (x=g)
theorem sK (c:Nat) (g:Int):Srt c (iS c g):=⟨(aT c).filter _,λx h=>mem_upTo.mp (mem_filter.mp h).1⟩
theorem sH (h:g∈aF c):(iS c g).length+1=c:=by
 have:=(pL (bt (aT c)) h).length_eq
 rw[ba] at this
 exact this.symm
theorem AX (c:Nat) (hc:0<c):Uni c (c-1) ((aF c).map (iS c)):=λr=>by
 rw[mem_map]
 constructor
 ·intro i
  refine ae (i) λg k m=>?_
  clear i
  subst m
  exact ⟨sK c g,by have:=sH k; exact Ej this⟩
 ·intro h
  refine aa (h) λs l=>?_
  clear h
  have:∃ g∈aF c,g∉r:=Classical.byContradiction λq=>by
   have:=jt (b:=r) (bt (aT c)) λx j=>Classical.byContradiction λn=>q (af x j n)
   rw[ba] at this
   exact GZ hc l this
  refine ae (this) λg k o=>?_
  clear this
  refine (af g k ((wC s (sK c g) (λx j=>mem_filter.mpr ⟨mem_upTo.mpr (s.2 x j),?_⟩) ?_).symm))
  ·have:x≠g:=λe=>o (e▸j)
   simpa using this
  ·have:=sH k; exact JO l this
theorem Dl (c:Nat):((aF c).map (iS c)).Nodup:=pairwise_map.mpr (List.Pairwise.imp_of_mem (λ{a b} g i h e=>by
 have:a∈iS c b:=mem_filter.mpr ⟨g,by simpa using h⟩
 rw[<- e] at this
 have:=(mem_filter.mp this).2
 simp at this) (bt (aT c)))
noncomputable def kN (c:Nat):List (List Int):=(aF c).flatMap λi=>(rng (i+1) c).map λj=>[i,j]
theorem A4 (c:Nat):Uni c 2 (kN c):=λr=>by
 unfold kN
 rw[List.mem_flatMap]
 constructor
 ·intro k
  refine ae (k) λi o h=>?_
  clear k
  refine ae (mem_map.mp h) λj n m=>?_
  subst m
  have o:=mem_upTo.mp o
  have n:=mem_rng.mp n
  refine ⟨⟨by simp; exact EC n,λx hx=>?_⟩,rfl⟩
  rcases mem_cons.mp hx with rfl | hx
  ·exact o
  ·rw[mem_singleton.mp hx]; exact Fo o n
 ·intro g
  refine aa (g) λs l=>?_
  clear g
  obtain ⟨i,j,rfl⟩:∃ i j,r=[i,j]:=by
   cases r with
   | nil=>cases l
   | cons a r=>cases r with
    | nil=>cases l
    | cons b r=>cases r with
     | nil=>exact (bn a b rfl)
     | cons _ _=>simp at l
  have p:i<j:=by have:=s.1; simp at this; exact this
  exact (af i (mem_upTo.mpr (s.2 i (by simp))) (mem_map.mpr (af j (mem_rng.mpr ⟨by exact Iw p,(s.2 j (by simp)).2⟩) rfl)))
theorem we (i j:Int):(rng i j).Pairwise (· < ·):=by
 unfold rng
 exact pairwise_map.mpr (List.pairwise_lt_range.imp λq=>by exact Fv q)
theorem ltL_two' (h:a<c\/(a=c/\b<d)):ltL [c,d] [a,b]=false:=by
 show (if c=a then (if d=b then false else decide (d<b)) else decide (c<a))=false
 rcases h with h | ⟨rfl,h⟩
 ·rw[if_neg (uH h),decide_eq_false (tG h)]
 ·rw[if_pos rfl,if_neg (uH h),decide_eq_false (tG h)]
theorem Dj (c:Nat):(kN c).Pairwise λa b=>ltL b a=false:=by
 refine List.pairwise_flatMap.mpr ⟨λi _=>pairwise_map.mpr ((we _ _).imp λh=>ltL_two' (.inr ⟨rfl,h⟩)),(aT c).imp λh x l y k=>?_⟩
 refine ae (mem_map.mp l) λp _ j=>?_
 subst j
 refine ae (mem_map.mp k) λq _ g=>?_
 subst g
 exact ltL_two' (.inl h)
theorem vz (c:Nat):(kN c).Nodup:=by
 refine List.pairwise_flatMap.mpr ⟨λi _=>pairwise_map.mpr ((we _ _).imp λh e=>by simp at e; exact zB h e),(aT c).imp λh x l y k e=>?_⟩
 refine ae (mem_map.mp l) λp _ j=>?_
 subst j
 refine ae (mem_map.mp k) λq _ g=>?_
 subst g
 simp at e; exact GC h e
theorem sG:∀ c≤11,(kN c).length<=63:=by decide +kernel
theorem Df (c:Nat):((aF c).map λi=>[i]).Pairwise λa b=>ltL b a=false:=pairwise_map.mpr ((aT c).imp λ{a b} h=>by
 show (if b=a then false else decide (b<a))=false
 rw[if_neg (uH h),decide_eq_false (tG h)])
theorem wO (c:Nat):((aF c).map λi=>[i]).Nodup:=pairwise_map.mpr ((aT c).imp λh e=>by simp at e; exact zB h e)
theorem ya {C:Calls}{σ:St}{a:E}{n:Nat}(ha:ev C a σ = .ok (sI n)) (hn:n<=1000):ev C (.listR a) σ = .ok (.d (ac (aF n)),.deep):=by
 have:=da (C:=C) (σ:=σ) ha (le_trans hn (by decide))
 rw[fM,ha] at this
 rw[eI,ha]
 show ((bE 0 n).bind λq=>Out.ok (V.d (.list q.1),Mode.deep))=_
 rw[show bE 0 n=_ from this]; rfl
theorem ie (m:Nat) {σ:St}{c k:Nat}{due ks:List (List Int)}{l:List (String×V)}(H:Has σ l) (h1:l.lookup "_law_count" = some (.d (.int c))) (h2:l.lookup "_law_size" = some (.d (.int k))) (h3:l.lookup "_law_due" = some (.d (ah due))) (U:Uni c k ks) (nd:ks.Nodup) (hl:ks.length<=63) (hk:k<=c) (hc:c<=60) (e:due=aA ks) :
  Runs (mkC p_L (m+5)) (.cons (.ret (.call "_law_rule_is" (.cons (.call "any_of" (.cons (.name "_law_count") (.cons (.name "_law_size") .nil))) (.cons (.name "_law_count") (.cons (.name "_law_due") .nil))))) .nil) σ (λ_ fl=>fl = .ret (sB true)):=by
 subst e
 have R:=jj U nd hk
 obtain ⟨x,hx⟩:∃ x,(aA ks)[0]? = some x:=by
  cases e:aA ks with
  | nil=>exact absurd e R.ne
  | cons a l=>exact ⟨a,rfl⟩
 have hxl:x.length=k:=((U x).mp ((cS _ _).mp (mem_of_getElem? hx))).2
 have ea:=aP (show p_L.lookup "any_of" = some cL from rfl) (ag (H.ev (C:=mkC p_L (m+5)) h1) (ag (H.ev h2) aq)) rfl (fS m c k U nd hl hk hc)
 exact Runs.ret (aP (show p_L.lookup "_law_rule_is" = some bX from rfl) (ag ea (ag (H.ev h1) (ag (H.ev h3) aq))) rfl (hxl▸cq (m+1) c _ x hx (by rw[fV]; exact mw hl) λr hr=>by have:=cQ (R.srt r hr); exact JX hc this)) rfl
theorem vp (m c:Nat) (kind:Int) (h7:7<=c) (h20:c<=20) (hk:kind=0\/kind=1\/kind=2\/kind=3\/kind=4):aD (mkC p_L (m+5)) eT [.d (.int c),.d (.int kind)] = .ok (sB true):=by
 unfold eT
 refine bM rfl λσ H=>?_
 obtain ⟨n,r⟩:∃ n:Nat,n=if kind=4 then 7+c%5 else c:=⟨_,rfl⟩
 refine Runs.iteTo (λσ=>Has σ [("_law_count", .d (.int n)),("_law_kind", .d (.int kind))]) (iI (H.ev (x:="_law_kind") rfl) (av 4)) (λq=>?_) (λq=>Runs.nil ⟨rfl,?_⟩) ?_
 ·have q:=of_decide_eq_true q
  rw[if_pos q] at r
  have ec:ev (mkC p_L (m+5)) (.bin .add (.int 7) (.bin .mod (.name "_law_count") (.int 5))) σ = .ok (sI n):=by
   rw[r]
   exact (cN (av 7) (cY (H.ev (x:="_law_count") rfl) (av 5) (by decide))).trans (by congr 1)
  exact Runs.set H ec λσ H _=>Runs.nil ⟨rfl,H.sub ⟨rfl,rfl,trivial⟩⟩
 ·have q:=of_decide_eq_false q
  rw[if_neg q] at r
  subst r
  exact H.sub ⟨rfl,rfl,trivial⟩
 clear H
 intro σ H
 have p:7<=n/\n<=20/\(kind=4->n<=11):=by
  rw[r]
  split
  ·exact ⟨by exact HD,by exact II,λ_=>by exact JW⟩
  ·exact ⟨h7,h20,λq=>absurd q ‹_›⟩
 clear r h7 h20
 obtain ⟨k,o⟩:∃ k:Nat,([1,(n:Int)-1,0,n,2]:List Int)[kind.toNat]? = some (k:Int)/\k=(if kind=0 then 1 else if kind=1 then n-1 else if kind=2 then 0 else if kind=3 then n else 2):=by
  rcases hk with rfl | rfl | rfl | rfl | rfl
  ·exact (af 1 rfl rfl)
  ·exact (af (n-1) (congrArg some (Fc p)) rfl)
  ·exact (af 0 rfl rfl)
  ·exact (af n rfl rfl)
  ·exact (af 2 rfl rfl)
 have el:ev (mkC p_L (m+5)) (.list (.cons (.int 1) (.cons (.bin .sub (.name "_law_count") (.int 1)) (.cons (.int 0) (.cons (.name "_law_count") (.cons (.int 2) .nil)))))) σ = .ok (.d (ac [1,(n:Int)-1,0,n,2]),.deep):=by
  have h1:=k6 (H.ev (C:=mkC p_L (m+5)) (x:="_law_count") rfl) (av 1)
  have h2:=H.ev (C:=mkC p_L (m+5)) (x:="_law_count") rfl
  simp only[br,bc,bi,av,h1,h2,Out.ok_bind]; rfl
 refine Runs.set H (mE el (H.ev (x:="_law_kind") rfl) (by rcases hk with rfl | rfl | rfl | rfl | rfl<;>decide) o.1) λσ H _=>?_
 clear el
 replace o:=o.2
 refine Runs.set H rp λσ H _=>?_
 have v:∀ {σ:St}{l:List (String×V)}(j:Int),Has σ l->l.lookup "_law_kind" = some (.d (.int kind))->ev (mkC p_L (m+5)) (.cmp .eq (.name "_law_kind") (.int j)) σ = .ok (sB (decide (kind=j))):=λj H e=>iI (H.ev e) (av j)
 refine Runs.iteTo (λσ=>Has σ [("_law_due", .d (ah (if kind=0 then (aF n).map λi=>[i] else [[]]))),("_law_size", .d (.int k)),("_law_count", .d (.int n)),("_law_kind", .d (.int kind))]) (v 0 H rfl) (λq=>?_) (λq=>?_) ?_
 ·rw[if_pos (of_decide_eq_true q)]
  refine ae (gL (C:=mkC p_L (m+5)) (σ:=σ) (g:=PyData.int) (l:=aF n) (z:="_law_thing") (it:=.r1 (.name "_law_count")) (a:=.list (.cons (.name "_law_thing") .nil)) (λi=>[i]) .deep (da (H.ev (x:="_law_count") rfl) (pD p)) λi _=>nr ((H.mk "_law_thing" (.d (.int i))).ev (x:="_law_thing") rfl)) λm1 u _=>?_
  exact Runs.set H u λσ H _=>Runs.nil ⟨rfl,H.sub (bw rfl rfl rfl rfl trivial)⟩
 ·rw[if_neg (of_decide_eq_false q)]
  exact Runs.nil ⟨rfl,H.sub (bw rfl rfl rfl rfl trivial)⟩
 clear H
 intro σ H
 refine Runs.iteTo (λσ=>Has σ [("_law_due", .d (ah (if kind=1 then aA ((aF n).map (iS n)) else if kind=0 then (aF n).map λi=>[i] else [[]]))),("_law_size", .d (.int k)),("_law_count", .d (.int n)),("_law_kind", .d (.int kind))]) (v 1 H rfl) (λq=>?_) (λq=>?_) ?_
 ·rw[if_pos (of_decide_eq_true q)]
  obtain ⟨m1,u,_⟩:=gL (C:=mkC p_L (m+5)) (σ:=σ) (g:=PyData.int) (l:=aF n) (z:="_law_gone") (it:=.r1 (.name "_law_count")) (a:=.compif (.name "_law_thing") "_law_thing" (.r1 (.name "_law_count")) (.cmp .ne (.name "_law_thing") (.name "_law_gone"))) (iS n) .deep (da (H.ev (x:="_law_count") rfl) (pD p)) λi _=>by
   have H1:=H.mk "_law_gone" (.d (.int i))
   exact kJ (λx=>!decide (x=i)) (da (H1.ev (x:="_law_count") rfl) (pD p)) λx _=>by
    have H2:=H1.upd "_law_thing" (.d (.int x)) .deep
    exact lO (H2.ev (x:="_law_thing") rfl) (H2.ev (x:="_law_gone") rfl)
  obtain ⟨m2,e2⟩:=tw u (λq=>by have:=congrArg List.length q; rw[length_map,ba] at this; simp at this; exact Ey p this) (by rw[length_map,ba]; exact GI p)
  exact Runs.set H e2 λσ H _=>Runs.nil ⟨rfl,H.sub (bw rfl rfl rfl rfl trivial)⟩
 ·rw[if_neg (of_decide_eq_false q)]
  exact Runs.nil ⟨rfl,H.sub (bw rfl rfl rfl rfl trivial)⟩
 clear H
 intro σ H
 refine Runs.iteTo (λσ=>Has σ [("_law_due", .d (ah (if kind=3 then [aF n] else if kind=1 then aA ((aF n).map (iS n)) else if kind=0 then (aF n).map λi=>[i] else [[]]))),("_law_size", .d (.int k)),("_law_count", .d (.int n)),("_law_kind", .d (.int kind))]) (v 3 H rfl) (λq=>?_) (λq=>?_) ?_
 ·rw[if_pos (of_decide_eq_true q)]
  have er:=ya (H.ev (C:=mkC p_L (m+5)) (x:="_law_count") rfl) (I8 p)
  have u:ev (mkC p_L (m+5)) (.list (.cons (.listR (.name "_law_count")) .nil)) σ = .ok (.d (ah [aF n]),.deep):=by
   simp only[br,bc,bi,er,Out.ok_bind]; rfl
  exact Runs.set H u λσ H _=>Runs.nil ⟨rfl,H.sub (bw rfl rfl rfl rfl trivial)⟩
 ·rw[if_neg (of_decide_eq_false q)]
  exact Runs.nil ⟨rfl,H.sub (bw rfl rfl rfl rfl trivial)⟩
 clear H
 intro σ H
 refine Runs.iteTo (λσ=>Has σ [("_law_due", .d (ah (if kind=4 then kN n else if kind=3 then [aF n] else if kind=1 then aA ((aF n).map (iS n)) else if kind=0 then (aF n).map λi=>[i] else [[]]))),("_law_size", .d (.int k)),("_law_count", .d (.int n)),("_law_kind", .d (.int kind))]) (v 4 H rfl) (λq=>?_) (λq=>?_) ?_
 ·have q:=of_decide_eq_true q
  rw[if_pos q]
  have h11:=p.2.2 q
  have tl:=sG n h11
  refine Runs.set H ju λσ H _=>?_
  refine Runs.for (g:=PyData.int) (xs:=aF n) (λt σ=>Has σ [("_law_due", .d (ah (t.flatMap λi=>(rng (i+1) n).map λj=>[i,j]))),("_law_size", .d (.int k)),("_law_count", .d (.int n)),("_law_kind", .d (.int kind))]) (da (H.ev (x:="_law_count") rfl) (pD p)) (λσ0 h _=>(h _ H).sub (bw rfl rfl rfl rfl trivial)) ?_ λσ H=>Runs.nil ⟨rfl,H⟩
  intro t i post hp σ H
  have H1:=H.mk "_law_one" (.d (.int i))
  have hi:=mem_upTo.mp (show i∈aF n by rw[hp]; simp)
  obtain ⟨m1,u,_⟩:=gL (C:=mkC p_L (m+5)) (σ:=upd σ "_law_one" (mk (.d (.int i)))) (g:=PyData.int) (l:=rng (i+1) n) (z:="_law_thing") (it:=.r2 (.bin .add (.name "_law_one") (.int 1)) (.name "_law_count")) (a:=.list (.cons (.name "_law_one") (.cons (.name "_law_thing") .nil))) (λj=>[i,j]) .deep (rS (cN (H1.ev (x:="_law_one") rfl) (av 1)) (H1.ev (x:="_law_count") rfl) (H5 hi) (Id p hi) ml (Ef p)) λj _=>by
   have H2:=H1.mk "_law_thing" (.d (.int j))
   exact Go (H2.ev (x:="_law_one") rfl) (H2.ev (x:="_law_thing") rfl)
  have y:(t.flatMap λi=>(rng (i+1) n).map λj=>[i,j]).length+((rng (i+1) n).map λj=>[i,j]).length<=63:=by
   refine le_trans ?_ tl
   unfold kN
   rw[hp,flatMap_append,flatMap_cons,length_append,length_append]
   exact Fw
  refine ai (vK (H1.ev (x:="_law_due") rfl) u (Eh y)) λm2 e2=>?_
  refine Runs.set H1 e2 λσ H _=>Runs.nil ?_
  show Has σ _
  rw[flatMap_append,flatMap_cons,List.flatMap_nil,append_nil]
  exact H.sub (bw rfl rfl rfl rfl trivial)
 ·rw[if_neg (of_decide_eq_false q)]
  exact Runs.nil ⟨rfl,H.sub (bw rfl rfl rfl rfl trivial)⟩
 clear H
 intro σ H
 rcases hk with rfl | rfl | rfl | rfl | rfl
 ·exact ie m (due:=(aF n).map λi=>[i]) H rfl rfl rfl (o▸Ck n) (wO n) (by rw[length_map,ba]; exact HQ p) (by rw[o]; show 1<=n; exact HE p) (D9 p) (fX (wO n) (Df n)).symm
 ·exact ie m (due:=aA ((aF n).map (iS n))) H rfl rfl rfl (o▸AX n (Hm p)) (Dl n) (by rw[length_map,ba]; exact FH p) (by rw[o]; show n-1<=n; exact Jv) (JV p) rfl
 ·exact ie m (due:=[[]]) (ks:=[[]]) H rfl rfl rfl (o▸rc n) (by simp) (by simp) (by rw[o]; show 0<=n; exact Hz) (IU p) (fX (by simp) (by simp)).symm
 ·exact ie m (due:=[aF n]) (ks:=[aF n]) H rfl rfl rfl (o▸xr n) (by simp) (by simp) (by rw[o]; exact le_refl _) (DW p) (fX (by simp) (by simp)).symm
 ·exact ie m (due:=kN n) H rfl rfl rfl (o▸A4 n) (vz n) (sG n (p.2.2 rfl)) (by rw[o]; show 2<=n; exact IJ p) (Iz p) (fX (vz n) (Dj n)).symm
noncomputable def xC (s:List Int) (k:Int):Int×Int:=(cw s (4+k)%4,cw s (4+k)/4%6-1)
noncomputable def Bn (l:List (Int×Int)):Prop:=l.length<=3/\∀ p∈l,0<=p.1/\p.1<=3/\-1<=p.2/\p.2<=4
theorem pM (m:Nat) (s:List Int):∃ l,Bn l/\aD (mkC p_L (m+1)) fN [.d (ac s)] = .ok (.d (aE l),.deep):=by
 obtain ⟨n,r⟩:∃ n:Nat,cw s 3%4=n:=⟨(cw s 3%4).toNat,by exact Ep⟩
 have hn3:n<=3:=by exact Fb r
 refine (af ((aF n).map (xC s)) ⟨by rw[length_map,ba]; exact hn3,λp q=>?_⟩ ?_)
 ·refine ae (mem_map.mp q) λk _ o=>?_
  subst o
  unfold xC
  refine (bV ?_ ?_ ?_ ?_)<;>simp only<;>lia
 ·unfold fN
  refine bM rfl λi H=>?_
  have e0:ev (mkC p_L (m+1)) (.list .nil) i = .ok (.d (aE []),.deep):=by simp only[br,bc]; rfl
  refine Runs.setD H e0 rfl λi H v _=>?_
  refine Runs.for (g:=PyData.int) (xs:=aF n) (λj i=>Has i [("_law_script", .d (ac s))]/\i "_law_rows" = some (.d (aE (j.map (xC s))),.deep)) (da (by rw[<- r]; exact cY (eF lib0 (H.ev (x:="_law_script") rfl) (av 3) (by decide)) (av 4) (by decide)) (ER r)) (λσ0 h hx=>⟨(h _ H).sub ⟨rfl,trivial⟩,(hx _ (by simp[qT,nV,j6,ip,l6,bQ,nJ])).trans v⟩) ?_ λi h=>Runs.retn h.2 rfl
  intro j y post q i h
  refine aa (h) λH v=>?_
  clear h
  have hy:0<=y/\y<n:=mem_upTo.mp (by rw[q]; simp)
  have H1:=H.mk "_law_k" (.d (.int y))
  have u:upd i "_law_k" (mk (.d (.int y))) "_law_rows" = _:=(if_neg (by decide)).trans v
  refine Runs.setD H1 (eF lib0 (H1.ev (x:="_law_script") rfl) (cN (av 4) (H1.ev (x:="_law_k") rfl)) (Eg hy)) rfl λi H2 _ kp=>?_
  have z:j.length<=n:=by
   have:=congrArg List.length q
   rw[ba,length_append] at this; exact DR this
  refine Runs.appT H2 ((kp _ (by decide)).trans u) (by decide) (DD (cY (H2.ev (x:="_law_cell") rfl) (av 4) (by decide)) (k6 (cY (t0 (H2.ev (x:="_law_cell") rfl) (av 4) (by decide) (by decide)) (av 6) (by decide)) (av 1))) (by rw[length_map]; exact HP r z) λi H3 t _=>Runs.nil ⟨H3.sub ⟨rfl,trivial⟩,?_⟩
  rw[t,map_append]; rfl
theorem rL {C:Calls}{body:Ss}{x y:String}{Post:St->Flw->Prop}{xs:List (Int×Int)}(Inv:List (Int×Int)->St->Prop)
  (hs:∀ pre q post,xs=pre++q::post->∀ σ,Inv pre σ->Runs C body (upd (upd σ x (sI q.1)) y (sI q.2)) (λσ' fl=>match fl with | .next=>Inv (pre++[q]) σ' | .ret v=>Post σ' (.ret v))) :
  ∀ (post pre:List (Int×Int)) (σ:St),xs=pre++post->Inv pre σ->∃ o,bB (λd σ=>al ((jY d).map λp=>upd (upd σ x (sI p.1)) y (sI p.2)) (exs C body)) (post.map bK) σ = .ok o/\match o.2 with | .next=>Inv xs o.1 | .ret v=>Post o.1 (.ret v)
 | [],pre,σ,hl,h=>(af (σ,.next) rfl (by rw[hl,append_nil]; exact h))
 | q::post,pre,σ,hl,h=>by
  refine au (hs pre q post hl σ h) λa f l i=>?_
  have g:al ((jY (bK q)).map λp=>upd (upd σ x (sI p.1)) y (sI p.2)) (exs C body) = .ok (a,f):=l
  cases f with
  | ret v=>exact (af (a,.ret v) (by rw[map_cons,bB,g]; rfl) i)
  | next=>
   obtain ⟨o,k,j⟩:=rL Inv hs post (pre++[q]) a (by rw[hl,append_assoc]; rfl) i
   exact (af o (by rw[map_cons,bB,g]; exact k) j)
theorem Runs.for2 (Inv:List (Int×Int)->St->Prop) (hit:aZ C it σ = .ok (xs.map bK,m)) (h0:∀ σ0,(∀ l,Has σ l->Has σ0 l)->(∀ y,y∉bD it->σ0 y=σ y)->Inv [] σ0)
  (hs:∀ pre q post,xs=pre++q::post->∀ σ,Inv pre σ->Runs C body (upd (upd σ x (sI q.1)) y (sI q.2)) (λσ' fl=>match fl with | .next=>Inv (pre++[q]) σ' | .ret v=>Post σ' (.ret v)))
  (k:∀ σ',Inv xs σ'->Runs C b σ' Post):Runs C (.cons (.for2 x y it body) b) σ Post:=by
 refine ae (rL Inv hs xs [] (consume σ (bD it) m) rfl (h0 _ dg.1 dg.2)) λo h g=>?_
 refine Runs.cons (o:=o) (by rw[qu,hit]; exact h) ?_
 obtain ⟨a,f⟩:=o
 cases f with
 | next=>exact k a g
 | ret v=>exact g
noncomputable def jB:Ss:=(.cons (.ite (.cmp .lt (.name "most") (.int 0)) (.cons (.raise "NoChoice") .nil) .nil) .nil)
theorem ph (m:Nat):∀ (l:List (Int×Int)) (σ:St),(∃ q∈l,q.2<0)->bB (λd σ=>al ((jY d).map λp=>upd (upd σ "many" (sI p.1)) "most" (sI p.2)) (exs (mkC p_L (m+1)) jB)) (l.map bK) σ = .exc "NoChoice"
 | [],_,h=>by obtain ⟨q,h,_⟩:=h; cases h
 | q::l,σ,h=>by
  have e:ev (mkC p_L (m+1)) (.cmp .lt (.name "most") (.int 0)) (upd (upd σ "many" (sI q.1)) "most" (sI q.2)) = .ok (sB (decide (q.2<0))):=lL (show ev _ _ _ = .ok (sI q.2) from (B8 (p:=sI q.2) (if_pos rfl)).trans rfl) (av 0)
  by_cases hq:q.2<0
  ·rw[decide_eq_true hq] at e
   have g:al ((jY (bK q)).map λp=>upd (upd σ "many" (sI p.1)) "most" (sI p.2)) (exs (mkC p_L (m+1)) jB) = .exc "NoChoice" := by
    show exs _ jB _=_
    unfold jB
    rw[exs,k7 e]; rfl
   rw[map_cons,bB,g]; rfl
  ·rw[decide_eq_false hq] at e
   have g:al ((jY (bK q)).map λp=>upd (upd σ "many" (sI p.1)) "most" (sI p.2)) (exs (mkC p_L (m+1)) jB) = .ok (upd (upd σ "many" (sI q.1)) "most" (sI q.2),.next):=by
    show exs _ jB _=_
    unfold jB
    rw[exs,lf e]; rfl
   rw[map_cons,bB,g]
   refine ph m l _ ?_
   refine ae (h) λp hp i=>?_
   clear h
   rcases mem_cons.mp hp with rfl | hp
   ·exact absurd i hq
   ·exact (af p hp i)
theorem fm (l:List (Int×Int)) (m:Mode):itV (.d (aE l),m) = .ok (l.map bK,m):=rfl
theorem C8 (m:Nat) (l:List (Int×Int)) (h:∃ q∈l,q.2<0):aD (mkC p_L (m+1)) il [.d (aE l)] = .exc "NoChoice" := by
 unfold il
 refine tn rfl λg H=>?_
 rw[qu,aQ (H.ev (x:="rows") rfl) (fm l .sh)]
 exact ph m l _ h
theorem n8 (m:Nat) (l:List (Int×Int)) (h:∃ q∈l,q.2<0):aD (mkC p_L (m+2)) c0 [.d (aE l)] = .ok (sB true):=by
 unfold c0
 refine bM rfl λg H=>?_
 have ex:ev (mkC p_L (m+2)) (.call "bins" (.cons (.name "_law_rows") .nil)) g = .exc "NoChoice" := (by
  have j:mkC p_L (m+2) "bins" = some λi=>cC "bins" (mkC p_L (m+1)) il i:=rfl
  rw[gP j (ag (H.ev (x:="_law_rows") rfl) aq)]
  exact C8 m l h)
 refine Runs.cons (o:=(g,.ret (sB true))) ?_ rfl
 rw[hJ,fw,ex]
 rfl
theorem lW (u v:List (List Int)) (c:Int):(aB u v c).length=u.length*v.length:=by
 unfold aB
 induction u with
 | nil=>simp
 | cons a u ih=>rw[flatMap_cons,length_append,ih,length_map,length_cons,Nat.succ_mul,Nat.add_comm]
theorem BV (m c:Nat) (P:Ru c u) (hl:u.length<=63) (hc:c<=60):∃ x,u[0]? = some x/\di (aM (mkC p_L (m+3))) p_Rule [.d (.int c),.d (ah u)] = .ok (.rule c (ah u) (x:List Int).length,.deep):=by
 refine bg (jQ iO m c u (by exact tE hc) P.ne hl (λr hr=>⟨le_trans (cQ (P.srt r hr)) hc,P.srt r hr⟩) P.nf) λw x er hm hx LL=>?_
 refine am (LL) λkk h1 h2 _=>?_
 clear LL
 have ew:=n7 h1 h2 P.nd P.up hm
 rw[ew] at er hx
 exact (af x hx er)
noncomputable def om (a b:Int):Int:=if b<a then b else a
theorem vj (ha:ev C a σ = .ok (sI x)) (hb:ev C b σ = .ok (sI y)):ev C (.bi2 .min a b) σ = .ok (sI (om x y)):=by
 simp only[gS,ha,hb,Out.ok_bind]
 rfl
noncomputable def lG (p:Int×Int):List (List Int):=aA (b0 p.1.toNat (om p.1 p.2))
noncomputable def iz (a:List (List Int)×Nat) (p:Int×Int):List (List Int)×Nat:=(aB a.1 (lG p) a.2,a.2+p.1.toNat)
noncomputable def bO (l:List (Int×Int)):List (List Int)×Nat:=l.foldl iz ([[]],0)
theorem mO (l:List (Int×Int)) (p:Int×Int):bO (l++[p])=iz (bO l) p:=by unfold bO; rw[List.foldl_append]; rfl
noncomputable def Pos (p:Int×Int):Prop:=0<=p.1/\p.1<=3/\0<=p.2/\p.2<=4
theorem ro:∀ n≤3,∀ k≤3,(b0 n (k:Nat)).length<=3:=by unfold b0; decide +kernel
theorem rx (h:Pos p):∃ n k:Nat,p.1=n/\om p.1 p.2=k/\n<=3/\k<=n/\lG p=aA (b0 n k)/\Ru n (lG p)/\(lG p).length<=3:=by
 refine c6 (h) λo m r q=>?_
 clear h
 refine ai (Int.eq_ofNat_of_zero_le o) λn g=>?_
 have j:0<=om p.1 p.2/\om p.1 p.2<=p.1:=by unfold om; split<;>constructor<;>lia
 refine ai (Int.eq_ofNat_of_zero_le j.1) λk hk=>?_
 have l:lG p=aA (b0 n k):=by unfold lG; rw[hk,g]; rfl
 have i:k<=n:=by exact ID g j hk
 refine (gu n k g hk (zt m g) i l ?_ ?_)
 ·rw[l]; exact jj (gJ n k) (jo n k) i
 ·rw[l,fV]; exact ro n (zt m g) k (JE m j hk)
theorem wM:Ru 0 [[]]:=by
 have:=jj (rc 0) (by simp) (le_refl 0)
 rwa [fX (by simp) (by simp)] at this
noncomputable def Bs (n:Nat) (a:List (List Int)×Nat):Prop:=Ru a.2 a.1/\a.1.length<=3^n/\a.2<=3*n
theorem Bs.step (h:Bs n a) (hp:Pos p):Bs (n+1) (iz a p):=by
 refine lh (rx hp) λj k m q i hk o R g=>?_
 have l:p.1.toNat=j:=by rw[m]; rfl
 unfold iz Bs
 rw[l]
 refine ⟨h.1.prod R,?_,?_⟩
 ·show (aB _ _ _).length<=_
  rw[lW,Nat.pow_succ]
  exact Nat.mul_le_mul h.2.1 g
 ·have:=h.2.2
  show _+_<=_
  exact DZ i this
theorem zT:∀ (l:List (Int×Int)) (n:Nat) (a:List (List Int)×Nat),(∀ p∈l,Pos p)->Bs n a->Bs (n+l.length) (l.foldl iz a)
 | [],n,a,_,h=>h
 | p::l,n,a,hp,h=>by
  have:=zT l (n+1) (iz a p) (λq g=>hp q (mem_cons_of_mem _ g)) (h.step (hp p mem_cons_self))
  rw[length_cons,foldl_cons,<- Nat.add_assoc,Nat.add_right_comm]
  exact this
theorem Dc (l:List (Int×Int)) (h:∀ p∈l,Pos p):Bs l.length (bO l):=by
 have:=zT l 0 ([[]],0) h ⟨wM,by decide,by decide⟩
 rwa [zero_add] at this
theorem ln (h:∀ p∈l,Pos p) (hl:l.length<=3):Ru (bO l).2 (bO l).1/\(bO l).1.length<=27/\(bO l).2<=9:=by
 have B:=Dc l h
 have:3^l.length<=3^3:=Nat.pow_le_pow_right (by decide) hl
 exact ⟨B.1,le_trans B.2.1 this,by have:=B.2.2; exact G4 hl this⟩
theorem sR (R:Ru c u):∃ x,u[0]? = some x:=by
 cases e:u with
 | nil=>exact absurd e R.ne
 | cons a l=>exact ⟨a,rfl⟩
theorem pP:∃ m,ev C (.list (.cons (.list .nil) .nil)) σ = .ok (.d (ah [[]]),m):=⟨_,by simp only[br,bi,bc]; rfl⟩
theorem v8 (m:Nat) (l:List (Int×Int)) (hl:l.length<=3) (h:∀ p∈l,Pos p):∃ x,(bO l).1[0]? = some x/\aD (mkC p_L (m+5)) il [.d (aE l)] = .ok (.rule ((bO l).2:Nat) (ah (bO l).1) (x:List Int).length,.deep):=by
 refine ai (sR (ln h hl).1) λx hx=>?_
 refine (af x hx ?_)
 unfold il
 refine bM rfl λσ H=>?_
 refine Runs.for2 (xs:=l) (λ_ σ=>Has σ [("rows", .d (aE l))]) (aQ (H.ev (x:="rows") rfl) (fm l .sh)) (λσ0 h _=>h _ H) ?_ λσ H=>?_
 ·intro pre q post hp σ H
  have hq:=h q (by rw[hp]; simp)
  have H1:=(H.upd "many" (.d (.int q.1)) .deep).upd "most" (.d (.int q.2)) .deep
  exact Runs.no ((lL (H1.ev (x:="most") rfl) (av 0)).trans (by rw[decide_eq_false (by have:=hq.2.2.1; exact zJ this)])) (Runs.nil (H1.sub ⟨rfl,trivial⟩))
 refine ai (pP (C:=mkC p_L (m+5)) (σ:=σ)) λm0 en=>?_
 refine ae (BV (m+1) 0 wM (by decide) (by decide)) λx0 hx0 er=>?_
 refine Runs.setD H (nI iO (ag (av 0) (ag en aq)) rfl er) rfl λσ H hs _=>?_
 refine Runs.for2 (xs:=l) (λpre σ=>∃ x,(bO pre).1[0]? = some x/\Has σ [("made", .rule ((bO pre).2:Nat) (ah (bO pre).1) (x:List Int).length),("rows", .d (aE l))]/\σ "made" = some (.rule ((bO pre).2:Nat) (ah (bO pre).1) (x:List Int).length,.deep)) (aQ (H.ev (x:="rows") rfl) (fm l .sh)) (λσ0 h hn=>(aw x0 hx0 ((h _ H).sub ⟨rfl,rfl,trivial⟩) ((hn _ (by simp[dh,bQ])).trans hs))) ?_ λσ hI=>?_
 ·intro pre q post hp σ hI
  refine am (hI) λy hy H hs=>?_
  clear hI
  have hq:=h q (by rw[hp]; simp)
  have hpre:∀ p∈pre++[q],Pos p:=λp hm=>h p (by
   rw[hp]
   rcases mem_append.mp hm with hm | hm
   ·exact mem_append_left _ hm
   ·rw[mem_singleton.mp hm]; simp)
  have hpl:(pre++[q]).length<=3:=by rw[hp,length_append,length_cons] at hl; rw[length_append]; simp; exact Ai hl
  obtain ⟨B1,B2,B3⟩:=ln (l:=pre) (λp hm=>hpre p (mem_append_left _ hm)) (by rw[length_append] at hpl; simp at hpl; exact zL hpl)
  refine aG (ln hpre hpl) λC1 C2 C3=>?_
  rw[mO] at C1 C2 C3 ⊢
  refine lh (rx hq) λj k e1 e2 hj hk hb R hbl=>?_
  have e3:q.1.toNat=j:=by rw[e1]; rfl
  unfold iz at C1 C2 C3 ⊢
  rw[e3] at C1 C2 C3 ⊢
  have H1:=(H.upd "many" (.d (.int q.1)) .deep).upd "most" (.d (.int q.2)) .deep
  change Has (upd (upd σ "many" (sI q.1)) "most" (sI q.2)) _ at H1
  generalize upd (upd σ "many" (sI q.1)) "most" (sI q.2)=σ' at H1 ⊢
  have ea:=aP (σ:=σ') (show p_L.lookup "any_of" = some cL from rfl) (ag (show ev (mkC p_L (m+5)) (.name "many") σ' = .ok (sI j) from e1▸H1.ev (x:="many") rfl) (ag (show ev (mkC p_L (m+5)) (.bi2 .min (.name "many") (.name "most")) σ' = .ok (sI k) from e2▸vj (H1.ev (x:="many") rfl) (H1.ev (x:="most") rfl)) aq)) rfl (fS m j k (gJ j k) (jo j k) (by have:=ro j hj k (by exact Ev hj hk); exact Jg this) hk (by exact H0 hj))
  rw[<- hb] at ea
  obtain ⟨z,hz,ej⟩:=iP m (bO pre).2 j y.length k B1 R (le_trans C2 (by decide)) (le_trans C3 (by decide)) λr hr=>by have:=cQ (B1.srt r hr); exact zZ B3 this
  refine Runs.setD H1 (aP (show p_L.lookup "joined" = some fq from rfl) (ag (H1.ev (x:="made") rfl) (ag ea aq)) rfl ej) rfl λσ H2 hs2 _=>Runs.nil (aw z hz (H2.sub ⟨rfl,rfl,trivial⟩) hs2)
 ·refine am (hI) λy hy H hs=>?_
  clear hI
  rw[hx] at hy
  (have oc:=Option.some.inj hy; clear hy; subst oc)
  exact Runs.retn hs rfl
theorem mX (m c:Nat) (k1 k2 k3:Int) (s:List Int) (hu:Ru c u) (hv:Ru 2 v) (hc:c<=9):aD (mkC p_L (m+5)) dM [.d (ac s),.rule ((c+2:Nat):Int) (ah (aB u v c)) k3,.rule c (ah u) k1,.rule ((2:Nat):Int) (ah v) k2,.d (.int c)] = .ok (sB true):=by
 have nd:∀ {c:Nat}{u:List (List Int)},Ru c u->∀ r∈u,r.Nodup:=λh r hr=>bt (h.srt r hr).1
 unfold dM
 refine bM rfl λσ H=>?_
 refine Runs.setD H (cY (eF lib0 (H.ev (x:="_law_script") rfl) (av 8) (by decide)) (av 4) (by decide)) rfl λσ H _ _=>?_
 generalize cw s 8%4=mode at H
 have e2:ev (mkC p_L (m+5)) (.bin .add (.name "_law_count") (.int 2)) σ = .ok (sI ((c+2:Nat):Int)):=cN (H.ev (x:="_law_count") rfl) (av 2)
 refine Runs.setD H (sM (g:=PyData.int) (l:=aF (c+2)) (λi=>ll (cw s (9+i)) mode) (da e2 (by exact Ei hc)) λi hi=>?_) rfl λσ H _ _=>?_
 ·have H1:=H.mk "_law_thing" (.d (.int i))
  have:=mem_upTo.mp hi
  exact aP (show p_L.lookup "_law_weight" = some l_weight from rfl) (ag (eF lib0 (H1.ev (x:="_law_script") rfl) (cN (av 9) (H1.ev (x:="_law_thing") rfl)) (by exact IC this)) (ag (H1.ev (x:="_law_mode") rfl) aq)) rfl (rV _ _ _)
 obtain ⟨ws,hws⟩:∃ ws,(aF (c+2)).map (λi=>ll (cw s (9+i)) mode)=ws:=⟨_,rfl⟩
 rw[hws] at H
 have hwl:ws.length=c+2:=by rw[<- hws,length_map,ba]
 have et:(ws.take c).length=c:=by rw[length_take]; exact Ii hwl
 have ed:(ws.drop c).length=2:=by rw[length_drop]; exact FB hwl
 have elo:∀ {σ:St}{l:List (String×V)},Has σ l->l.lookup "_law_weights" = some (.d (ac ws))->l.lookup "_law_count" = some (.d (.int c))->ev (mkC p_L (m+5)) (.slo (.name "_law_weights") (.name "_law_count")) σ = .ok (.d (ac (ws.drop c)),.deep)/\ev (mkC p_L (m+5)) (.shi (.name "_law_weights") (.name "_law_count")) σ = .ok (.d (ac (ws.take c)),.deep):=λH h1 h2=>⟨(DF (H.ev h1) (H.ev h2)).trans (wN ws c (by exact AP hc)),(Dx (H.ev h1) (H.ev h2)).trans (uW ws c (by exact AP hc))⟩
 have ep:=aP libO.picked (ag (H.ev (C:=mkC p_L (m+5)) (x:="_law_other") rfl) (ag (elo H rfl rfl).1 aq)) rfl (iT libO m 2 k2 v (ws.drop c) hv.ne (nd hv) (by decide) ed)
 refine Runs.setD H (og (λy=>(c:Int)+y) (aQ ep (dD _ .deep)) λi _=>?_) rfl λσ H _ _=>?_
 ·have H1:=H.upd "_law_thing" (.d (.int i)) .deep
  exact cN (H1.ev (x:="_law_count") rfl) (H1.ev (x:="_law_thing") rfl)
 have P:=hu.prod hv
 have eb:=aP libO.picked (ag (H.ev (C:=mkC p_L (m+5)) (x:="_law_both") rfl) (ag (H.ev (x:="_law_weights") rfl) aq)) rfl (iT libO m (c+2) k3 (aB u v c) ws P.ne (nd P) (by exact AD hc) hwl)
 have em:=aP libO.picked (ag (H.ev (C:=mkC p_L (m+5)) (x:="_law_made") rfl) (ag (elo H rfl rfl).2 aq)) rfl (iT libO m c k1 u (ws.take c) hu.ne (nd hu) (by exact AE hc) et)
 have hpl:(jH (aB u v c) ws).length<=1000:=by
  have:=cQ (P.srt _ (l8 P.ne P.srt hwl))
  exact zy hc this
 rw[uS hu hv hwl] at eb hpl
 have hsl:=hpl
 rw[length_append] at hsl
 exact Runs.ret (aP libI.rowIs (ag eb (ag (ig em (H.ev (x:="_law_last") rfl) (by exact Fg hsl)) aq)) rfl (lx lib0 (m+3) _ hpl)) rfl
theorem m7:∀ {l:List (Int×Int)},(∀ q∈l,F (bK q) = .ok (if p q then some (.d (bK q),.deep) else none))->bx F (l.map bK) = .ok ((l.filter p).map bK,true)
 | [],_=>rfl
 | q::l,h=>by
  rw[map_cons,bx,h q (.head _),m7 λj g=>h j (.tail _ g)]
  simp only[Out.ok_bind]
  cases hp:p q<;>simp[hp,filter_cons]
theorem tj {C:Calls}{σ:St}{c:E}{z:String}{it:It}{l:List (Int×Int)}{m:Mode}(p:Int×Int->Bool) (h:aZ C it σ = .ok (l.map bK,m)) (hc:∀ q∈l,ev C c (upd σ z (mk (.d (bK q)))) = .ok (sB (p q))):ev C (.compif (.name z) z it c) σ = .ok (.d (aE (l.filter p)),.deep):=by
 rw[kq h (r:=((l.filter p).map bK,true))]
 ·rfl
 ·exact m7 λq g=>by
   rw[hc q g]
   cases p q<;>simp[b7]<;>rfl
theorem CY (ha:ev C a σ = .ok (.d (aE l),m)):ev C (.cmp .ne a (.list .nil)) σ = .ok (sB (!decide (l=[]))):=by
 have g:ev C (.list .nil) σ = .ok (.d (aE []),.deep):=by simp only[br,bc]; rfl
 refine cF ha g ?_
 show (if okc (aE l)&&okc (aE []) then Out.ok (!PyData.eqv (aE l) (aE [])) else .bad)=_
 rw[lI,lI]
 cases l with
 | nil=>rw[qQ]; rfl
 | cons q l=>unfold aE; rw[PyData.eqv]; simp[PyData.eqvAll]
theorem pK (ha:ev C a σ = .ok (.d (bK q),m)):ev C (.sub a (.int 0)) σ = .ok (sI q.1)/\ev C (.sub a (.int 1)) σ = .ok (sI q.2):=⟨(kY ha (av 0)).trans rfl,(kY ha (av 1)).trans rfl⟩
theorem Runs.setK (H:Has σ l) (he:ev C e σ = .ok r) (k:∀ σ',Has σ' ((x,r.1)::l)->(∀ y,y≠x->y∉fv e->σ' y=σ y)->Runs C b σ' Post):Runs C (.cons (.assign x e) b) σ Post :=
 Runs.cons (o:=(Internal.upd (Internal.consume σ (fv e) r.2) x r,.next)) (by simp only[bW,jv he,Out.ok_bind]) (k _ ((H.consume _ _).upd x r.1 r.2) λy h g=>(if_neg h).trans (dg.2 y g))
theorem C7 (hC:C "Rule" = some g) (H:Has σ l) (hz:σ z=some (.rule c (ah v) k,.deep)) (h0:v[0]? = some y) (hy:y.length<=1000) (hn:l.lookup "_law_count" = some (.d (.int n)))
  (hs:Sub l l') (hl':l'.lookup z=none) (kk:∀ σ',Has σ' l'->Runs C bb σ' Post):Runs C (.cons (.appF z (.cons (.int 0) .nil) (.name "_law_count")) bb) σ Post:=by
 have o:0<v.length:=by
  cases v with
  | nil=>exact nN h0
  | cons a v=>simp
 have r:be 0 (v.map ac).length=some 0:=by
  rw[length_map]
  unfold be
  rw[if_pos (Int.le_refl 0)]
  rw[if_pos (la3 o)]; rfl
 have q:(v.map ac)[0]? = some (ac y):=by rw[List.getElem?_map,h0]; rfl
 have e1:evP C (ah v) (.cons (.int 0) .nil) σ = .ok ([0],ac y):=by
  show (Out.ok (([]:List Int),ah v)).bind _=_
  simp only[Out.ok_bind,eN]
  show al (jM (ah v) 0) _=_
  have:jM (ah v) 0=some (ac y):=by
   show ((be 0 (v.map ac).length).bind λk=>(v.map ac)[k]?)=_
   rw[r]; exact q
  rw[this]; rfl
 have x:modP (.int n) [0] (ah v)=some (.list ((v.map ac).set 0 (.list (y.map PyData.int++[.int n])))):=by
  show ((be 0 (v.map ac).length).bind λj=>((v.map ac)[j]?).bind λe=>(modP (.int n) [] e).map λe'=>PyData.list ((v.map ac).set j e'))=_
  rw[r]
  show ((v.map ac)[0]?).bind _=_
  rw[q]
  show Option.map _ (if (y.map PyData.int).length<lim then some (PyData.list (y.map PyData.int++[.int n])) else none)=_
  rw[if_pos (by rw[length_map]; unfold lim; exact Hg hy)]; rfl
 have p:ev C (.name "_law_count") σ = .ok (sI n):=H.ev hn
 refine Runs.next (σ':=upd σ z (.rule c (.list ((v.map ac).set 0 (.list (y.map PyData.int++[.int n])))) k,.deep)) ?_ ?_
 ·simp only[jX,hz,hC,al,dB,e1,Out.calm_ok,Out.ok_bind,p]
  show (if sx (.int n)=true then al (modP (.int n) [0] (ah v)) _ else Out.bad)=_
  rw[if_pos (show sx (.int n)=true from rfl),x]; rfl
 refine kk _ λw u i=>?_
 have h:w≠z:=λe=>by rw[e,hl'] at i; exact nN i
 refine ai (H.sub hs w u i) λm t=>?_
 exact ⟨m,(if_neg h).trans t⟩
theorem rG:∀ k≤2,(b0 2 (k:Nat)).length<=2:=by unfold b0; decide +kernel
theorem xy (s:List Int) (hs:s.length<=63):∃ m,aD (mkC p_L 8) tV [.d (ac s)] = .ok (.d (.bool true),m):=by
 refine ai (lN iO 7) λgR hR=>?_
 unfold tV
 refine ⟨.deep,bM rfl λσ H=>?_⟩
 obtain ⟨n,hn⟩:∃ n:Nat,cw s 0%7=n:=⟨(cw s 0%7).toNat,by exact DU⟩
 have e0:=cY (eF (n:=7) lib0 (H.ev (x:="_law_script") rfl) (av 0) (by decide)) (av 7) (by decide)
 rw[hn] at e0
 refine Runs.setD H e0 rfl λσ H _ _=>?_
 clear e0
 refine Runs.setD H (k6 (cY (eF lib0 (H.ev (x:="_law_script") rfl) (av 1) (by decide)) (av 11) (by decide)) (av 2)) rfl λσ H _ _=>?_
 refine Runs.no (b9 (t:=true) (aP (show p_L.lookup "_law_any_is" = some gp from rfl) (ag (H.ev (x:="_law_count") rfl) (ag (H.ev (x:="_law_size") rfl) aq)) rfl (r8 2 n _ (by exact H8 hn)))) ?_
 refine Runs.setD H (eF lib0 (H.ev (x:="_law_script") rfl) (av 2) (by decide)) rfl λσ H _ _=>?_
 generalize cw s 2=more at H
 obtain ⟨c,hc⟩:∃ c:Nat,7+more%14=c:=⟨(7+more%14).toNat,by exact HR⟩
 have e0:=cN (av 7) (cY (H.ev (C:=mkC p_L 8) (x:="_law_more") rfl) (av 14) (by decide))
 rw[hc] at e0
 refine Runs.no (b9 (t:=true) (aP (show p_L.lookup "_law_many_are" = some eT from rfl) (ag e0 (ag (cY (t0 (H.ev (x:="_law_more") rfl) (av 14) (by decide) (by decide)) (av 5) (by decide)) aq)) rfl (vp 2 c (more/14%5) (by exact Gm hc) (by exact IL hc) (by exact HN)))) ?_
 clear e0
 refine ae (pM 6 s) λl hl eb=>?_
 refine Runs.setD H (aP (show p_L.lookup "_law_bins_by" = some fN from rfl) (ag (H.ev (x:="_law_script") rfl) aq) rfl eb) rfl λσ H _ _=>?_
 refine Runs.setD H (sJ (H.ev (x:="_law_rows") rfl)) rfl λσ H _ _=>?_
 have filt:∀ {σ:St}{L:List (String×V)},Has σ L->L.lookup "_law_rows" = some (.d (aE l))->ev (mkC p_L 8) (.compif (.name "_law_row") "_law_row" (.e (.name "_law_rows")) (.cmp .lt (.sub (.name "_law_row") (.int 1)) (.int 0))) σ = .ok (.d (aE (l.filter λq=>decide (q.2<0))),.deep)/\ev (mkC p_L 8) (.compif (.name "_law_row") "_law_row" (.e (.name "_law_rows")) (.cmp .ge (.sub (.name "_law_row") (.int 1)) (.int 0))) σ = .ok (.d (aE (l.filter λq=>decide (0<=q.2))),.deep):=λ{σ L} H h=>by
  have H1:=λq:Int×Int=>H.mk "_law_row" (.d (bK q))
  exact ⟨tj (λq=>decide (q.2<0)) (aQ (H.ev h) (fm l .sh)) λq _=>lL (pK ((H1 q).ev (x:="_law_row") rfl)).2 (av 0),tj (λq=>decide (0<=q.2)) (aQ (H.ev h) (fm l .sh)) λq _=>CS (pK ((H1 q).ev (x:="_law_row") rfl)).2 (av 0)⟩
 obtain ⟨b,hb⟩:∃ b,(l.filter λq=>decide (0<=q.2))=b:=⟨_,rfl⟩
 rw[hb] at filt
 have hb3:b.length<=3:=le_trans (hb▸List.length_filter_le _ _) hl.1
 have hbp:∀ p∈b,Pos p:=λp hp=>by
  rw[<- hb,mem_filter,decide_eq_true_eq] at hp
  refine c6 (hl.2 p hp.1) λa1 a2 a3 a4=>?_
  exact (bV a1 a2 hp.2 a4)
 refine Runs.iteTo (λσ=>Has σ [("_law_handed", .d (aE b)),("_law_rows", .d (aE b)),("_law_script", .d (ac s))]) (CY (filt H rfl).1) (λq=>?_) (λq=>?_) λσ H=>?_
 ·have hx:∃ p∈l,p.2<0:=by
   cases e:l.filter λq=>decide (q.2<0) with
   | nil=>rw[e] at q; exact nF q
   | cons p t=>
    have:p∈l.filter λq=>decide (q.2<0):=by rw[e]; simp
    rw[mem_filter,decide_eq_true_eq] at this
    exact ⟨p,this⟩
  refine Runs.no (gd (p:=false) (q:=false) (b9 (t:=true) (aP (show p_L.lookup "_law_bins_refused" = some c0 from rfl) (ag (H.ev (x:="_law_handed") rfl) aq) rfl (n8 5 l hx))) λ_=>zF (H.ev (x:="_law_handed") rfl) (H.ev (x:="_law_rows") rfl)) ?_
  refine Runs.setD H (filt H rfl).2 rfl λσ H _ _=>?_
  exact Runs.setD H (sJ (H.ev (x:="_law_rows") rfl)) rfl λσ H _ _=>Runs.nil ⟨rfl,H.sub (bV rfl rfl rfl trivial)⟩
 ·have:b=l:=by
   rw[<- hb]
   refine filter_eq_self.mpr λp hp=>decide_eq_true ?_
   have e:(l.filter λq=>decide (q.2<0))=[]:=by simpa using q
   have:=List.filter_eq_nil_iff.mp e p hp
   rw[decide_eq_true_eq] at this
   exact GD this
  rw[this]
  exact Runs.nil ⟨rfl,H.sub (bV rfl rfl rfl trivial)⟩
 clear filt hb hl eb hc hn
 refine ai (pP (C:=mkC p_L 8) (σ:=σ)) λm0 en=>?_
 refine Runs.set H en λσ H _=>?_
 refine Runs.setD H (av 0) rfl λσ H _ _=>?_
 refine Runs.for (g:=bK) (xs:=b) (λpre σ=>Has σ [("_law_full", .d (ah (bO pre).1)),("_law_count", .d (.int ((bO pre).2:Nat))),("_law_handed", .d (aE b)),("_law_rows", .d (aE b)),("_law_script", .d (ac s))]) (aQ (H.ev (x:="_law_rows") rfl) (fm b .sh)) (λσ0 h _=>(h _ H).sub (io rfl rfl rfl rfl rfl trivial)) ?_ λσ H=>?_
 ·intro pre q post hp σ H
  have hq:=hbp q (by rw[hp]; simp)
  have hpre:∀ p∈pre++[q],Pos p:=λp hm=>hbp p (by
   rw[hp]
   rcases mem_append.mp hm with hm | hm
   ·exact mem_append_left _ hm
   ·rw[mem_singleton.mp hm]; simp)
  have hpl:(pre++[q]).length<=3:=by rw[hp,length_append,length_cons] at hb3; rw[length_append]; simp; exact Ai hb3
  obtain ⟨B1,B2,B3⟩:=ln (l:=pre) (λp hm=>hpre p (mem_append_left _ hm)) (by rw[length_append] at hpl; simp at hpl; exact zL hpl)
  refine aG (ln hpre hpl) λC1 C2 C3=>?_
  rw[mO] at C1 C2 C3 ⊢
  refine lh (rx hq) λj k e1 e2 hj hk hb R hbl=>?_
  have e3:q.1.toNat=j:=by rw[e1]; rfl
  unfold iz at C1 C2 C3 ⊢
  rw[e3] at C1 C2 C3 ⊢
  have H1:=H.mk "_law_row" (.d (bK q))
  have ra:=pK (H1.ev (C:=mkC p_L 8) (x:="_law_row") rfl)
  have rm:=vj ra.1 ra.2
  rw[e2] at rm
  rw[e1] at ra
  refine ae (eW (show p_L.lookup "_law_any" = some gD from rfl) (ag ra.1 (ag rm aq)) rfl (jz 6 j k (by exact F8 hj))) λqa e4 e5=>?_
  obtain ⟨qv,qm⟩:=qa
  subst e5
  rw[<- hb] at e4
  obtain ⟨qa,e6,e7⟩:=eW (show p_L.lookup "_law_pairs" = some eE from rfl) (ag (H1.ev (x:="_law_full") rfl) (ag e4 (ag (H1.ev (x:="_law_count") rfl) aq))) rfl (g8 (mkC p_L 7) (bO pre).2 (u:=(bO pre).1) (v:=lG q) (le_trans C2 (by decide)) (λr hr=>by have:=cQ (B1.srt r hr); exact zZ B3 this) λr hr=>by have:=cQ (R.srt r hr); exact Gx hj this)
  obtain ⟨qv,qm⟩:=qa
  subst e7
  refine Runs.set H1 e6 λσ H2 _=>?_
  have e8:=cN (H2.ev (C:=mkC p_L 8) (x:="_law_count") rfl) (pK (H2.ev (x:="_law_row") rfl)).1
  rw[e1,<- natCast_add] at e8
  exact Runs.setD H2 e8 rfl λσ H3 _ _=>Runs.nil (H3.sub (io rfl rfl rfl rfl rfl trivial))
 refine aG (ln hbp hb3) λR r27 c9=>?_
 refine ae (v8 2 b hb3 hbp) λx hx eb=>?_
 generalize bO b=a at H R r27 c9 hx eb
 obtain ⟨u,c⟩:=a
 replace r27:u.length<=27:=r27
 replace c9:c<=9:=c9
 replace R:Ru c u:=R
 refine Runs.setD H (aP (show p_L.lookup "bins" = some il from rfl) (ag (H.ev (x:="_law_handed") rfl) aq) rfl eb) rfl λσ H _ _=>?_
 clear eb
 have rl:∀ r∈u,r.length<=9:=λr hr=>by have:=cQ (R.srt r hr); exact DN c9 this
 have ri:∀ {σ:St}{L:List (String×V)},Has σ L->L.lookup "_law_made" = some (.rule c (ah u) x.length)->L.lookup "_law_count" = some (.d (.int c))->L.lookup "_law_full" = some (.d (ah u))->ev (mkC p_L 8) (.call "_law_rule_is" (.cons (.name "_law_made") (.cons (.name "_law_count") (.cons (.name "_law_full") .nil)))) σ = .ok (sB true):=λH h1 h2 h3=>aP (show p_L.lookup "_law_rule_is" = some bX from rfl) (ag (H.ev h1) (ag (H.ev h2) (ag (H.ev h3) aq))) rfl (cq 4 c u x hx (by exact GV r27) λr hr=>by have:=rl r hr; exact Jy this)
 refine Runs.no (gd (p:=false) (q:=false) (zF (H.ev (x:="_law_handed") rfl) (H.ev (x:="_law_rows") rfl)) λ_=>b9 (t:=true) (ri H rfl rfl rfl)) ?_
 obtain ⟨k,hk⟩:∃ k:Nat,cw s 7%3=k:=⟨(cw s 7%3).toNat,by exact Et⟩
 have hk2:k<=2:=by exact FN hk
 have e0:=cY (eF (n:=7) lib0 (H.ev (x:="_law_script") rfl) (av 7) (by decide)) (av 3) (by decide)
 rw[hk] at e0
 refine Runs.setD H e0 rfl λσ H _ _=>?_
 clear e0 hk
 have eo:=fS 3 2 k (gJ 2 k) (jo 2 k) (by have:=rG k hk2; exact EF this) hk2 (by decide)
 have hV:=jj (gJ 2 k) (jo 2 k) hk2
 have vl:(aA (b0 2 k)).length<=2:=by rw[fV]; exact rG k hk2
 have yk:∀ y∈aA (b0 2 k),y.length=k:=λy hy=>((gJ 2 k y).mp ((cS _ _).mp hy)).2
 have ea:=jz 6 2 k (by decide)
 generalize aA (b0 2 k)=v at eo hV vl yk ea
 have anyV:∀ {σ:St}{L:List (String×V)},Has σ L->L.lookup "_law_some" = some (.d (.int k))->∃ m,ev (mkC p_L 8) (.call "_law_any" (.cons (.int 2) (.cons (.name "_law_some") .nil))) σ = .ok (.d (ah v),m):=λH h=>by
  refine ae (eW (show p_L.lookup "_law_any" = some gD from rfl) (ag (av 2) (ag (H.ev h) aq)) rfl ea) λq e4 e5=>?_
  obtain ⟨qv,qm⟩:=q
  subst e5
  exact ⟨qm,e4⟩
 clear ea
 refine Runs.setD H (aP (show p_L.lookup "any_of" = some cL from rfl) (ag (av 2) (ag (H.ev (x:="_law_some") rfl) aq)) rfl eo) rfl λσ H _ _=>?_
 clear eo
 have hP:(aB u v c).length<=63:=by rw[lW]; exact le_trans (Nat.mul_le_mul r27 vl) (by decide)
 have hP':(aB v u (2:Nat)).length<=63:=by rw[lW]; exact le_trans (Nat.mul_le_mul vl r27) (by decide)
 have ul:∀ r∈u,r.length<=60:=λr hr=>by have:=rl r hr; exact AE this
 have vl':∀ r∈v,r.length<=60:=λr hr=>by have:=yk r hr; exact GG hk2 this
 have P:=R.prod hV
 have P':=hV.prod R
 refine ae (iP 3 c 2 x.length k R hV hP (by exact AD c9) ul) λz hz ej=>?_
 refine Runs.setD H (aP (show p_L.lookup "joined" = some fq from rfl) (ag (H.ev (x:="_law_made") rfl) (ag (H.ev (x:="_law_other") rfl) aq)) rfl ej) rfl λσ H hB _=>?_
 clear ej
 refine ai (anyV H rfl) λm1 e1=>?_
 refine ae (eW (show p_L.lookup "_law_pairs" = some eE from rfl) (ag (H.ev (x:="_law_full") rfl) (ag e1 (ag (H.ev (x:="_law_count") rfl) aq))) rfl (g8 (mkC p_L 7) c (u:=u) (v:=v) hP ul vl')) λq e2 e3=>?_
 obtain ⟨qv,qm⟩:=q
 subst e3
 refine Runs.setK H e2 λσ H kp=>?_
 replace hB:=(kp "_law_both" (by decide) (by simp[j6,ip,l6,bQ,nJ])).trans hB
 clear kp e1 e2
 have ec:∀ {σ:St}{L:List (String×V)},Has σ L->L.lookup "_law_count" = some (.d (.int c))->ev (mkC p_L 8) (.bin .add (.name "_law_count") (.int 2)) σ = .ok (sI ((c+2:Nat):Int)):=λH h=>cN (H.ev h) (av 2)
 have Pl:∀ r∈aB u v c,r.length<=1000:=λr hr=>by have:=cQ (P.srt r hr); exact zy c9 this
 have Pl':∀ r∈aB v u (2:Nat),r.length<=1000:=λr hr=>by have:=cQ (P'.srt r hr); exact J8 c9 this
 refine Runs.no (gd (p:=false) (q:=false) (b9 (t:=true) (aP (show p_L.lookup "_law_rule_is" = some bX from rfl) (ag (H.ev (x:="_law_both") rfl) (ag (ec H rfl) (ag (H.ev (x:="_law_due") rfl) aq))) rfl (cq 4 ((c+2:Nat):Int) (aB u v c) z hz (by exact mw hP) Pl))) λ_=>b9 (t:=true) (ri H rfl rfl rfl)) ?_
 refine ae (iP 3 2 c k x.length hV R hP' (by exact EM c9) vl') λy hy ej=>?_
 refine ai (anyV H rfl) λm1 e1=>?_
 refine ae (eW (show p_L.lookup "_law_pairs" = some eE from rfl) (ag e1 (ag (H.ev (x:="_law_full") rfl) (ag (av 2) aq))) rfl (g8 (mkC p_L 7) 2 (u:=v) (v:=u) hP' vl' ul)) λq e2 e3=>?_
 obtain ⟨qv,qm⟩:=q
 subst e3
 rw[Nat.add_comm 2 c] at ej
 refine Runs.no (b9 (t:=true) (aP (show p_L.lookup "_law_rule_is" = some bX from rfl) (ag (aP (show p_L.lookup "joined" = some fq from rfl) (ag (H.ev (x:="_law_other") rfl) (ag (H.ev (x:="_law_made") rfl) aq)) rfl ej) (ag (ec H rfl) (ag e2 aq))) rfl (cq 4 ((c+2:Nat):Int) (aB v u (2:Nat)) y hy (by exact mw hP') Pl'))) ?_
 clear ej e1 e2
 refine Runs.no (b9 (t:=true) (aP (show p_L.lookup "_law_picked_are" = some dM from rfl) (ag (H.ev (x:="_law_script") rfl) (ag (H.ev (x:="_law_both") rfl) (ag (H.ev (x:="_law_made") rfl) (ag (H.ev (x:="_law_other") rfl) (ag (H.ev (x:="_law_count") rfl) aq))))) rfl (mX 2 c x.length k z.length s R hV c9))) ?_
 refine C7 hR H hB hz (Pl z (mem_of_getElem? hz)) rfl (l':=[("_law_some", .d (.int k)),("_law_other", .rule ((2:Nat):Int) (ah v) k),("_law_made", .rule c (ah u) x.length),("_law_count", .d (.int c)),("_law_full", .d (ah u))]) (io rfl rfl rfl rfl rfl trivial) rfl λσ H=>?_
 refine ai (anyV H rfl) λm1 e1=>?_
 refine ai (sR hV) λw hw=>?_
 have ew:=cq 4 ((2:Nat):Int) v w hw (by exact HK vl) λr hr=>by have:=vl' r hr; exact tE this
 rw[yk w (mem_of_getElem? hw)] at ew
 exact Runs.ret (ke (p:=true) (q:=true) (aP (show p_L.lookup "_law_rule_is" = some bX from rfl) (ag (H.ev (x:="_law_other") rfl) (ag (av 2) (ag e1 aq))) rfl ew) λ_=>ri H rfl rfl rfl) rfl
open PySem.W
noncomputable def rw0:RowW:=OpenRow.toRowW (OpenLaw.row PySem.Challenge.rw_uf050037_11)
noncomputable def vw:Program:={rw0.prog with main:={rw0.prog.main with body:=rw0.prog.main.body.filter λs=>(nS s).isNone } }
theorem BB:(defOf vw (OpenLaw.row PySem.Challenge.rw_uf050037_11).name).isSome=true:=by kernel_rfl
noncomputable def dw:=(defOf vw (OpenLaw.row PySem.Challenge.rw_uf050037_11).name).get BB
theorem A6:dw.1.name=Str.ofString "law" := by kernel_rfl
noncomputable def hk:=Ky (bI p_L)
end Internal
set_option tactic.hygienic true
open PySem PySem.W PyProof.Rows
set_option maxRecDepth 100000
set_option maxHeartbeats 8000000
theorem PySem.Challenge.cw_uf050037_11_holds : PySem.Challenge.rw_uf050037_11.Holds := by
  w_on
  refine holds_law (by
    unfold OpenLaw.wellSaid
    iterate 18 (refine look_both ?_ ?_)
    · unfold OpenRow.wellSaid
      iterate 2 (refine look_both ?_ ?_)
      · unfold OpenRow.partSaid
        iterate 12 (refine look_both ?_ ?_)
        · unfold looksOpen
          iterate 5 (refine look_both ?_ ?_)
          all_goals decide +kernel
        all_goals decide +kernel
      all_goals decide +kernel
    all_goals decide +kernel) fun said=>?_
  refine holds_open (q:=Internal.vw) (loose:=[]) (Xt:=fun s=>xlAt Internal.vw [] s && recOk (RowW.records Internal.rw0) s) (XP:=XL Internal.vw []) (Yf:=Hook.obs Internal.hk) (Ya:=Hook.val Internal.hk) (YP:=Hook.says Internal.hk) (d:=Internal.dw.1) (kwd:=Internal.dw.2) (N:=5000) ?hl (Hook.of Internal.hk) (Hook.keeps Internal.hk) (fun s e=>xl_of s (Bool.and_eq_true_iff.mp e).1) XL.keeps (by kernel_rfl) (by kernel_rfl) (by kernel_rfl) (fun s e=>recFacts_of (Bool.and_eq_true_iff.mp e).2) (by rfl) (by assumption) (by decide +kernel) ⟨rfl,rfl,rfl,rfl,rfl,by decide +kernel⟩ ?hw ?hc
  case hl=>exact fun w=>by kernel_rfl
  case hw=>w_witness2
  intro w s₀ s₁ mg mb G Y fa o pm cd doc dV kV ho hd hcd hD hmg hg args vals as hpre hlay hrd hwl hlo
  refine Ground.open G ?_
  intro T B D TE TW
  clear hd hcd hD
  rw [Internal.A6] at hmg
  wrow_args hpre hlay hrd hwl hlo
  rename_i ns _ _ _ _ _ _ _ a vs _ hL ra w1 r0 hI hr hc1 hc2
  have e:=Internal.tC (by simpa only [ofPy] using w1) hL
  obtain ⟨m,hsp⟩:=Internal.xy ns (by omega)
  refine Internal.yZ (n:=8) (ns:=ns) T TE Y (L:=Internal.p_L) (by kernel_rfl) (by kernel_rfl) (by kernel_rfl) rfl (.inr (by decide)) rfl hmg (by decide) hsp e hI (by omega) fun h' tk kk=>?_
  refine ⟨.inl ⟨_,.bool true,[],rfl,?_,?_,?_,?_⟩,kk,rfl,.of_eq hg⟩
  · intro cls; first | rfl | exact raisesW_false allW_false_nil
  · exact .bool true
  · wrow_post
  · exact fun _=>⟨.nil,fun _ h=>nomatch h⟩
