import PyProof.Rows.All
import Wide.All
import Wide.FinOn
import Open.Line
import PyProof.P3Statements
import PyProof.Lay0
import PyProof.P3In
import PyProof.NeData
import PyProof.CompFree
import PyProof.DictRoadsH
import PyProof.DictWalks
import PyProof.Rows.SortShell
import PyProof.Rows.RuleB_xor
import PyProof.Rows.RuleB_small
import PyProof.Rows.RuleB_floordiv
import PyProof.Rows.RuleB_mod
import PyProof.Rows.RuleB_mul
import PyProof.Rows.IntRules
import PyProof.Rows.RuleC_int
import PyProof.Rows.RuleU_int
import PyProof.ListOps
import PyProof.Cells
import PyProof.Calls
import PyProof.SliceMore
import PyProof.TupleOfSeq
import PyProof.ListCopy
import PyProof.CodeObjX
import PyProof.Rows.PlainObj
import PyProof.ExcClass2
import PyProof.DictStraight
import PyProof.Rows.StrTemp
import PyProof.TupleOps
import PyProof.ListIndexNeg
import PyProof.Rules3
import PyProof.SliceList
import PyProof.Rows.TupSub
import PyProof.ForRange
import PyProof.Rows.DictMade
import PyProof.WalkInts
import PyProof.SeqI3
import PyProof.SumWalkG
import PyProof.WalksMore
import PyProof.IsiPairs
import PyProof.IsiHeapPairs
import PyProof.ListRange
import PyProof.Rows.SortWalk
import PyProof.IsiNone
import PyProof.Rows.SortRuns
import PyProof.Rows.CallKwBuiltin
import PyProof.DefMake
import PyProof.EvalArms
import PyProof.RangeFor
import PyProof.ListNew
import PyProof.Rows.DictUnroll
import PyProof.Rows.PlainNoArg
import PyProof.LetGo
import PyProof.ForAppend
import PyProof.CallRoads
import PyProof.MeetsSeq
import PyProof.AutoSeq1
import PyProof.ForAny
import PyProof.Raises
import PyProof.RaisesMany
import PyProof.StationsW
import PyProof.ExcBaseAll.ValueError
import PyProof.Rows.TupTab
import PyProof.RulesTry
import PyProof.Rows.TupIter
import PyProof.ObjNew
import PyProof.InstStore
import PyProof.AssignAttr
import PySem.Challenge.RW_uf050037_10
set_option Elab.async false
set_option autoImplicit true
set_option bootstrap.genMatcherCode false
set_option genSizeOf false
set_option genInjectivity false

set_option tactic.hygienic false
set_option linter.unusedVariables false
set_option linter.unusedSectionVars false
universe u0 u1 u2 u3 u4 u5 u6 u7 u8 u9 u10 u11
open Array (mem_def)
namespace Internal
open PySem.Str renaming ofString->mL,ofString_eq_toList->VT
open Option renaming bind_eq_some_iff->TS,bind_some->Tp,getD_some->XG,isNone_iff_eq_none->SC,isSome_iff_exists->Tz,isSome_map->W9,map_eq_some_iff->RX,map_some->TC,none->O2,none->Ru,some->qn
open _root_ renaming Array->Pf,Bool->PV,Decidable->Wt,False->Qj,ForInStep->PI,Int->O3,List->rg,Nat->Pa,Option->O4,PUnit->Xn,StateT->TP,String->OX,True->Wa,Unit->UN,absurd->Pq,beq_eq_false_iff_ne->RD,beq_iff_eq->Pv,beq_self_eq_true->Rb,bne_self_eq_false->Ve,congrArg->R2,decide_eq_decide->Tk,decide_eq_false->Qe,decide_eq_false_iff_not->QM,decide_eq_true->Qc,decide_eq_true_eq->PM,forall_congr'->Y4,if_false->Ql,if_neg->OY,if_pos->O1,if_true->Q4,imp_congr_right->Yj,liftM->ZQ,map_eq_pure_bind->XI,of_decide_eq_false->RQ,of_decide_eq_true->PS,or_false->UC
open Option.some renaming inj->vj,injEq->Jag
open Bool renaming and_eq_true->O9,and_eq_true_iff->TH,eq_false_iff->Uc,eq_iff_iff->V8,false->OZ,false_eq_true->PK,false_ne_true->U2,noConfusion->Qh,not_eq_true'->P0,or_eq_false_iff->SP,or_eq_true->UU,or_false->YW,true->vk
open PySem renaming Addr->Pz,Arguments->XC,Around->PU,Builtin->SR,Builtin->VV,Comprehension->WI,Const->ZI,DictEntry->Vy,ExceptHandler->Sd,Fin->XJ,FuncData->Z1,GenState->YI,Heap->P9,IsRange->Xh,IsRangeIter->ZL,IsTupleKey->S5,Keyword->Zi,Model->Vz,NameKind->P6,Operator->Yn,OsState->Zu,OwnTail->Zk,Program->Un,PyData->Pk,Result->Yv,Shared->O0,Stmt->SX,TriplesOk->Y5,UnaryOp->Zh,Value->Lt,allTrue->Xc,argBest->Xi,arm_eval_BoolOp->X4,assign->Vn,backTo->RO,backToKw->ZX,binaryOp->W8,bindArgs->W7,bindC->XX,bindL->XW,boolOp->UF,builtinLookup_eq_fast->SW,builtinsNs->TN,cLine->UV,call->SV,callEnvC->Rc,callWith->VA,call_range_1->Zn,callerA->Zj,cellOf->Zo,cellsFrom->RY,checkCount->YD,claimMargin->Z3,closureFor->VU,codeAmong->Vx,codeAny->Vc,codeAny_builtin->Yb,codeAny_of_tree->Yc,compPost->VC,eval->Tu,eval->WV,evalEach->Wm,excClassObj->Wl,execs->Zc,firstArgMember->YF,foldedSetIterable->Vd,getItem->Xe,holding->Zm,intBits_le_64->YO,intKind->R4,intKind_is->VP,interactive->Tc,keywordEach->XV,leaving->Yk,letOwnedTupleGo->V6,load_attr->Zb,mainGlobals->Q0,methodCallForm->YH,methodCallPos->YZ,model->Pn,name_of_addr->Zv,newFunctionEnv->S6,operate->Xd,plainId_quiet->YX,plainObj_wpAny_Assign_Attribute->Sh,pushCells->Y7,pushCells_keeps->RZ,pyIter->XF,rangeSize_one->YS,rawInt->Q7,recursionLimit->Rv,relabel->Vb,seqEpoch->YB,seqIndex?->Y6,setField->ZY,sizeLine->RC,sizeLine_eq->Qv,slot_list_getitem->Va,spliced->VR,starEach->Qm,storeName->VH,storeName_local->Yh,subscripted->Uv,swapsWith->VI,sysModules->UW,tupleKind->XD,tupleKind_room_in1->TO,typeLookup->VY,typeLookup_type->UG,unsupported->ZR,updateSeq->Y8,wpAny->Ph,wpAny_Assign_Name->Vi,wpAny_Call_NameR->XE,wpAny_Call_method->Xx,wpAny_Constant_bool->Wz,wpAny_Constant_int->WM,wpAny_Constant_str->WN,wpAny_Expr_any->Td,wpAny_If->Z0,wpAny_Name->Yq,wpAny_Return_some->Ua,wpAny_UnaryOp->YR,wpAny_allTrue_And_cons->VQ,wpAny_allTrue_Or_cons->Wb,wpAny_alloc->ZM,wpAny_assign_Name->T2,wpAny_attempt->Us,wpAny_bind->Gt,wpAny_call->YE,wpAny_call_entry->Uj,wpAny_comprehension_free->Vo,wpAny_dictEntries->Xw,wpAny_dictEpoch->Yd,wpAny_execs_cons->Rs,wpAny_execs_nil->TL,wpAny_field->UB,wpAny_holding->QB,wpAny_in_heap->YQ,wpAny_in_of->ZK,wpAny_isInstance->XO,wpAny_isOneOf_keyiter->We,wpAny_isSubtype_exc->WG,wpAny_isTrue_BoolOp->WA,wpAny_ite_split->V4,wpAny_items_cons->Rp,wpAny_items_nil->TJ,wpAny_layCells->Yu,wpAny_letGo->ZV,wpAny_list_append_plain->VB,wpAny_load->WT,wpAny_loadPart_at->Vh,wpAny_mono->QI,wpAny_newList->SS,wpAny_newObj_type->R7,wpAny_newTuple->Wq,wpAny_of_eq->ZZ,wpAny_point->ZW,wpAny_pure->Pb,wpAny_pyIter_list->Xg,wpAny_rule->YA,wpAny_setField->T8,wpAny_setItem_heap->WX,wpAny_setItem_pairs->WF,wpAny_standAt->TA,wpAny_storeName_cell->Wo,wpAny_tests_nil->X5,wpAny_tests_one->X6,wpAny_truthy_bool->R5,wpAny_typeNameOfWhole_keyiter->Sv,wpAny_typeNameOf_keyiter->TD,wpAny_typeOf->Xp,wpAny_updateSeq->V5
open Nat renaming add_assoc->QF,add_comm->SY,add_le_add->R8,add_le_add_left->Pg,add_le_add_right->Ro,add_le_of_le_sub'->V9,add_lt_add_left->Qi,add_lt_add_right->SZ,add_lt_of_lt_sub'->RS,add_right_comm->QO,add_sub_add_left->Wg,add_sub_cancel'->UH,add_sub_cancel_left->Qo,add_sub_of_le->PQ,add_zero->Wi,div_add_mod->X1,div_lt_self->UE,eq_zero_of_le_zero->TY,eq_zero_of_not_pos->SA,le_add_left->QH,le_add_right->PD,le_antisymm->Qt,le_max_right->Ti,le_mul_of_pos_left->RG,le_of_eq->PL,le_of_lt->PB,le_of_lt_succ->PZ,le_of_not_lt->PP,le_of_sub_eq_zero->R3,le_of_succ_le->Tv,le_refl->PH,le_sub_of_add_le->Rm,le_sub_one_of_lt->Qy,le_succ->U9,le_succ_of_le->QT,le_total->ZG,le_trans->If,lt_add_of_pos_right->Ri,lt_irrefl->Uf,lt_of_le_of_lt->O5,lt_of_le_of_ne->PT,lt_of_lt_of_le->O6,lt_of_not_le->Sx,lt_of_sub_pos->Um,lt_of_succ_le->Ul,lt_of_succ_lt->T0,lt_or_ge->Zf,lt_sub_of_add_lt->Tj,lt_succ_of_le->RJ,lt_succ_of_lt->Tx,lt_succ_self->Ue,lt_trans->Tw,max_le->Jaa,min_eq_left->RL,min_eq_right->Sy,min_le_left->QG,min_le_right->XB,min_le_right->Ze,min_self->W4,mul_add->ZH,mul_le_mul_left->Tt,ne_of_gt->Ut,ne_of_lt->Qz,not_le_of_lt->TZ,not_lt->Ys,not_lt_of_le->Rf,not_lt_zero->Wk,pos_of_ne_zero->TM,pow_le_pow_right->RN,pow_succ->V0,sub_add_cancel->S4,sub_eq_zero_of_le->SU,sub_le->UR,sub_le_iff_le_add'->Sz,sub_le_of_le_add->S0,sub_le_sub_left->SL,sub_le_sub_right->Q9,sub_lt->UD,sub_lt_left_of_lt_add->Rl,sub_one_lt_of_lt->Uy,sub_pos_of_lt->RK,sub_right_comm->US,sub_self->Vw,sub_sub->ZF,sub_zero->Xm,succ_le_of_lt->QS,succ_le_succ->Qs,succ_pos->TV,succ_sub_succ->W0,zero_add->QK,zero_le->Qn,zero_max->W3
open List renaming all->Jap,all_eq_true->Q1,all_map->Xf,any_eq_true->Vk,any_map->Zw,append_assoc->QX,append_eq_nil_iff->Ub,append_nil->SD,append_of_mem->WY,cons_append->XM,contains_cons->U3,countP_cons->Uh,drop->XK,drop_drop->Wv,drop_eq_getElem_cons->Rw,drop_eq_nil_iff->Ux,drop_length->S7,drop_nil->W5,drop_sublist->T4,drop_succ_cons->WB,drop_zero->Tm,exists_mem_of_ne_nil->RW,ext_getElem?->T6,filterMap_cons->UM,filter_cons->TU,filter_cons_of_neg->VL,filter_cons_of_pos->VK,filter_eq_nil_iff->VX,filter_filter->U4,find?_cons->X3,find?_some->V7,findSome?_append->Wf,findSome?_cons->So,findSome?_eq_none_iff->Th,foldl->Yx,foldl_append->Vl,foldl_cons->VS,forIn_cons->UZ,forIn_nil->Ww,getElem?_append_right->S9,getElem?_eq_getElem->Pp,getElem?_eq_none->QJ,getElem?_eq_some_iff->P3,getElem?_map->P1,getElem?_of_mem->Ta,getElem?_range->UK,getElem?_zip_eq_some->RU,getElem_drop->Tl,getElem_mem->RM,getElem_of_mem->S8,getElem_take->UP,isEmpty_iff->Uu,length_append->Pj,length_cons->PR,length_drop->Q2,length_eraseIdx_le->VJ,length_erase_of_mem->Vt,length_filter_le->QZ,length_map->Pi,length_pos_iff->Tg,length_pos_of_mem->SE,length_range->Vf,length_singleton->Pm,length_take->Sr,length_zip->Ui,lookup->Z5,lookup_cons->Qf,map->ZT,mapM_cons->Yy,mapM_nil->YU,mapM_toArray->Xq,map_append->SJ,map_congr_left->UL,map_cons->QE,map_drop->Y3,map_eq_nil_iff->WH,map_id'->Tq,map_map->VW,map_nil->XA,mem_append->Pu,mem_append_left->PX,mem_append_right->P5,mem_cons->PC,mem_cons_self->Uo,mem_filter->Qk,mem_map->T1,mem_of_find?_eq_some->Ts,mem_of_getElem?->QU,mem_of_mem_drop->SN,mem_of_mem_eraseIdx->Vs,mem_of_mem_take->Rk,mem_range->YL,mem_reverse->VE,mem_singleton->O7,mergeSort_perm->Qu,nil_append->WP,nodup_append->R6,nodup_cons->Q6,not_mem_nil->Sw,of_mem_zip->WU,pairwise_append->Qx,pairwise_cons->SQ,pairwise_map->RI,pairwise_mergeSort->Rz,pairwise_singleton->VF,perm_append_comm->Sp,perm_append_singleton->U6,perm_cons->Yt,range->QR,reverse_append->UI,reverse_perm->Xl,reverse_reverse->Uz,size_toArray->PJ,sublist_append_left->Vu,take_append_drop->QY,take_length->VD,take_nil->Y1,take_of_length_le->QL,take_sublist->Xk,take_succ_eq_append_getElem->T3,take_zero->Wp,toList_toArray->WC,zipIdx_cons->XH,zipIdx_nil->V2,zip_cons_cons->Rt,zip_nil_right->U1
open PyProof.Rows renaming IntsAre->Ry,Keyed->Pc,SortKind->Uw,SortSt->Px,args_list_sort->YG,args_sorted1->Zs,arrOf->O8,collect_list->Zt,depth_under_make->XR,entry_list_sort->V3,entry_sorted->Xv,failedOf->Qa,firstOfTuple'->YT,general'->ZU,get?_update_seq->R1,getElem?_bubble->X7,getElem?_mirror_all->Sj,keyKind'->Yz,kind_sorted->XU,listItems_at->To,listUpdate_at->Sf,list_sort_plain->Yg,minRun'->Zq,minRun'_succ->Zr,mirror->Vp,oneType'->Xj,pendingOf->PY,plain_sorted->Xu,recsOf->Yo,reverseSlice'->Ur,seqEpoch_at->UA,seqObj->PN,setArr->Yw,slot_list_sort->Wr,sortRuns'->Wu,subscriptTail->TB,tail_any->Yr,tuples'->Xo,wpS_bind->Pe,wpS_forRange->Rh,wpS_get->Tn,wpS_lift->ZS,wpS_modify->TQ,wpS_mono->RE,wpS_pure->Pr
open PySem.Heap renaming SameBut->Qg,clsAt_spec->X2,get?_none_of_le->QC,get?_push_ne->T9,get?_push_of_some->Pd,get?_push_size->PE,get?_update_ne->WD,get?_update_other->P7,get?_update_self->P4,lt_size->RH,size_push->TT,size_update->XQ
open Array renaming append_assoc->WL,eraseIdxIfInBounds->Vq,forIn_toList->WS,getElem?_eq_getElem->RT,getElem?_eq_some_iff->Rg,getElem_extract->Wc,getElem_mem->Rj,length_toList->Py,mem_toList_iff->U0,perm_iff_toList_perm->Rx,size_extract->WQ,size_map->YC,size_zip->Xs,toList_append->Qp,toList_inj->WR,toList_map->VG,toList_push->Su,toList_reverse->T5
open PySem.PyData renaming canLay0->UX,canLayAll0->Vj,depth->UO,depthAll->TI,eqv->QQ,eqvAll->QV,int->PA,list->Z4
open PySem.Obj renaming cls_mapFields->Vg,data_mapFields->SI,isFreed_of_fields->Ud,mapFields->TF,mapSeq->PF,putNameByArray->Q8,putName_eq->RP
open Or renaming elim->PG
open Int renaming add_le_add_left->Wx,add_lt_add_left->Wy,add_nonneg->R9,emod_lt_of_pos->Qr,emod_nonneg->P8,le_antisymm->SK,le_of_eq->TX,le_of_lt->QW,le_of_lt_add_one->Wh,le_refl->U8,le_trans->PO,lt_add_one_of_le->Wj,lt_of_le_of_lt->Q5,lt_of_lt_of_le->QP,lt_succ->XS,lt_trans->VM,mul_lt_mul_of_pos_left->U5,mul_nonneg->YM,natCast_nonneg->PW,natCast_pos->V1,ne_of_gt->WZ,ne_of_lt->Zg,neg_le_neg->Yl,not_le->WK,not_lt->RF,ofNat_le->QN,ofNat_lt->Vv,self_le_toNat->W2,sub_le_self->X0,toNat_le->W1,toNat_lt->Zd,toNat_natCast->T7,toNat_of_nonneg->Qw
open PySem.Heap.SameBut renaming update->P2
open PySem.Builtin.List renaming listExtendWith->Re,listFitsIndex->Te,listItems->QD,listLengthHint->UQ,listSameRef->Vr,listUpdate->Qd
open Pure renaming pure->Qq
open Ne renaming symm->QA
open PySem.NameKind renaming cell->Uq,free->Q3
open PySem.Builtin.Range renaming rangeSize->Ra,small->UJ
open And renaming intro->Rn
open PySem.Value renaming bool->Jab,int->Jaj,none->SH,ref->Rq,type->TR
open ForInStep renaming yield->RB
open List.Pairwise renaming imp->Xz,imp_of_mem->Sg,nil->Jah
open PySem.Challenge renaming rw_uf050037_10->Sq
open Inhabited renaming default->SB
open PySem.F renaming args_list_init_2->YY,called_list->Z8,entry_list_init->Za,excBase_ValueError->Tf,plainAttrs_list->Xy,plain_extend_loop->U7,slot_dict_iter->XN,slot_dict_keyiterator_next->SO,slot_dict_len->ZB,slot_list_insert->WW,slot_list_pop->Yi,store_object->Z2,typeCall_list_1->Y9
open Classical renaming byContradiction->Tr,epsilon->W6,epsilon_spec->VN,not_forall->Z6,not_imp->Jai
open List.Perm renaming append_left->ZC,eq_of_pairwise->YV,of_eq->TK,trans->Jao
open PyProof.Rows.SortSt renaming mk'->Ug
open Eq renaming symm->Uk,trans->Ym
open PySem.Builtin renaming bitXor->UT
open ForIn renaming forIn->UY
open List.Sublist renaming append->Z9,refl->Vm
open PySem.Env renaming kindOf->VO
open PySem.Code renaming builtin->VZ
open PySem.Builtin.Dict renaming dictSlotNone->YN,showsAll->Wd
open PySem.Around renaming frames_deeper->Ws
open PySem.EntryCells renaming newEntry->WE
open PySem.AutoSeq1 renaming list_insert_list_int_val_1->WJ
open Char renaming toNat->WO
open PySem.IsRange renaming new->XT
open PySem.Within renaming cons->XY,nil->YK
open PySem.W.OpenLaw renaming row->XZ
open StateT renaming run_pure->X8
open Array.Perm renaming refl->X9
open PySem.Builtin.Dict_items renaming ownsTuple->Ye
open PySem.W renaming same->Yp
open PySem.MeetsSeq renaming list_pop_at->YJ
open PySem.Expr renaming ListComp->Y0
open Function renaming comp->Y2
open PyProof renaming noPylong_small->Zl
open PySem.IsiPair renaming NoneType_bool->Zz,NoneType_int->ZO,NoneType_list->ZA,NoneType_str->ZP,NoneType_tuple->Zp,tuple_tuple->Z7
open PySem.P renaming getItem_tuple->Zy
open OfNat renaming ofNat->ZE
open PySem.Data renaming fields->ZJ
open PySem.Heap.Ns renaming new->ZN
open PySem.Heap.IsSliceOf renaming new->Jac
open PySem.Walks renaming list->Jad
open PySem.IsL renaming update->Jae
open Iff renaming rfl->Jaf
open PySem.DictEntry renaming refKey->Jak
open PySem.Data.fields renaming inj->Jal
open PySem.Heap.DictOf renaming new->Jam
open List.cons renaming inj->Jas,injEq->Jan
open Int.ofNat renaming inj->Jaq
open PySem.Value.ref renaming inj->Jar
section
open Nat (add_lt_of_lt_sub le_min mul_two one_pos two_mul)
theorem nLe {x n:Pa}(h:(x:O3)<=@ZE O3 n instOfNat):x<=n:=QN.mp h
theorem nLm {x n:Pa}(h:x<=n):(x:O3)<=@ZE O3 n instOfNat:=QN.mpr h
theorem lte {a b c:Pa}(h:a<c) (e:b=c):a<b:=e▸h
theorem lee {a b c:Pa}(h:a<=c) (e:b=c):a<=b:=e▸h
theorem elt {a b c:Pa}(e:a=c) (h:c<b):a<b:=e▸h
theorem ele {a b c:Pa}(e:a=c) (h:c<=b):a<=b:=e▸h
theorem jle {a b c:O3}(e:a=c) (h:c<=b):a<=b:=e▸h
theorem nn {x:O3}{n:Pa}(e:x = ↑n):0<=x:=e▸PW n
theorem m9 {x:O3}{n:Pa}(h:7+x/9%3 = ↑n):n<=9:=by lia
theorem m18 {x:O3}{n:Pa}(h:7+x%12 = ↑n):n<=18:=by lia
theorem m12 {x:O3}{n:Pa}(h:7+x%6 = ↑n):n<=12:=by lia
theorem m4 {x:O3}{n:Pa}(h:1+x%4 = ↑n):n<=4:=by lia
theorem m5 {x:O3}{n:Pa}(h:x%6 = ↑n):n<=5:=by lia
theorem p9 {x y:O3}(h:1+x/3%9=y):0<y:=by lia
theorem q9 {x y:O3}(h:1+x/3%9=y):y<=9:=by lia
theorem r9 {x y:O3}(h:x/27%9=y):0<=y:=by lia
theorem dbl {a b:Pa}(h:a<=b):a+a<=b*2:=by lia
theorem tlt {x:O3}{n:Pa}(h0:0<n) (h:x < ↑n):x.toNat<n:=by lia
theorem tln {x:O3}{n:Pa}(h0:0<=x) (h:x < ↑n):x.toNat<n:=by lia
theorem nxl {a b c:Pa}(h:a+b<c):a<c:=O5 (PD a b) h
theorem nxe {a b c:Pa}(h:a+b<=c):a<=c:=If (PD a b) h
theorem adl {a b c d:Pa}(h:b<c) (g:a+c<=d):a+b<d:=O6 (Qi h a) g
theorem adE {a b c d:Pa}(h:b<=c) (g:a+c<=d):a+b<=d:=If (Pg h a) g
theorem pX {a b c:Pa}(h:a<c):a-b<c:=O5 (UR a b) h
theorem Dv {a b c:Pa}(h:a<=c):a-b<=c:=If (UR a b) h
theorem mne {a b c:Pa}(h:b<=c):min a b<=c:=If (XB a b) h
theorem mnl {a b c:Pa}(h:a<=c):min a b<=c:=If (QG a b) h
theorem vlo{a b c:Pa}:a<=a+b-(a+b-(a+c)):=Rm (Pg (If (PL (Wg a b c)) (UR b c)) a)
theorem pl {a b:Pa}(p:0<a) (h:a<b+1):a-1<b:=O6 (Nat.sub_one_lt (Ut p)) (PZ h)
theorem sl {a b:Pa}(h:1<=b):a+b-1<a+b:=UD (O6 h (QH _ _)) Nat.one_pos
theorem mn2{a b:Pa}:min a b+1+(b-a)=b+1:=by rw[QO,SY (min a b),Nat.min_comm,Nat.sub_add_min_cancel]
theorem ts {a b:Pa}{x:O3}(e:x = ↑b):((a:O3)-(x+1)).toNat=a-(b+1):=by subst e; exact Int.toNat_sub a (b+1)
theorem r9b {x y:O3}(h:x/27%9=y):y<=8:=h▸Wh (Qr _ (by decide))
theorem rm1 {u k c:Pa}{b:Prop} [Wt b] (h:u+100*k+(if b then 200 else 300)<c):u+1<c:=O5 (R8 (PD u _) (by split<;>decide)) h
theorem na1 {a:O3}(h:a.natAbs<2^63):-2^64<a:=by lia
theorem na2 {a:O3}(h:a.natAbs<2^63):a<2^64:=by lia
theorem wle {a b:Pa}(h:1<=b) (e:0+a+(b-a)-1=b-1):a<=b:=(Nat.le_total a b).elim id λg=>by rw[QK,SU g,Wi] at e; exact PL (Nat.sub_one_cancel (O6 h g) h e)
theorem hf (n:Pa):n/2<=n-1:=by
 cases n with
 | zero=>exact PH _
 | succ n=>exact PZ (UE (TV n) (by decide))
variable {a b c d e f:Pa}
theorem la1{a:O3}{b:Pa}:0<=a->a<b->a.toNat<b:=λp q=>tln p q
theorem la2{a:Pa}:0<a->(↑a:O3)≠(0:O3):=λp=>WZ (V1.mpr p)
theorem la3{a:Pa}:0<a->(0:O3)<(↑a:O3):=λp=>V1.mpr p
theorem la4{a:O3}{b:Pa}:0<b->a%b<b->(a%(↑b:O3)).toNat<b:=λp q=>tlt p q
theorem la5{a b c:O3}:c<=b->0<=a/\a<c->a<b:=λp q=>QP q.2 p
theorem la6{a b c:O3}:c<=b->0<=a/\a<c->0<=a/\a<b+1:=λp q=>Rn q.1 (QP q.2 (PO p (QW (XS _))))
theorem la7{a b:O3}:0<=b->b<=a->0<=a/\a<a+1:=λp q=>Rn (PO p q) (XS _)
theorem la8{a b c:O3}:c<=b->0<=a/\a<c->0<=a/\a<b:=λp q=>Rn q.1 (QP q.2 p)
theorem la9:b=a+(c+1)->a<b:=λp=>lte (Ri (TV _)) p
theorem LD:a<=7->a<=1000000:=λp=>If p (by decide)
theorem DI:b<=7->a<b->a<=6:=λp q=>PZ (O6 q p)
theorem MM:b<=7->c<b->a<=c->a+1<=1000000:=λp q r=>If (If (QS (O5 r q)) p) (by decide)
theorem Mz:a<=b->b<=2^6->a+a<=1000000:=λp q=>If (dbl (If p q)) (by decide)
theorem Dd:a<=b->a+a<=b*2:=λp=>dbl p
theorem Dj{a:Pa}:(↑a:O3)<=(↑(a+(1:Pa)):O3):=QN.mpr (PD _ _)
theorem Dk{a:Pa}{b:O3}:b=a->a<=b:=λp=>TX (Uk p)
theorem CN{a:O3}{b:Pa}:a=b->a+1<=(↑(b+(1:Pa)):O3):=λp=>TX (by rw[p]; rfl)
theorem w6:a<a+(b+1):=Ri (TV _)
theorem M3:a=b->b<=2^6->a+a<=1000000:=λp q=>If (dbl (ele p q)) (by decide)
theorem Mt:a=b->a+a=b*2:=λp=>by rw[p,mul_two]
theorem Mg:a<=5->a<=1000000:=λp=>If p (by decide)
theorem MK:b<=5->a<b->a<=5:=λp q=>If (PB q) p
theorem C5:b<=5->c<b->a<=c->a+1<=1000000:=λp q r=>If (If (QS (O5 r q)) p) (by decide)
theorem Mv:a<=b->b<=2^5->a+a<=1000000:=λp q=>If (dbl (If p q)) (by decide)
theorem Ma{a:Pa}{b:O3}:b=a->2*a<=2*b:=λp=>TX (by rw[p])
theorem MT{a:O3}{b:Pa}:a=b->2*a+1<=2*(↑(b+(1:Pa)):O3):=λh=>by rw[h,Int.natCast_succ,Int.mul_add]; exact Wx (by decide) _
theorem Mb{a:Pa}{b:O3}:b=a->2*a<=2*b+1:=by intro p; lia
theorem LN{a:O3}{b:Pa}:a=b->2*a+1+1<=2*(↑(b+(1:Pa)):O3):=by intro p; lia
theorem LS{a:O3}:a%(6:O3)=(↑(a%(6:O3)).toNat:O3):=Uk (Qw (P8 _ (by decide)))
theorem MD{a:Pa}{b:O3}:b%6=a->a<=1000000:=λp=>If (m5 p) (by decide)
theorem DY{a:O3}{b:Pa}:0<=a/\a<b->0<=6+a:=λp=>R9 (by decide) p.1
theorem DU{a:Pa}:a<=6->(↑a:O3)<=(100:O3):=λp=>PO (QN.mpr p) (by decide)
theorem M0{a:Pa}{b:O3}:b%6=a->a<=63:=λp=>If (m5 p) (by decide)
theorem CT:b<=6->a<=b->a<=12:=λp q=>If q (If p (by decide))
theorem LV{a:O3}:(7:O3)+a/(9:O3)%(3:O3)=(↑((7:O3)+a/(9:O3)%(3:O3)).toNat:O3):=(Qw (R9 (by decide) (P8 _ (by decide)))).symm
theorem LZ{a:Pa}{b:O3}:7+b/9%3=a->a<=1000000:=λp=>If (m9 p) (by decide)
theorem Mf{a:O3}{b:Pa}:a=b->0<=a+1:=λp=>R9 (nn p) (by decide)
theorem MS{a b:O3}{c d:Pa}:7+b/9%3=c->a=d->d<c->a+1<=1000:=λp q r=>by subst q; exact QN.mpr (If r (If (m9 p) (by decide)))
theorem MZ{a:Pa}{b:O3}:7+b/9%3=a->(↑a:O3)<=(1000:O3):=λp=>PO (QN.mpr (m9 p)) (by decide)
theorem LU{a:Pa}{b:O3}{c:Pa}:7+b/9%3=c->a<c->a<=9:=λp q=>If (PB q) (m9 p)
theorem LP{a b:Pa}{c d:O3}{e f:Pa}:7+d/9%3=b->a<=e->c=f->e<=36->a+((↑b:O3)-(c+(1:O3))).toNat<=(1000000:Pa):=λp q r s=>If (R8 (If q s) (If (PL (ts r)) (If (UR _ _) (m9 p)))) (by decide)
theorem LX{a b:Pa}{c:O3}{d e:Pa}{f:O3}:7+f/9%3=b->a<=d->c=e->a+((↑b:O3)-(c+(1:O3))).toNat<=d+((8:Pa)-e):=λp q r=>R8 q (If (PL (ts r)) (If (Q9 (m9 p) _) (PL (W0 8 _))))
theorem LM{a:O3}{b:Pa}:a<a+1+b:=QP (XS a) (Int.le_add_of_nonneg_right (PW b))
theorem Mm{a:O3}{b c:Pa}:c<b->a=c->0<=a/\a<b:=λp q=>by subst q; exact ⟨PW _,Vv.mpr p⟩
theorem LG{a:O3}{b c d:Pa}:a=d->b<((↑c:O3)-(a+(1:O3))).toNat->0<=a+1+b/\a+1+b<c:=λp q=>Rn (R9 (R9 (nn p) (by decide)) (PW _)) (by subst p; exact Vv.mpr (RS (Nat.lt_of_lt_of_eq q (ts rfl))))
theorem ML{a:Pa}{b:O3}:7+b/9%3=a->a<=9:=λp=>m9 p
theorem LJ{a:Pa}{b:O3}:7+b/9%3=a->(↑a:O3)<=(100:O3):=λp=>PO (QN.mpr (m9 p)) (by decide)
theorem Mr:a<=b->b<=36->a<=63:=λp q=>If p (If q (by decide))
theorem wV{a:Pa}:(0:O3)<(↑a:O3)+(1:O3):=Wj (PW _)
theorem L1{a:O3}{b:Pa}:b=7->(a/(9:O3)%(7:O3)).toNat<b:=λp=>p▸(Zd (P8 _ (by decide))).mpr (Qr _ (by decide))
theorem LI{a b:O3}:0<=a/\a<=b->a=(↑a.toNat:O3):=λp=>Uk (Qw p.1)
theorem LY{a b:O3}:0<=a/\a<=b->(↑a.toNat:O3)<=b:=λp=>jle (Qw p.1) p.2
theorem Mn{a:O3}:(1:O3)+a%(4:O3)=(↑((1:O3)+a%(4:O3)).toNat:O3):=(Qw (R9 (by decide) (P8 _ (by decide)))).symm
theorem LC{a:Pa}:a<=63->¬(63:O3)<(↑a:O3):=λp=>RF.mpr (nLm p)
theorem L9{a:Pa}{b:O3}:1+b%4=a->a<=5:=λp=>If (m4 p) (by decide)
theorem Lz{a:Pa}{b:O3}:1+b%4=a->(2:O3)*(↑a:O3)<=(100:O3):=λp=>QN.mpr (If (Tt 2 (m4 p)) (by decide))
theorem LF:a<=32->a<=63:=λp=>If p (by decide)
theorem LW{a:Pa}{b:O3}{c:Pa}:1+b%4=c->a<=c->a<=12:=λp q=>If q (If (m4 p) (by decide))
theorem MO{a:Pa}:(↑a:O3)<=(6:O3)->a<=6:=λp=>nLe p
theorem CR{a:Pa}:(↑a:O3)<=(7:O3)->a<=1000000:=λp=>If (nLe p) (by decide)
theorem LO{a b:Pa}:(↑b:O3)<=(7:O3)->a<b->a<=6:=λp q=>PZ (O6 q (nLe p))
theorem LQ{a b c:Pa}:(↑b:O3)<=(7:O3)->c<b->a<=c->a+1<=1000000:=λp q r=>If (Qs r) (If q (If (nLe p) (by decide)))
theorem L6:a<=c->c<=2^6->b<=a->a+b<=1000000:=λp q r=>If (R8 (If p q) (If r (If p q))) (by decide)
theorem LL:a<=c->b<=a->a+b<=c*2:=λp q=>adE q (dbl p)
theorem DR{a:Pa}:(↑a:O3)<=(7:O3)->a<=7:=λp=>nLe p
theorem LH{a:O3}{b c:Pa}:b=c->0<=a/\a<c->0<=a/\a<b:=λp q=>p▸q
theorem Lu{a b:Pa}:(↑b:O3)<=(7:O3)->a<=b->a<=7:=λp q=>If q (nLe p)
theorem L8:a<=b->b<=63->a<=63:=λp q=>If p q
theorem MY{a:Pa}:(↑a:O3)<=(7:O3)->(↑a:O3)<=(100:O3):=λp=>PO p (by decide)
theorem Mq{a b:Pa}:(↑b:O3)<=(7:O3)->a<=b->a<=12:=λp q=>If q (If (nLe p) (by decide))
theorem Mx{a b c d:O3}:b*c<b*d->a+b*c<a+b*d:=λp=>Wy p _
theorem MA{a b c d:O3}:0<=a->0<=b*c->b*c<b*d->0<=a+b*c/\a+b*c<a+b*d:=λp q r=>Rn (R9 p q) (Wy r _)
theorem DH{a b:Pa}:a<b->(↑a:O3)<(↑b:O3):=λp=>Vv.mpr p
theorem M2{a:O3}:(7:O3)+a%(12:O3)=(↑((7:O3)+a%(12:O3)).toNat:O3):=(Qw (R9 (by decide) (P8 _ (by decide)))).symm
theorem Lw{a:Pa}{b:O3}:7+b%12=a->a<=1000000:=λp=>If (m18 p) (by decide)
theorem MC{a:O3}:0<1+a/12%4:=QP (by decide) (Wx (P8 _ (by decide)) 1)
theorem Me{a:Pa}{b:O3}:7+b%12=a->(↑a:O3)<=(100:O3):=λp=>PO (QN.mpr (m18 p)) (by decide)
theorem LA{a:Pa}{b:O3}{c:Pa}:7+b%12=c->a<=c->a<=63:=λp q=>If q (If (m18 p) (by decide))
theorem DJ{a:O3}{b:Pa}:0<=a/\a<b->0<=a/\a<b:=by intro p; omega
theorem Ly{a:O3}:(7:O3)+a%(6:O3)=(↑((7:O3)+a%(6:O3)).toNat:O3):=(Qw (R9 (by decide) (P8 _ (by decide)))).symm
theorem DF{a:Pa}{b:O3}:7+b%6=a->a<=1000000:=λp=>If (m12 p) (by decide)
theorem MG{a:Pa}{b:O3}:7+b%6=a->(↑a:O3)<=(100:O3):=λp=>PO (QN.mpr (m12 p)) (by decide)
theorem Mu{a:Pa}{b:O3}:7+b%6=a->a<=63:=λp=>If (m12 p) (by decide)
theorem L7{a:Pa}{b:O3}{c:Pa}:7+b%6=c->a<=c->a<=12:=λp q=>If q (m12 p)
theorem ME{a:O3}:¬9<a->a<=9:=λp=>RF.mp p
theorem Ls{a:Pa}:¬(8:O3)<(↑a:O3)->a<=8:=λp=>nLe (RF.mp p)
theorem MB:b<=8->a<b->a<1000000:=λp q=>O6 q (If p (by decide))
theorem LB{a b:O3}:1+b/3%9=a->0<=a:=λp=>QW (p9 p)
theorem MQ{a b:O3}:1+b/3%9=a->a<=9:=λp=>q9 p
theorem Mp{a b c d:O3}:d/27%9=a->0<=b*c->0<=a+b*c:=λp q=>R9 (r9 p) q
theorem Mo{a b c d:O3}:d/27%9=a->b*c<=9*9->a+b*c<=100:=λp q=>PO (Int.add_le_add (r9b p) q) (by decide)
theorem M4:a<=8->a<=63:=λp=>If p (by decide)
theorem MX:a<=12->a<=12:=by intro p; omega
theorem MR{a b:O3}:b/27%9=a->0<=a:=λp=>r9 p
theorem MW{a b:O3}:1+b/3%9=a->0<a:=λp=>p9 p
theorem Ml:b<63->a<=b->a+1<=1000000:=λp q=>If (QS (O5 q p)) (by decide)
theorem M5:b<63->a<=b->a+1<64:=λp q=>SZ (O5 q p) _
theorem xA:a<=1000->a<=1000000:=λp=>If p (by decide)
theorem DW:b<=1000->a<=b->a<=1000000:=λp q=>If q (If p (by decide))
theorem Ad:a<=b->a<=b+1:=λp=>QT p
theorem kO:a<=b->a+1<=b+1:=λp=>Qs p
theorem Fo:b<=1000->a<b->a<=1000:=λp q=>If (PB q) p
theorem Fy{a:O3}:0<=a->a<0->False:=λp q=>Pq q (RF.mpr p)
theorem Jp{a:Pa}{b:O3}:b<=a->a<b->False:=λp q=>Pq q (RF.mpr p)
theorem Ji{a:O3}{b:Pa}:b<1000000->min a.toNat b+(b-a.toNat+(1:Pa))<=(1000000:Pa):=λp=>If (PL (by rw[SY (_-_) 1,<- QF]; exact mn2)) p
theorem Gx{a b:O3}:0<=a/\a<b->a<0->False:=λp q=>Pq q (RF.mpr p.1)
theorem Jv{a b:O3}:0<=a/\a<b->b<=a->False:=λp q=>Pq p.2 (RF.mpr q)
theorem GL{a:Pa}:(↑a:O3)+(1:O3)≠(0:O3):=WZ (Wj (PW _))
theorem IA{a b c:O3}:a<c->c<=b->a<=b:=λp q=>PO (QW p) q
theorem Iv{a b c:O3}:¬c<a->c<=b->a<=b:=λp q=>PO (RF.mp p) q
theorem Ai{a:Pa}:(0:O3)<=(↑a:O3):=PW _
theorem z9{a b:O3}:a<=b->b<=a->a=b:=λp q=>SK p q
theorem JX{a b:Pa}{c:O3}:a=c->c=b->a=b:=λp q=>Jaq (p.trans q)
theorem G2{a:O3}{b c d:Pa}:c=a->d=b->d<=a->c<=b->a=b:=λp q r s=>by subst p q; exact R2 Nat.cast (Qt s (QN.mp r))
theorem ur:a<=100->a<=1000:=λp=>If p (by decide)
theorem H0:a<=100->a<=1000000:=λp=>If p (by decide)
theorem Ke{a:O3}:0<=a->a=(↑a.toNat:O3):=λp=>Uk (Qw p)
theorem J8{a:Pa}:(↑a:O3)<=(100:O3)->a<=1000:=λp=>If (nLe p) (by decide)
theorem HR:a<=12->a<63:=λp=>O5 p (by decide)
theorem FC{a:O3}{b:Pa}:0<=a/\a<b->a=(↑a.toNat:O3):=λp=>Uk (Qw p.1)
theorem KE{a b:Pa}:(↑b:O3)<=(100:O3)->(0:O3)<=(↑a:O3)/\(↑a:O3)<(↑b:O3)->a<=1000:=λp q=>If (nLe (PO (QW q.2) p)) (by decide)
theorem GS{a:Pa}:(↑a:O3)<=(100:O3)->a<=1000000:=λp=>If (nLe p) (by decide)
theorem F1{a b:Pa}:(↑b:O3)<=(100:O3)->a<=b->a<=100:=λp q=>If q (nLe p)
theorem Ag{a:Pa}:(↑a:O3)<=(100:O3)->a<=100:=λp=>nLe p
theorem Lh:a<=12->a<=100:=λp=>If p (by decide)
theorem Gp:a<=12->a<=60:=λp=>If p (by decide)
theorem F7{a:Pa}:(↑a:O3)=(0:O3)->a=0:=λp=>TY (QN.mp (jle p (by decide)))
theorem zy:a<=100->a<128:=λp=>O5 p (by decide)
theorem FW:a<=63->a<=1000:=λp=>If p (by decide)
theorem FB:b<=63->a<=b->a<=1000000:=λp q=>If q (If p (by decide))
theorem JL:b<=63->a<=b->a<64:=λp q=>O5 q (O5 p (by decide))
theorem Ib:b<=63->c<=b->a=c->a<=1000:=λp q r=>If (If (ele r q) p) (by decide)
theorem Ih:a+(b+1)<=1000->a<=1000:=λp=>nxe p
theorem Hc{a b:O3}{c:Prop}:¬(a<0\/b<=a\/c)->0<=a/\a<b:=λp=>Rn (RF.mp λg=>p (.inl g)) (WK.mp λg=>p (.inr (.inl g)))
theorem HJ:a+(b+1)<=1000->a+1+b<=1000:=λp=>by rw[QO]; exact p
theorem HQ:a<=b-1->0<b->a+1<=b:=λp q=>QS (O5 p (UD q (by decide)))
theorem HK{a:Prop}{b c:Pa}:b<=c->c+1<=b->a:=λp q=>Pq q (TZ (RJ p))
theorem Ay:b=a->a<=b:=λp=>PL (Uk p)
theorem Hn{a:Pa}:a<=1000000->((↑a:O3)-(0:O3)).toNat<=(1000000:Pa):=λp=>W1.mpr (PO (X0 _ (U8 0)) (QN.mpr p))
theorem G4:-(2:O3)^(60:Pa)<=(0:O3):=by decide
theorem Gv:(0:O3)<(2:O3)^(60:Pa):=by decide
theorem Hp{a:Pa}:-(2:O3)^(60:Pa)<=(↑a:O3):=by lia
theorem K5{a:Pa}:a<=1000000->(↑a:O3)<(2:O3)^(60:Pa):=λp=>Q5 (QN.mpr p) (by decide)
theorem JT{a b:Pa}:a<b->(0:O3)<=(↑a:O3)/\(↑a:O3)<(↑b:O3):=λp=>Rn (PW _) (Vv.mpr p)
theorem JS{a:O3}:0<=a->(↑a.toNat:O3)=a:=λp=>Qw p
theorem Al{a:O3}{b:Pa}:a.toNat<b->a<b:=λp=>Q5 (W2 _) (Vv.mpr p)
theorem J7{a:O3}:0<a->¬a=0:=λp=>WZ p
theorem A2{a:O3}:0<a->0<=a:=λp=>QW p
theorem zA{a b c:O3}:a<=c->c<=b->a<=b:=λp q=>PO p q
theorem zP{a b:O3}:a<=b\/b<=a:=Int.le_total _ _
theorem IL{a:Pa}:a<=1000000->(↑a:O3)<(2:O3)^(62:Pa):=λp=>Q5 (QN.mpr p) (by decide)
theorem HH{a:Pa}:0<a->-(↑a:O3)<=(-1:O3):=by intro p; lia
theorem Li{a:Pa}:((-1:O3)+(↑a:O3)).toNat=a-(1:Pa):=by lia
theorem Iy{a b:O3}:0<=b->a<=1000->(a-b).toNat<=(1000000:Pa):=λp q=>W1.mpr (PO (X0 _ p) (PO q (by decide)))
theorem AO{a:O3}:0<=a->-(2:O3)^(60:Pa)<=a:=by intro p; lia
theorem zx{a:O3}:a<=1000->a<(2:O3)^(60:Pa):=λp=>Q5 p (by decide)
theorem GV{a:O3}{b:Pa}:0<=a->a<b->a<0\/b<=a->False:=λp q r=>r.elim (λg=>RF.mpr p g) (λg=>WK.mpr q g)
theorem Ja{a:Pa}:(0:O3)<(↑(a+(1:Pa)):O3):=V1.mpr (TV _)
theorem J9{a:Pa}:(1:O3)<(↑(a+(1:Pa)+(1:Pa)):O3):=Vv.mpr (Nat.succ_lt_succ (TV _))
theorem z3:a+d<=c->b<d->a+b<c:=λp q=>adl q p
theorem Kh:a<=c->a-b<=c-0:=λp=>If (SL (Qn _) _) (Q9 p _)
theorem Gk:a<=b->¬a=b->a<b:=λp q=>PT p q
theorem JY:a<=b->¬a=b->a+(b-a)/2+1<=b:=λp q=>O6 (Qi (UE (RK (PT p q)) (by decide)) a) (PL (PQ p))
theorem GT:a-b<=c-d->a-(b+(a-b)/2+1)<=c-(d+1):=λp=>Q9 (If (If (PL (ZF _ _ _).symm) (UR _ _)) p) 1
theorem Hs:a<b+(c-b)/2+1->a<=b+(c-b)/2:=λp=>PZ p
theorem Jx:a<=b->b<=c->¬a=b->a+(b-a)/2<c:=λp q r=>O6 (O6 (Qi (UE (RK (PT p r)) (by decide)) a) (PL (PQ p))) q
theorem KH:a<=a+(b-a)/2:=PD _ _
theorem EY:a<=b->b<=c->a+(b-a)/2<=c:=λp q=>If (Pg (Nat.div_le_self _ _) _) (If (PL (PQ p)) q)
theorem Lp:b-a<=c-d->a+(b-a)/2-a<=c-(d+1):=λp=>by rw[Qo,<- ZF]; exact If (hf _) (Q9 p 1)
theorem K9:a<=b->b-a<=c-max 0 c->a=b:=λp q=>Qt p (R3 (Nat.le_zero.mp (by rw[W3,Vw] at q; exact q)))
theorem z5:0<1:=by decide
theorem FZ:a<b->a+0<b:=by intro p; omega
theorem zO:0+1<=1:=by decide
theorem Ac:¬b≥c-a->a+b<c:=λp=>RS (Sx p)
theorem zi{a:Pa}:a<2*a+1:=RJ (RG a (by decide))
theorem Ax{a b:Pa}:a+1<=b->a+1+1<=2*b+1:=λh=>Qs (If h (RG b (by decide)))
theorem Jl:max 0 a+1<=c->a-b<=c:=λp=>If (QT (Dv (Ti _ _))) p
theorem Ic:b<c->a+b<d->a+b+1<=a+min c (d-a):=λp q=>Pg (le_min.mpr ⟨p,Tj (SY a b▸q)⟩) a
theorem HO:a<c->a+min b (c-a)<=c:=λp=>If (Pg (Ze _ _) _) (PL (PQ (PB p)))
theorem Kc:a<b+c+1->a<=b+c:=λp=>PZ p
theorem JB{a:Prop}{b c d e:Pa}:b+min c (d-b)<=e->e<d->d-b<=c->a:=λp q r=>by rw[Sy r] at p; exact Pq (If (Sz.mp (PH _)) p) (TZ q)
theorem Iw:a+min b (d-a)<=c->c<d->a+b<=c:=λp q=>(ZG b (d-a)).elim (λg=>by rw[RL g] at p; exact p) (λg=>by rw[Sy g] at p; exact Pq (If (Sz.mp (PH _)) p) (TZ q))
theorem Af:a<b->¬a≥b:=λp=>TZ p
theorem AA:a<b->b<=c->a+(b-a)/2<c:=λp q=>O6 (O6 (Qi (UE (RK p) (by decide)) a) (PL (PQ (PB p)))) q
theorem Kx:0<=a:=Qn _
theorem zw:a<c->a-b<c:=λp=>pX p
theorem zN:¬a≥b+1->a<=b:=λp=>PZ (Sx p)
theorem Hr:a<c->max 0 c+1<=b->a+1<=b:=λp q=>If p (If (Ti 0 c) (Tv q))
theorem Ee:a<c->a-b<=c:=λp=>PB (pX p)
theorem Ey:a+1<=b->a+1-min b (a+1)<=a-c:=λp=>by rw[Sy p,Vw]; exact Qn _
theorem F2:c<b->a+1-min b (a+1)<=a-c:=λp=>(ZG b (a+1)).elim (λg=>by rw[RL g]; exact If (SL p _) (PL (Nat.add_sub_add_right a 1 c))) (λg=>by rw[Sy g,Vw]; exact Qn _)
theorem Ht{a:Prop}{b c d:Pa}:b<c+1-min d (c+1)->c+1<=d->a:=λp q=>by rw[Sy q,Vw] at p; exact Pq p (Wk _)
theorem FH{a b c:Pa}:a<b+1-min c (b+1)->a<=b-c:=λp=>(ZG c (b+1)).elim (λg=>Rm (PZ (add_lt_of_lt_sub (by rw[RL g] at p; exact p)))) (λg=>Pq (by rw[Sy g,Vw] at p; exact p) (Wk _))
theorem AR:a<=b+c->¬a=b+c->a<=b+c-1:=λp q=>Qy (PT p q)
theorem uq:1<=b->a+b-1<a+b:=λp=>sl p
theorem Az:a<b+(c+1)->¬a=b+c->a<b+c:=λp q=>PT (PZ p) q
theorem Ga:a<=c/\c<b->a<=a+b-1-c:=λp=>Rm (Qy (Qi p.2 _))
theorem JV:a<=c/\c<b->a+b-1-c<b:=λp=>O5 (SL p.1 _) (by rw[US,Qo]; exact UD (O5 (Qn _) p.2) one_pos)
theorem Ky:d<=a->c<=f->b<d\/f<=b->¬(a<=b/\b<c):=λp q r=>λe=>r.elim (λg=>Rf (If p e.1) g) (λg=>Rf (If q g) e.2)
theorem Km:a+d<=c->b<=d->a+b<=c:=λp q=>adE q p
theorem GB:c<a+b->a<=a+(a+b)-1-c:=λp=>Rm (Qy (Qi p _))
theorem El:d<=c->a+(a+b)-1-c<=a+(a+b)-1-d:=λp=>SL p _
theorem Hz:1<=b->a<=c->a+(a+b)-1-c<a+b:=λp q=>O5 (SL q _) (by rw[US,Qo]; exact sl p)
theorem G3:max a b<=b->max a b=b:=λp=>Qt p (Ti _ _)
theorem AS:c+1-(0+1)<=b->b<c+1->a+b=a+(c+1)-1:=λp q=>R2 (_ + ·) (Qt (PZ q) p)
theorem oZ:a+d<=e->b<d->c=e->a+b<c:=λp q r=>lte (adl q p) r
theorem zp:a+d<=e->b<d->c=e->a+b-1<c:=λp q r=>lte (pX (adl q p)) r
theorem AB:a+d<=e->b<d->c=e->a+b<=c:=λp q r=>PB (lte (adl q p) r)
theorem Au:c+1<=b->a<=a+b-(c+1):=λp=>Rm (Pg p _)
theorem zj:d+a-(b+1)<=c->a-(b+1)<=c-d:=λp=>S0 (Nat.le_of_add_le_add_left (If (Nat.le_add_of_sub_le p) (If (Ro (Sz.mp (PH _)) _) (PL (QF _ _ _)))))
theorem AJ:d+1<=c->a<b+c->a-b<c:=λp q=>(Zf a b).elim (λg=>O5 (PL (SU (PB g))) (O6 (TV _) p)) (λg=>Rl g q)
theorem zh:c+1<=d->a+d-(c+1)<=b->a+(b-a)=b:=λp q=>PQ (If (Rm (Pg p _)) q)
theorem Ir:¬b<a->¬a<b->a=b:=λp q=>Qt (PP p) (PP q)
theorem GQ:a+(b+1)-1=a+b:=by rfl
theorem KP:a+1-(b+1+1)<=c->a-(b+1)<=c:=λp=>W0 _ _▸p
theorem Hk:a<b+1->¬a=b->a<b:=λp q=>PT (PZ p) q
theorem ES:max (a+1) b<=b->max (a+1) b=b:=λp=>Qt p (Ti _ _)
theorem z2:a+d<=e->b<=d->c=e->a+b<=c:=λp q r=>lee (adE q p) r
theorem s7:a+b<=d->c=d->a+b<=c:=λp q=>lee p q
theorem Ex:b+1<=a->1<=a:=λp=>If (QH _ _) p
theorem AH:c<=a->a<=b->b<c+1->a=b:=λp q r=>Qt q (If (PZ r) p)
theorem Ef:max 1 a<=a->max 1 a=a:=λp=>Qt p (Ti _ _)
theorem zl:a<=b->a≠b->a<b:=λp q=>PT p q
theorem Gn:1<=c->a+c<=b->a<b:=λp q=>O6 (Ri (Ul p)) q
theorem FA:1<=b->b<=d->a+d<=c->a+b-1<c:=λp q r=>O6 (sl p) (If (Pg q _) r)
theorem I8:a<b+c->a<=b+c-1:=λp=>Qy p
theorem K0:¬c<b->c<=a->a<=b->a=b:=λp q r=>Qt r (If (PP p) q)
theorem zv:b<=d->a+d<=c->a+b<=c:=λp q=>adE p q
theorem EQ:1<=a->¬a>1->a=1:=λp q=>Qt (PP q) p
theorem Js:a<b->a<=(a+b)/2/\(a+b)/2<b:=λp=>Rn ((Nat.le_div_iff_mul_le (by decide)).mpr (by rw[mul_two]; exact Pg (PB p) _)) ((Nat.div_lt_iff_lt_mul (by decide)).mpr (by rw[mul_two]; exact SZ p _))
theorem KA:a<b->min a b=a:=λp=>RL (PB p)
theorem IU:c<0->a<=b:=λp=>Pq p (Wk _)
theorem J5:c<=d->d<c->a<b:=λp q=>Pq q (Rf p)
theorem HS{a b c d e f g:Pa}:a+d<=e->f<d->g<=f->c=e->b<g->a+b<c:=λp q r s t=>s▸O6 (Qi (Tw (O6 t r) q) a) p
theorem D9:c<=b->a<c->a<=b:=λp q=>If (PB q) p
theorem KL:e-b<=c-d->a<e->a-b<=c-(d+1):=λp q=>If (Q9 (Qy q) _) (If (PL (US _ 1 _)) (Q9 p 1))
theorem Ix:a-e<=c-d->e<=b->a-(b+1)<=c-(d+1):=λp q=>Q9 (If (SL q _) p) 1
theorem JP:b<c+1->a+b<=a+c:=λp=>Pg (PZ p) _
theorem Gb:d<=c->b<d->a+b<a+c:=λp q=>Qi (O6 q p) _
theorem Jc:a-c<=d-max 0 d->c<=b->a<=b:=λp q=>If (R3 (TY (If p (PL (SU (Ti 0 _)))))) q
theorem D7:c<f->a<b\/b+f<=a->¬a=b+c-(b+c-(b+d)):=λp q=>λe=>q.elim (λg=>Rf vlo (e▸g)) (λg=>Rf (If g (If (PL e) (UR _ _))) (Qi p _))
theorem J4:b<f->d<a\/a+f<=d->¬(a+b-(a+b-(a+c))<d/\d<=a+b):=λp q=>λe=>q.elim (λg=>Rf vlo (Tw e.1 g)) (λg=>Rf (If g e.2) (Qi p _))
theorem KU:a<b->min (a+1) b=a+1:=λp=>RL (QS p)
theorem JF:c<=b->a+b-(a+b-(a+c))=a+c:=λp=>Nat.sub_sub_self (Pg p _)
theorem IQ:e<=c->c<a+(d+1)->e=a+b->¬c=a+b->a+b<c/\c<=a+d:=λp q r s=>Rn (PT (r▸p) (QA s)) (PZ q)
theorem J6:d<=b->d=c+a->¬b=c+a->a<=b-1-c:=λp q r=>Rm (Qy (SY _ _▸PT (q▸p) (QA r)))
theorem ER:d<=a->a<b+(c+1)->d=b+e->¬a=b+e->a-1-b<c:=λp q r s=>Rl (Qy (O5 (PD _ _) (PT (r▸p) (QA s)))) (pl (O5 (Qn _) (PT (r▸p) (QA s))) q)
theorem GI:c<=b->c=a+d->¬b=a+d->a+(b-1-a)=b-1:=λp q r=>PQ (Qy (O5 (PD _ _) (PT (q▸p) (QA r))))
theorem Fr:c<=f->f=a+b->¬(a+b<c/\c<=a+d):=λp q=>λe=>Rf (q▸p) e.1
theorem GR:b<=a->a<=d->¬a=b+c->d=b+c->a-b<c:=λp q r s=>Rl p (PT (s▸q) r)
theorem k9:a<=b->a+(b-a)=b:=λp=>UH p
theorem HG:c<=e->e<a+(d+1)->a+b<c->a+b<c/\c<=a+d:=λp q r=>Rn r (PZ (O5 p q))
theorem IF:e<=c->c<a+(d+1)->a+b<e->a+b<c/\c<=a+d:=λp q r=>Rn (O6 r p) (PZ q)
theorem Ik:a+c<b->a<=b-1:=λp=>nxe (Qy p)
theorem HL:a<=b->a-1<=b-1:=λp=>Q9 p _
theorem FK:d<=a->a<b+(c+1)->b+e<d->a-1<b+c:=λp q r=>pl (O5 (Qn _) (O6 r p)) q
theorem zW:¬a+b<c->¬(a+b<c/\c<=a+d):=λp=>λe=>p e.1
theorem Kf:c<a+(d+1)->a+b<c->a+b<c/\c<=a+d:=λp q=>Rn q (PZ p)
theorem Ft:¬c+d<a->c+d<b->a<=b-1:=λp q=>If (PP p) (Qy q)
theorem GD:a<b+(c+1)->b+d<a->a-1<b+c:=λp q=>pl (O5 (Qn _) q) p
theorem K7:d<=c->¬a=b+d->¬b+d<a->a<b+c:=λp q r=>O6 (PT (PP r) q) (Pg p _)
theorem Eg:min (max (max a 1) b) b=b:=Sy (Ti _ _)
theorem I9:c<=a->a<=b->b<c+min (max d 1) e->d=0->a=b:=λp q r s=>Qt q (If (PZ (O6 r (Pg (If (QG (max d 1) e) (by rw[s]; decide:max d 1<=1)) _))) p)
theorem F4:a<b+min (max c 1) d->¬c=0->a<b+c:=λp q=>O6 p (Pg (If (QG _ _) (Jaa.mpr ⟨PH _,TM q⟩)) _)
theorem JA{a b c:O3}:a<c->c<b->¬a=b:=λp q=>Zg (QP p (QW q))
theorem Hy{a b c:O3}:a<c->c<b->a<b:=λp q=>QP p (QW q)
theorem Fl{a:Prop}{b c:O3}:¬b=c->¬b<c->¬c<b->a:=λp q r=>Pq (SK (RF.mp r) (RF.mp q)) p
theorem Kb:a<=b->a<=b+c:=λp=>If p (PD _ _)
theorem zB:a<=b->a<b+1:=λp=>RJ p
theorem Ho:a<b->a<b+c:=λp=>O6 p (PD _ _)
theorem FG:a<b->b<a->False:=λp q=>Pq q (Rf (PB p))
theorem HP{a:Prop}{b:Pa}:1<=b->0=b->a:=λp q=>Pq (lee p q) (by decide)
theorem HN:2<=a->a=a-1+1:=λp=>(S4 (Tv p)).symm
theorem K3:b=a->0+(a-0)<=b:=λp=>by rw[QK]; exact PL p.symm
theorem Jn:b=a->0+a<=b:=λp=>by rw[p,QK]; exact PH _
theorem FT:a=b->a<=b:=λp=>PL p
theorem JN{a b:O3}:0<=a->(a.toNat<b.toNat↔a<b):=λp=>by rw[Int.lt_toNat,Qw p]
theorem Fs{a:O3}:¬0<=a->a<0:=λp=>WK.mp p
theorem JJ{a:O3}{b:Pa}:b<=2^22->a<b->a<(2:O3)^(63:Pa):=λp q=>QP q (PO (QN.mpr p) (by decide))
theorem H4{a:O3}{b:Pa}:b<=2^22->-b<=a->-(2:O3)^(63:Pa)<=a:=λp q=>PO (PO (by decide) (Yl (QN.mpr p))) q
theorem AN{a:O3}:0<=a->¬a<0:=λp=>RF.mpr p
theorem JO{a:O3}:-(2:O3)^(22:Pa)<=a/\a<(2:O3)^(22:Pa)->-(2:O3)^(63:Pa)<=a:=λp=>PO (by decide) p.1
theorem JI{a:O3}:-(2:O3)^(22:Pa)<=a/\a<(2:O3)^(22:Pa)->a<(2:O3)^(63:Pa):=λp=>VM p.2 (by decide)
theorem Aa:b<=2^22->a=b->a<=2^24:=λp q=>If (ele q p) (by decide)
theorem Go{a:Pa}{b:O3}:a<=2^22->a-b.toNat<=(2:Pa)^(22:Pa):=λp=>Dv p
theorem pi:b=c->a<c->a<b:=λp q=>lte q p
theorem HU:a=c->¬b<c->min a a<=b:=λp q=>mne (ele p (PP q))
theorem A4:¬c<a->min a b<=c:=λp=>mnl (PP p)
theorem JE:a<64->a<=16777216+1:=λp=>If (PB p) (by decide)
theorem A3:a<64->a<=16777216:=λp=>If (PB p) (by decide)
theorem GJ:a<2->a<=1:=λp=>PZ p
theorem Ij:¬a<2->1<=a:=λp=>If (QH _ _) (PP p)
theorem FY:b=a->¬b<2->¬a<2:=λp q=>Rf (If (PP q) (PL p))
theorem zr:¬a<2->2<=a:=λp=>PP p
theorem zz:b<=a->¬a<b:=λp=>Rf p
theorem Ko:a<=1000000->a<=16777216:=λp=>If p (by decide)
theorem zI:a<=1000000->a<=2^22:=λp=>If p (by decide)
theorem IB:a=b->a=b:=by intro p; omega
theorem Aw:b<64->a=b->a<=16777216:=λp q=>If (PB (elt q p)) (by decide)
theorem Gm:a+200<b->a+1+1<b:=λp=>O5 (Pg (by decide:2<=200) a) p
theorem Av:b<64->a=b->a<64:=λp q=>elt q p
theorem zS:a<64->a<=2^22:=λp=>If (PB p) (by decide)
theorem Jg{a b:Pa}:a=b->b<=2^22->(↑a:O3)<(2:O3)^(63:Pa):=λp q=>Q5 (QN.mpr (ele p q)) (by decide)
theorem Jq{a b:Pa}:a=b->b<=2^22->¬(↑a:O3)≥(2:O3)^(63:Pa):=λp q=>λg=>Pq (PO g (QN.mpr (If (PL p) q))) (by decide)
theorem KT{a b:Pa}{c:Prop}:a=b->b<=2^22/\c->a<=2^24:=λp q=>If (ele p q.1) (by decide)
theorem o4:a<128->a<=16777216:=λp=>If (PB p) (by decide)
theorem Fv:2<=a->¬a<2:=λp=>Rf p
theorem E2:2<=a->2<=a:=by intro p; omega
theorem AF:a<128->a<=16777216+1:=λp=>If (PB p) (by decide)
theorem tp:b<128->a=b->a<=16777216:=λp q=>If (PB (elt q p)) (by decide)
theorem Ed:¬b<64->a=b->2<=a:=λp q=>If (QH _ _) (lee (PP p) q)
theorem zE:b<128->a=b->a<128:=λp q=>elt q p
theorem zR:a<128->a<=2^22:=λp=>If (PB p) (by decide)
theorem J0:a+100*c+200<b->a+200<b:=λp=>O5 (Ro (PD _ _) 200) p
theorem K6:a+100*c+300<b->a+200<b:=λp=>O5 (R8 (PD _ _) (by decide)) p
theorem z4:a+200<d->b+1<=64->a+1+min b c<d:=λp q=>O5 (If (PL (QF _ 1 _)) (Pg (If (Pg (QG _ _) 1) (If (PL (SY 1 _)) (If q (by decide)))) _)) p
theorem zF:a+200<b->a+1<b:=λp=>O5 (Qs (PD _ _)) p
theorem AD:a+200<d->b<=64->a+min b c<d:=λp q=>O5 (Pg (If (QG _ _) (If q (by decide))) _) p
theorem AY{a b:Pa}{c:Prop}{d:Pa}:b<1000/\c->a=d->d=b->a<=2^24:=λp q r=>If (PB (elt q (elt r p.1))) (by decide)
theorem A1{a b:Pa}{c:Prop}{d:Pa}:b<1000/\c->d=b->a=d->a<=2^22:=λp q r=>If (PB (elt r (elt q p.1))) (by decide)
theorem Jk{a b:O3}:-(2:O3)^(60:Pa)<=a/\a<(2:O3)^(60:Pa)/\-(2:O3)^(60:Pa)<=b/\b<(2:O3)^(60:Pa)->-(2:O3)^(62:Pa)<=a:=λp=>PO (by decide) p.1
theorem Gw{a b:O3}:-(2:O3)^(60:Pa)<=a/\a<(2:O3)^(60:Pa)/\-(2:O3)^(60:Pa)<=b/\b<(2:O3)^(60:Pa)->a<(2:O3)^(62:Pa):=λp=>VM p.2.1 (by decide)
theorem IR{a b:O3}:-(2:O3)^(60:Pa)<=b/\b<(2:O3)^(60:Pa)/\-(2:O3)^(60:Pa)<=a/\a<(2:O3)^(60:Pa)->-(2:O3)^(62:Pa)<=a:=λp=>PO (by decide) p.2.2.1
theorem IM{a b:O3}:-(2:O3)^(60:Pa)<=b/\b<(2:O3)^(60:Pa)/\-(2:O3)^(60:Pa)<=a/\a<(2:O3)^(60:Pa)->a<(2:O3)^(62:Pa):=λp=>VM p.2.2.2 (by decide)
theorem Gs{a b:O3}:(a-b).toNat<=(1000000:Pa)->(a-b).toNat<=(2:Pa)^(22:Pa):=λp=>If p (by decide)
theorem uh:b<a->a+1-(b+1)<a+1-b:=λp=>Nat.sub_lt_sub_left (Tx p) (Ue _)
theorem Gh{a b:Pa}{c:Prop}{d:Pa}:b<=2^22/\c->a<=d->d<b->a<=2^24:=λp q r=>If q (If (If (PB r) p.1) (by decide))
theorem AI:a<=b->¬a<b->a=b:=λp q=>Qt p (PP q)
theorem FL:a<=0->a=0:=λp=>TY p
theorem zL:a<=b+1->¬a=b+1->a<=b:=λp q=>PZ (PT p q)
theorem Fh{a b c:O3}:b>c->a<=c->a<=b:=λp q=>PO q (QW p)
theorem JG{a b:O3}:¬a>b->a<=b:=λp=>RF.mp p
theorem K4:0<b->a<=b-1->a<b:=λp q=>O5 q (UD p (by decide))
theorem sG:a<b->a<=b-1:=λp=>Qy p
theorem Aj{a:Pa}:¬(↑a:O3)<(0:O3):=RF.mpr (PW _)
theorem mj:¬b<a->a<=b:=λp=>PP p
theorem KX:a<20->a<30:=λp=>O6 p (by decide)
theorem Hq:-(2:O3)^(62:Pa)<=(0:O3):=by decide
theorem Ez:(0:O3)<(2:O3)^(62:Pa):=by decide
theorem tR{a:Pa}{b:Prop}:a<=2^22/\b->a<=2^24:=λp=>If p.1 (by decide)
theorem FR{a:O3}{b:Prop}{c:Pa}{d:Prop}:¬(b\/a<0\/c<a)->c<=2^22/\d->(-9223372036854775808:O3)<=a/\a<9223372036854775808:=λp q=>Rn (PO (by decide) (RF.mp λg=>p (.inr (.inl g)))) (Q5 (RF.mp λg=>p (.inr (.inr g))) (Q5 (QN.mpr q.1) (by decide)))
theorem Gr{a:O3}{b:Prop}{c:Pa}:¬(b\/a<0\/c<a)->¬a<0:=λp=>λg=>p (.inr (.inl g))
theorem G8{a:O3}{b:Pa}{c:Prop}:¬(c\/a<0\/b<a)->min a.toNat b=a.toNat:=λp=>RL (W1.mpr (RF.mp λg=>p (.inr (.inr g))))
theorem Hb{a:O3}{b:Pa}{c:Prop}{d:Pa}:¬(c\/a<0\/d<=a)->b=d->a.toNat<b:=λp q=>q▸(Zd (RF.mp λg=>p (.inr (.inl g)))).mpr (WK.mp λg=>p (.inr (.inr g)))
theorem Ge{a:O3}{b:Prop}{c:Pa}{d:Prop}:¬(b\/a<0\/c<=a)->c<=2^22/\d->(-9223372036854775808:O3)<=a/\a<9223372036854775808:=λp q=>Rn (PO (by decide) (RF.mp λg=>p (.inr (.inl g)))) (VM (WK.mp λg=>p (.inr (.inr g))) (Q5 (QN.mpr q.1) (by decide)))
theorem Aq:a<=1000000->a<=2^24:=λp=>If p (by decide)
theorem Ej:1<=16777216:=by decide
theorem Fx:a+2*b+5<c->a+1+2*b+4<c:=λp=>by rw[QO _ 1]; exact p
theorem K2:a+100*b+303<c->a+3+100*b+300<c:=λp=>by rw[QO _ 3]; exact p
theorem JH:a+2*(c+1)+4<b/\d+100*(c+1)+300<e->a<b:=λp=>nxl (nxl p.1)
theorem Fw:a+100*b+303<=a+100*(b+1)+300:=by lia
theorem Kt:a<=8->a<=16777216:=λp=>If p (by decide)
theorem KO:a<=1->1+3*a<=50:=λp=>If (Pg (Tt 3 p) 1) (by decide)
theorem EZ:b<=50->a+b<=a+50:=λp=>Pg p _
theorem HA:a+2*(c+1)+4<b->a+1<b:=λp=>O5 (R8 (PD _ _) (by decide)) p
theorem GZ:a+2*(b+1)+4<c->a+1+2*b+5<c:=λp=>by rw[QO _ 1]; exact p
theorem FV:a<=c+50->a+100*b+303<=c+100*(b+1)+300:=by intros; lia
theorem Em:1<=a+1+0/\a+1+0<=a+1/\a+1<=2*(a+1+0):=Rn (TV _) (Rn (PH _) (RG _ (by decide)))
theorem EM{a:Pa}:2<=a+1->a=a-1+1:=λp=>(S4 (Nat.le_of_succ_le_succ p)).symm
theorem Il:a+1+1<128->(a+1+1)/2<64:=λp=>Nat.div_lt_of_lt_mul p
theorem Fp{a:Pa}:1<=(a+1+1)/2+max 0 ((a+1+1)%2)/\(a+1+1)/2+max 0 ((a+1+1)%2)<=a+1+1/\a+1+1<=2*((a+1+1)/2+max 0 ((a+1+1)%2)):=by
 rw[W3,show a+1+1=a+2 from rfl,Nat.add_div_right a (by decide),Nat.add_mod_right]
 exact ⟨If (QH 1 _) (PD _ _),If (PL (QO _ 1 _)) (QT (Qs (If (Ro (RG _ (by decide)) _) (PL (X1 a 2))))),If (Qs (Qs (PL (X1 a 2).symm))) (If (PL (QO _ (a%2) 2)) (If (Pg (RG (a%2) (by decide:0<2)) (2*(a/2)+2)) (PL (by rw[ZH,ZH]))))⟩
theorem Ju:c=a->0+min (a-0) b<=c:=λp=>by rw[QK,p]; exact QG _ _
theorem EH:c<=b->a<c->a<=min (b-0) c:=λp q=>le_min.mpr ⟨If (PB q) p,PB q⟩
theorem EL:b<=a->min (a-0) b=b:=λp=>Sy p
theorem HZ:a<=b->a≥b->a=b:=λp q=>Qt p q
theorem La:¬a≥b->c=b->a+(b-a)<=c:=λp q=>PL ((PQ (PB (Sx p))).trans q.symm)
theorem Hl:¬b≥a->1<=a-b:=λp=>QS (RK (Sx p))
theorem F0:1<=b->b<=a->1<=a:=λp q=>If p q
theorem KB:c=b->1<=d->d<=b-a->a+(b-a)=c:=λp q r=>(PQ (PB (Um (O6 q r)))).trans p.symm
theorem Ek:a<=c->c<0+b->a<b:=λp q=>O5 p (QK b▸q)
theorem uF:a<0+b->a<b:=λp=>QK b▸p
theorem G9:d=b->1<=e->e<=b-a->a+min (b-a) c<=d:=λp q r=>If (Pg (QG _ _) _) (PL ((PQ (PB (Um (O6 q r)))).trans p.symm))
theorem JW:b<=2*d->d<=c->a<=b-c->a<=min (b-c) d:=λp q r=>le_min.mpr ⟨r,If r (S0 (If p (two_mul d▸Pg q _)))⟩
theorem HY:a<=2*c->c<=b->min (a-b) c=a-b:=λp q=>RL (S0 (If p (two_mul c▸Pg q _)))
theorem HC:b<=2*d->d<=c->a<=b-c->¬a<d->a=b-c:=λp q r s=>Qt r (If (S0 (If p (two_mul d▸Pg q _))) (PP s))
theorem KJ{a b c:Prop}{d:Pa}:2<=d->max 0 d=0->a/\(b\/c):=λp q=>by rw[W3] at q; rw[q] at p; exact Pq p (by decide)
theorem Kv:2<=b->max 0 b=1\/a=b->a=b:=by intros; lia
theorem Iq:a=2->¬a<=1:=λp=>TZ (lte (Ue _) p)
theorem KW:d=e->a+b=d->c=e->a+b=c:=λp q r=>Ym q (Ym p (Uk r))
theorem GO{a:Pa}{b:Prop}:2<=a->max 0 a=0/\b->False:=by intro p q; lia
theorem HI:a+b<=1000000->a+b<=2^22:=λp=>If p (by decide)
theorem F8:a+b<=1000000->a+b<=2^24:=λp=>If p (by decide)
theorem Ku{a:Pa}{b:O3}:¬(b=0\/(1000000000:Pa)<=a)->a<1073741824:=λp=>Tw (Sx λg=>p (.inr g)) (by decide)
theorem JU{a:O3}{b:Pa}:(0:O3)<=a/\a<=(1000:O3)/\b<(2:Pa)^(63:Pa)->a<=1000000:=λp=>PO p.2.1 (by decide)
theorem HD{a:Pa}{b:O3}:(0:O3)<=b/\b<=(1000:O3)/\a<(2:Pa)^(63:Pa)->a<2^64:=λp=>Tw p.2.2 (by decide)
theorem EN:a<=60->1+300+2*a+4<1000:=λp=>O5 (Ro (Pg (Tt 2 p) _) 4) (by decide)
theorem Io:a<=60->4+100*a+300<9900:=λp=>O5 (Ro (Pg (Tt 100 p) _) 300) (by decide)
theorem JQ:a<=50->a+1<=60:=λp=>If (Qs p) (by decide)
theorem zD:b<=1000->a<=b->a<1000000:=λp q=>O5 q (O5 p (by decide))
theorem J1{a:O3}{b:Pa}:0<=a/\a<b->a.toNat<b:=λp=>tln p.1 p.2
theorem I7{a:Pa}:(0:O3)<=(↑a:O3)/\(↑a:O3)<(↑a:O3)->False:=λp=>Pq p.2 (RF.mpr (QW p.2))
theorem Fi:a<=b+(a-b):=Sz.mp (PH _)
theorem Am:¬b<=a->a<=b:=λp=>PB (Sx p)
theorem sN:b<min d (c-a)->a+b<c:=λp=>RS (O6 p (XB _ _))
theorem K8:a<min b (c-d)->a<b:=λp=>O6 p (QG _ _)
theorem ph:b<c-a->a+b<c:=λp=>RS p
theorem Gf:b<=d->a+d<c->a+b<c:=λp q=>O5 (Pg p _) q
theorem FE:b<=a->d+a<c->a-b<c-(d+b):=λp q=>Tj (elt (by rw[Nat.add_left_comm,S4 p]) q)
theorem E0:c<=b->a+b=a+c+(b-c):=λp=>by rw[QF,PQ p]
theorem z7:a<=c->c<b->a<b:=λp q=>O5 p q
theorem zJ:a<=c->c<=b->a<=b:=λp q=>If p q
theorem IE:a+1=b->a<b:=λp=>Ul (PL p)
theorem GA:b+1=a->a<=b+1:=λp=>PL (Uk p)
theorem Lg:a+1=c->c=b->a=b-1:=λp q=>by subst q; subst p; rfl
theorem AE:a<b->a+1≠b->a+1<b:=λp q=>PT (QS p) q
theorem EJ:a<=b+c->a+1<=b+(c+1):=λp=>Qs p
theorem zK:a<=b+c->a+1<=b+1+c:=λp=>If (Qs p) (PL (QO b c 1))
theorem Fz:a+1<b->a+1+1≠b->a+1+1<b:=λp q=>PT (QS p) q
theorem Gg:a+1<b->a+1+(b-(a+1))<=b:=λp=>PL (UH (PB p))
theorem Jh:b+1<a->0<a-(b+1):=λp=>RK p
theorem GK:a+1+b+c<d->a+1+(b+c)<d:=λp=>elt (QF _ _ _).symm p
theorem uG:a<=a+b:=PD _ _
theorem KZ:d+1+a+b<e->e=c->a+b<c-(d+1):=λp q=>Tj (q▸elt (by rw[SY,<- QF]) p)
theorem IX:b<=c-(a+1)->b>0->a+1+b≠c->a+1+b<c:=λp q r=>PT (V9 (PB (Um (O6 q p))) p) r
theorem KY:a<=b+c->a<=b+(c+1+d):=λp=>If p (Pg (nxe (PD _ _)) _)
theorem IG:a<=b+c->a<=b+(c+1):=λp=>If p (Pg (PD _ _) _)
theorem E3:a+1<b->a+(b-a)<=b:=λp=>PL (PQ (PB (T0 p)))
theorem FO:b+1<a->0<a-b:=λp=>RK (nxl p)
theorem Fb:a+b+c<d->a+(b+c)<d:=λp=>elt (QF _ _ _).symm p
theorem Jt:d+a+b<e->e=c->a+b<c-d:=λp q=>Tj (q▸elt (by rw[SY,<- QF]) p)
theorem GX:b<=c-a->b>0->a+b+1≠c->a+b≠c->a+b+1<c:=λp q r s=>PT (PT (V9 (PB (Um (O6 q p))) p) s) r
theorem H9:a<=b+d->a<=b+c+d:=λp=>If p (R8 (PD _ _) (PH _))
theorem Lf:a+b<=c+1->d+1<a->e<b->c<=d+e->False:=λp q r s=>Uf _ (O6 (Nat.add_lt_add q r) (If p (If (Qs s) (PL (QO d e 1)))))
theorem KD:a+b<=c+1+(a+b)+1:=QT (QH _ _)
theorem zC:a+2<=a+1+b+1:=Qs (PD _ _)
theorem Kg:a+b<=c+2+(a+b)+1:=QT (QH _ _)
theorem zT:a+2<=a+2+b+1:=QT (PD _ _)
theorem sJ:1<=a->a-1<a:=λp=>UD (Ul p) (by decide)
theorem Lq:a+b<=1+(a+b)+1:=QT (QH _ _)
theorem FQ:a+b<=a+b+1+1:=QT (PD _ _)
theorem E9:a<=a+1:=PD _ _
theorem AC:a+1-a=1:=Qo _ _
theorem E8:a<min c b->a<b:=λp=>O6 p (Ze _ _)
theorem HW:a<min b c->a<b:=λp=>O6 p (QG _ _)
theorem KR:a<=f->f+b+c<=d+e->a+b+c<=d+e:=λp q=>If (Ro (Ro p _) _) q
theorem EI:a+b<=c->1<d->c+e+d<=a+b->False:=λp q r=>Uf c (O6 (O5 (PD c e) (Ri (Tw one_pos q))) (If r p))
theorem tG:a≠0->0<a:=λp=>TM p
theorem J2:0<a->a≠1->1<a:=λp q=>PT p (QA q)
theorem sK:0<a->a<=b->a-1<b:=λp q=>O6 (UD p (by decide)) q
theorem tA:1<a->a<=b->a-1<b:=λp q=>O6 (UD (O5 (Qn _) p) (by decide)) q
theorem pd:a-1<b->a-1<=b:=λp=>PB p
theorem A5:0<b->a+b+c<=d+e->a+1+(b-1)+c<=d+e:=λp q=>by rw[QF a 1,PQ p]; exact q
theorem o0:1<a->0<a:=λp=>O5 (Qn _) p
theorem EX:1<a->0<a-1:=λp=>Tj p
theorem FX:1<c->a+b+c<=d+e->a+1+b+(c-1)<=d+e:=λp q=>by rw[QO a 1 b,QF (a+b) 1,PQ (PB p)]; exact q
theorem Gy:a-1≠0->0<a-1:=λp=>TM p
theorem Fu:1<a->a-1≠1->1<a-1:=λp q=>PT (Qy p) (QA q)
theorem JR:a-1<b->0+(a-1)<=b:=λp=>by rw[QK]; exact PB p
theorem H8:1<a-1->a-1-1<a-1:=λp=>UD (O5 (Qn _) p) (by decide)
theorem Eu:a+b+c<=d+e->a+b+(c-1)<=d+e:=λp=>adE (UR _ _) p
theorem GU:b<c-1-a->a+b<c-1:=λp=>RS p
theorem Kl:a≠1->a≠0->1<a:=λp q=>PT (TM q) (QA p)
theorem FU:c-1<b->a<=c-1->a<=b:=λp q=>If q (PB p)
theorem Le:a+b+f<=d+e->f-1-c>0->a+b+c<=d+e:=λp q=>If (Pg (If (PB (Um q)) (UR _ _)) _) p
theorem Ev:a<=b-1->¬b-1-a>0->a=b-1:=λp q=>Qt p (R3 (SA q))
theorem Kj:a<=b->0+a<=b:=λp=>by rw[QK]; exact p
theorem AV:0<a->a-1<a:=λp=>UD p (by decide)
theorem IC:c<=b->a<=c->a<=b:=λp q=>If q p
theorem Fm:a+f+c<=d+e->b<=f->a+b+c<=d+e:=λp q=>If (R8 (Pg q _) (PH _)) p
theorem FM:a<=b->¬b-a>0->a=b:=λp q=>Qt p (R3 (SA q))
theorem Lo:a+b<=c+1+(a+b):=QH _ _
theorem K1:a+b<=c+2+(a+b):=QH _ _
theorem KQ:a+b<=1+(a+b):=QH _ _
theorem G0:a+b<=a+b+1:=PD _ _
theorem Fc:a+b+(d+1)<=c->a+b<c:=λp=>O6 (Ri (TV _)) p
theorem Is:a+b+(c+1)<=d->a+(b+1)+c<=d:=λp=>ele (by rw[<- QF,<- QF,QO]) p
theorem HB:a+(b+1)-(a+b)=1:=by rw[<- QF,Qo]
theorem Ep:min (a+b) c<=a+(b+1):=mnl (Pg (PD _ _) _)
theorem Jy:min (a+b) c<=a+(b+1)+d:=mnl (If (Pg (U9 _) _) (PD _ _))
theorem Jm:a+(b+1)+c-(a+b)=c+1:=by rw[<- QF,QF (a+b) 1,Qo,SY]
theorem E7:a+b+1+c=a+b+(c+1):=QO _ _ _
theorem Fd:b<min c (d-a)->a+b<a+c:=λp=>Qi (O6 p (QG _ _)) _
theorem z8:a<b->a<0+b:=λp=>O6 p (QH _ _)
theorem Jf:b+c=d->a<0+d->a<b+c:=λp q=>by rw[p]; rw[QK] at q; exact q
theorem Ha:0+a<=a:=by lia
theorem Hu:a+c=b->1<=c->a<b:=λp q=>O6 (Ri (Ul q)) (PL p)
theorem Ki:a+c=b->0+a<=b:=λp=>by subst p; rw[QK]; exact PD _ _
theorem GC:a<=b->b-a=0->a=b:=λp q=>Qt p (R3 q)
theorem th:b+c=d->a<d->a<b+c:=λp q=>lte q p
theorem Lj:b-a≠0->a<b:=λp=>Nat.lt_of_sub_ne_zero p
theorem E6:b<c->a<b->0+a+(b-a)-1<c:=λp q=>O5 (UR _ _) (by rw[QK,PQ (PB q)]; exact p)
theorem GY:a<b->0+a+(b-a)-1=b-1:=λp=>by rw[QK,PQ (PB p)]
theorem JD:a+b=c->a+b<=c:=λp=>PL p
theorem zU:1<=a->a-1<0+a:=λp=>O6 (UD (Ul p) (by decide)) (QH _ _)
theorem As:b+c=d->1<=c->a<d->a-b<c:=λp q r=>by subst p; exact (Zf a b).elim (λg=>by rw[SU (PB g)]; exact q) (λg=>Rl g r)
theorem Iu:a+d=b->min a b-c=a-c:=λp=>by subst p; rw[RL (PD _ _)]
theorem Hf:a+d=c->b<=d->min (a+b) c-a=b:=λp q=>by subst p; rw[RL (Pg q _),Qo]
theorem KN:1<=b->0+c+(b-c)-1=b-1->a<c+(b-c)->a<0+b:=λp q r=>by rw[QK]; exact O6 r (PL (PQ (wle p q)))
theorem HT:b+d=c->a<b->a+(b-a)<=c:=λp q=>by subst p; rw[PQ (PB q)]; exact PD _ _
theorem Je:d<=c->a<b+d->a<b+c:=λp q=>O6 q (Pg p _)
theorem Iz:a+d=c->b<=d->a+b<=c:=λp q=>adE q (PL p)
theorem zt:0<b->a=b->0<a:=λp q=>lte p q
theorem zH:b<c->a=c-b->a-1<a:=λp q=>UD (lte (RK p) q) (by decide)
theorem J3:d+e=c->1<=d->1<=e->0+a+(d-a)-1=d-1->b=d-a->a+(b-1)<c:=λp q r s t=>by subst p; subst t; exact O5 (Pg (UR _ 1) _) (elt (PQ (wle q s)) (Ri r))
theorem ID:a<c->b=c-a->a+(b-1)=c-1:=λp q=>by subst q; rw[<- Nat.add_sub_assoc (RK p),PQ (PB p)]
theorem Hx:1<=b->0+c+(b-c)-1=b-1->a<c+(b-c)->a<b:=λp q r=>O6 r (PL (PQ (wle p q)))
theorem Ec:b<=a->a<b+c->a-b<c:=λp q=>Rl p q
theorem Eh:b+e=d->1<=b->0+a+(b-a)-1=b-1->c<=e->a+0+(b-a+c)<=d:=λp q r s=>by subst p; rw[Wi,<- QF,PQ (wle q r)]; exact Pg s _
theorem A8:1<=b->0+a+(b-a)-1=b-1->a+(b-a+c)=b+c:=λp q=>by rw[<- QF,PQ (wle p q)]
theorem I0:1<=b->0+a+(b-a)-1=b-1->a+(b-a)=b:=λp q=>PQ (wle p q)
theorem Ks:1<=b->0+d+(b-d)-1=b-1->a<d+(b-d)->a<b+c:=λp q r=>O6 r (If (PL (PQ (wle p q))) (PD _ _))
theorem JM:a<c->c<=b->a<=b:=λp q=>If (PB p) q
theorem Lb:c+a<=b->a<=b-c:=λp=>Rm (ele (SY _ _) p)
theorem KV:a+c<=b->a+(b-a)=b:=λp=>UH (nxe p)
theorem Ew:a<c+d->c+d<=b->a<=b:=λp q=>If (PB p) q
theorem Lc:c<b->a<0+c->a<0+b:=λp q=>O6 q (PB (Qi p _))
theorem Hg:c+d=b->a<c->0+a<=b:=λp q=>by subst p; rw[QK]; exact If (PB q) (PD _ _)
theorem Id:c+d=b->e<=d->a<c+e->a<b:=λp q r=>O6 r (adE q (PL p))
theorem IT:a+c<=b->a<=b:=λp=>nxe p
theorem Fk:d<=c->a<b+d+(c-d)->a<b+c:=λp q=>by rw[QF,PQ p] at q; exact q
theorem Jw:a+c=d->b<=c->a+b+(c-b)<=d:=λp q=>by subst p; rw[QF,PQ q]; exact PH _
theorem EC:b+d=a->a-(b+c)<=d-c:=λp=>by subst p; exact PL (Wg _ _ _)
theorem Lr:a<c->c+d<=b->a<=b:=λp q=>If (PB p) (nxe q)
theorem I6:b<a->1<=a-b:=λp=>QS (RK p)
theorem A7:0<a->1<=a:=λp=>QS p
theorem EK:¬a-b<=c->1<=a-b:=λp=>If (QH _ _) (QS (Sx p))
theorem IV:a+1+b=a+(b+1):=by lia
theorem Fj:a+(b+1)=a+1+b:=by lia
theorem Im:b=c->a=c->min a b=b:=λp q=>by subst q; subst p; exact W4 _
theorem IK:b=c->a=c->b<128->a<=16777216:=λp q r=>by subst q; exact If (PB (p▸r)) (by decide)
theorem Hj:a=d->¬c<d->min a b<=c:=λp q=>mnl (ele p (PP q))
theorem JZ:b=c->b<128->a=0+d->d<c->a<=16777216:=λp q r s=>by subst r; rw[QK]; exact If (PB s) (If (PB (p▸q)) (by decide))
theorem Kk:b=c->b<128->a=0+d->d<c->a+1<=16777216+1:=λp q r s=>by subst r; rw[QK]; exact Qs (If (PB s) (If (PB (p▸q)) (by decide)))
theorem Fq:a-b=0->a-b=0:=by intro p; omega
theorem Gu:c=0+b->¬a<c->a-c=0->a=b:=λp q r=>by subst p; rw[QK] at q r; exact Qt (R3 r) (PP q)
theorem HV:0+a=a:=by lia
theorem FN:b<2->min a b<=1:=λp=>mne (PZ p)
theorem F3:a=0+b->¬b<2->1<=a:=λp q=>by subst p; rw[QK]; exact If (by decide:1<=2) (PP q)
theorem F6:a=0+b->min a b=b:=λp=>by subst p; rw[QK]; exact W4 _
theorem Ll{a:Pa}:(0:O3)+(↑a:O3)*(1:O3)=(↑a:O3):=by lia
theorem FJ:a<128->a<=2^24:=λp=>If (PB p) (by decide)
theorem E1:b=c->a=c->a=b:=λp q=>Ym q (Uk p)
theorem F5:a=c->¬b<c->a<=b:=λp q=>ele p (PP q)
theorem JC{a b:Pa}{c d:O3}:c=d/\(↑a:O3)=(↑b:O3)->a=b:=by intro p; lia
theorem KK{a:Pa}:-(2:O3)^(62:Pa)<=(↑a:O3):=by lia
theorem Fa{a:Pa}:a<128->(↑a:O3)<(2:O3)^(62:Pa):=λp=>QP (Vv.mpr p) (by decide)
theorem Jz:a+2*c+4<b->a<b:=λp=>nxl (nxl p)
theorem Ip:a+2*c+4<b->a+1+2*0+1<b:=λp=>show a+2<b from O5 (R8 (PD a _) (by decide:2<=4)) p
theorem Eo:a+100*c+300<b->a+1+1+3+100*0+200<b:=λp=>show a+205<b from O5 (R8 (PD a _) (by decide:205<=300)) p
theorem Jo:a<128->a<=1000:=λp=>If (PB p) (by decide)
theorem Ao:b<127->a<=b->a+1<=1000000:=λp q=>If (QS (O5 q p)) (by decide)
theorem AQ:b<127->a<=b->a+1<128:=λp q=>SZ (O5 q p) _
theorem JK:a<127->a<128:=λp=>O6 p (by decide)
theorem Gz{a b:O3}:b<a->¬a<=b:=WK.mpr
theorem Ka{a:O3}{b:Pa}:a%(b+1)<b+1->a%(b+1)<=b:=λp=>Wh p
theorem ED:a<b->a+1<b+1:=λp=>SZ p _
theorem HE:0<a->a-1+1=a:=λp=>S4 (QS p)
theorem Lm:c<d->d<=0->a<=b:=λp q=>Pq (O6 p q) (Wk _)
theorem KM:a<c->c<=b+1->a<=b:=λp q=>PZ (O6 p q)
theorem zX:a<=100->a<127:=λp=>O5 p (by decide)
theorem Kw{a:Pa}{b:Prop}:a<=100/\b->a<127:=λp=>O5 p.1 (by decide)
theorem Jr{a b:O3}:0<=b->a.toNat<=b.toNat->a<=b:=λp q=>PO (W2 a) (PO (QN.mpr q) (TX (Qw p)))
theorem Ak{a b:O3}:b=a->a<=b:=λp=>TX (Uk p)
theorem zo{a b:O3}:a<=b->a<=b:=by intro p; omega
theorem A0{a b:Pa}:(↑a:O3)=(↑b:O3)->a=b:=by intro p; lia
theorem EB{a b:O3}{c d:Pa}:-b<=-a/\(-a = -b->(↑c:O3)<=(↑d:O3))->a<=b:=by intro p; lia
theorem EG{a b:O3}:b=a->-a = -b:=by intro p; lia
theorem AG:b<=100->a=b->a<128:=λp q=>O5 (ele q p) (by decide)
theorem Ah{a:O3}{b c:Pa}:c=b->0<=a/\a<c->0<=a/\a<b:=by intro p q; lia
theorem E5:b<=100->c=b->a<=c->a<=100:=λp q r=>If r (ele q p)
theorem GN:a<=100->a<=999:=λp=>If p (by decide)
theorem F9:a<=100->a<=999999:=λp=>If p (by decide)
theorem II:a<=100->a<1000000:=λp=>O5 p (by decide)
theorem IJ:b<=100->c=b->a<=c->a<128:=λp q r=>O5 r (O5 (ele q p) (by decide))
theorem Kr:a+1=b+1->a=b:=by intros; lia
theorem Gc{a:O3}{b:Pa}:0<=a/\a<b->0<=13+a:=λp=>R9 (by decide) p.1
theorem Ii{a b c d:Pa}:a<=d+c->d<=b+1->a<=b+(c+1):=λp q=>If p (If (Ro q _) (PL (by rw[QF,SY 1 c])))
theorem AM{a b c d:Pa}:c=b->a+d=c->a<=b:=λp q=>nxe (PL (Ym q p))
theorem AZ{a b c:Pa}:b<=100->c<=b->a<=c->a<1000000:=λp q r=>O5 r (O5 q (O5 p (by decide)))
theorem IZ{a b:O3}:¬b<=a->a<=b:=λp=>QW (WK.mp p)
theorem GP{a b c d:O3}:¬c<=d->c=d->a<=b:=λp q=>Pq (TX q) p
theorem Gj{a b c:Pa}:a+c=b->a<=b:=λp=>nxe (PL p)
theorem Hi{a b:Pa}:a<=b->(↑a:O3)<=(↑b:O3):=λp=>QN.mpr p
theorem Lk{a:Pa}:-(↑(a+(1:Pa)):O3)<=(-1:O3):=Yl (QN.mpr (QH 1 a))
theorem EA{a:Pa}:((-1:O3)+(↑(a+(1:Pa)):O3)).toNat=a:=by rw[Int.add_comm,Int.natCast_add,Int.add_assoc]; show Int.toNat ((a:O3)+0)=a; rw[Int.add_zero]; rfl
theorem Hm{a:O3}{b:Pa}:0<b->a/2%b<b->(a/(2:O3)%(↑b:O3)).toNat<b:=λp q=>tlt p q
theorem Jb{a:Pa}{b:O3}:0<=b/\b<a->0<a:=λp=>O5 (Qn _) (tln p.1 p.2)
theorem IY{a:Pa}:a<=100->a+1<=1000000:=λp=>If (Qs p) (by decide)
theorem GW{a b:Pa}:b<=100->a=b->a+1<=1000000:=λp q=>If (Qs (ele q p)) (by decide)
theorem Jd{a:Pa}:a<=100->a+a<=1000000:=λp=>If (R8 p p) (by decide)
theorem IN{a:Pa}:a<=100->1+a<=1000000:=λp=>adE p (by decide)
theorem Hh{a:Pa}:a<=100->a-1<128:=λp=>O5 (Q9 p _) (by decide)
theorem Gi{a:Pa}:0<a->a-1=a->False:=λp q=>Pq q (Qz (UD p (by decide)))
theorem Ff{a:Pa}:a<=100->a+1<128:=λp=>O5 (Qs p) (by decide)
theorem Kq{a:Pa}:a<=100->1+a<128:=λp=>O5 (Pg p _) (by decide)
theorem zn{a b:Pa}:a=b->a+1≠b:=λp=>Ut (RJ (PL (Uk p)))
theorem EO{a b:Pa}:a=b->0<b->a-1≠b:=by intro p q; subst p; exact (Qz (UD q (by decide)))
theorem GM{a b:Pa}:b<=100->a=b->a<=1000:=λp q=>If (ele q p) (by decide)
theorem Fg{a b:Pa}{c:Prop}:b<=100/\c->a<=b->a+1<=1000000:=λp q=>If (Qs (If q p.1)) (by decide)
theorem G1{a b:Pa}{c:Prop}:b<=100/\c->a<=b->a+1<128:=λp q=>O5 (Qs (If q p.1)) (by decide)
end
theorem aE (h0:p0 ) (h1:p1 ):p0/\p1:=⟨h0,h1⟩
theorem cy (h0:p0 ) (h1:p1 ) (h2:p2 ):p0/\p1/\p2:=⟨h0,h1,h2⟩
theorem cZ (h0:p0 ) (h1:p1 ) (h2:p2 ) (h3:p3 ):p0/\p1/\p2/\p3:=⟨h0,h1,h2,h3⟩
theorem cF (h0:p0 ) (h1:p1 ) (h2:p2 ) (h3:p3 ) (h4:p4 ):p0/\p1/\p2/\p3/\p4:=⟨h0,h1,h2,h3,h4⟩
theorem mt (h0:p0 ) (h1:p1 ) (h2:p2 ) (h3:p3 ) (h4:p4 ) (h5:p5 ):p0/\p1/\p2/\p3/\p4/\p5:=⟨h0,h1,h2,h3,h4,h5⟩
theorem bP{A:Sort u0}{p:A->Prop}(a:A):p a->∃ a,p a:=λp=>⟨a,p⟩
theorem ah{A:Sort u0}{p q:A->Prop}(a:A):p a->q a->∃ a,p a/\q a:=λp q=>⟨a,p,q⟩
theorem aG{A:Sort u0}{p q r:A->Prop}(a:A):p a->q a->r a->∃ a,p a/\q a/\r a:=λp q r=>⟨a,p,q,r⟩
theorem bD{A:Sort u0}{p q r s:A->Prop}(a:A):p a->q a->r a->s a->∃ a,p a/\q a/\r a/\s a:=λp q r s=>⟨a,p,q,r,s⟩
theorem jz{A:Sort u0}{p q r s t:A->Prop}(a:A):p a->q a->r a->s a->t a->∃ a,p a/\q a/\r a/\s a/\t a:=λp q r s t=>⟨a,p,q,r,s,t⟩
theorem kG{A:Sort u0}{p q r s t u:A->Prop}(a:A):p a->q a->r a->s a->t a->u a->∃ a,p a/\q a/\r a/\s a/\t a/\u a:=λp q r s t u=>⟨a,p,q,r,s,t,u⟩
theorem uB{A:Sort u0}{p q r s t u v:A->Prop}(a:A):p a->q a->r a->s a->t a->u a->v a->∃ a,p a/\q a/\r a/\s a/\t a/\u a/\v a:=λp q r s t u v=>⟨a,p,q,r,s,t,u,v⟩
theorem bN{A:Sort u0}{B:Sort u1}{p:A->B->Prop}(a:A)(b:B):p a b->∃ a b,p a b:=λp=>⟨a,b,p⟩
theorem aC{A:Sort u0}{B:Sort u1}{p q:A->B->Prop}(a:A)(b:B):p a b->q a b->∃ a b,p a b/\q a b:=λp q=>⟨a,b,p,q⟩
theorem aP{A:Sort u0}{B:Sort u1}{p q r:A->B->Prop}(a:A)(b:B):p a b->q a b->r a b->∃ a b,p a b/\q a b/\r a b:=λp q r=>⟨a,b,p,q,r⟩
theorem bO{A:Sort u0}{B:Sort u1}{p q r s:A->B->Prop}(a:A)(b:B):p a b->q a b->r a b->s a b->∃ a b,p a b/\q a b/\r a b/\s a b:=λp q r s=>⟨a,b,p,q,r,s⟩
theorem bW{A:Sort u0}{B:Sort u1}{p q r s t:A->B->Prop}(a:A)(b:B):p a b->q a b->r a b->s a b->t a b->∃ a b,p a b/\q a b/\r a b/\s a b/\t a b:=λp q r s t=>⟨a,b,p,q,r,s,t⟩
theorem pe{A:Sort u0}{B:Sort u1}{p q r s t u:A->B->Prop}(a:A)(b:B):p a b->q a b->r a b->s a b->t a b->u a b->∃ a b,p a b/\q a b/\r a b/\s a b/\t a b/\u a b:=λp q r s t u=>⟨a,b,p,q,r,s,t,u⟩
theorem ic{A:Sort u0}{B:Sort u1}{p q r s t u v:A->B->Prop}(a:A)(b:B):p a b->q a b->r a b->s a b->t a b->u a b->v a b->∃ a b,p a b/\q a b/\r a b/\s a b/\t a b/\u a b/\v a b:=λp q r s t u v=>⟨a,b,p,q,r,s,t,u,v⟩
theorem qI{p q r s t u v w x y:A->B->Prop}(a:A)(b:B):p a b->q a b->r a b->s a b->t a b->u a b->v a b->w a b->x a b->y a b->∃ a b,p a b/\q a b/\r a b/\s a b/\t a b/\u a b/\v a b/\w a b/\x a b/\y a b:=λp q r s t u v w x y=>⟨a,b,p,q,r,s,t,u,v,w,x,y⟩
theorem cB{A:Sort u0}{B:Sort u1}{C:Sort u2}{p q:A->B->C->Prop}(a:A)(b:B)(c:C):p a b c->q a b c->∃ a b c,p a b c/\q a b c:=λp q=>⟨a,b,c,p,q⟩
theorem c9{A:Sort u0}{B:Sort u1}{C:Sort u2}{p q r:A->B->C->Prop}(a:A)(b:B)(c:C):p a b c->q a b c->r a b c->∃ a b c,p a b c/\q a b c/\r a b c:=λp q r=>⟨a,b,c,p,q,r⟩
theorem ip{A:Sort u0}{B:Sort u1}{C:Sort u2}{p q r s:A->B->C->Prop}(a:A)(b:B)(c:C):p a b c->q a b c->r a b c->s a b c->∃ a b c,p a b c/\q a b c/\r a b c/\s a b c:=λp q r s=>⟨a,b,c,p,q,r,s⟩
theorem gd{A:Sort u0}{B:Sort u1}{C:Sort u2}{p q r s t u:A->B->C->Prop}(a:A)(b:B)(c:C):p a b c->q a b c->r a b c->s a b c->t a b c->u a b c->∃ a b c,p a b c/\q a b c/\r a b c/\s a b c/\t a b c/\u a b c:=λp q r s t u=>⟨a,b,c,p,q,r,s,t,u⟩
theorem lX{A:Sort u0}{B:Sort u1}{C:Sort u2}{p q r s t u v:A->B->C->Prop}(a:A)(b:B)(c:C):p a b c->q a b c->r a b c->s a b c->t a b c->u a b c->v a b c->∃ a b c,p a b c/\q a b c/\r a b c/\s a b c/\t a b c/\u a b c/\v a b c:=λp q r s t u v=>⟨a,b,c,p,q,r,s,t,u,v⟩
theorem fE{A:Sort u0}{B:Sort u1}{C:Sort u2}{D:Sort u3}{p q:A->B->C->D->Prop}(a:A)(b:B)(c:C)(d:D):p a b c d->q a b c d->∃ a b c d,p a b c d/\q a b c d:=λp q=>⟨a,b,c,d,p,q⟩
theorem jw{A:Sort u0}{B:Sort u1}{C:Sort u2}{D:Sort u3}{p q r s:A->B->C->D->Prop}(a:A)(b:B)(c:C)(d:D):p a b c d->q a b c d->r a b c d->s a b c d->∃ a b c d,p a b c d/\q a b c d/\r a b c d/\s a b c d:=λp q r s=>⟨a,b,c,d,p,q,r,s⟩
theorem kX{A:Sort u0}{B:Sort u1}{C:Sort u2}{D:Sort u3}{p q r s t:A->B->C->D->Prop}(a:A)(b:B)(c:C)(d:D):p a b c d->q a b c d->r a b c d->s a b c d->t a b c d->∃ a b c d,p a b c d/\q a b c d/\r a b c d/\s a b c d/\t a b c d:=λp q r s t=>⟨a,b,c,d,p,q,r,s,t⟩
theorem pJ{A:Sort u0}{B:Sort u1}{C:Sort u2}{D:Sort u3}{p q r s t u v w:A->B->C->D->Prop}(a:A)(b:B)(c:C)(d:D):p a b c d->q a b c d->r a b c d->s a b c d->t a b c d->u a b c d->v a b c d->w a b c d->∃ a b c d,p a b c d/\q a b c d/\r a b c d/\s a b c d/\t a b c d/\u a b c d/\v a b c d/\w a b c d:=λp q r s t u v w=>⟨a,b,c,d,p,q,r,s,t,u,v,w⟩
theorem o9{A:Sort u0}{B:Sort u1}{C:Sort u2}{D:Sort u3}{E:Sort u4}{p q:A->B->C->D->E->Prop}(a:A)(b:B)(c:C)(d:D)(e:E):p a b c d e->q a b c d e->∃ a b c d e,p a b c d e/\q a b c d e:=λp q=>⟨a,b,c,d,e,p,q⟩
theorem lW{A:Sort u0}{B:Sort u1}{C:Sort u2}{D:Sort u3}{E:Sort u4}{p q r s:A->B->C->D->E->Prop}(a:A)(b:B)(c:C)(d:D)(e:E):p a b c d e->q a b c d e->r a b c d e->s a b c d e->∃ a b c d e,p a b c d e/\q a b c d e/\r a b c d e/\s a b c d e:=λp q r s=>⟨a,b,c,d,e,p,q,r,s⟩
theorem vQ{A:Sort u0}{B:Sort u1}{C:Sort u2}{D:Sort u3}{E:Sort u4}{p q r s t:A->B->C->D->E->Prop}(a:A)(b:B)(c:C)(d:D)(e:E):p a b c d e->q a b c d e->r a b c d e->s a b c d e->t a b c d e->∃ a b c d e,p a b c d e/\q a b c d e/\r a b c d e/\s a b c d e/\t a b c d e:=λp q r s t=>⟨a,b,c,d,e,p,q,r,s,t⟩
theorem zQ{A:Sort u0}{B:Sort u1}{C:Sort u2}{D:Sort u3}{E:Sort u4}{F:Sort u5}{p q:A->B->C->D->E->F->Prop}(a:A)(b:B)(c:C)(d:D)(e:E)(f:F):p a b c d e f->q a b c d e f->∃ a b c d e f,p a b c d e f/\q a b c d e f:=λp q=>⟨a,b,c,d,e,f,p,q⟩
theorem ma{A:Sort u0}{B:Sort u1}{C:Sort u2}{D:Sort u3}{E:Sort u4}{F:Sort u5}{H:Sort u6}{p q:A->B->C->D->E->F->H->Prop}(a:A)(b:B)(c:C)(d:D)(e:E)(f:F)(g:H):p a b c d e f g->q a b c d e f g->∃ a b c d e f g,p a b c d e f g/\q a b c d e f g:=λp q=>⟨a,b,c,d,e,f,g,p,q⟩
theorem DT{A:Sort u0}{B:Sort u1}{C:Sort u2}{D:Sort u3}{E:Sort u4}{F:Sort u5}{H:Sort u6}{p q r s t u v:A->B->C->D->E->F->H->Prop}(a:A)(b:B)(c:C)(d:D)(e:E)(f:F)(g:H):p a b c d e f g->q a b c d e f g->r a b c d e f g->s a b c d e f g->t a b c d e f g->u a b c d e f g->v a b c d e f g->∃ a b c d e f g,p a b c d e f g/\q a b c d e f g/\r a b c d e f g/\s a b c d e f g/\t a b c d e f g/\u a b c d e f g/\v a b c d e f g:=λp q r s t u v=>⟨a,b,c,d,e,f,g,p,q,r,s,t,u,v⟩
theorem DD{A:Sort u0}{B:Sort u1}{C:Sort u2}{D:Sort u3}{E:Sort u4}{F:Sort u5}{H:Sort u6}{I:Sort u7}{p q:A->B->C->D->E->F->H->I->Prop}(a:A)(b:B)(c:C)(d:D)(e:E)(f:F)(g:H)(i:I):p a b c d e f g i->q a b c d e f g i->∃ a b c d e f g i,p a b c d e f g i/\q a b c d e f g i:=λp q=>⟨a,b,c,d,e,f,g,i,p,q⟩
theorem jX{p q r s t u v w x y z R S T:A->B->C->D->E->F->H->I->Prop}(a:A)(b:B)(c:C)(d:D)(e:E)(f:F)(g:H)(i:I):p a b c d e f g i->q a b c d e f g i->r a b c d e f g i->s a b c d e f g i->t a b c d e f g i->u a b c d e f g i->v a b c d e f g i->w a b c d e f g i->x a b c d e f g i->y a b c d e f g i->z a b c d e f g i->R a b c d e f g i->S a b c d e f g i->T a b c d e f g i->∃ a b c d e f g i,p a b c d e f g i/\q a b c d e f g i/\r a b c d e f g i/\s a b c d e f g i/\t a b c d e f g i/\u a b c d e f g i/\v a b c d e f g i/\w a b c d e f g i/\x a b c d e f g i/\y a b c d e f g i/\z a b c d e f g i/\R a b c d e f g i/\S a b c d e f g i/\T a b c d e f g i:=λp q r s t u v w x y z R S T=>⟨a,b,c,d,e,f,g,i,p,q,r,s,t,u,v,w,x,y,z,R,S,T⟩
theorem pM{p q r s t u v w x y z R S T:A->B->C->D->E->F->H->I->J->Prop}(a:A)(b:B)(c:C)(d:D)(e:E)(f:F)(g:H)(i:I)(j:J):p a b c d e f g i j->q a b c d e f g i j->r a b c d e f g i j->s a b c d e f g i j->t a b c d e f g i j->u a b c d e f g i j->v a b c d e f g i j->w a b c d e f g i j->x a b c d e f g i j->y a b c d e f g i j->z a b c d e f g i j->R a b c d e f g i j->S a b c d e f g i j->T a b c d e f g i j->∃ a b c d e f g i j,p a b c d e f g i j/\q a b c d e f g i j/\r a b c d e f g i j/\s a b c d e f g i j/\t a b c d e f g i j/\u a b c d e f g i j/\v a b c d e f g i j/\w a b c d e f g i j/\x a b c d e f g i j/\y a b c d e f g i j/\z a b c d e f g i j/\R a b c d e f g i j/\S a b c d e f g i j/\T a b c d e f g i j:=λp q r s t u v w x y z R S T=>⟨a,b,c,d,e,f,g,i,j,p,q,r,s,t,u,v,w,x,y,z,R,S,T⟩
section
variable {G:Prop}
theorem ae (h:p0/\p1) (k:p0->p1->G):G:=by
 obtain ⟨h0,h1⟩:=h
 exact k h0 h1
theorem ak{A:Sort u0}{p:A->Prop}(h:∃ a,p a)(k:∀ a,p a->G):G:=by obtain ⟨a,p⟩:=h;exact k a p
theorem aI (h:p0/\p1/\p2) (k:p0->p1->p2->G):G:=by
 obtain ⟨h0,h1,h2⟩:=h
 exact k h0 h1 h2
theorem af{A:Sort u0}{p q:A->Prop}(h:∃ a,p a/\q a)(k:∀ a,p a->q a->G):G:=by obtain ⟨a,p,q⟩:=h;exact k a p q
theorem bi{A:Sort u0}{B:Sort u1}{p:A->B->Prop}(h:∃ a b,p a b)(k:∀ a b,p a b->G):G:=by obtain ⟨a,b,p⟩:=h;exact k a b p
theorem dI (h:p0/\p1/\p2/\p3) (k:p0->p1->p2->p3->G):G:=by
 obtain ⟨h0,h1,h2,h3⟩:=h
 exact k h0 h1 h2 h3
theorem aq{A:Sort u0}{p q r:A->Prop}(h:∃ a,p a/\q a/\r a)(k:∀ a,p a->q a->r a->G):G:=by obtain ⟨a,p,q,r⟩:=h;exact k a p q r
theorem aw{A:Sort u0}{B:Sort u1}{p q:A->B->Prop}(h:∃ a b,p a b/\q a b)(k:∀ a b,p a b->q a b->G):G:=by obtain ⟨a,b,p,q⟩:=h;exact k a b p q
theorem Et{A:Sort u0}{B:Sort u1}{C:Sort u2}{p:A->B->C->Prop}(h:∃ a b c,p a b c)(k:∀ a b c,p a b c->G):G:=by obtain ⟨a,b,c,p⟩:=h;exact k a b c p
theorem bX{A:Sort u0}{p q r s:A->Prop}(h:∃ a,p a/\q a/\r a/\s a)(k:∀ a,p a->q a->r a->s a->G):G:=by obtain ⟨a,p,q,r,s⟩:=h;exact k a p q r s
theorem ay{A:Sort u0}{B:Sort u1}{p q r:A->B->Prop}(h:∃ a b,p a b/\q a b/\r a b)(k:∀ a b,p a b->q a b->r a b->G):G:=by obtain ⟨a,b,p,q,r⟩:=h;exact k a b p q r
theorem bC{A:Sort u0}{B:Sort u1}{C:Sort u2}{p q:A->B->C->Prop}(h:∃ a b c,p a b c/\q a b c)(k:∀ a b c,p a b c->q a b c->G):G:=by obtain ⟨a,b,c,p,q⟩:=h;exact k a b c p q
theorem Ln{A:Sort u0}{B:Sort u1}{C:Sort u2}{D:Sort u3}{p:A->B->C->D->Prop}(h:∃ a b c d,p a b c d)(k:∀ a b c d,p a b c d->G):G:=by obtain ⟨a,b,c,d,p⟩:=h;exact k a b c d p
theorem kL{A:Sort u0}{p q r s t:A->Prop}(h:∃ a,p a/\q a/\r a/\s a/\t a)(k:∀ a,p a->q a->r a->s a->t a->G):G:=by obtain ⟨a,p,q,r,s,t⟩:=h;exact k a p q r s t
theorem bp{A:Sort u0}{B:Sort u1}{p q r s:A->B->Prop}(h:∃ a b,p a b/\q a b/\r a b/\s a b)(k:∀ a b,p a b->q a b->r a b->s a b->G):G:=by obtain ⟨a,b,p,q,r,s⟩:=h;exact k a b p q r s
theorem bj{A:Sort u0}{B:Sort u1}{C:Sort u2}{p q r:A->B->C->Prop}(h:∃ a b c,p a b c/\q a b c/\r a b c)(k:∀ a b c,p a b c->q a b c->r a b c->G):G:=by obtain ⟨a,b,c,p,q,r⟩:=h;exact k a b c p q r
theorem cS{A:Sort u0}{B:Sort u1}{C:Sort u2}{D:Sort u3}{p q:A->B->C->D->Prop}(h:∃ a b c d,p a b c d/\q a b c d)(k:∀ a b c d,p a b c d->q a b c d->G):G:=by obtain ⟨a,b,c,d,p,q⟩:=h;exact k a b c d p q
theorem jy{A:Sort u0}{p q r s t u:A->Prop}(h:∃ a,p a/\q a/\r a/\s a/\t a/\u a)(k:∀ a,p a->q a->r a->s a->t a->u a->G):G:=by obtain ⟨a,p,q,r,s,t,u⟩:=h;exact k a p q r s t u
theorem mh{A:Sort u0}{B:Sort u1}{p q r s t:A->B->Prop}(h:∃ a b,p a b/\q a b/\r a b/\s a b/\t a b)(k:∀ a b,p a b->q a b->r a b->s a b->t a b->G):G:=by obtain ⟨a,b,p,q,r,s,t⟩:=h;exact k a b p q r s t
theorem fF{A:Sort u0}{B:Sort u1}{C:Sort u2}{p q r s:A->B->C->Prop}(h:∃ a b c,p a b c/\q a b c/\r a b c/\s a b c)(k:∀ a b c,p a b c->q a b c->r a b c->s a b c->G):G:=by obtain ⟨a,b,c,p,q,r,s⟩:=h;exact k a b c p q r s
theorem tB{A:Sort u0}{B:Sort u1}{C:Sort u2}{D:Sort u3}{p q r:A->B->C->D->Prop}(h:∃ a b c d,p a b c d/\q a b c d/\r a b c d)(k:∀ a b c d,p a b c d->q a b c d->r a b c d->G):G:=by obtain ⟨a,b,c,d,p,q,r⟩:=h;exact k a b c d p q r
theorem jH{A:Sort u0}{B:Sort u1}{C:Sort u2}{D:Sort u3}{E:Sort u4}{p q:A->B->C->D->E->Prop}(h:∃ a b c d e,p a b c d e/\q a b c d e)(k:∀ a b c d e,p a b c d e->q a b c d e->G):G:=by obtain ⟨a,b,c,d,e,p,q⟩:=h;exact k a b c d e p q
theorem AT{A:Sort u0}{p q r s t u v:A->Prop}(h:∃ a,p a/\q a/\r a/\s a/\t a/\u a/\v a)(k:∀ a,p a->q a->r a->s a->t a->u a->v a->G):G:=by obtain ⟨a,p,q,r,s,t,u,v⟩:=h;exact k a p q r s t u v
theorem An{A:Sort u0}{B:Sort u1}{p q r s t u:A->B->Prop}(h:∃ a b,p a b/\q a b/\r a b/\s a b/\t a b/\u a b)(k:∀ a b,p a b->q a b->r a b->s a b->t a b->u a b->G):G:=by obtain ⟨a,b,p,q,r,s,t,u⟩:=h;exact k a b p q r s t u
theorem f8{A:Sort u0}{B:Sort u1}{C:Sort u2}{D:Sort u3}{p q r s:A->B->C->D->Prop}(h:∃ a b c d,p a b c d/\q a b c d/\r a b c d/\s a b c d)(k:∀ a b c d,p a b c d->q a b c d->r a b c d->s a b c d->G):G:=by obtain ⟨a,b,c,d,p,q,r,s⟩:=h;exact k a b c d p q r s
theorem uc{A:Sort u0}{B:Sort u1}{C:Sort u2}{D:Sort u3}{E:Sort u4}{F:Sort u5}{p q:A->B->C->D->E->F->Prop}(h:∃ a b c d e f,p a b c d e f/\q a b c d e f)(k:∀ a b c d e f,p a b c d e f->q a b c d e f->G):G:=by obtain ⟨a,b,c,d,e,f,p,q⟩:=h;exact k a b c d e f p q
theorem tQ{A:Sort u0}{B:Sort u1}{p q r s t u v:A->B->Prop}(h:∃ a b,p a b/\q a b/\r a b/\s a b/\t a b/\u a b/\v a b)(k:∀ a b,p a b->q a b->r a b->s a b->t a b->u a b->v a b->G):G:=by obtain ⟨a,b,p,q,r,s,t,u,v⟩:=h;exact k a b p q r s t u v
theorem cQ{A:Sort u0}{B:Sort u1}{C:Sort u2}{p q r s t u:A->B->C->Prop}(h:∃ a b c,p a b c/\q a b c/\r a b c/\s a b c/\t a b c/\u a b c)(k:∀ a b c,p a b c->q a b c->r a b c->s a b c->t a b c->u a b c->G):G:=by obtain ⟨a,b,c,p,q,r,s,t,u⟩:=h;exact k a b c p q r s t u
theorem FD{A:Sort u0}{B:Sort u1}{C:Sort u2}{D:Sort u3}{p q r s t:A->B->C->D->Prop}(h:∃ a b c d,p a b c d/\q a b c d/\r a b c d/\s a b c d/\t a b c d)(k:∀ a b c d,p a b c d->q a b c d->r a b c d->s a b c d->t a b c d->G):G:=by obtain ⟨a,b,c,d,p,q,r,s,t⟩:=h;exact k a b c d p q r s t
theorem o7{A:Sort u0}{B:Sort u1}{C:Sort u2}{D:Sort u3}{E:Sort u4}{p q r s:A->B->C->D->E->Prop}(h:∃ a b c d e,p a b c d e/\q a b c d e/\r a b c d e/\s a b c d e)(k:∀ a b c d e,p a b c d e->q a b c d e->r a b c d e->s a b c d e->G):G:=by obtain ⟨a,b,c,d,e,p,q,r,s⟩:=h;exact k a b c d e p q r s
theorem kQ{A:Sort u0}{B:Sort u1}{C:Sort u2}{D:Sort u3}{E:Sort u4}{F:Sort u5}{H:Sort u6}{p q:A->B->C->D->E->F->H->Prop}(h:∃ a b c d e f g,p a b c d e f g/\q a b c d e f g)(k:∀ a b c d e f g,p a b c d e f g->q a b c d e f g->G):G:=by obtain ⟨a,b,c,d,e,f,g,p,q⟩:=h;exact k a b c d e f g p q
theorem v5{A:Sort u0}{B:Sort u1}{C:Sort u2}{p q r s t u v:A->B->C->Prop}(h:∃ a b c,p a b c/\q a b c/\r a b c/\s a b c/\t a b c/\u a b c/\v a b c)(k:∀ a b c,p a b c->q a b c->r a b c->s a b c->t a b c->u a b c->v a b c->G):G:=by obtain ⟨a,b,c,p,q,r,s,t,u,v⟩:=h;exact k a b c p q r s t u v
theorem wo{A:Sort u0}{B:Sort u1}{C:Sort u2}{D:Sort u3}{E:Sort u4}{p q r s t:A->B->C->D->E->Prop}(h:∃ a b c d e,p a b c d e/\q a b c d e/\r a b c d e/\s a b c d e/\t a b c d e)(k:∀ a b c d e,p a b c d e->q a b c d e->r a b c d e->s a b c d e->t a b c d e->G):G:=by obtain ⟨a,b,c,d,e,p,q,r,s,t⟩:=h;exact k a b c d e p q r s t
theorem DA{A:Sort u0}{B:Sort u1}{C:Sort u2}{D:Sort u3}{E:Sort u4}{F:Sort u5}{H:Sort u6}{I:Sort u7}{p q:A->B->C->D->E->F->H->I->Prop}(h:∃ a b c d e f g i,p a b c d e f g i/\q a b c d e f g i)(k:∀ a b c d e f g i,p a b c d e f g i->q a b c d e f g i->G):G:=by obtain ⟨a,b,c,d,e,f,g,i,p,q⟩:=h;exact k a b c d e f g i p q
theorem CQ{A:Sort u0}{B:Sort u1}{C:Sort u2}{D:Sort u3}{E:Sort u4}{p q r s t u:A->B->C->D->E->Prop}(h:∃ a b c d e,p a b c d e/\q a b c d e/\r a b c d e/\s a b c d e/\t a b c d e/\u a b c d e)(k:∀ a b c d e,p a b c d e->q a b c d e->r a b c d e->s a b c d e->t a b c d e->u a b c d e->G):G:=by obtain ⟨a,b,c,d,e,p,q,r,s,t,u⟩:=h;exact k a b c d e p q r s t u
theorem wq{p q r s t u v w x y:A->B->Prop}(h:∃ a b,p a b/\q a b/\r a b/\s a b/\t a b/\u a b/\v a b/\w a b/\x a b/\y a b)(k:∀ a b,p a b->q a b->r a b->s a b->t a b->u a b->v a b->w a b->x a b->y a b->G):G:=by obtain ⟨a,b,p,q,r,s,t,u,v,w,x,y⟩:=h;exact k a b p q r s t u v w x y
theorem wf{A:Sort u0}{B:Sort u1}{C:Sort u2}{D:Sort u3}{p q r s t u v w:A->B->C->D->Prop}(h:∃ a b c d,p a b c d/\q a b c d/\r a b c d/\s a b c d/\t a b c d/\u a b c d/\v a b c d/\w a b c d)(k:∀ a b c d,p a b c d->q a b c d->r a b c d->s a b c d->t a b c d->u a b c d->v a b c d->w a b c d->G):G:=by obtain ⟨a,b,c,d,p,q,r,s,t,u,v,w⟩:=h;exact k a b c d p q r s t u v w
theorem fq{A:Sort u0}{B:Sort u1}{C:Sort u2}{D:Sort u3}{E:Sort u4}{F:Sort u5}{H:Sort u6}{I:Sort u7}{J:Sort u8}{K:Sort u9}{L:Sort u10}{M:Sort u11}{p:A->B->C->D->E->F->H->I->J->K->L->M->Prop}(h:∃ a b c d e f g i j l m n,p a b c d e f g i j l m n)(k:∀ a b c d e f g i j l m n,p a b c d e f g i j l m n->G):G:=by obtain ⟨a,b,c,d,e,f,g,i,j,l,m,n,p⟩:=h;exact k a b c d e f g i j l m n p
theorem pW{p q r s t u v w x y:A->B->C->D->Prop}(h:∃ a b c d,p a b c d/\q a b c d/\r a b c d/\s a b c d/\t a b c d/\u a b c d/\v a b c d/\w a b c d/\x a b c d/\y a b c d)(k:∀ a b c d,p a b c d->q a b c d->r a b c d->s a b c d->t a b c d->u a b c d->v a b c d->w a b c d->x a b c d->y a b c d->G):G:=by obtain ⟨a,b,c,d,p,q,r,s,t,u,v,w,x,y⟩:=h;exact k a b c d p q r s t u v w x y
theorem vg{p q r s t u v w x y z R S:A->B->Prop}(h:∃ a b,p a b/\q a b/\r a b/\s a b/\t a b/\u a b/\v a b/\w a b/\x a b/\y a b/\z a b/\R a b/\S a b)(k:∀ a b,p a b->q a b->r a b->s a b->t a b->u a b->v a b->w a b->x a b->y a b->z a b->R a b->S a b->G):G:=by obtain ⟨a,b,p,q,r,s,t,u,v,w,x,y,z,R,S⟩:=h;exact k a b p q r s t u v w x y z R S
theorem wc{A:Sort u0}{B:Sort u1}{C:Sort u2}{D:Sort u3}{E:Sort u4}{F:Sort u5}{p q r s t u v w x:A->B->C->D->E->F->Prop}(h:∃ a b c d e f,p a b c d e f/\q a b c d e f/\r a b c d e f/\s a b c d e f/\t a b c d e f/\u a b c d e f/\v a b c d e f/\w a b c d e f/\x a b c d e f)(k:∀ a b c d e f,p a b c d e f->q a b c d e f->r a b c d e f->s a b c d e f->t a b c d e f->u a b c d e f->v a b c d e f->w a b c d e f->x a b c d e f->G):G:=by obtain ⟨a,b,c,d,e,f,p,q,r,s,t,u,v,w,x⟩:=h;exact k a b c d e f p q r s t u v w x
theorem wJ{A:Sort u0}{B:Sort u1}{C:Sort u2}{D:Sort u3}{E:Sort u4}{F:Sort u5}{H:Sort u6}{p q r s t u v w x:A->B->C->D->E->F->H->Prop}(h:∃ a b c d e f g,p a b c d e f g/\q a b c d e f g/\r a b c d e f g/\s a b c d e f g/\t a b c d e f g/\u a b c d e f g/\v a b c d e f g/\w a b c d e f g/\x a b c d e f g)(k:∀ a b c d e f g,p a b c d e f g->q a b c d e f g->r a b c d e f g->s a b c d e f g->t a b c d e f g->u a b c d e f g->v a b c d e f g->w a b c d e f g->x a b c d e f g->G):G:=by obtain ⟨a,b,c,d,e,f,g,p,q,r,s,t,u,v,w,x⟩:=h;exact k a b c d e f g p q r s t u v w x
theorem DE{A:Sort u0}{B:Sort u1}{C:Sort u2}{D:Sort u3}{E:Sort u4}{F:Sort u5}{H:Sort u6}{I:Sort u7}{p q r s t u v w x:A->B->C->D->E->F->H->I->Prop}(h:∃ a b c d e f g i,p a b c d e f g i/\q a b c d e f g i/\r a b c d e f g i/\s a b c d e f g i/\t a b c d e f g i/\u a b c d e f g i/\v a b c d e f g i/\w a b c d e f g i/\x a b c d e f g i)(k:∀ a b c d e f g i,p a b c d e f g i->q a b c d e f g i->r a b c d e f g i->s a b c d e f g i->t a b c d e f g i->u a b c d e f g i->v a b c d e f g i->w a b c d e f g i->x a b c d e f g i->G):G:=by obtain ⟨a,b,c,d,e,f,g,i,p,q,r,s,t,u,v,w,x⟩:=h;exact k a b c d e f g i p q r s t u v w x
theorem Cr{p q r s t u v w x y z:A->B->C->D->E->F->H->I->J->K->Prop}(h:∃ a b c d e f g i j l,p a b c d e f g i j l/\q a b c d e f g i j l/\r a b c d e f g i j l/\s a b c d e f g i j l/\t a b c d e f g i j l/\u a b c d e f g i j l/\v a b c d e f g i j l/\w a b c d e f g i j l/\x a b c d e f g i j l/\y a b c d e f g i j l/\z a b c d e f g i j l)(k:∀ a b c d e f g i j l,p a b c d e f g i j l->q a b c d e f g i j l->r a b c d e f g i j l->s a b c d e f g i j l->t a b c d e f g i j l->u a b c d e f g i j l->v a b c d e f g i j l->w a b c d e f g i j l->x a b c d e f g i j l->y a b c d e f g i j l->z a b c d e f g i j l->G):G:=by obtain ⟨a,b,c,d,e,f,g,i,j,l,p,q,r,s,t,u,v,w,x,y,z⟩:=h;exact k a b c d e f g i j l p q r s t u v w x y z
theorem jM{p q r s t u v w x y z R S T:A->B->C->D->E->F->H->I->Prop}(h:∃ a b c d e f g i,p a b c d e f g i/\q a b c d e f g i/\r a b c d e f g i/\s a b c d e f g i/\t a b c d e f g i/\u a b c d e f g i/\v a b c d e f g i/\w a b c d e f g i/\x a b c d e f g i/\y a b c d e f g i/\z a b c d e f g i/\R a b c d e f g i/\S a b c d e f g i/\T a b c d e f g i)(k:∀ a b c d e f g i,p a b c d e f g i->q a b c d e f g i->r a b c d e f g i->s a b c d e f g i->t a b c d e f g i->u a b c d e f g i->v a b c d e f g i->w a b c d e f g i->x a b c d e f g i->y a b c d e f g i->z a b c d e f g i->R a b c d e f g i->S a b c d e f g i->T a b c d e f g i->G):G:=by obtain ⟨a,b,c,d,e,f,g,i,p,q,r,s,t,u,v,w,x,y,z,R,S,T⟩:=h;exact k a b c d e f g i p q r s t u v w x y z R S T
theorem DM{p q r s t u v w x y z R S T:A->B->C->D->E->F->H->I->J->Prop}(h:∃ a b c d e f g i j,p a b c d e f g i j/\q a b c d e f g i j/\r a b c d e f g i j/\s a b c d e f g i j/\t a b c d e f g i j/\u a b c d e f g i j/\v a b c d e f g i j/\w a b c d e f g i j/\x a b c d e f g i j/\y a b c d e f g i j/\z a b c d e f g i j/\R a b c d e f g i j/\S a b c d e f g i j/\T a b c d e f g i j)(k:∀ a b c d e f g i j,p a b c d e f g i j->q a b c d e f g i j->r a b c d e f g i j->s a b c d e f g i j->t a b c d e f g i j->u a b c d e f g i j->v a b c d e f g i j->w a b c d e f g i j->x a b c d e f g i j->y a b c d e f g i j->z a b c d e f g i j->R a b c d e f g i j->S a b c d e f g i j->T a b c d e f g i j->G):G:=by obtain ⟨a,b,c,d,e,f,g,i,j,p,q,r,s,t,u,v,w,x,y,z,R,S,T⟩:=h;exact k a b c d e f g i j p q r s t u v w x y z R S T
theorem bA {a b:PV}(h:(a&&b)=vk):a=vk/\b=true:=TH.mp h
end
theorem aJ {α β:Type}{f:α->β}{l:rg α}{b:β}{G:Prop}(h:b∈l.map f) (k:∀ a,a∈l->f a=b->G):G:=af (T1.mp h) k
theorem bB {α β:Type}{o:O4 α}{f:α->O4 β}{b:β}{G:Prop}(h:o.bind f=qn b) (k:∀ a,o=qn a->f a=qn b->G):G:=af (TS.mp h) k
theorem bI {α β:Type}{o:O4 α}{f:α->β}{b:β}{G:Prop}(h:o.map f=qn b) (k:∀ a,o=qn a->f a=b->G):G:=af (RX.mp h) k
theorem bZ {α:Type}{o:O4 α}{G:Prop}(h:o.isSome=vk) (k:∀ a,o=qn a->G):G:=ak (Tz.mp h) k
theorem lD {α:Type}{p:α->PV}{l:rg α}{a:α}{G:Prop}(h:a∈l.filter p) (k:a∈l->p a=vk->G):G:=ae (Qk.mp h) k
theorem dU {a b:PV}{G:Prop}(h:(a&&b)=vk) (k:a=vk->b=vk->G):G:=ae (TH.mp h) k
open PySem
inductive Mode where
 | sh | top | deep
 deriving DecidableEq
inductive V where
 | d (x:Pk)
 | dic0
 | dicI (ks:rg O3)
 | dicT (ks:rg (rg O3))
 | rule (c:O3) (d:Pk) (n:O3)
set_option genInjectivity true in
inductive Out (α:Type) where
 | ok (a:α)
 | exc (c:OX)
 | bad
namespace Out
noncomputable def bind:Out α->(α->Out β)->Out β
 | .ok a,f=>f a
 | .exc c,_=>.exc c
 | .bad,_=>.bad
@[simp] theorem ok_bind (a:α) (f:α->Out β):(Out.ok a).bind f=f a:=rfl
@[simp] theorem exc_bind (c:OX) (f:α->Out β):(Out.exc c:Out α).bind f = .exc c:=rfl
@[simp] theorem L0 (f:α->Out β):(Out.bad:Out α).bind f = .bad:=rfl
noncomputable def calm:Out α->Out α
 | .ok a=>.ok a
 | _=>.bad
@[simp] theorem calm_ok (a:α):(Out.ok a).calm = .ok a:=rfl
theorem _root_.Internal.nB {α:Type}{a:α}{G:Prop}(h:(Out.bad:Out α) = .ok a):G:=by cases h
theorem _root_.Internal.nE {α:Type}{a:α}{c:OX}{G:Prop}(h:(Out.exc c:Out α) = .ok a):G:=by cases h
theorem _root_.Internal.nN {α:Type}{a:α}{G:Prop}(h:(O2:O4 α)=qn a):G:=by cases h
theorem _root_.Internal.nM {α:Type}{a:α}{G:Prop}(h:qn a=(O2:O4 α)):G:=by cases h
theorem _root_.Internal.nF {G:Prop}(h:OZ=vk):G:=by cases h
theorem _root_.Internal.nT {G:Prop}(h:vk=OZ):G:=by cases h
theorem B0 {α β:Type}{o:Out α}{f:α->Out β}{b:β}(h:o.bind f = .ok b):∃ a,o = .ok a/\f a = .ok b:=by
 cases o with
 | ok a=>exact ⟨a,rfl,h⟩
 | exc c=>cases h
 | bad=>cases h
theorem bind_k {α β:Type}{o:Out α}{f:α->Out β}{b:β}{G:Prop}(h:o.bind f = .ok b) (k:∀ a,o = .ok a->f a = .ok b->G):G:=af (B0 h) k
end Out
inductive BOp where
 | add | sub | mul | fdiv | mod | pow | xor
 deriving DecidableEq
inductive COp where
 | eq | ne | lt | gt | ge | isin | notin | isnot
 deriving DecidableEq
inductive B1 where
 | len | list | tuple | sorted | max
 deriving DecidableEq
inductive B2 where
mutual
inductive E where
 | name (x:OX)
 | int (i:O3)
 | str (s:OX)
 | bool (b:PV)
 | none
 | bin (o:BOp) (a b:E)
 | neg (a:E)
 | not (a:E)
 | cmp (o:COp) (a b:E)
 | and (a b:E)
 | or (a b:E)
 | list (es:Es)
 | tup (es:Es)
 | edic
 | comp (elt:E) (x:OX) (it:It)
 | compif (elt:E) (x:OX) (it:It) (c:E)
 | sub (a i:E)
 | slo (a lo:E)
 | attr (a:E) (n:OX)
 | bi1 (f:B1) (a:E)
 | isi (a:E) (t:OX)
 | call (f:OX) (es:Es)
 | meth (a:E) (m:OX) (es:Es)
 | order (x t:OX)
inductive Es where
 | nil
 | cons (e:E) (es:Es)
inductive It where
 | e (a:E)
 | r1 (n:E)
 | r2 (a b:E)
end
abbrev St:=OX->O4 (V×Mode)
abbrev Calls:=OX->O4 (rg V->Out (V×Mode))
noncomputable def upd (σ:St) (x:OX) (v:V×Mode):St:=λy=>if y=x then qn v else σ y
noncomputable def isI:Pk->PV
 | .int _=>vk
 | _=>OZ
noncomputable def sx:Pk->PV
 | .none | .bool _ | .int _ | .str _=>vk
 | .tuple xs=>xs.all isI
 | .list _ | .dict _=>OZ
noncomputable def tV:V->PV
 | .d x=>sx x
 | _=>OZ
noncomputable def mk (v:V):V×Mode:=(v,if tV v then .deep else .sh)
noncomputable def fresh (xs:rg Pk):Mode:=if xs.all sx then .deep else .top
noncomputable def lim:Nat:=1000000
noncomputable def okc (d:Pk):Bool:=d.canLay0&&decide (d.depth<=64)
noncomputable def sI (i:O3):V×Mode:=(.d (.int i),.deep)
noncomputable def sB (b:PV):V×Mode:=(.d (.bool b),.deep)
noncomputable def cT:Pk->O4 O3
 | .int i=>qn i
 | _=>O2
noncomputable def aM:rg Pk->O4 (rg O3)
 | []=>qn []
 | .int i::r=>(aM r).map (i :: ·)
 | _::_=>O2
noncomputable def eV:Pk->O4 (rg O3)
 | .tuple xs=>aM xs
 | _=>O2
noncomputable def am (o:O4 α) (f:α->Out β):Out β:=match o with
 | some a=>f a
 | none=>.bad
@[simp] theorem eH (a:α) (f:α->Out β):am (qn a) f=f a:=rfl
theorem aW (h:am o f = .ok r):∃ a,o=qn a/\f a = .ok r:=by
 cases o with
 | some a=>exact ⟨a,rfl,h⟩
 | none=>cases h
theorem a0 {α β:Type}{o:O4 α}{f:α->Out β}{r:β}{G:Prop}(h:am o f = .ok r) (k:∀ a,o=qn a->f a = .ok r->G):G:=af (aW h) k
def NE (o:Out α):Prop:=∀ c,o≠.exc c
theorem NE.ok:NE (Out.ok a):=λuu h=>by cases h
theorem NE.bad:NE (Out.bad:Out α):=λuu h=>by cases h
theorem NE.calm {α:Type}{o:Out α}:NE o.calm:=λc h=>by cases o<;>cases h
theorem NE.opt (h:∀ a,NE (f a)):NE (am o f):=by
 cases o with
 | some a=>exact h a
 | none=>exact .bad
theorem NE.ite [Wt c] (ha:NE a) (hb:NE b):NE (if c then a else b):=by
 by_cases h:c
 ·rw[O1 h]; exact ha
 ·rw[OY h]; exact hb
theorem NE.bind (ho:NE o) (h:∀ a,NE (f a)):NE (o.bind f):=by
 cases o with
 | ok a=>exact h a
 | exc c=>exact Pq rfl (ho c)
 | bad=>exact .bad
noncomputable def asL:Pk->O4 (rg Pk)
 | .list xs=>qn xs
 | _=>O2
noncomputable def asD:V->O4 Pk
 | .d x=>qn x
 | _=>O2
@[simp] theorem kI (x:Pk):asD (.d x)=qn x:=rfl
noncomputable def isN:Pk->PV
 | .none=>vk
 | _=>OZ
theorem cJ (h:cT x=qn i):x = .int i:=by cases x<;>cases h; rfl
theorem cW (h:asL x=qn i):x = .list i:=by cases x<;>cases h; rfl
theorem bK (h:asD x=qn i):x = .d i:=by cases x<;>cases h; rfl
theorem B4 (h:isN x=vk):x = .none:=by cases x<;>first | rfl | cases h
noncomputable def i2 (x y:Pk) (f:O3->O3->Out β):Out β:=am (cT x) λa=>am (cT y) λb=>f a b
theorem fH (h:i2 x y f = .ok r):∃ a b,x = .int a/\y = .int b/\f a b = .ok r:=by
 refine a0 h λa i h=>?_
 refine a0 h λb g h=>?_
 exact ⟨a,b,cJ i,cJ g,h⟩
noncomputable def d2 (x y:V) (f:Pk->Pk->Out β):Out β:=am (asD x) λa=>am (asD y) λb=>f a b
theorem jB (h:d2 x y f = .ok r):∃ a b,x = .d a/\y = .d b/\f a b = .ok r:=by
 refine a0 h λa i h=>?_
 refine a0 h λb g h=>?_
 exact ⟨a,b,bK i,bK g,h⟩
noncomputable def qu (x y:Pk):Out (V×Mode):=match asL x with
 | some a=>am (asL y) λb=>if a.length+b.length<=lim then .ok (.d (.list (a++b)),fresh (a++b)) else .bad
 | none=>i2 x y λa b=>.ok (sI (a+b))
noncomputable def dR (o:BOp) (x y:Pk):Out (V×Mode):=match o with
 | .add=>qu x y
 | .sub=>i2 x y λa b=>.ok (sI (a-b))
 | .mul=>i2 x y λa b=>if a.natAbs<2^63\/b.natAbs<2^63 then .ok (sI (a*b)) else .bad
 | .fdiv=>i2 x y λa b=>if b=0\/1000000000<=b.natAbs then .bad else .ok (sI (a.fdiv b))
 | .mod=>i2 x y λa b=>if b=0 then .bad else .ok (sI (a.fmod b))
 | .pow=>i2 x y λa b=>if 0<=b/\b<=1000/\a.natAbs<2^63 then .ok (sI (a^b.toNat)) else .bad
 | .xor=>i2 x y λa b=>.ok (sI (UT a b))
theorem Bf:NE (dR o x y):=by
 have h:∀ (f:O3->O3->Out (V×Mode)),(∀ a b,NE (f a b))->NE (i2 x y f):=λf hf=>.opt λa=>.opt λb=>hf a b
 cases o with
 | add=>
  show NE (qu x y)
  unfold qu
  cases asL x with
  | some a=>exact .opt λb=>.ite .ok .bad
  | none=>exact h _ λuu uu=>.ok
 | sub=>exact h _ λuu uu=>.ok
 | mul=>exact h _ λuu uu=>.ite .ok .bad
 | fdiv=>exact h _ λuu uu=>.ite .bad .ok
 | mod=>exact h _ λuu uu=>.ite .bad .ok
 | pow=>exact h _ λuu uu=>.ite .ok .bad
 | xor=>exact h _ λuu uu=>.ok
noncomputable def inV (k:Pk) (c:V):Out Bool:=match c with
 | .d x=>am (asL x) λg=>if okc k&&okc (.list g) then .ok (g.any λy=>QQ y k) else .bad
 | .dicI ks=>am (cT k) λi=>.ok (decide (i∈ks))
 | .dicT ks=>am (eV k) λi=>.ok (decide (i∈ks))
 | .dic0=>if (cT k).isSome||(eV k).isSome then .ok OZ else .bad
 | .rule _ _ _=>.bad
theorem uZ:NE (inV k c):=by
 cases c with
 | d x=>exact .opt λuu=>.ite .ok .bad
 | dicI ks=>exact .opt λuu=>.ok
 | dicT ks=>exact .opt λuu=>.ok
 | dic0=>exact .ite .ok .bad
 | rule _ _ _=>exact .bad
noncomputable def cz (o:COp) (x y:V):Out Bool:=match o with
 | .eq=>d2 x y λa b=>if okc a&&okc b then .ok (QQ a b) else .bad
 | .ne=>d2 x y λa b=>if okc a&&okc b then .ok (!PyData.eqv a b) else .bad
 | .lt=>d2 x y λa b=>i2 a b λa b=>.ok (decide (a<b))
 | .gt=>d2 x y λa b=>i2 a b λa b=>.ok (decide (b<a))
 | .ge=>d2 x y λa b=>i2 a b λa b=>.ok (decide (b<=a))
 | .isin=>am (asD x) λk=>inV k y
 | .notin=>d2 x y λk c=>(inV k (.d c)).bind λb=>.ok (!b)
 | .isnot=>d2 x y λa b=>if isN b then .ok (!isN a) else .bad
theorem Cp:NE (cz o x y):=by
 have h:∀ (f:Pk->Pk->Out PV),(∀ a b,NE (f a b))->NE (d2 x y f):=λf hf=>.opt λa=>.opt λb=>hf a b
 cases o with
 | eq=>exact h _ λuu uu=>.ite .ok .bad
 | ne=>exact h _ λuu uu=>.ite .ok .bad
 | isin=>exact .opt λuu=>uZ
 | notin=>exact h _ λuu uu=>.bind uZ λuu=>.ok
 | isnot=>exact h _ λuu uu=>.ite .ok .bad
 | _=>exact h _ λuu uu=>.opt λuu=>.opt λuu=>.ok
noncomputable def bl (i:O3) (n:Pa):O4 Nat:=if 0<=i then (if i<n then qn i.toNat else O2) else (if -(n:O3)<=i then qn (i+n).toNat else O2)
noncomputable def asT:Pk->O4 (rg Pk)
 | .tuple xs=>qn xs
 | _=>O2
theorem mW (h:asT x=qn i):x = .tuple i:=by cases x<;>cases h; rfl
noncomputable def elem (x:Pk) (i:O3):O4 PyData:=match asL x with
 | some xs=>(bl i xs.length).bind λk=>xs[k]?
 | none=>match asT x with
  | some xs=>(bl i xs.length).bind λk=>xs[k]?
  | none=>O2
noncomputable def fy (x y:Pk):Out (V×Mode):=am (cT y) λi=>am (elem x i) λz=>.ok (mk (.d z))
theorem Br:NE (fy x y):=.opt λuu=>.opt λuu=>.ok
noncomputable def jG:Pk->Pk->Out (V×Mode)
 | .list xs,.int i=>if 0<=i/\i<2^62 then .ok (.d (.list (xs.drop i.toNat)),fresh (xs.drop i.toNat)) else .bad
 | _,_=>.bad
noncomputable def aa (xs:rg O3):PyData:=.list (xs.map .int)
noncomputable def aO (xs:rg O3):PyData:=.tuple (xs.map .int)
noncomputable def ag (t:rg (rg O3)):PyData:=.list (t.map aa)
noncomputable def ltL:rg O3->rg O3->PV
 | [],[]=>OZ
 | [],_::_=>vk
 | _::_,[]=>OZ
 | a::as,b::bs=>if a=b then ltL as bs else decide (a<b)
noncomputable def eP:rg Pk->O4 (rg (rg O3))
 | []=>qn []
 | x::r=>(eV x).bind λk=>(eP r).map (k :: ·)
noncomputable def bV (ks:rg (rg O3)):rg (rg O3):=ks.mergeSort λa b=>!ltL b a
noncomputable def gw (xs:rg Pk):Out (V×Mode):=match eP xs with
 | some ks=>if ks.length<2\/[]∉ks then .ok (.d (.list ((bV ks).map aO)),fresh ((bV ks).map aO)) else .bad
 | none=>.bad
theorem sL:NE (gw xs):=by
 unfold gw
 cases eP xs with
 | some ks=>exact .ite .ok .bad
 | none=>exact .bad
noncomputable def eF (xs:rg Pk):Out (V×Mode) :=
 if xs.length<64 then (match aM xs with
  | some g=>.ok (.d (aa (g.mergeSort (λa b=>decide (a<=b)))),.deep)
  | none=>gw xs)
 else if xs.length<128 then am (aM xs) λg=>if ∀ i∈g,0<=i then .ok (.d (aa (g.mergeSort (λa b=>decide (a<=b)))),.deep) else .bad
 else .bad
noncomputable def eU:rg O3->O4 O3
 | []=>O2
 | x::xs=>qn (xs.foldl (λa b=>if a<b then b else a) x)
noncomputable def b1D (f:B1) (v:V):Out (V×Mode):=am (asD v) λx=>match f with
 | .len=>(match asT x with
  | some g=>.ok (sI g.length)
  | none=>am (asL x) λg=>.ok (sI g.length))
 | .list=>(match asT x with
  | some g=>.ok (.d (.list g),fresh g)
  | none=>am (asL x) λg=>.ok (.d (.list g),fresh g))
 | .tuple=>am (asL x) λg=>.ok (.d (.tuple g),if g.all sx then .deep else .sh)
 | .sorted=>am (asL x) λg=>eF g
 | .max=>am (asL x) λg=>am ((aM g).bind eU) λi=>.ok (sI i)
theorem DN:NE (b1D f v):=.opt λx=>by
 cases f with
 | len=>
  show NE (match asT x with | some g=>Out.ok (sI g.length) | none=>am (asL x) λg=>.ok (sI g.length))
  cases asT x with
  | some g=>exact .ok
  | none=>exact .opt λuu=>.ok
 | list=>
  show NE (match asT x with | some g=>Out.ok (V.d (.list g),fresh g) | none=>am (asL x) λg=>.ok (V.d (.list g),fresh g))
  cases asT x with
  | some g=>exact .ok
  | none=>exact .opt λuu=>.ok
 | tuple=>exact .opt λuu=>.ok
 | sorted=>
  refine .opt λg=>.ite ?_ (.ite (.opt λuu=>.ite .ok .bad) .bad)
  cases aM g with
  | some ns=>exact .ok
  | none=>exact sL
 | max=>exact .opt λuu=>.opt λuu=>.ok
noncomputable def sM:V->O4 (rg (rg O3))
 | .dicT ks=>qn ks
 | _=>O2
theorem xV (h:sM v=qn ks):v = .dicT ks:=by
 cases v<;>cases h
 rfl
noncomputable def o6 (f:B1) (ks:rg (rg O3)):Out (V×Mode):=if f = .list/\ks.length<=lim then .ok (.d (.list (ks.map aO)),fresh (ks.map aO)) else .bad
noncomputable def b1V (f:B1) (v:V):Out (V×Mode):=match sM v with
 | some ks=>o6 f ks
 | none=>b1D f v
theorem DX:NE (b1V f v):=by
 unfold b1V
 cases sM v with
 | some ks=>exact .ite .ok .bad
 | none=>exact DN
noncomputable def qN:Pk->Pa
 | .none=>0
 | .bool _=>1
 | .int _=>2
 | .str _=>3
 | .list _=>4
 | .tuple _=>5
 | .dict _=>6
noncomputable def nj (t:OX) (k:Pa):O4 Bool :=
 if t = "int" then qn (k==2||k==1) else if t = "bool" then qn (k==1) else if t = "list" then qn (k==4) else if t = "tuple" then qn (k==5) else if t = "str" then qn (k==3) else O2
noncomputable def iA (v:V) (t:OX):Out Bool:=am (asD v) λx=>am (nj t (qN x)) .ok
theorem qq {t:OX}{k:Pa}{b:PV}{G:Prop}(h:nj t k=qn b) (c1:t = "int" -> (k==2||k==1)=b->G) (c2:t = "bool" -> (k==1)=b->G) (c3:t = "list" -> (k==4)=b->G) (c4:t = "tuple" -> (k==5)=b->G) (c5:t = "str" -> (k==3)=b->G):G:=by
 unfold nj at h
 by_cases q:t = "int"
 ·rw[O1 q] at h; exact c1 q (vj h)
 rw[OY q] at h
 by_cases q:t = "bool"
 ·rw[O1 q] at h; exact c2 q (vj h)
 rw[OY q] at h
 by_cases q:t = "list"
 ·rw[O1 q] at h; exact c3 q (vj h)
 rw[OY q] at h
 by_cases q:t = "tuple"
 ·rw[O1 q] at h; exact c4 q (vj h)
 rw[OY q] at h
 by_cases q:t = "str"
 ·rw[O1 q] at h; exact c5 q (vj h)
 rw[OY q] at h
 cases h
theorem yv (h:iA v t = .ok b):∃ x,v = .d x/\nj t (qN x)=qn b:=by
 obtain ⟨x,i,h⟩:=aW h
 obtain ⟨c,g,h⟩:=aW h
 exact ⟨x,bK i,by rw[g,Out.ok.inj h]⟩
theorem Cg:NE (iA v t):=.opt λuu=>.opt λuu=>.ok
noncomputable def au:V->Out PV
 | .d (.bool b)=>.ok b
 | _=>.bad
noncomputable def eM:V->O4 (O3×Pk×O3)
 | .rule c d n=>qn (c,d,n)
 | _=>O2
theorem lU (h:eM x=qn q):x = .rule q.1 q.2.1 q.2.2:=by cases x<;>cases h; rfl
noncomputable def k6 (x:V) (n:OX):Out (V×Mode):=am (eM x) λq=>if n = "count" then .ok (sI q.1) else if n = "full" then .ok (mk (.d q.2.1)) else if n = "size" then .ok (sI q.2.2) else .bad
theorem yC:NE (k6 x n):=.opt λuu=>.ite .ok (.ite .ok (.ite .ok .bad))
noncomputable def methNames:rg String:=["together", "rank", "need_full", "outs", "exchanges"]
noncomputable def aQ:rg String:=["PickError", "NoChoice", "NoThing", "NoExchange", "NoWeights", "NoRule"]
noncomputable def fieldNames:rg String:=["count", "full", "size"]
noncomputable def dF (a b:O3):rg PyData:=(QR (b-a).toNat).map λ(k:Pa)=>.int (a+k)
noncomputable def cC (a b:O3):Out (rg Pk×Mode) :=
 if (b-a).toNat<=lim/\-(2^60)<=a/\a<2^60/\-(2^60)<=b/\b<2^60 then .ok (dF a b,.deep) else .bad
noncomputable def bM (f:Pk->Out (O4 (V×Mode))):rg Pk->Out (rg Pk×PV)
 | []=>.ok ([],vk)
 | x::xs=>(f x).bind λr=>(bM f xs).bind λq=>match r with
  | none=>.ok q
  | some (.d y,m)=>.ok (y::q.1,decide (m = .deep)&&q.2)
  | some _=>.bad
noncomputable def b0:rg (V×Mode)->O4 (rg Pk)
 | []=>qn []
 | (.d x,_)::r=>(b0 r).map (x :: ·)
 | _::_=>O2
noncomputable def allDeep (l:rg (V×Mode)):Bool:=l.all λp=>decide (p.2 = .deep)
noncomputable def fZ:V->O4 (rg Pk)
 | .d (.list xs)=>qn xs
 | _=>O2
theorem im (h:fZ v=qn xs):v = .d (.list xs):=by
 unfold fZ at h
 split at h
 ·cases h; rfl
 ·cases h
noncomputable def itV (r:V×Mode):Out (rg Pk×Mode):=match fZ r.1 with
 | some xs=>.ok (xs,r.2)
 | none=>.bad
noncomputable def dT (ns:rg O3) (i:Pa):rg Int:=[-(ns.getD i 0),(i:O3)]
noncomputable def bz (ns:rg O3):rg Int:=(((QR ns.length).map λi=>(dT ns i,i)).mergeSort λa b=>!ltL b.1 a.1).map λp=>(p.2:O3)
noncomputable def fj (p:O4 (V×Mode)):Out (V×Mode):=am p λq=>am (asD q.1) λd=>am (asL d) λh=>am (aM h) λg=>if g.length<128 then .ok (.d (.list ((bz g).map .int)),.deep) else .bad
mutual
noncomputable def ev (C:Calls):E->St->Out (V×Mode)
 | .name x,σ=>match σ x with | some p=>.ok (mk p.1) | none=>.bad
 | .int i,_=>.ok (sI i)
 | .str s,_=>.ok (.d (.str (mL s)),.deep)
 | .bool b,_=>.ok (sB b)
 | .none,_=>.ok (.d .none,.deep)
 | .bin o a b,σ=>(ev C a σ).bind λx=>(ev C b σ).bind λy=>match x.1,y.1 with | .d x,.d y=>dR o x y | _,_=>.bad
 | .neg a,σ=>(ev C a σ).bind λx=>match x.1 with | .d (.int i)=>.ok (sI (-i)) | _=>.bad
 | .not a,σ=>(ev C a σ).bind λx=>(au x.1).bind λb=>.ok (sB (!b))
 | .cmp o a b,σ=>(ev C a σ).bind λx=>(ev C b σ).bind λy=>(cz o x.1 y.1).bind λb=>.ok (sB b)
 | .and a b,σ=>(ev C a σ).bind λx=>(au x.1).bind λt=>if t then (ev C b σ).bind λy=>(au y.1).bind λu=>.ok (sB u) else .ok (sB OZ)
 | .or a b,σ=>(ev C a σ).bind λx=>(au x.1).bind λt=>if t then .ok (sB vk) else (ev C b σ).bind λy=>(au y.1).bind λu=>.ok (sB u)
 | .list es,σ=>(evs C es σ).bind λl=>match b0 l with
  | some xs=>.ok (.d (.list xs),if allDeep l then .deep else .top)
  | none=>.bad
 | .tup es,σ=>(evs C es σ).bind λl=>match b0 l with
  | some xs=>.ok (.d (.tuple xs),if allDeep l then .deep else .sh)
  | none=>.bad
 | .edic,_=>.ok (.dic0,.deep)
 | .comp elt x it,σ=>(bw C it σ).bind λq=>(bM (λy=>(ev C elt (upd σ x (mk (.d y)))).bind λr=>.ok (qn r)) q.1).calm.bind λr=>.ok (.d (.list r.1),if r.2 then .deep else .top)
 | .compif elt x it c,σ=>(bw C it σ).bind λq=>(bM (λy=>(ev C c (upd σ x (mk (.d y)))).bind λt=>(au t.1).bind λb=>if b then (ev C elt (upd σ x (mk (.d y)))).bind λr=>.ok (qn r) else .ok O2) q.1).calm.bind λr=>.ok (.d (.list r.1),if r.2 then .deep else .top)
 | .sub a i,σ=>(ev C a σ).bind λx=>(ev C i σ).bind λy=>match x.1,y.1 with | .d x,.d y=>fy x y | _,_=>.bad
 | .slo a i,σ=>(ev C a σ).bind λx=>(ev C i σ).bind λy=>match x.1,y.1 with | .d x,.d y=>jG x y | _,_=>.bad
 | .attr a n,σ=>am (C "Rule") λuu=>(ev C a σ).bind λx=>k6 x.1 n
 | .bi1 f a,σ=>(ev C a σ).bind λx=>b1V f x.1
 | .isi a t,σ=>(ev C a σ).bind λx=>(iA x.1 t).bind λb=>.ok (sB b)
 | .call f es,σ=>match C f with
  | some g=>(evs C es σ).bind λl=>g (l.map (·.1))
  | none=>.bad
 | .meth a m es,σ=>(ev C a σ).bind λx=>am (eM x.1) λuu=>am (C m) λg=>(evs C es σ).bind λl=>g (x.1::l.map (·.1))
 | .order x _,σ=>am (C "law") λuu=>fj (σ x)
noncomputable def evs (C:Calls):Es->St->Out (rg (V×Mode))
 | .nil,_=>.ok []
 | .cons e es,σ=>(ev C e σ).bind λx=>(evs C es σ).bind λl=>.ok (x::l)
noncomputable def bw (C:Calls):It->St->Out (rg Pk×Mode)
 | .e a,σ=>(ev C a σ).bind itV
 | .r1 n,σ=>(ev C n σ).bind λx=>match x.1 with | .d (.int n)=>cC 0 n | _=>.bad
 | .r2 a b,σ=>(ev C a σ).bind λx=>(ev C b σ).bind λy=>match x.1,y.1 with | .d (.int a),.d (.int b)=>cC a b | _,_=>.bad
end
theorem cK (C:Calls) (x:OX) (σ:St):ev C (.name x) σ=(match σ x with | some p=>.ok (mk p.1) | none=>.bad):=rfl
theorem eY (C:Calls) (i:O3) (σ0:St):ev C (.int i) σ0=(.ok (sI i)):=rfl
theorem kF (C:Calls) (s:OX) (σ0:St):ev C (.str s) σ0=(.ok (.d (.str (mL s)),.deep)):=rfl
theorem hW (C:Calls) (b:PV) (σ0:St):ev C (.bool b) σ0=(.ok (sB b)):=rfl
theorem gV (C:Calls) (σ0:St):ev C .none σ0=(.ok (.d .none,.deep)):=rfl
theorem gB (C:Calls) (o:BOp) (a:E) (b:E) (σ:St):ev C (.bin o a b) σ=((ev C a σ).bind λx=>(ev C b σ).bind λy=>match x.1,y.1 with | .d x,.d y=>dR o x y | _,_=>.bad):=rfl
theorem gq (C:Calls) (a:E) (σ:St):ev C (.neg a) σ=((ev C a σ).bind λx=>match x.1 with | .d (.int i)=>.ok (sI (-i)) | _=>.bad):=rfl
theorem ei (C:Calls) (a:E) (σ:St):ev C (.not a) σ=((ev C a σ).bind λx=>(au x.1).bind λb=>.ok (sB (!b))):=rfl
theorem eJ (C:Calls) (o:COp) (a:E) (b:E) (σ:St):ev C (.cmp o a b) σ=((ev C a σ).bind λx=>(ev C b σ).bind λy=>(cz o x.1 y.1).bind λb=>.ok (sB b)):=rfl
theorem eu (C:Calls) (a:E) (b:E) (σ:St):ev C (.and a b) σ=((ev C a σ).bind λx=>(au x.1).bind λt=>if t then (ev C b σ).bind λy=>(au y.1).bind λu=>.ok (sB u) else .ok (sB OZ)):=rfl
theorem fN (C:Calls) (a:E) (b:E) (σ:St):ev C (.or a b) σ=((ev C a σ).bind λx=>(au x.1).bind λt=>if t then .ok (sB vk) else (ev C b σ).bind λy=>(au y.1).bind λu=>.ok (sB u)):=rfl
theorem bH (C:Calls) (es:Es) (σ:St):ev C (.list es) σ=((evs C es σ).bind λl=>match b0 l with
  | some xs=>.ok (.d (.list xs),if allDeep l then .deep else .top)
  | none=>.bad):=rfl
theorem eA (C:Calls) (es:Es) (σ:St):ev C (.tup es) σ=((evs C es σ).bind λl=>match b0 l with
  | some xs=>.ok (.d (.tuple xs),if allDeep l then .deep else .sh)
  | none=>.bad):=rfl
theorem gQ (C:Calls) (σ0:St):ev C .edic σ0=(.ok (.dic0,.deep)):=rfl
theorem d7 (C:Calls) (elt:E) (x:OX) (it:It) (σ:St):ev C (.comp elt x it) σ=((bw C it σ).bind λq=>(bM (λy=>(ev C elt (upd σ x (mk (.d y)))).bind λr=>.ok (qn r)) q.1).calm.bind λr=>.ok (.d (.list r.1),if r.2 then .deep else .top)):=rfl
theorem c6 (C:Calls) (elt:E) (x:OX) (it:It) (c:E) (σ:St):ev C (.compif elt x it c) σ=((bw C it σ).bind λq=>(bM (λy=>(ev C c (upd σ x (mk (.d y)))).bind λt=>(au t.1).bind λb=>if b then (ev C elt (upd σ x (mk (.d y)))).bind λr=>.ok (qn r) else .ok O2) q.1).calm.bind λr=>.ok (.d (.list r.1),if r.2 then .deep else .top)):=rfl
theorem fB (C:Calls) (a:E) (i:E) (σ:St):ev C (.sub a i) σ=((ev C a σ).bind λx=>(ev C i σ).bind λy=>match x.1,y.1 with | .d x,.d y=>fy x y | _,_=>.bad):=rfl
theorem gu (C:Calls) (a:E) (i:E) (σ:St):ev C (.slo a i) σ=((ev C a σ).bind λx=>(ev C i σ).bind λy=>match x.1,y.1 with | .d x,.d y=>jG x y | _,_=>.bad):=rfl
theorem e8 (C:Calls) (a:E) (n:OX) (σ:St):ev C (.attr a n) σ=(am (C "Rule") λuu=>(ev C a σ).bind λx=>k6 x.1 n):=rfl
theorem fo (C:Calls) (f:B1) (a:E) (σ:St):ev C (.bi1 f a) σ=((ev C a σ).bind λx=>b1V f x.1):=rfl
theorem gv (C:Calls) (a:E) (t:OX) (σ:St):ev C (.isi a t) σ=((ev C a σ).bind λx=>(iA x.1 t).bind λb=>.ok (sB b)):=rfl
theorem eZ (C:Calls) (f:OX) (es:Es) (σ:St):ev C (.call f es) σ=(match C f with
  | some g=>(evs C es σ).bind λl=>g (l.map (·.1))
  | none=>.bad):=rfl
theorem dl (C:Calls) (a:E) (m:OX) (es:Es) (σ:St):ev C (.meth a m es) σ=((ev C a σ).bind λx=>am (eM x.1) λuu=>am (C m) λg=>(evs C es σ).bind λl=>g (x.1::l.map (·.1))):=rfl
theorem fR (C:Calls) (x:OX) (z1:OX) (σ:St):ev C (.order x z1) σ=(am (C "law") λuu=>fj (σ x)):=rfl
theorem bg (C:Calls) (σ0:St):evs C .nil σ0=(.ok []):=rfl
theorem bk (C:Calls) (e:E) (es:Es) (σ:St):evs C (.cons e es) σ=((ev C e σ).bind λx=>(evs C es σ).bind λl=>.ok (x::l)):=rfl
theorem iL (C:Calls) (a:E) (σ:St):bw C (.e a) σ=((ev C a σ).bind itV):=rfl
theorem gP (C:Calls) (n:E) (σ:St):bw C (.r1 n) σ=((ev C n σ).bind λx=>match x.1 with | .d (.int n)=>cC 0 n | _=>.bad):=rfl
theorem gX (C:Calls) (a:E) (b:E) (σ:St):bw C (.r2 a b) σ=((ev C a σ).bind λx=>(ev C b σ).bind λy=>match x.1,y.1 with | .d (.int a),.d (.int b)=>cC a b | _,_=>.bad):=rfl
mutual
noncomputable def fv:E->rg OX
 | .name x=>[x]
 | .int _ | .str _ | .bool _ | .none | .edic=>[]
 | .bin _ a b | .cmp _ a b | .and a b | .or a b | .sub a b | .slo a b=>fv a++fv b
 | .neg a | .not a | .attr a _ | .bi1 _ a | .isi a _=>fv a
 | .list es | .tup es | .call _ es=>fvs es
 | .comp elt _ it=>bR it++fv elt
 | .compif elt _ it c=>bR it++(fv c++fv elt)
 | .meth a _ es=>fv a++fvs es
 | .order x _=>[x]
noncomputable def fvs:Es->rg OX
 | .nil=>[]
 | .cons e es=>fv e++fvs es
noncomputable def bR:It->rg OX
 | .e a=>fv a
 | .r1 n=>fv n
 | .r2 a b=>fv a++fv b
end
theorem dq (x:OX):fv (.name x)=([x]):=rfl
theorem BB (z0:O3):fv (.int z0)=([]):=rfl
theorem M8 (z0:OX):fv (.str z0)=([]):=rfl
theorem MF (z0:PV):fv (.bool z0)=([]):=rfl
theorem M6:fv .none=([]):=rfl
theorem LR:fv .edic=([]):=rfl
theorem Co (z0:BOp) (a:E) (b:E):fv (.bin z0 a b)=(fv a++fv b):=rfl
theorem Bj (z0:COp) (a:E) (b:E):fv (.cmp z0 a b)=(fv a++fv b):=rfl
theorem CJ (a:E) (b:E):fv (.and a b)=(fv a++fv b):=rfl
theorem C0 (a:E) (b:E):fv (.or a b)=(fv a++fv b):=rfl
theorem rS (a:E) (b:E):fv (.sub a b)=(fv a++fv b):=rfl
theorem B3 (a:E) (b:E):fv (.slo a b)=(fv a++fv b):=rfl
theorem BX (a:E):fv (.neg a)=(fv a):=rfl
theorem Ch (a:E):fv (.not a)=(fv a):=rfl
theorem x6 (a:E) (z1:OX):fv (.attr a z1)=(fv a):=rfl
theorem rN (z0:B1) (a:E):fv (.bi1 z0 a)=(fv a):=rfl
theorem Cd (a:E) (z1:OX):fv (.isi a z1)=(fv a):=rfl
theorem yd (es:Es):fv (.list es)=(fvs es):=rfl
theorem Bl (es:Es):fv (.tup es)=(fvs es):=rfl
theorem jj (z0:OX) (es:Es):fv (.call z0 es)=(fvs es):=rfl
theorem xK (elt:E) (z1:OX) (it:It):fv (.comp elt z1 it)=(bR it++fv elt):=rfl
theorem tD (elt:E) (z1:OX) (it:It) (c:E):fv (.compif elt z1 it c)=(bR it++(fv c++fv elt)):=rfl
theorem xE (a:E) (z1:OX) (es:Es):fv (.meth a z1 es)=(fv a++fvs es):=rfl
theorem vp (x:OX) (z1:OX):fv (.order x z1)=([x]):=rfl
theorem lw:fvs .nil=([]):=rfl
theorem il (e:E) (es:Es):fvs (.cons e es)=(fv e++fvs es):=rfl
theorem fg (a:E):bR (.e a)=(fv a):=rfl
theorem qQ (n:E):bR (.r1 n)=(fv n):=rfl
theorem yI (a:E) (b:E):bR (.r2 a b)=(fv a++fv b):=rfl
mutual
inductive S where
 | assign (x:OX) (e:E)
 | setitem (x:OX) (k:E)
 | append (x:OX) (e:E)
 | insert (x:OX) (i e:E)
 | pop (x:OX) (i:E)
 | expr (e:E)
 | ret (e:E)
 | retn (x:OX)
 | ite (c:E) (a b:Ss)
 | for1 (x:OX) (it:It) (b:Ss)
 | raise (c:OX)
 | tryS (b:S) (hs:rg (OX×O3))
 | bad
inductive Ss where
 | nil
 | cons (s:S) (r:Ss)
end
mutual
noncomputable def asg:S->rg OX
 | .assign x _ | .setitem x _ | .append x _ | .insert x _ _ | .pop x _=>[x]
 | .expr _ | .ret _ | .retn _ | .raise _ | .bad=>[]
 | .ite _ a b=>iF a++iF b
 | .for1 x _ b=>x::iF b
 | .tryS b _=>asg b
noncomputable def iF:Ss->rg OX
 | .nil=>[]
 | .cons s r=>asg s++iF r
end
inductive Flw where
 | next
 | ret (v:V×Mode)
noncomputable def demote (σ:St) (ns:rg OX):St:=λy=>if y∈ns then (σ y).map λp=>mk p.1 else σ y
noncomputable def consume (σ:St) (ns:rg OX) (m:Mode):St:=if m = .deep then σ else demote σ ns
noncomputable def cR (f:Pk->St->Out (St×Flw)):rg Pk->St->Out (St×Flw)
 | [],σ=>.ok (σ,.next)
 | x::xs,σ=>(f x σ).bind λr=>match r.2 with
  | .next=>cR f xs r.1
  | .ret v=>.ok (r.1,.ret v)
noncomputable def jW (σ:St) (x:OX) (ns:rg OX) (mx:Mode) (xs:rg Pk) (m:Mode):Out (St×Flw) :=
 if xs.length<=lim then
  if m = .deep then .ok (upd σ x (.d (.list xs),mx),.next)
  else if x∈ns then .bad else .ok (upd (demote σ ns) x (.d (.list xs),.top),.next)
 else .bad
noncomputable def iD (σ:St) (x:OX):V->Pk->Out (St×Flw)
 | .dic0,k=>match cT k with
  | some i=>.ok (upd σ x (.dicI [i],.deep),.next)
  | none=>match eV k with
   | some t=>.ok (upd σ x (.dicT [t],.deep),.next)
   | none=>.bad
 | .dicI ks,k=>match cT k with
  | some i=>if ks.length<=lim then .ok (upd σ x (.dicI (if i∈ks then ks else ks++[i]),.deep),.next) else .bad
  | none=>.bad
 | .dicT ks,k=>match eV k with
  | some i=>if ks.length<=lim then .ok (upd σ x (.dicT (if i∈ks then ks else ks++[i]),.deep),.next) else .bad
  | none=>.bad
 | _,_=>.bad
noncomputable def jf:E->PV
 | .comp _ _ _ | .compif _ _ _ _=>vk
 | _=>OZ
noncomputable def evA (C:Calls) (e:E) (σ:St):Out (V×Mode):=if jf e then (ev C e σ).calm else ev C e σ
theorem jY (h:ev C e σ = .ok r):evA C e σ = .ok r:=by
 unfold evA; rw[h]; split<;>rfl
theorem Dt (h:evA C e σ = .ok r):ev C e σ = .ok r:=by
 unfold evA at h
 split at h
 ·cases q:ev C e σ with
  | ok a=>rw[q] at h; exact h
  | exc c=>rw[q] at h; cases h
  | bad=>rw[q] at h; cases h
 ·exact h
theorem sq (h:evA C e σ = .exc c):ev C e σ = .exc c/\jf e=false:=by
 unfold evA at h
 split at h
 ·cases q:ev C e σ<;>rw[q] at h<;>cases h
 ·rename_i q
  exact ⟨h,by cases hc:jf e with | true=>exact Pq hc q | false=>rfl⟩
noncomputable def lL (C:Calls) (c:OX):rg (OX×O3)->St->Out (St×Flw)
 | [],_=>.bad
 | p::r,σ=>am (C p.1) λuu=>if p.1∈aQ then (if p.1=c\/p.1 = "PickError" then .ok (σ,.ret (sI p.2)) else lL C c r σ) else .bad
noncomputable def w2:S->PV
 | .expr _ | .assign _ _=>vk
 | _=>OZ
noncomputable def orH (C:Calls) (b:S) (hs:rg (OX×O3)) (σ:St):Out (St×Flw)->Out (St×Flw)
 | .ok r=>.ok r
 | .exc c=>if w2 b then lL C c hs σ else .bad
 | .bad=>.bad
mutual
noncomputable def ex (C:Calls):S->St->Out (St×Flw)
 | .assign x e,g=>(evA C e g).bind λr=>.ok (upd (consume g (fv e) r.2) x r,.next)
 | .setitem x k,g=>((ev C k g).bind λr=>am (asD r.1) λd=>am (g x) λp=>if p.2 = .deep then iD g x p.1 d else .bad).calm
 | .append x e,g=>((ev C e g).bind λr=>am (asD r.1) λy=>am (g x) λp=>am (fZ p.1) λh=>if p.2 = .sh then .bad else jW g x (fv e) p.2 (h++[y]) r.2).calm
 | .insert x i e,g=>((ev C i g).bind λq=>(ev C e g).bind λr=>am (asD q.1) λd=>am (cT d) λi=>am (asD r.1) λy=>am (g x) λp=>am (fZ p.1) λh=>if p.2 = .sh\/i<0\/(h.length:O3)<i then .bad else jW g x (fv e) p.2 (h.take i.toNat++y::h.drop i.toNat) r.2).calm
 | .pop x i,g=>((ev C i g).bind λq=>am (asD q.1) λd=>am (cT d) λi=>am (g x) λp=>am (fZ p.1) λh=>if p.2 = .sh\/i<0\/(h.length:O3)<=i then .bad else .ok (upd g x (.d (.list (h.eraseIdx i.toNat)),.top),.next)).calm
 | .expr e,g=>(ev C e g).bind λr=>.ok (consume g (fv e) r.2,.next)
 | .retn x,g=>match g x with
  | some r=>.ok (g,.ret r)
  | none=>.bad
 | .ret e,g=>(ev C e g).bind λr=>.ok (g,.ret r)
 | .ite c a b,g=>(ev C c g).bind λr=>(au r.1).bind λt=>if t then exs C a g else exs C b g
 | .for1 x it b,g=>(bw C it g).bind λq=>cR (λy g=>exs C b (upd g x (mk (.d y)))) q.1 (consume g (bR it) q.2)
 | .raise c,_=>am (C c) λuu=>if c∈aQ then .exc c else .bad
 | .tryS b hs,g=>orH C b hs g (ex C b g)
 | .bad,_=>.bad
noncomputable def exs (C:Calls):Ss->St->Out (St×Flw)
 | .nil,σ=>.ok (σ,.next)
 | .cons s r,σ=>(ex C s σ).bind λq=>match q.2 with
  | .next=>exs C r q.1
  | .ret v=>.ok (q.1,.ret v)
end
theorem bt (C:Calls) (x:OX) (e:E) (σ:St):ex C (.assign x e) σ=((evA C e σ).bind λr=>.ok (upd (consume σ (fv e) r.2) x r,.next)):=rfl
theorem db (C:Calls) (x:OX) (k:E) (σ:St):ex C (.setitem x k) σ=((ev C k σ).bind λr=>am (asD r.1) λd=>am (σ x) λp=>if p.2 = .deep then iD σ x p.1 d else .bad).calm:=rfl
theorem eL (C:Calls) (x:OX) (e:E) (σ:St):ex C (.append x e) σ=((ev C e σ).bind λr=>am (asD r.1) λy=>am (σ x) λp=>am (fZ p.1) λxs=>if p.2 = .sh then .bad else jW σ x (fv e) p.2 (xs++[y]) r.2).calm:=rfl
theorem jv (C:Calls) (x:OX) (i:E) (e:E) (σ:St):ex C (.insert x i e) σ=((ev C i σ).bind λq=>(ev C e σ).bind λr=>am (asD q.1) λd=>am (cT d) λi=>am (asD r.1) λy=>am (σ x) λp=>am (fZ p.1) λxs=>if p.2 = .sh\/i<0\/(xs.length:O3)<i then .bad else jW σ x (fv e) p.2 (xs.take i.toNat++y::xs.drop i.toNat) r.2).calm:=rfl
theorem nr (C:Calls) (x:OX) (i:E) (σ:St):ex C (.pop x i) σ=((ev C i σ).bind λq=>am (asD q.1) λd=>am (cT d) λi=>am (σ x) λp=>am (fZ p.1) λxs=>if p.2 = .sh\/i<0\/(xs.length:O3)<=i then .bad else .ok (upd σ x (.d (.list (xs.eraseIdx i.toNat)),.top),.next)).calm:=rfl
theorem dz (C:Calls) (e:E) (σ:St):ex C (.expr e) σ=((ev C e σ).bind λr=>.ok (consume σ (fv e) r.2,.next)):=rfl
theorem ls (C:Calls) (x:OX) (σ:St):ex C (.retn x) σ=(match σ x with
  | some r=>.ok (σ,.ret r)
  | none=>.bad):=rfl
theorem je (C:Calls) (e:E) (σ:St):ex C (.ret e) σ=((ev C e σ).bind λr=>.ok (σ,.ret r)):=rfl
theorem eB (C:Calls) (c:E) (a:Ss) (b:Ss) (σ:St):ex C (.ite c a b) σ=((ev C c σ).bind λr=>(au r.1).bind λt=>if t then exs C a σ else exs C b σ):=rfl
theorem pH (C:Calls) (x:OX) (it:It) (b:Ss) (σ:St):ex C (.for1 x it b) σ=((bw C it σ).bind λq=>cR (λy σ=>exs C b (upd σ x (mk (.d y)))) q.1 (consume σ (bR it) q.2)):=rfl
theorem dk (C:Calls) (c:OX) (σ0:St):ex C (.raise c) σ0=(am (C c) λuu=>if c∈aQ then .exc c else .bad):=rfl
theorem lH (C:Calls) (b:S) (hs:rg (OX×O3)) (σ:St):ex C (.tryS b hs) σ=(orH C b hs σ (ex C b σ)):=rfl
theorem B6 (C:Calls) (σ0:St):ex C .bad σ0=(.bad):=rfl
theorem cq (C:Calls) (σ:St):exs C .nil σ=(.ok (σ,.next)):=rfl
theorem bf (C:Calls) (s:S) (r:Ss) (σ:St):exs C (.cons s r) σ=((ex C s σ).bind λq=>match q.2 with
  | .next=>exs C r q.1
  | .ret v=>.ok (q.1,.ret v)):=rfl
structure Fn where
 params:rg OX
 body:Ss
noncomputable def bq:rg OX->rg V->O4 St
 | [],[]=>qn λuu=>O2
 | p::ps,v::vs=>(bq ps vs).map λg=>upd g p (mk v)
 | _,_=>O2
noncomputable def av (C:Calls) (f:Fn) (vs:rg V):Out (V×Mode):=match bq f.params vs with
 | some σ=>(exs C f.body σ).bind λr=>match r.2 with
  | .ret v=>.ok v
  | .next=>.ok (.d .none,.deep)
 | none=>.bad
noncomputable def aA (C:Calls):Calls:=λf=>if f = "law" then O2 else C f
noncomputable def fQ (σ:St):Out (V×Mode):=am (σ "count") λp=>am (asD p.1) λc=>am (cT c) λc=>am (σ "full") λq=>am (asD q.1) λd=>am (asL d) λg=>am (g[0]?) λx=>am (asL x) λh=>
 if q.2 = .deep then .ok (.rule c (.list g) h.length,.deep) else .bad
noncomputable def dC (C:Calls) (f:Fn) (vs:rg V):Out (V×Mode):=match bq f.params vs with
 | some σ=>(exs C f.body σ).bind λr=>match r.2 with
  | .next=>fQ r.1
  | .ret _=>.bad
 | none=>.bad
noncomputable def ce (f:OX) (C:Calls) (fn:Fn) (vs:rg V):Out (V×Mode):=if f = "Rule" then dC (aA C) fn vs else if f∈methNames then av (aA C) fn vs else av C fn vs
noncomputable def mkC (L:rg (OX×Fn)):Pa->Calls
 | 0=>λuu=>O2
 | n+1=>λf=>(L.lookup f).map λh g=>ce f (mkC L n) h g
open PyProof.Rows
mutual
inductive R (h:P9):Lt->Pk->rg Pz->Prop
 | none:R h .none .none []
 | bool (b:PV):R h (.bool b) (.bool b) []
 | int (i:O3) (t:Tok):R h (.int i t) (.int i) []
 | str (x:Str) (t:Tok):R h (.str x t) (.str x) []
 | list {a:Pz}{n:Pa}{xs:rg Pk}{as:rg Pz}{vs:rg Lt}:h.get? a=qn ⟨.type "list", Ru,.seq vs.toArray n,#[]⟩->RA h vs xs as->R h (.ref a) (.list xs) (a::as)
 | tuple {a:Pz}{n:Pa}{xs:rg Pk}{as:rg Pz}{vs:rg Lt}:h.get? a=qn ⟨.type "tuple", Ru,.seq vs.toArray n,#[]⟩->RA h vs xs as->R h (.ref a) (.tuple xs) as
inductive RA (h:P9):rg Lt->rg Pk->rg Pz->Prop
 | nil:RA h [] [] []
 | cons {v:Lt}{vs:rg Lt}{d:Pk}{ds:rg Pk}{as bs:rg Pz}:R h v d as->RA h vs ds bs->RA h (v::vs) (d::ds) (as++bs)
end
theorem R.ind {h:P9}{M:Lt->Pk->rg Pz->Prop}{N:rg Lt->rg Pk->rg Pz->Prop}(h1:M .none .none []) (h2:∀ b,M (.bool b) (.bool b) []) (h3:∀ i t,M (.int i t) (.int i) []) (h4:∀ x t,M (.str x t) (.str x) [])
  (h5:∀ {a:Pz}{n:Pa}{xs:rg Pk}{as:rg Pz}{vs:rg Lt},h.get? a=qn ⟨.type "list", Ru,.seq vs.toArray n,#[]⟩->RA h vs xs as->N vs xs as->M (.ref a) (.list xs) (a::as))
  (h6:∀ {a:Pz}{n:Pa}{xs:rg Pk}{as:rg Pz}{vs:rg Lt},h.get? a=qn ⟨.type "tuple", Ru,.seq vs.toArray n,#[]⟩->RA h vs xs as->N vs xs as->M (.ref a) (.tuple xs) as)
  (h7:N [] [] []) (h8:∀ {v:Lt}{vs:rg Lt}{d:Pk}{ds:rg Pk}{as bs:rg Pz},R h v d as->RA h vs ds bs->M v d as->N vs ds bs->N (v::vs) (d::ds) (as++bs)) :
  (∀ {v:Lt}{d:Pk}{as:rg Pz},R h v d as->M v d as)/\(∀ {vs:rg Lt}{ds:rg Pk}{as:rg Pz},RA h vs ds as->N vs ds as) :=
 ⟨λr=>R.rec (motive_1:=λv d as _=>M v d as) (motive_2:=λvs ds as _=>N vs ds as) h1 h2 h3 h4 (λe r i=>h5 e r i) (λe r i=>h6 e r i) h7 (λx r i j=>h8 x r i j) r,
  λr=>RA.rec (motive_1:=λv d as _=>M v d as) (motive_2:=λvs ds as _=>N vs ds as) h1 h2 h3 h4 (λe r i=>h5 e r i) (λe r i=>h6 e r i) h7 (λx r i j=>h8 x r i j) r⟩
theorem RA.ind {h:P9}{N:rg Lt->rg Pk->rg Pz->Prop}(h7:N [] [] []) (h8:∀ {v:Lt}{vs:rg Lt}{d:Pk}{ds:rg Pk}{as bs:rg Pz},R h v d as->RA h vs ds bs->N vs ds bs->N (v::vs) (d::ds) (as++bs))
  {vs:rg Lt}{ds:rg Pk}{as:rg Pz}(r:RA h vs ds as):N vs ds as :=
 (R.ind (M:=λuu uu uu=>Wa) (N:=N) trivial (λuu=>trivial) (λuu uu=>trivial) (λuu uu=>trivial) (λuu uu uu=>trivial) (λuu uu uu=>trivial) h7 λx r _ j=>h8 x r j).2 r
noncomputable def Kps (h h':P9) (as:rg Pz):Prop:=∀ b o,(b∈as\/o.cls = .type "tuple")->(∃ vs n,o.data = .seq vs n)->h.get? b=qn o->h'.get? b=qn o
theorem R.onB:(∀ {v:Lt}{d:Pk}{as:rg Pz},R h v d as->Kps h h' as->R h' v d as)/\(∀ {vs:rg Lt}{ds:rg Pk}{as:rg Pz},RA h vs ds as->Kps h h' as->RA h' vs ds as) :=
 R.ind (M:=λv d as=>Kps h h' as->R h' v d as) (N:=λvs ds as=>Kps h h' as->RA h' vs ds as) (λuu=>.none) (λb _=>.bool b) (λi t _=>.int i t) (λx t _=>.str x t)
  (λe _ l k=>.list (k _ _ (.inl (.head _)) (bN _ _ rfl) e) (l λb o g=>k b o (g.imp (.tail _) id))) (λe _ l k=>.tuple (k _ _ (.inr rfl) (bN _ _ rfl) e) (l k))
  (λuu=>.nil) (λuu uu i j k=>.cons (i λb o g=>k b o (g.imp (PX _) id)) (j λb o g=>k b o (g.imp (P5 _) id)))
section
theorem R.on2 (r:R h v d as) (k:∀ b o,(b∈as\/o.cls = .type "tuple")->(∃ vs n,o.data = .seq vs n)->h.get? b=qn o->h'.get? b=qn o):R h' v d as:=R.onB.1 r k
theorem RA.on2 (r:RA h vs ds as) (k:∀ b o,(b∈as\/o.cls = .type "tuple")->(∃ vs n,o.data = .seq vs n)->h.get? b=qn o->h'.get? b=qn o):RA h' vs ds as:=R.onB.2 r k
theorem R.on (r:R h v d as) (k:∀ b o,(b∈as\/o.cls = .type "tuple")->h.get? b=qn o->h'.get? b=qn o):R h' v d as:=r.on2 λb o q _=>k b o q
theorem RA.on (r:RA h vs ds as) (k:∀ b o,(b∈as\/o.cls = .type "tuple")->h.get? b=qn o->h'.get? b=qn o):RA h' vs ds as:=r.on2 λb o q _=>k b o q
end
noncomputable def Off (h:P9) (as wr:rg Pz):Prop:=∀ b∈wr,∀ o,h.get? b=qn o->(∀ vs n,o.data≠.seq vs n)\/(o.cls≠.type "tuple" /\ b∉as)
theorem R.off (r:R h v d as) (hw:Off h as wr) (kp:∀ b o,b∉wr->h.get? b=qn o->h'.get? b=qn o):R h' v d as :=
 r.on2 λb o k ⟨i,n,e⟩ g=>kp b o (λj=>(hw b j o g).elim (λq=>q i n e) λq=>k.elim q.2 q.1) g
theorem RA.off (r:RA h vs ds as) (hw:Off h as wr) (kp:∀ b o,b∉wr->h.get? b=qn o->h'.get? b=qn o):RA h' vs ds as :=
 r.on2 λb o j ⟨vs,n,e⟩ g=>kp b o (λi=>(hw b i o g).elim (λq=>q vs n e) λq=>j.elim q.2 q.1) g
section
theorem R.keep (r:R h v d as) (k:∀ b o,h.get? b=qn o->h'.get? b=qn o):R h' v d as:=r.on λb o _=>k b o
theorem RA.keep (r:RA h vs ds as) (k:∀ b o,h.get? b=qn o->h'.get? b=qn o):RA h' vs ds as:=r.on λb o _=>k b o
end
theorem R.readsB:(∀ {v:Lt}{d:Pk}{as:rg Pz},R h v d as->Reads h v d as)/\(∀ {vs:rg Lt}{ds:rg Pk}{as:rg Pz},RA h vs ds as->ReadsAll h vs ds as) :=
 R.ind (M:=λv d as=>Reads h v d as) (N:=λvs ds as=>ReadsAll h vs ds as) .none (λb=>.bool b) (λi t=>.int i t) (λx t=>.str x t) (λe _ i=>.list e rfl rfl (by simpa using i)) (λe _ i=>.tuple e rfl rfl (by simpa using i)) .nil (λuu uu i j=>.cons i j)
theorem R.reads (r:R h v d as):Reads h v d as:=R.readsB.1 r
noncomputable def o8 (h:P9) (as:rg Pz):Prop:=∀ a∈as,∃ vs n,h.get? a=qn ⟨.type "list", Ru,.seq vs n,#[]⟩
theorem R.thereB:(∀ {v:Lt}{d:Pk}{as:rg Pz},R h v d as->o8 h as)/\(∀ {vs:rg Lt}{ds:rg Pk}{as:rg Pz},RA h vs ds as->o8 h as) :=
 R.ind (M:=λuu uu as=>o8 h as) (N:=λuu uu as=>o8 h as) (λuu g=>nomatch g) (λuu uu g=>nomatch g) (λuu uu uu g=>nomatch g) (λuu uu uu g=>nomatch g)
  (λe _ i a g=>(PC.mp g).elim (λq=>q▸(bN _ _ e)) (i a)) (λuu uu i=>i) (λuu g=>nomatch g) (λuu uu i j a g=>(Pu.mp g).elim (i a) (j a))
theorem R.there (r:R h v d as):∀ a∈as,∃ vs n,h.get? a=qn ⟨.type "list", Ru,.seq vs n,#[]⟩:=R.thereB.1 r
theorem RA.there (r:RA h vs ds as):∀ a∈as,∃ vs n,h.get? a=qn ⟨.type "list", Ru,.seq vs n,#[]⟩:=R.thereB.2 r
theorem R.isInt (r:R h v (.int i) as):∃ t,v = .int i t/\as=[]:=by
 cases r; exact (ah _ rfl rfl)
theorem R.isInt_k {h:P9}{v:Lt}{i:O3}{as:rg Pz}{G:Prop}(r:R h v (.int i) as) (k:∀ t,v = .int i t->as=[]->G):G:=af (R.isInt r) k
theorem R.isBool (r:R h v (.bool b) as):v = .bool b/\as=[]:=by
 cases r; exact ⟨rfl,rfl⟩
theorem R.isNone (r:R h v .none as):v = .none/\as=[]:=by
 cases r; exact ⟨rfl,rfl⟩
theorem R.isI_nil (r:R h v d as) (hs:isI d=vk):as=[]:=by
 cases d with
 | int i=>exact R.isInt_k r λ_ _ e=>e
 | _=>exact nF hs
theorem RA.isI_nil (r:RA h vs ds as):ds.all isI=vk->as=[] :=
 RA.ind (N:=λuu ds as=>ds.all isI=vk->as=[]) (λuu=>rfl) (λx _ i g=>by
  refine dU (show (isI _&&Jap _ isI)=vk from g) λk j=>?_
  rw[x.isI_nil k,i j]; rfl) r
theorem R.sx_nil (r:R h v d as) (hs:sx d=vk):as=[]:=by
 cases r with
 | tuple e ra=>exact ra.isI_nil hs
 | list=>exact nF hs
 | _=>rfl
theorem RA.length (r:RA h vs ds as):vs.length=ds.length :=
 RA.ind (N:=λvs ds _=>vs.length=ds.length) rfl (λuu uu i=>R2 (· + 1) i) r
theorem RA.append (r:RA h vs ds as) (q:RA h ws es bs):RA h (vs++ws) (ds++es) (as++bs) :=
 RA.ind (N:=λvs ds as=>RA h (vs++ws) (ds++es) (as++bs)) q (λx _ i=>by rw[QX]; exact .cons x i) r
theorem RA.sx_nil (r:RA h vs ds as):ds.all sx=vk->as=[] :=
 RA.ind (N:=λuu ds as=>ds.all sx=vk->as=[]) (λuu=>rfl) (λx _ i g=>by
  refine dU (show (sx _&&Jap _ sx)=vk from g) λk j=>?_
  rw[x.sx_nil k,i j]; rfl) r
theorem RA.get (r:RA h vs ds as):∀ {k:Pa}{d:Pk},ds[k]? = qn d->∃ v bs,vs[k]? = qn v/\R h v d bs/\∀ b∈bs,b∈as:=by
 have g:∀ (k:Pa) (d:Pk),ds[k]? = qn d->∃ v bs,vs[k]? = qn v/\R h v d bs/\∀ b∈bs,b∈as:=by
  refine RA.ind (N:=λvs ds as=>∀ (k:Pa) (d:Pk),ds[k]? = qn d->∃ v bs,vs[k]? = qn v/\R h v d bs/\∀ b∈bs,b∈as) (λk d hk=>by cases hk) (λx _ i k d hk=>?_) r
  cases k with
  | zero=>(have l:=vj hk; clear hk; subst l); exact (aP _ _ rfl x (λb j=>PX _ j))
  | succ k=>
   refine ay (i k d hk) λv bs o n m=>?_
   exact (aP v bs o n (λb j=>P5 _ (m b j)))
 exact λ{k d}=>g k d
theorem RA.get' {h:P9}{vs:rg Lt}{ds:rg Pk}{as:rg Pz}(r:RA h vs ds as) {k:Pa}{v:Lt}(hk:vs[k]? = qn v):∃ d bs,ds[k]? = qn d/\R h v d bs/\∀ b∈bs,b∈as:=by
 have i:k<ds.length:=by rw[<- r.length]; exact (P3.mp hk).1
 refine ay (r.get (Pp i)) λn bs g m l=>?_
 rw[hk] at g; (have j:=vj g; clear g; subst j)
 exact (aP _ bs (Pp i) m l)
theorem RA.drop (n:Pa) (r:RA h vs ds as):∃ bs,RA h (vs.drop n) (ds.drop n) bs/\(∀ b∈bs,b∈as):=by
 refine RA.ind (N:=λvs ds as=>∀ n,∃ bs,RA h (vs.drop n) (ds.drop n) bs/\(∀ b∈bs,b∈as)) (λn=>(ah ([]) (by rw[W5,W5]; exact .nil) (λuu g=>nomatch g))) (λx r i n=>?_) r n
 cases n with
 | zero=>exact (ah _ (.cons x r) (λuu g=>g))
 | succ n=>
  refine af (i n) λbs q j=>?_
  exact (ah bs q (λb g=>P5 _ (j b g)))
theorem RA.ints (r:RA h vs ds as) (e:aM ds=qn ns):Ry vs ns/\as=[]/\ds=ns.map .int:=by
 refine RA.ind (N:=λvs ds as=>∀ ns,aM ds=qn ns->Ry vs ns/\as=[]/\ds=ns.map .int) (λns e=>?_) (λ{v vs d ds as p} x r i ns e=>?_) r ns e
 ·(have m:=vj e; clear e; subst m); exact ⟨.nil,rfl,rfl⟩
 ·cases x with
  | int j t=>
   refine bI (show (aM ds).map (j :: ·)=qn ns from e) λn o l=>?_
   (clear e; subst l)
   refine aI (i n o) λa k g=>?_
   (clear i r; subst k)
   subst g
   exact ⟨.cons j t a,rfl,rfl⟩
  | _=>exact nN e
theorem RA.of_ints (r:Ry vs ns):RA h vs (ns.map .int) []:=by
 induction r with
 | nil=>exact .nil
 | cons i t r ih=>exact .cons (as:=[]) (.int i t) ih
mutual
noncomputable def sz:Pk->PV
 | .none | .bool _ | .int _=>vk
 | .str x=>decide (x.length<=2^22)
 | .list xs | .tuple xs=>decide (xs.length<=2^22)&&szs xs
 | .dict _=>OZ
noncomputable def szs:rg Pk->PV
 | []=>vk
 | x::xs=>sz x&&szs xs
end
theorem sA:szs xs=vk↔∀ x∈xs,sz x=true:=by
 induction xs with
 | nil=>simp[szs]
 | cons x xs ih=>simp[szs,ih]
theorem sz_list:sz (.list xs)=vk↔xs.length<=2^22/\∀ x∈xs,sz x=true:=by simp[sz,sA]
theorem sz_tuple:sz (.tuple xs)=vk↔xs.length<=2^22/\∀ x∈xs,sz x=true:=by simp[sz,sA]
theorem gS (ns:rg O3):∀ x∈ns.map PA,sz x=true:=by
 intro x hx; obtain ⟨i,_,rfl⟩:=T1.mp hx; rfl
noncomputable def varK (ns:rg (Str×P6)) (x:OX):Bool:=!(mL x==mL ".0")&&(match ns.lookup (mL x) with
 | some .local | some .cell | some .free=>vk
 | _=>OZ)
noncomputable def cb (ns:rg (Str×P6)) (x:OX):Bool:=ns.lookup (mL x)==qn .globalImplicit
noncomputable def aZ (x:OX):Bool:=!(mL x==("__debug__" : Str)) && !(mL x==("__classdict__" : Str))
noncomputable def bOp:BOp->Yn
 | .add=>.Add | .sub=>.Sub | .mul=>.Mult | .fdiv=>.FloorDiv | .mod=>.Mod | .pow=>.Pow | .xor=>.BitXor
noncomputable def cOp:COp->CmpOp
 | .eq=>.Eq | .ne=>.NotEq | .lt=>.Lt | .gt=>.Gt | .ge=>.GtE | .isin=>.In | .notin=>.NotIn | .isnot=>.IsNot
noncomputable def opB (o:BOp) (p:Yn):Bool:=decide (p=bOp o)
noncomputable def opC (o:COp) (p:CmpOp):Bool:=decide (p=cOp o)
noncomputable def b1n:B1->OX
 | .len => "len" | .list => "list" | .tuple => "tuple" | .sorted => "sorted" | .max => "max"
noncomputable def fW (outer inner:rg (Str×P6)):rg (Str×P6) :=
 inner.map λ(n,k)=>if k == .free&&outer.lookup n==qn .cell then (n,.cell) else (n,k)
noncomputable def iJ (ns:rg (Str×P6)) (sc:Scope) (x:OX):Bool :=
 sc.kind == .function&&decide ((sc.names.map (·.1)).Nodup)&&(sc.names.lookup (mL x)==qn .local||sc.names.lookup (mL x)==qn .cell) &&
 sc.names.all λp=>(p.2 == .local&&(p.1==mL x||p.1==mL ".0"))||p.2 == .globalImplicit||(p.2 == .cell&&p.1==mL x)||(p.2 == .free&&(ns.lookup p.1==qn .cell||ns.lookup p.1==qn .free))
noncomputable def ao (o:O4 α) (f:α->PV):Bool:=match o with
 | some a=>f a
 | none=>OZ
theorem jx (h:ao o f=vk):∃ a,o=qn a/\f a=true:=by
 cases o with
 | none=>exact nF h
 | some a=>exact (ah a rfl h)
theorem aj {α:Type}{o:O4 α}{f:α->PV}{G:Prop}(h:ao o f=vk) (k:∀ a,o=qn a->f a=vk->G):G:=af (jx h) k
structure Pt where
 tag:Nat:=0
 e1:Expr:=SB
 e2:Expr:=SB
 es:rg Expr:=[]
 st:Str:=SB
 co:Const:=SB
 n:Nat:=0
 op:Operator:=SB
 un:UnaryOp:=SB
 bo:BoolOp:=SB
 cs:rg CmpOp:=[]
 ks:rg (O4 Expr):=[]
 gs:rg Comprehension:=[]
 sc:Scope:=SB
 o1:O4 Expr:=O2
 o2:O4 Expr:=O2
 o3:O4 Expr:=O2
 kw:rg Keyword:=[]
 pos:Pos:=SB
noncomputable def pt:Expr->Pt
 | .Name x0 x1=>{tag:=1,st:=x0,pos:=x1 }
 | .Constant x0 x1 x2=>{tag:=2,co:=x0,n:=x1,pos:=x2 }
 | .BinOp x0 x1 x2 x3=>{tag:=3,e1:=x0,op:=x1,e2:=x2,pos:=x3 }
 | .UnaryOp x0 x1 x2=>{tag:=4,un:=x0,e1:=x1,pos:=x2 }
 | .Compare x0 x1 x2 x3=>{tag:=5,e1:=x0,cs:=x1,es:=x2,pos:=x3 }
 | .BoolOp x0 x1 x2=>{tag:=6,bo:=x0,es:=x1,pos:=x2 }
 | .List x0 x1=>{tag:=7,es:=x0,pos:=x1 }
 | .Tuple x0 x1 x2=>{tag:=8,es:=x0,n:=x1,pos:=x2 }
 | .Dict x0 x1 x2=>{tag:=9,ks:=x0,es:=x1,pos:=x2 }
 | .ListComp x0 x1 x2 x3=>{tag:=10,e1:=x0,gs:=x1,sc:=x2,pos:=x3 }
 | .Subscript x0 x1 x2=>{tag:=11,e1:=x0,e2:=x1,pos:=x2 }
 | .Slice x0 x1 x2 x3=>{tag:=12,o1:=x0,o2:=x1,o3:=x2,pos:=x3 }
 | .Call x0 x1 x2 x3=>{tag:=13,e1:=x0,es:=x1,kw:=x2,pos:=x3 }
 | .Attribute x0 x1 x2=>{tag:=14,e1:=x0,st:=x1,pos:=x2 }
 | _=>{}
noncomputable def ptB (n:Pa) (p:Pt):Expr:=match n with
 | 1=>.Name p.st p.pos
 | 2=>.Constant p.co p.n p.pos
 | 3=>.BinOp p.e1 p.op p.e2 p.pos
 | 4=>.UnaryOp p.un p.e1 p.pos
 | 5=>.Compare p.e1 p.cs p.es p.pos
 | 6=>.BoolOp p.bo p.es p.pos
 | 7=>.List p.es p.pos
 | 8=>.Tuple p.es p.n p.pos
 | 9=>.Dict p.ks p.es p.pos
 | 10=>.ListComp p.e1 p.gs p.sc p.pos
 | 11=>.Subscript p.e1 p.e2 p.pos
 | 12=>.Slice p.o1 p.o2 p.o3 p.pos
 | 13=>.Call p.e1 p.es p.kw p.pos
 | 14=>.Attribute p.e1 p.st p.pos
 | _=>SB
theorem BE (e:Expr):(pt e).tag=0\/ptB (pt e).tag (pt e)=e:=by cases e<;>first | exact .inr rfl | exact .inl rfl
theorem cD (hn:n≠0) (h:(pt e).tag=n):e=ptB n (pt e):=by
 rcases BE e with q | q
 ·exact Pq (h.symm.trans q) hn
 ·rw[h] at q; exact q.symm
noncomputable def ifN (m n:Pa) (a:α):O4 α:=if m=n then qn a else O2
theorem BS {α:Type}{m n:Pa}{a b:α}(h:ifN m n a=qn b):m=n/\a=b:=by
 unfold ifN at h
 by_cases q:m=n
 ·rw[O1 q] at h; exact ⟨q,vj h⟩
 ·rw[OY q] at h; exact nN h
theorem ca {α:Type}{m n:Pa}{a b:α}{G:Prop}(h:ifN m n a=qn b) (k:m=n->a=b->G):G:=ae (BS h) k
noncomputable def cI (e:Expr):O4 (Str×Pos):=ifN (pt e).tag 1 ((pt e).st,(pt e).pos)
noncomputable def hV (e:Expr):O4 (ZI×Pa×Pos):=ifN (pt e).tag 2 ((pt e).co,(pt e).n,(pt e).pos)
noncomputable def CX (e:Expr):O4 (Expr×Yn×Expr×Pos):=ifN (pt e).tag 3 ((pt e).e1,(pt e).op,(pt e).e2,(pt e).pos)
noncomputable def dUn (e:Expr):O4 (Zh×Expr×Pos):=ifN (pt e).tag 4 ((pt e).un,(pt e).e1,(pt e).pos)
noncomputable def Dy (e:Expr):O4 (Expr×rg CmpOp×rg Expr×Pos):=ifN (pt e).tag 5 ((pt e).e1,(pt e).cs,(pt e).es,(pt e).pos)
noncomputable def tJ (e:Expr):O4 (BoolOp×rg Expr×Pos):=ifN (pt e).tag 6 ((pt e).bo,(pt e).es,(pt e).pos)
noncomputable def AP (e:Expr):O4 (rg Expr×Pos):=ifN (pt e).tag 7 ((pt e).es,(pt e).pos)
noncomputable def zc (e:Expr):O4 (rg Expr×Pa×Pos):=ifN (pt e).tag 8 ((pt e).es,(pt e).n,(pt e).pos)
noncomputable def AL (e:Expr):O4 (rg (O4 Expr)×rg Expr×Pos):=ifN (pt e).tag 9 ((pt e).ks,(pt e).es,(pt e).pos)
noncomputable def dLC (e:Expr):O4 (Expr×rg WI×Scope×Pos):=ifN (pt e).tag 10 ((pt e).e1,(pt e).gs,(pt e).sc,(pt e).pos)
noncomputable def pZ (e:Expr):O4 (Expr×Expr×Pos):=ifN (pt e).tag 11 ((pt e).e1,(pt e).e2,(pt e).pos)
noncomputable def vY (e:Expr):O4 (O4 Expr×O4 Expr×O4 Expr×Pos):=ifN (pt e).tag 12 ((pt e).o1,(pt e).o2,(pt e).o3,(pt e).pos)
noncomputable def jF (e:Expr):O4 (Expr×rg Expr×rg Zi×Pos):=ifN (pt e).tag 13 ((pt e).e1,(pt e).es,(pt e).kw,(pt e).pos)
noncomputable def mH (e:Expr):O4 (Expr×Str×Pos):=ifN (pt e).tag 14 ((pt e).e1,(pt e).st,(pt e).pos)
noncomputable def DS:ZI->O4 O3
 | .int i=>qn i
 | _=>O2
noncomputable def xD:ZI->O4 Str
 | .str i=>qn i
 | _=>O2
noncomputable def t9:ZI->O4 PV
 | .bool i=>qn i
 | _=>O2
noncomputable def Ar:ZI->O4 UN
 | .none=>qn ()
 | _=>O2
noncomputable def bU:rg α->O4 α
 | [x]=>qn x
 | _=>O2
noncomputable def tL:rg α->O4 (α×α)
 | [x,y]=>qn (x,y)
 | _=>O2
noncomputable def eW:rg α->O4 UN
 | []=>qn ()
 | _=>O2
noncomputable def f9:rg α->O4 (α×rg α)
 | x::y=>qn (x,y)
 | _=>O2
section
variable {e:Expr}
theorem bn (h:cI e=qn q):e = .Name q.1 q.2:=by
 refine ca h λi g=>?_
 (clear h; subst g)
 exact cD (by decide) i
theorem dK (h:hV e=qn q):e = .Constant q.1 q.2.1 q.2.2:=by
 refine ca h λi g=>?_
 (clear h; subst g)
 exact cD (by decide) i
theorem xZ (h:CX e=qn q):e = .BinOp q.1 q.2.1 q.2.2.1 q.2.2.2:=by
 refine ca h λi g=>?_
 (clear h; subst g)
 exact cD (by decide) i
theorem rQ (h:dUn e=qn q):e = .UnaryOp q.1 q.2.1 q.2.2:=by
 refine ca h λi g=>?_
 (clear h; subst g)
 exact cD (by decide) i
theorem ze (h:Dy e=qn q):e = .Compare q.1 q.2.1 q.2.2.1 q.2.2.2:=by
 refine ca h λi g=>?_
 (clear h; subst g)
 exact cD (by decide) i
theorem nS (h:tJ e=qn q):e = .BoolOp q.1 q.2.1 q.2.2:=by
 refine ca h λi g=>?_
 (clear h; subst g)
 exact cD (by decide) i
theorem vI (h:AP e=qn q):e = .List q.1 q.2:=by
 refine ca h λi g=>?_
 (clear h; subst g)
 exact cD (by decide) i
theorem wW (h:zc e=qn q):e = .Tuple q.1 q.2.1 q.2.2:=by
 refine ca h λi g=>?_
 (clear h; subst g)
 exact cD (by decide) i
theorem wL (h:AL e=qn q):e = .Dict q.1 q.2.1 q.2.2:=by
 refine ca h λi g=>?_
 (clear h; subst g)
 exact cD (by decide) i
theorem BD (h:dLC e=qn q):e = .ListComp q.1 q.2.1 q.2.2.1 q.2.2.2:=by
 refine ca h λi g=>?_
 (clear h; subst g)
 exact cD (by decide) i
theorem lp (h:pZ e=qn q):e = .Subscript q.1 q.2.1 q.2.2:=by
 refine ca h λi g=>?_
 (clear h; subst g)
 exact cD (by decide) i
theorem uD (h:vY e=qn q):e = .Slice q.1 q.2.1 q.2.2.1 q.2.2.2:=by
 refine ca h λi g=>?_
 (clear h; subst g)
 exact cD (by decide) i
theorem dy (h:jF e=qn q):e = .Call q.1 q.2.1 q.2.2.1 q.2.2.2:=by
 refine ca h λi g=>?_
 (clear h; subst g)
 exact cD (by decide) i
theorem ir (h:mH e=qn q):e = .Attribute q.1 q.2.1 q.2.2:=by
 refine ca h λi g=>?_
 (clear h; subst g)
 exact cD (by decide) i
theorem wP (h:DS c=qn q):c = .int q:=by cases c<;>cases h; rfl
theorem pG (h:xD c=qn q):c = .str q:=by cases c<;>cases h; rfl
theorem nI (h:t9 c=qn q):c = .bool q:=by cases c<;>cases h; rfl
theorem wn (h:Ar c=qn q):c = .none:=by cases c<;>cases h; rfl
variable {α:Type}{l:rg α}
theorem cO (h:eW l=qn q):l=[]:=by
 cases l with
 | nil=>rfl
 | cons=>exact nN h
theorem eG {q:α×rg α}(h:f9 l=qn q):l=q.1::q.2:=by
 cases l with
 | nil=>exact nN h
 | cons=>(have oc:=vj h; clear h; subst oc); rfl
theorem bh {q:α}(h:bU l=qn q):l=[q]:=by
 cases l with
 | nil=>exact nN h
 | cons x l=>
  cases l with
  | nil=>(have oc:=vj h; clear h; subst oc); rfl
  | cons=>exact nN h
theorem lI {q:α×α}(h:tL l=qn q):l=[q.1,q.2]:=by
 cases l with
 | nil=>exact nN h
 | cons x l=>
  cases l with
  | nil=>exact nN h
  | cons y l=>
   cases l with
   | nil=>(have oc:=vj h; clear h; subst oc); rfl
   | cons=>exact nN h
end
noncomputable def dFn (e:Expr):O4 (Str×Pos×rg Expr×Pos):=(jF e).bind λq=>(eW q.2.2.1).bind λuu=>(cI q.1).map λn=>(n.1,n.2,q.2.1,q.2.2.2)
theorem gy (h:dFn e=qn q):e = .Call (.Name q.1 q.2.1) q.2.2.1 [] q.2.2.2:=by
 refine bB h λc j h=>?_
 refine bB h λu i h=>?_
 refine bI h λn g h=>?_
 subst h
 rw[dy j,cO i,bn g]
noncomputable def tK (e:Expr):O4 (Expr×Str×Pos×Expr×rg Expr×Scope×Pos):=(dLC e).bind λq=>(bU q.2.1).bind λg=>(cI g.target).bind λn=>if g.is_async=0 then qn (q.1,n.1,n.2,g.iter,g.ifs,q.2.2.1,q.2.2.2) else O2
theorem oE (h:tK e=qn q):e = .ListComp q.1 [⟨.Name q.2.1 q.2.2.1,q.2.2.2.1,q.2.2.2.2.1,0⟩] q.2.2.2.2.2.1 q.2.2.2.2.2.2:=by
 refine bB h λc m h=>?_
 refine bB h λg l h=>?_
 obtain ⟨o,p,r,t⟩:=g
 refine bB h λn i h=>?_
 dsimp only at h i
 split at h
 ·rename_i k
  (have j:=vj h; clear h; subst j)
  rw[BD m,bh l,bn i,k]
 ·exact nN h
noncomputable def dSl (e:Expr):O4 (Expr×O4 Expr×O4 Expr×O4 Expr×Pos×Pos):=(pZ e).bind λq=>(vY q.2.1).map λs=>(q.1,s.1,s.2.1,s.2.2.1,s.2.2.2,q.2.2)
theorem Cn (h:dSl e=qn q):e = .Subscript q.1 (.Slice q.2.1 q.2.2.1 q.2.2.2.1 q.2.2.2.2.1) q.2.2.2.2.2:=by
 refine bB h λc i h=>?_
 refine bI h λn g h=>?_
 subst h
 rw[lp i,uD g]
noncomputable def DQ:Expr->O4 (XC×Expr×Scope×Pos)
 | .Lambda a b s p=>qn (a,b,s,p)
 | _=>O2
theorem xY (h:DQ e=qn q):e = .Lambda q.1 q.2.1 q.2.2.1 q.2.2.2:=by
 cases e<;>first | (cases h; rfl) | exact nN h
noncomputable def ul (ns:rg (Str×P6)) (x:OX) (ex:Expr):Bool:=ao (cI ex) λq=>q.1==mL x&&varK ns x&&aZ x
noncomputable def xG (ns:rg (Str×P6)) (x:OX) (ex:Expr):Bool:=ao (dFn ex) λq=>ao (bU q.2.2.1) λy=>q.1==mL (b1n .len)&&cb ns (b1n .len)&&ul ns x y
noncomputable def Dl (ns:rg (Str×P6)) (x t:OX) (ex:Expr):Bool:=ao (zc ex) λq=>decide (q.1.length<1000)&&ao (f9 q.1) λy=>(ao (dUn y.1) λu=>decide (u.1 = .USub)&&ao (pZ u.2.1) λz=>ul ns x z.1&&ul ns t z.2.1)&&ao (f9 y.2) λv=>ul ns t v.1&&(eW v.2).isSome
noncomputable def w8 (ns:rg (Str×P6)) (x t:OX) (a:XC) (sc:Scope):Bool :=
 a.posonlyargs.isEmpty&&decide (a.args.map (·.arg)=[mL t])&&a.vararg.isNone&&a.kwonlyargs.isEmpty&&a.kw_defaults.isEmpty&&a.kwarg.isNone&&a.defaults.isEmpty &&
 decide (sc.kind = .function) && !sc.isGenerator && !sc.isCoroutine&&decide (sc.names=[(mL t,.local),(mL x,.free)])&&decide (x≠t)&&decide (ns.lookup (mL x)=qn .cell)
noncomputable def CW (ns:rg (Str×P6)) (x t:OX) (ex:Expr):Bool:=ao (jF ex) λq=>ao (cI q.1) λf=>ao (bU q.2.1) λh=>ao (bU q.2.2.1) λg=>ao (dFn h) λr=>ao (bU r.2.2.1) λy=>ao (DQ g.value) λl=>
 f.1==mL "sorted" && cb ns "sorted" && decide (g.arg=qn (mL "key"))&&r.1==mL "range" && cb ns "range" && xG ns x y&&w8 ns x t l.1 l.2.2.1&&Dl l.2.2.1.names x t l.2.1
noncomputable def l7:E->PV
 | .name _=>vk
 | .call _ _=>vk
 | _=>OZ
mutual
noncomputable def okE (ns:rg (Str×P6)):E->Expr->PV
 | .name x,ex=>ao (cI ex) λq=>q.1==mL x&&varK ns x&&aZ x
 | .int i,ex=>ao (hV ex) λq=>ao (DS q.1) λj=>i==j
 | .str s,ex=>ao (hV ex) λq=>ao (xD q.1) λt=>mL s==t&&decide (t.length<=2^22)
 | .bool b,ex=>ao (hV ex) λq=>ao (t9 q.1) λc=>b==c
 | .none,ex=>ao (hV ex) λq=>(Ar q.1).isSome
 | .bin o a b,ex=>ao (CX ex) λq=>opB o q.2.1&&okE ns a q.1&&okE ns b q.2.2.1
 | .neg a,ex=>ao (dUn ex) λq=>decide (q.1 = .USub)&&okE ns a q.2.1
 | .not a,ex=>ao (dUn ex) λq=>decide (q.1 = .Not)&&okE ns a q.2.1
 | .cmp o a b,ex=>ao (Dy ex) λq=>ao (bU q.2.1) λg=>ao (bU q.2.2.1) λr=>opC o g&&okE ns a q.1&&okE ns b r
 | .and a b,ex=>ao (tJ ex) λq=>decide (q.1 = .And)&&ao (f9 q.2.1) λv=>okE ns a v.1&&(match bU v.2 with | some u=>okE ns b u | none=>okA ns b v.2)
 | .or a b,ex=>ao (tJ ex) λq=>decide (q.1 = .Or)&&ao (f9 q.2.1) λv=>okE ns a v.1&&(match bU v.2 with | some u=>okE ns b u | none=>okO ns b v.2)
 | .list es,ex=>ao (AP ex) λq=>decide (q.1.length<1000)&&dv ns es q.1
 | .tup es,ex=>ao (zc ex) λq=>decide (q.1.length<1000)&&dv ns es q.1
 | .edic,ex=>ao (AL ex) λq=>(eW q.1).isSome&&(eW q.2.1).isSome
 | .comp elt x it,ex=>ao (tK ex) λq=>ao (eW q.2.2.2.2.1) λuu=>q.2.1==mL x&&iJ ns q.2.2.2.2.2.1 x&&fC ns it q.2.2.2.1&&okE (fW ns q.2.2.2.2.2.1.names) elt q.1
 | .compif elt x it c,ex=>ao (tK ex) λq=>ao (bU q.2.2.2.2.1) λf=>q.2.1==mL x&&iJ ns q.2.2.2.2.2.1 x&&fC ns it q.2.2.2.1&&okE (fW ns q.2.2.2.2.2.1.names) c f&&okE (fW ns q.2.2.2.2.2.1.names) elt q.1
 | .sub a i,ex=>ao (pZ ex) λq=>okE ns a q.1&&okE ns i q.2.1
 | .slo a i,ex=>ao (dSl ex) λq=>ao q.2.1 λl=>q.2.2.1.isNone&&q.2.2.2.1.isNone&&(okE ns a q.1&&okE ns i l)
 | .attr a n,ex=>ao (mH ex) λq=>q.2.1==mL n&&decide (n∈fieldNames)&&l7 a&&okE ns a q.1
 | .bi1 f a,ex=>ao (dFn ex) λq=>ao (bU q.2.2.1) λx=>q.1==mL (b1n f)&&cb ns (b1n f)&&okE ns a x
 | .isi a t,ex=>ao (dFn ex) λq=>ao (tL q.2.2.1) λx=>ao (cI x.2) λc=>q.1==mL "isinstance" && cb ns "isinstance" && okE ns a x.1&&c.1==mL t&&cb ns t&&aZ t
 | .call f es,ex=>ao (dFn ex) λq=>q.1==mL f&&cb ns f&&aZ f && !decide (f∈methNames) && !decide (f∈aQ) && !q.2.2.1.isEmpty&&decide (q.2.2.1.length<20)&&dv ns es q.2.2.1
 | .meth a m es,ex=>ao (jF ex) λq=>ao (eW q.2.2.1) λuu=>ao (mH q.1) λf=>f.2.1==mL m&&(f.2.2.endLine==q.2.2.2.line)&&decide (m∈methNames) && !q.2.1.isEmpty&&decide (q.2.1.length<20)&&l7 a&&okE ns a f.1&&dv ns es q.2.1
 | .order x t,ex=>CW ns x t ex
termination_by structural e=>e
noncomputable def okA (ns:rg (Str×P6)):E->rg Expr->PV
 | .and a b,ex=>ao (f9 ex) λv=>okE ns a v.1&&(match bU v.2 with | some u=>okE ns b u | none=>okA ns b v.2)
 | _,_=>OZ
termination_by structural e=>e
noncomputable def okO (ns:rg (Str×P6)):E->rg Expr->PV
 | .or a b,ex=>ao (f9 ex) λv=>okE ns a v.1&&(match bU v.2 with | some u=>okE ns b u | none=>okO ns b v.2)
 | _,_=>OZ
termination_by structural e=>e
noncomputable def dv (ns:rg (Str×P6)):Es->rg Expr->PV
 | .nil,ex=>(eW ex).isSome
 | .cons e es,ex=>ao (f9 ex) λq=>okE ns e q.1&&dv ns es q.2
termination_by structural e=>e
noncomputable def fC (ns:rg (Str×P6)):It->Expr->PV
 | .e a,x=>okE ns a x
 | .r1 n,ex=>ao (dFn ex) λq=>ao (bU q.2.2.1) λx=>q.1==mL "range" && cb ns "range" && okE ns n x
 | .r2 a b,ex=>ao (dFn ex) λq=>ao (tL q.2.2.1) λx=>q.1==mL "range" && cb ns "range" && okE ns a x.1&&okE ns b x.2
termination_by structural e=>e
end
section
variable {ns:rg (Str×P6)}{ex:Expr}{a b c:E}
theorem wp (h:okE ns (.name x) ex=vk):(∃ id p,ex = .Name id p/\(id==mL x&&varK ns x&&aZ x)=vk)\/False:=by
 refine aj h λq e h=>?_
 exact .inl (aC q.1 q.2 (bn e) h)
theorem zM (h:okE ns (.int i) ex=vk):(∃ j k p,ex = .Constant (.int j) k p/\(i==j)=vk)\/False:=by
 refine aj h λq e h=>?_
 refine aj h λj g h=>?_
 exact .inl (cB j q.2.1 q.2.2 (by rw[dK e,wP g]) h)
theorem HM (h:okE ns (.str s) ex=vk):(∃ t k p,ex = .Constant (.str t) k p/\(mL s==t&&decide (t.length<=2^22))=vk)\/False:=by
 refine aj h λq e h=>?_
 refine aj h λj g h=>?_
 exact .inl (cB j q.2.1 q.2.2 (by rw[dK e,pG g]) h)
theorem CL (h:okE ns (.bool s) ex=vk):(∃ t k p,ex = .Constant (.bool t) k p/\(s==t)=vk)\/False:=by
 refine aj h λq e h=>?_
 refine aj h λj g h=>?_
 exact .inl (cB j q.2.1 q.2.2 (by rw[dK e,nI g]) h)
theorem CV (h:okE ns .none ex=vk):(∃ k p,ex = .Constant .none k p/\Wa)\/False:=by
 refine aj h λq e h=>?_
 refine bZ h λj g=>?_
 exact .inl (aC q.2.1 q.2.2 (by rw[dK e,wn g]) trivial)
theorem IW (h:okE ns (.bin o a b) ex=vk):(∃ l op r p,ex = .BinOp l op r p/\(opB o op&&okE ns a l&&okE ns b r)=vk)\/False:=by
 refine aj h λq e h=>?_
 exact .inl (fE _ _ _ _ (xZ e) h)
theorem AW (h:okE ns (.neg a) ex=vk):(∃ x p,ex = .UnaryOp .USub x p/\okE ns a x=vk)\/False:=by
 refine aj h λq e h=>?_
 refine dU h λi g=>?_
 exact .inl (aC _ _ (by rw[rQ e,PS i]) g)
theorem Kz (h:okE ns (.not a) ex=vk):(∃ x p,ex = .UnaryOp .Not x p/\okE ns a x=vk)\/False:=by
 refine aj h λq e h=>?_
 refine dU h λi g=>?_
 exact .inl (aC _ _ (by rw[rQ e,PS i]) g)
theorem KI (h:okE ns (.cmp o a b) ex=vk):(∃ l op r p,ex = .Compare l [op] [r] p/\(opC o op&&okE ns a l&&okE ns b r)=vk)\/False:=by
 refine aj h λq e h=>?_
 refine aj h λop i h=>?_
 refine aj h λr g h=>?_
 exact .inl (fE _ op r _ (by rw[ze e,bh i,bh g]) h)
noncomputable def okA' (ns:rg (Str×P6)) (b:E) (vs:rg Expr):Bool:=match bU vs with | some u=>okE ns b u | none=>okA ns b vs
noncomputable def okO' (ns:rg (Str×P6)) (b:E) (vs:rg Expr):Bool:=match bU vs with | some u=>okE ns b u | none=>okO ns b vs
theorem FF (h:okE ns (.and a b) ex=vk):(∃ v vs p,ex = .BoolOp .And (v::vs) p/\(okE ns a v&&okA' ns b vs)=vk)\/False:=by
 refine aj h λq e h=>?_
 refine dU h λi g=>?_
 refine aj g λv j h=>?_
 exact .inl (cB _ _ _ (by rw[nS e,PS i,eG j]) h)
theorem Ms (h:okE ns (.or a b) ex=vk):(∃ v vs p,ex = .BoolOp .Or (v::vs) p/\(okE ns a v&&okO' ns b vs)=vk)\/False:=by
 refine aj h λq e h=>?_
 refine dU h λi g=>?_
 refine aj g λv j h=>?_
 exact .inl (cB _ _ _ (by rw[nS e,PS i,eG j]) h)
theorem i_A (h:okA ns (.and a b) xs=vk):(∃ v vs,xs=v::vs/\(okE ns a v&&okA' ns b vs)=vk)\/False:=by
 refine aj h λq e h=>?_
 exact .inl (aC _ _ (eG e) h)
theorem i_O (h:okO ns (.or a b) xs=vk):(∃ v vs,xs=v::vs/\(okE ns a v&&okO' ns b vs)=vk)\/False:=by
 refine aj h λq e h=>?_
 exact .inl (aC _ _ (eG e) h)
theorem Do (h:okE ns (.list es) ex=vk):(∃ xs p,ex = .List xs p/\(decide (xs.length<1000)&&dv ns es xs)=vk)\/False:=by
 refine aj h λq e h=>?_
 exact .inl (aC _ _ (vI e) h)
theorem EV (h:okE ns (.tup es) ex=vk):(∃ xs k p,ex = .Tuple xs k p/\(decide (xs.length<1000)&&dv ns es xs)=vk)\/False:=by
 refine aj h λq e h=>?_
 exact .inl (cB _ _ _ (wW e) h)
theorem CZ (h:okE ns .edic ex=vk):(∃ p,ex = .Dict [] [] p/\Wa)\/False:=by
 refine aj h λq e h=>?_
 refine dU h λi g=>?_
 refine bZ i λuu k=>?_
 refine bZ g λuu j=>?_
 exact .inl (ah _ (by rw[wL e,cO k,cO j]) trivial)
theorem uN (h:okE ns (.comp a x it) ex=vk):(∃ e t pt i sc p,ex = .ListComp e [⟨.Name t pt,i,[],0⟩] sc p/\(t==mL x&&iJ ns sc x&&fC ns it i&&okE (fW ns sc.names) a e)=vk)\/False:=by
 refine aj h λq e h=>?_
 refine aj h λuu g h=>?_
 exact .inl (zQ _ _ _ _ _ _ (by rw[oE e,cO g]) h)
theorem qi (h:okE ns (.compif a x it c) ex=vk):(∃ e t pt i f sc p,ex = .ListComp e [⟨.Name t pt,i,[f],0⟩] sc p/\(t==mL x&&iJ ns sc x&&fC ns it i&&okE (fW ns sc.names) c f&&okE (fW ns sc.names) a e)=vk)\/False:=by
 refine aj h λq e h=>?_
 refine aj h λuu g h=>?_
 exact .inl (ma _ _ _ _ _ _ _ (by rw[oE e,bh g]) h)
theorem Ia (h:okE ns (.sub a b) ex=vk):(∃ v s p,ex = .Subscript v s p/\(okE ns a v&&okE ns b s)=vk)\/False:=by
 refine aj h λq e h=>?_
 exact .inl (cB _ _ _ (lp e) h)
theorem lS (h:o.isNone=vk):o=none:=by cases o with | none=>rfl | some=>exact nF h
theorem EW (h:okE ns (.slo a b) ex=vk):(∃ v l p pos,ex = .Subscript v (.Slice (qn l) O2 O2 p) pos/\(okE ns a v&&okE ns b l)=vk)\/False:=by
 refine aj h λq e h=>?_
 refine aj h λl m h=>?_
 refine dU h λk j=>?_
 refine dU k λi g=>?_
 exact .inl (fE _ l _ _ (by rw[Cn e,m,lS i,lS g]) j)
theorem AU (h:okE ns (.bi1 f a) ex=vk):(∃ id p x pos,ex = .Call (.Name id p) [x] [] pos/\(id==mL (b1n f)&&cb ns (b1n f)&&okE ns a x)=vk)\/False:=by
 refine aj h λq e h=>?_
 refine aj h λx g h=>?_
 exact .inl (fE _ _ x _ (by rw[gy e,bh g]) h)
theorem D8 (h:okE ns (.isi a t) ex=vk):(∃ id p x c pc pos,ex = .Call (.Name id p) [x,.Name c pc] [] pos/\(id==mL "isinstance" && cb ns "isinstance" && okE ns a x&&c==mL t&&cb ns t&&aZ t)=vk)\/False:=by
 refine aj h λq e h=>?_
 refine aj h λx i h=>?_
 refine aj h λc g h=>?_
 exact .inl (zQ _ _ x.1 c.1 c.2 _ (by rw[gy e,lI i,bn g]) h)
theorem v8 (h:okE ns (.call f es) ex=vk):(∃ id p xs pos,ex = .Call (.Name id p) xs [] pos/\(id==mL f&&cb ns f&&aZ f && !decide (f∈methNames) && !decide (f∈aQ) && !xs.isEmpty&&decide (xs.length<20)&&dv ns es xs)=vk)\/False:=by
 refine aj h λq e h=>?_
 exact .inl (fE _ _ _ _ (gy e) h)
theorem Ds (h:okE ns (.attr a n) ex=vk):(∃ v p,ex = .Attribute v (mL n) p/\n∈fieldNames/\l7 a=vk/\okE ns a v=vk)\/False:=by
 refine aj h λq e h=>?_
 simp only[O9,Pv,PM] at h
 exact .inl (bO q.1 q.2.2 (by rw[ir e,h.1.1.1]) h.1.1.2 h.1.2 h.2)
theorem DK (h:okE ns (.meth a m es) ex=vk):(∃ v p xs pos,ex = .Call (.Attribute v (mL m) p) xs [] pos/\(p.endLine==pos.line)=vk/\m∈methNames/\xs.isEmpty=OZ/\xs.length<20/\l7 a=vk/\okE ns a v=vk/\dv ns es xs=vk)\/False:=by
 refine aj h λq e h=>?_
 refine aj h λuu e1 h=>?_
 refine aj h λf e2 h=>?_
 simp only[O9,Pv,PM,P0] at h
 refine ae (h) λn o=>?_
 clear h
 refine ae (n) λl r=>?_
 clear n
 refine ae (l) λk t=>?_
 clear l
 refine ae (k) λj u=>?_
 clear k
 refine ae (j) λi x=>?_
 clear j
 refine ae (i) λg y=>?_
 clear i
 refine ae (g) λh1 z=>?_
 clear g
 exact .inl (pJ f.1 f.2.2 q.2.1 q.2.2.2 (by rw[dy e,cO e1,ir e2,h1]) (Pv.mpr z) y x u t r o)
noncomputable def lN (x t:OX):E:=.tup (.cons (.neg (.sub (.name x) (.name t))) (.cons (.name t) .nil))
theorem CD (h:okE ns (.order x t) ex=vk):(∃ id p jd p2 y p3 ar body sc p4 p5 pos,ex = .Call (.Name id p) [.Call (.Name jd p2) [y] [] p3] [⟨qn (mL "key"),.Lambda ar body sc p4,p5⟩] pos /\
  (id==mL "sorted" && cb ns "sorted" && jd==mL "range" && cb ns "range" && xG ns x y&&w8 ns x t ar sc&&Dl sc.names x t body)=vk)\/False:=by
 refine aj (show CW ns x t ex=vk from h) λq e h=>?_
 refine aj h λf e1 h=>?_
 refine aj h λrg e2 h=>?_
 refine aj h λo e3 h=>?_
 obtain ⟨ka,kv,z⟩:=o
 refine aj h λr e4 h=>?_
 refine aj h λy e5 h=>?_
 refine aj h λl v h=>?_
 simp only[O9,PM,Pv] at h
 refine ae (h) λn h8=>?_
 clear h
 refine ae (n) λm h7=>?_
 clear n
 refine ae (m) λk h6=>?_
 clear m
 refine ae (k) λj h5=>?_
 clear k
 refine ae (j) λi h4=>?_
 clear j
 refine ae (i) λg u=>?_
 clear i
 refine ae (g) λh1 h2=>?_
 clear g
 dsimp only at u v
 refine .inl ⟨f.1,f.2,r.1,r.2.1,y,r.2.2.2,l.1,l.2.1,l.2.2.1,l.2.2.2,z,q.2.2.2,?_,?_⟩
 ·rw[dy e,bn e1,bh e2,bh e3,gy e4,bh e5,xY v,u]
 ·simp only[O9,Pv]
  exact ⟨⟨⟨⟨⟨⟨h1,h2⟩,h4⟩,h5⟩,h6⟩,h7⟩,h8⟩
theorem tu (h:dv ns .nil xs=vk):(xs=[]/\Wa)\/False:=by
 refine bZ (show (eW xs).isSome=vk from h) λuu e=>?_
 exact .inl ⟨cO e,trivial⟩
theorem qB (h:dv ns (.cons a es) xs=vk):(∃ x ys,xs=x::ys/\(okE ns a x&&dv ns es ys)=vk)\/False:=by
 refine aj h λq e h=>?_
 exact .inl (aC _ _ (eG e) h)
theorem MP (h:fC ns (.r1 a) ex=vk):(∃ id p x pos,ex = .Call (.Name id p) [x] [] pos/\(id==mL "range" && cb ns "range" && okE ns a x)=vk)\/False:=by
 refine aj h λq e h=>?_
 refine aj h λx g h=>?_
 exact .inl (fE _ _ x _ (by rw[gy e,bh g]) h)
theorem Mh (h:fC ns (.r2 a b) ex=vk):(∃ id p x y pos,ex = .Call (.Name id p) [x,y] [] pos/\(id==mL "range" && cb ns "range" && okE ns a x&&okE ns b y)=vk)\/False:=by
 refine aj h λq e h=>?_
 refine aj h λx g h=>?_
 exact .inl (o9 _ _ x.1 x.2 _ (by rw[gy e,lI g]) h)
end
noncomputable def bnames:rg String:=["len", "list", "tuple", "sorted", "max", "min", "sum", "range", "isinstance", "int", "bool", "str"]
noncomputable def bmV:rg Value:=[.type "ValueError", .type "Exception", .type "BaseException", .type "object"]
noncomputable def bQ (ns:rg (Str×P6)) (x:OX):Bool:=varK ns x&&aZ x&&(ns.lookup (mL x)==qn .local||ns.lookup (mL x)==qn .cell)
structure Ps where
 tag:Nat:=0
 e1:Expr:=SB
 e2:Expr:=SB
 es:rg Expr:=[]
 o1:O4 Expr:=O2
 o2:O4 Expr:=O2
 s1:rg Stmt:=[]
 s2:rg Stmt:=[]
 s3:rg Stmt:=[]
 hs:rg ExceptHandler:=[]
 pos:Pos:=SB
noncomputable def ps:SX->Ps
 | .Assign x0 x1 x2=>{tag:=1,es:=x0,e1:=x1,pos:=x2 }
 | .Expr x0 x1=>{tag:=2,e1:=x0,pos:=x1 }
 | .Return x0 x1=>{tag:=3,o1:=x0,pos:=x1 }
 | .If x0 x1 x2 x3=>{tag:=4,e1:=x0,s1:=x1,s2:=x2,pos:=x3 }
 | .For x0 x1 x2 x3 x4=>{tag:=5,e1:=x0,e2:=x1,s1:=x2,s2:=x3,pos:=x4 }
 | .While x0 x1 x2 x3=>{tag:=6,e1:=x0,s1:=x1,s2:=x2,pos:=x3 }
 | .Raise x0 x1 x2=>{tag:=7,o1:=x0,o2:=x1,pos:=x2 }
 | .Try x0 x1 x2 x3 x4=>{tag:=8,s1:=x0,hs:=x1,s2:=x2,s3:=x3,pos:=x4 }
 | _=>{}
noncomputable def psB (n:Pa) (p:Ps):Stmt:=match n with
 | 1=>.Assign p.es p.e1 p.pos
 | 2=>.Expr p.e1 p.pos
 | 3=>.Return p.o1 p.pos
 | 4=>.If p.e1 p.s1 p.s2 p.pos
 | 5=>.For p.e1 p.e2 p.s1 p.s2 p.pos
 | 6=>.While p.e1 p.s1 p.s2 p.pos
 | 7=>.Raise p.o1 p.o2 p.pos
 | 8=>.Try p.s1 p.hs p.s2 p.s3 p.pos
 | _=>SB
theorem Bv (e:SX):(ps e).tag=0\/psB (ps e).tag (ps e)=e:=by cases e<;>first | exact .inr rfl | exact .inl rfl
theorem g8 (hn:n≠0) (h:(ps e).tag=n):e=psB n (ps e):=by
 rcases Bv e with q | q
 ·exact Pq (h.symm.trans q) hn
 ·rw[h] at q; exact q.symm
noncomputable def jh:rg α->O4 (α×rg α)
 | []=>O2
 | a::l=>qn (a,l)
theorem ez {α:Type}{l:rg α}{q:α×rg α}(h:jh l=qn q):l=q.1::q.2:=by
 cases l with
 | nil=>exact nN h
 | cons a l=>exact vj h▸rfl
noncomputable def yr (s:SX):O4 Expr:=if (ps s).tag=7/\(ps s).o2.isNone=vk then (ps s).o1 else O2
theorem yf (h:yr s=qn e):∃ p,s = .Raise (qn e) O2 p:=by
 unfold yr at h
 by_cases c:(ps s).tag=7/\(ps s).o2.isNone=vk
 ·rw[O1 c] at h
  refine ⟨(ps s).pos,(g8 (by decide) c.1).trans ?_⟩
  show Stmt.Raise _ _ _=_
  rw[h,SC.mp c.2]
 ·rw[OY c] at h; exact nN h
noncomputable def yz (s:SX):O4 (SX×Sd×rg Sd):=if (ps s).tag=8/\(ps s).s2.isEmpty=vk/\(ps s).s3.isEmpty=vk then (jh (ps s).s1).bind λb=>if b.2.isEmpty=vk then (jh (ps s).hs).map λq=>(b.1,q.1,q.2) else O2 else O2
theorem yD (h:yz s=qn q):∃ p,s = .Try [q.1] (q.2.1::q.2.2) [] [] p:=by
 unfold yz at h
 by_cases c:(ps s).tag=8/\(ps s).s2.isEmpty=vk/\(ps s).s3.isEmpty=vk
 ·rw[O1 c] at h
  obtain ⟨b,i,h⟩:=TS.mp h
  by_cases d:b.2.isEmpty=vk
  ·rw[O1 d] at h
   obtain ⟨r,g,e⟩:=RX.mp h
   refine ⟨(ps s).pos,(g8 (by decide) c.1).trans ?_⟩
   show Stmt.Try _ _ _ _ _=_
   rw[ez i,ez g,Uu.mp d,Uu.mp c.2.1,Uu.mp c.2.2,<- e]
  ·rw[OY d] at h; exact nN h
 ·rw[OY c] at h; exact nN h
noncomputable def dH0:Sd->O4 Expr×O4 Str×rg SX×Pos
 | .ExceptHandler a b c p=>(a,b,c,p)
noncomputable def ym (s:Sd):O4 (Expr×SX×rg SX):=if (dH0 s).2.1.isNone=vk then (dH0 s).1.bind λt=>(jh (dH0 s).2.2.1).map λq=>(t,q.1,q.2) else O2
theorem xS (h:ym s=qn q):∃ p,s = .ExceptHandler (qn q.1) O2 (q.2.1::q.2.2) p:=by
 unfold ym at h
 by_cases c:(dH0 s).2.1.isNone=vk
 ·rw[O1 c] at h
  obtain ⟨t,i,h⟩:=TS.mp h
  obtain ⟨r,j,e⟩:=RX.mp h
  have g:s = .ExceptHandler (dH0 s).1 (dH0 s).2.1 (dH0 s).2.2.1 (dH0 s).2.2.2:=by cases s; rfl
  refine ⟨(dH0 s).2.2.2,g.trans ?_⟩
  rw[i,ez j,SC.mp c,<- e]
 ·rw[OY c] at h; exact nN h
noncomputable def pP (s:SX):O4 (rg Expr×Expr×Pos):=ifN (ps s).tag 1 ((ps s).es,(ps s).e1,(ps s).pos)
noncomputable def xB (s:SX):O4 (Expr×Pos):=ifN (ps s).tag 2 ((ps s).e1,(ps s).pos)
noncomputable def s8 (s:SX):O4 (O4 Expr×Pos):=ifN (ps s).tag 3 ((ps s).o1,(ps s).pos)
noncomputable def sIf (s:SX):O4 (Expr×rg SX×rg SX×Pos):=ifN (ps s).tag 4 ((ps s).e1,(ps s).s1,(ps s).s2,(ps s).pos)
noncomputable def CS (s:SX):O4 (Expr×Expr×rg SX×rg SX×Pos):=ifN (ps s).tag 5 ((ps s).e1,(ps s).e2,(ps s).s1,(ps s).s2,(ps s).pos)
theorem lu (h:pP s=qn q):s = .Assign q.1 q.2.1 q.2.2:=by
 refine ca h λi g=>?_
 (clear h; subst g)
 exact g8 (by decide) i
theorem qo (h:xB s=qn q):s = .Expr q.1 q.2:=by
 refine ca h λi g=>?_
 (clear h; subst g)
 exact g8 (by decide) i
theorem lJ (h:s8 s=qn q):s = .Return q.1 q.2:=by
 refine ca h λi g=>?_
 (clear h; subst g)
 exact g8 (by decide) i
theorem Bp (h:sIf s=qn q):s = .If q.1 q.2.1 q.2.2.1 q.2.2.2:=by
 refine ca h λi g=>?_
 (clear h; subst g)
 exact g8 (by decide) i
theorem xP (h:CS s=qn q):s = .For q.1 q.2.1 q.2.2.1 q.2.2.2.1 q.2.2.2.2:=by
 refine ca h λi g=>?_
 (clear h; subst g)
 exact g8 (by decide) i
noncomputable def uA (s:SX):O4 (Expr×Str×Pos×rg Expr×Pos×Pos):=(xB s).bind λq=>(jF q.1).bind λc=>(eW c.2.2.1).bind λuu=>(mH c.1).map λa=>(a.1,a.2.1,a.2.2,c.2.1,c.2.2.2,q.2)
theorem lK (h:uA s=qn q):s = .Expr (.Call (.Attribute q.1 q.2.1 q.2.2.1) q.2.2.2.1 [] q.2.2.2.2.1) q.2.2.2.2.2:=by
 refine bB h λc k h=>?_
 refine bB h λu j h=>?_
 refine bB h λuu i h=>?_
 refine bI h λn g h=>?_
 subst h
 rw[qo k,dy j,cO i,ir g]
noncomputable def Mj (ns:rg (Str×P6)) (p:OX×O3) (h:Sd):Bool:=ao (ym h) λq=>ao (cI q.1) λn=>n.1==mL p.1&&cb ns p.1&&aZ p.1&&ao (bU (q.2.1::q.2.2)) λs=>ao (s8 s) λu=>ao u.1 λv=>okE ns (.int p.2) v
noncomputable def tv (ns:rg (Str×P6)):rg (OX×O3)->rg Sd->PV
 | [],[]=>vk
 | p::r,h::hs=>Mj ns p h&&tv ns r hs
 | _,_=>OZ
mutual
noncomputable def okS (ns:rg (Str×P6)):S->SX->PV
 | .assign x e,st=>ao (pP st) λq=>ao (bU q.1) λt=>ao (cI t) λn=>n.1==mL x&&bQ ns x&&okE ns e q.2.1
 | .setitem x e,st=>ao (pP st) λq=>ao (bU q.1) λt=>ao (pZ t) λu=>ao (cI u.1) λn=>ao (hV q.2.1) λc=>ao (t9 c.1) λb=>b&&(n.1==mL x&&bQ ns x&&okE ns e u.2.1)
 | .append x e,st=>ao (uA st) λq=>ao (cI q.1) λn=>ao (bU q.2.2.2.1) λv=>q.2.1==mL "append" && (q.2.2.1.endLine==q.2.2.2.2.1.line)&&n.1==mL x&&bQ ns x&&okE ns e v
 | .insert x i e,st=>ao (uA st) λq=>ao (cI q.1) λn=>ao (tL q.2.2.2.1) λv=>q.2.1==mL "insert" && (q.2.2.1.endLine==q.2.2.2.2.1.line)&&n.1==mL x&&bQ ns x&&okE ns i v.1&&okE ns e v.2
 | .pop x i,st=>ao (uA st) λq=>ao (cI q.1) λn=>ao (bU q.2.2.2.1) λv=>q.2.1==mL "pop" && (q.2.2.1.endLine==q.2.2.2.2.1.line)&&n.1==mL x&&bQ ns x&&okE ns i v
 | .expr e,st=>ao (xB st) λq=>(jF q.1).isSome&&okE ns e q.1
 | .ret e,st=>ao (s8 st) λq=>ao q.1 λv=>okE ns e v
 | .retn x,st=>ao (s8 st) λq=>ao q.1 λv=>ao (cI v) λn=>n.1==mL x&&bQ ns x
 | .ite c a b,st=>ao (sIf st) λq=>okE ns c q.1&&cM ns a q.2.1&&cM ns b q.2.2.1
 | .for1 x it b,st=>ao (CS st) λq=>ao (eW q.2.2.2.1) λuu=>ao (cI q.1) λn=>n.1==mL x&&bQ ns x&&fC ns it q.2.1&&cM ns b q.2.2.1
 | .raise c,st=>ao (yr st) λq=>ao (jF q) λa=>ao (eW a.2.2.1) λuu=>ao (cI a.1) λn=>ao (bU a.2.1) λm=>ao (hV m) λk=>ao (xD k.1) λt=>n.1==mL c&&cb ns c&&aZ c&&decide (t.length<=1000)
 | .tryS b hs,st=>ao (yz st) λq=>okS ns b q.1&&tv ns hs (q.2.1::q.2.2)
 | .bad,_=>OZ
termination_by structural s=>s
noncomputable def cM (ns:rg (Str×P6)):Ss->rg SX->PV
 | .nil,st=>(eW st).isSome
 | .cons s r,st=>ao (f9 st) λq=>okS ns s q.1&&cM ns r q.2
termination_by structural s=>s
end
section
variable {ns:rg (Str×P6)}{st:SX}{x:OX}{e i c:E}{a b:Ss}
theorem kl (h:okS ns (.assign x e) st=vk):(∃ t pt v p,st = .Assign [.Name t pt] v p/\(t==mL x&&bQ ns x&&okE ns e v)=vk)\/False:=by
 refine aj h λq j h=>?_
 refine aj h λt i h=>?_
 refine aj h λn g h=>?_
 exact .inl (fE _ _ _ _ (by rw[lu j,bh i,bn g]) h)
theorem uk (h:okS ns (.setitem x e) st=vk):(∃ t pt i p1 k p2 p,st = .Assign [.Subscript (.Name t pt) i p1] (.Constant (.bool vk) k p2) p/\(t==mL x&&bQ ns x&&okE ns e i)=vk)\/False:=by
 refine aj h λq v h=>?_
 refine aj h λt r h=>?_
 refine aj h λu o h=>?_
 refine aj h λn m h=>?_
 refine aj h λc l h=>?_
 refine aj h λb j h=>?_
 refine dU h λg h=>?_
 subst g
 exact .inl (ma _ _ _ _ _ _ _ (by rw[lu v,bh r,lp o,bn m,dK l,nI j]) h)
theorem v9 (h:okS ns (.append x e) st=vk):(∃ t pt m ap v pos sp,st = .Expr (.Call (.Attribute (.Name t pt) m ap) [v] [] pos) sp/\(m==mL "append" && (ap.endLine==pos.line)&&t==mL x&&bQ ns x&&okE ns e v)=vk)\/False:=by
 refine aj h λq j h=>?_
 refine aj h λn i h=>?_
 refine aj h λv g h=>?_
 exact .inl (ma _ _ _ _ v _ _ (by rw[lK j,bn i,bh g]) h)
theorem C1 (h:okS ns (.pop x e) st=vk):(∃ t pt m ap v pos sp,st = .Expr (.Call (.Attribute (.Name t pt) m ap) [v] [] pos) sp/\(m==mL "pop" && (ap.endLine==pos.line)&&t==mL x&&bQ ns x&&okE ns e v)=vk)\/False:=by
 refine aj h λq j h=>?_
 refine aj h λn i h=>?_
 refine aj h λv g h=>?_
 exact .inl (ma _ _ _ _ v _ _ (by rw[lK j,bn i,bh g]) h)
theorem wA (h:okS ns (.insert x i e) st=vk):(∃ t pt m ap u v pos sp,st = .Expr (.Call (.Attribute (.Name t pt) m ap) [u,v] [] pos) sp/\(m==mL "insert" && (ap.endLine==pos.line)&&t==mL x&&bQ ns x&&okE ns i u&&okE ns e v)=vk)\/False:=by
 refine aj h λq k h=>?_
 refine aj h λn j h=>?_
 refine aj h λv g h=>?_
 exact .inl (DD _ _ _ _ v.1 v.2 _ _ (by rw[lK k,bn j,lI g]) h)
theorem nq (h:okS ns (.expr e) st=vk):(∃ f xs ks p sp,st = .Expr (.Call f xs ks p) sp/\okE ns e (.Call f xs ks p)=vk)\/False:=by
 refine aj h λq k h=>?_
 refine dU h λj g=>?_
 refine bZ j λc i=>?_
 rw[dy i] at g
 exact .inl (o9 _ _ _ _ _ (by rw[qo k,dy i]) g)
theorem vC (h:okS ns (.ret e) st=vk):(∃ v p,st = .Return (qn v) p/\okE ns e v=vk)\/False:=by
 refine aj h λq i h=>?_
 refine aj h λv g h=>?_
 exact .inl (aC v _ (by rw[lJ i,g]) h)
theorem Bo (h:okS ns (.retn x) st=vk):(∃ t pt p,st = .Return (qn (.Name t pt)) p/\(t==mL x&&bQ ns x)=vk)\/False:=by
 refine aj h λq j h=>?_
 refine aj h λv i h=>?_
 refine aj h λn g h=>?_
 exact .inl (cB _ _ _ (by rw[lJ j,i,bn g]) h)
theorem vx (h:okS ns (.ite c a b) st=vk):(∃ t u v p,st = .If t u v p/\(okE ns c t&&cM ns a u&&cM ns b v)=vk)\/False:=by
 refine aj h λq g h=>?_
 exact .inl (fE _ _ _ _ (Bp g) h)
theorem r3 (h:okS ns (.for1 x it b) st=vk):(∃ t pt i u p,st = .For (.Name t pt) i u [] p/\(t==mL x&&bQ ns x&&fC ns it i&&cM ns b u)=vk)\/False:=by
 refine aj h λq k h=>?_
 refine aj h λuu j h=>?_
 refine aj h λn g h=>?_
 exact .inl (o9 _ _ _ _ _ (by rw[xP k,cO j,bn g]) h)
theorem yq {c:OX}(h:okS ns (.raise c) st=vk):(∃ n p t k p2 cp pos,st = .Raise (qn (.Call (.Name n p) [.Constant (.str t) k p2] [] cp)) O2 pos/\(n==mL c&&cb ns c&&aZ c&&decide (t.length<=1000))=vk)\/False:=by
 refine aj h λq u h=>?_
 refine aj h λa r h=>?_
 refine aj h λuu o h=>?_
 refine aj h λn l h=>?_
 refine aj h λm j h=>?_
 refine aj h λk i h=>?_
 refine aj h λt g h=>?_
 refine ak (yf u) λp v=>?_
 exact .inl (ma n.1 n.2 t k.2.1 k.2.2 a.2.2.2 p (by rw[v,dy r,cO o,bn l,bh j,dK i,pG g]) h)
theorem Dw {b:S}{hs:rg (OX×O3)}(h:okS ns (.tryS b hs) st=vk):∃ t d ds p,st = .Try [t] (d::ds) [] [] p/\okS ns b t=vk/\tv ns hs (d::ds)=true:=by
 refine aj h λq i h=>?_
 refine ak (yD i) λp e=>?_
 have g:=TH.mp h
 exact (fE _ _ _ p e g)
theorem C7 (h:cM ns .nil l=vk):(l=[]/\Wa)\/False:=by
 refine bZ (show (eW l).isSome=vk from h) λuu e=>?_
 exact .inl ⟨cO e,trivial⟩
theorem sv (h:cM ns (.cons s a) l=vk):(∃ t u,l=t::u/\(okS ns s t&&cM ns a u)=vk)\/False:=by
 refine aj h λq g h=>?_
 exact .inl (aC _ _ (eG g) h)
end
structure FnT where
 params:rg OX
 body:rg SX
 scope:Scope
 lam:PV
noncomputable def okF (ft:FnT) (f:Fn):Bool:=decide (ft.params=f.params)&&f.params.all (bQ ft.scope.names)&&decide f.params.Nodup&&cM ft.scope.names f.body ft.body&&ft.scope.names.all λp=>p.2 != .free
noncomputable def fw (ns:rg (Str×P6)) (n:OX) (e:E) (st:SX):Bool:=ao (pP st) λq=>ao (bU q.1) λt=>ao (mH t) λu=>ao (cI u.1) λm=>m.1==mL "self" && u.2.1==mL n&&okE ns e q.2.1
theorem lG {ns:rg (Str×P6)}{n:OX}{e:E}{st:SX}(h:fw ns n e st=vk):∃ p1 p2 v p,st = .Assign [.Attribute (.Name (mL "self") p1) (mL n) p2] v p/\okE ns e v=true:=by
 refine aj h λq k h=>?_
 refine aj h λt j h=>?_
 refine aj h λu i h=>?_
 refine aj h λm g h=>?_
 simp only[O9,Pv] at h
 refine (fE m.2 u.2.2 q.2.1 q.2.2 ?_ h.2)
 rw[lu k,bh j,ir i,bn g,h.1.1,h.1.2]
noncomputable def fA:E:=.bi1 .len (.sub (.name "full") (.int 0))
noncomputable def ok3 (ns:rg (Str×P6)) (l:rg SX):Bool:=ao (jh l) λp=>ao (jh p.2) λq=>ao (jh q.2) λr=>r.2.isEmpty&&(fw ns "count" (.name "count") p.1&&(fw ns "full" (.name "full") q.1&&fw ns "size" fA r.1))
theorem Bd (h:ok3 ns l=vk):∃ a b c,l=[a,b,c]/\fw ns "count" (.name "count") a=vk/\fw ns "full" (.name "full") b=vk/\fw ns "size" fA c=true:=by
 obtain ⟨p,m,h⟩:=jx h
 obtain ⟨q,k,h⟩:=jx h
 obtain ⟨r,j,h⟩:=jx h
 have e:=bA h
 have i:=bA e.2
 have g:=bA i.2
 refine (ip p.1 q.1 r.1 ?_ i.1 g.1 g.2)
 rw[ez m,ez k,ez j,Uu.mp e.1]
noncomputable def okI (ft:FnT) (f:Fn):Bool:=decide (ft.params = "self" :: f.params)&&ft.params.all (bQ ft.scope.names)&&decide ft.params.Nodup&&cM ft.scope.names f.body (ft.body.take (ft.body.length-3))&&ok3 ft.scope.names (ft.body.drop (ft.body.length-3))&&decide ("self" ∉ iF f.body)&&(ft.scope.names.all λp=>p.2 != .free) && !ft.lam
structure Soft where
 tab:Pz->Prop
 old:Pz->Prop
 rule:Pz
 exc:OX->Pz
 excN:rg OX
structure Gl where
 prog:Un
 w:World
 SF:Soft
noncomputable def ln (h:P9) (c:OX):Addr:=match h.clsAt Q0 (mL c) with
 | some x=>x.1
 | none=>0
noncomputable def DB (h:P9) (c:OX):O4 (rg Lt):=(h.clsAt Q0 (mL c)).map λx=>x.2.2.mro
noncomputable def Hv (h:P9) (c:OX):rg Value:=if c = "PickError" then bmV else .ref (ln h "PickError")::bmV
noncomputable def pL (cs:rg OX) (h:P9):Bool:=h.isNs Q0&&(cs.all λc=>DB h c==qn (.ref (ln h c)::Hv h c))&&(cs.all λc=>cs.all λg=>ln h c != ln h g||c==g) &&
 match h.clsAt Q0 "Rule" with
 | some x=>h.isNs x.2.2.ns&&fieldNames.all λn=>(h.nsMap x.2.2.ns (mL n)).isNone
 | none=>OZ
noncomputable def ig (cs:rg OX) (h:P9):Prop:=∃ mg,h.Ns Q0 mg/\∃ ad:OX->Pz,(∀ c∈cs,∃ o cd,mg (mL c)=qn (.ref (ad c))/\h.get? (ad c)=qn o/\o.data = .cls cd/\cd.mro = .ref (ad c)::(if c = "PickError" then bmV else .ref (ad "PickError")::bmV)) /\
 (∀ c∈cs,∀ c'∈cs,ad c=ad c'->c=c')/\∃ C o cd mN,mg "Rule" = qn (.ref C)/\h.get? C=qn o/\o.data = .cls cd/\h.Ns cd.ns mN/\∀ n∈fieldNames,mN (mL n)=O2
set_option tactic.hygienic true in
theorem B5 (e:pL cs h=vk):ig cs h:=by
 unfold pL at e
 simp only[O9,Q1] at e
 refine ae (e) λi j=>?_
 clear e
 refine ae (i) λg y=>?_
 clear i
 refine ae (g) λh1 z=>?_
 clear g
 refine ⟨h.nsMap Q0,.of_isNs h1,ln h,λc m=>?_,λc m c' l q=>?_,?_⟩
 ·have:=Pv.mp (z c m)
  unfold DB at this
  refine bI this λx k v=>?_
  obtain ⟨C,o,u⟩:=x
  refine aI (X2 k) λt r p=>?_
  have ea:ln h c=C:=by unfold ln; rw[k]
  rw[ea] at v ⊢
  exact ⟨o,u,t,r,p,v⟩
 ·have:=y c m c' l
  simp only[UU,bne_iff_ne,Pv] at this
  exact this.resolve_left λn=>n q
 ·split at j
  ·rename_i x k
   obtain ⟨C,o,u⟩:=x
   refine aI (X2 k) λt r p=>?_
   simp only[O9,Q1,SC] at j
   exact ⟨C,o,u,_,t,r,p,.of_isNs j.1,j.2⟩
  ·exact nF j
noncomputable def MN (cs:rg OX):PySem.W.Hook:=⟨PV,λs=>pL cs s.heap,λuu=>vk,λuu h=>ig cs h,λuu uu e=>B5 e,λuu h h' x k=>af (x) λi m y=>aq (y) λad a1 a2 z=>FD (z) λC o g j b1 v u t r=>⟨i,m.keeps k,ad,λc l=>ay (a1 c l) λo g q p n=>⟨o,g,q,k _ _ p,n⟩,a2,C,o,g,j,b1,k _ _ v,u,t.keeps k,r⟩⟩
noncomputable def gU (a:XC) (ps:rg OX):Bool:=a.posonlyargs.isEmpty&&(a.args.map (·.arg)==ps.map mL)&&a.vararg.isNone&&a.kwonlyargs.isEmpty&&a.kwarg.isNone
noncomputable def gG (sc:Scope):Bool:=!sc.isCoroutine && !sc.isGenerator&&sc.kind == .function
noncomputable def gp (p:Un) (loose:rg Str):O4 ClsRec:=(plainsOf p loose).find? λc=>c.name==mL "Rule"
noncomputable def ey (p:Un) (loose:rg Str) (m:OX):O4 MethRec:=(gp p loose).bind λc=>c.meths.find? λr=>r.name==mL m
noncomputable def iN (p:Un) (loose:rg Str) (f:OX) (fn:Fn):Bool :=
 if f∈aQ then specOf p (mL f)==qn ("ValueError.__new__", bmV)
 else if f = "Rule" then ao (ey p loose "__init__") λr=>okI ⟨"self" :: fn.params,r.body,r.scope,OZ⟩ fn&&gU r.params ("self" :: fn.params)&&gG r.scope
 else if f∈methNames then ao (ey p loose f) λr=>okF ⟨fn.params,r.body,r.scope,OZ⟩ fn&&gU r.params fn.params&&gG r.scope
 else ao ((Yo p).find? λd=>d.name==mL f) λd=>okF ⟨fn.params,d.body,d.scope,vk⟩ fn&&gU d.params fn.params&&gG d.scope
noncomputable def lZ (p:Un) (loose:rg Str) (L:rg (OX×Fn)):Bool:=L.all λq=>iN p loose q.1 q.2
noncomputable def bJ (L:rg (OX×Fn)):rg String:=(L.map (·.1)).filter λf=>decide (f∈aQ)
noncomputable def yt (p:Un) (loose:rg Str):Bool:=bnames.all λx=>!startupNames.contains (mL x) && !loose.contains (mL x) && !((Yo p).map (·.name)).contains (mL x) && !((litsOf p).map (·.1)).contains (mL x) && !((clssOf p loose).map (·.name)).contains (mL x)
noncomputable def gK (v:O4 Lt):O4 Addr:=match v with
 | some (.ref a)=>qn a
 | _=>O2
noncomputable def pp (mg:Str->O4 Lt) (L:rg (OX×Fn)) (h:P9):Soft:=⟨λP=>∃ c,h.TableAt c P #[],λb=>∃ o,h.get? b=qn o,(gK (mg "Rule")).getD 0,λc=>(gK (mg (mL c))).getD 0,bJ L⟩
noncomputable def qR (g:Gl):Prop:=∀ {p:Un}{loose:rg Str}{mean:ExcName->O4 Lt}{mg mb:Str->O4 Lt}{L:rg (OX×Fn)}{s:O0}{fn:Fn}{fa a:Pz}{n:Pa}{ns:rg O3}{vs:rg Lt}{m:Mode}{Q:Lt->O0->Prop}{Er:Lt->O0->Prop},g.SF=pp mg L s.heap ->
  Top p loose mean mg mb s.heap->TopE p loose mg s.heap->ig (bJ L) s.heap->lZ p loose L=vk->yt p loose=vk->(gp p loose).isSome=vk->(L.lookup "Rule").isSome=vk->(bJ L=[] \/ "PickError" ∈ bJ L) ->
  L.lookup "law" = qn fn->mg (mL "law")=qn (.ref fa)->n<=50->av (mkC L n) fn [.d (aa ns)] = .ok (.d (.bool vk),m)->s.heap.get? a=qn {cls:=.type "list", data:=.seq vs.toArray }->Ry vs ns->ns.length<=2^22 ->
  (∀ h' tk,OldK s.heap h'->Q (.bool vk) {s with heap:=h',toks:=tk })->Ph (Pn g.prog g.w) Zj (SV (.ref fa) [.ref a]) Q Er s
noncomputable def gl0:Gl:=⟨SB,⟨λ_ _=>0,{strHash:=λ_=>0,shareClass:=λ_=>0,mergeTok:=id,idOf:=λ_=>0,idOfShared:=λ_ _=>0,followText:=λ_=>OZ,idOfImm:=λ_=>0 }⟩,⟨λ_=>Wa,λ_=>Wa,0,λ_=>0,[]⟩⟩
noncomputable def gl:Gl:=@W6 Gl ⟨gl0⟩ λg=>¬ qR g
theorem De (h:qR gl) (g:Gl):qR g:=by
 apply Tr
 intro n
 exact @VN Gl (λg=>¬ qR g) ⟨g,n⟩ h
noncomputable def prog:Program:=gl.prog
noncomputable def w:World:=gl.w
noncomputable def SF:Soft:=gl.SF
noncomputable def Room (hb:PV) (k:Pa) (A:PU):Prop:=(hb=OZ->A.handled=O2)/\A.depth+2*k+(if hb then 1 else 4)<Rv/\A.units+100*k+(if hb then 200 else 300)<UV
noncomputable def tabO (ps:Pf Lt):Obj:={cls:=.none,data:=.fields ps }
noncomputable def CodesG (h:P9) (ps:Pf Lt):Prop:=Y5 ps.toList/\∀ pos cv,Vx pos ps.toList=qn cv->∃ c o vs q t,cv = .ref c/\h.get? c=qn o/\o.cls = .type "code" /\ o.data = .fields vs/\vs[1]? = qn (.str q t)
noncomputable def Stay (o:Obj):Prop:=(o.cls = .type "code" /\ ∃ fs,o.data = .fields fs)\/(o.cls = .type "tuple" /\ ∃ vs n,o.data = .seq vs n)
section
inductive Like (h h':P9) (b:Pz) (o o':Obj):Prop
 | same:o' = o->Like h h' b o o'
 | tab (ps more:Pf Lt):SF.tab b->o=tabO ps->o' = tabO (ps++more)->(CodesG h ps->CodesG h' (ps++more))->Like h h' b o o'
 | frame (es:Pf Vy) (ep:Pa):¬ SF.old b->o.cls = .type "frame" -> o.data = .dict es ep->o'.cls=o.cls->o'.data=o.data->o'.dict=o.dict->Like h h' b o o'
noncomputable def KG (G:Pz->Prop) (h h':P9):Prop:=∀ b o,G b\/Stay o->h.get? b=qn o->∃ o',h'.get? b=qn o'/\Like h h' b o o'
noncomputable def hardB (o:Obj):Bool:=match o.cls with | .none=>OZ | .type n=>n != "frame" | _=>vk
theorem Like.hard (l:Like h h' b o o') (hh:hardB o=vk):o' = o:=by
 cases l with
 | same e=>exact e
 | tab ps more _ e _ _=>subst e; exact nF hh
 | frame _ _ _ e _ _ _ _=>unfold hardB at hh; rw[e] at hh; simp at hh
theorem Like.exact (l:Like h h' b o o') (h1:∀ fs,o.data≠.fields fs) (h2:∀ es ep,o.data≠.dict es ep):o' = o:=by
 cases l with
 | same e=>exact e
 | tab ps more _ e _ _=>(clear h2; subst e); exact Pq rfl (h1 ps)
 | frame es ep _ _ e _ _ _=>exact Pq e (h2 es ep)
theorem Like.cls (l:Like h h' b o o'):o'.cls=o.cls:=by
 cases l with
 | same e=>rw[e]
 | tab ps more _ e e' _=>rw[e,e']; rfl
 | frame _ _ _ _ _ e _ _=>exact e
theorem Like.data (l:Like h h' b o o') (hn:∀ fs,o.data≠.fields fs):o'.data=o.data:=by
 cases l with
 | same e=>rw[e]
 | tab ps more _ e e' _=>exact Pq (by rw[e]; rfl) (hn ps)
 | frame _ _ _ _ _ _ e _=>exact e
theorem Stay.hard (x:Stay o):hardB o=true:=by
 unfold hardB
 rcases x with x | x
 ·rw[x.1]; decide
 ·rw[x.1]; decide
section
theorem KG.of (k:∀ b o,G b\/Stay o->h.get? b=qn o->h'.get? b=qn o):KG G h h':=λb o g e=>(ah o (k b o g e) (.same rfl))
theorem KG.refl:KG G h h:=.of λuu uu uu e=>e
theorem KG.hard (k:KG G h h') (hb:G b\/Stay o) (e:h.get? b=qn o) (hh:hardB o=vk):h'.get? b=qn o:=by
 refine af (k b o hb e) λi g l=>?_
 rw[g,l.hard hh]
theorem KG.stay (k:KG G h h') (e:h.get? b=qn o) (x:Stay o):h'.get? b=qn o:=k.hard (.inr x) e x.hard
theorem KG.codes (k:KG G h h') {ps:Pf Lt}(x:CodesG h ps):CodesG h' ps :=
 ⟨x.1,λg n m=>o7 (x.2 g n m) λc o l q t r p j i=>(lW c o l q t r (k.stay p (.inl (aE j (bP _ i.1)))) j i)⟩
theorem KG.trans (a:KG G h h') (b:KG G h' h''):KG G h h'':=λc o i e=>by
 refine af (a c o i e) λn p l=>?_
 have g:G c\/Stay n:=i.imp id λx=>by rw[l.hard x.hard]; exact x
 refine af (b c n g p) λj m k=>?_
 refine (ah j m ?_)
 cases l with
 | same e1=>
  (clear e i; subst e1)
  cases k with
  | same e2=>exact .same e2
  | tab ps more t1 t2 t3 t4=>exact .tab ps more t1 t2 t3 λx=>t4 (a.codes x)
  | frame es ep f1 f2 f3 f4 f5 f6=>exact .frame es ep f1 f2 f3 f4 f5 f6
 | tab ps more t1 t2 t3 t4=>
  (clear e i; subst t2 t3)
  cases k with
  | same e2=>exact .tab ps more t1 rfl e2 λx=>b.codes (t4 x)
  | tab ps' more' u1 u2 u3 u4=>
   have:ps' = ps++more:=by injection u2 with _ _ u; injection u with u; exact u.symm
   (clear u2; subst this)
   exact .tab ps (more++more') t1 rfl (by rw[u3,WL]) λx=>by rw[<- WL]; exact u4 (t4 x)
  | frame _ _ _ f2 _ _ _ _=>cases f2
 | frame es ep f1 f2 f0 f3 f4 f5=>
  cases k with
  | same e2=>(clear p g; subst e2); exact .frame es ep f1 f2 f0 f3 f4 f5
  | tab ps' more' u1 u2 u3 u4=>rw[f2,u2] at f3; cases f3
  | frame _ _ g1 g2 g0 g3 g4 g5=>exact .frame es ep f1 f2 f0 (g3.trans f3) (g4.trans f4) (g5.trans f5)
theorem KG.mono (k:KG G h h') (hg:∀ b,G' b->G b):KG G' h h':=λb o g e=>k b o (g.imp (hg b) id) e
end
theorem Stay.not_data (h1:∀ fs,o.data≠.fields fs) (h2:∀ vs n,o.data≠.seq vs n):¬ Stay o:=λx=>x.elim (λx=>let ⟨_,fs,e⟩:=x; h1 fs e) λx=>let ⟨_,vs,n,e⟩:=x; h2 vs n e
theorem Stay.not_list:¬ Stay ⟨.type "list", d,.seq vs n,x⟩:=λx=>x.elim (λx=>by simp at x) λx=>by simp at x
theorem Stay.not_dict (h:o.data = .dict es ep):¬ Stay o:=Stay.not_data (λuu q=>by rw[h] at q; cases q) λuu uu q=>by rw[h] at q; cases q
theorem Stay.not_cls (h1:o.cls≠.type "code") (h2:o.cls≠.type "tuple"):¬ Stay o:=λx=>x.elim (λx=>h1 x.1) λx=>h2 x.1
theorem KG.ofW {wr:rg Pz}{h h':P9}(k:∀ b o,b∉wr->h.get? b=qn o->h'.get? b=qn o) (n:∀ b∈wr,∀ o,h.get? b=qn o->¬ Stay o):KG (λb=>b∉wr) h h' :=
 .of λb o i e=>k b o (λg=>i.elim (λx=>x g) (n b g o e)) e
theorem KG.same (hs:Qg a h h') (hz:¬ G a) (hn:∀ o,h.get? a=qn o->¬ Stay o):KG G h h' :=
 .of λb o g e=>hs.extBut b o (λq=>by (clear hs; subst q); exact g.elim hz (hn o e)) e
noncomputable abbrev K (h h':P9):Prop:=KG (λuu=>Wa) h h'
section
theorem K.of (k:∀ b o,h.get? b=qn o->h'.get? b=qn o):K h h':=KG.of λb o _ e=>k b o e
theorem K.get (k:K h h') (e:h.get? b=qn o) (hh:hardB o=vk):h'.get? b=qn o:=KG.hard k (.inl trivial) e hh
theorem K.step (a:K h h') (b:KG G h' h'') (hg:∀ b o,h.get? b=qn o->G b):K h h'':=λc o _ e=>
 (KG.trans (KG.mono (G':=λb=>∃ o,h.get? b=qn o) a λuu uu=>trivial) (KG.mono b λb ⟨o,e⟩=>hg b o e)) c o (.inl ⟨o,e⟩) e
theorem K.same (k:K h h') (hs:Qg a h' h'') (ha:h.get? a=O2) (hn:∀ o,h'.get? a=qn o->¬ Stay o):K h h'' :=
 K.step k (G:=λb=>b≠a) (KG.same hs (λq=>q rfl) hn) λb o e q=>by rw[q,ha] at e; exact nN e
theorem K.there (k:K h h') (e:h.get? b=qn o):∃ o',h'.get? b=qn o':=af (k b o (.inl trivial) e) λo' g uu=>⟨o',g⟩
theorem KG.dataG (k:KG G h h') (g:G b\/Stay o) (e:h.get? b=qn o) (hn:∀ fs,o.data≠.fields fs):∃ o',h'.get? b=qn o'/\o'.data=o.data/\o'.cls=o.cls :=
 af (k b o g e) λo' i l=>(aG o' i (l.data hn) l.cls)
theorem K.data (k:K h h') (e:h.get? b=qn o) (hn:∀ fs,o.data≠.fields fs):∃ o',h'.get? b=qn o'/\o'.data=o.data/\o'.cls=o.cls:=KG.dataG k (.inl trivial) e hn
theorem K.exact (k:K h h') (e:h.get? b=qn o) (h1:∀ fs,o.data≠.fields fs) (h2:∀ es ep,o.data≠.dict es ep):h'.get? b=qn o :=
 af (k b o (.inl trivial) e) λi g l=>(l.exact h1 h2)▸g
theorem KF (k:KG G h h') (g:G a) (x:h.Ns a m):h'.Ns a m:=by
 refine bj (x) λo n p e j r=>?_
 clear x
 obtain ⟨l,t,i,_⟩:=k.dataG (.inl g) e λu q=>by rw[j] at q; cases q
 exact (c9 l n p t (i.trans j) r)
theorem fX (x:h.Ns a m) (k:K h h'):h'.Ns a m:=KF k trivial x
theorem BZ (k:KG G h h') (g:G c) (x:h.IsCell c v):h'.IsCell c v:=by
 refine af (x) λo e j=>?_
 clear x
 obtain ⟨l,m,i,_⟩:=k.dataG (.inl g) e λn q=>by rw[j] at q; cases q
 exact (ah l m (i.trans j))
theorem iT (x:h.IsCell c v) (k:K h h'):h'.IsCell c v:=BZ k trivial x
theorem kW (x:h.NoLimit) (k:K h h'):h'.NoLimit:=af (x) λg a b=>(ah g (fX a k) b)
theorem zZ (k:KG G h h'):(∀ {v:Lt}{d:Pk}{as:rg Pz},R h v d as->(∀ a∈as,G a)->R h' v d as)/\(∀ {vs:rg Lt}{ds:rg Pk}{as:rg Pz},RA h vs ds as->(∀ a∈as,G a)->RA h' vs ds as) :=
 R.ind (M:=λv d as=>(∀ a∈as,G a)->R h' v d as) (N:=λvs ds as=>(∀ a∈as,G a)->RA h' vs ds as) (λuu=>.none) (λb _=>.bool b) (λi t _=>.int i t) (λx t _=>.str x t)
  (λe _ m g=>.list (k.hard (.inl (g _ (.head _))) e rfl) (m λb l=>g b (.tail _ l))) (λe _ m g=>.tuple (k.stay e (.inr (aE rfl (bN _ _ rfl)))) (m g))
  (λuu=>.nil) (λuu uu i j g=>.cons (i λb l=>g b (PX _ l)) (j λb l=>g b (P5 _ l)))
theorem R.onG (r:R h v d as) (k:KG G h h') (g:∀ a∈as,G a):R h' v d as:=(zZ k).1 r g
theorem RA.onG (r:RA h vs ds as) (k:KG G h h') (g:∀ a∈as,G a):RA h' vs ds as:=(zZ k).2 r g
theorem R.k (r:R h v d as) (k:K h h'):R h' v d as:=r.onG k λuu uu=>trivial
theorem RA.k (r:RA h vs ds as) (k:K h h'):RA h' vs ds as:=r.onG k λuu uu=>trivial
noncomputable def CodeOk (h:P9) (cd:Lt) (q:Str):Prop:=∃ c P ps,cd = .ref c/\h.CodeRec cd q/\h.IsCode c P ps/\h.TableAt c P ps/\CodesG h ps/\SF.tab P
theorem CodeOk.k (x:CodeOk h cd q) (k:K h h'):CodeOk h' cd q:=by
 refine cQ (x) λc P ps Nw p n m G sP=>?_
 clear x
 subst Nw
 refine f8 (p) λc' o' y t' e0 e1 e2 e3=>?_
 clear p
 refine Cr (n) λo vs t tf g tg inF i tt op i1 i2 i3 i4 i5 i6 i7 i8 i9 i10 i11=>?_
 clear n
 refine ae (m) λj t5=>?_
 clear m
 refine bp (j) λoc vc t1 t2 z t4=>?_
 clear j
 cases e0
 rw[i1] at e1 t1
 rw[<- vj e1] at e2
 rw[<- vj t1] at t2 z
 have kc:h'.get? c=qn o:=k.stay i1 (.inl (aE t2 (bP _ z)))
 refine af (k P _ (.inl trivial) t5) λo' e' l=>?_
 have r:∃ v,h'.get? P=qn {cls:=.none,data:=.fields v }/\CodesG h' v:=by
  cases l with
  | same e=>subst e; exact (ah ps e' (KG.codes k G))
  | tab ps' more u1 u2 u3 u4=>
   have:ps' = ps:=by injection u2 with _ _ u; injection u with u; exact u.symm
   (clear i10 i9 t5 u2; subst this)
   exact (ah _ (by rw[e',u3]; rfl) (u4 G))
  | frame _ _ _ f _ _ _ _=>cases f
 refine af (r) λv eq Gq=>?_
 clear r
 exact (gd c P v rfl (jw c o y t' rfl kc e2 e3) ⟨o,vs,t,tf,g,tg,inF,i,tt,_,kc,i2,i3,i4,i5,i6,i7,eq,rfl,Gq.1,i11⟩ ⟨(bO o vc kc t2 z t4),eq⟩ Gq sP)
end
end
noncomputable def bval (x:OX):Value:=if x∈["list", "tuple", "range", "int", "bool", "str"] then .type x else .builtin x
structure Fns where
 fn:OX->O4 (Pz×FnT)
 mth:OX->O4 (Pz×FnT)
 init:O4 (Pz×FnT)
 lam:PV
 hand:PV
noncomputable def adr (fns:Fns) (f:OX):O4 Addr:=if f = "Rule" then fns.init.map λuu=>SF.rule else if f∈methNames then (fns.mth f).map (·.1) else (fns.fn f).map (·.1)
theorem v7 (h1:f ≠ "Rule") (h2:f∉methNames):adr fns f=(fns.fn f).map (·.1):=by unfold adr; rw[OY h1,OY h2]
theorem sC (h1:f ≠ "Rule") (h2:f∈methNames):adr fns f=(fns.mth f).map (·.1):=by unfold adr; rw[OY h1,O1 h2]
noncomputable def FnAt (h:P9) (ft:FnT) (a:Pz):Prop:=∃ o fd,h.get? a=qn o/\o.data = .func fd/\fd.body = .stmts ft.body/\fd.scope=ft.scope/\fd.globals=Q0/\fd.closure=[]/\fd.builtins=TN/\h.CodeRec fd.code fd.qualname/\(ft.lam=vk->CodeOk h fd.code fd.qualname) /\
 (∀ vals,vals.length=ft.params.length->W7 fd ⟨vals,[]⟩=Qq ((ft.params.map mL).zip vals))/\fd.scope.isCoroutine=OZ/\fd.scope.isGenerator=OZ/\fd.scope.kind = .function
theorem vV (x:h.CodeRec cd q) (k:K h h'):h'.CodeRec cd q:=by
 refine f8 (x) λc o m t g e j i=>?_
 clear x
 subst g
 refine af (k c o (.inl trivial) e) λp n l=>?_
 cases l with
 | same q=>(clear e; subst q); exact (jw c _ m t rfl n j i)
 | tab ps more _ q1 q2 _=>
  (clear e; subst q1 q2)
  obtain rfl:=Jal (show ZJ ps=ZJ m from j)
  exact (jw c _ (ps++more) t rfl n rfl (by rw[Array.getElem?_append_left (Rg.mp i).1]; exact i))
 | frame es ep _ _ q _ _ _=>rw[j] at q; cases q
theorem FnAt.k (x:FnAt h ft a) (k:K h h'):FnAt h' ft a:=by
 refine wq (x) λo z y i v u t r p n m g=>?_
 clear x
 obtain ⟨j,e',l,_⟩:=K.data k y λfs q=>by rw[i] at q; cases q
 exact (qI j z e' (l.trans i) v u t r p (vV n k) (λq=>(m q).k k) g)
theorem rT (x:ClsAt h C N mN) (k:K h h'):ClsAt h' C N mN:=by
 obtain ⟨g,u⟩:=x
 refine fq (g) λm q y l i j v t r p o n e=>?_
 clear g
 exact ⟨⟨m,q,y,l,i,j,v,t,r,p,o,n,K.get k e rfl⟩,fX u k⟩
noncomputable def RuleAt (fns:Fns) (h:P9):Prop:=∃ N mN,ClsAt h SF.rule N mN/\(∀ n∈["__setattr__", "__getattribute__", "__getattr__", "count", "full", "size"],mN (mL n)=O2) /\
 (∃ p o,fns.init=qn p/\mN "__init__" = qn (.ref p.1)/\FnAt h p.2 p.1/\h.get? p.1=qn o/\o.cls = .type "function") /\
 ∀ m p,fns.mth m=qn p->∃ o,mN (mL m)=qn (.ref p.1)/\FnAt h p.2 p.1/\h.get? p.1=qn o/\o.cls = .type "function"
theorem sw (k:K h h') (e:h.get? a=qn o) (c:o.cls = .type "function"):∃ o',h'.get? a=qn o'/\o'.cls = .type "function" :=
 af (k a o (.inl trivial) e) λo' g l=>(ah o' g (l.cls.trans c))
theorem RuleAt.k (x:RuleAt fns h) (k:K h h'):RuleAt fns h':=by
 refine bp (x) λN n h1 h2 g h4=>?_
 clear x
 refine mh (g) λp o i1 i2 z y v=>?_
 clear g
 refine af (sw k y v) λi j l=>?_
 refine (bO N n (rT h1 k) h2 (bW p i i1 i2 (z.k k) j l) (λm p hp=>?_))
 refine bX (h4 m p hp) λo u t r q=>?_
 refine af (sw k r q) λi j l=>?_
 exact (bD i u (t.k k) j l)
noncomputable def dN (c:OX):rg Value:=if c = "PickError" then bmV else .ref (SF.exc "PickError")::bmV
theorem wF (T:Zk h bm tl) (k:K h h'):Zk h' bm tl:=by
 induction T with
 | base=>exact .base
 | own hA hN hq _ ih=>exact .own (K.exact k hA (λuu q=>by cases q) λuu uu q=>by cases q) (fX hN k) hq ih
noncomputable def ExcAt (h:P9) (c:OX):Prop:=∃ N nm q bs hdct sn sub ab col dd k0 k1 k2 k3 k5 mN,h.get? (SF.exc c)=qn (Wl nm q (SF.exc c) N bs (dN c) hdct sn sub ab col dd k0 k1 k2 k3 k5 "ValueError.__new__")/\h.Ns N mN/\mN "__init__" = O2/\Zk h bmV (dN c)
theorem ExcAt.use {h:P9}{c:OX}{G:Prop}(x:ExcAt h c) (k:∀ {N:Pz}{nm q:Str}{bs:rg Lt}{hdct:PV}{sn:rg Str}{sub:rg Lt}{ab:PV}{col:O4 PV}{dd:O4 Pz}{k0 k1 k2 k3 k5:O4 Lt}{mN:Str->O4 Lt},h.get? (SF.exc c)=qn (Wl nm q (SF.exc c) N bs (dN c) hdct sn sub ab col dd k0 k1 k2 k3 k5 "ValueError.__new__")->h.Ns N mN->mN "__init__" = O2->Zk h bmV (dN c)->G):G:=by
 obtain ⟨N,nm,q,bs,hdct,sn,sub,ab,col,dd,k0,k1,k2,k3,k5,mN,l,j,i,g⟩:=x
 exact k l j i g
theorem ExcAt.k (x:ExcAt h c) (k:K h h'):ExcAt h' c :=
 x.use λl j i g=>⟨_,_,_,_,_,_,_,_,_,_,_,_,_,_,_,_,K.exact k l (λuu q=>by cases q) (λuu uu q=>by cases q),fX j k,i,wF g k⟩
structure GE (fns:Fns) (h:P9):Prop where
 glob:∃ mg,h.Ns Q0 mg/\(∀ f a,f∉methNames->adr fns f=qn a->mg (mL f)=qn (.ref a))/\∀ x∈bnames,mg (mL x)=O2
 funs:∀ f p,fns.fn f=qn p->FnAt h p.2 p.1
 cls:(∃ f p,fns.mth f=qn p)\/fns.init.isSome=vk->RuleAt fns h
 blt:∃ mb,h.Ns TN mb/\∀ x∈bnames,mb (mL x)=qn (bval x)
 nolim:h.NoLimit
 old:∀ b,SF.old b->∃ o,h.get? b=qn o
 exc:∃ mg,h.Ns Q0 mg/\(∀ c∈SF.excN,mg (mL c)=qn (.ref (SF.exc c))/\ExcAt h c)/\∀ c∈SF.excN,∀ c' ∈ "PickError" :: SF.excN,SF.exc c=SF.exc c'->c=c'
 bm:∃ mg bm ob,h.Ns Q0 mg/\mg "__builtins__" = qn (.ref bm)/\bm≠TN/\h.get? bm=qn ob/\ob.cls = .type "module" /\ ob.dict=qn TN/\ob.data = .plain
theorem GE.k {fns:Fns}{h h':P9}(G:GE fns h) (k:K h h'):GE fns h' where
 glob:=af (G.glob) λi a b=>(ah i (fX a k) b)
 funs:=λf p e=>(G.funs f p e).k k
 cls:=λe=>(G.cls e).k k
 blt:=af (G.blt) λm a b=>(ah m (fX a k) b)
 nolim:=kW G.nolim k
 old:=λb n=>ak (G.old b n) λuu e=>K.there k e
 exc:=aq (G.exc) λi a b c=>(aG i (fX a k) (λc j=>⟨(b c j).1,(b c j).2.k k⟩) c)
 bm:=v5 (G.bm) λi bm l a b c d e f g=>(lX i bm l (fX a k) b c (K.get k d (by unfold hardB; rw[e]; decide)) e f g)
theorem GE.flag (G:GE fns h) (a b:PV):GE {fns with lam:=a,hand:=b } h:=⟨G.glob,G.funs,G.cls,G.blt,G.nolim,G.old,G.exc,G.bm⟩
noncomputable def FrOk (h:P9) (l:rg Env):Prop:=∀ env∈l,env.scope.kind = .function/\∃ L o es ep,env.frame=qn L/\¬ SF.old L/\h.get? L=qn o/\o.cls = .type "frame" /\ o.data = .dict es ep
theorem FrOk.k (x:FrOk h l) (k:K h h'):FrOk h' l:=λg m=>by
 obtain ⟨u,L,o,v,y,t,r,p,n,i⟩:=x g m
 refine af (k L o (.inl trivial) p) λj z l=>?_
 exact (aE u (kX L j v y t r z (l.cls.trans n) ((l.data λfs q=>by rw[i] at q; cases q).trans i)))
section
noncomputable def RV (h:P9) (v:Lt):V->rg Pz->Prop
 | .d x,as=>R h v x as/\sz x=vk
 | .dic0,as=>∃ a,v = .ref a/\as=[a]/\(a==UW)=OZ/\h.DictOf (R4 prog w) a []/\h.DictOfH (XD (R4 prog w)) a []
 | .dicI ks,as=>∃ a,v = .ref a/\as=[a]/\(a==UW)=OZ/\h.DictOf (R4 prog w) a (ks.map λk=>(k,.bool vk))
 | .dicT ks,as=>∃ a xs,v = .ref a/\as=[a]/\(a==UW)=OZ/\h.DictOfH (XD (R4 prog w)) a xs/\xs.map (·.1)=ks/\(∀ k∈ks,k.length<=2^22)/\∀ x∈xs,R h (.ref x.2.1) (aO x.1) []
 | .rule c d n,as=>∃ x D o vf bs t u mA,v = .ref x/\as=x::D::bs/\h.get? x=qn o/\o.cls = .ref SF.rule/\(∀ c,o.data≠.cls c)/\o.dict=qn D/\D≠x/\h.Ns1 D mA/\mA "count" = qn (.int c t)/\mA "full" = qn vf/\mA "size" = qn (.int n u)/\(∀ m∈methNames,mA (mL m)=O2)/\R h vf d bs/\sz d=vk
inductive RVs (h:P9):rg V->rg Lt->rg Pz->Prop
 | nil:RVs h [] [] []
 | cons {x:V}{xs:rg V}{v:Lt}{vs:rg Lt}{as bs:rg Pz}:RV h v x as->RVs h xs vs bs->RVs h (x::xs) (v::vs) (as++bs)
end
inductive VarIs (h:P9) (env:Env) (x:Str) (v:Lt):Prop
 | loc (m:Str->O4 Lt):env.kindOf x=qn .local->h.Ns env.locals m->m x=qn v->VarIs h env x v
 | cell (c:Pz):env.kindOf x=qn .cell\/env.kindOf x=qn .free->env.cells.lookup x=qn c->h.IsCell c (qn v)->VarIs h env x v
structure EnvOk (env:Env):Prop where
 kind:env.scope.kind = .function
 glob:env.globals=Q0
 blt:env.builtins=TN
 cells:∀ n,env.kindOf n=qn .cell\/env.kindOf n=qn .free->∃ c,env.cells.lookup n=qn c
section
theorem Mw (x:S5 (R4 prog w) h ks a) (k:KG G h h'):S5 (R4 prog w) h' ks a :=
 bj (x) λo j n l i g=>(c9 o j n (k.stay l (.inr (aE i (bN _ _ g.1)))) i g)
theorem iP (x:o.ExactDict):hardB o=true:=by unfold hardB; rw[x.1]; decide
theorem pO (x:h.DictOf (R4 prog w) a kvs) (k:KG G h h') (g:G a):h'.DictOf (R4 prog w) a kvs :=
 bC (x) λo i j l r=>(cB o i j (k.hard (.inl g) l (iP r.1)) r)
theorem oO (x:h.DictOfH (XD (R4 prog w)) a xs) (k:KG G h h') (g:G a):h'.DictOfH (XD (R4 prog w)) a xs :=
 cQ (x) λo l m t i r q p n=>(gd o l m (k.hard (.inl g) t (iP i)) i r q (λy j=>Mw (p y j) k) n)
theorem RV.onG (r:RV h v x as) (k:KG G h h') (g:∀ a∈as,G a):RV h' v x as:=by
 cases x with
 | d x=>exact ⟨r.1.onG k g,r.2⟩
 | dic0=>obtain ⟨a,m,rfl,l,j,p⟩:=r; exact (jz a m rfl l (pO j k (g a (.head _))) (oO p k (g a (.head _))))
 | dicI ks=>obtain ⟨a,m,rfl,l,j⟩:=r; exact (bD a m rfl l (pO j k (g a (.head _))))
 | dicT ks=>obtain ⟨a,xs,m,rfl,l,j,p,h6,h7⟩:=r; exact (ic a xs m rfl l (oO j k (g a (.head _))) p h6 (λx hx=>(h7 x hx).onG k λuu h=>nomatch h))
 | rule c d n=>
  refine jM (r) λx D o vf bs t u mA m y l j p h6 h7 i h9 h10 h11 h12 h13 h14=>?_
  clear r
  subst y
  refine bC (i) λoD es ep e hd=>?_
  clear i
  obtain ⟨z,eD,q,_⟩:=k.dataG (.inl (g D (.tail _ (.head _)))) e λfs q=>by rw[hd.1] at q; cases q
  exact (jX x D o vf bs t u mA m rfl (k.hard (.inl (g x (.head _))) l (by unfold hardB; rw[j])) j p h6 h7 (c9 z es ep eD (q.trans hd.1) hd.2) h9 h10 h11 h12 (h13.onG k λa ha=>g a (.tail _ (.tail _ ha))) h14)
theorem RV.k (r:RV h v x as) (k:K h h'):RV h' v x as:=r.onG k λuu uu=>trivial
theorem VarIs.k (r:VarIs h env x v) (k:K h h'):VarIs h' env x v:=by
 cases r with
 | loc m a b c=>exact .loc m a (fX b k) c
 | cell c a b d=>exact .cell c a b (iT d k)
theorem RV.keep (r:RV h v x as) (k:∀ b o,h.get? b=qn o->h'.get? b=qn o):RV h' v x as:=r.k (.of k)
noncomputable def Kp (s s':O0):Prop:=∃ h' tk,s' = {s with heap:=h',toks:=tk }/\K s.heap h'
theorem Kp.refl (s:O0):Kp s s:=(aC s.heap s.toks rfl KG.refl)
theorem Kp.trans (a:Kp s s₁) (b:Kp s₁ n):Kp s n:=by
 refine aw (a) λh t i k=>?_
 clear a
 subst i
 refine aw (b) λm j g l=>?_
 clear b
 subst g
 exact (aC m j rfl (KG.trans k l))
theorem Kp.k (a:Kp s s₁):K s.heap s₁.heap:=by
 obtain ⟨h,t,rfl,k⟩:=a; exact k
theorem Kp.of (k:∀ b o,s.heap.get? b=qn o->h'.get? b=qn o):Kp s {s with heap:=h',toks:=tk }:=(aC h' tk rfl (.of k))
theorem Kp.toks (s:O0) (t:Pa):Kp s {s with toks:=t }:=.of (s:=s) λuu uu e=>e
theorem Kp.push (s:O0) (o:Obj) (t:Pa):Kp s {s with heap:=s.heap.push o,toks:=t }:=.of λuu uu e=>Pd _ e
theorem Kp.none (a:Kp s s₁) (e:s₁.heap.get? b=O2):s.heap.get? b=none:=by
 cases q:s.heap.get? b with
 | none=>rfl
 | some o=>obtain ⟨h,g⟩:=a.k.there q; rw[g] at e; exact nM e
structure Cx (fns:Fns) (k:Pa) (A:PU) (P:Pz->Prop) (h:P9) (env:Env) (σ:St):Prop where
 room:Room fns.hand k A
 eok:EnvOk env
 ge:GE fns h
 code:fns.lam=vk->∃ q,CodeOk h env.code q
 frm:fns.hand=OZ->∃ l,A.frames=qn l/\FrOk h l
 vars:∀ x p,σ x=qn p->varK env.scope.names x=vk->∃ v as,VarIs h env (mL x) v/\RV h v p.1 as/\∀ a∈as,P a
inductive EP (P:Pz->Prop) (s:O0) (r:V×Mode) (v:Lt) (s':O0):Prop
 | mk (kp:Kp s s') (as:rg Pz) (rv:RV s'.heap v r.1 as) (own:∀ a∈as,P a\/s.heap.get? a=O2) (top:r.2 = .top->∃ a bs,as=a::bs/\s.heap.get? a=O2/\a∉bs) (deep:r.2 = .deep->(∀ a∈as,s.heap.get? a=O2)/\as.Nodup):EP P s r v s'
inductive EPs (P:Pz->Prop) (s:O0) (l:rg (V×Mode)) (vs:rg Lt) (s':O0):Prop
 | mk (kp:Kp s s') (as:rg Pz) (rv:RVs s'.heap (l.map (·.1)) vs as) (own:∀ a∈as,P a\/s.heap.get? a=O2) (deep:allDeep l=vk->(∀ a∈as,s.heap.get? a=O2)/\as.Nodup):EPs P s l vs s'
theorem EP.keeps (e:EP P s r v s'):Kp s s':=by cases e; assumption
theorem EPs.keeps (e:EPs P s l vs s'):Kp s s':=by cases e; assumption
theorem Cx.k {fns:Fns}{k:Pa}{A:PU}{P:Pz->Prop}{h h':P9}{env:Env}{σ:St}(X:Cx fns k A P h env σ) (kp:K h h'):Cx fns k A P h' env σ where
 room:=X.room
 eok:=X.eok
 ge:=X.ge.k kp
 code:=λhk=>ak (X.code hk) λq c=>⟨q,c.k kp⟩
 frm:=λq=>af (X.frm q) λl a b=>(ah l a (b.k kp))
 vars:=λx p i g=>ay (X.vars x p i g) λv as a b c=>(aP v as (a.k kp) (b.k kp) c)
theorem EP.scalar (k:Kp s s') (r:R s'.heap v x []) (z:sz x=vk) (hm:m≠.top):EP P s (.d x,m) v s' :=
 ⟨k,[],⟨r,z⟩,λuu h=>(nomatch h),λh=>Pq h hm,λuu=>⟨λuu h=>(nomatch h),.nil⟩⟩
theorem EP.int (k:Kp s s'):EP P s (sI i) (.int i t) s':=.scalar k (.int i t) rfl (by simp)
theorem EP.bool (k:Kp s s'):EP P s (sB b) (.bool b) s':=.scalar k (.bool b) rfl (by simp)
theorem EP.after (k:Kp s s₁) (e:EP P s₁ r v s'):EP P s r v s':=by
 obtain ⟨i,as,a,b,c,d⟩:=e
 exact ⟨k.trans i,as,a,λx h=>(b x h).imp id k.none,λg=>ay (c g) λa n m l j=>(aP a n m (k.none l) j),λg=>⟨λx h=>k.none ((d g).1 x h),(d g).2⟩⟩
end
section
variable (fns:Fns) (k:Pa) (C:Calls) (XP:OX->O0->Lt->O0->Prop)
noncomputable def SimE (e:E):Prop:=∀ {ex:Expr}{A:PU}{env:Env}{σ:St}{P:Pz->Prop}{s:O0}{Q:Lt->O0->Prop}{Er:Lt->O0->Prop},
 okE env.scope.names e ex=vk->Cx fns k A P s.heap env σ->ev C e σ≠.bad ->
 (∀ r,ev C e σ = .ok r->∀ v s',EP P s r v s'->Q v s')->(∀ c,ev C e σ = .exc c->∀ x s',XP c s x s'->Er x s') ->
 Ph (Pn prog w) A (Tu ex env) Q Er s
noncomputable def SimT (e:E):Prop:=∀ {ex:Expr}{A:PU}{env:Env}{σ:St}{P:Pz->Prop}{s:O0}{Q:PV->O0->Prop}{Er:Lt->O0->Prop},
 okE env.scope.names e ex=vk->Cx fns k A P s.heap env σ->((ev C e σ).bind λr=>au r.1)≠.bad ->
 (∀ b,((ev C e σ).bind λr=>au r.1) = .ok b->∀ s',Kp s s'->Q b s')->(∀ c,ev C e σ = .exc c->∀ x s',XP c s x s'->Er x s') ->
 Ph (Pn prog w) A (isTrue ex env (Tu ex env)) Q Er s
end
theorem br {α β:Type}{o:Out α}{f:α->Out β}(h:o.bind f≠.bad):o≠.bad/\∀ a,o = .ok a->f a≠.bad:=by
 cases o with
 | ok a=>exact ⟨λe=>(by cases e),λuu e=>by (have g:=Out.ok.inj e; clear e; subst g); exact h⟩
 | exc c=>exact ⟨λe=>(by cases e),λuu e=>by cases e⟩
 | bad=>exact Pq rfl h
theorem aR {α β:Type}{o:Out α}{f:α->Out β}{G:Prop}(h:o.bind f≠.bad) (k:o≠.bad->(∀ a,o = .ok a->f a≠.bad)->G):G:=ae (br h) k
theorem kY {α:Type}{o:Out α}{b:α}(h:o.calm = .ok b):o = .ok b:=by
 cases o with
 | ok a=>exact h
 | exc c=>exact nB h
 | bad=>exact nB h
theorem bY {α β:Type}{o:Out α}{f:α->Out β}{c:OX}(h:o.bind f = .exc c):o = .exc c\/∃ a,o = .ok a/\f a = .exc c:=by
 cases o with
 | ok a=>exact .inr (ah a rfl h)
 | exc c=>cases h; exact .inl rfl
 | bad=>cases h
section
theorem L5 (hXP:∀ c s s₁ x s',Kp s s₁->XP c s₁ x s'->XP c s x s') {a b:E}(Sa:SimE fns k C XP a) (Sb:SimE fns k C XP b)
  {ea eb:Expr}{A:PU}{env:Env}{σ:St}{P:Pz->Prop}{s:O0}{G:Lt->Lt->O0->Prop}{Er:Lt->O0->Prop}
  (oa:okE env.scope.names a ea=vk) (ob:okE env.scope.names b eb=vk) (X:Cx fns k A P s.heap env σ)
  (na:ev C a σ≠.bad) (nb:∀ x,ev C a σ = .ok x->ev C b σ≠.bad)
  (hE:∀ c,(ev C a σ = .exc c\/∃ x,ev C a σ = .ok x/\ev C b σ = .exc c)->∀ x s',XP c s x s'->Er x s')
  (hG:∀ x y,ev C a σ = .ok x->ev C b σ = .ok y->∀ va vb s₁ l,EP P s x va s₁->EP P s₁ y vb l->G va vb l) :
  Ph (Pn prog w) A (Tu ea env) (λva s₁=>Ph (Pn prog w) A (Tu eb env) (λvb l=>G va vb l) Er s₁) Er s :=
 Sa oa X na (λx g va s₁ Ea=>Sb ob (X.k Ea.keeps.k) (nb x g) (λy j vb l Eb=>hG x y g j va vb s₁ l Ea Eb)
  λc h z s' i=>hE c (.inr (ah x g h)) z s' (hXP c s s₁ z s' Ea.keeps i)) λc h=>hE c (.inl h)
theorem pK {env:Env}{x:OX}(h:varK env.scope.names x=vk):env.kindOf (mL x)=qn .local\/env.kindOf (mL x)=qn .cell\/env.kindOf (mL x)=qn .free:=by
 unfold varK at h
 unfold VO
 replace h:=(TH.mp h).2
 split at h<;>first | (rename_i e; exact .inl e) | (rename_i e; exact .inr (.inl e)) | (rename_i e; exact .inr (.inr e)) | exact nF h
theorem dj (hk:env.scope.kind = .function) (hd:aZ x=vk)
  (hv:VarIs s.heap env (mL x) v) (h:Q v s):Ph (Pn prog w) A (Tu (.Name (mL x) pos) env) Q Er s:=by
 unfold aZ at hd
 simp only[O9,P0] at hd
 cases hv with
 | loc m a b c=>exact Yq (wpAny_loadName_local hk a b c h) hd.1
 | cell c a b d=>
  rcases a with a | a
  ·exact Yq (wpAny_loadName_cell hk a b d h) hd.1
  ·exact Yq (wpAny_loadName_free hk a b d h hd.2) hd.1
theorem uj (r:RV s.heap v x as) (h:∀ a∈as,P a):EP P s (mk x) v s:=by
 refine ⟨.refl s,as,r,λa j=>.inl (h a j),λg=>?_,λg=>?_⟩
 ·unfold mk at g; dsimp only at g; split at g<;>cases g
 ·cases x with
  | d x=>
   unfold mk at g; dsimp only at g
   split at g
   ·rename_i i
    have:as=[]:=r.1.sx_nil i
    (clear h r; subst this)
    exact ⟨λuu h=>(nomatch h),.nil⟩
   ·cases g
  | _=>simp[mk,tV] at g
theorem lM {ex:Expr}(h:okE ns (.name x) ex=vk):∃ p,ex = .Name (mL x) p/\varK ns x=vk/\aZ x=true:=by
 replace h:=wp h
 revert h; refine λg=>PG g (λi=>?_) (λh=>?_)
 ·clear g
  refine aw (i) λm l j h=>?_
  clear i
  subst j
  simp only[O9,Pv] at h
  refine ae (h) λk o=>?_
  clear h
  refine ae (k) λn q=>?_
  clear k
  subst n
  exact (aG _ rfl q o)
 ·cases h
theorem e9 (x:OX):SimE fns k C XP (.name x):=by
 intro ex A u i P s Q Er h X j n y
 refine aq (lM h) λp g l m=>?_
 (clear h; subst g)
 cases hσ:i x with
 | none=>exact Pq (by simp[cK,hσ]) j
 | some q=>
  refine ay (X.vars x q hσ l) λv as t r o=>?_
  exact dj X.eok.kind m t (n (mk q.1) (by simp[cK,hσ]) v s (uj r o))
theorem sa (i:O3):SimE fns k C XP (.int i):=by
 intro ex A q r P s Q Er j X t p u
 replace j:=zM j
 revert j; refine λg=>PG g (λh=>?_) (λj=>?_)
 ·clear g
  refine bC (h) λo n m l j=>?_
  clear h
  subst l
  simp only[Pv] at j
  subst j
  exact WM (p (sI i) rfl _ _ (.int (.toks s _)))
 ·cases j
theorem BG (x:OX):SimE fns k C XP (.str x):=by
 intro ex A r t P s Q Er g X u q v
 replace g:=HM g
 revert g; refine λh=>PG h (λi=>?_) (λg=>?_)
 ·clear h
  refine bC (i) λn m l j g=>?_
  clear i
  subst j
  simp only[O9,Pv,PM] at g
  refine ae (g) λo p=>?_
  clear g
  subst o
  exact WN (q (.d (.str (mL x)),.deep) rfl _ _ (.scalar (.toks s _) (.str _ _) (by simpa [sz] using p) (by simp)))
 ·cases g
theorem yS (b:PV):SimE fns k C XP (.bool b):=by
 intro ex A p q P s Q Er i X r o t
 replace i:=CL i
 revert i; refine λg=>PG g (λh=>?_) (λi=>?_)
 ·clear g
  refine bC (h) λn m l j i=>?_
  clear h
  subst j
  simp only[Pv] at i
  subst i
  exact Wz (o (sB b) rfl _ _ (.bool (.refl s)))
 ·cases i
theorem yU:SimE fns k C XP .none:=by
 intro ex A o p P s Q Er j X q n r
 replace j:=CV j
 revert j; refine λg=>PG g (λh=>?_) (λj=>?_)
 ·clear g
  refine aw (h) λm l i j=>?_
  clear h
  subst i
  exact wpAny_Constant_none (n (.d .none,.deep) rfl _ _ (.scalar (.refl s) .none rfl (by simp)))
 ·cases j
theorem bx (h:P9):h.get? h.objs.size=none:=QC (PH _)
theorem e7 {h:P9}{a:Pz}{o:Obj}(e:h.get? a=qn o):a≠h.objs.size:=Qz (RH e)
theorem EP.newList (r:RA s.heap vs xs as) (hl:xs.length<=2^22) (hz:∀ x∈xs,sz x=vk) (ha:∀ a∈as,P a) :
  EP P s (.d (.list xs),fresh xs) (.ref s.heap.objs.size) {s with heap:=s.heap.push {cls:=.type "list", data:=.seq vs.toArray },toks:=t }:=by
 refine ⟨.push s _ _,s.heap.objs.size::as,⟨.list (PE _ rfl) (r.keep λuu uu e=>Pd _ e),sz_list.mpr ⟨hl,hz⟩⟩,?_,?_,?_⟩
 ·intro a h
  rcases PC.mp h with rfl | h
  ·exact .inr (bx _)
  ·exact .inl (ha a h)
 ·intro _
  exact (aP _ _ rfl (bx _) (λh=>bi (r.there _ h) λuu uu e=>e7 e rfl))
 ·intro i
  have g:xs.all sx=true:=by
   unfold fresh at i; dsimp only at i; split at i
   ·assumption
   ·cases i
  rw[r.sx_nil g]
  refine ⟨λa h=>?_,by simp⟩
  rcases PC.mp h with rfl | h
  ·exact bx _
  ·cases h
section
theorem xQ (ra:R s.heap va (.list xs) as) (za:sz (.list xs)=vk) (rb:R s.heap vb (.list ys) bs) (zb:sz (.list ys)=vk) (ha:∀ a∈as,P a) (hb:∀ a∈bs,P a) (hl:xs.length+ys.length<=lim)
  (hQ:∀ v s',EP P s (.d (.list (xs++ys)),fresh (xs++ys)) v s'->Q v s'):Ph (Pn prog w) A (W8 .Add va vb) Q Er s:=by
 cases ra with
 | list ea ra=>
 cases rb with
 | list eb rb=>
 unfold lim at hl
 rw[sz_list] at za zb
 have j:=ra.length
 have i:=rb.length
 refine PySem.P.add_list ea eb ?_ ?_
 ·have:=EP.newList (P:=P) (t:=s.toks) (ra.append rb) (by rw[Pj]; exact HI hl) (λz g=>(Pu.mp g).elim (za.2 z) (zb.2 z)) λa h=>(Pu.mp h).elim (λh=>ha a (.tail _ h)) λh=>hb a (.tail _ h)
  exact hQ _ _ (by simpa using this)
 ·rw[PJ,PJ,j,i]
  unfold RC; exact F8 hl
theorem B8 (h:a.natAbs<2^63\/b.natAbs<2^63) (hQ:∀ v s',EP P s (sI (a*b)) v s'->Q v s'):Ph (Pn prog w) A (W8 .Mult (.int a t) (.int b u)) Q Er s:=by
 refine mul_int (hQ _ _ (.int (.toks s _))) ?_
 rcases h with hl | hl
 ·exact IntMulOk.of_left (YO (by exact na1 ‹_›) (by exact na2 ‹_›))
 ·exact IntMulOk.of_right (YO (by exact na1 ‹_›) (by exact na2 ‹_›))
theorem yW (h:¬ (b=0\/1000000000<=b.natAbs)) (hQ:∀ v s',EP P s (sI (a.fdiv b)) v s'->Q v s'):Ph (Pn prog w) A (W8 .FloorDiv (.int a t) (.int b u)) Q Er s :=
 floordiv_int (λe=>h (.inl e)) (hQ _ _ (.int (.toks s _))) (.inl (Zl (Ku h)))
theorem Bg (h:0<=b/\b<=1000/\a.natAbs<2^63) (hQ:∀ v s',EP P s (sI (a^b.toNat)) v s'->Q v s'):Ph (Pn prog w) A (W8 .Pow (.int a t) (.int b u)) Q Er s :=
 pow_int_small h.1 (JU h) (HD h) (hQ _ _ (.int (.toks s _)))
theorem xn
  (ho:opB o op=vk) (he:dR o x y = .ok r) (ra:R s.heap va x as) (za:sz x=vk) (rb:R s.heap vb y bs) (zb:sz y=vk) (ha:∀ a∈as,P a) (hb:∀ a∈bs,P a)
  (hQ:∀ v s',EP P s r v s'->Q v s'):Ph (Pn prog w) A (W8 op va vb) Q Er s:=by
 cases PS ho
 cases o with
 | add=>
  replace he:qu x y = .ok r:=he
  unfold qu at he
  cases hx:asL x with
  | some xs=>
   rw[hx] at he
   replace he:=aW he
   revert he; intro n
   refine af (n) λys hy he=>?_
   clear n
   cases cW hx
   cases cW hy
   clear hx hy
   split at he<;>cases he
   exact xQ ra za rb zb ha hb ‹_› hQ
  | none=>
   rw[hx] at he
   replace he:=fH he
   revert he; intro m
   refine ay (m) λa b No Nu he=>?_
   clear m
   (clear hx za; subst No)
   (clear zb; subst Nu)
   (have oc:=Out.ok.inj he; clear he; subst oc); obtain ⟨_,rfl,rfl⟩:=ra.isInt; obtain ⟨_,rfl,rfl⟩:=rb.isInt
   exact add_int (hQ _ _ (.int (.toks s _)))
 | sub=>
  replace he:=fH he
  revert he; intro l
  refine ay (l) λa b Nx Np he=>?_
  clear l
  (clear za; subst Nx)
  (clear zb; subst Np)
  (have oc:=Out.ok.inj he; clear he; subst oc); obtain ⟨_,rfl,rfl⟩:=ra.isInt; obtain ⟨_,rfl,rfl⟩:=rb.isInt
  exact sub_int (hQ _ _ (.int (.toks s _)))
 | mul=>
  replace he:=fH he
  revert he; intro k
  refine ay (k) λa b Nl Nq he=>?_
  clear k
  (clear za; subst Nl)
  (clear zb; subst Nq)
  split at he<;>cases he
  obtain ⟨_,rfl,rfl⟩:=ra.isInt; obtain ⟨_,rfl,rfl⟩:=rb.isInt
  exact B8 ‹_› hQ
 | fdiv=>
  replace he:=fH he
  revert he; intro j
  refine ay (j) λa b Nt Nv he=>?_
  clear j
  (clear za; subst Nt)
  (clear zb; subst Nv)
  split at he<;>cases he
  obtain ⟨_,rfl,rfl⟩:=ra.isInt; obtain ⟨_,rfl,rfl⟩:=rb.isInt
  exact yW ‹_› hQ
 | mod=>
  replace he:=fH he
  revert he; intro i
  refine ay (i) λa b Ny z he=>?_
  clear i
  (clear za; subst Ny)
  (clear zb; subst z)
  split at he<;>cases he
  obtain ⟨_,rfl,rfl⟩:=ra.isInt; obtain ⟨_,rfl,rfl⟩:=rb.isInt
  exact mod_int' ‹_› (hQ _ _ (.int (.toks s _)))
 | pow=>
  replace he:=fH he
  revert he; intro h
  refine ay (h) λa b u t he=>?_
  clear h
  (clear za; subst u)
  (clear zb; subst t)
  split at he<;>cases he
  obtain ⟨_,rfl,rfl⟩:=ra.isInt; obtain ⟨_,rfl,rfl⟩:=rb.isInt
  exact Bg ‹_› hQ
 | xor=>
  replace he:=fH he
  revert he; intro g
  refine ay (g) λa b q p he=>?_
  clear g
  (clear za; subst q)
  (clear zb; subst p)
  (have oc:=Out.ok.inj he; clear he; subst oc); obtain ⟨_,rfl,rfl⟩:=ra.isInt; obtain ⟨_,rfl,rfl⟩:=rb.isInt
  exact xor_int (hQ _ _ (.int (.toks s _)))
end
end
section
theorem Room.units (h:Room hb k A):A.units+200<cLine:=by
 revert h; intro g
 refine aI (g) λuu uu h=>?_
 clear g
 cases hb with
 | true=>rw[O1 rfl] at h; exact J0 h
 | false=>rw[OY (by decide)] at h; exact K6 h
theorem Room.at (h:Room hb k A) (hf:hb=OZ):A.depth+2*k+4<Rv/\A.units+100*k+300<cLine:=by
 subst hf; exact h.2
theorem kE:okc d=vk↔d.canLay0=vk/\d.depth<=64:=by simp[okc]
theorem oV (h:Ry vs ns):ItemsAre (R4 prog w) ns vs:=by
 induction h with
 | nil=>exact .nil
 | cons n t _ ih=>exact .cons (VP prog w n t) ih
theorem fI (r:R h v x as) (e:eV x=qn ks):∃ a,v = .ref a/\S5 (R4 prog w) h ks a:=by
 cases r with
 | tuple ea ra=>
  refine aI (ra.ints e) λg _ _=>?_
  exact (ah _ rfl (ip _ _ _ ea rfl rfl (by simpa using oV g)))
 | _=>exact nN e
theorem sb (r:R h v x as) (e:eV x=qn ks):R h v (aO ks) []:=by
 cases r with
 | tuple ea ra=>
  refine aI (ra.ints e) λuu i g=>?_
  subst i
  (clear e; subst g)
  exact .tuple ea ra
 | _=>exact nN e
theorem j7 {K:Type} [DecidableEq K] (xs:rg (K×Pz×Lt)) (k:K):(atKey xs k).isSome=decide (k∈xs.map (·.1)):=by
 unfold atKey
 rw[W9]
 induction xs with
 | nil=>rfl
 | cons x xs ih=>
  by_cases hk:x.1=k
  ·simp[hk]
  ·rw[X3,show decide (x.1=k)=OZ from Qe hk]
   dsimp only
   rw[ih,QE]
   simp[PC,QA hk]
theorem m7 (ks:rg O3) (k:O3):(valueAt (ks.map λk=>(k,Jab vk)) k).isSome=decide (k∈ks):=by
 unfold valueAt
 rw[W9]
 induction ks with
 | nil=>rfl
 | cons x xs ih=>
  by_cases hk:x=k
  ·simp[hk]
  ·rw[QE,X3]
   simp only[hk,decide_false,PC,QA hk,false_or]
   exact ih
theorem CC (hu:A.units+200<UV) (he:inV x c = .ok b) (ra:R s.heap va x as) (rb:RV s.heap vb c bs)
  (hQ:∀ s',Kp s s'->Q (.bool b) s'):Ph (Pn prog w) A (compareOp .In va vb) Q Er s:=by
 cases c with
 | d y=>
  replace he:=aW he
  revert he; intro l
  refine af (l) λxs hy he=>?_
  clear l
  cases cW hy
  split at he<;>cases he
  rename_i j
  simp only[O9,kE] at j
  refine aI (j) λm b1 b2=>?_
  clear j
  refine ae (m) λa1 a2=>?_
  clear m
  simp only[UX,UO] at b1 b2
  exact SeqAt.in_list_reads rb.1.reads ra.reads b1 a1 (by have:=QG (TI ‹_›) x.depth; exact z4 hu b2) (hQ s (.refl s))
 | dicI ks=>
  replace he:=aW he
  revert he; intro k
  refine af (k) λi r he=>?_
  clear k
  (have oc:=Out.ok.inj he; clear he; subst oc)
  refine bX (rb) λa Nn _ h t=>?_
  clear rb
  subst Nn
  cases cJ r
  refine ra.isInt_k λuu No Nu=>?_
  (clear ra; subst No)
  subst Nu
  refine ZK (VP prog w _ _) h t.mapOf ?_
  rw[m7]
  exact hQ _ (.toks s _)
 | dicT ks=>
  replace he:=aW he
  revert he; intro g
  refine af (g) λi r he=>?_
  clear g
  (have oc:=Out.ok.inj he; clear he; subst oc)
  refine An (rb) λa xs z _ h t v _=>?_
  clear rb
  subst z
  subst v
  refine af (fI ra r) λa' u hk=>?_
  (clear ra; subst u)
  refine YQ (TO (zF hu)) hk h t ?_
  rw[j7]
  exact Eq.mp (R2 (λb=>Q (.bool b) _) (Tk.mpr Jaf)) (hQ _ (.toks s _))
 | dic0=>
  replace he:(if (cT x).isSome||(eV x).isSome then Out.ok OZ else .bad) = .ok b:=he
  split at he<;>cases he
  rename_i j
  refine kL (rb) λa q _ h t hd'=>?_
  clear rb
  subst q
  cases h2:cT x with
  | some i=>
   cases cJ h2
   refine ra.isInt_k λuu p o=>?_
   (clear ra; subst p)
   subst o
   exact ZK (VP prog w _ _) h t.mapOf (hQ _ (.toks s _))
  | none=>
   rw[h2] at j
   refine bZ (by simpa using j) λi r=>?_
   refine af (fI ra r) λa' n hk=>?_
   (clear ra; subst n)
   exact YQ (TO (zF hu)) hk h hd' (hQ _ (.toks s _))
 | rule _ _ _=>exact nB he
theorem pD (hu:A.units+200<UV) (ho:opC o op=vk) (he:cz o x y = .ok b) (ra:RV s.heap va x as) (rb:RV s.heap vb y bs)
  (hQ:∀ s',Kp s s'->Q (.bool b) s'):Ph (Pn prog w) A (compareOp op va vb) Q Er s:=by
 cases PS ho
 cases o with
 | eq=>
  replace he:=jB he
  revert he; intro z
  refine ay (z) λx y Nz NA he=>?_
  clear z
  subst Nz
  subst NA
  split at he<;>cases he
  rename_i g
  simp only[O9,kE] at g
  refine aI (g) λNC b1 b2=>?_
  clear g
  refine ae (NC) λa1 a2=>?_
  clear NC
  exact SeqAt.compareEq_reads ra.1.reads rb.1.reads a1 b1 (by have:=QG x.depth y.depth; exact AD hu a2) (hQ s (.refl s))
 | ne=>
  replace he:=jB he
  revert he; intro v
  refine ay (v) λx y NF NG he=>?_
  clear v
  subst NF
  subst NG
  split at he<;>cases he
  rename_i g
  simp only[O9,kE] at g
  refine aI (g) λNH b1 b2=>?_
  clear g
  refine ae (NH) λa1 a2=>?_
  clear NH
  exact SeqAt.compareNe_reads ra.1.reads rb.1.reads a1 b1 (by have:=QG x.depth y.depth; exact AD hu a2) (hQ s (.refl s))
 | lt=>
  replace he:=jB he
  revert he; intro u
  refine ay (u) λx y NI NJ he=>?_
  clear u
  subst NI
  subst NJ
  replace he:=fH he
  revert he; intro t
  refine ay (t) λi j NQ NM he=>?_
  clear t
  subst NQ
  subst NM
  (have oc:=Out.ok.inj he; clear he; subst oc); obtain ⟨_,rfl,rfl⟩:=ra.1.isInt; obtain ⟨_,rfl,rfl⟩:=rb.1.isInt
  exact lt_int (hQ s (.refl s))
 | gt=>
  replace he:=jB he
  revert he; intro r
  refine ay (r) λx y NV Oa he=>?_
  clear r
  subst NV
  subst Oa
  replace he:=fH he
  revert he; intro q
  refine ay (q) λi j N4 Oc he=>?_
  clear q
  subst N4
  subst Oc
  (have oc:=Out.ok.inj he; clear he; subst oc); obtain ⟨_,rfl,rfl⟩:=ra.1.isInt; obtain ⟨_,rfl,rfl⟩:=rb.1.isInt
  exact gt_int (hQ s (.refl s))
 | ge=>
  replace he:=jB he
  revert he; intro p
  refine ay (p) λx y N8 N5 he=>?_
  clear p
  subst N8
  subst N5
  replace he:=fH he
  revert he; intro n
  refine ay (n) λi j N9 N7 he=>?_
  clear n
  subst N9
  subst N7
  (have oc:=Out.ok.inj he; clear he; subst oc); obtain ⟨_,rfl,rfl⟩:=ra.1.isInt; obtain ⟨_,rfl,rfl⟩:=rb.1.isInt
  exact ge_int (hQ s (.refl s))
 | isin=>
  replace he:=aW he
  revert he; intro m
  refine af (m) λx hx he=>?_
  clear m
  cases bK hx
  exact CC hu he ra.1 rb hQ
 | notin=>
  replace he:=jB he
  revert he; intro l
  refine ay (l) λkx y NP NT he=>?_
  clear l
  subst NP
  subst NT
  refine Out.bind_k he λb' g h2=>?_
  (have oc:=Out.ok.inj h2; clear h2; (clear he; subst oc))
  replace g:=aW g
  revert g; intro k
  refine af (k) λxs hy g=>?_
  clear k
  cases cW hy
  split at g<;>cases g
  rename_i g
  simp only[O9,kE] at g
  refine aI (g) λNK b1 b2=>?_
  clear g
  refine ae (NK) λa1 a2=>?_
  clear NK
  simp only[UX,UO] at b1 b2
  exact SeqAt.notIn_list_reads rb.1.reads ra.1.reads b1 a1 (by have:=QG (TI xs) kx.depth; exact z4 hu b2) (hQ s (.refl s))
 | isnot=>
  replace he:=jB he
  revert he; intro h
  refine ay (h) λx y OL Ob he=>?_
  clear h
  subst OL
  subst Ob
  split at he<;>cases he
  cases B4 ‹_›
  obtain ⟨ra,_⟩:=ra; obtain ⟨rfl,rfl⟩:=rb.1.isNone
  refine isNot_none ?_
  cases ra<;>exact hQ s (.refl s)
end
section
theorem EP.shift (kp:Kp s o) (e:EP (λa=>P a\/s.heap.get? a=O2) o r v sc):EP P s r v sc:=by
 obtain ⟨j,as,a,b,c,d⟩:=e
 refine ⟨kp.trans j,as,a,λx i=>?_,λg=>ay (c g) λa n m l k=>(aP a n m (kp.none l) k),λg=>⟨λx i=>kp.none ((d g).1 x i),(d g).2⟩⟩
 rcases b x i with h | h
 ·exact h
 ·exact .inr (kp.none h)
theorem l0 (hXP:∀ c s s₁ x s',Kp s s₁->XP c s₁ x s'->XP c s x s') {a b:E}(Sa:SimE fns k C XP a) (Sb:SimE fns k C XP b)
  {ea eb:Expr}{A:PU}{env:Env}{σ:St}{P:Pz->Prop}{s:O0}{Er:Lt->O0->Prop}{G:Lt->Lt->O0->Prop}{f:V->V->Out (V×Mode)}
  (oa:okE env.scope.names a ea=vk) (ob:okE env.scope.names b eb=vk) (X:Cx fns k A P s.heap env σ)
  (nb:((ev C a σ).bind λx=>(ev C b σ).bind λy=>f x.1 y.1)≠.bad)
  (hE:∀ c,((ev C a σ).bind λx=>(ev C b σ).bind λy=>f x.1 y.1) = .exc c->∀ x s',XP c s x s'->Er x s') (hf:∀ x y c,f x y≠.exc c)
  (hG:∀ x y r,((ev C a σ).bind λx=>(ev C b σ).bind λy=>f x.1 y.1) = .ok r->f x y = .ok r->∀ va vb s₂ as bs,Kp s s₂->RV s₂.heap va x as->RV s₂.heap vb y bs ->
   (∀ a∈as,P a\/s.heap.get? a=O2)->(∀ a∈bs,P a\/s.heap.get? a=O2)->G va vb s₂) :
  Ph (Pn prog w) A (Tu ea env) (λva s₁=>Ph (Pn prog w) A (Tu eb env) (λvb s₂=>G va vb s₂) Er s₁) Er s:=by
 refine aR nb λp i=>?_
 refine L5 hXP Sa Sb oa ob X p (λx g=>(br (i x g)).1) (λc h=>hE c ?_) λx y g m va vb s₁ s₂ Ea Eb=>?_
 ·rcases h with h | ⟨x,g,h⟩
  ·rw[h]; rfl
  ·rw[g,Out.ok_bind,h]; rfl
 ·have v:=(br (i x g)).2 y m
  cases hr:f x.1 y.1 with
  | bad=>exact Pq hr v
  | exc c=>exact Pq hr (hf _ _ _)
  | ok r=>
   obtain ⟨l,as,o,u,_⟩:=Ea
   obtain ⟨j,bs,n,t,_⟩:=Eb
   exact hG x.1 y.1 r (by rw[g,Out.ok_bind,m,Out.ok_bind]; exact hr) hr va vb s₂ as bs (l.trans j) (o.k j.k) n u λz q=>(t z q).imp id l.none
theorem xf:dR o x y≠.exc c:=Bf c
theorem qG:cz o x y≠.exc c:=Cp c
theorem CB {ex:Expr}(h:okE ns (.bin o a b) ex=vk):∃ l op r p,ex = .BinOp l op r p/\opB o op=vk/\okE ns a l=vk/\okE ns b r=true:=by
 replace h:=IW h
 revert h; refine λg=>PG g (λi=>?_) (λh=>?_)
 ·clear g
  refine cS (i) λq n m k j h=>?_
  clear i
  subst j
  simp only[O9] at h
  exact (jw _ _ _ _ rfl h.1.1 h.1.2 h.2)
 ·cases h
theorem Bw (hXP:∀ c s s₁ x s',Kp s s₁->XP c s₁ x s'->XP c s x s') {o:BOp}{a b:E}(Sa:SimE fns k C XP a) (Sb:SimE fns k C XP b):SimE fns k C XP (.bin o a b):=by
 intro ex A env σ P s Q Er m X n q t
 refine f8 (CB m) λl op r p g ho z u=>?_
 (clear m; subst g)
 simp only[gB] at n q t
 refine wpAny_BinOp (l0 hXP Sa Sb (f:=λx y=>match x,y with | .d x,.d y=>dR o x y | _,_=>.bad) z u X n t (λx y c=>?_) λx y r hr hf va vb h as bs kp j i ha hb=>?_)
 ·split
  ·exact xf
  ·simp
 ·split at hf
  ·exact xn ho hf j.1 j.2 i.1 i.2 ha hb λv s' e=>q r hr v s' (.shift kp e)
  ·exact nB hf
theorem rM {ex:Expr}(h:okE ns (.cmp o a b) ex=vk):∃ l op r p,ex = .Compare l [op] [r] p/\opC o op=vk/\okE ns a l=vk/\okE ns b r=true:=by
 replace h:=KI h
 revert h; refine λg=>PG g (λi=>?_) (λh=>?_)
 ·clear g
  refine cS (i) λq n m k j h=>?_
  clear i
  subst j
  simp only[O9] at h
  exact (jw _ _ _ _ rfl h.1.1 h.1.2 h.2)
 ·cases h
theorem BT:okE ns e (.Set es n p)=false:=by cases e<;>rfl
theorem pI (h:okE ns e x=vk):behindInMarks op x=false:=by
 cases x<;>first | rfl | (rw[BT] at h; cases h)
theorem Cc (hXP:∀ c s s₁ x s',Kp s s₁->XP c s₁ x s'->XP c s x s') {o:COp}{a b:E}(Sa:SimE fns k C XP a) (Sb:SimE fns k C XP b):SimE fns k C XP (.cmp o a b):=by
 intro ex A env σ P s Q Er ok X m n q
 refine f8 (rM ok) λl op r p g ho oa j=>?_
 (clear ok; subst g)
 simp only[eJ] at m n q
 refine wpAny_Compare1 (l0 hXP Sa Sb (f:=λx y=>(cz o x y).bind λb=>.ok (sB b)) oa j X m q (λx y c h=>?_) λx y r hr hf va vb i as bs kp z v ha hb=>?_) (pI j)
 ·rcases bY h with h | ⟨_,_,h⟩
  ·exact qG h
  ·cases h
 ·refine Out.bind_k hf λt h1 u=>?_
  (have oc:=Out.ok.inj u; clear u; (clear hf; subst oc))
  exact pD X.room.units ho h1 z v λs' e=>n _ hr _ s' (.bool (kp.trans e))
theorem xT (hXP:∀ c s s₁ x s',Kp s s₁->XP c s₁ x s'->XP c s x s') {o:COp}{a b:E}(Sa:SimE fns k C XP a) (Sb:SimE fns k C XP b):SimT fns k C XP (.cmp o a b):=by
 intro ex A env z P s Q Er ok X nb hQ u
 refine f8 (rM ok) λl op r p j ho oa q=>?_
 (clear ok; subst j)
 have g:=(br nb).1
 have i:∀ r,ev C (.cmp o a b) z = .ok r->∀ b,au r.1 = .ok b->∀ s',Kp s s'->Q b s':=λr m t ht=>hQ t (by rw[m]; exact ht)
 simp only[eJ] at g i u
 refine wpAny_isTrue_Compare1 (l0 hXP Sa Sb (f:=λx y=>(cz o x y).bind λb=>.ok (sB b)) oa q X g u (λx y c h=>?_) λx y r m hf va vb n as bs kp ra rb ha hb=>?_) (pI q)
 ·rcases bY h with h | ⟨_,_,h⟩
  ·exact qG h
  ·cases h
 ·refine Out.bind_k hf λt h1 v=>?_
  (have oc:=Out.ok.inj v; clear v; (clear hf; subst oc))
  exact pD X.room.units ho h1 ra rb λs' e=>R5 (i _ m _ rfl s' (kp.trans e))
theorem ss (Sa:SimE fns k C XP a):SimE fns k C XP (.neg a):=by
 intro ex A env σ P s Q Er j X u y z
 replace j:=AW j
 revert j; refine λg=>PG g (λh=>?_) (λj=>?_)
 ·clear g
  refine aw (h) λo n i j=>?_
  clear h
  subst i
  simp only[gq] at u y z
  refine aR u λn1 n2=>?_
  refine YR (Sa j X n1 (λx v va l Ea=>?_) λc hc=>z c (by rw[hc]; rfl))
  have t:=n2 x v
  obtain ⟨ka,as,p,_⟩:=Ea
  obtain ⟨x,m⟩:=x
  dsimp only at t p
  split at t
  ·refine p.1.isInt_k λuu r q=>?_
   (clear p; subst r)
   subst q
   exact neg_int (y _ (by rw[v]; rfl) _ _ (.int (ka.trans (.toks l _))))
  ·exact Pq rfl t
 ·cases j
theorem sO (S:SimE fns k C XP e) (hp:∀ ns ex env (t:Sem Lt),okE ns e ex=vk->isTrue ex env t=(do let v <- t; standAt ex.pos; Zm [v] (truthy v))):SimT fns k C XP e:=by
 intro ex A env z P s Q Er n X o u y
 refine wpAny_isTrue_value (S n X (br o).1 (λr p v s' E=>?_) y) (hp _ _ _ _ n)
 have h:=(br o).2 r p
 obtain ⟨x,m⟩:=r
 dsimp only at h
 unfold au at h
 split at h
 ·obtain ⟨q,as,g,_⟩:=E
  refine ae (g) λl _=>?_
  clear g
  refine ae (l.isBool) λj i=>?_
  (clear l; subst j)
  subst i
  exact R5 (u _ (by rw[p]; rfl) _ q)
 ·exact Pq rfl h
theorem sD {ex:Expr}(h:okE ns (.not a) ex=vk):∃ x p,ex = .UnaryOp .Not x p/\okE ns a x=true:=by
 replace h:=Kz h
 revert h; refine λg=>PG g (λi=>?_) (λh=>?_)
 ·clear g
  refine aw (i) λl k j h=>?_
  clear i
  subst j
  exact (aC _ _ rfl h)
 ·cases h
theorem Bs (Sa:SimE fns k C XP a):SimE fns k C XP (.not a):=by
 intro ex A env σ P s Q Er o X q t u
 refine aw (sD o) λx p l v=>?_
 (clear o; subst l)
 simp only[ei] at q t u
 refine aR q λz y=>?_
 refine YR (Sa v X z (λx r va n Ea=>?_) λc hc=>u c (by rw[hc]; rfl))
 have i:=(br (y x r)).1
 obtain ⟨ka,as,j,_⟩:=Ea
 obtain ⟨x,m⟩:=x
 dsimp only at i j
 unfold au at i
 split at i
 ·refine ae (j.1.isBool) λh g=>?_
  (clear j; subst h)
  subst g
  exact not_value (R5 (t _ (by rw[r]; rfl) _ _ (.bool ka)))
 ·exact Pq rfl i
theorem wU (Sa:SimT fns k C XP a):SimT fns k C XP (.not a):=by
 intro ex A u h P s Q Er ok X i j t
 refine aw (sD ok) λx p g m=>?_
 (clear ok; subst g)
 have e:((ev C (.not a) h).bind λr=>au r.1)=((ev C a h).bind λr=>au r.1).bind λb=>.ok (!b):=by
  simp only[ei]
  cases ev C a h with
  | ok r=>simp only[Out.ok_bind]; cases au r.1<;>rfl
  | exc c=>rfl
  | bad=>rfl
 rw[e] at i j
 refine wpAny_isTrue_Not (Sa m X (br i).1 (λb q l n=>j (!b) (by rw[q]; rfl) l n) λc o=>t c (by simp only[ei]; rw[o]; rfl))
end
section
variable (fns:Fns) (k:Pa) (C:Calls) (XP:OX->O0->Lt->O0->Prop)
noncomputable def SimA (e:E):Prop:=∀ {vs:rg Expr}{pos:Pos}{A:PU}{env:Env}{σ:St}{P:Pz->Prop}{s:O0}{Q:Lt->O0->Prop}{Er:Lt->O0->Prop},
 okA' env.scope.names e vs=vk->Cx fns k A P s.heap env σ->((ev C e σ).bind λr=>au r.1)≠.bad ->
 (∀ b,((ev C e σ).bind λr=>au r.1) = .ok b->∀ s',Kp s s'->Q (.bool b) s')->(∀ c,ev C e σ = .exc c->∀ x s',XP c s x s'->Er x s') ->
 Ph (Pn prog w) A (UF pos .And (Wm vs env)) Q Er s
noncomputable def SimTA (e:E):Prop:=∀ {vs:rg Expr}{A:PU}{env:Env}{σ:St}{P:Pz->Prop}{s:O0}{Q:PV->O0->Prop}{Er:Lt->O0->Prop},
 okA' env.scope.names e vs=vk->Cx fns k A P s.heap env σ->((ev C e σ).bind λr=>au r.1)≠.bad ->
 (∀ b,((ev C e σ).bind λr=>au r.1) = .ok b->∀ s',Kp s s'->Q b s')->(∀ c,ev C e σ = .exc c->∀ x s',XP c s x s'->Er x s') ->
 Ph (Pn prog w) A (Xc .And vs env) Q Er s
noncomputable def SimO (e:E):Prop:=∀ {vs:rg Expr}{pos:Pos}{A:PU}{env:Env}{σ:St}{P:Pz->Prop}{s:O0}{Q:Lt->O0->Prop}{Er:Lt->O0->Prop},
 okO' env.scope.names e vs=vk->Cx fns k A P s.heap env σ->((ev C e σ).bind λr=>au r.1)≠.bad ->
 (∀ b,((ev C e σ).bind λr=>au r.1) = .ok b->∀ s',Kp s s'->Q (.bool b) s')->(∀ c,ev C e σ = .exc c->∀ x s',XP c s x s'->Er x s') ->
 Ph (Pn prog w) A (UF pos .Or (Wm vs env)) Q Er s
noncomputable def SimTO (e:E):Prop:=∀ {vs:rg Expr}{A:PU}{env:Env}{σ:St}{P:Pz->Prop}{s:O0}{Q:PV->O0->Prop}{Er:Lt->O0->Prop},
 okO' env.scope.names e vs=vk->Cx fns k A P s.heap env σ->((ev C e σ).bind λr=>au r.1)≠.bad ->
 (∀ b,((ev C e σ).bind λr=>au r.1) = .ok b->∀ s',Kp s s'->Q b s')->(∀ c,ev C e σ = .exc c->∀ x s',XP c s x s'->Er x s') ->
 Ph (Pn prog w) A (Xc .Or vs env) Q Er s
end
section
variable {fns:Fns}{k:Pa}{C:Calls}{XP:OX->O0->Lt->O0->Prop}
theorem xj (E:EP P s r v s') (h:au r.1 = .ok t):v = .bool t/\Kp s s':=by
 obtain ⟨x,m⟩:=r
 dsimp only at h
 unfold au at h
 split at h
 ·(have j:=Out.ok.inj h; clear h; subst j)
  obtain ⟨k,as,g,_⟩:=E
  refine ae (g) λi _=>?_
  clear g
  cases i
  exact ⟨rfl,k⟩
 ·exact nB h
theorem nR:au v≠.exc c:=by unfold au; split<;>simp
theorem tS (S:SimE fns k C XP e) {ex:Expr}
  (ok:okE env.scope.names e ex=vk) (X:Cx fns k A P s.heap env σ) (nb:((ev C e σ).bind λr=>au r.1)≠.bad)
  (hQ:∀ b,((ev C e σ).bind λr=>au r.1) = .ok b->∀ s',Kp s s'->Q (.bool b) s') (hE:∀ c,ev C e σ = .exc c->∀ x s',XP c s x s'->Er x s'):Ph (Pn prog w) A (Tu ex env) Q Er s:=by
 refine aR nb λj i=>?_
 refine S ok X j (λr h v s' E=>?_) hE
 cases ht:au r.1 with
 | bad=>exact Pq ht (i r h)
 | exc c=>exact Pq ht nR
 | ok t=>
  refine ae (xj E ht) λg l=>?_
  (clear E; subst g)
  exact hQ t (by rw[h]; exact ht) s' l
theorem mE {M:Vz}{A:PU}{pos:Pos}{op:BoolOp}{x:Sem Lt}{Q:Lt->O0->Prop}{E:Lt->O0->Prop}{s:O0}(h:Ph M A x Q E s):Ph M A (UF pos op [x]) Q E s:=h
theorem tz {M:Vz}{A:PU}{pos:Pos}{x y:Sem Lt}{r:rg (Sem Lt)}{Q:Lt->O0->Prop}{E:Lt->O0->Prop}{s:O0}
  (h:Ph M A x (λv s₁=>Ph M A (truthy v) (λt j=>if t then Ph M A (UF pos .And (y::r)) Q E j else Q v j) E s₁) E s):Ph M A (UF pos .And (x::y::r)) Q E s:=by
 rw[UF]
 ·refine Gt (QI h (λv s₁ i=>Gt (TA (Gt (QB (QI i (λt j g=>?_) λuu uu e=>e))))) λuu uu e=>e)
  cases t with
  | false=>exact Pb g
  | true=>exact g
 ·simp
theorem wg {M:Vz}{A:PU}{pos:Pos}{x y:Sem Lt}{r:rg (Sem Lt)}{Q:Lt->O0->Prop}{E:Lt->O0->Prop}{s:O0}
  (h:Ph M A x (λv s₁=>Ph M A (truthy v) (λt j=>if t then Q v j else Ph M A (UF pos .Or (y::r)) Q E j) E s₁) E s):Ph M A (UF pos .Or (x::y::r)) Q E s:=by
 rw[UF]
 ·refine Gt (QI h (λv s₁ i=>Gt (TA (Gt (QB (QI i (λt j g=>?_) λuu uu e=>e))))) λuu uu e=>e)
  cases t with
  | false=>exact g
  | true=>exact Pb g
 ·simp
theorem okA'_inv (h:okA' ns b vs=vk):(∃ u,vs=[u]/\okE ns b u=vk)\/okA ns b vs=true:=by
 unfold okA' at h
 cases e:bU vs with
 | some u=>rw[e] at h; exact .inl (ah u (bh e) h)
 | none=>rw[e] at h; exact .inr h
theorem okA'_ne (h:okA' ns b vs=vk):∃ y r,vs=y::r:=by
 cases vs with
 | nil=>cases b<;>exact Qh (show OZ=vk from h)
 | cons y r=>exact (bN y r rfl)
theorem okO'_inv (h:okO' ns b vs=vk):(∃ u,vs=[u]/\okE ns b u=vk)\/okO ns b vs=true:=by
 unfold okO' at h
 cases e:bU vs with
 | some u=>rw[e] at h; exact .inl (ah u (bh e) h)
 | none=>rw[e] at h; exact .inr h
theorem okO'_ne (h:okO' ns b vs=vk):∃ y r,vs=y::r:=by
 cases vs with
 | nil=>cases b<;>exact Qh (show OZ=vk from h)
 | cons y r=>exact (bN y r rfl)
theorem oL (a b:E) (σ:St):((ev C (.and a b) σ).bind λr=>au r.1)=((ev C a σ).bind λr=>au r.1).bind λt=>if t then (ev C b σ).bind λr=>au r.1 else .ok false:=by
 simp only[eu]
 cases ev C a σ with
 | ok r=>
  simp only[Out.ok_bind]
  cases au r.1 with
  | ok t=>
   cases t with
   | false=>rfl
   | true=>
    simp only[Out.ok_bind,Q4]
    cases ev C b σ with
    | ok q=>simp only[Out.ok_bind]; cases au q.1<;>rfl
    | exc c=>rfl
    | bad=>rfl
  | exc c=>rfl
  | bad=>rfl
 | exc c=>rfl
 | bad=>rfl
theorem pQ (a b:E) (σ:St):((ev C (.or a b) σ).bind λr=>au r.1)=((ev C a σ).bind λr=>au r.1).bind λt=>if t then .ok vk else (ev C b σ).bind λr=>au r.1:=by
 simp only[fN]
 cases ev C a σ with
 | ok r=>
  simp only[Out.ok_bind]
  cases au r.1 with
  | ok t=>
   cases t with
   | true=>rfl
   | false=>
    simp only[Out.ok_bind,PK,Ql]
    cases ev C b σ with
    | ok q=>simp only[Out.ok_bind]; cases au q.1<;>rfl
    | exc c=>rfl
    | bad=>rfl
  | exc c=>rfl
  | bad=>rfl
 | exc c=>rfl
 | bad=>rfl
theorem rY (h:ev C (.and a b) σ = .ok r):∃ t,r=sB t:=by
 simp only[eu] at h
 refine Out.bind_k h λx _ h=>?_
 refine Out.bind_k h λt _ h=>?_
 cases t with
 | false=>exact ⟨OZ,by simpa using h.symm⟩
 | true=>
  simp only[Q4] at h
  refine Out.bind_k h λy _ h=>?_
  refine Out.bind_k h λu _ h=>?_
  (have g:=Out.ok.inj h; clear h; subst g); exact ⟨u,rfl⟩
theorem wH (h:ev C (.or a b) σ = .ok r):∃ t,r=sB t:=by
 simp only[fN] at h
 refine Out.bind_k h λx _ h=>?_
 refine Out.bind_k h λt _ h=>?_
 cases t with
 | true=>exact ⟨vk,by simpa using h.symm⟩
 | false=>
  simp only[PK,Ql] at h
  refine Out.bind_k h λy _ h=>?_
  refine Out.bind_k h λu _ h=>?_
  (have g:=Out.ok.inj h; clear h; subst g); exact ⟨u,rfl⟩
theorem dH {o:Out (V×Mode)}{c:OX}(h:(o.bind λr=>au r.1) = .exc c):o = .exc c:=by
 rcases bY h with h | ⟨_,_,h⟩
 ·exact h
 ·exact Pq h nR
section
variable (hXP:∀ c s s₁ x s',Kp s s₁->XP c s₁ x s'->XP c s x s')
include hXP
theorem Dq (Sa:SimE fns k C XP a) (Ab:SimA fns k C XP b)
  (oa:okE env.scope.names a v=vk) (ob:okA' env.scope.names b vs=vk) (X:Cx fns k A P s.heap env σ) (nb:((ev C (.and a b) σ).bind λr=>au r.1)≠.bad)
  (hQ:∀ t,((ev C (.and a b) σ).bind λr=>au r.1) = .ok t->∀ s',Kp s s'->Q (.bool t) s') (hE:∀ c,ev C (.and a b) σ = .exc c->∀ x s',XP c s x s'->Er x s') :
  Ph (Pn prog w) A (UF pos .And (Wm (v::vs) env)) Q Er s:=by
 refine bi (okA'_ne ob) λy r o=>?_
 subst o
 have j:∀ c,((ev C (.and a b) σ).bind λr=>au r.1) = .exc c->∀ x s',XP c s x s'->Er x s':=λc h=>hE c (dH h)
 rw[oL] at nb hQ j
 refine aR nb λn1 z=>?_
 refine tz (tS Sa oa X n1 (λt n i g=>R5 ?_) λc q=>j c (by rw[q]; rfl))
 cases t with
 | false=>exact hQ OZ (by rw[n]; rfl) i g
 | true=>
  have u:=z vk n
  simp only[Q4] at u ⊢
  refine Ab ob (X.k g.k) u (λt p l m=>hQ t (by rw[n]; simpa using p) l (g.trans m)) λc q x s' hx=>j c (by rw[n]; simp[q]) x s' (hXP c s i x s' g hx)
theorem orL (Sa:SimE fns k C XP a) (Ab:SimO fns k C XP b)
  (oa:okE env.scope.names a v=vk) (ob:okO' env.scope.names b vs=vk) (X:Cx fns k A P s.heap env σ) (nb:((ev C (.or a b) σ).bind λr=>au r.1)≠.bad)
  (hQ:∀ t,((ev C (.or a b) σ).bind λr=>au r.1) = .ok t->∀ s',Kp s s'->Q (.bool t) s') (hE:∀ c,ev C (.or a b) σ = .exc c->∀ x s',XP c s x s'->Er x s') :
  Ph (Pn prog w) A (UF pos .Or (Wm (v::vs) env)) Q Er s:=by
 refine bi (okO'_ne ob) λy r o=>?_
 subst o
 have j:∀ c,((ev C (.or a b) σ).bind λr=>au r.1) = .exc c->∀ x s',XP c s x s'->Er x s':=λc h=>hE c (dH h)
 rw[pQ] at nb hQ j
 refine aR nb λn1 z=>?_
 refine wg (tS Sa oa X n1 (λt n i g=>R5 ?_) λc q=>j c (by rw[q]; rfl))
 cases t with
 | true=>exact hQ vk (by rw[n]; rfl) i g
 | false=>
  have u:=z OZ n
  simp only[PK,Ql] at u ⊢
  refine Ab ob (X.k g.k) u (λt p l m=>hQ t (by rw[n]; simpa using p) l (g.trans m)) λc q x s' hx=>j c (by rw[n]; simp[q]) x s' (hXP c s i x s' g hx)
theorem A6 (Sa:SimT fns k C XP a) (Ab:SimTA fns k C XP b)
  (oa:okE env.scope.names a v=vk) (ob:okA' env.scope.names b vs=vk) (X:Cx fns k A P s.heap env σ) (nb:((ev C (.and a b) σ).bind λr=>au r.1)≠.bad)
  (hQ:∀ t,((ev C (.and a b) σ).bind λr=>au r.1) = .ok t->∀ s',Kp s s'->Q t s') (hE:∀ c,ev C (.and a b) σ = .exc c->∀ x s',XP c s x s'->Er x s') :
  Ph (Pn prog w) A (Xc .And (v::vs) env) Q Er s:=by
 have j:∀ c,((ev C (.and a b) σ).bind λr=>au r.1) = .exc c->∀ x s',XP c s x s'->Er x s':=λc h=>hE c (dH h)
 rw[oL] at nb hQ j
 refine aR nb λy u=>?_
 refine VQ (Sa oa X y (λt n i g=>?_) λc p=>j c (by rw[p]; rfl))
 cases t with
 | false=>exact hQ OZ (by rw[n]; rfl) i g
 | true=>
  have q:=u vk n
  simp only[Q4] at q ⊢
  refine Ab ob (X.k g.k) q (λt o l m=>hQ t (by rw[n]; simpa using o) l (g.trans m)) λc p x s' z=>j c (by rw[n]; simp[p]) x s' (hXP c s i x s' g z)
theorem CU (Sa:SimT fns k C XP a) (Ab:SimTO fns k C XP b)
  (oa:okE env.scope.names a v=vk) (ob:okO' env.scope.names b vs=vk) (X:Cx fns k A P s.heap env σ) (nb:((ev C (.or a b) σ).bind λr=>au r.1)≠.bad)
  (hQ:∀ t,((ev C (.or a b) σ).bind λr=>au r.1) = .ok t->∀ s',Kp s s'->Q t s') (hE:∀ c,ev C (.or a b) σ = .exc c->∀ x s',XP c s x s'->Er x s') :
  Ph (Pn prog w) A (Xc .Or (v::vs) env) Q Er s:=by
 have j:∀ c,((ev C (.or a b) σ).bind λr=>au r.1) = .exc c->∀ x s',XP c s x s'->Er x s':=λc h=>hE c (dH h)
 rw[pQ] at nb hQ j
 refine aR nb λy u=>?_
 refine Wb (Sa oa X y (λt n i g=>?_) λc p=>j c (by rw[p]; rfl))
 cases t with
 | true=>exact hQ vk (by rw[n]; rfl) i g
 | false=>
  have q:=u OZ n
  simp only[PK,Ql] at q ⊢
  refine Ab ob (X.k g.k) q (λt o l m=>hQ t (by rw[n]; simpa using o) l (g.trans m)) λc p x s' z=>j c (by rw[n]; simp[p]) x s' (hXP c s i x s' g z)
theorem r7 {ex:Expr}(h:okE ns (.and a b) ex=vk):∃ v vs p,ex = .BoolOp .And (v::vs) p/\okE ns a v=vk/\okA' ns b vs=true:=by
 replace h:=FF h
 revert h; refine λg=>PG g (λi=>?_) (λh=>?_)
 ·clear g
  refine bC (i) λm l k j h=>?_
  clear i
  subst j
  simp only[O9] at h
  exact (c9 _ _ _ rfl h.1 h.2)
 ·cases h
theorem wm {ex:Expr}(h:okE ns (.or a b) ex=vk):∃ v vs p,ex = .BoolOp .Or (v::vs) p/\okE ns a v=vk/\okO' ns b vs=true:=by
 replace h:=Ms h
 revert h; refine λg=>PG g (λi=>?_) (λh=>?_)
 ·clear g
  refine bC (i) λm l k j h=>?_
  clear i
  subst j
  simp only[O9] at h
  exact (c9 _ _ _ rfl h.1 h.2)
 ·cases h
theorem Ce (Sa:SimE fns k C XP a) (Ab:SimA fns k C XP b):SimE fns k C XP (.and a b):=by
 intro ex A env m P s Q Er ok X y hQ hE
 refine bj (r7 hXP ok) λv vs p j x q=>?_
 (clear ok; subst j)
 rw[X4]
 refine Dq hXP Sa Ab x q X (λh=>?_) (λt g n z=>?_) hE
 ·cases e:ev C (.and a b) m with
  | ok r=>rw[e] at h; obtain ⟨t,rfl⟩:=rY e; cases h
  | exc c=>rw[e] at h; cases h
  | bad=>exact y e
 ·refine Out.bind_k g λr l g=>?_
  refine ak (rY l) λu i=>?_
  subst i
  (have o:=Out.ok.inj g; clear g; subst o)
  exact hQ _ l _ n (.bool z)
theorem Du (Sa:SimE fns k C XP a) (Ab:SimO fns k C XP b):SimE fns k C XP (.or a b):=by
 intro ex A env m P s Q Er ok X y hQ hE
 refine bj (wm hXP ok) λv vs p j x q=>?_
 (clear ok; subst j)
 rw[X4]
 refine orL hXP Sa Ab x q X (λh=>?_) (λt g n z=>?_) hE
 ·cases e:ev C (.or a b) m with
  | ok r=>rw[e] at h; obtain ⟨t,rfl⟩:=wH e; cases h
  | exc c=>rw[e] at h; cases h
  | bad=>exact y e
 ·refine Out.bind_k g λr l g=>?_
  refine ak (wH l) λu i=>?_
  subst i
  (have o:=Out.ok.inj g; clear g; subst o)
  exact hQ _ l _ n (.bool z)
theorem xU (Sa:SimT fns k C XP a) (Ab:SimTA fns k C XP b):SimT fns k C XP (.and a b):=by
 intro ex A o q P s Q Er h X l m n
 refine bj (r7 hXP h) λv r p g j i=>?_
 (clear h; subst g)
 exact WA (A6 hXP Sa Ab j i X l m n)
theorem Bk (Sa:SimT fns k C XP a) (Ab:SimTO fns k C XP b):SimT fns k C XP (.or a b):=by
 intro ex A o q P s Q Er h X l m n
 refine bj (wm hXP h) λv r p g j i=>?_
 (clear h; subst g)
 exact WA (CU hXP Sa Ab j i X l m n)
end
theorem lC (S:SimE fns k C XP e) (h:∀ {vs:rg Expr}{pos:Pos}{A:PU}{env:Env}{σ:St}{P:Pz->Prop}{s:O0}{Q:Lt->O0->Prop}{Er:Lt->O0->Prop},
  okA env.scope.names e vs=vk->Cx fns k A P s.heap env σ->((ev C e σ).bind λr=>au r.1)≠.bad ->
  (∀ b,((ev C e σ).bind λr=>au r.1) = .ok b->∀ s',Kp s s'->Q (.bool b) s')->(∀ c,ev C e σ = .exc c->∀ x s',XP c s x s'->Er x s')->Ph (Pn prog w) A (UF pos .And (Wm vs env)) Q Er s):SimA fns k C XP e:=by
 intro vs pos A env σ P s Q Er ok X m n o
 replace ok:=okA'_inv ok
 revert ok; refine λg=>PG g (λi=>?_) (λok=>?_)
 ·clear g
  refine af (i) λl j ok=>?_
  clear i
  subst j
  exact mE (tS S ok X m n o)
 ·exact h ok X m n o
theorem lF (S:SimE fns k C XP e) (h:∀ {vs:rg Expr}{pos:Pos}{A:PU}{env:Env}{σ:St}{P:Pz->Prop}{s:O0}{Q:Lt->O0->Prop}{Er:Lt->O0->Prop},
  okO env.scope.names e vs=vk->Cx fns k A P s.heap env σ->((ev C e σ).bind λr=>au r.1)≠.bad ->
  (∀ b,((ev C e σ).bind λr=>au r.1) = .ok b->∀ s',Kp s s'->Q (.bool b) s')->(∀ c,ev C e σ = .exc c->∀ x s',XP c s x s'->Er x s')->Ph (Pn prog w) A (UF pos .Or (Wm vs env)) Q Er s):SimO fns k C XP e:=by
 intro vs pos A env σ P s Q Er ok X m n o
 replace ok:=okO'_inv ok
 revert ok; refine λg=>PG g (λi=>?_) (λok=>?_)
 ·clear g
  refine af (i) λl j ok=>?_
  clear i
  subst j
  exact mE (tS S ok X m n o)
 ·exact h ok X m n o
theorem jV (S:SimT fns k C XP e) (h:∀ {vs:rg Expr}{A:PU}{env:Env}{σ:St}{P:Pz->Prop}{s:O0}{Q:PV->O0->Prop}{Er:Lt->O0->Prop},
  okA env.scope.names e vs=vk->Cx fns k A P s.heap env σ->((ev C e σ).bind λr=>au r.1)≠.bad ->
  (∀ b,((ev C e σ).bind λr=>au r.1) = .ok b->∀ s',Kp s s'->Q b s')->(∀ c,ev C e σ = .exc c->∀ x s',XP c s x s'->Er x s')->Ph (Pn prog w) A (Xc .And vs env) Q Er s):SimTA fns k C XP e:=by
 intro vs A env σ P s Q Er ok X n m q
 replace ok:=okA'_inv ok
 revert ok; refine λg=>PG g (λi=>?_) (λok=>?_)
 ·clear g
  refine af (i) λl j ok=>?_
  clear i
  subst j
  refine VQ (S ok X n (λt p s' o=>?_) q)
  cases t with
  | false=>exact m _ p s' o
  | true=>exact wpAny_allTrue_And_nil (m _ p s' o)
 ·exact h ok X n m q
theorem jQ (S:SimT fns k C XP e) (h:∀ {vs:rg Expr}{A:PU}{env:Env}{σ:St}{P:Pz->Prop}{s:O0}{Q:PV->O0->Prop}{Er:Lt->O0->Prop},
  okO env.scope.names e vs=vk->Cx fns k A P s.heap env σ->((ev C e σ).bind λr=>au r.1)≠.bad ->
  (∀ b,((ev C e σ).bind λr=>au r.1) = .ok b->∀ s',Kp s s'->Q b s')->(∀ c,ev C e σ = .exc c->∀ x s',XP c s x s'->Er x s')->Ph (Pn prog w) A (Xc .Or vs env) Q Er s):SimTO fns k C XP e:=by
 intro vs A env σ P s Q Er ok X n m q
 replace ok:=okO'_inv ok
 revert ok; refine λg=>PG g (λi=>?_) (λok=>?_)
 ·clear g
  refine af (i) λl j ok=>?_
  clear i
  subst j
  refine Wb (S ok X n (λt p s' o=>?_) q)
  cases t with
  | false=>exact wpAny_allTrue_Or_nil (m _ p s' o)
  | true=>exact m _ p s' o
 ·exact h ok X n m q
end
section
theorem EP.aList (kp:Kp s s') (hn:s.heap.get? a=O2)
  (ha:s'.heap.get? a=qn ⟨.type "list", O2,.seq vs.toArray n,#[]⟩) (r:RA s'.heap vs xs as) (hl:xs.length<=2^22) (hz:∀ x∈xs,sz x=vk) (hP:∀ b∈as,P b/\b≠a) :
  EP P s (.d (.list xs),fresh xs) (.ref a) s':=by
 refine ⟨kp,a::as,⟨.list ha r,sz_list.mpr ⟨hl,hz⟩⟩,?_,?_,?_⟩
 ·intro b h
  rcases PC.mp h with rfl | h
  ·exact .inr hn
  ·exact .inl (hP b h).1
 ·intro _
  exact (aP _ _ rfl hn (λh=>(hP a h).2 rfl))
 ·intro i
  have g:xs.all sx=true:=by
   unfold fresh at i; dsimp only at i; split at i
   ·assumption
   ·cases i
  rw[r.sx_nil g]
  refine ⟨λb h=>?_,by simp⟩
  rcases PC.mp h with rfl | h
  ·exact hn
  ·cases h
theorem R.isList (r:R h v (.list xs) as):∃ a vs n bs,v = .ref a/\h.get? a=qn ⟨.type "list", Ru,.seq vs.toArray n,#[]⟩/\RA h vs xs bs/\as=a::bs:=by
 cases r with
 | list e r=>exact (jw _ _ _ _ rfl e r rfl)
theorem R.isList_k {h:P9}{v:Lt}{xs:rg Pk}{as:rg Pz}{G:Prop}(r:R h v (.list xs) as) (k:∀ a vs n bs,v = .ref a->h.get? a=qn ⟨.type "list", Ru,.seq vs.toArray n,#[]⟩->RA h vs xs bs->as=a::bs->G):G:=f8 (R.isList r) k
theorem R.isTup (r:R h v (.tuple xs) as):∃ a vs n,v = .ref a/\h.get? a=qn ⟨.type "tuple", Ru,.seq vs.toArray n,#[]⟩/\RA h vs xs as:=by
 cases r with
 | tuple e r=>exact (c9 _ _ _ rfl e r)
theorem isL {h:P9}{a:Pz}{vs:rg Lt}{n:Pa}(e:h.get? a=qn ⟨.type "list", O2,.seq vs.toArray n,#[]⟩):h.IsList a vs.toArray:=(aG _ e rfl (bP n rfl))
theorem vW:okE ns e (.Slice a b c p)=false:=by cases e<;>rfl
theorem rH:okE ns e (.Starred a p)=false:=by cases e<;>rfl
theorem lc (h:okE ns e x=vk) (o i:Lt):Uv x OZ o i=Xd [o,i] (Xe o i):=by
 cases x<;>first | rfl | (rw[vW] at h; cases h)
theorem aK (h:okE ns e x=vk) (rest:rg Expr) (env:Env):Qm (x::rest) env=(OZ,Tu x env)::Qm rest env:=by
 cases x<;>first | rfl | (rw[rH] at h; cases h)
section
theorem ET (r:R s.heap v y bs) (z:sz y=vk) (h:∀ b∈bs,P b):EP P s (mk (.d y)) v s:=uj (x:=.d y) ⟨r,z⟩ h
def GF (h:P9) (v:Lt) (i:O3) (u:Lt):Prop:=∃ (a:Pz) (T:OX) (vs:rg Lt) (n k:Pa),v = .ref a/\h.get? a=qn ⟨.type T,O2,.seq vs.toArray n,#[]⟩/\bl i vs.length=qn k/\vs[k]? = qn u
theorem hU (h:bl i n=qn k):(0<=i/\i<n/\k=i.toNat)\/(i<0/\-(n:O3)<=i/\k=(i+n).toNat):=by
 unfold bl at h
 by_cases h0:0<=i
 ·rw[O1 h0] at h
  by_cases h1:i<n
  ·rw[O1 h1] at h; exact .inl ⟨h0,h1,(vj h).symm⟩
  ·rw[OY h1] at h; exact nN h
 ·rw[OY h0] at h
  by_cases h1:-(n:O3)<=i
  ·rw[O1 h1] at h; exact .inr ⟨by exact Fs h0,h1,(vj h).symm⟩
  ·rw[OY h1] at h; exact nN h
theorem yQ {value slice:Expr}{a:Pz}{vs:rg Lt}{n k:Pa}{i:O3}{t:Tok}{v:Lt}(hs:∀ o i,Uv slice OZ o i=Xd [o,i] (Xe o i)) (ea:s.heap.get? a=qn ⟨.type "list", O2,.seq vs.toArray n,#[]⟩) (hl:vs.length<=2^22)
  (hk:bl i vs.length=qn k) (hv:vs[k]? = qn v) (hQ:Q v s):Ph (Pn prog w) A (TB value slice (.ref a) (.int i t)) Q Er s:=by
 rcases hU hk with ⟨h0,h1,rfl⟩ | ⟨h0,h1,rfl⟩
 ·exact Yr (isL ea).typeIs Va.lookup (wpAny_getItem_list (isL ea) h0 (JJ hl h1) (by simpa using hv) hQ) (hs _ _)
 ·refine Yr (isL ea).typeIs Va.lookup (wpAny_getItem_list_neg (isL ea) h0 (by rw[PJ]; exact h1) (H4 hl h1) ?_ hQ) (hs _ _)
  rw[PJ]
  simpa using hv
theorem BR {value slice:Expr}{a:Pz}{vs:rg Lt}{n k:Pa}{i:O3}{t:Tok}{v:Lt}(hs:∀ o i,Uv slice OZ o i=Xd [o,i] (Xe o i)) (ea:s.heap.get? a=qn ⟨.type "tuple", O2,.seq vs.toArray n,#[]⟩) (hl:vs.length<=2^22)
  (hk:bl i vs.length=qn k) (hv:vs[k]? = qn v) (hQ:Q v s):Ph (Pn prog w) A (TB value slice (.ref a) (.int i t)) Q Er s:=by
 have h:Y6 i (vs.toArray).size=qn k:=by
  rw[PJ]
  rcases hU hk with ⟨h0,h1,rfl⟩ | ⟨h0,h1,rfl⟩
  ·have j:¬ i<0:=by exact AN h0
   simp[Y6,j,h0,h1]
  ·exact seqIndex_neg h0 h1
 have g:-(2^22)<=i/\i<2^22:=by rcases hU hk with ⟨h0,h1,_⟩ | ⟨h0,h1,_⟩<;>lia
 exact Yr (ah _ ea rfl) slot_tuple_getitem.lookup (Zy ea (JO g) (JI g) h (by simpa using hv) hQ) (hs _ _)
theorem y0 (hs:∀ o i,Uv slice OZ o i=Xd [o,i] (Xe o i)) (he:elem x i=qn y) (ra:R s.heap va x as) (za:sz x=vk)
  (hQ:∀ v ds,GF s.heap va i v->R s.heap v y ds->sz y=vk->(∀ b∈ds,b∈as)->Q v s):Ph (Pn prog w) A (TB value slice va (.int i t)) Q Er s:=by
 unfold elem at he
 cases hx:asL x with
 | some xs=>
  rw[hx] at he
  cases cW hx
  refine bB he λk hk j=>?_
  refine ra.isList_k λa p n cs z m g u=>?_
  (clear ra; subst z)
  subst u
  refine ay (g.get j) λv ds l q hd=>?_
  have h:=sz_list.mp za
  have hl:=g.length
  rw[<- hl] at hk h
  exact yQ hs m h.1 hk l (hQ v ds (lW a _ p n k rfl m hk l) q (h.2 y (QU j)) λb hb=>.tail _ (hd b hb))
 | none=>
  rw[hx] at he
  cases ht:asT x with
  | none=>rw[ht] at he; exact nN he
  | some xs=>
   rw[ht] at he
   cases mW ht
   refine bB he λk hk j=>?_
   refine bj (ra.isTup) λa p n r m g=>?_
   (clear ra; subst r)
   refine ay (g.get j) λv ds l q hd=>?_
   have h:=sz_tuple.mp za
   have hl:=g.length
   rw[<- hl] at hk h
   exact BR hs m h.1 hk l (hQ v ds (lW a _ p n k rfl m hk l) q (h.2 y (QU j)) hd)
theorem yK (hs:∀ o i,Uv slice OZ o i=Xd [o,i] (Xe o i)) (he:fy x i = .ok r) (ra:R s.heap va x as) (za:sz x=vk) (rb:R s.heap vb i bs) (ha:∀ a∈as,P a)
  (hQ:∀ v s',EP P s r v s'->Q v s'):Ph (Pn prog w) A (TB value slice va vb) Q Er s:=by
 refine a0 he λk hk he=>?_
 refine a0 he λy m he=>?_
 (have l:=Out.ok.inj he; clear he; subst l)
 cases cJ hk
 refine rb.isInt_k λuu h g=>?_
 (clear rb; subst h)
 subst g
 exact y0 hs m ra za λv q _ j z n=>hQ v s (ET j z λb p=>ha b (n b p))
end
theorem yL:fy x y≠.exc c:=Br c
theorem nC (hXP:∀ c s s₁ x s',Kp s s₁->XP c s₁ x s'->XP c s x s') {a b:E}(Sa:SimE fns k C XP a) (Sb:SimE fns k C XP b):SimE fns k C XP (.sub a b):=by
 intro ex A env σ P s Q Er g X q t u
 replace g:=Ia g
 revert g; refine λh=>PG h (λi=>?_) (λg=>?_)
 ·clear h
  refine bC (i) λn m l j g=>?_
  clear i
  subst j
  simp only[O9] at g
  simp only[fB] at q t u
  refine Subscript_ (l0 hXP Sa Sb (f:=λx y=>match x,y with | .d x,.d y=>fy x y | _,_=>.bad) g.1 g.2 X q u (λx y c=>?_) λx y r hr hf va vb o as bs kp p z ha hb=>?_)
  ·split
   ·exact yL
   ·simp
  ·split at hf
   ·exact yK (lc g.2) hf p.1 p.2 z.1 ha λv s' e=>t r hr v s' (.shift kp e)
   ·exact nB hf
 ·cases g
theorem nu {M:Vz}{A:PU}{env:Env}{e:Expr}{Q:Lt->O0->Prop}{E:Lt->O0->Prop}{s:O0}(h:Ph M A (Tu e env) Q E s):Ph M A (evalPart (qn e) env) Q E s:=by rw[evalPart_some]; exact h
theorem iU {M:Vz}{A:PU}{env:Env}{Q:Lt->O0->Prop}{E:Lt->O0->Prop}{s:O0}(h:Q .none s):Ph M A (evalPart O2 env) Q E s:=by rw[evalPart_none]; exact Pb h
section
theorem sY {value slice:Expr}{xs ys:rg Pk}{lo hi st:O4 O3}(hs:∃ ops:Lt->Lt->rg Lt,∀ o i,Uv slice OZ o i=Xd (ops o i) (Xe o i)) (ra:R s.heap va (.list xs) as) (za:sz (.list xs)=vk) (ha:∀ a∈as,P a)
  (pl:IsPart vl lo) (pu:IsPart vu hi) (pt:IsPart vt st) (h0:st≠qn 0) (hy:∀ vs cs,RA s.heap vs xs cs->∃ ws ds,slicePick vs.toArray lo hi st=ws.toArray/\RA s.heap ws ys ds/\∀ b∈ds,b∈cs) (hz:∀ y∈ys,sz y=vk) (hl:ys.length<=2^22)
  (hQ:∀ v s',EP P s (.d (.list ys),fresh ys) v s'->Q v s') :
  Ph (Pn prog w) A (TB value slice va (.ref s.heap.objs.size)) Q Er {s with heap:=s.heap.push {cls:=.type "slice", data:=.fields #[vl,vu,vt] } }:=by
 refine ra.isList_k λa vs n cs m t j l=>?_
 (clear ra; subst m)
 subst l
 refine ay (hy vs cs j) λws ds e1 h u=>?_
 revert hs; intro g
 refine ak (g) λops hs=>?_
 clear g
 have k:=(sz_list.mp za).1
 have z:=j.length
 refine Yr ((isL t).push _).typeIs Va.lookup (wpAny_getItem_list_slice ((isL t).push _) (Jac ..) pl pu pt h0 ?_ (by rw[PJ]; unfold RC; exact Aa k z)) (hs _ _)
 rw[e1]
 refine hQ _ _ (EP.aList (n:=0) (as:=ds) ((Kp.push s _ s.toks).trans (Kp.push _ _ s.toks)) ?_ (PE _ rfl) ((h.keep λuu uu e=>Pd _ e).keep λuu uu e=>Pd _ e) hl hz λb p=>⟨ha b (.tail _ (u b p)),?_⟩)
 ·exact QC (by simp)
 ·refine bi (h.there b p) λuu uu e=>?_
  have r:=RH e
  intro q
  have x:b=s.heap.objs.size+1:=q.trans (TT ..)
  rw[x] at r
  exact Ys.mpr (U9 _) r
end
theorem yh:jG x y≠.exc c:=by unfold jG; split<;>(try split)<;>simp
set_option tactic.hygienic true in
theorem Cy (hXP:∀ c s s₁ x s',Kp s s₁->XP c s₁ x s'->XP c s x s') {a b:E}(Sa:SimE fns k C XP a) (Sb:SimE fns k C XP b):SimE fns k C XP (.slo a b):=by
 intro ex A env σ P s Q Er h X nb hQ hE
 replace h:=EW h
 revert h; refine λm=>PG m (λn=>?_) (λh=>?_)
 ·clear m
  refine cS (n) λv l p pos q h=>?_
  clear n
  subst q
  simp only[O9] at h
  simp only[gu] at nb hQ hE
  have t:=l0 hXP Sa Sb (f:=λx y=>match x,y with | .d x,.d y=>jG x y | _,_=>.bad) (G:=λva vb g=>Ph (Pn prog w) A (TB v (.Slice (qn l) O2 O2 p) va (.ref g.heap.objs.size)) Q Er
    {g with heap:=g.heap.push {cls:=.type "slice", data:=.fields #[vb,.none,.none] } }) h.1 h.2 X nb hE (λx y c=>by split; exact yh; simp) λx y r hr hf va vb g as bs kp ra rb ha hb=>by
   split at hf
   ·unfold jG at hf
    split at hf
    ·split at hf<;>cases hf
     rename_i xs i hi
     revert rb; intro j
     refine ae (j) λrb _=>?_
     clear j
     refine rb.isInt_k λuu Np Nl=>?_
     (clear rb; subst Np)
     subst Nl
     refine sY (lo:=qn i) (hi:=O2) (st:=O2) ⟨λo i=>[i,o],λuu uu=>rfl⟩ ra.1 ra.2 ha (.int _ _) .none .none (by simp) (λvs cs r=>?_) (λy hy=>(sz_list.mp ra.2).2 y (SN hy)) (by have:=(sz_list.mp ra.2).1; rw[Q2]; exact Go this) λv s' e=>hQ _ hr v s' (.shift kp e)
     refine af (r.drop i.toNat) λds rd hd=>?_
     refine (aP _ ds ?_ rd hd)
     have:=slicePick_from' vs.toArray i.toNat
     rw[Qw hi.1] at this
     exact this
    ·exact nB hf
   ·exact nB hf
  exact Subscript_ (QI t (λo s₁ z=>wpAny_Slice (nu (QI z (λvb g u=>iU (iU u)) λuu uu e=>e))) λuu uu e=>e)
 ·cases h
end
section
variable (fns:Fns) (k:Pa) (C:Calls) (XP:OX->O0->Lt->O0->Prop)
noncomputable def fJ (es:Es):Prop:=∀ {xs:rg Expr}{pos:Pos}{A:PU}{env:Env}{σ:St}{P:Pz->Prop}{s:O0}{Q:rg Lt->O0->Prop}{Er:Lt->O0->Prop},
 dv env.scope.names es xs=vk->Cx fns k A P s.heap env σ->evs C es σ≠.bad ->
 (∀ l,evs C es σ = .ok l->∀ vs s',EPs P s l vs s'->Q vs s')->(∀ c,evs C es σ = .exc c->∀ x s',XP c s x s'->Er x s') ->
 Ph (Pn prog w) A (VR (RO pos (Qm xs env))) Q Er s
end
section
variable {fns:Fns}{k:Pa}{C:Calls}{XP:OX->O0->Lt->O0->Prop}
theorem oB:fJ fns k C XP .nil:=by
 intro q m A o p P s Q Er l X r n t
 replace l:=tu l
 revert l; refine λg=>PG g (λi=>?_) (λl=>?_)
 ·clear g
  refine ae (i) λj l=>?_
  clear i
  subst j
  exact TJ (n [] rfl [] s ⟨.refl s,[],.nil,λuu h=>(nomatch h),λuu=>⟨λuu h=>(nomatch h),.nil⟩⟩)
 ·cases l
theorem RV.there (r:RV h v x as):∀ a∈as,∃ o,h.get? a=qn o:=by
 intro a ha
 cases x with
 | d x=>obtain ⟨_,_,e⟩:=r.1.there a ha; exact ⟨_,e⟩
 | dic0=>obtain ⟨b,_,rfl,_,⟨o,_,_,e,_⟩,_⟩:=r; rw[O7.mp ha]; exact ⟨o,e⟩
 | dicI ks=>obtain ⟨b,_,rfl,_,⟨o,_,_,e,_⟩⟩:=r; rw[O7.mp ha]; exact ⟨o,e⟩
 | dicT ks=>obtain ⟨b,_,_,rfl,_,⟨o,_,_,e,_⟩,_⟩:=r; rw[O7.mp ha]; exact ⟨o,e⟩
 | rule c d n=>
  refine DE (r) λx D o m bs t u p h1 i l h4 h5 z y g k=>?_
  clear r
  subst i
  refine bC (g) λj es ep e q=>?_
  clear g
  rcases PC.mp ha with rfl | ha
  ·exact ⟨o,l⟩
  ·rcases PC.mp ha with rfl | ha
   ·exact ⟨j,e⟩
   ·obtain ⟨_,_,e⟩:=k.2.2.2.2.1.there a ha; exact ⟨_,e⟩
theorem RVs.length (r:RVs h xs vs as):vs.length=xs.length:=by
 induction r with
 | nil=>rfl
 | cons a q ih=>exact R2 (· + 1) ih
theorem jE (hXP:∀ c s s₁ x s',Kp s s₁->XP c s₁ x s'->XP c s x s') {e:E}{es:Es}(S:SimE fns k C XP e) (Ss:fJ fns k C XP es):fJ fns k C XP (.cons e es):=by
 intro xs pos A env σ P s Q Er g X nb hQ hE
 replace g:=qB g
 revert g; refine λi=>PG i (λj=>?_) (λg=>?_)
 ·clear i
  refine aw (j) λx xs m g=>?_
  clear j
  subst m
  simp only[O9] at g
  simp only[bk] at nb hQ hE
  refine aR nb λn1 n2=>?_
  refine Rp (S g.1 X n1 (λr q v s₁ Ea=>?_) λc y=>hE c (by rw[y]; rfl)) (aK g.1 xs env)
  refine aR (n2 r q) λn3 _=>?_
  refine Ss g.2 (X.k Ea.keeps.k) n3 (λl hl vs n Eb=>?_) λc y z s' hz=>hE c (by rw[q,Out.ok_bind,y]; rfl) z s' (hXP c s s₁ z s' Ea.keeps hz)
  obtain ⟨p,as,ra,ha,_,hd⟩:=Ea
  obtain ⟨kb,bs,rb,hb,u⟩:=Eb
  refine hQ (r::l) (by rw[q,Out.ok_bind,hl]; rfl) (v::vs) n ⟨p.trans kb,as++bs,.cons (ra.k kb.k) rb,λa h=>(Pu.mp h).elim (ha a) λh=>(hb a h).imp id p.none,λt=>?_⟩
  simp only[allDeep,List.all_cons,O9,PM] at t
  have d1:=hd t.1
  have d2:=u t.2
  refine ⟨λa h=>(Pu.mp h).elim (d1.1 a) λh=>p.none (d2.1 a h),R6.mpr ⟨d1.2,d2.2,λa h1 b h2 e=>?_⟩⟩
  subst e
  refine ak (ra.there a h1) λo ho=>?_
  rw[d2.1 a h2] at ho; exact nN ho
 ·cases g
theorem pB:∀ {l:rg (V×Mode)}{ds:rg Pk}{vs:rg Lt}{as:rg Pz},b0 l=qn ds->RVs h (l.map (·.1)) vs as->RA h vs ds as/\∀ x∈ds,sz x=vk
 | [],ds,_,_,e,r=>by
  cases r; simp[b0] at e; subst e
  exact ⟨.nil,λuu h=>nomatch h⟩
 | (.d x,m)::l,ds,_,_,e,r=>by
  simp only[b0,RX] at e
  revert e; intro g
  refine af (g) λk e i=>?_
  clear g
  subst i
  cases r with
  | cons r q=>
   refine ae (pB e q) λa b=>?_
   exact ⟨.cons r.1 a,λy j=>(PC.mp j).elim (λq=>q▸r.2) (b y)⟩
 | (.dic0,m)::l,ds,_,_,e,r=>by simp[b0] at e
 | (.dicI _,m)::l,ds,_,_,e,r=>by simp[b0] at e
 | (.dicT _,m)::l,ds,_,_,e,r=>by simp[b0] at e
 | (.rule _ _ _,m)::l,ds,_,_,e,r=>by simp[b0] at e
theorem iH:∀ {l:rg (V×Mode)}{ds:rg Pk},b0 l=qn ds->ds.length=l.length
 | [],ds,e=>by simp[b0] at e; subst e; rfl
 | (.d x,m)::l,ds,e=>by
  simp only[b0,RX] at e
  revert e; intro g
  refine af (g) λi e h=>?_
  clear g
  subst h
  rw[PR,PR,iH e]
 | (.dic0,m)::l,ds,e=>by simp[b0] at e
 | (.dicI _,m)::l,ds,e=>by simp[b0] at e
 | (.dicT _,m)::l,ds,e=>by simp[b0] at e
 | (.rule _ _ _,m)::l,ds,e=>by simp[b0] at e
theorem jC:∀ {es:Es}{ns:rg (Str×P6)}{xs:rg Expr}{σ:St}{l:rg (V×Mode)},dv ns es xs=vk->evs C es σ = .ok l->l.length=xs.length
 | .nil,ns,xs,σ,l,ok,e=>by
  replace ok:=tu ok
  revert ok; refine λh=>PG h (λj=>?_) (λok=>?_)
  ·clear h
   refine ae (j) λm ok=>?_
   clear j
   subst m
   simp only[bg] at e; (have p:=Out.ok.inj e; clear e; subst p); rfl
  ·cases ok
 | .cons a es,ns,xs,σ,l,ok,e=>by
  replace ok:=qB ok
  revert ok; refine λg=>PG g (λi=>?_) (λok=>?_)
  ·clear g
   refine aw (i) λo n k ok=>?_
   clear i
   subst k
   simp only[O9] at ok
   simp only[bk] at e
   refine Out.bind_k e λx _ e=>?_
   refine Out.bind_k e λr q e=>?_
   (have p:=Out.ok.inj e; clear e; subst p)
   rw[PR,PR,jC ok.2 q]
  ·cases ok
set_option tactic.hygienic true in
theorem yx {es:Es}(Ss:fJ fns k C XP es):SimE fns k C XP (.list es):=by
 intro ex A env σ P s Q Er g X nb hQ hE
 replace g:=Do g
 revert g; refine λj=>PG j (λm=>?_) (λg=>?_)
 ·clear j
  refine aw (m) λu t o g=>?_
  clear m
  subst o
  simp only[O9,PM] at g
  simp only[bH] at nb hQ hE
  refine aR nb λn1 n2=>?_
  refine wpAny_List (Ss g.2 X n1 (λl x vs i Ea=>?_) λc hc=>hE c (by rw[hc]; rfl))
  have n3:=n2 l x
  split at n3
  ·rename_i ds p
   obtain ⟨q,as,y,ha,hd⟩:=Ea
   refine ae (pB p y) λr z=>?_
   have e1:=y.length
   rw[Pi] at e1
   have e2:=jC g.2 x
   have e3:=iH p
   refine ⟨by unfold RC; exact AY g e1 e2,hQ (.d (.list ds),if allDeep l then .deep else .top) (by rw[x,Out.ok_bind,p]) _ _ ⟨q.trans (.push i _ _),i.heap.objs.size::as,⟨.list (PE _ rfl) (r.keep λuu uu e=>Pd _ e),sz_list.mpr ⟨by exact A1 g e2 e3,z⟩⟩,?_,?_,?_⟩⟩
   ·intro a h
    rcases PC.mp h with rfl | h
    ·exact .inr (q.none (bx _))
    ·exact ha a h
   ·intro _
    exact (aP _ _ rfl (q.none (bx _)) (λh=>bi (r.there _ h) λuu uu e=>e7 e rfl))
   ·intro v
    have n:allDeep l=true:=by
     dsimp only at v
     split at v
     ·assumption
     ·cases v
    refine ⟨λa h=>?_,Q6.mpr ⟨λh=>bi (r.there _ h) λuu uu e=>e7 e rfl,(hd n).2⟩⟩
    rcases PC.mp h with rfl | h
    ·exact q.none (bx _)
    ·exact (hd n).1 a h
  ·exact Pq rfl n3
 ·cases g
set_option tactic.hygienic true in
theorem r8 (Ss:fJ fns k C XP es):SimE fns k C XP (.tup es):=by
 intro ex A env σ P s Q Er g X y hQ hE
 replace g:=EV g
 revert g; refine λh=>PG h (λi=>?_) (λg=>?_)
 ·clear h
  refine bC (i) λu t q j g=>?_
  clear i
  subst j
  simp only[O9,PM] at g
  simp only[eA] at y hQ hE
  refine aR y λn1 n2=>?_
  refine wpAny_Tuple (Ss g.2 X n1 (λl v vs o Ea=>?_) λc hc=>hE c (by rw[hc]; rfl))
  have n3:=n2 l v
  split at n3
  ·rename_i ds n
   obtain ⟨ka,as,x,ha,hd⟩:=Ea
   refine ae (pB n x) λr z=>?_
   have e1:=x.length
   rw[Pi] at e1
   have e2:=jC g.2 v
   have e3:=iH n
   refine ⟨by unfold RC; exact AY g e1 e2,hQ (.d (.tuple ds),if allDeep l then .deep else .sh) (by rw[v,Out.ok_bind,n]) _ _ ⟨ka.trans (.push o _ _),as,⟨.tuple (PE _ rfl) (r.keep λuu uu e=>Pd _ e),sz_tuple.mpr ⟨by exact A1 g e2 e3,z⟩⟩,ha,?_,?_⟩⟩
   ·intro m
    dsimp only at m
    split at m<;>cases m
   ·intro m
    have p:allDeep l=true:=by
     dsimp only at m
     split at m
     ·assumption
     ·cases m
    exact hd p
  ·exact Pq rfl n3
 ·cases g
theorem yo:SimE fns k C XP .edic:=by
 intro ex A p q P s Q Er l X r o t
 replace l:=CZ l
 revert l; refine λg=>PG g (λi=>?_) (λl=>?_)
 ·clear g
  refine af (i) λm j l=>?_
  clear i
  subst j
  have n:=modules_low X.ge.nolim
  refine wpAny_Dict_empty (o (.dic0,.deep) rfl _ _ ⟨.push s _ _,[s.heap.objs.size],(jz _ rfl rfl (RD.mpr (Ut n)) (Jam _) ?_),λa h=>.inr ?_,λh=>(by cases h),λuu=>⟨λa h=>?_,by simp⟩⟩)
  ·exact (gd _ (#[]) 0 (PE _ rfl) ⟨rfl,rfl,rfl⟩ rfl rfl (λuu h=>(nomatch h)) .nil)
  ·rw[O7.mp h]; exact bx _
  ·rw[O7.mp h]; exact bx _
 ·cases l
end
theorem gH {α:Type}{r:α->α->Prop}(anti:∀ a b,r a b->r b a->a=b):∀ {l l':rg α},l.Perm l'->l.Pairwise r->l'.Pairwise r->l=l'
 | [],l',p,_,_=>by rw[p.nil_eq]
 | a::l,[],p,_,_=>by cases p.eq_nil
 | a::l,b::l',p,h,h'=>by
  refine ae (SQ.mp h) λk j=>?_
  refine ae (SQ.mp h') λg i=>?_
  have e:a=b:=by
   rcases PC.mp (p.mem_iff.mp (Uo (a:=a) (l:=l))) with e | e
   ·exact e
   ·rcases PC.mp (p.mem_iff.mpr (Uo (a:=b) (l:=l'))) with e' | e'
    ·exact e'.symm
    ·exact anti a b (k b e') (g a e)
  (clear h' g; subst e)
  rw[gH anti ((Yt a).mp p) j i]
theorem ja (ns:rg O3):(ns.mergeSort (λa b=>decide (a<=b))).Pairwise (·<=·):=by
 have:=Rz (le:=λa b:O3=>decide (a<=b)) (λa b c h1 h2=>by simp at *; exact zA h1 h2) (λa b=>by simp; exact zP) ns
 exact this.imp (by intro a b h; simpa using h)
theorem nQ:∀ {xs:rg O3}{m:O3},eU xs=qn m->m∈xs/\∀ x∈xs,x<=m
 | [],_,h=>by simp[eU] at h
 | x::xs,m,h=>by
  simp only[eU,Jag] at h
  have key:∀ (l:rg O3) (a:O3),(l.foldl (λa b=>if a<b then b else a) a=a\/l.foldl (λa b=>if a<b then b else a) a∈l)/\a<=l.foldl (λa b=>if a<b then b else a) a/\∀ y∈l,y<=l.foldl (λa b=>if a<b then b else a) a:=by
   intro l
   induction l with
   | nil=>intro a; simp
   | cons b l ih=>
    intro a
    rw[VS]
    refine aI (ih (if a<b then b else a)) λh1 h2 h3=>?_
    refine ⟨?_,?_,λy hy=>?_⟩
    ·rcases h1 with h1 | h1
     ·rw[h1]; split<;>simp
     ·exact .inr (.tail _ h1)
    ·split at h2<;>rename_i hc<;>simp only[hc,Q4,Ql]<;>lia
    ·rcases PC.mp hy with rfl | hy
     ·split at h2<;>rename_i hc<;>simp only[hc,Q4,Ql]<;>lia
     ·exact h3 y hy
  refine aI (key xs x) λh1 h2 h3=>?_
  rw[h] at h1 h2 h3
  exact ⟨h1.elim (λe=>e▸.head _) (.tail _),λy hy=>(PC.mp hy).elim (λe=>e▸h2) (h3 y)⟩
section
theorem fc {env:Env}{x:OX}(h:cb env.scope.names x=vk):env.kindOf (mL x)=qn .globalImplicit:=by
 unfold cb at h
 exact Pv.mp h
theorem nd (h:aZ x=vk):(mL x==("__debug__" : Str))=false:=by
 unfold aZ at h
 simp only[O9,P0] at h
 exact h.1
section
theorem hY {id:OX}{args:rg Expr}(eok:EnvOk env) (ge:GE fns s.heap) (hm:id∈bnames) (hg:cb env.scope.names id=vk) (hd:(mL id==("__debug__" : Str))=OZ)
  (h:Ph (Pn prog w) A (VA pos (bval id) [] (RO pos (Qm args env)) []) Q Er s):Ph (Pn prog w) A (Tu (.Call (.Name (mL id) p) args [] pos) env) Q Er s:=by
 refine aq (ge.glob) λl i _ g=>?_
 refine af (ge.blt) λm k j=>?_
 exact XE (Calls.Name_function_global eok.kind (fc hg) (Calls.loadGlobal_builtin (eok.glob▸i) (g id hm) (eok.blt▸k) (j id hm) h) hd)
theorem qJ {id:OX}{x:Expr}{xs:rg Expr}{e:E}(ns:rg (Str×P6)) (hx:okE ns e x=vk) (ha:(RO pos (Qm xs env)).any (·.1)=OZ)
  (h:Ph (Pn prog w) A (VR (RO pos (Qm (x::xs) env))) (λvs s₁=>Ph (Pn prog w) A (SV (.builtin id) vs) Q Er s₁) Er s):Ph (Pn prog w) A (VA pos (.builtin id) [] (RO pos (Qm (x::xs) env)) []) Q Er s:=by
 rw[aK hx] at h ⊢
 exact Calls.callWith_builtin ha (Calls.evalArgs_plain (QI h (λvs s₁ g=>g) λuu uu e=>e))
theorem hJ (ns:rg (Str×P6)) (hx:okE ns e x=vk) (ha:(RO pos (Qm xs env)).any (·.1)=OZ)
  (h:Ph (Pn prog w) A (VR (RO pos (Qm (x::xs) env))) (λvs s₁=>Ph (Pn prog w) A (SV (.type T) vs) Q Er s₁) Er s):Ph (Pn prog w) A (VA pos (.type T) [] (RO pos (Qm (x::xs) env)) []) Q Er s:=by
 rw[aK hx] at h ⊢
 exact PySem.callWith_type ha (Calls.evalArgs_plain (QI h (λvs s₁ g=>g) λuu uu e=>e))
theorem iY (ns:rg (Str×P6)) (hx:okE ns e x=vk) (h:Ph (Pn prog w) A (Tu x env) (λv s₁=>G [v] s₁) Er s):Ph (Pn prog w) A (VR (RO pos (Qm [x] env))) G Er s :=
 Rp (QI h (λuu uu g=>TJ g) λuu uu e=>e) (aK hx [] env)
end
section
theorem wN (he:b1D .len x = .ok r) (ra:RV s.heap va x as) (hQ:∀ v s',EP P s r v s'->Q v s'):Ph (Pn prog w) A (SV (.builtin "len") [va]) Q Er s:=by
 replace he:=aW he
 revert he; intro i
 refine af (i) λy z he=>?_
 clear i
 cases bK z
 cases ht:asT y with
 | none=>
  simp only[ht] at he
  replace he:=aW he
  revert he; intro h
  refine af (h) λt hx he=>?_
  clear h
  cases cW hx
  (have o:=Out.ok.inj he; clear he; subst o)
  refine ra.1.isList_k λa u n cs m q g l=>?_
  subst m
  subst l
  have j:=g.length
  have p:=(sz_list.mp ra.2).1
  refine Calls.call_len_list (isL q) (by rw[PJ]; exact Jg j p) (hQ _ _ ?_)
  rw[PJ,j]
  exact .int (.toks s _)
 | some t=>
  simp only[ht] at he
  (have o:=Out.ok.inj he; clear he; subst o)
  cases mW ht
  refine bj (ra.1.isTup) λa u n k q g=>?_
  subst k
  have j:=g.length
  have p:=(sz_tuple.mp ra.2).1
  refine PySem.P.len_tuple q (by rw[PJ]; exact Jq j p) (hQ _ _ ?_)
  rw[PJ,j]
  exact .int (.toks s _)
theorem oP (hT:T = "list" \/ T = "tuple") (ea:s.heap.get? a=qn ⟨.type T,O2,.seq vs.toArray n,#[]⟩) (ra:RA s.heap vs xs cs) (hl:xs.length<=2^22)
  (hz:∀ x∈xs,sz x=vk) (ha:∀ b∈cs,P b) (hQ:∀ v s',EP P s (.d (.list xs),fresh xs) v s'->Q v s'):Ph (Pn prog w) A (SV (.type "list") [.ref a]) Q Er s:=by
 have e:=ra.length
 refine call_list_seq a hT ea rfl rfl (λj l h k=>hQ _ _ ?_) (by rw[PJ]; unfold RC; exact Aa hl e)
 have g:Kp s {s with heap:=j }:=(aC j s.toks rfl (.of h))
 refine EP.aList g (bx _) k (ra.keep h) hl hz λb i=>⟨ha b i,?_⟩
 refine bi (ra.there b i) λuu uu e=>?_
 exact e7 e
theorem zf (ra:R s.heap va (.list xs) as) (za:sz (.list xs)=vk) (ha:∀ b∈as,P b) (hQ:∀ v s',EP P s (.d (.tuple xs),if xs.all sx then .deep else .sh) v s'->Q v s'):Ph (Pn prog w) A (SV (.type "tuple") [va]) Q Er s:=by
 refine ra.isList_k λa t n z l y g k=>?_
 (clear ra; subst l)
 subst k
 have e:=g.length
 have r:=sz_list.mp za
 refine call_tuple_list (isL y) (λx p=>hQ _ _ ?_) (by rw[PJ]; unfold RC; exact KT e r)
 have m:Kp s {s with heap:=x.push {cls:=.type "tuple", data:=.seq t.toArray } }:=(aC _ s.toks rfl (.of λb o q=>Pd _ (p b o q)))
 refine ⟨m,z,⟨.tuple (PE _ rfl) ((g.keep p).keep λuu uu e=>Pd _ e),sz_tuple.mpr r⟩,λb u=>.inl (ha b (.tail _ u)),λi=>?_,λi=>?_⟩
 ·dsimp only at i; split at i<;>cases i
 ·have j:xs.all sx=true:=by
   dsimp only at i
   split at i
   ·assumption
   ·cases i
  rw[g.sx_nil j]
  exact ⟨λuu h=>(nomatch h),.nil⟩
theorem ue (ra:R s.heap va (.list xs) as) (hi:aM xs=qn ns) (h64:xs.length<64) (hQ:∀ v s',EP P s (.d (aa (ns.mergeSort (λa b=>decide (a<=b)))),.deep) v s'->Q v s') :
  Ph (Pn prog w) A (SV (.builtin "sorted") [va]) Q Er s:=by
 refine ra.isList_k λa vs n cs m ea i l=>?_
 (clear ra; subst m)
 subst l
 have e:=i.length
 refine aI (i.ints hi) λy k j=>?_
 subst k
 subst j
 rw[Pi] at e h64
 refine sorted_ints (isL ea) y (Av h64 e) λg o z r p=>hQ _ _ ?_
 have e':o=ns.mergeSort (λa b=>decide (a<=b)):=gH (λa b h h'=>SK h h') (r.trans (Qu ns _).symm) p (ja ns)
 (clear r p; subst e')
 refine ak (sortedAll_at s.heap vs g) λe x=>?_
 have u:=List.length_mergeSort (le:=λa b:O3=>decide (a<=b)) ns
 have t:EP P s (.d (.list ((ns.mergeSort (λa b=>decide (a<=b))).map .int)),fresh ((ns.mergeSort (λa b=>decide (a<=b))).map .int)) (.ref (s.heap.objs.size+1)) {s with heap:=sortedAll s.heap vs g } :=
  EP.aList (vs:=g.toList) (n:=e) (as:=[]) (aC _ s.toks rfl (.of λuu uu q=>sortedAll_old q)) (QC (U9 _)) (by simpa [PN] using x) (RA.of_ints z) (by rw[Pi,u]; exact zS h64) (gS _) λuu h=>(nomatch h)
 have ef:fresh ((ns.mergeSort (λa b=>decide (a<=b))).map .int) = .deep:=by
  unfold fresh
  rw[O1]
  rw[Xf,Q1]
  intro _ _; rfl
 rw[ef] at t
 exact t
end
end
section
noncomputable def noIt (c:Lt):Bool:=match c with
 | .type n=>!(["code", "enumerate", "zip", "dict_itemiterator", "dict_reverseitemiterator", "odict_iterator", "itertools.zip_longest", "itertools.pairwise"].contains n)
 | _=>vk
theorem noIt.code (h:noIt c=vk) (e:c = .type "code"):False:=by subst e; revert h; decide
structure ItP (A:PU) (P:Pz->Prop) (s:O0) (ds:rg Pk) (m:Mode) (it:Lt) (s':O0):Prop where
 keeps:Kp s s'
 walk:∃ (I:Pz) (fp wr:rg Pz) (Pw:Pa->Lt->Prop) (St:Pa->P9->Prop) (F:rg Pz),(it = .ref I/\I∈wr)/\Walks prog w A I fp wr ds.length Pw St/\St 0 s'.heap /\
  (∀ b∈wr,s.heap.get? b=O2/\b∉F/\∀ i h,St i h->∃ o,h.get? b=qn o/\(hardB o=vk/\noIt o.cls=vk/\∀ C,o.cls≠.ref C)/\∃ fs,o.data = .fields fs)/\(∀ b∈fp,b∈wr\/b∈F)/\(∀ i v,Pw i v->∀ d,ds[i]? = qn d->∃ bs,R s'.heap v d bs/\∀ b∈bs,b∈F) /\
  (∀ b∈F,∃ vs n,s'.heap.get? b=qn ⟨.type "list", O2,.seq vs n,#[]⟩)/\(∀ a∈F,P a\/s.heap.get? a=O2)/\(m = .deep->∀ a∈F,s.heap.get? a=O2)
 small:ds.length<=2^22/\∀ d∈ds,sz d=vk
variable (fns:Fns) (k:Pa) (C:Calls) (XP:OX->O0->Lt->O0->Prop)
noncomputable def dJ (it:It):Prop:=∀ {ex:Expr}{A:PU}{env:Env}{σ:St}{P:Pz->Prop}{s:O0}{Q:Lt->O0->Prop}{Er:Lt->O0->Prop},
 fC env.scope.names it ex=vk->Cx fns k A P s.heap env σ->bw C it σ≠.bad ->
 (∀ q,bw C it σ = .ok q->∀ i s',ItP A P s q.1 q.2 i s'->Q i s')->(∀ c,bw C it σ = .exc c->∀ x s',XP c s x s'->Er x s') ->
 Ph (Pn prog w) A (Tu ex env) (λx g=>Ph (Pn prog w) A (XF x) Q Er g) Er s
end
section
theorem uY (k₀:Kp s₀ s) (hh:A.handled=O2) (ra:R s.heap va (.list xs) as) (za:sz (.list xs)=vk)
  (ha:∀ a∈as,P a\/s₀.heap.get? a=O2) (hm:m = .deep->∀ a∈as,s₀.heap.get? a=O2) (hQ:∀ it s',ItP A P s₀ xs m it s'->Q it s'):Ph (Pn prog w) A (XF va) Q Er s:=by
 refine ra.isList_k λa j n cs p x g l=>?_
 subst p
 subst l
 refine Xg (isL x) (hQ _ _ ⟨k₀.trans (.push s _ _),⟨s.heap.objs.size,[s.heap.objs.size,a],[s.heap.objs.size],(λi v=>j.toArray[i]? = qn v),(λi h=>h.IsListIter s.heap.objs.size a i/\h.IsList a j.toArray),a::cs,⟨rfl,.head _⟩,?_,⟨(aG _ (PE _ rfl) rfl rfl),(isL x).push _⟩,?_,?_,?_,?_,ha,hm⟩,sz_list.mp za⟩)
 ·have:=Jad (prog:=prog) (w:=w) (A:=A) hh s.heap.objs.size a (e7 x) j.toArray
  have e:j.toArray.size=xs.length:=by rw[PJ,g.length]
  rw[e] at this
  exact this
 ·intro b hb
  rw[O7.mp hb]
  refine ⟨k₀.none (bx _),λh=>?_,λi h r=>?_⟩
  ·refine bi (ra.there _ h) λuu uu e=>?_
   exact e7 e rfl
  ·refine aq (r.1) λo e1 u e2=>?_
   exact (aG o e1 ⟨by unfold hardB; rw[u]; decide,by rw[u]; decide,λuu q=>by rw[u] at q; cases q⟩ (bP _ e2))
 ·intro b hb
  rcases PC.mp hb with rfl | hb
  ·exact .inl (.head _)
  ·rw[O7.mp hb]; exact .inr (.head _)
 ·intro i v hv d hd
  refine ay (g.get' (by simpa using hv)) λd' bs t h2 h3=>?_
  rw[hd] at t; (have y:=vj t; clear t; subst y)
  exact (ah bs (h2.keep λuu uu e=>Pd _ e) (λb hb=>.tail _ (h3 b hb)))
 ·intro b hb
  refine bi (ra.there b hb) λk z e=>?_
  exact (bN k z (Pd _ e))
theorem tC {a b:O3}{i:Pa}{d:Pk}(h:(dF a b)[i]? = qn d):d = .int (a+i):=by
 unfold dF at h
 rw[P1] at h
 refine bI h λj m g=>?_
 subst g
 have:j=i:=by
  have l:=(P3.mp m)
  refine ak (l) λn k=>?_
  clear l
  rw[List.getElem_range] at k
  exact k.symm
 rw[this]
theorem jK (a b:O3):(dF a b).length=(b-a).toNat:=by simp[dF]
theorem vD (a b:O3):∀ d∈dF a b,sz d=true:=by
 intro d h
 unfold dF at h
 refine aJ h λj _ g=>?_
 (clear h; subst g)
 rfl
theorem mP (o:Kp s₀ s) (hh:A.handled=O2) (hr:Xh s.heap r a b 1 t u v)
  (hn:(b-a).toNat<=lim) (ha:-(2^60)<=a/\a<2^60/\-(2^60)<=b/\b<2^60) (hQ:∀ it s',ItP A P s₀ (dF a b) .deep it s'->Q it s'):Ph (Pn prog w) A (XF (.ref r)) Q Er s:=by
 have g:Ra a b 1=((b-a).toNat:O3):=by rw[YS]; split<;>lia
 refine wpAny_pyIter_range hr (small_one (Jk ha) (Gw ha) (IR ha) (IM ha)) (hQ _ _ ⟨o.trans (.push s _ _),⟨s.heap.objs.size,[s.heap.objs.size],[s.heap.objs.size],(λi v=>∃ t,v = .int (a+i*1) t),(λi h=>ZL h s.heap.objs.size (a+(i:Pa)*1) (((b-a).toNat:O3)-(i:Pa)) 1),[],⟨rfl,.head _⟩,?_,?_,?_,λb k=>.inl k,?_,λuu h=>(nomatch h),λuu h=>(nomatch h),λuu uu h=>(nomatch h)⟩,⟨by rw[jK]; unfold lim at hn; exact Gs hn,vD a b⟩⟩)
 ·have:=Walks.range (prog:=prog) (w:=w) (A:=A) hh s.heap.objs.size a 1 (b-a).toNat
  rw[jK]
  exact this
 ·have n:(a+((0:Pa):O3)*1)=a:=by simp
  have m:(((b-a).toNat:O3)-((0:Pa):O3))=Ra a b 1:=by rw[g]; simp
  show ZL _ _ (a+((0:Pa):O3)*1) (((b-a).toNat:O3)-((0:Pa):O3)) 1
  rw[n,m]
  exact PE _ rfl
 ·intro b k
  rw[O7.mp k]
  exact ⟨o.none (bx _),λh=>(nomatch h),λi h j=>(aG _ j ⟨rfl,rfl,by simp⟩ (bP _ rfl))⟩
 ·rintro i v ⟨t,rfl⟩ d l
  rw[tC l]
  exact (ah ([]) (by simpa using R.int (a+i) t) (λuu h=>(nomatch h)))
set_option tactic.hygienic true in
theorem Cz (hf:fns.hand=OZ) (Sa:SimE fns k C XP a):dJ fns k C XP (.e a):=by
 intro ex A j σ P s Q Er i X n q t
 replace i:okE j.scope.names a ex=true:=i
 simp only[iL,gP,gX] at n q t
 refine aR n λn1 z=>?_
 refine Sa i X n1 (λr o v l Ea=>?_) λc hc=>t c (by rw[hc]; rfl)
 have g:=z r o
 obtain ⟨x,m⟩:=r
 obtain ⟨ka,as,h,ha,ht,p⟩:=Ea
 unfold itV at g
 dsimp only at g h p
 split at g
 ·rename_i u hx
  cases im hx
  exact uY (m:=m) ka (X.room.1 hf) h.1 h.2 ha (λhm=>(p hm).1) λit y I=>q (u,m) (by rw[o]; rfl) it y I
 ·exact Pq rfl g
theorem nG (h:cC a b = .ok q):q=(dF a b,.deep)/\(b-a).toNat<=lim/\-(2^60)<=a/\a<2^60/\-(2^60)<=b/\b<2^60:=by
 unfold cC at h
 split at h
 ·rename_i i; (have g:=Out.ok.inj h; clear h; subst g); exact ⟨rfl,i⟩
 ·exact nB h
theorem ml:cC a b≠.exc c:=by unfold cC; split<;>simp
set_option tactic.hygienic true in
theorem xH (hf:fns.hand=OZ) (Sn:SimE fns k C XP n):dJ fns k C XP (.r1 n):=by
 intro ex A env σ P s Q Er ok X nb hQ hE
 replace ok:=MP ok
 revert ok; refine λg=>PG g (λh=>?_) (λok=>?_)
 ·clear g
  refine cS (h) λz y u t j ok=>?_
  clear h
  subst j
  simp only[O9,Pv] at ok
  refine ae (ok) λo on=>?_
  clear ok
  refine ae (o) λNu hg=>?_
  clear o
  subst Nu
  simp only[iL,gP,gX] at nb hQ hE
  refine aR nb λn1 n2=>?_
  refine hY X.eok X.ge (by decide) hg (by decide) (hJ (T:="range") _ on rfl (iY _ on (Sn on X n1 (λr hr v l Ea=>?_) λc hc=>hE c (by rw[hc]; rfl))))
  have p:=n2 r hr
  obtain ⟨x,m⟩:=r
  obtain ⟨ka,as,ra,hx1,hx2,hx3⟩:=Ea
  clear hx1 hx2 hx3
  dsimp only at p ra
  split at p
  ·rename_i i
   cases hq:cC 0 i with
   | bad=>exact Pq hq p
   | exc c=>exact Pq hq ml
   | ok q=>
    refine aI (nG hq) λNx h1 h2=>?_
    subst Nx
    refine ra.1.isInt_k λuu Np Nl=>?_
    (clear ra; subst Np)
    subst Nl
    exact Zn (mP (ka.trans (.push l _ _)) (X.room.1 hf) (XT ..) h1 h2 λit s' I=>hQ _ (by rw[hr]; exact hq) it s' I)
  ·exact Pq rfl p
 ·cases ok
set_option tactic.hygienic true in
theorem yP (hf:fns.hand=OZ) (hXP:∀ c s s₁ x s',Kp s s₁->XP c s₁ x s'->XP c s x s') {a b:E}(Sa:SimE fns k C XP a) (Sb:SimE fns k C XP b):dJ fns k C XP (.r2 a b):=by
 intro ex A env σ P s Q Er ok X nb hQ hE
 replace ok:=Mh ok
 revert ok; refine λl=>PG l (λm=>?_) (λok=>?_)
 ·clear l
  refine jH (m) λOE OD Ou OM OK p ok=>?_
  clear m
  subst p
  simp only[O9,Pv] at ok
  refine ae (ok) λo ob=>?_
  clear ok
  refine ae (o) λn oa=>?_
  clear o
  refine ae (n) λu hg=>?_
  clear n
  subst u
  simp only[iL,gP,gX] at nb hQ hE
  refine aR nb λn1 n2=>?_
  refine hY X.eok X.ge (by decide) hg (by decide) (hJ (T:="range") _ oa (by rw[aK ob]; rfl) (Rp ?_ (aK oa _ env)))
  refine Sa oa X n1 (λx hx va s₁ Ea=>?_) λc hc=>hE c (by rw[hc]; rfl)
  refine aR (n2 x hx) λn3 n4=>?_
  refine iY _ ob (Sb ob (X.k Ea.keeps.k) n3 (λy hy vb r Eb=>?_) λc hc z s' hz=>hE c (by rw[hx,Out.ok_bind,hc]; rfl) z s' (hXP c s s₁ z s' Ea.keeps hz))
  have n5:=n4 y hy
  obtain ⟨x,mx⟩:=x
  obtain ⟨y,my⟩:=y
  obtain ⟨ka,as,ra,hx1,hx2,hx3⟩:=Ea
  obtain ⟨kb,bs,v,hx4,hx5,hx6⟩:=Eb
  clear hx1 hx2 hx3 hx4 hx5 hx6
  dsimp only at n5 ra v
  split at n5
  ·rename_i i j
   cases hq:cC i j with
   | bad=>exact Pq hq n5
   | exc c=>exact Pq hq ml
   | ok q=>
    refine aI (nG hq) λt h1 h2=>?_
    subst t
    revert ra; intro h
    refine ae (h) λra _=>?_
    clear h
    revert v; intro g
    refine ae (g) λv _=>?_
    clear g
    cases ra; cases v
    exact call_range_2 (mP ((ka.trans kb).trans (.push r _ _)) (X.room.1 hf) (XT ..) h1 h2 λit s' I=>hQ _ (by rw[hx,Out.ok_bind,hy]; exact hq) it s' I)
  ·exact Pq rfl n5
 ·cases ok
end
theorem cr (h:mL x=mL y):x=y:=by
 rw[VT,VT] at h
 have k:(x.toList.map WO).toArray=(y.toList.map WO).toArray:=by injection h
 have g:x.toList.map WO=y.toList.map Char.toNat:=by simpa using k
 have j:x.toList=y.toList:=by
  have i:∀ a b:Char,a.toNat=b.toNat->a=b:=λa b e=>Char.ext (UInt32.toNat_inj.mp e)
  generalize x.toList=l at g
  generalize y.toList=m at g
  induction l generalizing m with
  | nil=>cases m with
   | nil=>rfl
   | cons b m=>simp at g
  | cons a l ih=>cases m with
   | nil=>simp at g
   | cons b m=>
    simp only[QE,Jan] at g
    rw[i a b g.1,ih m g.2]
 exact String.toList_inj.mp j
section
theorem mR (hf:∀ p∈scope.names,p.2 = .free->∃ c,env.cells.lookup p.1=qn c) :
  ∃ cl,VU scope env=Qq cl/\∀ n,(n,Q3)∈scope.names->cl.lookup n=env.cells.lookup n:=by
 suffices H:∀ (names:rg (Str×P6)) (g:rg (Str×Pz)),(∀ p∈names,p.2 = .free->∃ c,env.cells.lookup p.1=qn c)->(∀ n c,g.lookup n=qn c->env.cells.lookup n=qn c) ->
   ∃ cl,(UY names g (λ(x:Str×P6) (z:rg (Str×Pz))=>(if (x.2==Q3)=vk then (do let c <- Zo env x.1; Qq (RB ((x.1,c)::z))) else Qq (RB z):Sem (PI (rg (Str×Pz))))))=Qq cl /\
    (∀ n c,cl.lookup n=qn c->env.cells.lookup n=qn c)/\(∀ n,(n,Q3)∈names\/(g.lookup n).isSome->(cl.lookup n).isSome) by
  refine aq (H scope.names [] hf (λn c h=>by simp at h)) λcl l k j=>?_
  refine (ah cl ?_ (λn v=>?_))
  ·unfold VU
   have e:(UY scope.names ([]:rg (Str×Pz)) λ(x:Str×P6) (r:rg (Str×Pz))=>match x with
     | (name,kind)=>if (kind==Q3)=vk then (do let c <- Zo env name; Qq (RB ((name,c)::r))) else (Qq (RB r):Sem (PI (rg (Str×Pz)))))=Qq cl:=l
   exact R2 (λt:Sem (rg (Str×Pz))=>t>>=λq=>Qq q) e
  ·refine bZ (j n (.inl v)) λc i=>?_
   rw[i,k n c i]
 intro names
 induction names with
 | nil=>intro g _ o; exact (aG g rfl o (λn v=>v.elim (λh=>nomatch h) id))
 | cons p r ih=>
  intro g hf o
  obtain ⟨n,y⟩:=p
  by_cases hk:y = .free
  ·subst hk
   refine ak (hf (n,.free) (.head _) rfl) λc i=>?_
   obtain ⟨cl,l,k,j⟩:=ih ((n,c)::g) (λp u=>hf p (.tail _ u)) (λm d h=>by
    rw[Qf] at h
    split at h
    ·rename_i e; (have oc:=vj h; clear h; subst oc); rw[Pv.mp e]; exact i
    ·exact o m d h)
   refine (aG cl ?_ k (λm hm=>j m ?_))
   ·rw[UZ,<- l]
    simp only[Rb,Q4,Zo,i]
    rfl
   ·rcases hm with hm | hm
    ·rcases PC.mp hm with e | hm
     ·cases e; right; simp
     ·exact .inl hm
    ·right
     rw[Qf]
     split
     ·rfl
     ·exact hm
  ·refine aq (ih g (λp u=>hf p (.tail _ u)) o) λcl l k j=>?_
   refine (aG cl ?_ k (λm hm=>j m (hm.imp (λhm=>?_) id)))
   ·rw[UZ,<- l]
    have:(y==Q3)=false:=by simpa using hk
    simp only[this,PK,Ql]
    rfl
   ·rcases PC.mp hm with e | hm
    ·cases e; exact Pq rfl hk
    ·exact hm
theorem jZ:∀ (names:rg (Str×P6)) (h:P9) (acc:rg (Str×Pz)),(∀ p∈names,p.2 = .cell->p.1=X)->(names.map (·.1)).Nodup ->
  (∀ m,m≠X->(RY h.objs.size names acc).lookup m=acc.lookup m) /\
  (names.lookup X=qn .cell->∃ c,(RY h.objs.size names acc).lookup X=qn c/\(Y7 h names).IsCell c O2/\h.objs.size<=c)/\(names.lookup X≠qn .cell->RY h.objs.size names acc=acc)
 | [],h,acc,_,_=>⟨λuu uu=>rfl,λe=>(by cases e),λuu=>rfl⟩
 | (n,kd)::r,h,acc,hc,hn=>by
  rw[QE,Q6] at hn
  unfold RY Y7
  by_cases hk:kd = .cell
  ·subst hk
   have e:n=X:=hc (n,.cell) (.head _) rfl
   subst e
   have hr:∀ p∈r,p.2≠.cell:=λp hp e=>hn.1 (T1.mpr (ah p hp (hc p (.tail _ hp) e)))
   have hl:r.lookup n≠qn .cell:=λe=>hr _ (mem_of_lookup e) rfl
   simp only[Rb,Q4]
   have ih:=jZ (X:=n) r (h.push {cls:=.type "cell", data:=.cell O2 }) ((n,h.objs.size)::acc) (λp hp e=>Pq e (hr p hp)) hn.2
   rw[TT] at ih
   rw[ih.2.2 hl]
   refine ⟨λm hm=>?_,λuu=>(aG h.objs.size (by simp) (ah _ (RZ r _ _ _ (PE _ rfl)) rfl) (PH _)),λhh=>?_⟩
   ·rw[Qf]
    have:(m==n)=false:=by simpa using hm
    rw[this]
   ·exact Pq (by simp) hh
  ·have hb:(kd==Uq)=false:=by simpa using hk
   simp only[hb,PK,Ql]
   refine aI (jZ r h acc (λp hp=>hc p (.tail _ hp)) hn.2) λh1 h2 h3=>?_
   have e:((n,kd)::r).lookup X=qn .cell↔r.lookup X=qn .cell:=by
    rw[Qf]
    by_cases hx:X=n
    ·(clear hc; subst hx)
     simp only[Rb]
     constructor
     ·intro e; (have oc:=vj e; clear e; subst oc); exact Pq rfl hk
     ·intro e; exact Pq (T1.mpr (ah _ (mem_of_lookup e) rfl)) hn.1
    ·have:(X==n)=false:=by simpa using hx
     rw[this]
   exact ⟨h1,λq=>h2 (e.mp q),λq=>h3 λz=>q (e.mpr z)⟩
theorem Be
  (h:∀ h',h' = Y7 (s.heap.push {cls:=.type "dict", data:=.dict #[] }) scope.names->Q {scope,locals:=s.heap.objs.size,globals:=env.globals,cells:=RY (s.heap.objs.size+1) scope.names cl,qual:=env.qual,func:=O2,code:=env.code,frame:=env.frame,builtins:=env.builtins } {s with heap:=h' }) :
  Ph (Pn prog w) A (S6 scope env.globals cl [] env.qual O2 .none (qn env)) Q Er s:=by
 simp only[S6,Option.isSome_some,Q4]
 refine Gt (ZM ?_)
 refine Gt (Yu _ (λi g cells=>by cases hkc:g==Uq<;>simp) _ _ _ _ ?_)
 rw[show ({s with heap:=s.heap.push {cls:=.type "dict", data:=.dict #[] } }:O0).heap.objs.size=s.heap.objs.size+1 from TT ..]
 exact Gt (Pb (Pb (h _ rfl)))
end
section
theorem jm (h:iJ ns sc x=vk):sc.kind = .function/\(sc.names.map (·.1)).Nodup/\(sc.names.lookup (mL x)=qn .local\/sc.names.lookup (mL x)=qn .cell) /\
  ∀ p∈sc.names,(p.2 = .local/\(p.1=mL x\/p.1=mL ".0"))\/p.2 = .globalImplicit\/(p.2 = .cell/\p.1=mL x)\/(p.2 = .free/\(ns.lookup p.1=qn .cell\/ns.lookup p.1=qn .free)):=by
 unfold iJ at h
 simp only[O9,Pv,PM,UU,Q1] at h
 refine ae (h) λi k=>?_
 clear h
 refine ae (i) λg l=>?_
 clear i
 refine ae (g) λn m=>?_
 clear g
 refine (cZ n m l (λp j=>?_))
 rcases k p j with ((h | h) | h) | h
 ·exact .inl h
 ·exact .inr (.inl h)
 ·exact .inr (.inr (.inl h))
 ·exact .inr (.inr (.inr h))
theorem ju {α:Type}{l:rg (Str×α)}{n:Str}{c:α}(hn:(l.map (·.1)).Nodup) (h:(n,c)∈l):l.lookup n=qn c:=by
 induction l with
 | nil=>cases h
 | cons p r ih=>
  rw[QE,Q6] at hn
  rw[Qf]
  rcases PC.mp h with e | h
  ·(clear h; subst e); simp
  ·have:(n==p.1)=false:=RD.mpr λe=>hn.1 (e▸T1.mpr (ah _ h rfl))
   rw[this]
   exact ih hn.2 h
theorem iC:∀ {inner:rg (Str×P6)}{n:Str},(fW outer inner).lookup n=(inner.lookup n).map λkd=>if kd == .free&&outer.lookup n==qn .cell then .cell else kd
 | [],n=>rfl
 | (m,kd)::r,n=>by
  have h:=@iC outer r n
  unfold fW at h ⊢
  rw[QE,Qf,Qf]
  by_cases e:n=m
  ·subst e
   by_cases hc:(kd==Q3&&outer.lookup n==qn .cell)=vk
   ·rw[O1 hc]; simp only[Rb,TC]; rw[O1 hc]
   ·rw[OY hc]; simp only[Rb,TC]; rw[OY hc]
  ·have i:(n==m)=false:=by simpa using e
   have g:(n==(if (kd==Q3&&outer.lookup m==qn .cell)=vk then (m,Uq) else (m,kd)).1)=false:=by split<;>exact i
   simp only[i,g]
   exact h
theorem fS (hk:env.scope.kind = .function):(Vb scope env).names=fW env.scope.names scope.names:=by
 unfold Vb fW VO
 simp[hk]
theorem uE (h:bM f (d::ds) = .ok q) :
  ∃ r q',f d = .ok r/\bM f ds = .ok q'/\((r=O2/\q=q')\/∃ y m,r=qn (.d y,m)/\q=(y::q'.1,decide (m = .deep)&&q'.2)):=by
 simp only[bM] at h
 refine Out.bind_k h λr j h=>?_
 refine Out.bind_k h λq' i h=>?_
 refine (aP r q' j i ?_)
 split at h
 ·(have g:=Out.ok.inj h; clear h; subst g); exact .inl ⟨rfl,rfl⟩
 ·(have g:=Out.ok.inj h; clear h; subst g); exact .inr (aC _ _ rfl rfl)
 ·exact nB h
theorem Cm
  (hsc:iJ env.scope.names sc x=vk) (hN:cenv.scope.names=fW env.scope.names sc.names) (hk:cenv.scope.kind = .function) (hg:cenv.globals=env.globals) (hb:cenv.builtins=env.builtins)
  (hc:∀ n,(n,Q3)∈sc.names->cenv.cells.lookup n=env.cells.lookup n) (hx:sc.names.lookup (mL x)=qn .cell->∃ c,cenv.cells.lookup (mL x)=qn c)
  (hcd:cenv.code=env.code) (X:Cx fns k A P h env σ) (kp:K h h') (hv:VarIs h' cenv (mL x) v) (hr:R h' v d as) (hz:sz d=vk) (has:∀ a∈as,P' a) (hP:∀ a,P a->(∃ o,h.get? a=qn o)->P' a) :
  Cx fns k A P' h' cenv (upd σ x (mk (.d d))):=by
 refine dI (jm hsc) λuu hnd htg g=>?_
 have z:∀ n,cenv.kindOf n=(sc.names.lookup n).map λkd=>if kd == .free&&env.scope.names.lookup n==qn .cell then .cell else kd:=λn=>by
  show cenv.scope.names.lookup n=_
  rw[hN]; exact iC
 refine ⟨X.room,⟨hk,hg.trans X.eok.glob,hb.trans X.eok.blt,λn u=>?_⟩,X.ge.k kp,(λh1=>ak (X.code h1) λq c=>⟨q,hcd▸c.k kp⟩),(λq=>af (X.frm q) λl a b=>(ah l a (b.k kp))),λy p hp j=>?_⟩
 ·rw[z] at u
  cases e:sc.names.lookup n with
  | none=>rw[e] at u; simp at u
  | some kd=>
   have hm:=mem_of_lookup e
   rcases g _ hm with h1 | h1 | h1 | h1
   ·rw[e,show kd=_ from h1.1] at u; simp at u
   ·dsimp only at h1; rw[e,h1] at u; simp at u
   ·revert h1; intro Ow
    refine ae (Ow) λh1 h2=>?_
    clear Ow
    dsimp only at h1 h2
    (clear hm; subst h2)
    exact hx (by rw[e,h1])
   ·revert h1; intro N1
    refine ae (N1) λh1 h2=>?_
    clear N1
    dsimp only at h1 h2
    (clear e; subst h1)
    refine ak (X.eok.cells n h2) λc hcc=>?_
    exact ⟨c,by rw[hc n hm,hcc]⟩
 ·unfold upd at hp
  by_cases hy:y=x
  ·(clear g hsc htg hx; subst hy)
   rw[O1 rfl] at hp
   (have oc:=vj hp; clear hp; subst oc)
   exact (aP v as hv ⟨hr,hz⟩ has)
  ·rw[OY hy] at hp
   have i:=pK j
   rw[z] at i
   have t:mL y≠mL ".0" := by
    unfold varK at j
    intro e
    rw[e] at j
    simp at j
   cases e:sc.names.lookup (mL y) with
   | none=>rw[e] at i; simp at i
   | some kd=>
    have hm:=mem_of_lookup e
    rcases g _ hm with h1 | h1 | h1 | h1
    ·exact Pq h1.2 (by
      rintro (h2 | h2)
      ·exact hy (cr h2)
      ·exact t h2)
    ·dsimp only at h1; rw[e,h1] at i; simp at i
    ·exact Pq (cr h1.2) hy
    ·revert h1; intro r
     refine ae (r) λh1 h2=>?_
     clear r
     dsimp only at h1 h2
     subst h1
     have hvo:varK env.scope.names y=true:=by
      unfold varK
      rw[O9]
      refine ⟨by simpa using t,?_⟩
      rcases h2 with h2 | h2<;>rw[h2]
     refine ay (X.vars y p hp hvo) λv' as' a1 a2 a3=>?_
     refine (aP v' as' ?_ (a2.k kp) (λa ha=>hP a (a3 a ha) (a2.there a ha)))
     cases a1 with
     | loc m b1 b2 b3=>exact Pq b1 (by unfold VO; rcases h2 with h2 | h2<;>rw[h2]<;>simp)
     | cell c b1 b2 b3=>
      refine .cell c ?_ (by rw[hc _ hm,b2]) (iT b3 kp)
      rw[z,e]
      rcases h2 with h2 | h2<;>rw[h2]<;>simp
noncomputable def Tgt (cenv:Env) (X:Str) (T:Pz) (h:P9):Prop :=
 (∃ m,h.Ns cenv.locals m)/\((cenv.kindOf X=qn .local/\T=cenv.locals)\/(cenv.kindOf X=qn .cell/\cenv.cells.lookup X=qn T/\T≠cenv.locals/\∃ g,h.IsCell T g))
theorem Tgt.at (t:Tgt cenv X T h) (k1:∀ o,h.get? T=qn o->h'.get? T=qn o) (k2:∀ o,h.get? cenv.locals=qn o->h'.get? cenv.locals=qn o):Tgt cenv X T h':=by
 revert t; intro i
 refine ae (i) λk t=>?_
 clear i
 refine ak (k) λm l=>?_
 clear k
 refine ⟨⟨m,l.at' k2⟩,t.imp id λt=>?_⟩
 refine dI (t) λa b c g=>?_
 clear t
 refine aw (g) λj o e d=>?_
 clear g
 exact (cZ a b c (aC j o (k1 _ e) d))
theorem Tgt.onK (t:Tgt cenv X T h) (k:K h h'):Tgt cenv X T h':=by
 revert t; intro i
 refine ae (i) λl t=>?_
 clear i
 refine ak (l) λm n=>?_
 clear l
 refine ⟨⟨m,fX n k⟩,t.imp id λt=>?_⟩
 refine dI (t) λa b c g=>?_
 clear t
 refine ak (g) λj d=>?_
 clear g
 exact (cZ a b c (bP j (iT d k)))
theorem Tgt.nostay (t:Tgt cenv X T h) (o:Obj) (e:h.get? T=qn o):¬ Stay o:=by
 revert t; intro i
 refine ae (i) λj t=>?_
 clear i
 refine tB (j) λm x y z v r _=>?_
 clear j
 rcases t with t | t
 ·rw[t.2,v] at e; (have l:=vj e; clear e; subst l); exact Stay.not_data (λuu q=>by rw[r] at q; cases q) λuu uu q=>by rw[r] at q; cases q
 ·refine dI (t) λuu uu uu g=>?_
  clear t
  refine aw (g) λp u n k=>?_
  clear g
  rw[n] at e; (have l:=vj e; clear e; subst l); exact Stay.not_data (λuu q=>by rw[k] at q; cases q) λuu uu q=>by rw[k] at q; cases q
theorem Tgt.noseq (t:Tgt cenv X T h) (o:Obj) (e:h.get? T=qn o) (vs:Pf Lt) (n:Pa):o.data≠.seq vs n:=by
 revert t; intro i
 refine ae (i) λj t=>?_
 clear i
 refine tB (j) λm y z ep x v _=>?_
 clear j
 intro q
 rcases t with t | t
 ·rw[t.2,x] at e; (have k:=vj e; clear e; subst k); rw[v] at q; cases q
 ·refine dI (t) λuu uu uu g=>?_
  clear t
  refine aw (g) λr u p l=>?_
  clear g
  rw[p] at e; (have k:=vj e; clear e; subst k); rw[l] at q; cases q
theorem wD (hk:cenv.scope.kind = .function) (t:Tgt cenv X T s.heap)
  (h:∀ h' tk,Qg T s.heap h'->Tgt cenv X T h'->VarIs h' cenv X v->Q () {s with heap:=h',toks:=tk }):Ph (Pn prog w) A (Vn (.Name X px) cenv v) Q Er s:=by
 revert t; intro g
 refine ae (g) λi t=>?_
 clear g
 refine ak (i) λm l=>?_
 clear i
 rcases t with ⟨t1,rfl⟩ | ⟨t1,t2,t3,n,t4⟩
 ·exact T2 (wpAny_storeName_local t1 l (λh' j k=>h h' _ k ⟨⟨_,j⟩,.inl ⟨t1,rfl⟩⟩ (.loc _ t1 j (by simp))) (by rw[hk]; rfl))
 ·exact T2 (Wo hk t1 t2 t4 λh' j k=>h h' s.toks k ⟨⟨m,l.sameBut k (QA t3)⟩,.inr (cZ t1 t2 t3 (bP _ j))⟩ (.cell T (.inl t1) t2 j))
noncomputable def CI (f:Pk->Out (O4 (V×Mode))) (x:OX) (cenv:Env) (P:Pz->Prop) (s sc:O0) (ds:rg Pk) (res:rg Pk×PV) (D T:Pz) (wr:rg Pz) (St:Pa->P9->Prop) (n:Pa) (s':O0):Prop :=
 ∃ (h:P9) (tk:Pa) (j:Pa) (vs:rg Lt) (ys:rg Pk) (as:rg Pz) (zs:rg Pk) (dp b':PV),s' = {sc with heap:=h,toks:=tk }/\St j h/\j<=ds.length/\n=ds.length+1-j/\h.PlainList D vs.toArray/\RA h vs ys as/\(∀ y∈ys,sz y=vk)/\ys.length<=j /\
   (∀ a∈as,a≠D/\(P a\/s.heap.get? a=O2))/\(dp=vk->(∀ a∈as,s.heap.get? a=O2)/\as.Nodup)/\Tgt cenv (mL x) T h/\KG (λb=>b∉D::T::wr) sc.heap h /\
   bM f (ds.drop j) = .ok (zs,b')/\res=(ys++zs,dp&&b')
set_option maxHeartbeats 2000000 in
theorem uI {f:Pk->Out (O4 (V×Mode))}{x:OX}{px:Pos}{elt iter:Expr}{ifs:rg Expr}{sc:Scope}{pos:Pos}{A:PU}{cenv:Env}{P:Pz->Prop}{s s₃:O0}{Rr:Yv->O0->Prop}
  {ds:rg Pk}{res:rg Pk×PV}{I D T:Pz}{fp wr F:rg Pz}{Pw:Pa->Lt->Prop}{St:Pa->P9->Prop}
  (W:Walks prog w A I fp wr ds.length Pw St) (hst:St 0 s₃.heap) (hk:cenv.scope.kind = .function) (ks:K s.heap s₃.heap)
  (hwr:∀ b∈wr,s.heap.get? b=O2/\b∉F/\∀ i h,St i h->∃ o,h.get? b=qn o/\(hardB o=vk/\noIt o.cls=vk/\∀ C,o.cls≠.ref C)/\∃ fs,o.data = .fields fs) (hFl:∀ b∈F,∃ vs n,s₃.heap.get? b=qn ⟨.type "list", O2,.seq vs n,#[]⟩) (hfp:∀ b∈fp,b∈wr\/b∈F)
  (hPw:∀ i v,Pw i v->∀ d,ds[i]? = qn d->∃ bs,R s₃.heap v d bs/\∀ b∈bs,b∈F) (hFP:∀ a∈F,P a\/s.heap.get? a=O2)
  (hFo:∀ b∈F,b≠D/\b≠T/\b≠cenv.locals) (hwo:∀ b∈wr,b≠D/\b≠T/\b≠cenv.locals) (hDT:D≠T) (hDL:D≠cenv.locals) (fD:s.heap.get? D=O2) (fT:s.heap.get? T=O2)
  (hsm:ds.length<=2^22/\∀ d∈ds,sz d=vk) (hres:bM f ds = .ok res) (hD:s₃.heap.PlainList D #[]) (hT:Tgt cenv (mL x) T s₃.heap)
  (step:∀ d r,f d = .ok r->sz d=vk->∀ {s₄:O0}{Q₁:O0->Prop}{Qb:Lt->O0->Prop}{Er':Lt->O0->Prop}(v:Lt) (bs:rg Pz),VarIs s₄.heap cenv (mL x) v->R s₄.heap v d bs->(∀ b∈bs,(P b\/s.heap.get? b=O2)/\b≠D)->K s.heap s₄.heap ->
   (r=O2->∀ s₅,Kp s₄ s₅->Q₁ s₅)->(∀ y,r=qn y->∀ u s₅,EP (λb=>(P b\/s.heap.get? b=O2)/\b≠D) s₄ y u s₅->Qb u s₅) ->
   Ph (Pn prog w) A (UY ifs vk λc r=>if r=vk then do let ok <- isTrue c cenv (Tu c cenv); Qq (RB ok) else Qq (RB r)) (λok s₅=>if ok=vk then Ph (Pn prog w) A (Tu elt cenv) Qb Er' s₅ else Q₁ s₅) Er' s₄)
  (hR:∀ h tk vs as,h.PlainList D vs.toArray->RA h vs res.1 as->(∀ y∈res.1,sz y=vk)->res.1.length<=2^22->(∀ a∈as,a≠D/\(P a\/s.heap.get? a=O2))->(res.2=vk->(∀ a∈as,s.heap.get? a=O2)/\as.Nodup)->(∃ m,h.Ns cenv.locals m) ->
   K s.heap h->Rr (.ok .next) {s₃ with heap:=h,toks:=tk }) :
  Vc (Pn prog w) A (.compLoop (.ListComp elt [⟨.Name (mL x) px,iter,ifs,0⟩] sc pos) 0 (.ref I) (.ref D) cenv) Rr s₃:=by
 have offw:∀ i h as,St i h->Off h as wr:=λi h as hs b hb o e=>by
  refine aq ((hwr b hb).2.2 i h hs) λo' e' _ NL=>?_
  refine ak (NL) λfs q=>?_
  clear NL
  rw[e] at e'; (have oc:=vj e'; clear e'; subst oc); exact .inl λvs n q'=>by rw[q] at q'; cases q'
 have offT:∀ h as,Tgt cenv (mL x) T h->Off h as [T]:=λh as t b hb o e=>by
  rw[O7.mp hb] at e
  exact .inl (t.noseq o e)
 have offD:∀ h as vs,Heap.PlainList h D vs->(∀ a∈as,a≠D)->Off h as [D]:=λh as vs t hn b hb o e=>by
  rw[O7.mp hb] at e ⊢
  revert t; intro Oh
  refine ak (Oh) λn t=>?_
  clear Oh
  rw[t] at e; (have oc:=vj e; clear e; subst oc)
  exact .inr ⟨by simp,λhm=>hn D hm rfl⟩
 have notw:∀ i h,St i h->∀ b∈wr,∀ o,h.get? b=qn o->¬ Stay o:=λi h hs b hb o e=>by
  refine aq ((hwr b hb).2.2 i h hs) λo' e' Np Op=>?_
  refine ak (Op) λfs q=>?_
  clear Op
  refine ae (Np) λuu hc=>?_
  clear Np
  rw[e] at e'; (have oc:=vj e'; clear e'; (clear uu; subst oc))
  exact λx=>x.elim (λx=>noIt.code hc.1 x.1) λx=>let ⟨_,vs,n,e⟩:=x; by rw[q] at e; cases e
 have outs:∀ b o,s.heap.get? b=qn o->b∉D::T::wr:=λb o e hb=>by
  rcases PC.mp hb with rfl | hb
  ·rw[fD] at e; exact nN e
  rcases PC.mp hb with rfl | hb
  ·rw[fT] at e; exact nN e
  ·rw[(hwr b hb).1] at e; exact nN e
 have d8:∀ b∈F,b∉D::T::wr:=λb hF hb=>by
  rcases PC.mp hb with rfl | hb
  ·exact (hFo _ hF).1 rfl
  rcases PC.mp hb with rfl | hb
  ·exact (hFo _ hF).2.1 rfl
  ·exact (hwr b hb).2.1 hF
 refine codeAny_compLoop_tests
  (CI f x cenv P s s₃ ds res D T wr St) ?_ (ds.length+1)
  (pM s₃.heap s₃.toks 0 ([]) ([]) ([]) res.1 vk res.2 rfl hst (Qn _) rfl hD .nil (λuu h=>(nomatch h)) (PH _) (λuu h=>(nomatch h)) (λuu=>⟨λuu h=>(nomatch h),.nil⟩) hT KG.refl (by simpa using hres) (by simp))
 intro n s' Nl
 refine DM (Nl) λh tk j vs ys as zs dp b' Nq hst' hj Nt hD' hra hys hyl has hdp hT' hkp hcl hrs=>?_
 clear Nl
 subst Nq
 subst Nt
 have hDw:D∉wr:=λh=>(hwo D h).1 rfl
 have hTw:T∉wr:=λh=>(hwo T h).2.1 rfl
 have hLw:cenv.locals∉wr:=λh=>(hwo _ h).2.2 rfl
 have kps:K s.heap h:=ks.step hkp outs
 by_cases hlt:j<ds.length
 ·obtain ⟨d,hd⟩:∃ d,ds[j]? = qn d:=⟨_,Pp hlt⟩
  have hdd:ds.drop j=d::ds.drop (j+1):=by
   rw[Rw hlt]
   rw[Pp hlt] at hd
   (have oc:=vj hd; clear hd; subst oc); rfl
  rw[hdd] at hcl
  refine ay (uE hcl) λr q' hf hq l=>?_
  refine W.item j _ _ _ hlt hst' λv h₁ tka hPv hsta hka=>?_
  have g:∀ b o,b∉wr->h.get? b=qn o->h₁.get? b=qn o:=hka
  refine wD hk (hT'.at (λo e=>g _ o hTw e) λo e=>g _ o hLw e) λh₂ tkb hsb hTb hvb=>?_
  have hsb':∀ b o,b∉[T]->h₁.get? b=qn o->h₂.get? b=qn o:=λb o hb e=>hsb.extBut b o (λq=>hb (by simp[q])) e
  have hstb:St (j+1) h₂:=W.frame _ _ _ hsta λb hb o e=>hsb' b o (λq=>by
   rw[O7.mp q] at hb
   rcases hfp _ hb with hb | hb
   ·exact hTw hb
   ·exact (hFo _ hb).2.1 rfl) e
  have hrab:RA h₂ vs ys as:=(hra.off (offw j h as hst') g).off (offT h₁ as (hT'.at (λo e=>g _ o hTw e) λo e=>g _ o hLw e)) hsb'
  have kT:KG (λb=>b∉[T]) h₁ h₂:=.ofW hsb' λb hb o e=>by
   rw[O7.mp hb] at e
   exact (hT'.at (λo e=>g _ o hTw e) λo e=>g _ o hLw e).nostay o e
  have hkpb:KG (λb=>b∉D::T::wr) s₃.heap h₂:=(hkp.trans ((KG.ofW g (notw j h hst')).mono λb hb q=>hb (by simp[q]))).trans (kT.mono λb hb q=>hb (by rw[O7.mp q]; simp))
  refine af (hPw j v hPv d hd) λbs hrv hbs=>?_
  have hrvb:R h₂ v d bs:=hrv.onG hkpb λb hb=>d8 b (hbs b hb)
  have kpsb:K s.heap h₂:=ks.step hkpb outs
  have hfpH:∀ b∈fp,∀ o,h₂.get? b=qn o->hardB o=true:=λb hb o e=>by
   rcases hfp b hb with hb | hb
   ·refine aq ((hwr b hb).2.2 _ _ hstb) λo' e' Nv _=>?_
    refine ae (Nv) λhh _=>?_
    clear Nv
    rw[e] at e'; (have oc:=vj e'; clear e'; subst oc); exact hh
   ·refine bi (hFl b hb) λvs' n' e'=>?_
    rw[hkpb.hard (.inl (d8 b hb)) e' rfl] at e
    (have oc:=vj e; clear e; subst oc); rfl
  have hDb:h₂.PlainList D vs.toArray:=(hD'.at λo e=>g _ o hDw e).at λo e=>hsb' _ o (by simpa using hDT) e
  have hzd:sz d=true:=hsm.2 d (QU hd)
  refine step d r hf hzd (s₄:={s₃ with heap:=h₂,toks:=tkb }) v bs hvb hrvb (λb hb=>⟨hFP b (hbs b hb),(hFo b (hbs b hb)).1⟩) kpsb (λhr s₅ k₅=>?_) λy hy u s₅ E₅=>?_
  ·(clear hf; subst hr)
   refine aw (k₅) λhe tke Ny p=>?_
   clear k₅
   subst Ny
   rcases l with ⟨_,l⟩ | ⟨_,_,l,_⟩
   ·subst l
    refine (ah (ds.length+1-(j+1)) (uh hlt) (pM he tke (j+1) vs ys as zs dp b' rfl (W.frame _ _ _ hstb λb hb o e=>p.get e (hfpH b hb o e)) hlt rfl (ak (hDb) λn e=>⟨n,p.get e rfl⟩) (hrab.k p) hys (by exact QT ‹_›) has hdp (hTb.onK p) (hkpb.trans (p.mono λuu uu=>trivial)) hq hrs))
   ·exact nN l
  ·obtain ⟨Nz,bs',hrve,hb1,hb2,hb3⟩:=E₅
   refine aw (Nz) λhe tke NA p=>?_
   clear Nz
   subst NA
   dsimp only at p hrve hb1 hb2 hb3
   rcases l with ⟨l,_⟩ | ⟨z,m,l,hq2⟩
   ·rw[hy] at l; exact nM l
   ·rw[hy] at l; (have oc:=vj l; clear l; (clear hb2 hy; subst oc))
    revert hrve; intro Og
    refine ae (Og) λhrve hze=>?_
    clear Og
    have hDe:he.PlainList D vs.toArray:=ak (hDb) λn e=>⟨n,p.get e rfl⟩
    have hbD:∀ a∈bs',a≠D:=λa ha q=>by
     rcases hb1 a ha with h | h
     ·exact h.2 q
     ·refine ak (hDb) λn e=>?_
      clear hDb
      rw[q,e] at h; exact nM h
    have hrae:=(hrab.k p).append (.cons hrve .nil)
    have hl:vs.length=ys.length:=hra.length
    refine VB (hsz:=by rw[PJ,hl]; unfold RC; exact Gh hsm hyl hlt) hDe λh₆ hlf hsf=>?_
    have hsf':∀ b o,b∉[D]->he.get? b=qn o->h₆.get? b=qn o:=λb o hb e=>hsf.extBut b o (λq=>hb (by simp[q])) e
    have hne:∀ a∈as++(bs'++[]),a≠D:=λa ha=>by
     rcases Pu.mp ha with ha | ha
     ·exact (has a ha).1
     ·exact hbD a (by simpa using ha)
    cases hq2
    refine (ah (ds.length+1-(j+1)) (uh hlt) (pM h₆ tke (j+1) (vs++[u]) (ys++[z]) (as++(bs'++[])) q'.1 (dp&&decide (m = .deep)) q'.2 rfl ?_ hlt rfl ?_ (hrae.off (offD he _ _ hDe hne) hsf') ?_ ?_ ?_ ?_ ?_ ?_ ?_ ?_))
    ·refine W.frame _ _ _ hstb λb hb o e=>hsf' b o (λq=>?_) (p.get e (hfpH b hb o e))
     rw[O7.mp q] at hb
     rcases hfp _ hb with hb | hb
     ·exact hDw hb
     ·exact (hFo _ hb).1 rfl
    ·simpa using hlf
    ·intro y hy'
     rcases Pu.mp hy' with h | h
     ·exact hys y h
     ·rw[O7.mp h]; exact hze
    ·rw[Pj,Pm]; exact kO hyl
    ·intro a ha
     refine ⟨hne a ha,?_⟩
     rcases Pu.mp ha with ha | ha
     ·exact (has a ha).2
     ·rcases hb1 a (by simpa using ha) with h | h
      ·exact h.1
      ·right
       cases e:s.heap.get? a with
       | none=>rfl
       | some o=>obtain ⟨_,e'⟩:=kpsb.there e; rw[e'] at h; exact nM h
    ·intro hdm
     simp only[O9,PM] at hdm
     refine ae (hdm) λhd1 hd2=>?_
     clear hdm
     refine ae (hdp hd1) λg1 g2=>?_
     refine ae (hb3 hd2) λg3 g4=>?_
     refine ⟨λa ha=>?_,?_⟩
     ·rcases Pu.mp ha with ha | ha
      ·exact g1 a ha
      ·have h:=g3 a (by simpa using ha)
       cases e:s.heap.get? a with
       | none=>rfl
       | some o=>obtain ⟨_,e'⟩:=kpsb.there e; rw[e'] at h; exact nM h
     ·rw[SD,R6]
      refine ⟨g2,g4,λa ha b hb q=>?_⟩
      subst q
      refine bi (hrab.there a ha) λuu uu e=>?_
      rw[g3 a hb] at e; exact nN e
    ·exact (hTb.onK p).at (λo e=>hsf' _ o (by simpa using Ne.symm hDT) e) λo e=>hsf' _ o (by simpa using Ne.symm hDL) e
    ·refine (hkpb.trans (p.mono λuu uu=>trivial)).trans ((KG.ofW hsf' λb hb o e=>?_).mono λb hb q=>hb (by rw[O7.mp q]; simp))
     refine ak (hDe) λn ee=>?_
     clear hDe
     rw[O7.mp hb,ee] at e
     (have oc:=vj e; clear e; subst oc)
     exact Stay.not_cls (by simp) (by simp)
    ·exact hq
    ·rw[hrs]; simp[Bool.and_assoc]
 ·have hjl:j=ds.length:=by exact AI hj hlt
  (clear hj hlt; subst hjl)
  rw[S7] at hcl
  cases hcl
  refine W.done _ _ _ hst' λh₁ tka hka=>?_
  have g:∀ b o,b∉wr->h.get? b=qn o->h₁.get? b=qn o:=hka
  have e1:res=(ys,dp):=by rw[hrs]; simp
  (clear hres hrs; subst e1)
  refine hR h₁ tka vs as (hD'.at λo e=>g _ o hDw e) (hra.off (offw _ h as hst') g) hys (If hyl hsm.1) has hdp ((hT'.at (λo e=>g _ o hTw e) λo e=>g _ o hLw e).1) (kps.step (KG.ofW g (notw _ h hst')) λb o e q=>by rw[(hwr b q).1] at e; cases e)
end
section
theorem mY {ex:Expr}(ok:fC ns it ex=vk) (env:Env) (v:Lt):Vd ex env v=Qq v:=by
 cases ex with
 | Set es p=>
  cases it with
  | e a=>exfalso; cases a<;>exact Qh (show OZ=vk from ok)
  | r1 n=>exact Qh (show OZ=vk from ok)
  | r2 a b=>exact Qh (show OZ=vk from ok)
 | _=>rfl
set_option maxHeartbeats 1000000 in
theorem gf {RR:Lt->Pz->Yv->O0->Prop}{f:Pk->Out (O4 (V×Mode))}{x:OX}{px:Pos}{elt iter:Expr}{ifs:rg Expr}{sc:Scope}{pos:Pos}{A:PU}{env:Env}{σ:St}{P:Pz->Prop}{s:O0}{Er:Lt->O0->Prop}
  {ds:rg Pk}{res:rg Pk×PV}(hsc:iJ env.scope.names sc x=vk) (X:Cx fns k A P s.heap env σ) (hres:bM f ds = .ok res)
  (step:∀ d r,f d = .ok r->∀ {cenv:Env}{s₃:O0}{P':Pz->Prop}{Q₁:O0->Prop}{Qb:Lt->O0->Prop}{Er':Lt->O0->Prop},cenv.scope.names=fW env.scope.names sc.names->Cx fns k A P' s₃.heap cenv (upd σ x (mk (.d d))) ->
   (r=O2->∀ s₄,Kp s₃ s₄->Q₁ s₄)->(∀ y,r=qn y->∀ v s₄,EP P' s₃ y v s₄->Qb v s₄) ->
   Ph (Pn prog w) A (UY ifs vk λc r=>if r=vk then do let ok <- isTrue c cenv (Tu c cenv); Qq (RB ok) else Qq (RB r)) (λok s₄=>if ok=vk then Ph (Pn prog w) A (Tu elt cenv) Qb Er' s₄ else Q₁ s₄) Er' s₃)
  {m:Mode}{i:Lt}{s₂:O0}(I:ItP A P s ds m i s₂)
  (hR:∀ D C h tk m,EP P s (.d (.list res.1),if res.2 then .deep else .top) (.ref D) {s₂ with heap:=h,toks:=tk }->h.Ns C m->s.heap.get? C=O2->RR (.ref D) C (.ok .next) {s₂ with heap:=h,toks:=tk }) {cl:rg (Str×Pz)}(hcl:∀ n,(n,Q3)∈sc.names->cl.lookup n=env.cells.lookup n) :
  Ph (Pn prog w) A (newObj (.type "list") (.seq #[]) O2) (λacc s₃=>
   Ph (Pn prog w) A (S6 sc env.globals cl [] env.qual O2 .none (qn env)) (λcenv s₄=>
    Vc (Pn prog w) A (.compStart (.ListComp elt [⟨.Name (mL x) px,iter,ifs,0⟩] sc pos) 0 i acc {cenv with scope:=Vb sc env }) (RR acc cenv.locals) s₄) Er s₃) Er s₂:=by
 refine dI (jm hsc) λhk hnd htg hnames=>?_
 obtain ⟨t,Nw,hsm⟩:=I
 refine wc (Nw) λI fp wr Pw St F Nm W hst hwr hfp hPw hF hFP _=>?_
 clear Nw
 replace Nm:=Nm.1
 subst Nm
 refine R7 (Be λu j=>?_)
 have hsz:(s₂.heap.push {cls:=.type "list", data:=.seq #[] }).objs.size=s₂.heap.objs.size+1:=TT ..
 dsimp only at j ⊢
 rw[hsz]
 generalize hD:s₂.heap.objs.size=D at *
 obtain ⟨c1,c2,c3⟩:=jZ (X:=mL x) sc.names ((s₂.heap.push {cls:=.type "list", data:=.seq #[] }).push {cls:=.type "dict", data:=.dict #[] }) cl (λp hp e=>by
  rcases hnames p hp with h | h | h | h
  ·rw[h.1] at e; cases e
  ·rw[h] at e; cases e
  ·exact h.2
  ·rw[h.1] at e; cases e) hnd
 rw[TT,hsz] at c1 c2 c3
 rw[<- j] at c2
 have l:∀ b o,s₂.heap.get? b=qn o->u.get? b=qn o:=λb o e=>by
  rw[j]; exact RZ _ _ _ _ (Pd _ (Pd _ e))
 have hDc:u.PlainList D #[]:=⟨0,by rw[j]; exact RZ _ _ _ _ (Pd _ (hD▸PE _ rfl))⟩
 have z:u.Ns (D+1) (λuu=>O2):=by
  have:=ZN (s₂.heap.push {cls:=.type "list", data:=.seq #[] }) (.type "dict")
  rw[hsz] at this
  rw[j]
  exact this.keeps (RZ _ _)
 have old:∀ b,(∃ o,s₂.heap.get? b=qn o)->b<D:=λb ⟨o,e⟩=>hD▸RH e
 have g:∀ b,D<=b->s.heap.get? b=none:=λb hb=>by
  cases e:s.heap.get? b with
  | none=>rfl
  | some o=>exact Pq (old b (t.k.there e)) (Ys.mpr hb)
 obtain ⟨T,hT,hTD,hkc⟩:∃ T,Tgt {scope:=Vb sc env,locals:=D+1,globals:=env.globals,cells:=RY (D+1+1) sc.names cl,qual:=env.qual,func:=O2,code:=env.code,frame:=env.frame,builtins:=env.builtins } (mL x) T u/\D+1<=T /\
   (sc.names.lookup (mL x)=qn .cell->(RY (D+1+1) sc.names cl).lookup (mL x)=qn T):=by
  have hkd:(Vb sc env).names.lookup (mL x)=(sc.names.lookup (mL x)).map λkd=>if kd == .free&&env.scope.names.lookup (mL x)==qn .cell then .cell else kd:=by
   rw[fS X.eok.kind]; exact iC
  rcases htg with ht | ht
  ·refine (aG (D+1) ⟨⟨_,z⟩,.inl ⟨?_,rfl⟩⟩ (PH _) (λq=>?_))
   ·show (Vb sc env).names.lookup _=_
    rw[hkd,ht]; rfl
   ·rw[ht] at q; cases q
  ·refine aq (c2 ht) λc g1 g2 g3=>?_
   refine (aG c ⟨⟨_,z⟩,.inr (cZ ?_ g1 ?_ (bP _ g2))⟩ (Tv g3) (λuu=>g1))
   ·show (Vb sc env).names.lookup _=_
    rw[hkd,ht]; rfl
   ·exact Ut g3
 have hstc:St 0 u:=W.frame _ _ _ hst λb _ o e=>l b o e
 refine codeAny_compStart_list ?_ ?_
 all_goals
  first
  | (refine W.self 0 _ _ _ hstc ?_)
  | skip
 all_goals
  refine uI (s:=s) (P:=P) (T:=T) W hstc hk (KG.trans t.k (K.of l)) hwr (λb hb=>bi (hF b hb) λvs n e=>(bN vs n (l _ _ e))) hfp (λi v hv d hd=>af (hPw i v hv d hd) λbs h1 h2=>(ah bs (h1.keep l) h2)) hFP (λb hb=>?_) (λb hb=>?_) (Qz hTD) (Qz (Ue D)) (g D (PH _)) (g T (Tv hTD)) hsm hres hDc hT ?_ ?_
  ·refine bi (hF b hb) λuu uu e=>?_
   have:=old b ⟨_,e⟩
   exact ⟨Qz this,Qz (O6 this (Tv hTD)),Qz (Tx this)⟩
  ·refine af ((hwr b hb).2.2 0 _ hst) λo e _=>?_
   have:=old b ⟨_,e⟩
   exact ⟨Qz this,Qz (O6 this (Tv hTD)),Qz (Tx this)⟩
  ·intro d r hf hz s₄ Q₁ Qb Er' v bs hv hr hbs kps h1 h2
   refine step d r hf (fS X.eok.kind) (Cm hsc (fS X.eok.kind) hk rfl rfl (λn hn=>?_) (λq=>⟨T,hkc q⟩) rfl X kps hv hr hz hbs λa ha hex=>⟨.inl ha,λq=>?_⟩) h1 h2
   ·show (RY (D+1+1) sc.names cl).lookup n=_
    rw[c1 n λq=>?_,hcl n hn]
    subst q
    have:=ju hnd hn
    rw[this] at htg
    rcases htg with q | q<;>cases q
   ·(clear h2 hDc z hT hTD hbs hkc hsz hv old; subst q)
    refine ak (hex) λo e=>?_
    clear hex
    rw[g _ (PH _)] at e; exact nN e
  ·intro h tk vs as hp hra hys hyl has hdp hm hkp
   revert hm; intro N1
   refine ak (N1) λm' hm=>?_
   clear N1
   refine ak (hp) λn hpl=>?_
   clear hp
   refine hR D (D+1) h tk m' ?_ hm (g _ (U9 D))
   refine aw (t) λhhb tkb Nr hkkb=>?_
   clear t
   (clear j hF hPw hR l hst hsz old; subst Nr)
   refine ⟨(aC h tk rfl hkp),D::as,⟨.list hpl hra,sz_list.mpr ⟨hyl,hys⟩⟩,?_,?_,?_⟩
   ·intro a ha
    rcases PC.mp ha with rfl | ha
    ·exact .inr (g _ (PH _))
    ·exact (has a ha).2
   ·exact λuu=>(aP D as rfl (g _ (PH _)) (λq=>(has D q).1 rfl))
   ·intro hm'
    dsimp only at hm'
    have hb:res.2=true:=by
     cases e:res.2 with
     | true=>rfl
     | false=>rw[e] at hm'; cases hm'
    refine ⟨λa ha=>?_,Q6.mpr ⟨λq=>(has D q).1 rfl,(hdp hb).2⟩⟩
    rcases PC.mp ha with rfl | ha
    ·exact g _ (PH _)
    ·exact (hdp hb).1 a ha
theorem R.sameBut {h h':P9}{C:Pz}{m:Str->O4 Lt}{v:Lt}{d:Pk}{as:rg Pz}(r:R h v d as) (hm:h.Ns C m) (hs:Qg C h h'):R h' v d as:=by
 refine r.off (wr:=[C]) (λb g o e=>?_) λb o g e=>hs.extBut b o (λq=>g (by simp[q])) e
 rw[O7.mp g] at e
 refine bj (hm) λp t u k j _=>?_
 clear hm
 rw[k] at e; (have i:=vj e; clear e; subst i)
 exact .inl λl n q=>by rw[j] at q; cases q
theorem EP.sameBut {P:Pz->Prop}{s s₂:O0}{h h':P9}{tk:Pa}{C:Pz}{m:Str->O4 Lt}{d:Pk}{md:Mode}{v:Lt}(E:EP P s (.d d,md) v {s₂ with heap:=h,toks:=tk }) (hm:h.Ns C m) (hC:s.heap.get? C=O2) (hs:Qg C h h') :
  EP P s (.d d,md) v {s₂ with heap:=h',toks:=tk }:=by
 obtain ⟨i,as,g,t,p,n⟩:=E
 refine aw (i) λhh l e x=>?_
 clear i
 refine ae (g) λr z=>?_
 clear g
 cases s₂; cases s; cases e
 refine bj (id hm) λo' es ep y k _=>?_
 refine ⟨(aC h' tk rfl (K.step x (KG.ofW (wr:=[C]) (λb o j e=>hs.extBut b o (λq=>j (by simp[q])) e) λb j o e=>?_) λb o e q=>?_)),as,⟨R.sameBut r hm hs,z⟩,t,p,n⟩
 ·rw[O7.mp j,y] at e; (have u:=vj e; clear e; subst u)
  exact Stay.not_data (λuu q=>by rw[k] at q; cases q) λuu uu q=>by rw[k] at q; cases q
 ·rw[O7.mp q,hC] at e; exact nN e
theorem n7 {elt iter:Expr}
  (hsc:iJ env.scope.names sc x=vk) (X:Cx fns k A P h env σ) (hset:∀ v,Vd iter env v=Qq v)
  (h:∀ cl:rg (Str×Pz),(∀ n,(n,Q3)∈sc.names->cl.lookup n=env.cells.lookup n)->Ph (Pn prog w) A (Tu iter env) (λv s₁=>Ph (Pn prog w) A (XF v) (λi t=>Ph (Pn prog w) A (newObj (.type "list") (.seq #[]) O2) (λacc u=>
   Ph (Pn prog w) A (S6 sc env.globals cl [] env.qual O2 .none (qn env)) (λcenv s₄=>
    Vc (Pn prog w) A (.compStart (.ListComp elt [⟨.Name (mL x) px,iter,ifs,0⟩] sc pos) 0 i acc {cenv with scope:=Vb sc env }) (VC (Pn prog w) A Er O2 Q acc cenv.locals) s₄) Er u) Er t) Er s₁) Er s) :
  Ph (Pn prog w) A (Tu (.ListComp elt [⟨.Name (mL x) px,iter,ifs,0⟩] sc pos) env) Q Er s:=by
 refine dI (jm hsc) λhk l q g=>?_
 obtain ⟨cl,m,j⟩:=mR (scope:=sc) (env:=env) (λp r e=>by
  rcases g p r with h | h | h | h
  ·rw[h.1] at e; cases e
  ·rw[h] at e; cases e
  ·rw[h.1] at e; cases e
  ·exact X.eok.cells p.1 h.2)
 rw[eval_ListComp]
 exact Vo (use:=O2) rfl hset m hk (λy o e=>by rw[<- e]; exact ju l o) (h cl j)
theorem fG {α:Type}{o:Out α}(h:o.calm≠.bad):∃ a,o = .ok a:=by
 cases o with
 | ok a=>exact ⟨a,rfl⟩
 | exc c=>exact Pq rfl h
 | bad=>exact Pq rfl h
theorem xg {elt:E}(Si:dJ fns k C XP it) (Se:SimE fns k C XP elt):SimE fns k C XP (.comp elt x it):=by
 intro ex A env σ P s Q Er ok X nb hQ hE
 replace ok:=uN ok
 revert ok; refine λg=>PG g (λj=>?_) (λok=>?_)
 ·clear g
  refine uc (j) λN3 Ok OQ OC OW z n ok=>?_
  clear j
  subst n
  simp only[O9,Pv] at ok
  refine ae (ok) λp oe=>?_
  clear ok
  refine ae (p) λo oi=>?_
  clear p
  refine ae (o) λNp t=>?_
  clear o
  subst Np
  simp only[d7] at nb hQ hE
  refine aR nb λn1 n2=>?_
  refine n7 t X (mY oi env) λcl hcl=>Si oi X n1 (λq hq i s₂ I=>?_) λc u=>hE c (by rw[u]; rfl)
  refine ak (fG (br (n2 q hq)).1) λres l=>?_
  refine gf (RR:=λacc C=>VC (Pn prog w) A Er O2 Q acc C) (ds:=q.1) t X l (λd r hf cenv sc P' Q₁ Qb Er' hN X' h1 h2=>X5 ?_) I (λD C h tk m E hm hC=>(ah m hm (λh' hs=>hQ _ (by rw[hq,Out.ok_bind,l]; rfl) _ _ (E.sameBut hm hC hs)))) hcl
  rw[O1 rfl]
  refine Out.bind_k hf λy hy e=>?_
  (have oc:=Out.ok.inj e; clear e; (clear h1 hf; subst oc))
  refine Se (hN▸oe) X' (by rw[hy]; simp) (λr hr v s' E=>h2 r (by rw[hy] at hr; (have oc:=Out.ok.inj hr; clear hr; (clear E; subst oc)); rfl) v s' E) λc u=>by rw[hy] at u; cases u
 ·cases ok
theorem tU {elt c:E}(Si:dJ fns k C XP it) (Se:SimE fns k C XP elt) (Sc:SimT fns k C XP c):SimE fns k C XP (.compif elt x it c):=by
 intro ex A env σ P s Q Er ok X nb hQ hE
 replace ok:=qi ok
 revert ok; refine λl=>PG l (λn=>?_) (λok=>?_)
 ·clear l
  refine kQ (n) λOu OM OK OT OR OU OV z ok=>?_
  clear n
  subst z
  simp only[O9,Pv] at ok
  refine ae (ok) λNl oe=>?_
  clear ok
  refine ae (Nl) λp j=>?_
  clear Nl
  refine ae (p) λo oi=>?_
  clear p
  refine ae (o) λNv hsc=>?_
  clear o
  subst Nv
  simp only[c6] at nb hQ hE
  refine aR nb λn1 n2=>?_
  refine n7 hsc X (mY oi env) λcl hcl=>Si oi X n1 (λq hq i s₂ I=>?_) λc hc=>hE c (by rw[hc]; rfl)
  refine ak (fG (br (n2 q hq)).1) λres u=>?_
  refine gf (RR:=λacc C=>VC (Pn prog w) A Er O2 Q acc C) (ds:=q.1) hsc X u (λd r hf cenv sc P' Q₁ Qb Er' hN X' h1 h2=>X6 ?_) I (λD C h tk m E hm hC=>(ah m hm (λh' hs=>hQ _ (by rw[hq,Out.ok_bind,u]; rfl) _ _ (E.sameBut hm hC hs)))) hcl
  refine Out.bind_k hf λt ht hf=>?_
  refine Out.bind_k hf λb hb hf=>?_
  refine Sc (hN▸j) X' (by rw[ht,Out.ok_bind,hb]; simp) (λb' hb' s₄ g=>?_) λc hc=>by rw[ht] at hc; cases hc
  rw[ht,Out.ok_bind,hb] at hb'
  (have j:=Out.ok.inj hb'; clear hb'; subst j)
  cases b with
  | false=>(have j:=Out.ok.inj hf; clear hf; (clear h2; subst j)); simpa using h1 rfl s₄ g
  | true=>
   rw[O1 rfl] at hf ⊢
   refine Out.bind_k hf λy hy e=>?_
   (have j:=Out.ok.inj e; clear e; (clear h1; subst j))
   exact Se (hN▸oe) (X'.k g.k) (by rw[hy]; simp) (λr hr v s' E=>h2 r (by rw[hy] at hr; (have j:=Out.ok.inj hr; clear hr; (clear E; subst j)); rfl) v s' (E.after g)) λc hc=>by rw[hy] at hc; cases hc
 ·cases ok
end
theorem j9 (val:Pa->O3):∀ k,Xi (λi j=>decide (val i>val j)) k<=k/\∀ j,j<=k->val j<=val (Xi (λi j=>decide (val i>val j)) k)
 | 0=>⟨PH _,λj g=>by
  have:j=0:=by exact FL g
  (clear g; subst this)
  exact U8 _⟩
 | k+1=>by
  refine ae (j9 val k) λl h=>?_
  unfold Xi
  by_cases hc:val (k+1)>val (Xi (λi j=>decide (val i>val j)) k)
  ·rw[O1 (by simpa using hc)]
   refine ⟨PH _,λj g=>?_⟩
   by_cases e:j=k+1
   ·(clear g; subst e); exact U8 _
   ·have:=h j (zL g e); exact Fh hc this
  ·rw[OY (by simpa using hc)]
   refine ⟨by exact QT ‹_›,λj g=>?_⟩
   by_cases e:j=k+1
   ·(clear g; subst e); exact JG hc
   ·exact h j (zL g e)
theorem qj (h:eU ns=qn m):ns[Xi (λi j=>decide (ns[i]?.getD 0>ns[j]?.getD 0)) (ns.length-1)]?.getD 0=m:=by
 refine ae (j9 (λi=>ns[i]?.getD 0) (ns.length-1)) λu t=>?_
 refine ae (nQ h) λl o=>?_
 have r:0<ns.length:=SE l
 generalize Xi (λi j=>decide (ns[i]?.getD 0>ns[j]?.getD 0)) (ns.length-1)=b at *
 have q:ns[b]? = qn ns[b]:=Pp (K4 r u)
 rw[q]
 dsimp only [XG]
 have n:=o ns[b] (RM _)
 refine ak (S8 l) λj g=>?_
 refine ak (g) λp e=>?_
 clear g
 have k:=t j (sG p)
 rw[q,Pp p,e] at k
 simp only[XG] at k
 exact z9 n k
section
theorem Bu (h:Ry vs ns):∀ {i:Pa}{v:Lt},vs[i]? = qn v->∃ t,v = .int (ns[i]?.getD 0) t:=by
 induction h with
 | nil=>intro i v h; simp at h
 | cons n t _ ih=>
  intro i v h
  cases i with
  | zero=>simp at h; exact ⟨t,by simp[<- h]⟩
  | succ i=>simpa using ih (by simpa using h)
theorem vL (hh:A.handled=O2) (ra:R s.heap va (.list xs) as) (hi:aM xs=qn ns)
  (hG:∀ I fp wr Pw St y,Walks prog w A I fp wr ns.length Pw St->St 0 y.heap->(∀ b∈fp,b<y.heap.objs.size)->(∀ i v,Pw i v->∃ t,v = .int (ns[i]?.getD 0) t)->(∀ b∈wr,s.heap.get? b=O2/\∀ o,y.heap.get? b=qn o->¬ Stay o)->Kp s y->G (.ref I) y) :
  Ph (Pn prog w) A (XF va) G Er s:=by
 refine ra.isList_k λa p n x m h g l=>?_
 (clear ra; subst m)
 subst l
 refine aI (g.ints hi) λu k j=>?_
 subst k
 subst j
 have e:p.toArray.size=ns.length:=by rw[PJ,g.length,Pi]
 have W:=Jad (prog:=prog) (w:=w) (A:=A) hh s.heap.objs.size a (e7 h) p.toArray
 rw[e] at W
 refine Xg (isL h) (hG _ _ _ _ _ _ W ⟨(aG _ (PE _ rfl) rfl rfl),(isL h).push _⟩ ?_ ?_ ?_ (.push s _ _))
 ·intro b hb
  rw[show _=s.heap.objs.size+1 from TT ..]
  rcases PC.mp hb with rfl | hb
  ·exact Ue _
  ·rw[O7.mp hb]; exact Tx (RH h)
 ·intro i v r
  exact Bu u (by simpa using r)
 ·intro b hb
  rw[O7.mp hb]
  refine ⟨bx _,λo e=>?_⟩
  rw[show _=qn _ from PE _ rfl] at e
  (have q:=vj e; clear e; subst q)
  exact Stay.not_cls (by simp) (by simp)
theorem Kp.after {s j:O0}{h':P9}{tk:Pa}{wr:rg Pz}(kp:Kp s j) (hwr:∀ b∈wr,s.heap.get? b=Ru/\∀ o,j.heap.get? b=qn o->¬ Stay o) (hk:∀ b o,b∉wr->j.heap.get? b=qn o->h'.get? b=qn o):Kp s {j with heap:=h',toks:=tk }:=by
 refine aw (kp) λh t g k=>?_
 clear kp
 subst g
 exact (aC h' tk rfl (K.step k (KG.ofW hk λb i=>(hwr b i).2) λb o e i=>by rw[(hwr b i).1] at e; cases e))
theorem yT (hh:A.handled=O2) (ra:R s.heap va (.list xs) as) (hi:aM xs=qn ns) (hm:eU ns=qn m) (hQ:∀ v s',EP P s (sI m) v s'->Q v s'):Ph (Pn prog w) A (SV (.builtin "max") [va]) Q Er s:=by
 refine call_max_walk (vL (A:=A.in1) hh ra hi λI q o Pw St l W j k g i p=>(DT I q o _ Pw St _ rfl W j k (SE (nQ hm).1) (CmpOf.ints_gt _ g) (λv u r n hk=>?_)))
 refine ak (g _ _ n) λt h=>?_
 (clear n; subst h)
 rw[qj hm]
 exact hQ _ _ (.int (p.after i hk))
noncomputable def Isi (s:O0) (t:OX) (v:Lt) (b:PV):Prop:=∀ (A:PU) (Q:Lt->O0->Prop) (Er:Lt->O0->Prop),(∀ s',Kp s s'->Q (.bool b) s')->Ph (Pn prog w) A (SV (.builtin "isinstance") [v,.type t]) Q Er s
theorem ky {t:OX}{f:Pa->PV}(h0:Isi s t .none (f 0)) (h1:∀ b,Isi s t (.bool b) (f 1)) (h2:∀ i u,Isi s t (.int i u) (f 2)) (h3:∀ x u,Isi s t (.str x u) (f 3))
  (h4:∀ {a:Pz}{n:Pa}{vs:rg Lt},s.heap.get? a=qn ⟨.type "list", O2,.seq vs.toArray n,#[]⟩->Isi s t (.ref a) (f 4)) (h5:∀ {a:Pz}{n:Pa}{vs:rg Lt},s.heap.get? a=qn ⟨.type "tuple", O2,.seq vs.toArray n,#[]⟩->Isi s t (.ref a) (f 5))
  {x:Pk}(ra:R s.heap va x as):Isi s t va (f (qN x)) :=
 (R.ind (M:=λv d _=>Isi s t v (f (qN d))) (N:=λuu uu uu=>Wa) h0 h1 h2 h3 (λe _ _=>h4 e) (λe _ _=>h5 e) trivial λuu uu uu uu=>trivial).1 ra
theorem xi (he:nj t (qN x)=qn b) (ra:R s.heap va x as) (hQ:∀ s',Kp s s'->Q (.bool b) s'):Ph (Pn prog w) A (SV (.builtin "isinstance") [va,.type t]) Q Er s :=
 have l:=Kp.refl s
 have g:=Kp.toks s (s.toks+1)
 qq he (λq j=>q▸(ky (t:="int") (f:=λk=>(k==2||k==1)) (λA Q Er h=>ZO (h _ g)) (λuu A Q Er h=>IsiPair.bool_int (h _ l)) (λuu i A Q Er h=>IsiPair.int_int (h _ l)) (λuu i A Q Er h=>IsiPair.str_int (h _ g)) (λe A Q Er h=>IsiPair.list_int e rfl (h _ g)) (λe A Q Er h=>IsiPair.tuple_int e rfl (h _ g)) ra) _ _ _ (j▸hQ))
  (λq j=>q▸(ky (t:="bool") (f:=λk=>(k==1)) (λA Q Er h=>Zz (h _ g)) (λuu A Q Er h=>IsiPair.bool_bool (h _ l)) (λuu i A Q Er h=>IsiPair.int_bool (h _ g)) (λuu i A Q Er h=>IsiPair.str_bool (h _ g)) (λe A Q Er h=>IsiPair.list_bool e rfl (h _ g)) (λe A Q Er h=>IsiPair.tuple_bool e rfl (h _ g)) ra) _ _ _ (j▸hQ))
  (λq j=>q▸(ky (t:="list") (f:=λk=>(k==4)) (λA Q Er h=>ZA (h _ g)) (λuu A Q Er h=>IsiPair.bool_list (h _ g)) (λuu i A Q Er h=>IsiPair.int_list (h _ g)) (λuu i A Q Er h=>IsiPair.str_list (h _ g)) (λe A Q Er h=>IsiPair.list_list e rfl (h _ l)) (λe A Q Er h=>IsiPair.tuple_list e rfl (h _ g)) ra) _ _ _ (j▸hQ))
  (λq j=>q▸(ky (t:="tuple") (f:=λk=>(k==5)) (λA Q Er h=>Zp (h _ g)) (λuu A Q Er h=>IsiPair.bool_tuple (h _ g)) (λuu i A Q Er h=>IsiPair.int_tuple (h _ g)) (λuu i A Q Er h=>IsiPair.str_tuple (h _ g)) (λe A Q Er h=>IsiPair.list_tuple e rfl (h _ g)) (λe A Q Er h=>Z7 e rfl (h _ l)) ra) _ _ _ (j▸hQ))
  (λq j=>q▸(ky (t:="str") (f:=λk=>(k==3)) (λA Q Er h=>ZP (h _ g)) (λuu A Q Er h=>IsiPair.bool_str (h _ g)) (λuu i A Q Er h=>IsiPair.int_str (h _ g)) (λuu i A Q Er h=>IsiPair.str_str (h _ l)) (λe A Q Er h=>IsiPair.list_str e rfl (h _ g)) (λe A Q Er h=>IsiPair.tuple_str e rfl (h _ g)) ra) _ _ _ (j▸hQ))
end
noncomputable def rkA (rk:Pc->Pa) (arr:Pf Pc) (i:Pa):Nat:=match arr[i]? with
 | some p=>rk p
 | none=>0
noncomputable def bE (M:Vz) (A:PU) (E:Lt->O0->Prop) (s:O0) (rk:Pc->Pa) (ok:Pc->Prop) (κ:Uw):Prop :=
 ∀ {x y:Pc}{st:Px}{Q:O4 PV->Px->Prop},ok x->ok y->kindOf st=κ->Q (qn (decide (rk x<rk y))) st->wpS M A E s (lt' x y) Q st
noncomputable def Up (rk:Pc->Pa) (l:rg Pc):Prop:=l.Pairwise λx y=>rk x<=rk y
structure Gd (rk:Pc->Pa) (ok:Pc->Prop) (κ:Uw) (st:Px):Prop where
 ok:∀ p∈O8 st,ok p
 kind:kindOf st=κ
noncomputable def SegUp (rk:Pc->Pa) (arr:Pf Pc) (lo n:Pa):Prop:=∀ i j,lo<=i->i<=j->j<lo+n->rkA rk arr i<=rkA rk arr j
structure SG where
 A:PU
 E:Lt->O0->Prop
 s:O0
 rk:Pc->Pa
 ok:Pc->Prop
 κ:Uw
noncomputable def gM:Model:=Pn prog w
noncomputable def SP3 (x:SG):Prop:=bE gM x.A x.E x.s x.rk x.ok x.κ->∀ {st:Px}{Q:UN->Px->Prop},Gd x.rk x.ok x.κ st->2<=(O8 st).size->(O8 st).size<128->PY st = #[]->Qa st=O2->(∀ st',(O8 st').Perm (O8 st)->Up x.rk (O8 st').toList->Qa st' = O2->Q () st')->wpS gM x.A x.E x.s Wu Q st
noncomputable def mI (x:SG):Prop:=SP3 x
noncomputable def sg:SG:=@W6 SG ⟨⟨{},λ_ _=>Wa,{},λ_=>0,λ_=>Wa,Xj⟩⟩ λx=>¬ mI x
theorem wC (h:mI sg):∀ x,mI x:=λx=>Tr λn=>@VN SG (λx=>¬ mI x) ⟨x,n⟩ h
noncomputable def gA:Around:=sg.A
noncomputable def gE:Lt->O0->Prop:=sg.E
noncomputable def gs:Shared:=sg.s
noncomputable def gr:Pc->Nat:=sg.rk
noncomputable def go:Pc->Prop:=sg.ok
noncomputable def gk:SortKind:=sg.κ
noncomputable def gallop':PV->Pc->Pf Pc->Pa->Pa->Pa->TP Px Sem (O4 Pa):=sortPriv% PySem.Builtin.gallop
section
theorem aN {arr:Pf Pc}{i:Pa}{st:Px}{Q:Pc->Px->Prop}(hi:i<arr.size) (h:Q arr[i] st):wpS gM gA gE gs (elem' arr i) Q st:=by
 rw[elem'_eq,RT hi]
 exact Pr h
theorem fk (hi:i<arr.size):rkA gr arr i=gr arr[i]:=by unfold rkA; rw[RT hi]
theorem BY (hlt:bE gM gA gE gs gr go gk) {left:PV}{key:Pc}{arr:Pf Pc}{i:Pa}{st:Px}{Q:O4 PV->Px->Prop}(hi:i<arr.size) (hok:∀ p∈arr,go p) (hkey:go key) (hk:kindOf st=gk)
  (h:Q (qn (if left then decide (rkA gr arr i<gr key) else !decide (gr key<rkA gr arr i))) st):wpS gM gA gE gs (do let x <- elem' arr i; if left=vk then lt' x key else do let r <- lt' key x; Qq (r.map λb=>!b)) Q st:=by
 refine Pe (aN hi ?_)
 rw[fk hi] at h
 have g:=hok arr[i] (Rj hi)
 cases left with
 | true=>rw[O1 rfl] at h ⊢; exact hlt g hkey hk h
 | false=>
  rw[OY (by decide)] at h ⊢
  exact Pe (hlt hkey g hk (Pr h))
theorem mn (hlt:bE gM gA gE gs gr go gk) {left:PV}{key:Pc}{arr:Pf Pc}{base n hint:Pa}{st:Px}{Q:O4 Pa->Px->Prop}(hn:base+n<=arr.size) (hh:hint<n) (hok:∀ p∈arr,go p) (hkey:go key) (hk:kindOf st=gk)
  (bey:Pa->PV) (hb:∀ i,bey i=if left then decide (rkA gr arr (base+i)<gr key) else !decide (gr key<rkA gr arr (base+i))) (hm:∀ i j,i<=j->j<n->bey j=vk->bey i=vk)
  (h:∀ k,k<=n->(∀ i,i<k->bey i=vk)->(∀ i,k<=i->i<n->bey i=OZ)->Q (qn k) st):wpS gM gA gE gs (gallop' left key arr base n hint) Q st:=by
 unfold gallop'
 have look:∀ {i:Pa}{st:Px}{Q:O4 PV->Px->Prop},i<n->kindOf st=gk->Q (qn (bey i)) st->wpS gM gA gE gs (do let x <- elem' arr (base+i); if left=vk then lt' x key else do let r <- lt' key x; Qq (r.map λb=>!b)) Q st:=λ{i st Q} m hk h=>BY hlt (z3 hn m) hok hkey hk (by rw[<- hb]; exact h)
 have hm':∀ i j,i<=j->j<n->bey i=OZ->bey j=false:=λi j z y h3=>by
  cases q:bey j with
  | false=>rfl
  | true=>rw[hm i j z y q] at h3; cases h3
 have fin:∀ (g m:Pa) {R:O4 (O4 Pa)×Pa×Pa->Px->Prop}{f:Pa->O4 (O4 Pa)×Pa×Pa->TP Px Sem (PI (O4 (O4 Pa)×Pa×Pa))},g<=m->m<=n->(∀ i,i<g->bey i=vk)->(∀ i,m<=i->i<n->bey i=OZ) ->
   (∀ x g m {Q:PI (O4 (O4 Pa)×Pa×Pa)->Px->Prop} , g<m->m<=n->Q (.yield (O2,if bey (g+(m-g)/2) then g+(m-g)/2+1 else g,if bey (g+(m-g)/2) then m else g+(m-g)/2)) st->wpS gM gA gE gs (f x (O2,g,m)) Q st) ->
   (∀ x g {Q:PI (O4 (O4 Pa)×Pa×Pa)->Px->Prop},Q (.done (O2,g,g)) st->wpS gM gA gE gs (f x (O2,g,g)) Q st) ->
   (∀ k,k<=n->(∀ i,i<k->bey i=vk)->(∀ i,k<=i->i<n->bey i=OZ)->R (O2,k,k) st)->wpS gM gA gE gs (UY [0:n] (O2,g,m) f) R st:=by
  intro g m R f z y h3 h4 hs hd hR
  refine Rh (I:=λx c o=>o=st/\∃ g m,c=(O2,g,m)/\g<=m/\m<=n/\m-g<=n-x/\(∀ i,i<g->bey i=vk)/\(∀ i,m<=i->i<n->bey i=OZ)) ?_ ?_ (aE rfl (pe g m rfl z y (Kh y) h3 h4))
  ·rintro x c o _ hx ⟨rfl,g,m,rfl,u,v,g3,g4,g5⟩
   by_cases e:g=m
   ·(clear u g3; subst e)
    exact hd x g (hR g v g4 g5)
   ·refine hs x g m (Gk u e) v (aE rfl (aC _ _ rfl ?_))
    cases q:bey (g+(m-g)/2) with
    | true=>
     simp only[Q4]
     exact (cF (JY u e) v (GT g3) (λi hi'=>hm i _ (Hs hi') (Jx u v e) q) g5)
    | false=>
     simp only[PK,Ql]
     exact (cF KH (EY u v) (Lp g3) g4 (λi z y=>hm' _ i z y q))
  ·rintro c o ⟨rfl,g,m,rfl,u,v,g3,g4,g5⟩
   have:g=m:=by exact K9 u g3
   (clear u g3; subst this)
   exact hR g v g4 g5
 refine Pe (look hh hk ?_)
 dsimp only
 cases hr:bey hint with
 | true=>
  rw[O1 rfl]
  refine Pe (RE (Rh (I:=λx c o=>o=st/\∃ t l,c=(O2,t,l)/\t<l/\hint+t<n/\bey (hint+t)=vk/\x+1<=l)
   (Q:=λc o=>o=st/\∃ t l,c=(O2,t,l)/\t<l/\hint+t<n/\bey (hint+t)=vk/\(n-hint<=l\/bey (hint+l)=OZ)) ?_ ?_ (aE rfl (bW 0 1 rfl z5 (FZ hh) hr zO))) ?_)
  ·rintro x c o _ hx ⟨rfl,t,l,rfl,u,v,g3,g4⟩
   dsimp only
   by_cases e:l≥n-hint
   ·rw[O1 e]; exact Pr (aE rfl (bW t l rfl u v g3 (.inl e)))
   ·rw[OY e]
    refine Pe (look (Ac e) hk ?_)
    dsimp only
    cases q:bey (hint+l) with
    | false=>exact Pr (aE rfl (bW t l rfl u v g3 (.inr q)))
    | true=>exact Pr (aE rfl (bW l (2*l+1) rfl zi (Ac e) q (Ax g4)))
  ·rintro c o ⟨rfl,t,l,rfl,u,v,g3,g4⟩
   exact (aE rfl (bW t l rfl u v g3 (.inl (Jl g4))))
  ·rintro c o ⟨rfl,t,l,rfl,u,v,g3,g4⟩
   dsimp only
   refine Pe (fin _ _ (Ic u v) (HO hh) (λi m=>hm i _ (Kc m) v g3) (λi z y=>?_) (λx g m Q z y hQ=>?_) (λx g Q hQ=>?_) λk z y h3=>Pr (h k z y h3))
   ·rcases g4 with g4 | g4
    ·exact JB z y g4
    ·exact hm' _ i (Iw z y) y g4
   ·dsimp only
    rw[OY (Af z)]
    refine Pe (look (AA z y) hk ?_)
    dsimp only
    cases q:bey (g+(m-g)/2) with
    | true=>rw[q] at hQ; exact Pr hQ
    | false=>rw[q] at hQ; exact Pr hQ
   ·dsimp only
    rw[O1 (PH _)]
    exact Pr hQ
 | false=>
  rw[OY (by decide)]
  refine Pe (RE (Rh (I:=λx c o=>o=st/\∃ t l,c=(O2,t,l)/\t<l/\t<=hint/\bey (hint-t)=OZ/\x+1<=l)
   (Q:=λc o=>o=st/\∃ t l,c=(O2,t,l)/\t<l/\t<=hint/\bey (hint-t)=OZ/\(hint+1<=l\/(l<=hint/\bey (hint-l)=vk))) ?_ ?_ (aE rfl (bW 0 1 rfl z5 Kx hr zO))) ?_)
  ·rintro x c o _ hx ⟨rfl,t,l,rfl,u,v,g3,g4⟩
   dsimp only
   by_cases e:l≥hint+1
   ·rw[O1 e]; exact Pr (aE rfl (bW t l rfl u v g3 (.inl e)))
   ·rw[OY e]
    refine Pe (look (zw hh) hk ?_)
    dsimp only
    cases q:bey (hint-l) with
    | true=>exact Pr (aE rfl (bW t l rfl u v g3 (.inr ⟨by exact zN e,q⟩)))
    | false=>exact Pr (aE rfl (bW l (2*l+1) rfl zi (zN e) q (Ax g4)))
  ·rintro c o ⟨rfl,t,l,rfl,u,v,g3,g4⟩
   exact (aE rfl (bW t l rfl u v g3 (.inl (Hr hh g4))))
  ·rintro c o ⟨rfl,t,l,rfl,u,v,g3,g4⟩
   dsimp only
   refine Pe (fin _ _ ?_ (Ee hh) (λi m=>?_) (λi z y=>hm' _ i z y g3) (λx g m Q z y hQ=>?_) (λx g Q hQ=>?_) λk z y h3=>Pr (h k z y h3))
   ·rcases g4 with g4 | ⟨g4,g5⟩
    ·exact Ey g4
    ·exact F2 u
   ·rcases g4 with g4 | ⟨g4,g5⟩
    ·exact Ht m g4
    ·exact hm i (hint-l) (FH m) (zw hh) g5
   ·dsimp only
    rw[OY (Af z)]
    refine Pe (look (AA z y) hk ?_)
    dsimp only
    cases q:bey (g+(m-g)/2) with
    | true=>rw[q] at hQ; exact Pr hQ
    | false=>rw[q] at hQ; exact Pr hQ
   ·dsimp only
    rw[O1 (PH _)]
    exact Pr hQ
end
noncomputable def mergeLo':Pf Pc->Pf Pc->TP Px Sem (Pf Pc):=sortPriv% PySem.Builtin.mergeLo
theorem Up.le {gr:Pc->Pa}(h:Up gr l) (hi:i<l.length):∀ y∈l.drop i,gr l[i]<=gr y:=by
 intro y hy
 rw[Rw hi] at hy
 rcases PC.mp hy with rfl | hy
 ·exact PH _
 ·have:=Qx.mp (show (l.take (i+1)++l.drop (i+1)).Pairwise _ by rw[QY]; exact h)
  exact this.2.2 l[i] (by rw[T3 hi]; exact P5 _ (.head _)) y hy
structure MI (gr:Pc->Pa) (a b o:rg Pc) (i j:Pa):Prop where
 perm:o.Perm (a.take i++b.take j)
 sorted:Up gr o
 la:∀ x∈o,∀ y∈a.drop i,gr x<=gr y
 lb:∀ x∈o,∀ y∈b.drop j,gr x<=gr y
section
theorem take_add' (l:rg α) (i k:Pa):l.take (i+k)=l.take i++(l.drop i).take k:=List.take_add ..
theorem MI.swap (h:MI gr a b o i j):MI gr b a o j i:=⟨h.perm.trans Sp,h.sorted,h.lb,h.la⟩
theorem MI.blockB (h:MI gr a b o i j) (ub:Up gr b) (k:Pa) (hlt:∀ x∈(b.drop j).take k,∀ y∈a.drop i,gr x<=gr y):MI gr a b (o++(b.drop j).take k) i (j+k) where
 perm:=by
  rw[take_add',<- QX]
  exact h.perm.append_right _
 sorted:=Qx.mpr ⟨h.sorted,(ub.sublist (T4 j b)).sublist (Xk ..),λx l y g=>h.lb x l y (Rk g)⟩
 la:=λx l y g=>(Pu.mp l).elim (λq=>h.la x q y g) λq=>hlt x q y g
 lb:=λx l y g=>(Pu.mp l).elim (λq=>h.lb x q y (by rw[<- Wv] at g; exact SN g)) λq=>by
  have:=Qx.mp (show ((b.drop j).take k++(b.drop j).drop k).Pairwise _ by rw[QY]; exact ub.sublist (T4 j b))
  exact this.2.2 x q y (by rw[Wv]; exact g)
theorem MI.blockA (h:MI gr a b o i j) (ua:Up gr a) (k:Pa) (hlt:∀ x∈(a.drop i).take k,∀ y∈b.drop j,gr x<=gr y):MI gr a b (o++(a.drop i).take k) (i+k) j:=(h.swap.blockB ua k hlt).swap
theorem gJ {α:Type}{l:rg α}{i:Pa}(hi:i<l.length):(l.drop i).take 1=[l[i]]:=by rw[Rw hi]; rfl
theorem MI.pushB (h:MI gr a b o i j) (ub:Up gr b) (hj:j<b.length) (hlt:∀ y∈a.drop i,gr b[j]<=gr y):MI gr a b (o++[b[j]]) i (j+1):=by
 have:=h.blockB ub 1 (by rw[gJ hj]; intro x g; rw[O7.mp g]; exact hlt)
 rwa [gJ hj] at this
theorem MI.pushA (h:MI gr a b o i j) (ua:Up gr a) (hi:i<a.length) (hlt:∀ y∈b.drop j,gr a[i]<=gr y):MI gr a b (o++[a[i]]) (i+1) j:=(h.swap.pushB ua hi hlt).swap
def Mgd (gr:Pc->Pa) (a b:rg Pc) (r:Pf Pc):Prop:=r.toList.Perm (a++b)/\Up gr r.toList
theorem MI.doneB (h:MI gr a b o i b.length) (ua:Up gr a):(o++a.drop i).Perm (a++b)/\Up gr (o++a.drop i):=by
 have:=h.blockA ua (a.length-i) (λx _ y g=>by rw[S7] at g; cases g)
 rw[QL (by rw[Q2]; exact PH _)] at this
 refine ⟨this.perm.trans ?_,this.sorted⟩
 rw[VD,QL (show a.length<=i+(a.length-i) by exact Fi)]
theorem MI.doneA (h:MI gr a b o a.length j) (ub:Up gr b):(o++b.drop j).Perm (a++b)/\Up gr (o++b.drop j):=by
 obtain ⟨i,g⟩:=h.swap.doneB ub
 exact ⟨i.trans Sp,g⟩
theorem MI.last (h:MI gr a b o i j) (ua:Up gr a) (ub:Up gr b) (hi:i+1=a.length) (ht:∀ x∈b,∀ y∈a.drop i,gr x<=gr y):(o++b.drop j++a.drop i).Perm (a++b)/\Up gr (o++b.drop j++a.drop i):=by
 have:=h.blockB ub (b.length-j) (λx k y g=>ht x (SN (Rk k)) y g)
 rw[QL (show (b.drop j).length<=b.length-j by rw[Q2]; exact PH _)] at this
 by_cases hj:j<=b.length
 ·rw[show j+(b.length-j)=b.length by exact k9 hj] at this
  exact this.doneB ua
 ·have e:b.drop j=[]:=Ux.mpr (Am hj)
  have l:MI gr a b o i b.length:=⟨h.perm.trans (by rw[QL (show b.length<=j by exact Am hj),VD]),h.sorted,h.la,λx _ y g=>by rw[S7] at g; cases g⟩
  rw[e,SD]
  exact l.doneB ua
end
section
def Sm (st st':Px):Prop:=kindOf st' = kindOf st/\O8 st' = O8 st/\PY st' = PY st/\Qa st' = Qa st
theorem Sm.refl (st:Px):Sm st st:=⟨rfl,rfl,rfl,rfl⟩
theorem Sm.trans (h:Sm x y) (g:Sm y z):Sm x z:=⟨g.1.trans h.1,g.2.1.trans h.2.1,g.2.2.1.trans h.2.2.1,g.2.2.2.trans h.2.2.2⟩
theorem d9 {x:OX}{st:Px}{Q:UN->Px->Prop}(h:Q () st):wpS gM gA gE gs (ZQ (rule x):TP Px Sem UN) Q st:=Pr (M:=gM) (E:=gE) h
noncomputable def setMin':Pa->TP Px Sem Unit:=sortPriv% PySem.Builtin.setMinGallop
theorem gc {g:Pa}{st:Px}{Q:UN->Px->Prop}(h:∀ st',Sm st st'->Q () st'):wpS gM gA gE gs (setMin' g) Q st:=TQ (h _ ⟨rfl,rfl,rfl,rfl⟩)
theorem hM {l:rg Pc}{i n:Pa}{P:Pc->Prop}(h:∀ q (hq:i+q<l.length),q<n->P l[i+q]):∀ x∈(l.drop i).take n,P x:=by
 intro x g
 obtain ⟨q,hq,rfl⟩:=S8 g
 rw[Sr,Q2] at hq
 rw[UP,Tl]
 exact h q (sN hq) (K8 hq)
theorem drop_mem' {l:rg Pc}{i:Pa}{P:Pc->Prop}(h:∀ q (hq:i+q<l.length),P l[i+q]):∀ x∈l.drop i,P x:=by
 intro x g
 obtain ⟨q,hq,rfl⟩:=S8 g
 rw[Q2] at hq
 rw[Tl]
 exact h q (ph hq)
theorem cG (hi:i<arr.toList.length):rkA gr arr i=gr arr.toList[i]:=by rw[Py] at hi; rw[fk hi]; rfl
theorem b7 (a:Pf Pc) (i j:Pa):(a.extract i j).toList=(a.toList.drop i).take (j-i):=by
 rw[Array.toList_extract,List.extract_eq_take_drop]
theorem fb (a:Pf Pc) (i:Pa):(a.extract i a.size).toList=a.toList.drop i:=by
 rw[b7,QL (by rw[Q2,Py]; exact PH _)]
theorem dX (hlt:bE gM gA gE gs gr go gk) {left:PV}{key:Pc}{arr:Pf Pc}{base n hint:Pa}{st:Px}{Q:O4 Pa->Px->Prop}(hn:base+n<=arr.size) (hh:hint<n) (hok:∀ p∈arr,go p) (hkey:go key) (hk:kindOf st=gk) (up:Up gr arr.toList)
  (h:∀ k,k<=n->(∀ q (hq:base+q<arr.toList.length),q<k->if left then gr arr.toList[base+q]<gr key else gr arr.toList[base+q]<=gr key)->(∀ q (hq:base+q<arr.toList.length),k<=q->q<n->if left then gr key<=gr arr.toList[base+q] else gr key<gr arr.toList[base+q])->Q (qn k) st) :
  wpS gM gA gE gs (gallop' left key arr base n hint) Q st:=by
 refine mn hlt hn hh hok hkey hk (λi=>if left then decide (rkA gr arr (base+i)<gr key) else !decide (gr key<rkA gr arr (base+i))) (λ_=>rfl) (λi j o u l=>?_) λk o u l=>h k o (λq hq g=>?_) λq hq g r=>?_
 ·have t:base+j<arr.toList.length:=by rw[Py]; exact z3 hn u
  have v:base+i<arr.toList.length:=by exact Gf o t
  have m:rkA gr arr (base+i)<=rkA gr arr (base+j):=by
   rw[cG v,cG t]
   exact up.le v _ (by
    have e:arr.toList[base+j]=(arr.toList.drop (base+i))[j-i]'(by rw[Q2]; exact FE o t):=by
     rw[Tl]; congr 1; exact E0 o
    rw[e]; exact RM _)
  cases left with
  | true=>simp at l ⊢; exact z7 m l
  | false=>simp at l ⊢; exact zJ m l
 ·have:=u q g
  rw[cG hq] at this
  cases left with
  | true=>simpa using this
  | false=>simpa using this
 ·have:=l q g r
  rw[cG hq] at this
  cases left with
  | true=>simpa using this
  | false=>simpa using this
end
noncomputable def elem':Pf Pc->Pa->TP Px Sem Keyed:=sortPriv% PySem.Builtin.elem
noncomputable def lt':Pc->Pc->TP Px Sem (O4 PV):=sortPriv% PySem.Builtin.lt
abbrev G5:Type:=O4 (Pf Pc)×Pf Pc×Pa×Pa×Pa
abbrev G6:Type:=O4 (Pf Pc)×Pf Pc×Pa×Pa×Pa×Pa
abbrev G7:Type:=O4 (Pf Pc)×Pf Pc×Pa×Pa×Pa×Pa×Pa
abbrev SM (α:Type):Type:=TP Px Sem α
noncomputable def loD (a b out:Pf Pc) (ia ib:Pa):Pf Keyed:=out++a.extract ia a.size++b.extract ib b.size
noncomputable def loL (a b out:Pf Pc) (ia ib:Pa):Pf Keyed:=out++b.extract ib b.size++a.extract ia a.size
noncomputable def Ap (a b:Pf Pc) (mg:Pa) (out:Pf Pc) (ia ib bc:Pa):SM (PI G6) :=
 if (ib==b.size)=vk then Qq (.done (qn (loD a b out ia ib),out,ia,ib,0,bc)) else if bc≥mg then Qq (.done (O2,out,ia,ib,0,bc)) else Qq (.yield (O2,out,ia,ib,0,bc))
noncomputable def At (a b:Pf Pc) (mg:Pa) (out:Pf Pc) (ia ib ac:Pa):SM (PI G6) :=
 if (ia+1==a.size)=vk then Qq (.done (qn (loL a b out ia ib),out,ia,ib,ac,0)) else if ac≥mg then Qq (.done (O2,out,ia,ib,ac,0)) else Qq (.yield (O2,out,ia,ib,ac,0))
noncomputable def C9 (a b:Pf Pc) (mg:Pa) (out:Pf Pc) (ia ib ac bc:Pa) (w:PV):SM (PI G6) :=
 if w=vk then elem' b ib>>=λx=>Ap a b mg (out.push x) ia (ib+1) (bc+1) else elem' a ia>>=λx=>At a b mg (out.push x) (ia+1) ib (ac+1)
noncomputable def Mi (a b:Pf Pc) (mg:Pa) (out:Pf Pc) (ia ib ac bc:Pa):O4 PV->SM (PI G6)
 | some w=>C9 a b mg out ia ib ac bc w
 | _=>Qq (.done (qn (loD a b out ia ib),out,ia,ib,ac,bc))
noncomputable def loW (a b:Pf Pc) (mg:Pa) (c:G6):SM (PI G6) :=
 elem' b c.2.2.2.1>>=λp=>elem' a c.2.2.1>>=λq=>lt' p q>>=Mi a b mg c.2.1 c.2.2.1 c.2.2.2.1 c.2.2.2.2.1 c.2.2.2.2.2
noncomputable def loT4' (a b:Pf Pc) (mg k l:Pa) (out:Pf Pc) (ia ib:Pa):SM (PI G7) :=
 if (ia+1==a.size)=vk then Qq (.done (qn (loL a b out ia ib),out,ia,ib,mg,k,l))
 else if (decide (k<7)&&decide (l<7))=vk then Qq (.done (O2,out,ia,ib,mg,k,l)) else Qq (.yield (O2,out,ia,ib,mg,k,l))
noncomputable def xL (a b:Pf Pc) (mg k l:Pa) (out:Pf Pc) (ia ib:Pa):SM (PI G7):=elem' a ia>>=λx=>loT4' a b mg k l (out.push x) (ia+1) ib
noncomputable def loT3' (a b:Pf Pc) (mg k l:Pa) (out:Pf Pc) (ia ib:Pa):SM (PI G7) :=
 if (ib==b.size)=vk then Qq (.done (qn (loD a b out ia ib),out,ia,ib,mg,k,l)) else xL a b mg k l out ia ib
noncomputable def DP (a b:Pf Pc) (mg k l:Pa) (out:Pf Pc) (ia ib:Pa):SM (PI G7) :=
 if l>0 then loT3' a b mg k l (out++b.extract ib (ib+l)) ia (ib+l) else xL a b mg k l out ia ib
noncomputable def IS (a b:Pf Pc) (mg k bc:Pa) (out:Pf Pc) (ia ib:Pa):O4 Pa->SM (PI G7)
 | some l=>DP a b mg k l out ia ib
 | _=>Qq (.done (qn (loD a b out ia ib),out,ia,ib,mg,k,bc))
noncomputable def loT2' (a b:Pf Pc) (mg k bc:Pa) (out:Pf Pc) (ia ib:Pa):SM (PI G7) :=
 if (ib==b.size)=vk then Qq (.done (qn (loD a b out ia ib),out,ia,ib,mg,k,bc)) else elem' a ia>>=λy=>gallop' vk y b ib (b.size-ib) 0>>=IS a b mg k bc out ia ib
noncomputable def sQ (a b:Pf Pc) (mg k bc:Pa) (out:Pf Pc) (ia ib:Pa):SM (PI G7):=elem' b ib>>=λx=>loT2' a b mg k bc (out.push x) ia (ib+1)
noncomputable def loT1' (a b:Pf Pc) (mg k bc:Pa) (out:Pf Pc) (ia ib:Pa):SM (PI G7) :=
 if (ia+1==a.size)=vk then Qq (.done (qn (loL a b out ia ib),out,ia,ib,mg,k,bc))
 else if (ia==a.size)=vk then Qq (.done (qn (loD a b out ia ib),out,ia,ib,mg,k,bc)) else sQ a b mg k bc out ia ib
noncomputable def Ie (a b:Pf Pc) (mg ac bc:Pa) (out:Pf Pc) (ia ib:Pa):O4 Pa->SM (PI G7)
 | some k=>if k>0 then loT1' a b mg k bc (out++a.extract ia (ia+k)) (ia+k) ib else sQ a b mg k bc out ia ib
 | _=>Qq (.done (qn (loD a b out ia ib),out,ia,ib,mg,ac,bc))
noncomputable def xk (a b:Pf Pc) (ac bc:Pa) (out:Pf Pc) (ia ib mg:Pa):SM (PI G7) :=
 setMin' mg>>=λ_=>elem' b ib>>=λx=>gallop' OZ x a ia (a.size-ia) 0>>=Ie a b mg ac bc out ia ib
noncomputable def loG (a b:Pf Pc) (c:G7):SM (PI G7) :=
 if c.2.2.2.2.1>1 then xk a b c.2.2.2.2.2.1 c.2.2.2.2.2.2 c.2.1 c.2.2.1 c.2.2.2.1 (c.2.2.2.2.1-1) else xk a b c.2.2.2.2.2.1 c.2.2.2.2.2.2 c.2.1 c.2.2.1 c.2.2.2.1 c.2.2.2.2.1
noncomputable def LK (c:G7):O4 (Pf Pc)->SM (PI G5)
 | some r=>Qq (.done (qn r,c.2.1,c.2.2.1,c.2.2.2.1,c.2.2.2.2.1))
 | none=>setMin' (c.2.2.2.2.1+1)>>=λ_=>Qq (.yield (O2,c.2.1,c.2.2.1,c.2.2.2.1,c.2.2.2.2.1+1))
noncomputable def Mc (a b:Pf Pc) (mg:Pa) (c:G6):O4 (Pf Pc)->SM (PI G5)
 | some r=>Qq (.done (qn r,c.2.1,c.2.2.1,c.2.2.2.1,mg))
 | none=>(ZQ (rule "list.sort.gallop"):SM UN)>>=λ_=>UY [:a.size+b.size] ((O2,c.2.1,c.2.2.1,c.2.2.2.1,mg+1,c.2.2.2.2.1,c.2.2.2.2.2):G7) (λ_ c=>loG a b c)>>=λd=>LK d d.1
noncomputable def loB (a b:Pf Pc) (c:G5):SM (PI G5) :=
 UY [:a.size+b.size] ((O2,c.2.1,c.2.2.1,c.2.2.2.1,0,0):G6) (λ_ d=>loW a b c.2.2.2.2 d)>>=λd=>Mc a b c.2.2.2.2 d d.1
noncomputable def loE (c:O4 (Pf Pc)):SM (Pf Pc):=match c with
 | some r=>Qq r
 | none=>ZQ (ZR "internal:list.sort.merge-bound" : Sem (Pf Pc))
noncomputable def C3:Px->Nat:=sortPriv% PySem.Builtin.SortState.minGallop
noncomputable def loM (a b:Pf Pc) (x:Pc):SM (Pf Pc) :=
 if (1==b.size)=vk then Qq (loD a b #[x] 0 1) else if (0+1==a.size)=vk then Qq (loL a b #[x] 0 1) else (get:SM Px)>>=λg=>UY [:a.size+b.size] ((O2,#[x],0,1,C3 g):G5) (λ_ c=>loB a b c)>>=λc=>loE c.1
noncomputable def GG (a b:Pf Pc):SM (Pf Pc):=(ZQ (rule "list.sort.merge-lo"):SM UN)>>=λ_=>elem' b 0>>=loM a b
theorem sV (a b:Pf Pc):mergeLo' a b=GG a b:=by kernel_rfl
section
theorem aH {σ α:Type}{c:Prop} [Wt c] {x y:TP σ Sem α}{Q:α->σ->Prop}{st:σ}(h1:c->wpS gM gA gE gs x Q st) (h2:¬ c->wpS gM gA gE gs y Q st):wpS gM gA gE gs (if c then x else y) Q st:=by
 by_cases h:c
 ·rw[O1 h]; exact h1 h
 ·rw[OY h]; exact h2 h
structure Two (gr:Pc->Pa) (go:Pc->Prop) (a b:Pf Pc):Prop where
 ha:1<=a.size
 hb:1<=b.size
 oa:∀ p∈a,go p
 ob:∀ p∈b,go p
 ua:Up gr a.toList
 ub:Up gr b.toList
 h0:∀ y∈a.toList,gr (b[0]'hb)<=gr y
 h1:∀ x∈b.toList,gr x<=gr (a[a.size-1]'(Uy ha))
structure LoS (gr:Pc->Pa) (a b:Pf Pc) (st:Px) (n:Pa) (out:Pf Pc) (ia ib:Pa) (st':Px):Prop where
 sm:Sm st st'
 mi:MI gr a.toList b.toList out.toList ia ib
 ga:ia+1<a.size
 gb:ib<b.size
 gn:n<=ia+ib
def LoR (gr:Pc->Pa) (a b:Pf Pc) (st:Px) (r:Pf Pc) (st':Px):Prop:=Sm st st'/\Mgd gr a.toList b.toList r
def Lo6 (gr:Pc->Pa) (a b:Pf Pc) (st:Px) (n:Pa) (c:G6) (st':Px):Prop:=c.1=O2/\LoS gr a b st n c.2.1 c.2.2.1 c.2.2.2.1 st'
def Lo7 (gr:Pc->Pa) (a b:Pf Pc) (st:Px) (n:Pa) (c:G7) (st':Px):Prop:=c.1=O2/\LoS gr a b st n c.2.1 c.2.2.1 c.2.2.2.1 st'
def En (I:Pa->O4 (Pf Pc)×α->Px->Prop) (n:Pa) (R:Pf Pc->Px->Prop) (c:O4 (Pf Pc)×α) (st':Px):Prop:=(∃ r,c.1=qn r/\R r st')\/I n c st'
def Po (I:Pa->O4 (Pf Pc)×α->Px->Prop) (n m:Pa) (R:Pf Pc->Px->Prop) (r:PI (O4 (Pf Pc)×α)) (st':Px):Prop:=match r with
 | .done c=>En I n R c st'
 | .yield c=>I m c st'
theorem LoS.less {a b out:Pf Pc}{st st':Px}{n m ia ib:Pa}(h:LoS gr a b st n out ia ib st') (hm:m<=n):LoS gr a b st m out ia ib st':=⟨h.sm,h.mi,h.ga,h.gb,If hm h.gn⟩
section
variable {a b:Pf Pc}{st st':Px}{out:Pf Pc}{ia ib n m x mg k l ac bc:Pa}
theorem kD (T:Two gr go a b) (sm:Sm st st') (mi:MI gr a.toList b.toList out.toList ia ib) (e:(ib==b.size)=vk):LoR gr a b st (loD a b out ia ib) st':=by
 have e:ib=b.toList.length:=by rw[Py]; exact Pv.mp e
 subst e
 have:=mi.doneB T.ua
 refine ⟨sm,?_⟩
 unfold Mgd loD
 rw[Qp,Qp,fb,fb,S7,SD]
 exact this
theorem BI (T:Two gr go a b) (sm:Sm st st') (mi:MI gr a.toList b.toList out.toList ia ib) (e:(ia==a.size)=vk):LoR gr a b st (loD a b out ia ib) st':=by
 have e:ia=a.toList.length:=by rw[Py]; exact Pv.mp e
 subst e
 have:=mi.doneA T.ub
 refine ⟨sm,?_⟩
 unfold Mgd loD
 rw[Qp,Qp,fb,fb,S7,SD]
 exact this
theorem kU (T:Two gr go a b) (sm:Sm st st') (mi:MI gr a.toList b.toList out.toList ia ib) (e:(ia+1==a.size)=vk):LoR gr a b st (loL a b out ia ib) st':=by
 have e:ia+1=a.toList.length:=by rw[Py]; exact Pv.mp e
 have h:a.toList.length=a.size:=Py ..
 have:=mi.last T.ua T.ub e (λx i y g=>by
  have j:a.toList.drop ia=[a[a.size-1]'(Uy T.ha)]:=by
   rw[Rw (IE e),Ux.mpr (GA e)]
   congr 1
   rw[Array.getElem_toList]; congr 1; exact Lg e h
  rw[j] at g
  rw[O7.mp g]
  exact T.h1 x i)
 refine ⟨sm,?_⟩
 unfold Mgd loL
 rw[Qp,Qp,fb,fb]
 exact this
theorem aT (h:¬ (x==y)=vk):x≠y:=λe=>h (Pv.mpr e)
theorem vM (T:Two gr go a b) (hn:x<=m) (sm:Sm st st') (mi:MI gr a.toList b.toList out.toList ia ib) (ga:ia+1<a.size) (gb:ib<=b.size) (gn:m<=ia+ib):wpS gM gA gE gs (Ap a b mg out ia ib bc) (Po (Lo6 gr a b st) x m (LoR gr a b st)) st' :=
 aH (λc=>Pr (.inl ⟨_,rfl,kD T sm mi c⟩)) λc=>by
  have S:LoS gr a b st m out ia ib st':=⟨sm,mi,ga,by have:=aT c; exact zl gb this,gn⟩
  exact aH (λ_=>Pr (.inr ⟨rfl,S.less hn⟩)) λ_=>Pr ⟨rfl,S⟩
theorem uO (T:Two gr go a b) (hn:x<=m) (sm:Sm st st') (mi:MI gr a.toList b.toList out.toList ia ib) (ga:ia<a.size) (gb:ib<b.size) (gn:m<=ia+ib):wpS gM gA gE gs (At a b mg out ia ib ac) (Po (Lo6 gr a b st) x m (LoR gr a b st)) st' :=
 aH (λc=>Pr (.inl ⟨_,rfl,kU T sm mi c⟩)) λc=>by
  have S:LoS gr a b st m out ia ib st':=⟨sm,mi,by have:=aT c; exact AE ga this,gb,gn⟩
  exact aH (λ_=>Pr (.inr ⟨rfl,S.less hn⟩)) λ_=>Pr ⟨rfl,S⟩
theorem CE (hlt:bE gM gA gE gs gr go gk) (T:Two gr go a b) (hk:kindOf st=gk) (hn:x<=n+1) (S:Lo6 gr a b st n c st'):wpS gM gA gE gs (loW a b mg c) (Po (Lo6 gr a b st) x (n+1) (LoR gr a b st)) st':=by
 obtain ⟨z,l,i,o,v,u⟩:=c
 obtain ⟨t,k,m,j,h,r⟩:=S
 dsimp only at t m j h r
 have g:i<a.size:=T0 j
 refine Pe (aN h (Pe (aN g (Pe (hlt (T.ob _ (Rj _)) (T.oa _ (Rj _)) (k.1.trans hk) ?_)))))
 show wpS gM gA gE gs (C9 a b mg l i o v u (decide (gr b[o]<gr a[i]))) _ st'
 refine aH (λw=>Pe (aN h ?_)) λw=>Pe (aN g ?_)
 ·replace w:=PS w
  refine vM T hn k ?_ j h (EJ r)
  rw[Su]
  exact m.pushB T.ub (by rw[Py]; exact h) (λy p=>If (PB w) (T.ua.le (by rw[Py]; exact g) y p))
 ·replace w:¬ gr b[o]<gr a[i]:=λq=>w (Qc q)
  refine uO T hn k ?_ j h (zK r)
  rw[Su]
  exact m.pushA T.ua (by rw[Py]; exact g) (λy p=>If (PP w) (T.ub.le (by rw[Py]; exact h) y p))
theorem pz (T:Two gr go a b) (hn:x<=n+1) (S:LoS gr a b st n out ia ib st') (kA:∀ y∈b.toList.drop ib,∀ h:ia<a.size,gr a[ia]<=gr y):wpS gM gA gE gs (xL a b mg k l out ia ib) (Po (Lo7 gr a b st) x (n+1) (LoR gr a b st)) st':=by
 obtain ⟨j,o,m,r,q⟩:=S
 have g:ia<a.size:=T0 m
 refine Pe (aN g ?_)
 have i:MI gr a.toList b.toList (out.push a[ia]).toList (ia+1) ib:=by
  rw[Su]
  exact o.pushA T.ua (by rw[Py]; exact g) λy p=>kA y p g
 refine aH (λc=>Pr (.inl ⟨_,rfl,kU T j i c⟩)) λc=>?_
 have S:LoS gr a b st (n+1) (out.push a[ia]) (ia+1) ib st':=⟨j,i,by have:=aT c; exact Fz m this,r,by exact zK q⟩
 exact aH (λ_=>Pr (.inr ⟨rfl,S.less hn⟩)) λ_=>Pr ⟨rfl,S⟩
theorem qf (hlt:bE gM gA gE gs gr go gk) (T:Two gr go a b) (hk:kindOf st=gk) (hn:x<=n+1) (S:LoS gr a b st n out ia ib st') (kB:∀ y∈a.toList.drop ia,∀ h:ib<b.size,gr b[ib]<=gr y):wpS gM gA gE gs (sQ a b mg k bc out ia ib) (Po (Lo7 gr a b st) x (n+1) (LoR gr a b st)) st':=by
 obtain ⟨r,mi,ga,t,gn⟩:=S
 have o:ia<a.size:=T0 ga
 refine Pe (aN t ?_)
 have g:MI gr a.toList b.toList (out.push b[ib]).toList ia (ib+1):=by
  rw[Su]
  exact mi.pushB T.ub (by rw[Py]; exact t) λy i=>kB y i t
 generalize out.push b[ib]=out2 at g ⊢
 refine aH (λc=>Pr (.inl ⟨_,rfl,kD T r g c⟩)) λc=>?_
 have m:ib+1<b.size:=by have:=aT c; exact AE t this
 clear c mi
 refine Pe (aN o (Pe (dX hlt (Gg m) (Jh m) T.ob (T.oa _ (Rj _)) (r.1.trans hk) T.ub λl l1 v l3=>?_)))
 simp only[Q4] at v l3
 have z:∀ y∈b.toList.drop (ib+1+l),∀ h:ia<a.size,gr a[ia]<=gr y:=λy i _=>drop_mem' (P:=λy=>gr a[ia]<=gr y) (λq p=>by
  have lb:b.toList.length=b.size:=Py ..
  have:=l3 (l+q) (GK p) uG (KZ p lb)
  simp only[<- QF] at this
  exact this) y i
 show wpS gM gA gE gs (DP a b mg k l out2 ia (ib+1)) _ st'
 refine aH (λu=>aH (λc=>Pr (.inl ⟨_,rfl,kD T r ?_ c⟩)) λc=>pz T hn ⟨r,?_,ga,by have:=aT c; exact IX l1 u this,by exact KY gn⟩ z) λu=>pz T hn ⟨r,g,ga,m,by exact IG gn⟩ ?_
 ·rw[Qp,b7,Qo]
  exact g.blockB T.ub l (hM λq p j y i=>If (PB (v q p j)) (T.ua.le (by rw[Py]; exact o) y i))
 ·rw[Qp,b7,Qo]
  exact g.blockB T.ub l (hM λq p j y i=>If (PB (v q p j)) (T.ua.le (by rw[Py]; exact o) y i))
 ·have e0:l=0:=SA u
  rw[e0,Wi] at z
  exact z
theorem qS (hlt:bE gM gA gE gs gr go gk) (T:Two gr go a b) (hk:kindOf st=gk) (hn:x<=n+1) (S:LoS gr a b st n out ia ib st'):wpS gM gA gE gs (xk a b ac bc out ia ib mg) (Po (Lo7 gr a b st) x (n+1) (LoR gr a b st)) st':=by
 obtain ⟨i,mi,v,m,gn⟩:=S
 refine Pe (gc λg o=>?_)
 replace i:=i.trans o
 refine Pe (aN m (Pe (dX hlt (E3 v) (FO v) T.oa (T.ob _ (Rj _)) (i.1.trans hk) T.ua λk k1 k2 k3=>?_)))
 simp only[PK,Ql] at k2 k3
 have p:∀ y∈a.toList.drop (ia+k),∀ h:ib<b.size,gr b[ib]<=gr y:=λy t _=>drop_mem' (P:=λy=>gr b[ib]<=gr y) (λq l=>by
  have la:a.toList.length=a.size:=Py ..
  have:=k3 (k+q) (Fb l) uG (Jt l la)
  simp only[<- QF] at this
  exact PB this) y t
 show wpS gM gA gE gs (if k>0 then loT1' a b mg k bc (out++a.extract ia (ia+k)) (ia+k) ib else sQ a b mg k bc out ia ib) _ g
 refine aH (λr=>?_) λr=>qf hlt T hk hn ⟨i,mi,v,m,gn⟩ ?_
 ·have j:MI gr a.toList b.toList (out++a.extract ia (ia+k)).toList (ia+k) ib:=by
   rw[Qp,b7,Qo]
   exact mi.blockA T.ua k (hM λq l u y t=>If (k2 q l u) (T.ub.le (by rw[Py]; exact m) y t))
  exact aH (λc=>Pr (.inl ⟨_,rfl,kU T i j c⟩)) λc=>aH (λz=>Pr (.inl ⟨_,rfl,BI T i j z⟩)) λz=>qf hlt T hk hn ⟨i,j,by have:=aT c; have:=aT z; exact GX k1 r ‹_› this,m,by exact H9 gn⟩ p
 ·have e0:k=0:=SA r
  rw[e0,Wi] at p
  exact p
theorem Cj (hlt:bE gM gA gE gs gr go gk) (T:Two gr go a b) (hk:kindOf st=gk) (hn:x<=n+1) (S:Lo7 gr a b st n c st'):wpS gM gA gE gs (loG a b c) (Po (Lo7 gr a b st) x (n+1) (LoR gr a b st)) st' :=
 aH (λ_=>qS hlt T hk hn S.2) λ_=>qS hlt T hk hn S.2
theorem eI {α:Type}{I:Pa->O4 (Pf Pc)×α->Px->Prop}{R:Pf Pc->Px->Prop}{t n z:Pa}{f:O4 (Pf Pc)×α->SM (PI (O4 (Pf Pc)×α))}{c:O4 (Pf Pc)×α}(h0:I n c st') (hend:∀ c st',¬ I (n+t) c st')
  (hs:∀ y c st',y<t->I (n+y) c st'->wpS gM gA gE gs (f c) (Po I z (n+y+1) R) st'):wpS gM gA gE gs (UY [:t] c λ_ c=>f c) (En I z R) st' :=
 Rh (λy c st'=>I (n+y) c st') (λy c st' _ g i=>RE (hs y c st' g i) λr st' h=>by cases r<;>exact h) (λc st' h=>Pq (by rwa [Nat.max_eq_right (Qn t)] at h) (hend c st')) h0
def Lo5 (gr:Pc->Pa) (a b:Pf Pc) (st:Px) (n:Pa) (c:G5) (st':Px):Prop:=c.1=O2/\LoS gr a b st n c.2.1 c.2.2.1 c.2.2.2.1 st'
theorem LoS.over (S:LoS gr a b st n out ia ib st') (h:a.size+b.size<=n+1):False:=by have:=S.ga; have:=S.gb; have:=S.gn; exact Lf h ‹_› ‹_› this
theorem BK (hlt:bE gM gA gE gs gr go gk) (T:Two gr go a b) (hk:kindOf st=gk) (z:Pa) (S:Lo5 gr a b st (n+1) c st'):wpS gM gA gE gs (loB a b c) (Po (Lo5 gr a b st) z (n+2) (LoR gr a b st)) st':=by
 refine Pe (RE (eI (I:=Lo6 gr a b st) (n:=n+1) (z:=n+2) (R:=LoR gr a b st) ⟨rfl,S.2⟩ (λc st' h=>h.2.over KD) λy c st' k h=>CE hlt T hk zC h) λd g h=>?_)
 rcases h with ⟨r,e,h⟩ | ⟨e,S⟩
 ·rw[e]; exact Pr (.inl ⟨r,rfl,h⟩)
 ·rw[e]
  refine Pe (d9 (Pe (RE (eI (I:=Lo7 gr a b st) (n:=n+2) (z:=n+2) (R:=LoR gr a b st) ⟨rfl,S⟩ (λc st' h=>h.2.over Kg) λy c st' k h=>Cj hlt T hk zT h) λd g h=>?_)))
  rcases h with ⟨r,e,h⟩ | ⟨e,S⟩
  ·rw[e]; exact Pr (.inl ⟨r,rfl,h⟩)
  ·rw[e]
   exact Pe (gc λi j=>Pr ⟨rfl,S.sm.trans j,S.mi,S.ga,S.gb,S.gn⟩)
end
theorem rL (hlt:bE gM gA gE gs gr go gk) {a b:Pf Pc}{st:Px}{Q:Pf Pc->Px->Prop}(ha:1<=a.size) (hb:1<=b.size) (oa:∀ p∈a,go p) (ob:∀ p∈b,go p) (hk:kindOf st=gk) (ua:Up gr a.toList) (ub:Up gr b.toList)
  (h0:∀ y∈a.toList,gr (b[0]'hb)<=gr y) (h1:∀ x∈b.toList,gr x<=gr (a[a.size-1]'(by exact sJ ha))) (h:∀ r st',Sm st st'->Mgd gr a.toList b.toList r->Q r st'):wpS gM gA gE gs (mergeLo' a b) Q st:=by
 have T:Two gr go a b:=⟨ha,hb,oa,ob,ua,ub,h0,h1⟩
 rw[sV]
 refine Pe (d9 (Pe (aN hb ?_)))
 have j:MI gr a.toList b.toList (#[b[0]'hb]:Pf Pc).toList 0 1:=by
  have l:MI gr a.toList b.toList [] 0 0:=⟨.nil,.nil,λ_ h=>(nomatch h),λ_ h=>(nomatch h)⟩
  exact l.pushB ub (by rw[Py]; exact hb) (by rw[Tm]; exact h0)
 have g:∀ r st',LoR gr a b st r st'->Q r st':=λr st' q=>h r st' q.1 q.2
 refine aH (λc=>Pr (g _ _ (kD T (.refl st) j c))) λc=>aH (λk=>Pr (g _ _ (kU T (.refl st) j k))) λk=>?_
 refine Pe (Tn (Pe (RE (eI (I:=Lo5 gr a b st) (n:=1) (z:=a.size+b.size+1) (R:=LoR gr a b st) ⟨rfl,.refl st,j,by have:=aT k; lia,by have:=aT c; lia,PH _⟩ (λc st' h=>h.2.over Lq) λy c st' m h=>?_) λd i h=>?_)))
 ·rw[SY 1 y] at h ⊢
  exact BK hlt T hk _ h
 ·rcases h with ⟨r,e,h⟩ | ⟨e,S⟩
  ·rw[e]; exact Pr (g _ _ h)
  ·exact (S.over FQ).elim
end
noncomputable def mergeHi':Pf Pc->Pf Pc->TP Px Sem (Pf Pc):=sortPriv% PySem.Builtin.mergeHi
theorem Up.ge {gr:Pc->Pa}(h:Up gr l) (hi:i<l.length):∀ y∈l.take (i+1),gr y<=gr l[i]:=by
 intro y hy
 rw[T3 hi] at hy
 rcases Pu.mp hy with hy | hy
 ·have:=Qx.mp (show (l.take i++l.drop i).Pairwise _ by rw[QY]; exact h)
  exact this.2.2 y hy l[i] (by rw[Rw hi]; exact .head _)
 ·rw[O7.mp hy]; exact PH _
structure MH (gr:Pc->Pa) (a b o:rg Pc) (i j:Pa):Prop where
 perm:o.Perm (a.drop i++b.drop j)
 sorted:Up gr o.reverse
 la:∀ x∈a.take i,∀ y∈o,gr x<=gr y
 lb:∀ x∈b.take j,∀ y∈o,gr x<=gr y
section
theorem MH.swap (h:MH gr a b o i j):MH gr b a o j i:=⟨h.perm.trans Sp,h.sorted,h.lb,h.la⟩
theorem qp {α:Type}{l:rg α}{c i:Pa}(hc:c<=i):l.take i=l.take c++(l.drop c).take (i-c):=by
 have:=take_add' l c (i-c)
 rwa [show c+(i-c)=i by exact k9 hc] at this
theorem xp {α:Type}{l:rg α}{c i:Pa}(hc:c<=i):l.drop c=(l.drop c).take (i-c)++l.drop i:=by
 have:=(QY (i-c) (l.drop c)).symm
 rwa [Wv,show c+(i-c)=i by exact k9 hc] at this
theorem MH.blockA (h:MH gr a b o i j) (ua:Up gr a) (c:Pa) (hc:c<=i) (hlt:∀ x∈(a.drop c).take (i-c),∀ y∈b.take j,gr y<=gr x):MH gr a b (o++((a.drop c).take (i-c)).reverse) c j where
 perm:=by
  have e:a.drop c++b.drop j=(a.drop c).take (i-c)++(a.drop i++b.drop j):=by
   rw[<- QX]
   exact R2 (· ++ b.drop j) (xp hc)
  rw[e]
  exact (h.perm.append (Xl _)).trans Sp
 sorted:=by
  rw[UI,Uz]
  refine Qx.mpr ⟨(ua.sublist (T4 c a)).sublist (Xk ..),h.sorted,λx hx y hy=>h.la x ?_ y (VE.mp hy)⟩
  rw[qp hc]; exact P5 _ hx
 la:=λx hx y hy=>(Pu.mp hy).elim (λq=>h.la x (by rw[qp hc]; exact PX _ hx) y q) λq=>by
  have:=Qx.mp (show (a.take c++a.drop c).Pairwise _ by rw[QY]; exact ua)
  exact this.2.2 x hx y (Rk (VE.mp q))
 lb:=λx hx y hy=>(Pu.mp hy).elim (λq=>h.lb x hx y q) λq=>hlt y (VE.mp q) x hx
theorem MH.blockB (h:MH gr a b o i j) (ub:Up gr b) (c:Pa) (hc:c<=j) (hlt:∀ x∈(b.drop c).take (j-c),∀ y∈a.take i,gr y<=gr x):MH gr a b (o++((b.drop c).take (j-c)).reverse) i c:=(h.swap.blockA ub c hc hlt).swap
theorem MH.pushA (h:MH gr a b o (i+1) j) (ua:Up gr a) (hi:i<a.length) (hlt:∀ y∈b.take j,gr y<=gr a[i]):MH gr a b (o++[a[i]]) i j:=by
 have:=h.blockA ua i E9 (by rw[show i+1-i=1 by exact AC,gJ hi]; intro x g; rw[O7.mp g]; exact hlt)
 rwa [show i+1-i=1 by exact AC,gJ hi] at this
theorem MH.pushA' (h:MH gr a b o i j) (ua:Up gr a) (h0:0<i) (hi:i-1<a.length) (hlt:∀ y∈b.take j,gr y<=gr a[i-1]):MH gr a b (o++[a[i-1]]) (i-1) j :=
 MH.pushA (by rw[S4 h0]; exact h) ua hi hlt
theorem MH.pushB' (h:MH gr a b o i j) (ub:Up gr b) (h0:0<j) (hj:j-1<b.length) (hlt:∀ y∈a.take i,gr y<=gr b[j-1]):MH gr a b (o++[b[j-1]]) i (j-1):=(h.swap.pushA' ub h0 hj hlt).swap
theorem MH.doneA (h:MH gr a b o 0 j) (ub:Up gr b):(b.take j++o.reverse).Perm (a++b)/\Up gr (b.take j++o.reverse):=by
 have:=h.blockB ub 0 (Qn _) (λx _ y g=>by rw[Wp] at g; cases g)
 rw[Tm,Xm] at this
 have e:(o++(b.take j).reverse).reverse=b.take j++o.reverse:=by rw[UI,Uz]
 rw[<- e]
 exact ⟨(Xl _).trans (by have:=this.perm; rwa [Tm] at this),this.sorted⟩
theorem MH.doneB (h:MH gr a b o i 0) (ua:Up gr a):(a.take i++o.reverse).Perm (a++b)/\Up gr (a.take i++o.reverse):=by
 obtain ⟨j,g⟩:=h.swap.doneA ua
 exact ⟨j.trans Sp,g⟩
theorem MH.first (h:MH gr a b o i 1) (ua:Up gr a) (ub:Up gr b) (ht:∀ x∈b.take 1,∀ y∈a,gr x<=gr y):(b.take 1++a.take i++o.reverse).Perm (a++b)/\Up gr (b.take 1++a.take i++o.reverse):=by
 have:=h.blockA ua 0 (Qn _) (λx j y g=>ht y g x (Rk j))
 rw[Tm,Xm] at this
 have:=this.doneA ub
 rwa [UI,Uz,<- QX] at this
end
section
theorem ed (a:Pf Pc) (i:Pa):(a.extract 0 i).toList=a.toList.take i:=by rw[b7,Tm,Xm]
theorem qe {l:rg Pc}{n:Pa}{P:Pc->Prop}(h:∀ q (hq:q<l.length),q<n->P l[q]):∀ x∈l.take n,P x:=by
 intro x g
 obtain ⟨q,hq,rfl⟩:=S8 g
 rw[Sr] at hq
 rw[UP]
 exact h q (E8 hq) (HW hq)
abbrev H5:Type:=O4 (Pf Pc)×Pa×Pa×Pf Pc×Pa
abbrev H6:Type:=O4 (Pf Pc)×Pa×Pa×Pf Pc×Pa×Pa
abbrev H7:Type:=O4 (Pf Pc)×Pa×Pa×Pf Pc×Pa×Pa×Pa
noncomputable def hiD (a b out:Pf Pc) (na nb:Pa):Pf Keyed:=a.extract 0 na++b.extract 0 nb++out.reverse
noncomputable def hiF (a b out:Pf Pc) (na nb:Pa):Pf Keyed:=b.extract 0 nb++a.extract 0 na++out.reverse
noncomputable def AX (a b:Pf Pc) (mg na nb:Pa) (out:Pf Pc) (ac:Pa):SM (PI H6) :=
 if (na==0)=vk then Qq (.done (qn (hiD a b out na nb),na,nb,out,ac,0)) else if ac≥mg then Qq (.done (O2,na,nb,out,ac,0)) else Qq (.yield (O2,na,nb,out,ac,0))
noncomputable def zq (a b:Pf Pc) (mg na nb:Pa) (out:Pf Pc) (bc:Pa):SM (PI H6) :=
 if (nb==1)=vk then Qq (.done (qn (hiF a b out na nb),na,nb,out,0,bc)) else if bc≥mg then Qq (.done (O2,na,nb,out,0,bc)) else Qq (.yield (O2,na,nb,out,0,bc))
noncomputable def DC (a b:Pf Pc) (mg na nb:Pa) (out:Pf Pc) (ac bc:Pa) (w:PV):SM (PI H6) :=
 if w=vk then elem' a (na-1)>>=λx=>AX a b mg (na-1) nb (out.push x) (ac+1) else elem' b (nb-1)>>=λx=>zq a b mg na (nb-1) (out.push x) (bc+1)
noncomputable def M1 (a b:Pf Pc) (mg na nb:Pa) (out:Pf Pc) (ac bc:Pa):O4 PV->SM (PI H6)
 | some w=>DC a b mg na nb out ac bc w
 | _=>Qq (.done (qn (hiD a b out na nb),na,nb,out,ac,bc))
noncomputable def hiW (a b:Pf Pc) (mg:Pa) (c:H6):SM (PI H6) :=
 elem' b (c.2.2.1-1)>>=λp=>elem' a (c.2.1-1)>>=λq=>lt' p q>>=M1 a b mg c.2.1 c.2.2.1 c.2.2.2.1 c.2.2.2.2.1 c.2.2.2.2.2
noncomputable def hiT4' (a b:Pf Pc) (mg k l na nb:Pa) (out:Pf Pc):SM (PI H7) :=
 if (na==0)=vk then Qq (.done (qn (hiD a b out na nb),na,nb,out,mg,k,l))
 else if (decide (k<7)&&decide (l<7))=vk then Qq (.done (O2,na,nb,out,mg,k,l)) else Qq (.yield (O2,na,nb,out,mg,k,l))
noncomputable def tZ (a b:Pf Pc) (mg k l na nb:Pa) (out:Pf Pc):SM (PI H7):=elem' a (na-1)>>=λx=>hiT4' a b mg k l (na-1) nb (out.push x)
noncomputable def hiT3' (a b:Pf Pc) (mg k l na nb:Pa) (out:Pf Pc):SM (PI H7) :=
 if (nb==1)=vk then Qq (.done (qn (hiF a b out na nb),na,nb,out,mg,k,l)) else if (nb==0)=vk then Qq (.done (qn (hiD a b out na nb),na,nb,out,mg,k,l)) else tZ a b mg k l na nb out
noncomputable def Jj (a b:Pf Pc) (mg k bc na nb:Pa) (out:Pf Pc):O4 Pa->SM (PI H7)
 | some l=>if nb-l>0 then hiT3' a b mg k (nb-l) na l (out++(b.extract l nb).reverse) else tZ a b mg k (nb-l) na nb out
 | _=>Qq (.done (qn (hiD a b out na nb),na,nb,out,mg,k,bc))
noncomputable def hiT2' (a b:Pf Pc) (mg k bc na nb:Pa) (out:Pf Pc):SM (PI H7) :=
 if (nb==1)=vk then Qq (.done (qn (hiF a b out na nb),na,nb,out,mg,k,bc)) else elem' a (na-1)>>=λy=>gallop' vk y b 0 nb (nb-1)>>=Jj a b mg k bc na nb out
noncomputable def sT (a b:Pf Pc) (mg k bc na nb:Pa) (out:Pf Pc):SM (PI H7):=elem' b (nb-1)>>=λx=>hiT2' a b mg k bc na (nb-1) (out.push x)
noncomputable def hiT1' (a b:Pf Pc) (mg k bc na nb:Pa) (out:Pf Pc):SM (PI H7) :=
 if (na==0)=vk then Qq (.done (qn (hiD a b out na nb),na,nb,out,mg,k,bc)) else sT a b mg k bc na nb out
noncomputable def IP (a b:Pf Pc) (mg ac bc na nb:Pa) (out:Pf Pc):O4 Pa->SM (PI H7)
 | some k=>if na-k>0 then hiT1' a b mg (na-k) bc k nb (out++(a.extract k na).reverse) else sT a b mg (na-k) bc na nb out
 | _=>Qq (.done (qn (hiD a b out na nb),na,nb,out,mg,ac,bc))
noncomputable def wZ (a b:Pf Pc) (ac bc na nb:Pa) (out:Pf Pc) (mg:Pa):SM (PI H7) :=
 setMin' mg>>=λ_=>elem' b (nb-1)>>=λx=>gallop' OZ x a 0 na (na-1)>>=IP a b mg ac bc na nb out
noncomputable def hiG (a b:Pf Pc) (c:H7):SM (PI H7) :=
 if c.2.2.2.2.1>1 then wZ a b c.2.2.2.2.2.1 c.2.2.2.2.2.2 c.2.1 c.2.2.1 c.2.2.2.1 (c.2.2.2.2.1-1) else wZ a b c.2.2.2.2.2.1 c.2.2.2.2.2.2 c.2.1 c.2.2.1 c.2.2.2.1 c.2.2.2.2.1
noncomputable def Md (c:H7):O4 (Pf Pc)->SM (PI H5)
 | some r=>Qq (.done (qn r,c.2.1,c.2.2.1,c.2.2.2.1,c.2.2.2.2.1))
 | none=>setMin' (c.2.2.2.2.1+1)>>=λ_=>Qq (.yield (O2,c.2.1,c.2.2.1,c.2.2.2.1,c.2.2.2.2.1+1))
noncomputable def MJ (a b:Pf Pc) (mg:Pa) (c:H6):O4 (Pf Pc)->SM (PI H5)
 | some r=>Qq (.done (qn r,c.2.1,c.2.2.1,c.2.2.2.1,mg))
 | none=>(ZQ (rule "list.sort.gallop"):SM UN)>>=λ_=>UY [:a.size+b.size] ((O2,c.2.1,c.2.2.1,c.2.2.2.1,mg+1,c.2.2.2.2.1,c.2.2.2.2.2):H7) (λ_ c=>hiG a b c)>>=λd=>Md d d.1
noncomputable def hiB (a b:Pf Pc) (c:H5):SM (PI H5) :=
 UY [:a.size+b.size] ((O2,c.2.1,c.2.2.1,c.2.2.2.1,0,0):H6) (λ_ d=>hiW a b c.2.2.2.2 d)>>=λd=>MJ a b c.2.2.2.2 d d.1
noncomputable def hiM (a b:Pf Pc) (x:Pc):SM (Pf Pc) :=
 if (a.size-1==0)=vk then Qq (hiD a b #[x] (a.size-1) b.size) else if (b.size==1)=vk then Qq (hiF a b #[x] (a.size-1) b.size) else (get:SM Px)>>=λg=>UY [:a.size+b.size] ((O2,a.size-1,b.size,#[x],C3 g):H5) (λ_ c=>hiB a b c)>>=λc=>loE c.1
noncomputable def HX (a b:Pf Pc):SM (Pf Pc):=(ZQ (rule "list.sort.merge-hi"):SM UN)>>=λ_=>elem' a (a.size-1)>>=hiM a b
theorem sS (a b:Pf Pc):mergeHi' a b=HX a b:=by kernel_rfl
structure HiS (gr:Pc->Pa) (a b:Pf Pc) (st:Px) (n na nb:Pa) (out:Pf Pc) (st':Px):Prop where
 sm:Sm st st'
 mi:MH gr a.toList b.toList out.toList na nb
 ga:0<na
 ga':na<=a.size
 gb:1<nb
 gb':nb<=b.size
 gn:n+na+nb<=a.size+b.size
def Hi5 (gr:Pc->Pa) (a b:Pf Pc) (st:Px) (n:Pa) (c:H5) (st':Px):Prop:=c.1=O2/\HiS gr a b st n c.2.1 c.2.2.1 c.2.2.2.1 st'
def Hi6 (gr:Pc->Pa) (a b:Pf Pc) (st:Px) (n:Pa) (c:H6) (st':Px):Prop:=c.1=O2/\HiS gr a b st n c.2.1 c.2.2.1 c.2.2.2.1 st'
def Hi7 (gr:Pc->Pa) (a b:Pf Pc) (st:Px) (n:Pa) (c:H7) (st':Px):Prop:=c.1=O2/\HiS gr a b st n c.2.1 c.2.2.1 c.2.2.2.1 st'
section
variable {a b:Pf Pc}{st st':Px}{out:Pf Pc}{na nb n m x mg k l ac bc:Pa}
theorem HiS.less (h:HiS gr a b st n na nb out st') (hm:m<=n):HiS gr a b st m na nb out st':=⟨h.sm,h.mi,h.ga,h.ga',h.gb,h.gb',by have:=h.gn; exact KR hm this⟩
theorem HiS.over (S:HiS gr a b st n na nb out st') (h:a.size+b.size<=n):False:=by have:=S.ga; have:=S.gb; have:=S.gn; exact EI h ‹_› this
theorem kZ (T:Two gr go a b) (sm:Sm st st') (m:MH gr a.toList b.toList out.toList na nb) (e:(na==0)=vk):LoR gr a b st (hiD a b out na nb) st':=by
 cases Pv.mp e
 have:=m.doneA T.ub
 refine ⟨sm,?_⟩
 unfold Mgd hiD
 rw[Qp,Qp,ed,ed,Wp,WP,T5]
 exact this
theorem BJ (T:Two gr go a b) (sm:Sm st st') (m:MH gr a.toList b.toList out.toList na nb) (e:(nb==0)=vk):LoR gr a b st (hiD a b out na nb) st':=by
 cases Pv.mp e
 have:=m.doneB T.ua
 refine ⟨sm,?_⟩
 unfold Mgd hiD
 rw[Qp,Qp,ed,ed,Wp,SD,T5]
 exact this
theorem kK (T:Two gr go a b) (sm:Sm st st') (m:MH gr a.toList b.toList out.toList na nb) (e:(nb==1)=vk):LoR gr a b st (hiF a b out na nb) st':=by
 cases Pv.mp e
 have:=m.first T.ua T.ub (λx g y h=>by
  have j:b.toList.take 1=[b[0]'T.hb]:=by
   have:=gJ (l:=b.toList) (i:=0) (by rw[Py]; exact T.hb)
   rw[Tm] at this
   rw[this]; rfl
  rw[j] at g
  rw[O7.mp g]
  exact T.h0 y h)
 refine ⟨sm,?_⟩
 unfold Mgd hiF
 rw[Qp,Qp,ed,ed,T5]
 exact this
theorem kN {c:Pf Pc}(u:Up gr c.toList) {i:Pa}(h0:0<i) (hi:i-1<c.size):∀ y∈c.toList.take i,gr y<=gr c[i-1]:=λy g=>u.ge (i:=i-1) (by rw[Py]; exact hi) y (by rwa [S4 h0])
theorem uJ (T:Two gr go a b) (hn:x<=m) (sm:Sm st st') (mi:MH gr a.toList b.toList out.toList na nb) (ga':na<=a.size) (gb:1<nb) (gb':nb<=b.size) (gn:m+na+nb<=a.size+b.size):wpS gM gA gE gs (AX a b mg na nb out ac) (Po (Hi6 gr a b st) x m (LoR gr a b st)) st' :=
 aH (λc=>Pr (.inl ⟨_,rfl,kZ T sm mi c⟩)) λc=>by
  have S:HiS gr a b st m na nb out st':=⟨sm,mi,by have:=aT c; exact tG this,ga',gb,gb',gn⟩
  exact aH (λ_=>Pr (.inr ⟨rfl,S.less hn⟩)) λ_=>Pr ⟨rfl,S⟩
theorem v0 (T:Two gr go a b) (hn:x<=m) (sm:Sm st st') (mi:MH gr a.toList b.toList out.toList na nb) (ga:0<na) (ga':na<=a.size) (gb:0<nb) (gb':nb<=b.size) (gn:m+na+nb<=a.size+b.size):wpS gM gA gE gs (zq a b mg na nb out bc) (Po (Hi6 gr a b st) x m (LoR gr a b st)) st' :=
 aH (λc=>Pr (.inl ⟨_,rfl,kK T sm mi c⟩)) λc=>by
  have S:HiS gr a b st m na nb out st':=⟨sm,mi,ga,ga',by have:=aT c; exact J2 gb this,gb',gn⟩
  exact aH (λ_=>Pr (.inr ⟨rfl,S.less hn⟩)) λ_=>Pr ⟨rfl,S⟩
theorem Bm (hlt:bE gM gA gE gs gr go gk) (T:Two gr go a b) (hk:kindOf st=gk) (hn:x<=n+1) (S:Hi6 gr a b st n c st'):wpS gM gA gE gs (hiW a b mg c) (Po (Hi6 gr a b st) x (n+1) (LoR gr a b st)) st':=by
 obtain ⟨c0,m,l,p,ac,z⟩:=c
 obtain ⟨v,o,r,j,i,h,g,u⟩:=S
 dsimp only at v r j i h g u
 have k:m-1<a.size:=by exact sK j i
 have pb:l-1<b.size:=by exact tA h g
 refine Pe (aN pb (Pe (aN k (Pe (hlt (T.ob _ (Rj _)) (T.oa _ (Rj _)) (o.1.trans hk) ?_)))))
 show wpS gM gA gE gs (DC a b mg m l p ac z (decide (gr b[l-1]<gr a[m-1]))) _ st'
 refine aH (λw=>Pe (aN k ?_)) λw=>Pe (aN pb ?_)
 ·replace w:=PS w
  refine uJ T hn o ?_ (pd k) h g (A5 j u)
  rw[Su]
  exact r.pushA' T.ua j (by rw[Py]; exact k) (λy t=>If (kN T.ub (o0 h) pb y t) (PB w))
 ·replace w:¬ gr b[l-1]<gr a[m-1]:=λq=>w (Qc q)
  refine v0 T hn o ?_ j i (EX h) (pd pb) (FX h u)
  rw[Su]
  exact r.pushB' T.ub (o0 h) (by rw[Py]; exact pb) (λy t=>If (kN T.ua j k y t) (PP w))
theorem qx (T:Two gr go a b) (hn:x<=n+1) (S:HiS gr a b st n na nb out st') (kA:∀ y∈b.toList.take nb,∀ h:na-1<a.size,gr y<=gr a[na-1]):wpS gM gA gE gs (tZ a b mg k l na nb out) (Po (Hi7 gr a b st) x (n+1) (LoR gr a b st)) st':=by
 obtain ⟨p,q,o,m,u,j,t⟩:=S
 have i:na-1<a.size:=by exact sK o m
 refine Pe (aN i ?_)
 have g:MH gr a.toList b.toList (out.push a[na-1]).toList (na-1) nb:=by
  rw[Su]
  exact q.pushA' T.ua o (by rw[Py]; exact i) λy r=>kA y r i
 refine aH (λc=>Pr (.inl ⟨_,rfl,kZ T p g c⟩)) λc=>?_
 have S:HiS gr a b st (n+1) (na-1) nb (out.push a[na-1]) st':=⟨p,g,by have:=aT c; exact Gy this,by exact pd i,u,j,by exact A5 o t⟩
 exact aH (λ_=>Pr (.inr ⟨rfl,S.less hn⟩)) λ_=>Pr ⟨rfl,S⟩
theorem qC (hlt:bE gM gA gE gs gr go gk) (T:Two gr go a b) (hk:kindOf st=gk) (hn:x<=n+1) (S:HiS gr a b st n na nb out st') (kB:∀ y∈a.toList.take na,∀ h:nb-1<b.size,gr y<=gr b[nb-1]):wpS gM gA gE gs (sT a b mg k bc na nb out) (Po (Hi7 gr a b st) x (n+1) (LoR gr a b st)) st':=by
 obtain ⟨o,mi,t,m,gb,gb',gn⟩:=S
 have pa:na-1<a.size:=by exact sK t m
 have pb:nb-1<b.size:=by exact tA gb gb'
 refine Pe (aN pb ?_)
 have g:MH gr a.toList b.toList (out.push b[nb-1]).toList na (nb-1):=by
  rw[Su]
  exact mi.pushB' T.ub (o0 gb) (by rw[Py]; exact pb) λy p=>kB y p pb
 generalize out.push b[nb-1]=out2 at g ⊢
 refine aH (λc=>Pr (.inl ⟨_,rfl,kK T o g c⟩)) λc=>?_
 have r:1<nb-1:=by have:=aT c; exact Fu gb this
 clear c mi kB
 refine Pe (aN pa (Pe (dX hlt (JR pb) (H8 r) T.ob (T.oa _ (Rj _)) (o.1.trans hk) T.ub λl v l2 l3=>?_)))
 simp only[Q4,QK] at l2 l3
 have z:∀ y∈b.toList.take l,∀ h:na-1<a.size,gr y<=gr a[na-1]:=λy p _=>qe (P:=λy=>gr y<=gr a[na-1]) (λq hq j=>PB (l2 q hq j)) y p
 show wpS gM gA gE gs (if nb-1-l>0 then hiT3' a b mg k (nb-1-l) na l (out2++(b.extract l (nb-1)).reverse) else tZ a b mg k (nb-1-l) na (nb-1) out2) _ st'
 refine aH (λu=>?_) λu=>qx T hn ⟨o,g,t,m,r,by exact pd pb,by exact Eu gn⟩ ?_
 ·have i:MH gr a.toList b.toList (out2++(b.extract l (nb-1)).reverse).toList na l:=by
   rw[Qp,T5,b7]
   exact g.blockB T.ub l v (hM λq hq j y p=>If (kN T.ua t pa y p) (l3 (l+q) hq (PD l q) (GU j)))
  exact aH (λc=>Pr (.inl ⟨_,rfl,kK T o i c⟩)) λc=>aH (λc'=>Pr (.inl ⟨_,rfl,BJ T o i c'⟩)) λc'=>qx T hn ⟨o,i,t,m,by have:=aT c; have:=aT c'; exact Kl ‹_› this,by exact FU pb v,by exact Le gn u⟩ z
 ·have e0:l=nb-1:=by exact Ev v u
  rw[e0] at z
  exact z
theorem qV (hlt:bE gM gA gE gs gr go gk) (T:Two gr go a b) (hk:kindOf st=gk) (hn:x<=n+1) (S:HiS gr a b st n na nb out st'):wpS gM gA gE gs (wZ a b ac bc na nb out mg) (Po (Hi7 gr a b st) x (n+1) (LoR gr a b st)) st':=by
 obtain ⟨m,mi,ga,l,r,j,gn⟩:=S
 have pb:nb-1<b.size:=by exact tA r j
 refine Pe (gc λg t=>?_)
 replace m:=m.trans t
 refine Pe (aN pb (Pe (dX hlt (Kj l) (AV ga) T.oa (T.ob _ (Rj _)) (m.1.trans hk) T.ua λk p k2 k3=>?_)))
 simp only[PK,Ql,QK] at k2 k3
 have u:∀ y∈a.toList.take k,∀ h:nb-1<b.size,gr y<=gr b[nb-1]:=λy v _=>qe (P:=λy=>gr y<=gr b[nb-1]) (λq z i=>k2 q z i) y v
 show wpS gM gA gE gs (if na-k>0 then hiT1' a b mg (na-k) bc k nb (out++(a.extract k na).reverse) else sT a b mg (na-k) bc na nb out) _ g
 refine aH (λk0=>?_) λk0=>qC hlt T hk hn ⟨m,mi,ga,l,r,j,gn⟩ ?_
 ·have o:MH gr a.toList b.toList (out++(a.extract k na).reverse).toList k nb:=by
   rw[Qp,T5,b7]
   exact mi.blockA T.ua k p (hM λq z i y v=>If (kN T.ub (o0 r) pb y v) (PB (k3 (k+q) z (PD k q) (ph i))))
  exact aH (λc=>Pr (.inl ⟨_,rfl,kZ T m o c⟩)) λc=>qC hlt T hk hn ⟨m,o,by have:=aT c; exact tG this,by exact IC l p,r,j,by exact Fm gn p⟩ u
 ·have e0:k=na:=by exact FM p k0
  rw[e0] at u
  exact u
theorem BV (hlt:bE gM gA gE gs gr go gk) (T:Two gr go a b) (hk:kindOf st=gk) (hn:x<=n+1) (S:Hi7 gr a b st n c st'):wpS gM gA gE gs (hiG a b c) (Po (Hi7 gr a b st) x (n+1) (LoR gr a b st)) st' :=
 aH (λ_=>qV hlt T hk hn S.2) λ_=>qV hlt T hk hn S.2
theorem By (hlt:bE gM gA gE gs gr go gk) (T:Two gr go a b) (hk:kindOf st=gk) (z:Pa) (S:Hi5 gr a b st (n+1) c st'):wpS gM gA gE gs (hiB a b c) (Po (Hi5 gr a b st) z (n+2) (LoR gr a b st)) st':=by
 refine Pe (RE (eI (I:=Hi6 gr a b st) (n:=n+1) (z:=n+2) (R:=LoR gr a b st) ⟨rfl,S.2⟩ (λc st' h=>h.2.over Lo) λy c st' k h=>Bm hlt T hk zC h) λd g h=>?_)
 rcases h with ⟨r,e,h⟩ | ⟨e,S⟩
 ·rw[e]; exact Pr (.inl ⟨r,rfl,h⟩)
 ·rw[e]
  refine Pe (d9 (Pe (RE (eI (I:=Hi7 gr a b st) (n:=n+2) (z:=n+2) (R:=LoR gr a b st) ⟨rfl,S⟩ (λc st' h=>h.2.over K1) λy c st' k h=>BV hlt T hk zT h) λd g h=>?_)))
  rcases h with ⟨r,e,h⟩ | ⟨e,S⟩
  ·rw[e]; exact Pr (.inl ⟨r,rfl,h⟩)
  ·rw[e]
   exact Pe (gc λi j=>Pr ⟨rfl,S.sm.trans j,S.mi,S.ga,S.ga',S.gb,S.gb',S.gn⟩)
end
theorem rG (hlt:bE gM gA gE gs gr go gk) {a b:Pf Pc}{st:Px}{Q:Pf Pc->Px->Prop}(ha:1<=a.size) (hb:1<=b.size) (oa:∀ p∈a,go p) (ob:∀ p∈b,go p) (hk:kindOf st=gk) (ua:Up gr a.toList) (ub:Up gr b.toList)
  (h0:∀ y∈a.toList,gr (b[0]'hb)<=gr y) (h1:∀ x∈b.toList,gr x<=gr (a[a.size-1]'(by exact sJ ha))) (h:∀ r st',Sm st st'->Mgd gr a.toList b.toList r->Q r st'):wpS gM gA gE gs (mergeHi' a b) Q st:=by
 have T:Two gr go a b:=⟨ha,hb,oa,ob,ua,ub,h0,h1⟩
 rw[sS]
 have i:a.size-1<a.size:=Uy ha
 refine Pe (d9 (Pe (aN i ?_)))
 have k:MH gr a.toList b.toList (#[a[a.size-1]]:Pf Pc).toList (a.size-1) b.size:=by
  have o:MH gr a.toList b.toList [] a.size b.size:=⟨by rw[<- Py,<- Py,S7,S7]; exact .nil,.nil,λ_ _ _ h=>(nomatch h),λ_ _ _ h=>(nomatch h)⟩
  exact o.pushA' ua ha (by rw[Py]; exact i) (λy m=>h1 y (Rk m))
 have g:∀ r st',LoR gr a b st r st'->Q r st':=λr st' q=>h r st' q.1 q.2
 refine aH (λc=>Pr (g _ _ (kZ T (.refl st) k c))) λc=>aH (λl=>Pr (g _ _ (kK T (.refl st) k l))) λl=>?_
 refine Pe (Tn (Pe (RE (eI (I:=Hi5 gr a b st) (n:=1) (z:=a.size+b.size+1) (R:=LoR gr a b st) ⟨rfl,.refl st,k,by have:=aT c; lia,by lia,by have:=aT l; lia,PH _,by lia⟩ (λc st' h=>h.2.over KQ) λy c st' m h=>?_) λd j h=>?_)))
 ·rw[SY 1 y] at h ⊢
  exact By hlt T hk _ h
 ·rcases h with ⟨r,e,h⟩ | ⟨e,S⟩
  ·rw[e]; exact Pr (g _ _ h)
  ·exact (S.over G0).elim
end
section
structure Wn (lo hi:Pa) (st st':Px):Prop where
 kind:kindOf st' = kindOf st
 pend:PY st' = PY st
 fail:Qa st' = Qa st
 perm:(O8 st').Perm (O8 st)
 out:∀ k,(k<lo\/hi<=k)->(O8 st')[k]? = (O8 st)[k]?
theorem Wn.refl (lo hi:Pa) (st:Px):Wn lo hi st st:=⟨rfl,rfl,rfl,.refl _,λuu uu=>rfl⟩
theorem Wn.trans {lo hi:Pa}{x y z:Px}(h:Wn lo hi x y) (g:Wn lo hi y z):Wn lo hi x z:=⟨g.kind.trans h.kind,g.pend.trans h.pend,g.fail.trans h.fail,g.perm.trans h.perm,λk hk=>(g.out k hk).trans (h.out k hk)⟩
theorem Gd.of {lo hi:Pa}{st st':Px}(g:Gd gr go gk st) (h:Wn lo hi st st'):Gd gr go gk st':=⟨λp i=>g.ok p (h.perm.mem_iff.mp i),h.kind.trans g.kind⟩
theorem Wn.size {lo hi:Pa}{st st':Px}(h:Wn lo hi st st'):(O8 st').size=(O8 st).size:=h.perm.size_eq
theorem cH (h:xs[i]? = ys[j]?):rkA gr xs i=rkA gr ys j:=by unfold rkA; rw[h]
theorem jc (hlt:bE gM gA gE gs gr go gk) {st:Px}{i j:Pa}{Q:O4 PV->Px->Prop}(g:Gd gr go gk st) (hi:i<(O8 st).size) (hj:j<(O8 st).size) (h:Q (qn (decide (rkA gr (O8 st) i<rkA gr (O8 st) j))) st):wpS gM gA gE gs (ltAt' i j) Q st:=by
 rw[ltAt'_eq]
 refine Pe (Tn (Pe (aN hi (Pe (aN hj (hlt (g.ok _ (Rj _)) (g.ok _ (Rj _)) g.kind ?_))))))
 rw[fk hi,fk hj] at h
 exact h
def SegDn (gr:Pc->Pa) (arr:Pf Pc) (lo n:Pa):Prop:=∀ i j,lo<=i->i<=j->j<lo+n->rkA gr arr j<=rkA gr arr i
theorem SegUp.succ {arr:Pf Pc}{lo n:Pa}(h:SegUp gr arr lo n) (h1:1<=n) (hn:rkA gr arr (lo+n-1)<=rkA gr arr (lo+n)):SegUp gr arr lo (n+1):=by
 intro i j k g l
 by_cases e:j=lo+n
 ·(clear l; subst e)
  by_cases e':i=lo+n
  ·(clear k g; subst e'); exact PH _
  ·exact If (h i (lo+n-1) k (AR g e') (uq h1)) hn
 ·exact h i j k g (Az l e)
theorem SegDn.succ {arr:Pf Pc}{lo n:Pa}(h:SegDn gr arr lo n) (h1:1<=n) (hn:rkA gr arr (lo+n)<=rkA gr arr (lo+n-1)):SegDn gr arr lo (n+1):=by
 intro i j k g l
 by_cases e:j=lo+n
 ·(clear l; subst e)
  by_cases e':i=lo+n
  ·(clear k g; subst e'); exact PH _
  ·exact If hn (h i (lo+n-1) k (AR g e') (uq h1))
 ·exact h i j k g (Az l e)
theorem kJ {i j:Pa}{st:Px}{Q:UN->Px->Prop}(h:Q () (Yw st (Vp (O8 st) i j ((j-i)/2)))):wpS gM gA gE gs (Ur i j) Q st:=by
 rw[reverseSlice'_eq]; exact TQ h
noncomputable def wh (lo nrem n:Pa):TP Px Sem (O4 Pa):=do
 let mut n:=n
 Ur lo (lo+n)
 for _ in [n:nrem] do
  let qn smaller <- ltAt' (lo+n) (lo+n-1) | return O2
  if smaller then break
  n:=n+1
 return qn n
noncomputable def uV (lo nrem n:Pa):TP Px Sem (O4 Pa):=do
 let mut n:=n
 rule "list.sort.descending-run"
 n:=n+1
 let mut neq:=0
 for _ in [n:nrem] do
  let qn smaller <- ltAt' (lo+n) (lo+n-1) | return O2
  if smaller then
   if neq>0 then Ur (lo+n-(neq+1)) (lo+n)
   neq:=0
  else
   let qn larger <- ltAt' (lo+n-1) (lo+n) | return O2
   if larger then break
   neq:=neq+1
  n:=n+1
 if neq>0 then Ur (lo+n-(neq+1)) (lo+n)
 Ur lo (lo+n)
 for _ in [n:nrem] do
  let qn smaller <- ltAt' (lo+n) (lo+n-1) | return O2
  if smaller then break
  n:=n+1
 return qn n
theorem jr (hj:j<=xs.size) (he:∀ k,i<=k->k<j->rkA gr xs k=rkA gr xs (j-1)) (k:Pa):rkA gr (Vp xs i j ((j-i)/2)) k=rkA gr xs k:=by
 by_cases c:i<=k/\k<j
 ·rw[cH (j:=i+j-1-k) (ys:=xs) (by rw[Sj hj,O1 c]),he (i+j-1-k) (Ga c) (JV c),he k c.1 c.2]
 ·exact cH (by rw[Sj hj,OY c])
theorem iv {lo hi i j:Pa}{st:Px}(hj:j<=(O8 st).size) (h1:lo<=i) (h2:j<=hi):Wn lo hi st (Yw st (Vp (O8 st) i j ((j-i)/2))):=⟨rfl,rfl,rfl,mirror_perm _ _ _ _,λk hk=>by
 show (Vp _ _ _ _)[k]? = _
 rw[Sj hj,OY (Ky h1 h2 hk)]⟩
theorem mv (hlt:bE gM gA gE gs gr go gk) {lo nrem n:Pa}{st:Px}{Q:O4 Pa->Px->Prop}(g:Gd gr go gk st) (hn:lo+nrem<=(O8 st).size) (h1:1<=n) (h2:n<=nrem) (dn:SegDn gr (O8 st) lo n)
  (h:∀ n st',1<=n->n<=nrem->Wn lo (lo+nrem) st st'->SegUp gr (O8 st') lo n->Q (qn n) st'):wpS gM gA gE gs (wh lo nrem n) Q st:=by
 unfold wh
 refine Pe (kJ ?_)
 have m:lo+n<=(O8 st).size:=by exact Km hn h2
 have o:Wn lo (lo+nrem) st (Yw st (Vp (O8 st) lo (lo+n) ((lo+n-lo)/2))):=iv m (PH _) (by exact Pg ‹_› _)
 have k:SegUp gr (Vp (O8 st) lo (lo+n) ((lo+n-lo)/2)) lo n:=by
  intro i j hi hij hj
  rw[cH (j:=lo+(lo+n)-1-i) (ys:=O8 st) (by rw[Sj m,O1 ⟨hi,by exact O5 ‹_› ‹_›⟩]),cH (i:=j) (j:=lo+(lo+n)-1-j) (ys:=O8 st) (by rw[Sj m,O1 ⟨by exact If ‹_› ‹_›,hj⟩])]
  exact dn _ _ (GB hj) (El hij) (Hz h1 hi)
 generalize hst:Yw st (Vp (O8 st) lo (lo+n) ((lo+n-lo)/2))=st2 at o ⊢
 have k:SegUp gr (O8 st2) lo n:=by rw[<- hst]; exact k
 have g2:=g.of o
 have l:=o.size
 refine Pe (RE (Rh (I:=λx c st'=>st' = st2/\c=(O2,x)/\x<=nrem/\SegUp gr (O8 st2) lo x)
  (Q:=λc st'=>st' = st2/\∃ n,c=(O2,n)/\1<=n/\n<=nrem/\SegUp gr (O8 st2) lo n) ?_ ?_ (cZ rfl rfl h2 k)) ?_)
 ·intro x c st' hx1 r q
  refine dI (q) λNm Nr gx t=>?_
  clear q
  (clear k o; subst Nm)
  subst Nr
  refine Pe (jc hlt g2 (adl r (If hn (PL l.symm))) (pX (adl r (If hn (PL l.symm)))) ?_)
  dsimp only
  by_cases w:rkA gr (O8 st') (lo+x)<rkA gr (O8 st') (lo+x-1)
  ·rw[Qc w,O1 rfl]
   exact Pr (aE rfl (bD x rfl (by exact O6 ‹_› ‹_›) gx t))
  ·rw[Qe w,OY (by decide)]
   exact Pr (cZ rfl rfl ‹_› (t.succ (by exact O6 ‹_› ‹_›) (PP w)))
 ·intro c st' p
  refine dI (p) λNo Nu gx t=>?_
  clear p
  (clear g2 l k o; subst No)
  subst Nu
  rw[show max n nrem=nrem by exact G3 gx] at *
  exact (aE rfl (bD nrem rfl (by exact O6 ‹_› ‹_›) (PH _) t))
 ·intro c st' z
  obtain ⟨y,n',v,p1,p2,u⟩:=z
  (clear g2 l k; subst y)
  subst v
  exact Pr (h n' st' p1 p2 o u)
theorem SegDn.congr {xs ys:Pf Pc}{lo n:Pa}(h:SegDn gr xs lo n) (e:∀ k,rkA gr ys k=rkA gr xs k):SegDn gr ys lo n:=λi j a b c=>by rw[e,e]; exact h i j a b c
theorem mB (hlt:bE gM gA gE gs gr go gk) {lo nrem n:Pa}{st:Px}{Q:O4 Pa->Px->Prop}(g:Gd gr go gk st) (hn:lo+nrem<=(O8 st).size) (h1:1<=n) (h2:n<nrem) (dn:SegDn gr (O8 st) lo (n+1))
  (h:∀ n st',1<=n->n<=nrem->Wn lo (lo+nrem) st st'->SegUp gr (O8 st') lo n->Q (qn n) st'):wpS gM gA gE gs (uV lo nrem n) Q st:=by
 unfold uV
 refine Pe (d9 ?_)
 refine Pe (RE (Rh (I:=λx c m=>∃ l,c=(O2,x,l)/\Wn lo (lo+nrem) st m/\(∀ k,rkA gr (O8 m) k=rkA gr (O8 st) k)/\x<=nrem/\l+1<=x/\SegDn gr (O8 st) lo x/\∀ k,x-(l+1)<=k->k<x->rkA gr (O8 st) (lo+k)=rkA gr (O8 st) (lo+x-1))
  (Q:=λc m=>∃ x l,c=(O2,x,l)/\Wn lo (lo+nrem) st m/\(∀ k,rkA gr (O8 m) k=rkA gr (O8 st) k)/\x<=nrem/\l+1<=x/\SegDn gr (O8 st) lo x/\∀ k,x-(l+1)<=k->k<x->rkA gr (O8 st) (lo+k)=rkA gr (O8 st) (lo+x-1)) ?_ ?_ (uB 0 rfl (.refl ..) (λuu=>rfl) ‹_› (TV _) dn (λk v z=>by rw[show lo+k=lo+(n+1)-1 by exact AS v z]))) ?_)
 ·intro x c m hx1 r Nq
  refine AT (Nq) λl Nt p e gx y dn eq=>?_
  clear Nq
  subst Nt
  have g':=g.of p
  have o:=p.size
  dsimp only
  refine Pe (jc hlt g' (oZ hn r o) (zp hn r o) ?_)
  dsimp only
  rw[e,e]
  by_cases w:rkA gr (O8 st) (lo+x)<rkA gr (O8 st) (lo+x-1)
  ·rw[Qc w,O1 rfl]
   have fin:∀ t,Wn lo (lo+nrem) st t->(∀ k,rkA gr (O8 t) k=rkA gr (O8 st) k)->∃ neq',((O2:O4 (O4 Pa)),x+1,0)=(O2,x+1,neq')/\Wn lo (lo+nrem) st t/\(∀ k,rkA gr (O8 t) k=rkA gr (O8 st) k)/\x+1<=nrem/\neq'+1<=x+1/\SegDn gr (O8 st) lo (x+1)/\∀ k,x+1-(neq'+1)<=k->k<x+1->rkA gr (O8 st) (lo+k)=rkA gr (O8 st) (lo+(x+1)-1) :=
    λt w3 e3=>(uB 0 rfl w3 e3 ‹_› (TV _) (dn.succ (by exact Tw ‹_› ‹_›) (PB w)) (λk v z=>by rw[show lo+k=lo+(x+1)-1 by exact AS v z]))
   by_cases c1:l>0
   ·rw[O1 c1]
    refine Pe (kJ (Pr (fin _ (p.trans (iv (AB hn r o) (Au y) (by exact Pg ‹_› _))) λk=>?_)))
    show rkA gr (Vp _ _ _ _) k=_
    rw[jr (AB hn r o) λk v z=>by rw[e,e]; have:=eq (k-lo) (zj v) (AJ hx1 z); rwa [show lo+(k-lo)=k by exact zh y v] at this]
    exact e k
   ·rw[OY c1]
    exact Pr (fin _ p e)
  ·rw[Qe w,OY (by decide)]
   refine Pe (jc hlt g' (zp hn r o) (oZ hn r o) ?_)
   dsimp only
   rw[e,e]
   by_cases w':rkA gr (O8 st) (lo+x-1)<rkA gr (O8 st) (lo+x)
   ·rw[Qc w',O1 rfl]
    exact Pr (ic x l rfl p e gx y dn eq)
   ·rw[Qe w',OY (by decide)]
    refine Pr (uB (l+1) rfl p e ‹_› (by exact RJ ‹_›) (dn.succ (by exact Tw ‹_› ‹_›) (PP w')) (λk v z=>?_))
    have q:rkA gr (O8 st) (lo+x-1)=rkA gr (O8 st) (lo+x):=by exact Ir w w'
    rw[show lo+(x+1)-1=lo+x by exact GQ]
    by_cases e':k=x
    ·rw[e']
    ·rw[<- q]; exact eq k (KP v) (Hk z e')
 ·intro c m Nv
  refine AT (Nv) λl Ny p e gx y dn eq=>?_
  clear Nv
  subst Ny
  rw[show max (n+1) nrem=nrem by exact ES gx] at *
  exact (ic nrem l rfl p e gx y dn eq)
 ·intro c m Nz
  refine tQ (Nz) λx l NA p e gx y dn eq=>?_
  clear Nz
  subst NA
  have g':=g.of p
  have o:=p.size
  dsimp only
  by_cases c1:l>0
  ·rw[O1 c1]
   have w3:=p.trans (iv (lo:=lo) (hi:=lo+nrem) (i:=lo+x-(l+1)) (j:=lo+x) (st:=m) (z2 hn gx o) (Au y) (by exact Pg ‹_› _))
   refine Pe (kJ ?_)
   refine mv hlt (g.of w3) (by have:=w3.size; exact s7 hn this) (by exact Tw ‹_› ‹_›) gx (dn.congr λk=>?_) λn st' a b w4 u=>h n st' a b (w3.trans w4) u
   show rkA gr (Vp _ _ _ _) k=_
   rw[jr (z2 hn gx o) λk v z=>by rw[e,e]; have:=eq (k-lo) (zj v) (AJ y z); rwa [show lo+(k-lo)=k by exact zh y v] at this]
   exact e k
  ·rw[OY c1]
   exact mv hlt g' (s7 hn o) (Ex y) gx (dn.congr e) λn st' a b w4 u=>h n st' a b (p.trans w4) u
theorem ld (hlt:bE gM gA gE gs gr go gk) {lo nrem:Pa}{st:Px}{Q:O4 Pa->Px->Prop}(g:Gd gr go gk st) (hn:lo+nrem<=(O8 st).size) (h1:1<=nrem)
  (h:∀ n st',1<=n->n<=nrem->Wn lo (lo+nrem) st st'->SegUp gr (O8 st') lo n->Q (qn n) st'):wpS gM gA gE gs (countRun' lo nrem) Q st:=by
 rw[countRun'_eq]
 refine Pe (RE (Rh (I:=λx c st'=>st' = st/\c=(O2,x)/\x<=nrem/\SegUp gr (O8 st) lo x)
  (Q:=λc st'=>st' = st/\∃ n,c=(O2,n)/\1<=n/\n<=nrem/\SegUp gr (O8 st) lo n/\(n=nrem\/rkA gr (O8 st) (lo+n)<rkA gr (O8 st) (lo+n-1))) ?_ ?_ (cZ rfl rfl h1 (λi j _ _ _=>by rw[show i=j by exact AH ‹_› ‹_› ‹_›]; exact PH _))) ?_)
 ·intro x c st' hx1 hx2 o
  refine dI (o) λNF NG gx l=>?_
  clear o
  (clear h; subst NF)
  subst NG
  refine Pe (jc hlt g (by exact adl hx2 ‹_›) (by exact pX (adl hx2 ‹_›)) ?_)
  dsimp only
  by_cases w:rkA gr (O8 st') (lo+x)<rkA gr (O8 st') (lo+x-1)
  ·rw[Qc w,O1 rfl]
   exact Pr (aE rfl (jz x rfl hx1 gx l (.inr w)))
  ·rw[Qe w,OY (by decide)]
   exact Pr (cZ rfl rfl ‹_› (l.succ hx1 (PP w)))
 ·intro c st' m
  refine dI (m) λNI z gx l=>?_
  clear m
  (clear g h hn; subst NI)
  subst z
  rw[show max 1 nrem=nrem by exact Ef gx] at *
  exact (aE rfl (jz nrem rfl h1 (PH _) l (.inl rfl)))
 ·intro c st' y
  obtain ⟨v,n,t,p,r,l,q⟩:=y
  subst v
  subst t
  dsimp only
  by_cases c1:(n==nrem)=vk
  ·rw[O1 c1]
   exact Pr (h n st' p r (.refl ..) l)
  rw[OY c1]
  have hn3:n<nrem:=by have:n≠nrem:=λe=>c1 (Pv.mpr e); exact zl r this
  have hdn:=q.resolve_left (by exact Qz ‹_›)
  by_cases c2:n>1
  ·rw[O1 c2]
   refine Pe (jc hlt g (Gn h1 hn) (FA p r hn) ?_)
   dsimp only
   by_cases w:rkA gr (O8 st') lo<rkA gr (O8 st') (lo+n-1)
   ·rw[Qc w,O1 rfl]
    exact Pr (h n st' p r (.refl ..) l)
   rw[Qe w,OY (by decide)]
   have eq:∀ k,lo<=k->k<lo+n->rkA gr (O8 st') k=rkA gr (O8 st') (lo+n-1):=λk k1 k2=>by
    have a:=l lo k (PH _) k1 k2
    have b:=l k (lo+n-1) k1 (I8 k2) (uq p)
    exact K0 w a b
   have w3:Wn lo (lo+nrem) st' (Yw st' (Vp (O8 st') lo (lo+n) ((lo+n-lo)/2))):=iv (zv r hn) (PH _) (by exact Pg ‹_› _)
   have e3:∀ k,rkA gr (Vp (O8 st') lo (lo+n) ((lo+n-lo)/2)) k=rkA gr (O8 st') k:=jr (zv r hn) eq
   refine Pe (kJ ?_)
   refine mB hlt (g.of w3) (by have:=w3.size; exact s7 hn this) p hn3 ?_ λn st' a b w4 u=>h n st' a b (w3.trans w4) u
   have d1:SegDn gr (O8 st') lo n:=λi j a b c=>by rw[eq i a (by exact O5 ‹_› ‹_›),eq j (by exact If ‹_› ‹_›) c]; exact PH _
   exact (d1.succ p (PB hdn)).congr e3
  rw[OY c2]
  have e1:n=1:=by exact EQ p c2
  (clear c1 c2 q r l; subst e1)
  refine mB hlt g hn p hn3 ?_ h
  have d1:SegDn gr (O8 st') lo 1:=λi j _ _ _=>by rw[show i=j by exact AH ‹_› ‹_› ‹_›]; exact PH _
  exact d1.succ (PH _) (PB hdn)
theorem xz {src dst:Pa}{st:Px}{Q:UN->Px->Prop}(h:Q () (Yw st (bubble (O8 st) src (src-dst)))):wpS gM gA gE gs (moveDown' src dst) Q st:=by
 rw[moveDown'_eq]; exact TQ h
theorem Dh (h:l<r):l<=(l+r)/2/\(l+r)/2<r:=by exact Js h
theorem oA (hlt:bE gM gA gE gs gr go gk) {lo n oo:Pa}{st:Px}{Q:PV->Px->Prop}(g:Gd gr go gk st) (hn:lo+n<=(O8 st).size) (hok:oo<=n) (hs:SegUp gr (O8 st) lo oo)
  (h:∀ st',Wn lo (lo+n) st st'->SegUp gr (O8 st') lo n->Q vk st'):wpS gM gA gE gs (binarySort' lo n oo) Q st:=by
 rw[binarySort'_eq]
 refine Pe (RE (Rh (I:=λk c st'=>c=(O2,())/\Wn lo (lo+n) st st'/\SegUp gr (O8 st') lo (min k n))
  (Q:=λc st'=>c=(O2,())/\Wn lo (lo+n) st st'/\SegUp gr (O8 st') lo n) ?_ ?_ ⟨rfl,.refl ..,?_⟩) ?_)
 ·intro k c st' hk1 q NR
  refine aI (NR) λNO z y=>?_
  clear NR
  subst NO
  have g':=g.of z
  have hsz:=z.size
  rw[show min k n=k by exact KA q] at y
  refine Pe (RE (Rh (I:=λx c o=>o=st'/\∃ l r,c=(O2,l,r)/\l<=r/\r<=k/\r-l<=k-x/\(∀ i,i<l->rkA gr (O8 st') (lo+i)<=rkA gr (O8 st') (lo+k))/\(∀ i,r<=i->i<k->rkA gr (O8 st') (lo+k)<rkA gr (O8 st') (lo+i)))
   (Q:=λc o=>o=st'/\∃ l r,c=(O2,l,r)/\l<=k/\(∀ i,i<l->rkA gr (O8 st') (lo+i)<=rkA gr (O8 st') (lo+k))/\(∀ i,l<=i->i<k->rkA gr (O8 st') (lo+k)<rkA gr (O8 st') (lo+i))) ?_ ?_ (aE rfl (pe 0 k rfl (Qn _) (PH _) (PH _) (λi hi=>by exact IU hi) (λi h1 h2=>by exact J5 h1 h2)))) ?_)
  ·intro x c o _ hx NU
   obtain ⟨NV,l,r,Oa,lr,rk',pr,t,v⟩:=NU
   (clear z; subst NV)
   subst Oa
   dsimp only
   by_cases c1:l≥r
   ·rw[O1 c1]
    exact Pr (aE rfl (bO l r rfl (by exact If ‹_› ‹_›) t (λi h1 h2=>v i (by exact If ‹_› ‹_›) h2)))
   rw[OY c1]
   refine ae (Dh (Sx c1)) λm1 m2=>?_
   generalize (l+r)/2=m at m1 m2 ⊢
   refine Pe (jc hlt g' (oZ hn q hsz) (HS hn q rk' hsz m2) ?_)
   dsimp only
   by_cases w:rkA gr (O8 o) (lo+k)<rkA gr (O8 o) (lo+m)
   ·rw[Qc w,O1 rfl]
    exact Pr (aE rfl (pe _ _ rfl ‹_› (D9 rk' m2) (KL pr m2) t (λi h1 h2=>O6 w (y _ _ (PD _ _) (by exact Pg ‹_› _) (by exact Pg ‹_› _)))))
   ·rw[Qe w,OY (by decide)]
    exact Pr (aE rfl (pe _ _ rfl ‹_› ‹_› (Ix pr m1) (λi h1=>If (y _ (lo+m) (PD _ _) (JP h1) (Gb rk' m2)) (PP w)) v))
  ·intro c o N4
   obtain ⟨Oc,l,r,N8,lr,rk',pr,t,v⟩:=N4
   (clear g' hsz z; subst Oc)
   subst N8
   exact (aE rfl (bO l r rfl (by exact If ‹_› ‹_›) t (λi h1 h2=>v i (Jc pr h1) h2)))
  ·intro c o N5
   obtain ⟨N9,l,r,N7,lk,t,v⟩:=N5
   (clear g'; subst N9)
   subst N7
   dsimp only
   have hsrc:lo+k<(O8 o).size:=by exact oZ hn q hsz
   refine Pe (xz (Pr ⟨rfl,z.trans ⟨rfl,rfl,rfl,bubble_perm _ _ _,λj u=>?_⟩,?_⟩))
   ·show (bubble _ _ _)[j]? = _
    rw[X7 hsrc _ (UR _ _),OY (D7 q u),OY (J4 q u)]
   ·rw[show min (k+1) n=k+1 by exact KU q]
    show SegUp gr (bubble (O8 o) (lo+k) (lo+k-(lo+l))) lo (k+1)
    have at':∀ j,rkA gr (bubble (O8 o) (lo+k) (lo+k-(lo+l))) j=if j=lo+l then rkA gr (O8 o) (lo+k) else if lo+l<j/\j<=lo+k then rkA gr (O8 o) (j-1) else rkA gr (O8 o) j:=λj=>by
     have:=X7 hsrc (lo+k-(lo+l)) (UR _ _) j
     rw[show lo+k-(lo+k-(lo+l))=lo+l by exact JF lk] at this
     by_cases e1:j=lo+l
     ·rw[O1 e1] at this ⊢; exact cH this
     ·rw[OY e1] at this ⊢
      by_cases e2:lo+l<j/\j<=lo+k
      ·rw[O1 e2] at this ⊢; exact cH this
      ·rw[OY e2] at this ⊢; exact cH this
    intro i j hi p u
    rw[at',at']
    by_cases e1:i=lo+l
    ·rw[O1 e1]
     by_cases e2:j=lo+l
     ·rw[O1 e2]; exact PH _
     ·rw[OY e2,O1 (IQ p u e1 e2)]
      have:=v (j-1-lo) (J6 p e1 e2) (ER p u e1 e2)
      rw[show lo+(j-1-lo)=j-1 by exact GI p e1 e2] at this
      exact PB this
    ·rw[OY e1]
     by_cases e2:j=lo+l
     ·rw[O1 e2,OY (Fr p e2)]
      have:=t (i-lo) (GR hi p e1 e2)
      rwa [show lo+(i-lo)=i by exact k9 hi] at this
     ·rw[OY e2]
      by_cases e3:lo+l<i
      ·rw[O1 (HG p u e3),O1 (IF p u e3)]
       exact y _ _ (Ik e3) (HL p) (FK p u e3)
      ·rw[OY (zW e3)]
       by_cases e4:lo+l<j
       ·rw[O1 (Kf u e4)]
        exact y _ _ ‹_› (Ft e3 e4) (GD u e4)
       ·rw[OY (zW e4)]
        exact y _ _ ‹_› ‹_› (K7 lk e2 e4)
 ·intro c st' NP
  refine aI (NP) λNT z y=>?_
  clear NP
  subst NT
  rw[show min (max (max oo 1) n) n=n by exact Eg] at y
  exact ⟨rfl,z,y⟩
 ·intro i j hi p u
  by_cases e:oo=0
  ·rw[show i=j by exact I9 hi p u e]; exact PH _
  ·exact hs i j hi p (F4 u e)
 ·intro c st' NK
  refine aI (NK) λN2 z y=>?_
  clear NK
  subst N2
  exact Pr (h st' z y)
end
section
theorem pV (base:Pa) (hf:∀ a p j,f a (p,j)=a.setIfInBounds (base+j) p):∀ (r:rg Pc) (off:Pa) (arr:Pf Pc),base+off+r.length<=arr.size ->
  ((r.zipIdx off).foldl f arr).toList=arr.toList.take (base+off)++r++arr.toList.drop (base+off+r.length)
 | [],off,arr,_=>by rw[V2,List.foldl_nil,SD,List.length_nil,Wi,QY]
 | p::r,off,arr,h=>by
  rw[PR] at h
  have g:base+off<arr.toList.length:=by rw[Py]; exact Fc h
  rw[XH,VS,hf,pV base hf r (off+1) _ (by rw[Array.size_setIfInBounds]; exact Is h),Array.toList_setIfInBounds,List.set_eq_take_append_cons_drop,O1 g]
  have k:(arr.toList.take (base+off)++p::arr.toList.drop (base+off+1)).take (base+(off+1))=arr.toList.take (base+off)++[p]:=by
   rw[List.take_append,Sr,RL (PB g),show base+(off+1)-(base+off)=1 by exact HB,QL (by rw[Sr]; exact Ep)]
   rfl
  have i:(arr.toList.take (base+off)++p::arr.toList.drop (base+off+1)).drop (base+(off+1)+r.length)=arr.toList.drop (base+off+(p::r).length):=by
   rw[List.drop_append,Sr,RL (PB g),Ux.mpr (by rw[Sr]; exact Jy),WP,show base+(off+1)+r.length-(base+off)=r.length+1 by exact Jm,WB,Wv]
   congr 1
   rw[PR]; exact E7
  rw[k,i,QX,QX,QX]
  rfl
theorem iQ {arr:Pf Pc}{lo n:Pa}(h:SegUp gr arr lo n) (hn:lo+n<=arr.size):Up gr ((arr.toList.drop lo).take n):=by
 unfold Up
 rw[List.pairwise_iff_getElem]
 intro i j l g k
 rw[Sr,Q2,Py] at l g
 rw[UP,UP,Tl,Tl]
 have:=h (lo+i) (lo+j) (PD _ _) (Pg (PB k) lo) (Qi (O6 g (QG _ _)) lo)
 rwa [cG (by rw[Py]; exact O6 (Qi (O6 l (QG _ _)) lo) hn),cG (by rw[Py]; exact O6 (Qi (O6 g (QG _ _)) lo) hn)] at this
theorem iW (hlt:bE gM gA gE gs gr go gk) {left:PV}{key:Pc}{arr:Pf Pc}{base n hint:Pa}{st:Px}{Q:O4 Pa->Px->Prop}(hn:base+n<=arr.size) (hh:hint<n) (hok:∀ p∈arr,go p) (hkey:go key) (hk:kindOf st=gk) (up:SegUp gr arr base n)
  (h:∀ k,k<=n->(∀ q,q<k->if left then rkA gr arr (base+q)<gr key else rkA gr arr (base+q)<=gr key)->(∀ q,k<=q->q<n->if left then gr key<=rkA gr arr (base+q) else gr key<rkA gr arr (base+q))->Q (qn k) st) :
  wpS gM gA gE gs (gallop' left key arr base n hint) Q st:=by
 refine mn hlt hn hh hok hkey hk (λi=>if left then decide (rkA gr arr (base+i)<gr key) else !decide (gr key<rkA gr arr (base+i))) (λuu=>rfl) (λi j t r l=>?_) λk t r l=>h k t (λq g=>?_) λq g o=>?_
 ·have m:=up (base+i) (base+j) (PD _ _) (by exact Pg ‹_› _) (by exact Pg ‹_› _)
  cases left with
  | true=>simp at l ⊢; exact z7 m l
  | false=>simp at l ⊢; exact zJ m l
 ·have:=r q g
  cases left with
  | true=>simpa using this
  | false=>simpa using this
 ·have:=l q g o
  cases left with
  | true=>simpa using this
  | false=>simpa using this
theorem iZ {arr:Pf Pc}{lo n:Pa}{x:Pc}(hx:x∈(arr.toList.drop lo).take n):∃ i,lo<=i/\i<lo+n/\i<arr.size/\gr x=rkA gr arr i:=by
 obtain ⟨q,g,h⟩:=S8 hx
 subst h
 rw[Sr,Q2,Py] at g
 refine ⟨lo+q,by exact PD _ _,by exact Fd g,by exact sN g,?_⟩
 rw[cG (by rw[Py]; exact sN g),UP,Tl]
theorem nZ (hx:x∈arr.toList.take n):∃ i,i<n/\i<arr.size/\gr x=rkA gr arr i:=by
 obtain ⟨i,_,j,h,g⟩:=iZ (lo:=0) (n:=n) (by rw[Tm]; exact hx)
 exact ⟨i,by exact uF j,h,g⟩
theorem wM (hx:x∈arr.toList.drop n):∃ i,n<=i/\i<arr.size/\gr x=rkA gr arr i:=by
 obtain ⟨q,h,g⟩:=S8 hx
 subst g
 rw[Q2,Py] at h
 refine ⟨n+q,by exact PD _ _,by exact ph h,?_⟩
 rw[cG (by rw[Py]; exact ph h),Tl]
theorem A9 {st st':Px}{Q:Xn->Px->Prop}(h:Q ⟨⟩ st'):wpS gM gA gE gs (set st':TP Px Sem Xn) Q st:=by
 unfold wpS; rw[StateT.run_set]; exact Pb ⟨rfl,h⟩
theorem wpS_set' {st x:Px}{Q:Xn->Px->Prop}(h:∀ st',kindOf st' = kindOf x->O8 st' = O8 x->PY st' = PY x->Qa st' = Qa x->Q ⟨⟩ st'):wpS gM gA gE gs (set x:TP Px Sem Xn) Q st:=A9 (h x rfl rfl rfl rfl)
theorem C2 (hsz:n1+n2=arr.size) (u1:SegUp gr arr 0 n1) (u2:SegUp gr arr n1 n2) (h:∀ i j,i<n1->n1<=j->j<arr.size->rkA gr arr i<=rkA gr arr j):Up gr arr.toList:=by
 have l:SegUp gr arr 0 arr.size:=by
  intro i j _ g k
  by_cases e1:j<n1
  ·exact u1 i j (Qn _) g (z8 e1)
  ·by_cases e2:i<n1
   ·exact h i j e2 (by exact PP ‹_›) (uF k)
   ·exact u2 i j (by exact PP ‹_›) g (Jf hsz k)
 have:=iQ l Ha
 rwa [Tm,QL (by rw[Py]; exact PH _)] at this
theorem rf (hlt:bE gM gA gE gs gr go gk) {st:Px}{n1 n2 p1 p2:Pa}{Q:PV->Px->Prop}(g:Gd gr go gk st) (hp:PY st = #[(0,n1,p1),(n1,n2,p2)]) (hsz:n1+n2=(O8 st).size) (h1:1<=n1) (h2:1<=n2) (u1:SegUp gr (O8 st) 0 n1) (u2:SegUp gr (O8 st) n1 n2) (hf:Qa st=O2)
  (h:∀ st',(O8 st').Perm (O8 st)->Up gr (O8 st').toList->(PY st').size=1->Qa st' = O2->kindOf st' = gk->Q vk st'):wpS gM gA gE gs (mergeAt' 0) Q st:=by
 unfold mergeAt'
 refine Pe (Tn ?_)
 have q0:(PY st)[0]? = qn (0,n1,p1):=by rw[hp]; rfl
 have q1:(PY st)[0+1]? = qn (n1,n2,p2):=by rw[hp]; rfl
 rw[q0,q1]
 dsimp only
 refine Pe (wpS_set' λst1 f1 f2 f3 f4=>?_)
 have a1:O8 st1=O8 st:=f2
 have a2:kindOf st1=gk:=f1.trans g.kind
 have a3:(PY st1).size=1:=by
  rw[f3]
  show (((PY st).setIfInBounds 0 (0,n1+n2,p1)).eraseIdxIfInBounds (0+1)).size=1
  rw[hp]; simp[Vq]
 have a4:Qa st1=none:=f4.trans hf
 clear f1 f2 f3 f4 q0 q1 hp
 have hn1:n1<(O8 st).size:=by exact Hu hsz h2
 refine Pe (aN hn1 (Pe (iW (arr:=O8 st) hlt (Ki hsz) ‹_› g.ok (g.ok _ (Rj _)) a2 u1 λk k1 k2 k3=>?_)))
 dsimp only
 simp only[PK,Ql,QK] at k2 k3
 have eb:gr (O8 st)[n1]=rkA gr (O8 st) n1:=(fk hn1).symm
 rw[eb] at k2 k3
 have plain:∀ (_:∀ i j,i<n1->n1<=j->j<(O8 st).size->rkA gr (O8 st) i<=rkA gr (O8 st) j),Q vk st1:=λhh=>h st1 (by rw[a1]) (by rw[a1]; exact C2 hsz u1 u2 hh) a3 a4 a2
 by_cases c1:(n1-k==0)=vk
 ·rw[O1 c1]
  have e:k=n1:=by have:=Pv.mp c1; exact GC k1 this
  subst e
  exact Pr (plain λi j hi v u=>If (k2 i hi) (u2 _ _ (PH _) v (th hsz u)))
 rw[OY c1]
 have o:k<n1:=by have:n1-k≠0:=λe=>c1 (Pv.mpr e); exact Lj this
 have hla:0+k+(n1-k)-1<(O8 st).size:=by exact E6 hn1 o
 have t:0+k+(n1-k)-1=n1-1:=by exact GY o
 refine Pe (aN hla (Pe (iW (arr:=O8 st) hlt (JD hsz) (sJ h2) g.ok (g.ok _ (Rj _)) a2 u2 λl l1 l2 l3=>?_)))
 dsimp only
 simp only[Q4] at l2 l3
 have el:gr (O8 st)[0+k+(n1-k)-1]=rkA gr (O8 st) (n1-1):=(fk hla).symm.trans (by rw[t])
 rw[el] at l2 l3
 by_cases c2:(l==0)=vk
 ·rw[O1 c2]
  have e:=Pv.mp c2
  subst e
  refine Pr (plain λi j hi v u=>If (u1 i (n1-1) (Qn _) (sG hi) (zU h1)) ?_)
  have:=l3 (j-n1) (Qn _) (As hsz h2 u)
  rwa [show n1+(j-n1)=j by exact k9 v] at this
 rw[OY c2]
 have hl0:0<l:=by have:l≠0:=λe=>c2 (Pv.mpr e); exact tG this
 rw[QK]
 have lx:((O8 st).extract k n1).toList=((O8 st).toList.drop k).take (n1-k):=b7 ..
 have ly:((O8 st).extract n1 (n1+l)).toList=((O8 st).toList.drop n1).take l:=by rw[b7,Qo]
 have sx:((O8 st).extract k n1).size=n1-k:=by rw[WQ]; exact Iu hsz
 have sy:((O8 st).extract n1 (n1+l)).size=l:=by rw[WQ]; exact Hf hsz l1
 have ux:Up gr ((O8 st).extract k n1).toList:=by
  rw[lx]
  exact iQ (λi j hi hij v=>u1 i j (Qn _) hij (KN h1 t v)) (HT hsz o)
 have uy:Up gr ((O8 st).extract n1 (n1+l)).toList:=by
  rw[ly]
  exact iQ (λi j hi hij v=>u2 i j hi hij (Je l1 v)) (Iz hsz l1)
 have ox:∀ p∈(O8 st).extract k n1,go p:=λp hp=>g.ok p (by
  have:p∈((O8 st).extract k n1).toList:=U0.mpr hp
  rw[lx] at this
  exact U0.mp (SN (Rk this)))
 have oy:∀ p∈(O8 st).extract n1 (n1+l),go p:=λp hp=>g.ok p (by
  have:p∈((O8 st).extract n1 (n1+l)).toList:=U0.mpr hp
  rw[ly] at this
  exact U0.mp (SN (Rk this)))
 have hy0:gr (((O8 st).extract n1 (n1+l))[0]'(zt hl0 sy))=rkA gr (O8 st) n1:=by rw[Wc,<- eb]; rfl
 have hx1:gr (((O8 st).extract k n1)[((O8 st).extract k n1).size-1]'(zH o sx))=rkA gr (O8 st) (n1-1):=by
  rw[Wc,<- fk (arr:=O8 st) (i:=k+(((O8 st).extract k n1).size-1)) (J3 hsz h1 h2 t sx)]
  congr 1
  exact ID o sx
 have p0:∀ y∈((O8 st).extract k n1).toList,gr (((O8 st).extract n1 (n1+l))[0]'(zt hl0 sy))<=gr y:=λy hy=>by
  rw[lx] at hy
  refine bX (iZ hy) λi i1 i2 i3 i4=>?_
  rw[hy0,i4]
  exact PB (k3 i i1 (Hx h1 t i2))
 have p1:∀ x∈((O8 st).extract n1 (n1+l)).toList,gr x<=gr (((O8 st).extract k n1)[((O8 st).extract k n1).size-1]'(zH o sx)):=λx hx=>by
  rw[ly] at hx
  refine bX (iZ hx) λi i1 i2 i3 i4=>?_
  rw[hx1,i4]
  have:=l2 (i-n1) (Ec i1 i2)
  rw[show n1+(i-n1)=i by exact k9 i1] at this
  exact PB this
 have fin:∀ (r:Pf Pc) (z:Px) (f:Pf Pc->Pc×Pa->Pf Pc),(∀ a p j,f a (p,j)=a.setIfInBounds (k+j) p)->Mgd gr ((O8 st).extract k n1).toList ((O8 st).extract n1 (n1+l)).toList r->O8 z=Yx f (O8 st) r.toList.zipIdx->(PY z).size=1->Qa z=O2->kindOf z=gk->Q vk z:=λr z f hf' hm e1 e2 e3 e4=>by
  have hlen:r.toList.length=n1-k+l:=by
   have:=hm.1.length_eq
   simp only[Pj,Py,sx,sy] at this
   rw[Py]; exact this
  have hto:=pV k hf' r.toList 0 (O8 st) (by rw[hlen]; exact Eh hsz h1 t l1)
  rw[<- e1,Wi,hlen,show k+(n1-k+l)=n1+l by exact A8 h1 t] at hto
  have hL:(O8 st).toList=(O8 st).toList.take k++(((O8 st).toList.drop k).take (n1-k)++((O8 st).toList.drop n1).take l)++(O8 st).toList.drop (n1+l):=by
   have e5:((O8 st).toList.drop k).take (n1-k)++((O8 st).toList.drop n1).take l=((O8 st).toList.drop k).take (n1-k+l):=by
    rw[take_add' ((O8 st).toList.drop k) (n1-k) l,Wv,show k+(n1-k)=n1 by exact I0 h1 t]
   rw[e5,<- take_add',show k+(n1-k+l)=n1+l by exact A8 h1 t,QY]
  refine h z ?_ ?_ e2 e3 e4
  ·refine Rx.mpr ?_
   rw[hto]
   have:=hm.1
   rw[lx,ly] at this
   refine Jao ?_ (TK hL.symm)
   exact (this.append_left _).append_right _
  ·rw[hto]
   have inXY:∀ x∈r.toList,∃ i,k<=i/\i<n1+l/\gr x=rkA gr (O8 st) i:=λx hx=>by
    have:=hm.1.mem_iff.mp hx
    rw[lx,ly] at this
    rcases Pu.mp this with q | q
    ·refine bX (iZ q) λi i1 i2 _ i4=>?_
     exact ⟨i,i1,by exact Ks h1 t i2,i4⟩
    ·refine bX (iZ q) λi i1 i2 _ i4=>?_
     exact ⟨i,by exact If ‹_› ‹_›,by assumption,i4⟩
   have lowXY:∀ i j,i<k->k<=j->j<(O8 st).size->rkA gr (O8 st) i<=rkA gr (O8 st) j:=λi j hi v u=>by
    by_cases e:j<n1
    ·exact u1 i j (Qn _) (JM hi v) (z8 e)
    ·exact If (k2 i hi) (u2 _ _ (PH _) (by exact PP ‹_›) (th hsz u))
   have highXY:∀ i j,i<n1+l->n1+l<=j->j<(O8 st).size->rkA gr (O8 st) i<=rkA gr (O8 st) j:=λi j hi v u=>by
    by_cases e:i<n1
    ·refine If (u1 i (n1-1) (Qn _) (sG e) (zU h1)) ?_
     have:=l3 (j-n1) (Lb v) (As hsz h2 u)
     rwa [show n1+(j-n1)=j by exact KV v] at this
    ·exact u2 i j (by exact PP ‹_›) (Ew hi v) (th hsz u)
   refine Qx.mpr ⟨Qx.mpr ⟨?_,hm.2,λx hx y hy=>?_⟩,?_,λx hx y hy=>?_⟩
   ·have:=iQ (arr:=O8 st) (lo:=0) (n:=k) (λi j hi hij v=>u1 i j hi hij (Lc o v)) (Hg hsz o)
    rwa [Tm] at this
   ·refine aq (nZ hx) λi i1 i2 i3=>?_
    refine aq (inXY y hy) λj j1 j2 j3=>?_
    rw[i3,j3]
    exact lowXY i j i1 j1 (Id hsz l1 j2)
   ·have:=iQ (arr:=O8 st) (lo:=n1+l) (n:=n2-l) (λi j hi hij v=>u2 i j (IT hi) hij (Fk l1 v)) (Jw hsz l1)
    rwa [QL (by rw[Q2,Py]; exact EC hsz)] at this
   ·refine aq (wM hy) λj j1 j2 j3=>?_
    rw[j3]
    rcases Pu.mp hx with hx | hx
    ·refine aq (nZ hx) λi i1 i2 i3=>?_
     rw[i3]
     exact lowXY i j i1 (Lr o j1) j2
    ·refine aq (inXY x hx) λi i1 i2 i3=>?_
     rw[i3]
     exact highXY i j i2 j1 j2
 by_cases c3:n1-k<=l
 all_goals first
  | (
   rw[O1 c3]
   refine Pe (rL (a:=(O8 st).extract k n1) (b:=(O8 st).extract n1 (n1+l)) hlt (by rw[sx]; exact I6 o) (by rw[sy]; exact A7 hl0) ox oy a2 ux uy p0 p1 λr m sm hm=>?_))
  | (
   rw[OY c3]
   refine Pe (rG (a:=(O8 st).extract k n1) (b:=(O8 st).extract n1 (n1+l)) hlt (by rw[sx]; exact EK c3) (by rw[sy]; exact A7 hl0) ox oy a2 ux uy p0 p1 λr m sm hm=>?_))
 all_goals
  refine Pe (TQ (Pe (Tn ?_)))
  have ef:Qa m=none:=sm.2.2.2.trans a4
  have key:=fin r (Ug (kindOf m) (Yx (λa x=>match x with | (p,j)=>a.setIfInBounds (k+j) p) (O8 m) r.toList.zipIdx) (PY m) (gallopOf m) (Qa m)) (λa x=>match x with | (p,j)=>a.setIfInBounds (k+j) p) (λuu uu uu=>rfl) hm (by show Yx _ (O8 m) _=_; rw[sm.2.1,a1]) (by show (PY m).size=1; rw[sm.2.2.1]; exact a3) ef (sm.1.trans a2)
  refine Pr ?_
  show Q (Qa m).isNone _
  rw[show (Qa m).isNone=vk by rw[ef]; rfl]
  exact key
end
section
theorem rq (h2:2<=n) (h:n<128):1<=Zq n n 0/\Zq n n 0<=n/\n<=2*Zq n n 0:=by
 obtain ⟨f,rfl⟩:∃ f,n=f+1:=⟨n-1,by exact HN h2⟩
 rw[Zr]
 by_cases c:f+1<64
 ·rw[O1 c]; exact Em
 ·rw[OY c]
  obtain ⟨e,rfl⟩:∃ e,f=e+1:=⟨f-1,by exact EM h2⟩
  rw[Zr,O1 (Il h)]
  exact Fp
structure Ph1 (gr:Pc->Pa) (st st':Px) (n1:Pa):Prop where
 perm:(O8 st').Perm (O8 st)
 kind:kindOf st' = kindOf st
 fail:Qa st' = O2
 pend:PY st' = #[(0,n1,0)]
 up:SegUp gr (O8 st') 0 n1
structure Ph2 (gr:Pc->Pa) (st st':Px):Prop where
 perm:(O8 st').Perm (O8 st)
 kind:kindOf st' = kindOf st
 fail:Qa st' = O2
 runs:∃ n1 n2 pw,PY st' = #[(0,n1,pw),(n1,n2,0)]/\1<=n1/\1<=n2/\n1+n2=(O8 st).size/\SegUp gr (O8 st') 0 n1/\SegUp gr (O8 st') n1 n2
structure Dn (gr:Pc->Pa) (st st':Px):Prop where
 perm:(O8 st').Perm (O8 st)
 fail:Qa st' = O2
 pend:(PY st').size=1
 up:Up gr (O8 st').toList
theorem Gd.perm {st st':Px}(g:Gd gr go gk st) (hp:(O8 st').Perm (O8 st)) (hk:kindOf st' = kindOf st):Gd gr go gk st':=⟨λp h=>g.ok p (hp.mem_iff.mp h),hk.trans g.kind⟩
theorem Da {α:Type}{c:Prop}{dc:Wt c}{A:TP Px Sem α}{jp:Pa->TP Px Sem α}{n:Pa}(m:Pa) (P:Px->Prop) {st:Px}{Q:α->Px->Prop}(h1:c->(∀ st2,P st2->wpS gM gA gE gs (jp m) Q st2)->wpS gM gA gE gs A Q st) (h2:¬ c->n=m/\P st) (J:∀ st2,P st2->wpS gM gA gE gs (jp m) Q st2) :
  wpS gM gA gE gs (@ite _ c dc A (jp n)) Q st:=by
 by_cases q:c
 ·rw[O1 q]
  exact h1 q J
 ·rw[OY q,(h2 q).1]
  exact J st (h2 q).2
theorem ut (hlt:bE gM gA gE gs gr go gk) {st:Px}{Q:UN->Px->Prop}(g:Gd gr go gk st) (h2:2<=(O8 st).size) (h128:(O8 st).size<128) (hp:PY st = #[]) (hf:Qa st=O2)
  (h:∀ st',(O8 st').Perm (O8 st)->Up gr (O8 st').toList->Qa st' = O2->Q () st'):wpS gM gA gE gs Wu Q st:=by
 rw[sortRuns'_eq]
 refine Pe (Tn ?_)
 refine aI (rq h2 h128) λm1 m2 m3=>?_
 dsimp only
 generalize hN:(O8 st).size=N at *
 generalize Zq N N 0=mr at *
 refine Pe (RE (Rh (I:=λx c st'=>(x=0/\c=(O2,0)/\st' = st)\/(∃ l,c=(O2,l)/\Ph1 gr st st' l/\mr<=l/\l<=N/\(x=1\/l=N))\/(c=(O2,N)/\Ph2 gr st st'))
  (Q:=λc st'=>c=(O2,N)/\(Ph1 gr st st' N\/Ph2 gr st st')) ?_ ?_ (.inl ⟨rfl,rfl,rfl⟩)) ?_)
 ·rintro x c st' _ hx (⟨rfl,rfl,rfl⟩ | ⟨l,rfl,p,q1,q2,q3⟩ | ⟨rfl,p2⟩)
  ·dsimp only
   rw[OY (by exact TZ ‹_›)]
   refine Pe (ld hlt g (K3 hN) ‹_› λn o l n2 t up=>?_)
   dsimp only
   by_cases c:n<mr
   ·rw[O1 c]
    refine Pe (d9 (Pe (oA hlt (g.of t) (by rw[t.size]; exact Ju hN) (EH m2 c) up λk r u=>?_)))
    rw[OY (by decide)]
    refine Pe (Tn ?_)
    have ep:PY k = #[]:=by rw[r.pend,t.pend,hp]
    have em:min (N-0) mr=mr:=by exact EL m2
    rw[em] at u ⊢
    rw[show (PY k).back? = O2 by rw[ep]; rfl]
    refine Pe (TQ (Pr (.inr (.inl ⟨mr,by rw[QK],⟨r.perm.trans t.perm,r.kind.trans t.kind,r.fail.trans (t.fail.trans hf),?_,u⟩,PH _,m2,.inl rfl⟩))))
    show (PY k).push (0,mr,0)=_
    rw[ep]; rfl
   ·rw[OY c]
    refine Pe (Tn ?_)
    have ep:PY o = #[]:=by rw[t.pend,hp]
    rw[show (PY o).back? = O2 by rw[ep]; rfl]
    refine Pe (TQ (Pr (.inr (.inl ⟨n,by rw[QK],⟨t.perm,t.kind,t.fail.trans hf,?_,up⟩,by exact PP ‹_›,by assumption,.inl rfl⟩))))
    show (PY o).push (0,n,0)=_
    rw[ep]; rfl
  ·dsimp only
   by_cases c0:l≥N
   ·rw[O1 c0]
    have e:l=N:=by exact HZ q2 c0
    subst e
    exact Pr ⟨rfl,.inl p⟩
   rw[OY c0]
   have g1:=g.perm p.perm p.kind
   have v:(O8 st').size=N:=by rw[p.perm.size_eq,hN]
   refine Pe (ld hlt g1 (La c0 v) (Hl c0) λn o k1 k2 t up=>?_)
   dsimp only
   have fin:∀ (k:Px) (pw:Pa),Wn l (l+(N-l)) st' k->SegUp gr (O8 k) l (N-l)->Ph2 gr st (setPending (setPending k ((PY k).modify ((PY k).size-1) λx=>(x.1,x.2.1,pw))) (((PY k).modify ((PY k).size-1) λx=>(x.1,x.2.1,pw)).push (l,N-l,0))):=λk pw z u2=>by
    refine ⟨z.perm.trans p.perm,z.kind.trans p.kind,z.fail.trans p.fail,l,N-l,pw,?_,by exact F0 m1 q1,by exact O6 ‹_› ‹_›,by exact KB hN k1 k2,?_,u2⟩
    ·show ((PY k).modify ((PY k).size-1) λx=>(x.1,x.2.1,pw)).push (l,N-l,0)=_
     rw[z.pend,p.pend]
     apply WR.mp
     rw[Su,Array.toList_modify]
     rfl
    ·intro i j hi hij hj
     show rkA gr (O8 k) i<=rkA gr (O8 k) j
     rw[cH (z.out i (.inl (Ek hij hj))),cH (z.out j (.inl (uF hj)))]
     exact p.up i j hi hij hj
   apply Da (n:=n) (N-l) (λk=>Wn l (l+(N-l)) st' k/\SegUp gr (O8 k) l (N-l))
   ·intro c J
    refine Pe (d9 (Pe (oA hlt (g1.of t) (by rw[t.size]; exact G9 v k1 k2) (JW m3 q1 k2) up λk r u=>?_)))
    rw[OY (by decide)]
    have em:min (N-l) mr=N-l:=HY m3 q1
    rw[em] at r u ⊢
    exact J k ⟨t.trans r,u⟩
   ·intro c
    have em:n=N-l:=HC m3 q1 k2 c
    clear fin
    refine ⟨em,t,?_⟩
    rw[em] at up
    exact up
   ·intro k hI
    refine ae hI λz u=>?_
    clear hI
    refine Pe (Tn ?_)
    have ep:PY k = #[(0,l,0)]:=by rw[z.pend,p.pend]
    rw[show (PY k).back? = qn (0,l,0) by rw[ep]; rfl]
    dsimp only
    refine Pe (RE (Rh (I:=λx c m=>m=k/\c=(O2,())) (Q:=λc m=>m=k/\c=(O2,())) ?_ ?_ ⟨rfl,rfl⟩) ?_)
    ·intro x c m _ _ Nw
     refine ae (Nw) λNm Nr=>?_
     clear Nw
     subst Nm
     subst Nr
     refine Pe (Tn ?_)
     rw[OY (λq=>by rw[ep] at q; exact Pq q (Uf 1))]
     exact Pr ⟨rfl,rfl⟩
    ·rintro c m h; exact h
    ·intro c m Nn
     refine ae (Nn) λNo Nu=>?_
     clear Nn
     subst No
     subst Nu
     dsimp only
     refine Pe (TQ (Pe (TQ (Pr (.inr (.inr ⟨by rw[show l+(N-l)=N by lia],fin m _ z u⟩))))))
  ·dsimp only
   rw[O1 (PH _)]
   exact Pr ⟨rfl,.inr p2⟩
 ·rintro c st' (⟨e,_⟩ | ⟨l,rfl,p,q1,q2,q3⟩ | ⟨rfl,p2⟩)
  ·exact KJ h2 e
  ·have e:l=N:=by exact Kv h2 q3
   subst e
   exact ⟨rfl,.inl p⟩
  ·exact ⟨rfl,.inr p2⟩
 ·intro c st' Nx
  refine ae (Nx) λNp hph=>?_
  clear Nx
  subst Np
  dsimp only
  refine Pe (RE (Rh (I:=λx c st'=>c=(O2,())/\(Dn gr st st'\/(x=0/\Ph2 gr st st'))) (Q:=λc st'=>c=(O2,())/\Dn gr st st') ?_ ?_ ⟨rfl,?_⟩) ?_)
  ·intro x c o _ hx Nl
   refine ae (Nl) λNq y=>?_
   clear Nl
   subst Nq
   refine Pe (Tn ?_)
   rcases y with y | ⟨rfl,p2⟩
   ·rw[O1 (by rw[y.pend]; exact PH _)]
    exact Pr ⟨rfl,y⟩
   ·refine cQ (p2.runs) λl n2 pw e1 e2 e3 e4 e5 e6=>?_
    have es:(PY o).size=2:=by rw[e1]; rfl
    rw[OY (Iq es),es]
    have v:(O8 o).size=N:=by rw[p2.perm.size_eq,hN]
    refine Pe (rf hlt (g.perm p2.perm p2.kind) e1 (KW hN e4 v) e2 e3 e5 e6 p2.fail λk f1 f2 f3 f4 f5=>?_)
    exact Pr ⟨rfl,.inl ⟨f1.trans p2.perm,f4,f3,f2⟩⟩
  ·intro c o Nt
   refine ae (Nt) λNv y=>?_
   clear Nt
   subst Nv
   refine ⟨rfl,y.resolve_right λq=>?_⟩
   have:=q.1
   exact GO h2 q
  ·rcases hph with p | p2
   ·left
    refine ⟨p.perm,p.fail,by rw[p.pend]; rfl,?_⟩
    have v:(O8 st').size=N:=by rw[p.perm.size_eq,hN]
    have:=iQ p.up (Jn v)
    rwa [Tm,QL (by rw[Py]; exact FT v)] at this
   ·exact .inr ⟨rfl,p2⟩
  ·intro c o Ny
   refine ae (Ny) λNz y=>?_
   clear Ny
   subst Nz
   exact Pr (h o y.perm y.up y.fail)
end
theorem iM:∀ a:rg O3,ltL a a=OZ
 | []=>rfl
 | a::as=>by simp[ltL,iM as]
theorem cX:∀ {a b c:rg O3},ltL a b=vk->ltL b c=vk->ltL a c=vk
 | [],[],_,h,_=>by simp[ltL] at h
 | [],_::_,[],_,h=>by simp[ltL] at h
 | [],_::_,_::_,_,_=>rfl
 | _::_,[],_,h,_=>by simp[ltL] at h
 | _::_,_::_,[],_,h=>by simp[ltL] at h
 | a::as,b::bs,c::cs,h1,h2=>by
  unfold ltL at h1 h2 ⊢
  by_cases e1:a=b
  ·subst e1
   rw[O1 rfl] at h1
   by_cases e2:a=c
   ·rw[O1 e2] at h2 ⊢; exact cX h1 h2
   ·rw[OY e2] at h2 ⊢; exact h2
  ·rw[OY e1] at h1
   by_cases e2:b=c
   ·subst e2; rw[OY e1]; exact h1
   ·rw[OY e2] at h2
    simp only[PM] at h1 h2
    rw[OY (JA h1 h2)]
    simp only[PM]; exact Hy h1 h2
theorem fm:∀ {a b:rg O3},ltL a b=OZ->ltL b a=OZ->a=b
 | [],[],_,_=>rfl
 | [],_::_,h,_=>by simp[ltL] at h
 | _::_,[],_,h=>by simp[ltL] at h
 | a::as,b::bs,h1,h2=>by
  unfold ltL at h1 h2
  by_cases e:a=b
  ·subst e
   rw[O1 rfl] at h1 h2
   rw[fm h1 h2]
  ·rw[OY e] at h1
   rw[OY (QA e)] at h2
   simp only[QM] at h1 h2
   exact Fl e h1 h2
noncomputable def rkL (ks:rg (rg O3)) (k:rg O3):Nat:=ks.countP λx=>ltL x k
theorem oz:∀ {l:rg α},(∀ x∈l,p x=vk->q x=vk)->l.countP p<=l.countP q
 | [],_=>PH _
 | x::l,h=>by
  have g:=oz λy i=>h y (.tail _ i)
  rw[Uh,Uh]
  cases hp:p x with
  | true=>rw[h x (.head _) hp]; simp; exact g
  | false=>simp; exact Kb g
theorem nW:∀ {l:rg α}{y:α},(∀ x∈l,p x=vk->q x=vk)->y∈l->p y=OZ->q y=vk->l.countP p<l.countP q
 | x::l,y,h,hy,h1,h2=>by
  rw[Uh,Uh]
  rcases PC.mp hy with rfl | hy
  ·rw[h1,h2]
   have:=oz λz g=>h z (.tail _ g)
   simp; exact zB this
  ·have i:=nW (λz g=>h z (.tail _ g)) hy h1 h2
   cases hp:p x with
   | true=>rw[h x (.head _) hp]; simp; exact i
   | false=>simp; exact Ho i
theorem ms (ha:a∈ks) (hb:b∈ks):ltL a b=decide (rkL ks a<rkL ks b):=by
 have g:∀ {a b:rg O3},a∈ks->ltL a b=vk->rkL ks a<rkL ks b:=λ{a b} ha h=>nW (λx _ i=>cX i h) ha (iM a) h
 cases h:ltL a b with
 | true=>rw[Qc (g ha h)]
 | false=>
  refine (Qe λq=>?_).symm
  cases h':ltL b a with
  | true=>have:=g hb h'; exact FG q this
  | false=>rw[fm h h'] at q; exact Uf _ q
theorem x7 (ks:rg (rg O3)):(bV ks).Pairwise λa b=>ltL b a=false:=by
 have:=Rz (le:=λa b:rg O3=>!ltL b a) (λa b c g i=>by
  simp only[P0] at g i ⊢
  cases q:ltL c a with
  | false=>rfl
  | true=>
   cases q2:ltL b c with
   | true=>rw[cX q2 q] at g; exact nT g
   | false=>rw[fm i q2,g] at q; cases q) (λa b=>by
  cases q:ltL b a with
  | false=>rfl
  | true=>
   cases q2:ltL a b with
   | false=>rfl
   | true=>have:=cX q q2; rw[iM] at this; cases this) ks
 exact this.imp λh=>by simpa using h
noncomputable def jo:rg O3->rg O3->O4 PV
 | a::as,b::bs=>if a=b then jo as bs else qn (decide (a<b))
 | _,_=>O2
theorem qa:∀ a b:rg O3,ltL a b=(jo a b).getD (decide (a.length<b.length))
 | [],[]=>rfl
 | [],_::_=>by simp[ltL,jo]
 | _::_,[]=>by simp[ltL,jo]
 | a::as,b::bs=>by
  unfold ltL jo
  by_cases e:a=b
  ·rw[O1 e,O1 e,qa as bs]; simp
  ·rw[OY e,OY e]; rfl
noncomputable def KeyOf (h:P9) (v:Lt) (k:rg O3):Prop:=∃ a vs n,v = .ref a/\h.get? a=qn ⟨.type "tuple", O2,.seq vs.toArray n,#[]⟩/\Ry vs k
noncomputable def kq (v:Lt):Int:=match v with
 | .int i _=>i
 | _=>0
theorem IntsAre.read (h:Ry vs k):k=vs.map kq:=by
 induction h with
 | nil=>rfl
 | cons n t r ih=>exact R2 (n :: ·) ih
theorem IntsAre.fn (a:Ry vs k) (b:Ry vs k'):k=k':=(IntsAre.read a).trans (IntsAre.read b).symm
theorem KeyOf.fn (a:KeyOf h v k) (b:KeyOf h v k'):k=k':=by
 refine bj (a) λx m n j e i=>?_
 clear a
 subst j
 refine bj (b) λuu g p q l o=>?_
 clear b
 cases q
 rw[e] at l
 have:m=g:=by cases l; rfl
 subst this
 exact IntsAre.fn i o
theorem KeyOf.ofR (r:R h v (.tuple (k.map .int)) as):KeyOf h v k:=by
 cases r with
 | @tuple a n xs as vs e ra=>
  have g:aM (k.map PA)=qn k:=by
   clear ra e
   induction k with
   | nil=>rfl
   | cons x k ih=>show (aM (k.map PA)).map (x :: ·)=_; rw[ih]; rfl
  exact (c9 a vs n rfl e ((ra.ints g).1))
theorem KeyOf.stays (x:KeyOf h v k) (g:KG G h h'):KeyOf h' v k :=
 bj (x) λa j n e l i=>(c9 a j n e (g.stay l (.inr (aE rfl (bN _ _ rfl)))) i)
open Classical in
noncomputable def cV (h:P9) (v:Lt):rg Int:=if q:∃ k,KeyOf h v k then q.choose else []
theorem eO (x:KeyOf h v k):cV h v=k:=by
 unfold cV
 have q:∃ k,KeyOf h v k:=⟨k,x⟩
 rw[dif_pos q]
 exact q.choose_spec.fn x
section
variable {A:PU}{E:Lt->O0->Prop}{s:O0}
theorem lV (c:PV) (h:Q (decide (a<b)) s):Ph (Pn prog w) A (oneLt' c (.int a t) (.int b u)) Q E s:=by
 cases c with
 | true=>exact oneLt_int h
 | false=>
  rw[oneLt'_eq]
  simp only[PK,Ql]
  exact Gt (wpAny_lt_int (R5 h))
theorem po (c:PV) (x y:Lt):keyLt' (Xo c) x y=(do
  let xs <- QD x; let ys <- QD y
  for ((p,q),i) in (xs.toList.zip ys.toList).zipIdx do
   if !(<- eqBool p q) then return <- oneLt' (c&&i==0) p q
  return xs.size<ys.size):=rfl
theorem yl {body:(Lt×Lt)×Pa->O4 PV×UN->Sem (PI (O4 PV×UN))}{R:O4 PV×UN->O0->Prop}
  (hb:∀ (a b:O3) (t u:Tok) (i:Pa) (R':PI (O4 PV×UN)->O0->Prop),R' (if a=b then .yield (O2,()) else .done (qn (decide (a<b)),())) s->Ph (Pn prog w) A (body ((.int a t,.int b u),i) (O2,())) R' E s)
  {vs:rg Lt}{k:rg O3}(ia:Ry vs k):∀ {us:rg Lt}{k':rg O3}(i:Pa),Ry us k'->R (jo k k',()) s->Ph (Pn prog w) A (UY ((vs.zip us).zipIdx i) (O2,()) body) R E s:=by
 induction ia with
 | nil=>
  intro us k' i g h
  rw[List.zip_nil_left,V2,Ww]
  exact Pb h
 | cons a t r ih=>
  intro us k' i g h
  induction g with
  | nil=>
   rw[U1,V2,Ww]
   exact Pb h
  | cons b u q ih'=>
   rw[Rt,XH,UZ]
   refine Gt (hb a b t u i _ ?_)
   by_cases e:a=b
   ·rw[O1 e]
    exact ih (i+1) q (by rw[jo,O1 e] at h; exact h)
   ·rw[OY e]
    exact Pb (by rw[jo,OY e] at h; exact h)
theorem n0 (c:PV) (hx:KeyOf s.heap x k) (hy:KeyOf s.heap y k') (h:Q (ltL k k') s):Ph (Pn prog w) A (keyLt' (Xo c) x y) Q E s:=by
 refine bj (hx) λa vs n l ea v=>?_
 clear hx
 subst l
 refine bj (hy) λb us m j eb o=>?_
 clear hy
 subst j
 rw[po]
 refine Gt (To ea rfl (Gt (To eb rfl ?_)))
 simp only[WC]
 refine Gt (yl (λp q t u i R' g=>?_) v 0 o ?_)
 ·dsimp only
  refine Gt (wpAny_eqBool_int ?_)
  by_cases e:p=q
  ·subst e
   rw[O1 rfl] at g
   rw[OY (by simp)]
   exact Pb g
  ·rw[OY e] at g
   rw[O1 (by simpa using e)]
   exact Gt (lV _ (Pb g))
 ·rw[qa] at h
  have l1:=v.length
  have z:=o.length
  cases e:jo k k' with
  | none=>
   rw[e] at h
   refine Pb ?_
   simp only[PJ]
   rw[<- l1,<- z] at h
   exact h
  | some r=>rw[e] at h; exact Pb h
theorem vG (c:PV) (ks:rg (rg O3)):bE (Pn prog w) A E s (λp=>rkL ks (cV s.heap p.1)) (λp=>∃ k∈ks,KeyOf s.heap p.1 k) (Xo c):=by
 intro x y q Q l j hk h
 revert l; intro i
 refine af (i) λk o l=>?_
 clear i
 revert j; intro g
 refine af (g) λn m j=>?_
 clear g
 have e:(qn (decide ((λp:Pc=>rkL ks (cV s.heap p.1)) x<(λp:Pc=>rkL ks (cV s.heap p.1)) y)))=qn (ltL k n):=by
  rw[ms o m,<- eO l,<- eO j]
 rw[e] at h
 rw[lt'_eq]
 refine Pe (Tn ?_)
 rw[hk]
 refine Pe (ZS (Us (n0 c l j ⟨rfl,?_⟩)))
 exact Pr h
theorem y6 (v:Lt):YT v=(do
  if (<- typeOf v) != .type "tuple" then return O2
  return (<- QD v)[0]?):=rfl
theorem lm:∀ {ks:rg (rg O3)}{vs:rg Lt},vs.length=ks.length->(∀ (i:Pa) (v:Lt) (k:rg O3),vs[i]? = qn v->ks[i]? = qn k->KeyOf s.heap v k/\k≠[])->(∀ fs:rg Lt,fs.length=vs.length->(∀ f∈fs,∃ a t,f = .int a t)->Q (fs.map qn) s)->Ph (Pn prog w) A (vs.mapM YT) Q E s
 | [],[],_,_,h=>by rw[YU]; exact Pb (h [] rfl λuu q=>nomatch q)
 | [],_::_,hl,_,_=>by simp at hl
 | _::_,[],hl,_,_=>by simp at hl
 | k::ks,v::vs,hl,hk,h=>by
  refine ae (hk 0 v k rfl rfl) λg l=>?_
  refine bj (g) λa us n j p u=>?_
  clear g
  subst j
  rw[Yy]
  refine Gt ?_
  rw[y6]
  refine Gt (Xp (T:="tuple") (ah _ p rfl) ?_)
  rw[OY (by decide)]
  refine Gt (To p rfl (Pb ?_))
  cases u with
  | nil=>exact Pq rfl l
  | cons x t r=>
   refine Gt (lm (ks:=ks) (vs:=vs) (by simpa using hl) (λi v k z y=>hk (i+1) v k (by simpa using z) (by simpa using y)) λfs o m=>Pb ?_)
   have:=h (.int x t::fs) (by simp[o]) (λf hf=>(PC.mp hf).elim (λe=>(bN x t e)) (m f))
   simpa using this
theorem nV:∀ {fs:rg Lt},(∀ f∈fs,∃ a t,f = .int a t)->Q (fs.map λuu=>.type "int") s->Ph (Pn prog w) A (fs.mapM typeOf) Q E s
 | [],_,h=>by rw[YU]; exact Pb h
 | f::fs,hf,h=>by
  refine bi (hf f (.head _)) λa t g=>?_
  subst g
  rw[Yy]
  refine Gt (Pb (Gt (nV (fs:=fs) (λf h=>hf f (.tail _ h)) (Pb h))))
theorem ov {ks:rg (rg O3)}{vs:rg Lt}{Q:Uw->O0->Prop}(hl:vs.length=ks.length) (h1:1<=vs.length) (hk:∀ (i:Pa) (v:Lt) (k:rg O3),vs[i]? = qn v->ks[i]? = qn k->KeyOf s.heap v k/\k≠[]) (h:Q (Xo vk) s):Ph (Pn prog w) A (Yz vs.toArray) Q E s:=by
 rw[keyKind'_eq,Xq,XI]
 refine Gt (Gt (lm hl hk λo m p=>Pb ?_))
 have n:((o.map qn).toArray.all λx=>x.isSome)=true:=by simp
 rw[O1 n]
 refine Gt (YA ?_)
 have q:((o.map qn).toArray.filterMap id)=o.toArray:=by simp
 rw[q,oneTypeOnly'_eq,Xq,XI]
 refine Gt (Gt (Gt (nV p (Pb ?_))))
 obtain ⟨g,l,rfl⟩:∃ g l,o=g::l:=by
  cases o with
  | nil=>simp at m; exact HP h1 m
  | cons g l=>exact (bN g l rfl)
 have j:((ZT (λuu=>TR "int") (g::l)).toArray.all λx=>x==TR "int")=true:=by
  simp only[List.all_toArray,Xf,Q1]
  intro _ _
  rfl
 have r:(ZT (λuu=>TR "int") (g::l)).toArray[0]? = qn (TR "int"):=by simp
 rw[r]
 simp only[j,Q4]
 exact Pb (Pb h)
end
section
end
theorem rV:mI sg:=λj _ _ g l i k hf h=>ut j g l i k hf h
section
variable {A:PU}{E:Lt->O0->Prop}{s:O0}{rk:Pc->Pa}{ok:Pc->Prop}{κ:Uw}
theorem sR (hlt:bE (Pn prog w) A E s rk ok κ) {st:Px}{Q:UN->Px->Prop}(g:Gd rk ok κ st) (h2:2<=(O8 st).size) (h64:(O8 st).size<64) (hp:PY st = #[]) (hf:Qa st=O2)
  (h:∀ st',(O8 st').Perm (O8 st)->Up rk (O8 st').toList->Qa st' = O2->Q () st'):wpS (Pn prog w) A E s Wu Q st:=wC rV ⟨A,E,s,rk,ok,κ⟩ hlt g h2 (Tw h64 (by decide)) hp hf h
theorem jP (hlt:bE (Pn prog w) A E s rk ok κ) {st:Px}{Q:UN->Px->Prop}(g:Gd rk ok κ st) (h2:2<=(O8 st).size) (h128:(O8 st).size<128) (hp:PY st = #[]) (hf:Qa st=O2)
  (h:∀ st',(O8 st').Perm (O8 st)->Up rk (O8 st').toList->Qa st' = O2->Q () st'):wpS (Pn prog w) A E s Wu Q st:=wC rV ⟨A,E,s,rk,ok,κ⟩ hlt g h2 h128 hp hf h
end
section
variable {A:PU}{E:Lt->O0->Prop}{s:O0}
noncomputable def mZ (v:Lt):Nat:=match v with
 | .int i _=>i.toNat
 | _=>0
theorem we (x y:Lt):keyLt' Xj x y=oneLt' vk x y:=rfl
theorem vd:bE (Pn prog w) A E s (λp=>mZ p.1) (λp=>∃ i t,p.1 = .int i t/\0<=i) oneType':=by
 intro x y n Q k g hk h
 refine aw (k) λi t ex m=>?_
 clear k
 refine aw (g) λj u l o=>?_
 clear g
 have e:(qn (decide (mZ x.1<mZ y.1)))=qn (decide (i<j)):=by
  rw[ex,l]
  show qn (decide (i.toNat<j.toNat))=_
  rw[Tk.mpr (show i.toNat<j.toNat↔i<j by exact JN m)]
 dsimp only at h
 rw[e] at h
 rw[lt'_eq]
 refine Pe (Tn ?_)
 rw[hk,ex,l,we]
 refine Pe (ZS (Us (lV vk ⟨rfl,?_⟩)))
 exact Pr h
end
theorem rA (q a:Pz):VV.«list.sort» ⟨[.ref a],[(mL "key", .ref q)]⟩=(do
  let items <- QD (.ref a)
  Qd (.ref a) λuu=>#[]
  let before <- YB a
  let held <- newTuple items.toList
  let store <- newList []
  Zm [held,store] (do
   rule "list.sort.key"
   for x in items do
    match <- (SV (.ref q) [x]).attempt with
    | .ok k=>Qd store (·.push k)
    | .error e=>
     rule "list.sort.key-raised"
     let made <- QD store
     Qd store λuu=>#[]
     letGo made.toList.reverse [e]
     Qd (.ref a) λuu=>items; throw e
   let keys <- QD store
   let kind <- if items.size<2 then Qq ZU else Yz keys
   let ((),s) <- (if items.size<2 then Qq () else Wu).run (Ug kind (keys.zip items) #[] 7 O2)
   let sorted:=(O8 s).map (·.2)
   Qd store λuu=>#[]
   letGo ((O8 s).map (·.1)).toList (Qa s).toList
   let touched:=(<- YB a) != before
   Qd (.ref a) λuu=>sorted
   if let qn e:=Qa s then rule "list.sort.comparison-raised"; throw e
   if touched then rule "list.sort.modified"; raiseError "ValueError" "list modified during sort"
   ret .none)):=rfl
theorem pS {M:Vz}{A:PU}{E:Lt->O0->Prop}{body:Lt->Xn->Sem (PI Xn)}{Q:Xn->O0->Prop}(I:Pa->O0->Prop):∀ (vs:rg Lt) (i:Pa) (s:O0),I i s ->
  (∀ (j:Pa) (x:Lt) (s':O0),vs[j]? = qn x->I (i+j) s'->Ph M A (body x ⟨⟩) (λr s''=>r = .yield ⟨⟩/\I (i+j+1) s'') E s')->(∀ s',I (i+vs.length) s'->Q ⟨⟩ s')->Ph M A (UY vs PUnit.unit body) Q E s
 | [],i,s,h,_,fin=>by
  rw[Ww]; exact Pb (fin s h)
 | x::vs,i,s,h,step,fin=>by
  rw[UZ]
  refine Gt (QI (step 0 x s rfl h) (λr s' l=>?_) λuu uu e=>e)
  refine ae (l) λk n=>?_
  clear l
  subst k
  refine pS I vs (i+1) s' n (λj y s'' m g=>?_) λs'' g=>fin s'' ?_
  ·have e:i+1+j=i+(j+1):=by exact IV
   rw[e] at g ⊢
   exact step (j+1) y s'' (by simpa using m) g
  ·have e:i+(x::vs).length=i+1+vs.length:=by rw[PR]; exact Fj
   rw[e]; exact g
section
variable {A:PU}{E:Lt->O0->Prop}
theorem Kp.wr (k:Kp s0 s) (e:s.heap.get? a=qn (PN "list" xs n)) (h0:s0.heap.get? a=Ru) (hs:Qg a s.heap h'):Kp s0 {s with heap:=h' }:=by
 revert k; intro g
 refine aw (g) λh j i k=>?_
 clear g
 subst i
 refine ⟨h',j,rfl,K.same k hs h0 λo q=>?_⟩
 rw[e] at q; (have l:=vj q; clear q; subst l); exact Stay.not_list
theorem pU {α:Type}{R:α->α->Prop}{l:rg α}(h:l.length<=1):l.Pairwise R:=by
 rcases l with _ | ⟨x,_ | ⟨y,l⟩⟩
 ·exact .nil
 ·exact VF ..
 ·cases h with
  | step h=>cases h
theorem cN (a:Pf α) (b:rg β):(a.zip b.toArray).toList=a.toList.zip b:=by
 first
  | simp
  | (cases a; simp)
theorem iX {α β:Type}{a:rg α}{b:rg β}{i:Pa}{x:α}{y:β}(h1:a[i]? = qn x) (h2:b[i]? = qn y):(a.zip b)[i]? = qn (x,y):=RU.mpr ⟨h1,h2⟩
set_option maxHeartbeats 4000000 in
theorem r6 {s0 s:O0}{D kS:Pz}{vs keys:rg Lt}{ks:rg (rg O3)}{e e1:Pa}{st:Px}{P:XJ->O0->Prop}(k0:Kp s0 s) (hk:s.heap.get? kS=qn (PN "list" keys.toArray e)) (hD:s.heap.get? D=qn (PN "list" #[] e1)) (f1:s0.heap.get? kS=O2) (f2:s0.heap.get? D=O2) (hne:kS≠D)
  (hl:vs.length=ks.length) (hlk:keys.length=ks.length) (h128:vs.length<128) (hkey:∀ (i:Pa) (v:Lt) (k:rg O3),keys[i]? = qn v->ks[i]? = qn k->KeyOf s.heap v k)
  (hp:(O8 st).Perm (keys.toArray.zip vs.toArray)) (hu:(O8 st).toList.Pairwise λx y=>ltL (cV s.heap y.1) (cV s.heap x.1)=OZ) (hf:Qa st=O2)
  (h:∀ s' out c,Kp s0 s'->s'.heap.get? D=qn (PN "list" out c)->(∃ ps:rg (rg O3×Lt),ps.Perm (ks.zip vs)/\out.toList=ps.map (·.2)/\ps.Pairwise λx y=>ltL y.1 x.1=OZ)->P (.done (.ret .none)) s') :
  Ph (Pn prog w) A (do
   let sorted:=(O8 st).map (·.2)
   Qd (.ref kS) λuu=>#[]
   letGo ((O8 st).map (·.1)).toList (Qa st).toList
   let touched:=(<- YB D) != e1
   Qd (.ref D) λuu=>sorted
   if let qn e:=Qa st then rule "list.sort.comparison-raised"; throw e
   if touched then rule "list.sort.modified"; raiseError "ValueError" "list modified during sort"
   ret .none) P E s:=by
 have o:=P2 s.heap kS (PF λuu=>(#[]:Pf Lt))
 have g:(s.heap.update kS (PF λuu=>(#[]:Pf Lt))).get? D=qn (PN "list" #[] e1):=(o.2 D hne.symm).trans hD
 have u:=P2 (s.heap.update kS (PF λuu=>(#[]:Pf Lt))) D (PF λuu=>(O8 st).map (·.2))
 obtain ⟨n,m⟩:∃ n,((s.heap.update kS (PF λuu=>(#[]:Pf Lt))).update D (PF λuu=>(O8 st).map (·.2))).get? D=qn (PN "list" ((O8 st).map (·.2)) n):=⟨_,R1 g λuu=>(O8 st).map (·.2)⟩
 have j:(O8 st).size=vs.length:=by rw[hp.size_eq,Xs]; simp; exact Im hl hlk
 have k1:=Kp.wr k0 hk f1 o
 have z:=Kp.wr (s:={s with heap:=s.heap.update kS (PF λuu=>(#[]:Pf Lt)) }) k1 g f2 u
 dsimp only
 refine Gt (Sf hk rfl ?_ (by rw[PJ,Qv]; exact IK hl hlk h128) (Qn _))
 refine Gt (ZV ?_)
 refine Gt (UA g rfl ?_)
 refine Gt (Sf g rfl ?_ (Qn _) (by rw[YC,j,Qv]; exact AF h128))
 rw[hf]
 simp only[Ve,PK,Ql]
 refine Pb (h _ _ n z m ⟨(O8 st).toList.map λp=>(cV s.heap p.1,p.2),?_,?_,?_⟩)
 ·have l:(O8 st).toList.Perm (keys.zip vs):=by
   have:=Rx.mp hp
   rwa [cN] at this
  refine (l.map _).trans (TK ?_)
  apply T6
  intro i
  rw[P1]
  by_cases hi:i<ks.length
  ·have t:keys[i]? = qn keys[i]:=Pp (pi hlk hi)
   have r:ks[i]? = qn ks[i]:=Pp hi
   have q:vs[i]? = qn vs[i]:=Pp (pi hl hi)
   rw[iX t q,iX r q]
   simp only[TC]
   rw[eO (hkey i _ _ t r)]
  ·rw[QJ (by rw[Ui]; exact Hj hlk hi),QJ (by rw[Ui]; exact A4 hi)]
   rfl
 ·rw[VG,VW]; rfl
 ·rw[RI]; exact hu
set_option maxHeartbeats 4000000 in
theorem yE {s0 s:O0}{D q:Pz}{vs:rg Lt}{ks:rg (rg O3)}{n:Pa}{P:XJ->O0->Prop}(ho:s.heap.get? D=qn (PN "list" vs.toArray n)) (f2:s0.heap.get? D=O2) (k0:Kp s0 s)
  (hl:vs.length=ks.length) (h128:vs.length<128) (hne:∀ k∈ks,k≠[])
  (hcall:∀ (i:Pa) (x:Lt) (k:rg O3) (s':O0) (Q:Lt->O0->Prop) (Er:Lt->O0->Prop),vs[i]? = qn x->ks[i]? = qn k->Kp s0 s'->(∀ v s'',Kp s' s''->KeyOf s''.heap v k->Q v s'')->Ph (Pn prog w) A (SV (.ref q) [x]) Q Er s')
  (h:∀ s' out c,Kp s0 s'->s'.heap.get? D=qn (PN "list" out c)->(∃ ps:rg (rg O3×Lt),ps.Perm (ks.zip vs)/\out.toList=ps.map (·.2)/\ps.Pairwise λx y=>ltL y.1 x.1=OZ)->P (.done (.ret .none)) s') :
  Ph (Pn prog w) A (VV.«list.sort» ⟨[.ref D],[(mL "key", .ref q)]⟩) P E s:=by
 rw[rA]
 have s1:=P2 s.heap D (PF λuu=>(#[]:Pf Lt))
 obtain ⟨e1,ho1⟩:∃ e1,(s.heap.update D (PF λuu=>(#[]:Pf Lt))).get? D=qn (PN "list" #[] e1):=⟨_,R1 ho λuu=>#[]⟩
 have k1:=Kp.wr k0 ho f2 s1
 refine Gt (To ho rfl ?_)
 refine Gt (Sf ho rfl ?_ (by rw[PJ,Qv]; exact o4 h128) (Qn _))
 refine Gt (UA ho1 rfl ?_)
 refine Gt (Wq ?_ (by show vs.length<=_; rw[Qv]; exact o4 h128))
 refine Gt (SS ?_ (Qn _))
 refine QB ?_
 generalize hkS:((s.heap.update D (PF λuu=>(#[]:Pf Lt))).push (PN "tuple" vs.toArray 0)).objs.size=kS
 have k3:Kp s0 {s with heap:=((s.heap.update D (PF λuu=>(#[]:Pf Lt))).push (PN "tuple" vs.toArray 0)).push (PN "list" #[] 0) }:=(k1.trans (.push _ _ s.toks)).trans (.push _ _ s.toks)
 have hD3:(((s.heap.update D (PF λuu=>(#[]:Pf Lt))).push (PN "tuple" vs.toArray 0)).push (PN "list" #[] 0)).get? D=qn (PN "list" #[] e1):=Pd _ (Pd _ ho1)
 have hK3:(((s.heap.update D (PF λuu=>(#[]:Pf Lt))).push (PN "tuple" vs.toArray 0)).push (PN "list" #[] 0)).get? kS=qn (PN "list" #[] 0):=by rw[<- hkS]; exact PE _ rfl
 have hDk:kS≠D:=by
  rw[<- hkS]
  exact Ut (RH (Pd _ ho1))
 have f1:s0.heap.get? kS=none:=by
  refine (k1.trans (.push _ (PN "tuple" vs.toArray 0) s.toks)).none ?_
  rw[<- hkS]
  exact QC (PH _)
 refine Gt (YA ?_)
 first
  | rw[List.forIn_toArray]
  | (rw[<- WS]; simp only[WC])
  | rw[<- WS]
 refine Gt (pS (λi s'=>Kp s0 s'/\s'.heap.get? D=qn (PN "list" #[] e1)/\∃ (g:rg Lt) (e:Pa),g.length=i/\s'.heap.get? kS=qn (PN "list" g.toArray e)/\∀ (j:Pa) (v:Lt) (k:rg O3),g[j]? = qn v->ks[j]? = qn k->KeyOf s'.heap v k) vs 0 _ ⟨k3,hD3,[],0,rfl,hK3,λj v k hj=>by simp at hj⟩ (λj x s' hj hI=>?_) λs' hI=>?_)
 ·obtain ⟨kp,hD',g,e,m,t,l⟩:=hI
  have hjl:j<ks.length:=by rw[<- hl]; exact (P3.mp hj).1
  have hkj:ks[j]? = qn ks[j]:=Pp hjl
  refine Gt (Us (hcall j x _ s' _ _ hj hkj kp λv s'' k'' kv=>?_))
  have z:=k''.k.get t rfl
  have hD'':=k''.k.get hD' rfl
  have sk:=P2 s''.heap kS (PF (·.push v))
  have ea:g.toArray.push v=(g++[v]).toArray:=by simp
  obtain ⟨c2,hc2⟩:∃ c2,(s''.heap.update kS (PF (·.push v))).get? kS=qn (PN "list" (g++[v]).toArray c2):=⟨_,by rw[<- ea]; exact R1 z (·.push v)⟩
  have kg:KG (λb=>b≠kS) s''.heap (s''.heap.update kS (PF (·.push v))):=KG.same sk (λq=>q rfl) λo q=>by rw[z] at q; (have oc:=vj q; clear q; subst oc); exact Stay.not_list
  dsimp only
  refine Gt (Sf z rfl ?_ (by rw[PJ,Qv]; exact JZ hl h128 m hjl) (If (PL (Array.size_push ..)) (by rw[PJ,Qv]; exact Kk hl h128 m hjl)))
  refine Pb ⟨rfl,Kp.wr (kp.trans k'') z f1 sk,(sk.2 D hDk.symm).trans hD'',g++[v],c2,by rw[Pj,Pm,m],hc2,λi u k hi r=>?_⟩
  by_cases hik:i<g.length
  ·rw[List.getElem?_append_left hik] at hi
   exact ((l i u k hi r).stays k''.k).stays kg
  ·rw[S9 (mj hik)] at hi
   have:i-g.length=0:=by
    have:=(P3.mp hi).1
    simp at this; exact Fq this
   rw[this] at hi
   simp at hi
   subst hi
   have hij:i=j:=by exact Gu m hik this
   subst hij
   rw[hkj] at r; (have oc:=vj r; clear r; subst oc)
   exact kv.stays kg
 ·obtain ⟨kp,hD',g,e,m,t,l⟩:=hI
  have hlk:g.length=ks.length:=by rw[m,<- hl]; exact HV
  refine Gt (To t rfl ?_)
  by_cases h2:vs.toArray.size<2
  ·rw[O1 h2,O1 h2]
   refine Gt (Pb ?_)
   dsimp only
   rw[X8]
   refine Gt (Pb ?_)
   dsimp only
   refine r6 (st:=Ug ZU (g.toArray.zip vs.toArray) #[] 7 O2) kp t hD' f1 f2 hDk hl hlk h128 l (X9 _) ?_ rfl h
   have hz:(g.toArray.zip vs.toArray).toList.length<=1:=by
    rw[cN,Ui]; rw[PJ] at h2; exact FN h2
   show ((g.toArray.zip vs.toArray).toList).Pairwise _
   exact pU hz
  ·rw[OY h2,OY h2]
   rw[PJ] at h2
   refine Gt (ov (ks:=ks) hlk (F3 m h2) (λi v k hi r=>⟨l i v k hi r,hne k (QU r)⟩) ?_)
   have hzs:(g.toArray.zip vs.toArray).size=vs.length:=by rw[Xs]; simp; exact F6 m
   have mem:∀ p∈g.zip vs,∃ k∈ks,KeyOf s'.heap p.1 k:=λp hp=>by
    refine ak (Ta hp) λi hi=>?_
    refine ae (RU.mp hi) λq1 q2=>?_
    have hil:i<ks.length:=by rw[<- hlk]; exact (P3.mp q1).1
    exact ⟨ks[i],RM hil,l i _ _ q1 (Pp hil)⟩
   refine Gt (QI (jP (vG (E:=E) (s:=s') vk ks) (st:=Ug (Xo vk) (g.toArray.zip vs.toArray) #[] 7 O2)
    (Q:=λuu st'=>(O8 st').Perm (g.toArray.zip vs.toArray)/\Qa st' = O2/\Up (λp=>rkL ks (cV s'.heap p.1)) (O8 st').toList) ⟨λp hp=>?_,rfl⟩ (by show 2<=(g.toArray.zip vs.toArray).size; rw[hzs]; exact zr h2) (by show (g.toArray.zip vs.toArray).size<128; rw[hzs]; exact h128) rfl rfl λst' a1 a2 a3=>⟨a1,a3,a2⟩) ?_ λuu uu e=>e)
   ·have hp':p∈(g.toArray.zip vs.toArray).toList:=mem_def.mp hp
    rw[cN] at hp'
    exact mem p hp'
   ·rintro ⟨⟨⟩,st'⟩ s'' ⟨rfl,hp,hf,hu⟩
    dsimp only
    refine r6 kp t hD' f1 f2 hDk hl hlk h128 l hp ?_ hf h
    have hm:∀ p∈(O8 st').toList,∃ k∈ks,KeyOf s''.heap p.1 k:=λp hp'=>by
     have:=(Rx.mp hp).mem_iff.mp hp'
     rw[cN] at this
     exact mem p this
    refine Sg (λ{a b} ha hb hab=>?_) hu
    refine af (hm a ha) λk hk x=>?_
    refine af (hm b hb) λk' t y=>?_
    have hab':rkL ks (cV s''.heap a.1)<=rkL ks (cV s''.heap b.1):=hab
    rw[eO x,eO y] at hab' ⊢
    rw[ms t hk]
    exact Qe (zz hab')
end
section
variable {A:PU}{E:Lt->O0->Prop}{s:O0}
theorem qc {R:Yv->O0->Prop}{r:Pz}{n:Pa}{t u v:Tok}(hh:A.handled=O2) (hr:Xh s.heap r 0 n 1 t u v) (hsmall:UJ 0 n 1=vk) (hn:Ra 0 n 1=n) (hlen:n<=2^24)
  (h:∀ h' tk acc' c',(∀ b o,s.heap.get? b=qn o->h'.get? b=qn o)->h'.get? s.heap.objs.size=qn {cls:=.type "list", dict:=O2,data:=.seq acc' c',slots:=#[] }->ItemsOf (λi v=>∃ t,v = .int (0+i*1) t) acc' n->R (.ok (.ret (.ref s.heap.objs.size))) {s with heap:=h',toks:=tk }) :
  Vc (Pn prog w) A (.builtin "proto.collect" ⟨[.ref r],[]⟩) R s:=by
 refine Yb entry_proto_collect' ?_
 show Ph _ _ (do again (.builtin "list.__iadd__" ⟨[<- newList [],.ref r],[]⟩)) _ _ s
 refine Gt (SS (Pb ⟨Code.quiet_builtin _ (by decide +kernel),Yb entry_list_iadd' ?_⟩))
 show Ph _ _ (Re (.ref s.heap.objs.size) (.ref r) (.ref s.heap.objs.size)) _ _ {s with heap:=s.heap.push (PN "list" #[] 0) }
 rw[Around.under_plainId (by decide +kernel)]
 exact wpAny_extend_range (A:=A) (s:={s with heap:=s.heap.push (PN "list" #[] 0) }) (R:=R) hh (Pd _ hr) hsmall hn hlen s.heap.objs.size (.ref s.heap.objs.size) 0 (PE _ rfl) λh' tk acc' c' hk j g=>
  h h' tk acc' c' (λb o e=>hk b o (Qz (RH e)) (Pd _ e)) j g
theorem oY {r:Pz}{n:Pa}{t u v:Tok}{Q:rg Lt->O0->Prop}(hh:A.handled=O2) (hr:Xh s.heap r 0 n 1 t u v) (hsmall:UJ 0 n 1=vk) (hn:Ra 0 n 1=n) (hlen:n<=2^24)
  (h:∀ h' tk (vs:rg Lt),(∀ b o,s.heap.get? b=qn o->h'.get? b=qn o)->vs.length=n->(∀ (j:Pa) (v:Lt),vs[j]? = qn v->∃ t,v = .int j t)->Q vs {s with heap:=h',toks:=tk }):Ph (Pn prog w) A (collect (.ref r)) Q E s:=by
 unfold collect
 refine Gt (wpAny_runValue (qc hh hr hsmall hn hlen λh' tk acc' c' hk hS hacc=>?_))
 show Ph (Pn prog w) A (do
   let o <- load s.heap.objs.size
   match o.data with
   | .seq xs _=>Qq xs.toList
   | _=>ZR "internal:collect") Q E {s with heap:=h',toks:=tk }
 refine Gt (WT hS ?_)
 refine Pb (h h' tk acc'.toList hk (by rw[Py]; exact hacc.1) λj v hj=>?_)
 refine ak (hacc.2 j v (by simpa using hj)) λt e=>?_
 have q:(0+(j:O3)*1)=j:=by exact Ll
 exact ⟨t,by rw[e,q]⟩
noncomputable def sZ:Lt->Pa
 | .int i _=>i.toNat
 | _=>0
theorem so:∀ (l:rg (rg O3×Lt)),(∀ p∈l,∃ (i:Pa) (t:Tok),p.2 = .int i t)->Ry (l.map (·.2)) ((l.map λp=>(p.1,sZ p.2)).map λp=>(p.2:O3))
 | [],_=>.nil
 | p::l,h=>by
  refine bi (h p (.head _)) λi t e=>?_
  simp only[QE]
  rw[e]
  exact .cons _ t (so l λq g=>h q (.tail _ g))
theorem qH (a v:Lt):argsOk "sorted" ⟨[a],[(mL "key", v)]⟩:=by unfold argsOk; kernel_rfl
theorem uv (a v:Lt):argsOk "list.sort" ⟨[a],[(mL "key", v)]⟩:=by unfold argsOk; kernel_rfl
theorem lz {r q:Pz}{n:Pa}{t u v:Tok}{ks:rg (rg O3)}{Q:Lt->O0->Prop}(hh:A.handled=O2) (hr:Xh s.heap r 0 n 1 t u v) (hsmall:UJ 0 n 1=vk) (hn:Ra 0 n 1=n)
  (hl:ks.length=n) (h128:n<128) (hne:∀ k∈ks,k≠[])
  (hcall:∀ (i:Pa) (x:Lt) (k:rg O3) (s':O0) (Q:Lt->O0->Prop) (Er:Lt->O0->Prop),(∃ t,x = .int i t)->ks[i]? = qn k->Kp s s'->(∀ v s'',Kp s' s''->KeyOf s''.heap v k->Q v s'')->Ph (Pn prog w) A.in1.in1 (SV (.ref q) [x]) Q Er s')
  (h:∀ (D:Pz) (s':O0) (vs:rg Lt) (c:Pa) (ns:rg O3),Kp s s'->s.heap.get? D=O2->s'.heap.get? D=qn (PN "list" vs.toArray c)->Ry vs ns->(∃ ps:rg (rg O3×Pa),ps.Perm (ks.zip (QR n))/\ns=ps.map (λp=>(p.2:O3))/\ps.Pairwise λx y=>ltL y.1 x.1=OZ)->Q (.ref D) s') :
  Ph (Pn prog w) A (SV (.builtin "sorted") [.ref r] [(mL "key", .ref q)]) Q E s:=by
 refine call_function_entry_kw XU Xu Xv (qH _ _) ?_
 unfold VV.«sorted»
 refine Gt (m:=YD "sorted" 1 1 _) (Pb ?_)
 refine Gt (oY (A:=A.in1) hh hr hsmall hn (by exact FJ h128) λh1 tk1 vs kp hvl hvs=>?_)
 refine Gt (SS ?_ (by rw[Qv]; exact tp h128 hvl))
 have hoL:(h1.push (PN "list" vs.toArray 0)).get? h1.objs.size=qn (PN "list" vs.toArray 0):=PE _ rfl
 have k1:Kp s {s with heap:=h1,toks:=tk1 }:=.of kp
 have k2:Kp s {s with heap:=h1.push (PN "list" vs.toArray 0),toks:=tk1 }:=k1.trans (.push _ _ _)
 have f2:s.heap.get? h1.objs.size=none:=k1.none (QC (PH _))
 refine Gt (QB (wpAny_call_entry_kw Wr ⟨_,hoL,rfl⟩ V3 ?body (uv _ _)))
 case body=>
  refine yE (s0:=s) (ks:=ks) hoL f2 k2 (by exact E1 hl hvl) (by exact zE h128 hvl) hne (λi x k s' Q Er hx hk kp' hQ=>hcall i x k s' Q Er (hvs i x hx) hk kp' hQ) λs' out c kp' ho hps=>⟨_,rfl,Pb ⟨_,rfl,?_⟩⟩
  refine aq (hps) λps p1 p2 p3=>?_
  clear hps
  have hm:∀ p∈ps,∃ (i:Pa) (t:Tok),p.2 = .int i t:=λp hp=>by
   have hp':=p1.mem_iff.mp hp
   refine ak (Ta (WU hp').2) λi hi=>?_
   refine ak (hvs i _ hi) λt e=>?_
   exact ⟨i,t,e⟩
  have hmap:vs.map sZ=QR n:=by
   apply T6
   intro i
   rw[P1]
   by_cases hi:i<n
   ·have q:vs[i]? = qn vs[i]:=Pp (by exact pi hvl hi)
    refine ak (hvs i _ q) λt e=>?_
    rw[q,UK hi]
    simp only[TC]
    rw[e]; rfl
   ·rw[QJ (by exact F5 hvl hi),QJ (by simp; exact mj hi)]; rfl
  have ho':s'.heap.get? h1.objs.size=qn (PN "list" out.toList.toArray c):=by rw[Array.toArray_toList]; exact ho
  refine h h1.objs.size s' out.toList c _ kp' f2 ho' (by rw[p2]; exact so ps hm) ⟨ps.map λp=>(p.1,sZ p.2),?_,rfl,?_⟩
  ·refine (p1.map _).trans (TK ?_)
   rw[<- hmap,List.zip_map_right]
   exact UL λ⟨x,y⟩ _=>rfl
  ·rw[RI]; exact p3
end
theorem iu:∀ {ns:rg Str}{vs:rg α}{n:Str},vs.length=ns.length->n∈ns->((ns.zip vs).lookup n).isNone=OZ
 | [],_,_,_,h=>nomatch h
 | m::ns,[],_,h,_=>by simp at h
 | m::ns,v::vs,n,hl,h=>by
  rw[Rt,Qf]
  by_cases e:n=m
  ·(clear h hl; subst e); simp
  ·have g:(n==m)=false:=by simpa using e
   rw[g]
   exact iu (by simpa using hl) ((PC.mp h).resolve_left e)
theorem jJ:∀ {ns:rg Str}{vs:rg Lt},ns.Nodup->vs.length=ns.length->(ns.filterMap λn=>((ns.zip vs).lookup n).map (n,·))=ns.zip vs
 | [],_,_,_=>rfl
 | m::ns,[],_,h=>by simp at h
 | m::ns,v::vs,hn,hl=>by
  rw[Q6] at hn
  rw[UM]
  simp only[Rt,Qf,Rb,TC]
  congr 1
  have k:=jJ hn.2 (vs:=vs) (by simpa using hl)
  have i:∀ (l:rg Str),(∀ n∈l,n≠m)->(l.filterMap λn=>(match n==m with | true=>qn v | false=>(ns.zip vs).lookup n).map (n,·))=l.filterMap λn=>((ns.zip vs).lookup n).map (n,·):=by
   intro l g
   induction l with
   | nil=>rfl
   | cons n l ihl=>
    have p:(n==m)=false:=RD.mpr (g n (.head _))
    rw[UM,UM,ihl λx o=>g x (.tail _ o)]
    simp only[p]
  exact (i ns λn j e=>hn.1 (e▸j)).trans k
theorem pb (a:α) (f:α->Sem β):((Qq a:Sem α)>>=f)=f a:=rfl
theorem DL {α β γ:Type}{l:rg α}{i:β}{f:α->β->Sem (PI β)}{k:β->Sem γ}{z:Sem γ}(h:l=[]) (e:k i=z):(UY l i f>>=k)=z:=by subst h; exact e
theorem uR [Wt c] (h:¬ c) (e:y=z):(if c then x else y)=z:=(OY h).trans e
theorem l9 {ps:rg Str}(h1:fd.params.posonlyargs=[]) (h2:fd.params.args.map (·.arg)=ps) (h3:fd.params.vararg=O2) (h4:fd.params.kwonlyargs=[]) (h5:fd.params.kwarg=O2) (h6:fd.defaults = .none)
  (hn:ps.Nodup) (hl:vals.length=ps.length):W7 fd ⟨vals,[]⟩=Qq (ps.zip vals):=by
 obtain ⟨v,r,⟨t,g,p,z,kd,y,df⟩,bd,q,gl,cl,de,j,o,u,an,cd,ct,bu⟩:=fd
 dsimp only at h1 h2 h3 h4 h5 h6
 subst h1 h3 h4 h5 h6
 have m:(ps.take ps.length).filter (λn=>((ps.zip vals).lookup n).isNone)=[]:=by
  rw[VD,VX]
  intro n h
  rw[iu hl h]
  simp
 have k:(ps++[]).filterMap (λn=>((ps.zip vals).lookup n).map λx=>(n,x))=ps.zip vals:=by rw[SD]; exact jJ hn hl
 subst h2
 refine uR (c:=(decide (vals.length>(g.map (·.arg)).length)&&vk)=vk) (by rw[hl]; simp) ?_
 have i:XK (0-(g.map (·.arg)).length) ([]:rg Lt)=[]:=W5
 refine uR (c:=(!(((g.map (·.arg)).take ((g.map (·.arg)).length-(XK (0-(g.map (·.arg)).length) ([]:rg Lt)).length)).filter λn=>(((g.map (·.arg)).zip vals).lookup n).isNone).isEmpty)=vk) (by rw[i]; show ¬ (!(((g.map (·.arg)).take (g.map (·.arg)).length).filter λn=>(((g.map (·.arg)).zip vals).lookup n).isNone).isEmpty)=vk; rw[m]; simp) ?_
 refine DL (l:=((g.map (·.arg)).drop ((g.map (·.arg)).length-(XK (0-(g.map (·.arg)).length) ([]:rg Lt)).length)).zip (XK (0-(g.map (·.arg)).length) ([]:rg Lt))) (by rw[i]; exact U1) ?_
 exact R2 (λx=>(Qq x:Sem _)) k
noncomputable def CodeV (h:P9) (cv:Lt):Prop:=∃ c o vs q t,cv = .ref c/\h.get? c=qn o/\o.cls = .type "code" /\ o.data = .fields vs/\vs[1]? = qn (.str q t)
theorem CodeV.onG (x:CodeV h cv) (k:KG G h h'):CodeV h' cv :=
 o7 (x) λc o j q t m l i g=>(lW c o j q t m (k.stay l (.inl (aE i (bP _ g.1)))) i g)
theorem tX {pos p:Pos}{c x:Lt}(l:rg Lt) (h:Y5 l) (hx:Vx p (l++[Q7 pos.line,Q7 pos.col,c])=qn x):Vx p l=qn x\/x=c:=by
 fun_induction Y5 l with
 | case1=>
  simp only[WP,Vx,Q7] at hx
  split at hx
  ·(have oc:=vj hx; clear hx; subst oc); exact .inr rfl
  ·exact nN hx
 | case2 a t b u y rest ih=>
  simp only[XM,Vx] at hx ⊢
  split at hx
  ·rename_i hc; rw[O1 hc]; exact .inl hx
  ·rename_i hc; rw[OY hc]; exact ih h hx
 | case3 l h1 h2=>exact h.elim
section
variable {M:Vz}{A:PU}{E:Lt->O0->Prop}{s:O0}
theorem BC (X:CodeOk s.heap env.code q)
  (h:∀ cv h' tk,K s.heap h'->CodeV h' cv->Q cv {s with heap:=h',toks:=tk }):Ph M A (functionCode env pos firstLine name qualname p scope body) Q E s:=by
 refine cQ (X) λc P ps hc _ hI hT hG hP=>?_
 clear X
 cases hf:Vx pos ps.toList with
 | some cv=>
  refine jH (hG.2 pos cv hf) λm o vs q' t Nw r=>?_
  subst Nw
  exact wpAny_functionCode_hit hc hI hf (h _ s.heap s.toks KG.refl (o9 m o vs q' t rfl r))
 | none=>
  refine wpAny_functionCodeX hc hI hT hf λm h' tk hx hge hlt hI' j hT' k=>?_
  have g:=hT.2
  have hcv:CodeV h' (.ref m):=by
   refine aq (k) λuu uu uu x=>?_
   clear k
   refine ae (x) λv _=>?_
   clear x
   refine bp (v) λy vc hoc hcc hdc _=>?_
   clear v
   refine f8 (j) λc₂ ob n u eb i d₂ z=>?_
   clear j
   cases eb
   rw[hoc] at i; (have y:=vj i; clear i; subst y)
   exact (vQ _ y n _ u rfl hoc hcc d₂ z)
  refine h _ h' tk (λb o _ e=>?_) hcv
  by_cases hb:b=P
  ·(clear hI hI' hT; subst hb)
   rw[g] at e
   have eo:=vj e
   refine (ah _ hT'.2 (.tab ps #[Q7 pos.line,Q7 pos.col,.ref m] hP eo.symm rfl λG=>⟨?_,λp cv l=>?_⟩))
   ·have hl:(ps ++ #[Q7 pos.line,Q7 pos.col,Rq m]).toList=ps.toList++[Q7 pos.line,Q7 pos.col,.ref m]:=by simp
    rw[hl]; exact TriplesOk_snoc _ _ _ _ G.1
   ·have hl:(ps ++ #[Q7 pos.line,Q7 pos.col,Rq m]).toList=ps.toList++[Q7 pos.line,Q7 pos.col,.ref m]:=by simp
    rw[hl] at l
    rcases tX _ G.1 l with hh | hh
    ·refine o7 (G.2 p cv hh) λc1 o1 vs1 q1 t1 a1 a2 a3 a4=>?_
     refine (lW c1 o1 vs1 q1 t1 a1 (hx c1 o1 (λq=>?_) a2) a3 a4)
     rw[q,g] at a2; (have y:=vj a2; clear a2; (clear a4; subst y)); cases a3
    ·subst hh; exact hcv
  ·exact (ah o (hx b o hb e) (.same rfl))
noncomputable def LamAt (h:P9) (f:Pz) (params:XC) (body:Expr) (scope:Scope) (clos:rg (Str×Pz)):Prop :=
 ∃ o fd,h.get? f=qn o/\o.data = .func fd/\fd.params=params/\fd.body = .expr body/\fd.scope=scope/\fd.closure=clos/\fd.globals=Q0/\fd.builtins=TN/\fd.defaults = .none/\CodeV h fd.code
theorem LamAt.k (x:LamAt h f params body scope clos) (k:K h h'):LamAt h' f params body scope clos :=
 let ⟨o,fd,a1,a2,a3,a4,a5,a6,a7,a8,a9,a10⟩:=x
 (qI o fd (K.exact k a1 (λuu q=>by rw[a2] at q; cases q) (λuu uu q=>by rw[a2] at q; cases q)) a2 a3 a4 a5 a6 a7 a8 a9 (a10.onG k))
theorem yY (G:GE fns s.heap) (X:CodeOk s.heap env.code q) (hg:env.globals=Q0)
  (hd:defaultsOf params env=([],[])) (hcl:VU scope env=Qq [(x,c)])
  (h:∀ f s',Kp s s'->LamAt s'.heap f params body scope [(x,c)]->Q (.ref f) s'):Ph M A (Tu (.Lambda params body scope pos) env) Q E s:=by
 rw[arm_eval_Lambda,hd]
 refine Gt (Pb (Gt (QB (Pb ?_))))
 rw[makeFunction_eq]
 simp only[U1,List.filterMap_nil,List.isEmpty_nil,Q4,pure_bind]
 unfold makeTail
 rw[hcl,hg]
 refine Gt (Pb ?_)
 simp only[List.isEmpty_cons,PK,Ql]
 refine Gt (wpAny_newTextTuple ?_)
 have m:∀ o:Obj,Kp s {s with heap:=s.heap.push o }:=λo=>.push s o s.toks
 refine Gt (BC (X.k (m _).k) λcv n j r l=>?_)
 have g:=(m _).trans (aC n j rfl r)
 refine v5 (G.bm) λmg bm ob b1 z y v p u t=>?_
 have i:=fX b1 g.k
 refine Gt (wpAny_builtinsFor i z y (g.k.get v (by unfold hardB; rw[p]; decide)) p u t ?_)
 refine Gt (wpAny_nsGet i ?_)
 refine Gt (Pb (R7 (h _ _ (g.trans (.push _ _ j)) ?_) (by size_fits)))
 exact (qI _ _ (PE _ rfl) rfl rfl rfl rfl rfl rfl rfl rfl (l.onG (Kp.push {s with heap:=n,toks:=j } _ j).k))
end
section
theorem uP {R:Yv->O0->Prop}{e:Expr}{env:Env}
  (h:Ph (Pn prog w) (A.deeper env) (Tu e env) (λv s'=>R (.ok (.ret v)) s') (λuu uu=>Qj) s):Vc (Pn prog w) A (.expr e env) R s:=by
 refine Yc ?_
 show Ph _ (A.deeper env) (do point; ret (<- (Tu e env).onRaise (Yk env))) _ _ s
 exact Gt (ZW (Gt (wpAny_onRaise (QI h (λv s' g=>Pb g) λuu uu g=>g.elim))))
theorem y9 (hroom:A.depth<Rv) (nl:s.heap.NoLimit) (L:LamAt s.heap f params body scope [(x,c)])
  (h1:params.posonlyargs=[]) (h2:params.args.map (·.arg)=[t]) (h3:params.vararg=O2) (h4:params.kwonlyargs=[]) (h5:params.kwarg=O2)
  (hk:scope.kind = .function) (hg:scope.isGenerator=OZ) (hc:scope.isCoroutine=OZ) (hn:scope.names=[(t,.local),(x,.free)]) (hxt:x≠t)
  (h:∀ env s',Kp s s'->env.scope=scope->env.globals=Q0->env.builtins=TN->env.cells=[(x,c)]->s'.heap.Ns env.locals (λy=>[(t,v)].reverse.lookup y)->CodeV s'.heap env.code ->
   Ph (Pn prog w) (A.deeper env) (Tu body env) Q (λuu uu=>Qj) s'):Ph (Pn prog w) A (SV (.ref f) [v]) Q Er s:=by
 refine wq (L) λo j ho hd n p2 l p4 p5 p6 p7 p8=>?_
 clear L
 have hb:W7 j ⟨[v],[]⟩=Qq ([t].zip [v]):=l9 (by rw[n]; exact h1) (by rw[n]; exact h2) (by rw[n]; exact h3) (by rw[n]; exact h4) (by rw[n]; exact h5) p7 (by simp) rfl
 refine YE (Yc ?_)
 show Ph _ A.in1 (callAny (.ref f) ⟨[v],[]⟩) _ _ s
 simp only[callAny]
 refine Gt (WT ho ?_)
 refine wo (p8) λc' oc vs q tq hc' p u i hq=>?_
 clear p8
 have r:j.scope.isGenerator=false:=by rw[l]; exact hg
 have hco:j.scope.isCoroutine=false:=by rw[l]; exact hc
 simp only[hd,callFunction,hco,r,p2,hc']
 refine Gt (m:=field (.ref c') 1) (UB p i hq (Gt (Pb ?_)))
 rw[hb]
 refine Gt (Pb (Gt (wpAny_newFunctionEnv (λy hy=>?_) (λy hy=>?_) (λg hns hsb=>?_) (by rw[l]; exact hk))))
 ·rw[l,hn] at hy
  rcases PC.mp hy with rfl | hy
  ·exact λq=>by cases q
  ·rw[O7.mp hy]; exact λq=>by cases q
 ·rw[l,hn]
  have:y=(t,v):=by simpa using hy
  rw[this]; simp
 ·have z:Kp s {s with heap:=g,toks:=s.toks+([t].zip [v]).length }:=(aC g _ rfl (.of λb o e=>hsb.extBut b o (Qz (RH e)) (Pd _ e)))
  refine Gt (wpAny_enterFrame (kW nl z.k) hroom (Pb ⟨rfl,uP ?_⟩))
  exact h (newEnv j.scope s.heap.objs.size j.globals j.closure (q ++ ".<locals>.") (qn f) (.ref c') O2 j.builtins) _ z l p5 p6 p4 hns (vQ c' oc vs q tq rfl (z.k.stay p (.inl (aE u (bP _ i)))) u i hq)
end
theorem ya (h:dT ns i=dT ns j):i=j:=by
 unfold dT at h
 simp at h
 have:=h.2
 exact JC h
theorem uf {ps:rg (rg O3×Pa)}(hp:ps.Perm (((QR ns.length).map (dT ns)).zip (QR ns.length))) (hu:ps.Pairwise λx y=>ltL y.1 x.1=OZ):(ps.map λp=>(p.2:O3))=bz ns:=by
 have o:((QR ns.length).map (dT ns)).zip (QR ns.length)=(QR ns.length).map λi=>(dT ns i,i):=by
  apply T6
  intro i
  by_cases hi:i<ns.length
  ·rw[iX (x:=dT ns i) (y:=i) (by simp[hi]) (by simp[hi])]
   simp[hi]
  ·rw[QJ (by simp; exact mj hi),QJ (by simp; exact mj hi)]
 rw[o] at hp
 unfold bz
 congr 1
 have n:=Qu ((QR ns.length).map λi=>(dT ns i,i)) (λa b=>!ltL b.1 a.1)
 have t:=Rz (le:=λ(a b:rg O3×Pa)=>!ltL b.1 a.1) (λa b c k g=>by
  simp only[P0] at k g ⊢
  cases q:ltL c.1 a.1 with
  | false=>rfl
  | true=>
   cases r:ltL a.1 b.1 with
   | true=>rw[cX q r] at g; exact nT g
   | false=>rw[<- fm r k,q] at g; cases g) (λa b=>by
  cases q:ltL b.1 a.1 with
  | false=>simp
  | true=>
   cases r:ltL a.1 b.1 with
   | true=>have:=cX q r; rw[iM] at this; exact nF this
   | false=>simp) ((QR ns.length).map λi=>(dT ns i,i))
 refine YV (le:=λa b=>ltL b.1 a.1=OZ) (λa b v u k g=>?_) hu (t.imp λh=>by simpa using h) (hp.trans n.symm)
 have e:=fm g k
 refine aJ (hp.mem_iff.mp v) λi _ m=>?_
 subst m
 refine aJ (n.mem_iff.mp u) λj _ l=>?_
 subst l
 have:=ya e
 subst this
 rfl
theorem w9 (ns:rg O3):(bz ns).length=ns.length:=by
 unfold bz
 rw[Pi,(Qu _ _).length_eq,Pi,Vf]
theorem yF (h:aM xs=qn ns):xs=ns.map .int:=by
 induction xs generalizing ns with
 | nil=>(have i:=vj h; clear h; subst i); rfl
 | cons x xs ih=>
  cases x with
  | int j=>
   refine bI (show (aM xs).map (j :: ·)=qn ns from h) λl k g=>?_
   subst g
   rw[ih k]; rfl
  | _=>exact nN h
noncomputable def qr (x t:OX) (xs:rg Pk) (i:Pa):St:=λy=>if y=x then qn (.d (.list xs),.sh) else if y=t then qn (mk (.d (.int i))) else O2
theorem Cb (hxt:x≠t) (hi:i<ns.length):∃ m,ev (λ_=>O2) (lN x t) (qr x t (ns.map .int) i) = .ok (.d (.tuple ((dT ns i).map .int)),m):=by
 have h:qr x t (ns.map .int) i x=qn (.d (.list (ns.map .int)),.sh):=O1 rfl
 have g:qr x t (ns.map .int) i t=qn (mk (.d (.int i))):=(OY (QA hxt)).trans (O1 rfl)
 have j:fy (.list (ns.map .int)) (.int i) = .ok (mk (.d (.int (ns.getD i 0)))):=by
  have:elem (.list (ns.map .int)) i=qn (.int (ns.getD i 0)):=by
   show (bl (i:O3) (ns.map PA).length).bind (λk=>(ns.map PA)[k]?)=_
   unfold bl
   rw[O1 Ai,O1 (by rw[Pi]; exact DH hi)]
   simp[hi]
  show am (cT (.int (i:O3))) _=_
  show am (elem (.list (ns.map .int)) i) _=_
  rw[this]; rfl
 refine ⟨.deep,?_⟩
 unfold lN
 simp only[cK,eY,kF,hW,gV,gB,gq,ei,eJ,eu,fN,bH,eA,gQ,d7,c6,fB,gu,e8,fo,gv,eZ,dl,fR,bg,bk,h,g,Out.ok_bind,mk,j]
 rfl
section
theorem wd {id:OX}{args:rg Expr}{kws:rg Zi}{A:PU}{env:Env}{p pos:Pos}{s:O0}{Q:Lt->O0->Prop}{Er:Lt->O0->Prop}(eok:EnvOk env) (ge:GE fns s.heap) (hm:id∈bnames) (hg:cb env.scope.names id=vk) (hd:(mL id==("__debug__" : Str))=OZ)
  (h:Ph (Pn prog w) A (VA pos (bval id) [] (RO pos (Qm args env)) (ZX pos (XV kws env))) Q Er s):Ph (Pn prog w) A (Tu (.Call (.Name (mL id) p) args kws pos) env) Q Er s:=by
 refine aq (ge.glob) λl i _ g=>?_
 refine af (ge.blt) λm k j=>?_
 show Ph _ A (do VA pos (<- Tu (.Name (mL id) p) env) [] (RO pos (Qm args env)) (ZX pos (XV kws env))) Q Er s
 exact Gt (Calls.Name_function_global eok.kind (fc hg) (Calls.loadGlobal_builtin (eok.glob▸i) (g id hm) (eok.blt▸k) (j id hm) h) hd)
theorem xw (hn:sc.names=[(t,.local),(x,.free)]) (hc:env.cells.lookup x=qn c):VU sc env=Qq [(x,c)]:=by
 unfold VU
 rw[hn]
 simp only[UZ,Ww]
 have e:Zo env x=Qq c:=by unfold Zo; rw[hc]
 rw[e]
 rfl
theorem star_call' (ys:rg Expr) (env:Env):Qm (.Call f xs ks p::ys) env=(OZ,Tu (.Call f xs ks p) env)::Qm ys env:=rfl
set_option maxHeartbeats 1000000 in
theorem uK (hf:fns.hand=OZ) (hk1:∀ g,C "law" = qn g->fns.lam=vk) (Sl:SimE fns k C XP (.bi1 .len (.name x))) (Sb:SimE {fns with lam:=OZ,hand:=vk } 0 (λ_=>O2) (λ_ _ _ _=>Qj) (lN x t)):SimE fns k C XP (.order x t):=by
 intro ex A env σ P s Q Er ok X nb hQ hE
 replace ok:=CD ok
 rcases ok with ⟨id,p,jd,p2,y,p3,ar,body,sc,p4,p5,pos,rfl,ok⟩ | ok
 ·simp only[O9,Pv] at ok
  refine ae (ok) λNn obd=>?_
  clear ok
  refine ae (Nn) λNo olm=>?_
  clear Nn
  refine ae (No) λNu o=>?_
  clear No
  refine ae (Nu) λNx hg'=>?_
  clear Nu
  refine ae (Nx) λNp Nl=>?_
  clear Nx
  refine ae (Np) λNq hg=>?_
  clear Np
  subst Nq
  subst Nl
  unfold w8 at olm
  simp only[O9,PM,P0,Uu,SC] at olm
  refine ae (olm) λNt hcl=>?_
  clear olm
  refine ae (Nt) λNv hxt=>?_
  clear Nt
  refine ae (Nv) λNy b4=>?_
  clear Nv
  refine ae (Ny) λNz b3=>?_
  clear Ny
  refine ae (Nz) λNA b2=>?_
  clear Nz
  refine ae (NA) λNC b1=>?_
  clear NA
  refine ae (NC) λNF a7=>?_
  clear NC
  refine ae (NF) λNG a6=>?_
  clear NF
  refine ae (NG) λNH a5=>?_
  clear NG
  refine ae (NH) λNI a4=>?_
  clear NH
  refine ae (NI) λNJ a3=>?_
  clear NI
  refine ae (NJ) λa1 a2=>?_
  clear NJ
  simp only[cK,eY,kF,hW,gV,gB,gq,ei,eJ,eu,fN,bH,eA,gQ,d7,c6,fB,gu,e8,fo,gv,eZ,dl,fR] at nb hQ hE
  cases hCl:C "law" with
  | none=>rw[hCl] at nb; exact Pq rfl nb
  | some g=>
   rw[hCl] at nb hQ
   have hk:=hk1 g hCl
   clear hE
   have nb':fj (σ x)≠.bad:=nb
   cases hσ:σ x with
   | none=>rw[hσ] at nb'; exact Pq rfl nb'
   | some q=>
    obtain ⟨V,m⟩:=q
    have hov:∃ l:rg O3,V = .d (.list (l.map .int))/\l.length<128/\fj (σ x) = .ok (.d (.list ((bz l).map .int)),.deep):=by
     rw[hσ] at nb' ⊢
     cases hd:asD V with
     | none=>exact Pq (show fj (qn (V,m)) = .bad by unfold fj; show am (asD V) _=_; rw[hd]; rfl) nb'
     | some d=>
      cases hl:asL d with
      | none=>exact Pq (show fj (qn (V,m)) = .bad by unfold fj; show am (asD V) _=_; rw[hd]; show am (asL d) _=_; rw[hl]; rfl) nb'
      | some xs=>
       cases hi:aM xs with
       | none=>exact Pq (show fj (qn (V,m)) = .bad by unfold fj; show am (asD V) _=_; rw[hd]; show am (asL d) _=_; rw[hl]; show am (aM xs) _=_; rw[hi]; rfl) nb'
       | some l=>
        have e:fj (qn (V,m))=if l.length<128 then .ok (.d (.list ((bz l).map .int)),.deep) else .bad:=by
         unfold fj; show am (asD V) _=_; rw[hd]; show am (asL d) _=_; rw[hl]; show am (aM xs) _=_; rw[hi]; rfl
        by_cases u:l.length<128
        ·rw[O1 u] at e
         refine ⟨l,?_,u,e⟩
         rw[bK hd,cW hl,yF hi]
        ·rw[e,OY u] at nb'; exact Pq rfl nb'
    revert hov; intro Ov
    refine aq (Ov) λl NQ u hov=>?_
    clear Ov
    subst NQ
    have hvk:varK env.scope.names x=true:=by
     unfold xG at o
     refine aj o λ_ _ o=>?_
     refine aj o λ_ _ o=>?_
     simp only[O9] at o
     refine aj o.2 λ_ _ o=>?_
     simp only[O9] at o
     exact o.1.2
    refine ay (X.vars x _ hσ hvk) λva as hvi NM _=>?_
    refine ae (NM) λhra hza=>?_
    clear NM
    have hcell:∃ c,env.cells.lookup (mL x)=qn c/\s.heap.IsCell c (qn va):=by
     cases hvi with
     | loc m b c d=>exact Pq b (by unfold VO; rw[hcl]; simp)
     | cell c b d e=>exact ⟨c,d,e⟩
    refine af (hcell) λc hcl1 hcl2=>?_
    clear hcell
    have he:ev C (.bi1 .len (.name x)) σ = .ok (sI l.length):=by
     simp only[cK,eY,kF,hW,gV,gB,gq,ei,eJ,eu,fN,bH,eA,gQ,d7,c6,fB,gu,e8,fo,gv,eZ,dl,fR]
     rw[hσ]
     show Out.bind (.ok (mk (.d (.list (l.map .int))))) _=_
     rw[Out.ok_bind]
     show Out.ok (sI ((l.map PA).length:O3))=_
     rw[Pi]
    have on:okE env.scope.names (.bi1 .len (.name x)) y=true:=o
    refine wd X.eok X.ge (id:="sorted") (by decide) hg (by decide) ?_
    refine callWith_kw ?_
    refine Rp ?_ (star_call' [] env)
    refine hY X.eok X.ge (id:="range") (by decide) hg' (by decide) (hJ (T:="range") _ on rfl (iY _ on (Sl on X (by rw[he]; simp) (λr hr v j Ea=>?_) λc hc=>by rw[he] at hc; cases hc)))
    rw[he] at hr
    (have oc:=Out.ok.inj hr; clear hr; subst oc)
    obtain ⟨ka,as',ra,_,_,_⟩:=Ea
    refine ra.1.isInt_k λtk NS _=>?_
    subst NS
    refine Zn (TJ ?_)
    have k2:Kp s {j with heap:=j.heap.push {cls:=.type "range", data:=.fields #[.int 0 j.toks,.int (l.length:O3) tk,.int 1 (j.toks+1)] },toks:=j.toks+1+1 }:=ka.trans (.push _ _ _)
    generalize hs2:{j with heap:=j.heap.push {cls:=.type "range", data:=.fields #[.int 0 j.toks,.int (l.length:O3) tk,.int 1 (j.toks+1)] },toks:=j.toks+1+1 }=s₂ at k2 ⊢
    have hr2:Xh s₂.heap j.heap.objs.size 0 l.length 1 j.toks tk (j.toks+1):=by rw[<- hs2]; exact XT ..
    clear hs2
    refine kws_cons ?_
    refine ak (X.code hk) λqn hcode=>?_
    have hdef:defaultsOf ar env=([],[]):=by
     cases ar
     dsimp only at a5 a7
     subst a5 a7
     rfl
    refine yY (X.ge.k k2.k) (hcode.k k2.k) X.eok.glob hdef (xw b4 hcl1) λf s₃ k3 L=>kws_nil ?_
    have k23:=k2.trans k3
    have hsz:Ra 0 l.length 1=(l.length:O3):=by rw[YS]; split<;>lia
    have hr3:Xh s₃.heap j.heap.objs.size 0 l.length 1 j.toks tk (j.toks+1):=k3.k.get hr2 rfl
    show Ph (Pn prog w) A (SV (.builtin "sorted") [.ref j.heap.objs.size] [(mL "key", .ref f)]) Q Er s₃
    refine lz (ks:=(QR l.length).map (dT l)) (X.room.1 hf) hr3 (small_one Hq Ez KK (Fa u)) hsz (by simp) u (λk hk=>?_) (λi xv kk s' Q' Er' hx hkk kp' hQ'=>?_) λD s' vs cc ns' kp' fD hD hI hps=>?_
    ·refine aJ hk λi _ NR=>?_
     subst NR
     simp[dT]
    ·refine ak (hx) λti NO=>?_
     clear hx
     subst NO
     have hil:i<l.length:=by
      have:=(P3.mp hkk).1
      simpa using this
     have hkk':kk=dT l i:=by
      rw[P1,UK hil] at hkk
      (have oc:=vj hkk; clear hkk; subst oc); rfl
     subst hkk'
     refine ae (X.room.at hf) λr1 r2=>?_
     have ks':=k23.trans kp'
     refine y9 (show A.depth<Rv by exact Jz r1) (kW X.ge.nolim ks'.k) (L.k kp'.k) a1 a2 a3 a4 a6 b1 b2 b3 b4 (λq=>hxt (cr q)) λenv' s'' kp'' e1 e2 e3 e4 hns hcv=>?_
     have kall:=ks'.trans kp''
     have hkd:∀ n,env'.kindOf n=[(mL t,NameKind.local),(mL x,Q3)].lookup n:=λn=>by unfold VO; rw[e1,b4]
     have hxn:(mL x==mL t)=false:=RD.mpr λq=>hxt (cr q)
     have cx:Cx {fns with lam:=OZ,hand:=vk } 0 (A.in1.in1.deeper env') (λ_=>Wa) s''.heap env' (qr x t (l.map .int) i):=by
      refine ⟨⟨λq=>(by cases q),by show A.depth+1+2*0+1<Rv; exact Ip r1,by show A.units+1+1+3+100*0+200<UV; exact Eo r2⟩,⟨by rw[e1]; exact b1,e2,e3,λn hn=>?_⟩,(X.ge.k kall.k).flag OZ vk,(λh=>by cases h),(λh=>by cases h),λy' p' z _=>?_⟩
      ·rw[hkd] at hn
       refine ⟨c,?_⟩
       rw[e4]
       simp only[Qf,List.lookup_nil] at hn ⊢
       cases q1:n==mL t with
       | true=>rw[q1] at hn; simp at hn
       | false=>
        rw[q1] at hn
        cases q2:n==mL x with
        | true=>rfl
        | false=>rw[q2] at hn; simp at hn
      ·unfold qr at z
       by_cases hyx:y' = x
       ·subst hyx
        rw[O1 rfl] at z; (have oc:=vj z; clear z; subst oc)
        refine ⟨va,as,.cell c (.inr ?_) ?_ (iT hcl2 kall.k),⟨hra.k kall.k,hza⟩,λ_ _=>trivial⟩
        ·rw[hkd]; simp only[Qf,hxn]; simp
        ·rw[e4]; simp
       ·rw[OY hyx] at z
        by_cases hyt:y' = t
        ·subst hyt
         rw[O1 rfl] at z; (have oc:=vj z; clear z; subst oc)
         refine ⟨.int i ti,[],.loc _ ?_ hns ?_,⟨.int i ti,rfl⟩,λ_ _=>trivial⟩
         ·rw[hkd]; simp
         ·simp
        ·rw[OY hyt] at z; exact nN z
     refine ak (Cb (x:=x) (t:=t) hxt hil) λmm hev=>?_
     have obd':okE env'.scope.names (lN x t) body=true:=by rw[e1]; exact obd
     refine Sb obd' cx (by rw[hev]; simp) (λr hr v s4 E4=>?_) λ_ _ _ _ h=>h
     rw[hev] at hr
     (have oc:=Out.ok.inj hr; clear hr; subst oc)
     obtain ⟨k4,as4,NU,_⟩:=E4
     refine ae (NU) λr4 _=>?_
     clear NU
     exact hQ' v s4 (kp''.trans k4) (KeyOf.ofR r4)
    ·refine aq (hps) λps p1 p2 p3=>?_
     clear hps
     have e:=uf p1 p3
     rw[<- p2] at e
     subst e
     refine hQ _ hov _ _ ?_
     have ef:fresh ((bz l).map PA) = .deep:=by
      unfold fresh
      rw[O1]
      rw[Xf,Q1]
      intro _ _; rfl
     rw[<- ef]
     exact EP.aList (as:=[]) (k23.trans kp') (k23.none fD) hD (RA.of_ints hI) (by rw[Pi,w9]; exact zR u) (gS _) λ_ h=>(nomatch h)
 ·cases ok
end
def RawD (h:P9) (d:Pz) (es:Pf Vy) (ep:Pa):Prop:=∃ o,h.get? d=qn o/\o.cls = .type "dict" /\ o.data = .dict es ep
theorem RawD.typ {s:O0}{d:Pz}{es:Pf Vy}{ep:Pa}(x:RawD s.heap d es ep):s.TypeIs (.ref d) "dict" := aq (x) λo h g uu=>(ah o h g)
theorem RawD.at (x:RawD h d es ep) (k:∀ o,h.get? d=qn o->h'.get? d=qn o):RawD h' d es ep:=af (x) λo g r=>(ah o (k o g) r)
section
variable {A:PU}{E:Lt->O0->Prop}{s:O0}{d it:Pz}{es:Pf Vy}{ep i:Pa}
theorem y8 {Q:Lt->O0->Prop}(hd:(d==UW)=OZ) (hm:RawD s.heap d es ep)
  (hQ:Q (.ref s.heap.objs.size) {s with heap:=s.heap.push {cls:=.type "dict_keyiterator", data:=.fields #[.ref d,.int 0 0,.int es.size 0,.int ep 0] } }) :
  Ph (Pn prog w) A (XF (.ref d)) Q E s:=by
 have h:=hm.typ
 refine aq (hm) λo i j g=>?_
 clear hm
 refine wpAny_pyIter_slot h XN (Uj XN h F.entry_dict_iter ?_ (F.args_dict_iter_1 _))
 unfold VV.«dict.__iter__»
 refine Gt ?_
 unfold YN
 refine Gt (wpAny_notOrdered_dict h (Pb ?_))
 show Ph _ _ (Wd d>>=_) _ _ s
 unfold Wd
 rw[OY (by rw[hd]; exact U2)]
 refine Gt (Pb (Gt (Xw i g (Gt (Yd i g ?_)))))
 refine Gt (R7 (Pb (ah _ rfl (aP ("dict_keyiterator") _ (ah _ (PE _ rfl) rfl) SO.lookup ?_))))
 simpa [Q7] using hQ
theorem qd (hh:A.handled=O2) (hit:s.heap.IsKeyIter it d i es.size ep) (hm:RawD s.heap d es ep)
  (hQ:∀ (hi:i<es.size) h',h'.IsKeyIter it d (i+1) es.size ep->Qg it s.heap h'->Q (qn es[i].key) {s with heap:=h' })
  (hE:es.size<=i->∀ h',Heap.ExtBut it s.heap h'->Q O2 {s with heap:=h' }):Ph (Pn prog w) A (pyNext (.ref it)) Q E s:=by
 refine aq (id hit) λo p r n=>?_
 refine aq (hm) λt j q l=>?_
 clear hm
 unfold pyNext
 refine Gt (Us (wpAny_callSpecial?_slot (name:=mL "__next__") hit.typeIs SO
  (Uj SO hit.typeIs F.entry_dict_keyiterator_next ?_ (F.args_dict_keyiterator_next_1 _))))
 refine Gt (Pb (Gt (Gt ?_)))
 first | refine Gt (Sv hit.typeIs (Pb ?_)) | refine Gt (TD hit.typeIs (Pb ?_))
 refine Gt (wpAny_fieldsOf p n ?_)
 have h:Ye "dict_keyiterator" = false:=by decide
 rw[h,OY U2]
 show Ph _ _ (if (Rq d==SH)=vk then _ else _) _ _ s
 rw[OY (show ¬ ((Rq d==SH)=vk) from U2)]
 refine Gt (Pb (Gt (Xw j l ?_)))
 rw[OY (by simp)]
 refine Gt (Pb (Gt (Yd j l ?_)))
 rw[OY (by simp)]
 refine Pb ?_
 by_cases hi:i<es.size
 ·dsimp only
  rw[OY (show ¬ ((i:O3)<0) from by exact Aj),T7,RT hi]
  dsimp only
  refine Gt ?_
  first | refine Gt (Sv hit.typeIs (Pb ?_)) | refine Gt (TD hit.typeIs (Pb ?_))
  refine Gt (We hit.typeIs ?_)
  show Ph _ _ (ZY (.ref it) 1 (Q7 ((i:O3)+1))>>=_) _ _ s
  refine Gt (T8 p n (by simp) ?_)
  have g:(s.heap.update it (TF (·.setIfInBounds 1 (Q7 ((i:O3)+1))))).IsKeyIter it d (i+1) es.size ep :=
   (aG _ (P4 _ p (Ud (SI n _))) ((Vg ..).trans r) (by rw[SI n]; simp[Q7]))
  refine Gt (QB (Gt (We (s:={s with heap:=s.heap.update it (TF (·.setIfInBounds 1 (Q7 ((i:O3)+1)))) }) g.typeIs ?_)))
  show Ph _ _ (Qq es[i].key) _ _ _
  exact Pb (Pb (ah _ rfl (Pb (hQ hi _ g (P2 ..)))))
 ·have k:es.size<=i:=by exact mj hi
  dsimp only
  rw[OY (show ¬ ((i:O3)<0) from by exact Aj),T7,Array.getElem?_eq_none k]
  dsimp only
  refine Gt ?_
  first | refine Gt (Sv hit.typeIs (Pb ?_)) | refine Gt (TD hit.typeIs (Pb ?_))
  show Ph _ _ (ZY (.ref it) 0 .none>>=_) _ _ s
  refine Gt (T8 p n (by simp) ?_)
  show Ph _ _ (newExc (.type "StopIteration") []>>=_) _ _ _
  refine Gt ?_
  simp only[newExc,newTuple]
  refine Gt (R7 ?_ (by size_fits))
  refine Gt (m:=YF _ _) (ZZ (a:=SH) (by first | rfl | (simp only[YF]; rfl)) ?_)
  refine R7 ?_ (by size_fits)
  simp only[raiseNew]
  refine Gt (wpAny_handled ?_)
  rw[show A.in1.handled=O2 from hh]
  refine Gt (Pb (wpAny_throw ?_))
  refine Gt (XO (T:="StopIteration") (b:=vk) (ah _ (PE _ rfl) rfl) isSubtype_stop ?_)
  exact Pb (hE k _ (((P2 ..).extBut.push _).push _))
end
theorem wE {A:PU}(hh:A.handled=O2) (I d:Pz) (hne:d≠I) (es:Pf Vy) (ep:Pa) :
  Walks prog w A I [I,d] [I] es.size (λi v=>∃ hi:i<es.size,v=es[i].key) (λi h=>h.IsKeyIter I d i es.size ep/\RawD h d es ep) where
 sub:=λb j=>by simp at j; simp[j]
 frame:=λuu uu uu g hk=>⟨g.1.at λo e=>hk I (by simp) o e,g.2.at λo e=>hk d (by simp) o e⟩
 item:=λi s Q E hi g m=>qd hh g.1 g.2 (λn r l k=>m _ r s.toks ⟨n,rfl⟩ ⟨l,g.2.at λo e=>k.extBut d o hne e⟩ λb o j e=>k.extBut b o (λh=>j (by simp[h])) e) λp=>Pq hi (Ys.mpr p)
 done:=λs Q E g m=>qd hh g.1 g.2 (λhi=>Pq hi (Uf _)) λuu r q=>m r s.toks λb o j e=>q b o (λh=>j (by simp[h])) e
 self:=λuu uu uu uu g m=>wpAny_pyIter_keyiter g.1 m
section
variable {A:PU}{E:Lt->O0->Prop}{s:O0}{d S:Pz}{es:Pf Vy}{ep:Pa}
theorem vR (hT:s.TypeIs (.ref d) "dict") (h:Q OZ s):Ph (Pn prog w) A (UQ (.ref d)) Q E s:=by
 unfold UQ
 refine Gt (wpAny_specialOf hT ZB.lookup ?_)
 generalize g:("dict.__len__" : OX)=id0
 wp_delta
 rw[show splitId id0=qn ("dict", "__len__") from by subst g; decide +kernel]
 subst g
 refine Gt (XO (T:="dict") (b:=vk) hT (by rw[isSubtype_type]; kernel_rfl) ?_)
 refine V4 (λq=>Pq q (by decide)) λuu=>V4 (λuu=>Gt (Xp hT (Pb h))) λq=>Pq (by decide +kernel) q
theorem tT {R:Yv->O0->Prop}(lo:(d==UW)=OZ) (hh:A.handled=O2) (hm:RawD s.heap d es ep) (hn:es.size<=RC) (hSd:S≠d) {co:Pa}(hS:s.heap.get? S=qn {cls:=.type "list", data:=.seq #[] co })
  (hR:∀ h' tk acc' c',(∀ b o,b≠S->s.heap.get? b=qn o->h'.get? b=qn o)->h'.get? S=qn {cls:=.type "list", dict:=O2,data:=.seq acc' c',slots:=#[] }->ItemsOf (λi v=>∃ hi:i<es.size,v=es[i].key) acc' es.size->R (.ok (.ret .none)) {s with heap:=h',toks:=tk }) :
  Ph (Pn prog w) A.in1 (Re (.ref S) (.ref d) .none)
   (λfin s'=>match fin with | .done f=>R (.ok f) s' | .again c'=>c'.quiet=vk/\Vc (Pn prog w) A c' R s') (λe s'=>R (.error e) s') s:=by
 have z:S≠s.heap.objs.size:=Qz (RH hS)
 have y:d≠s.heap.objs.size:=af (hm) λuu e uu=>Qz (RH e)
 have t:S∉[s.heap.objs.size,d]:=by simp only[PC,Sw,UC,not_or]; exact ⟨z,hSd⟩
 have W:=wE (A:=A.in1) hh s.heap.objs.size d y es ep
 have l:∀ (h:P9) (k tk:Pa),(h.IsKeyIter s.heap.objs.size d 0 es.size ep/\RawD h d es ep)->(∀ b o,b≠S->s.heap.get? b=qn o->h.get? b=qn o) ->
   h.get? S=qn {cls:=.type "list", data:=.seq #[] k }->Vc (Pn prog w) A (.builtin "list.extend.loop" ⟨[.ref S,.ref s.heap.objs.size,.none],[]⟩) R {s with heap:=h,toks:=tk }:=λh k tk x hk g=>by
  refine codeAny_extend_loopS W.toS hn S t .none es.size 0 _ #[] k rfl (Qn _) x g (ItemsOf.nil _) λs' acc' c' p hS' r=>?_
  rw[Moved.eq_with p]
  refine hR s'.heap s'.toks acc' c' (λb o m e=>p.heap b o (λhmem=>?_) (hk b o m e)) hS' r
  rcases PC.mp hmem with e' | hmem
  ·exact m e'
  ·exact Pq (RH e) (by rw[O7.mp hmem]; exact Uf _)
 unfold Re
 refine Gt (Xp (T:="dict") hm.typ ?_)
 have h1:Vr (.ref S) (.ref d)=false:=by simp[Vr,hSd]
 simp only[h1,show (TR "dict" == TR "list")=OZ by decide,show (TR "dict" == TR "tuple")=OZ by decide,YW,PK,Ql]
 refine Gt (y8 lo hm ?_)
 have g:=Pd {cls:=.type "dict_keyiterator", data:=.fields #[.ref d,.int 0 0,.int es.size 0,.int ep 0] } hS
 have u:(s.heap.push {cls:=.type "dict_keyiterator", data:=.fields #[.ref d,.int 0 0,.int es.size 0,.int ep 0] }).IsKeyIter s.heap.objs.size d 0 es.size ep/\RawD (s.heap.push {cls:=.type "dict_keyiterator", data:=.fields #[.ref d,.int 0 0,.int es.size 0,.int ep 0] }) d es ep:=⟨(aG _ (PE _ rfl) rfl rfl),hm.at λo e=>Pd _ e⟩
 refine Gt (QB (vR u.2.typ ?_))
 refine V4 (λuu=>?_) (λuu=>Pb ⟨YX U7 _,l _ co _ u (λb o _ e=>Pd _ e) g⟩)
 refine Gt (YA (Gt ?_))
 show Ph _ _ (Y8 S (·.push .none)>>=λuu=>Y8 S (·.pop)) _ _ _
 refine Gt (V5 g rfl ?_)
 have j:=P4 (PF (·.push SH)) g rfl
 refine V5 (hz:=by seq_fits) j rfl ?_
 have n:=P4 (PF (·.pop)) j rfl
 refine Pb ⟨YX U7 _,l _ _ _ ?_ (λb o m e=>?_) n⟩
 ·refine W.frame 0 _ _ u λb m o e=>?_
  have q:b≠S:=λh=>t (h▸m)
  exact (P7 _ _ (QA q)).trans ((P7 _ _ (QA q)).trans e)
 ·exact (P7 _ _ (QA m)).trans ((P7 _ _ (QA m)).trans (Pd _ e))
theorem yR (lo:(d==UW)=OZ) (hh:A.handled=O2) (hm:RawD s.heap d es ep) (hn:es.size<=RC)
  (hQ:∀ h' tk acc' c',(∀ b o,s.heap.get? b=qn o->h'.get? b=qn o)->h'.get? s.heap.objs.size=qn {cls:=.type "list", dict:=O2,data:=.seq acc' c',slots:=#[] }->ItemsOf (λi v=>∃ hi:i<es.size,v=es[i].key) acc' es.size->Q (.ref s.heap.objs.size) {s with heap:=h',toks:=tk }) :
  Ph (Pn prog w) A (SV (.type "list") [.ref d]) Q E s:=by
 refine callType_codes (Q₁:=λl g=>l = .ref s.heap.objs.size/\g = {s with heap:=s.heap.push {cls:=.type "list", data:=.seq #[] } }) Z8 (Y9 _) Za
  (code_list_new _ ⟨rfl,rfl⟩) λl g h=>?_
 refine ae (h) λr q=>?_
 clear h
 subst r
 subst q
 have p:(s.heap.push {cls:=.type "list", data:=.seq #[] }).get? s.heap.objs.size=qn {cls:=.type "list", data:=.seq #[] }:=PE _ rfl
 have m:s.heap.objs.size≠d:=af (hm) λuu e uu=>Ut (RH e)
 refine ⟨(ah _ p rfl),YY _ _,?_⟩
 show Ph _ _ (do let old <- QD (.ref s.heap.objs.size); Qd (.ref s.heap.objs.size) (λuu=>#[]); letGo old.toList.reverse; Re (.ref s.heap.objs.size) (.ref d) .none) _ _ _
 refine Gt ?_
 unfold QD
 refine Gt (wpAny_seqItems p rfl (Pb ?_))
 show Ph _ _ (Y8 s.heap.objs.size (λuu=>#[])>>=λuu=>letGo (#[]:Pf Lt).toList.reverse>>=λuu=>Re (.ref s.heap.objs.size) (.ref d) .none) _ _ _
 refine Gt (V5 p rfl ?_)
 have j:=P4 (PF (λuu=>(#[]:Pf Lt))) p rfl
 have k:∀ b o,b≠s.heap.objs.size->s.heap.get? b=qn o->((s.heap.push {cls:=.type "list", data:=.seq #[] }).update s.heap.objs.size (PF (λuu=>(#[]:Pf Lt)))).get? b=qn o :=
  λb o u e=>(P7 _ _ (QA u)).trans (Pd _ e)
 refine Gt (ZV ?_)
 refine tT (A:=A.in1) (S:=s.heap.objs.size) (s:={s with heap:=(s.heap.push {cls:=.type "list", data:=.seq #[] }).update s.heap.objs.size (PF (λuu=>(#[]:Pf Lt))) }) lo hh (hm.at λo e=>k d o m.symm e) hn m j λh' tk acc' c' hk t n=>?_
 exact ⟨rfl,hQ h' tk acc' c' (λb o e=>hk b o (Qz (RH e)) (k b o (Qz (RH e)) e)) t n⟩
end
section
variable {A:PU}{E:Lt->O0->Prop}
theorem yA {rd:Lt->rg O3}{vs:rg Lt}{ks:rg (rg O3)}(hl:vs.length=ks.length) (hkey:∀ (i:Pa) (v:Lt) (k:rg O3),vs[i]? = qn v->ks[i]? = qn k->rd v=k):(vs.zip vs).map (λp=>(rd p.1,p.2))=ks.zip vs:=by
 apply T6
 intro i
 rw[P1]
 by_cases hi:i<ks.length
 ·have h:ks[i]? = qn ks[i]:=Pp hi
  have g:vs[i]? = qn vs[i]:=Pp (pi hl hi)
  rw[iX g g,iX h g]
  simp only[TC]
  rw[hkey i _ _ g h]
 ·rw[QJ (by rw[Ui]; exact HU hl hi),QJ (by rw[Ui]; exact A4 hi)]
  rfl
theorem ql {s0 s:O0}{D:Pz}{vs:rg Lt}{ks:rg (rg O3)}{e1:Pa}{st:Px}{rd:Lt->rg O3}{P:XJ->O0->Prop}(k0:Kp s0 s) (hD:s.heap.get? D=qn (PN "list" #[] e1)) (f2:s0.heap.get? D=O2)
  (hl:vs.length=ks.length) (h64:vs.length<64) (hkey:∀ (i:Pa) (v:Lt) (k:rg O3),vs[i]? = qn v->ks[i]? = qn k->rd v=k)
  (hp:(O8 st).Perm (vs.toArray.zip vs.toArray)) (hu:(O8 st).toList.Pairwise λx y=>ltL (rd y.1) (rd x.1)=OZ) (hf:Qa st=O2)
  (h:∀ s' out c,Kp s0 s'->s'.heap.get? D=qn (PN "list" out c)->(∃ ps:rg (rg O3×Lt),ps.Perm (ks.zip vs)/\out.toList=ps.map (·.2)/\ps.Pairwise λx y=>ltL y.1 x.1=OZ)->P (.done (.ret .none)) s') :
  Ph (Pn prog w) A (do
   let sorted:=(O8 st).map (·.2)
   let touched:=(<- YB D) != e1
   Qd (.ref D) λuu=>sorted
   if let qn e:=Qa st then rule "list.sort.comparison-raised"; throw e
   if touched then rule "list.sort.modified"; raiseError "ValueError" "list modified during sort"
   ret .none) P E s:=by
 have n:=P2 s.heap D (PF λuu=>(O8 st).map (·.2))
 obtain ⟨m,l⟩:∃ m,(s.heap.update D (PF λuu=>(O8 st).map (·.2))).get? D=qn (PN "list" ((O8 st).map (·.2)) m):=⟨_,R1 hD λuu=>(O8 st).map (·.2)⟩
 have g:(O8 st).size=vs.length:=by rw[hp.size_eq,Xs]; simp
 have o:=Kp.wr k0 hD f2 n
 dsimp only
 refine Gt (UA hD rfl ?_)
 refine Gt (Sf hD rfl ?_ (Qn _) (by rw[YC,g,Qv]; exact JE h64))
 rw[hf]
 simp only[Ve,PK,Ql]
 refine Pb (h _ _ m o l (aG ((O8 st).toList.map λp=>(rd p.1,p.2)) ?_ ?_ ?_))
 ·have j:(O8 st).toList.Perm (vs.zip vs):=by
   have:=Rx.mp hp
   rwa [cN] at this
  exact (j.map _).trans (TK (yA hl hkey))
 ·rw[VG,VW]; rfl
 ·rw[RI]; exact hu
structure Keys (κ:Uw) (Kd:P9->Lt->rg O3->Prop) (ne:Prop):Prop where
 fn:∀ {h:P9}{v:Lt}{k k':rg O3},Kd h v k->Kd h v k'->k=k'
 kind:∀ {A:PU}{E:Lt->O0->Prop}{s:O0}{ks:rg (rg O3)}{vs:rg Lt}{Q:Uw->O0->Prop},vs.length=ks.length->1<=vs.length->(ne->[]∉ks)->(∀ (i:Pa) (v:Lt) (k:rg O3),vs[i]? = qn v->ks[i]? = qn k->Kd s.heap v k)->Q κ s->Ph (Pn prog w) A (Yz vs.toArray) Q E s
 lt:∀ {A:PU}{E:Lt->O0->Prop}{s:O0}{x y:Lt}{k k':rg O3}{Q:PV->O0->Prop},A.units<UV->Kd s.heap x k->Kd s.heap y k'->Q (ltL k k') s->Ph (Pn prog w) A (keyLt' κ x y) Q E s
section
variable {κ:Uw}{Kd:P9->Lt->rg O3->Prop}{ne:Prop}
open Classical in
noncomputable def eK (Kd:P9->Lt->rg O3->Prop) (h:P9) (v:Lt):rg Int:=if q:∃ k,Kd h v k then q.choose else []
theorem Keys.read (K:Keys κ Kd ne) (x:Kd h v k):eK Kd h v=k:=by
 unfold eK
 have q:∃ k,Kd h v k:=⟨k,x⟩
 rw[dif_pos q]
 exact K.fn q.choose_spec x
theorem Keys.ltOk (K:Keys κ Kd ne) (hu:A.units<UV) (ks:rg (rg O3)):bE (Pn prog w) A E s (λp=>rkL ks (eK Kd s.heap p.1)) (λp=>∃ k∈ks,Kd s.heap p.1 k) κ:=by
 intro x y q Q l j hk h
 revert l; intro i
 refine af (i) λk o l=>?_
 clear i
 revert j; intro g
 refine af (g) λn m j=>?_
 clear g
 have e:(qn (decide ((λp:Pc=>rkL ks (eK Kd s.heap p.1)) x<(λp:Pc=>rkL ks (eK Kd s.heap p.1)) y)))=qn (ltL k n):=by
  rw[ms o m,<- K.read l,<- K.read j]
 rw[e] at h
 rw[lt'_eq]
 refine Pe (Tn ?_)
 rw[hk]
 refine Pe (ZS (Us (K.lt hu l j ⟨rfl,?_⟩)))
 exact Pr h
set_option maxHeartbeats 4000000 in
theorem m0 (K:Keys κ Kd ne) {s0 s:O0}{D:Pz}{vs:rg Lt}{ks:rg (rg O3)}{n:Pa}{P:XJ->O0->Prop}(hun:A.units<UV) (ho:s.heap.get? D=qn (PN "list" vs.toArray n)) (f2:s0.heap.get? D=O2) (k0:Kp s0 s)
  (hl:vs.length=ks.length) (h64:vs.length<64) (hne:ks.length<2\/(ne->[]∉ks)) (hkey:∀ H,KG (λb=>b≠D) s.heap H->∀ (i:Pa) (v:Lt) (k:rg O3),vs[i]? = qn v->ks[i]? = qn k->Kd H v k)
  (h:∀ s' out c,Kp s0 s'->s'.heap.get? D=qn (PN "list" out c)->(∃ ps:rg (rg O3×Lt),ps.Perm (ks.zip vs)/\out.toList=ps.map (·.2)/\ps.Pairwise λx y=>ltL y.1 x.1=OZ)->P (.done (.ret .none)) s') :
  Ph (Pn prog w) A (VV.«list.sort» ⟨[.ref D],[]⟩) P E s:=by
 rw[Yg]
 have s1:=P2 s.heap D (PF λuu=>(#[]:Pf Lt))
 obtain ⟨e1,ho1⟩:∃ e1,(s.heap.update D (PF λuu=>(#[]:Pf Lt))).get? D=qn (PN "list" #[] e1):=⟨_,R1 ho λuu=>#[]⟩
 have k1:=Kp.wr k0 ho f2 s1
 refine Gt (To ho rfl ?_)
 refine Gt (Sf ho rfl ?_ (by rw[PJ,Qv]; exact A3 h64) (Qn _))
 refine Gt (UA ho1 rfl ?_)
 refine Gt (Wq ?_ (by show vs.length<=_; rw[Qv]; exact A3 h64))
 refine Gt (SS ?_ (Qn _))
 refine QB ?_
 have k3:Kp s0 {s with heap:=((s.heap.update D (PF λuu=>(#[]:Pf Lt))).push (PN "tuple" vs.toArray 0)).push (PN "list" #[] 0) }:=(k1.trans (.push _ _ s.toks)).trans (.push _ _ s.toks)
 have r:(((s.heap.update D (PF λuu=>(#[]:Pf Lt))).push (PN "tuple" vs.toArray 0)).push (PN "list" #[] 0)).get? D=qn (PN "list" #[] e1):=Pd _ (Pd _ ho1)
 have kg:KG (λb=>b≠D) s.heap (((s.heap.update D (PF λuu=>(#[]:Pf Lt))).push (PN "tuple" vs.toArray 0)).push (PN "list" #[] 0)) :=
  (KG.same s1 (λq=>q rfl) λo q=>by rw[ho] at q; (have oc:=vj q; clear q; subst oc); exact Stay.not_list).trans (.of λb o _ e=>Pd _ (Pd _ e))
 generalize ((s.heap.update D (PF λuu=>(#[]:Pf Lt))).push (PN "tuple" vs.toArray 0)).push (PN "list" #[] 0)=H at k3 r kg
 have g:=hkey H kg
 have hrd:∀ (i:Pa) (v:Lt) (k:rg O3),vs[i]? = qn v->ks[i]? = qn k->eK Kd H v=k:=λi v k a b=>K.read (g i v k a b)
 show Ph (Pn prog w) A _ P E {s with heap:=H }
 by_cases h2:vs.toArray.size<2
 ·rw[O1 h2,O1 h2]
  refine Gt (Pb ?_)
  dsimp only
  rw[X8]
  refine Gt (Pb ?_)
  dsimp only
  refine ql (s:={s with heap:=H }) (st:=Ug ZU (vs.toArray.zip vs.toArray) #[] 7 O2) k3 r f2 hl h64 hrd (X9 _) ?_ rfl h
  have hz:(vs.toArray.zip vs.toArray).toList.length<=1:=by
   rw[cN,Ui]; rw[PJ] at h2; simp; exact GJ h2
  show ((vs.toArray.zip vs.toArray).toList).Pairwise _
  exact pU hz
 ·rw[OY h2,OY h2]
  rw[PJ] at h2
  refine Gt (K.kind (s:={s with heap:=H }) (ks:=ks) hl (Ij h2) (hne.resolve_left (FY hl h2)) g ?_)
  have z:(vs.toArray.zip vs.toArray).size=vs.length:=by rw[Xs]; simp
  have u:∀ p∈vs.zip vs,∃ k∈ks,Kd H p.1 k:=λp t=>by
   refine ak (Ta t) λi hi=>?_
   refine ae (RU.mp hi) λq1 q2=>?_
   have hil:i<ks.length:=by rw[<- hl]; exact (P3.mp q1).1
   exact (ah (ks[i]) (RM hil) (g i _ _ q1 (Pp hil)))
  refine Gt (QI (sR (K.ltOk (E:=E) (s:={s with heap:=H }) hun ks) (st:=Ug κ (vs.toArray.zip vs.toArray) #[] 7 O2)
   (Q:=λuu j=>(O8 j).Perm (vs.toArray.zip vs.toArray)/\Qa j=O2/\Up (λp=>rkL ks (eK Kd H p.1)) (O8 j).toList) ⟨λp t=>?_,rfl⟩ (by show 2<=(vs.toArray.zip vs.toArray).size; rw[z]; exact zr h2) (by show (vs.toArray.zip vs.toArray).size<64; rw[z]; exact h64) rfl rfl λj a1 a2 a3=>⟨a1,a3,a2⟩) ?_ λuu uu e=>e)
  ·have l:p∈(vs.toArray.zip vs.toArray).toList:=mem_def.mp t
   rw[cN] at l
   exact u p l
  ·rintro ⟨⟨⟩,j⟩ s'' ⟨rfl,t,hf,hu⟩
   dsimp only
   refine ql (s:={s with heap:=H }) k3 r f2 hl h64 hrd t ?_ hf h
   have hm:∀ p∈(O8 j).toList,∃ k∈ks,Kd H p.1 k:=λp l=>by
    have:=(Rx.mp t).mem_iff.mp l
    rw[cN] at this
    exact u p this
   refine Sg (λ{a b} ha hb hab=>?_) hu
   refine af (hm a ha) λk hk x=>?_
   refine af (hm b hb) λk' hk' y=>?_
   have m:rkL ks (eK Kd H a.1)<=rkL ks (eK Kd H b.1):=hab
   rw[K.read x,K.read y] at m ⊢
   rw[ms hk' hk]
   exact Qe (zz m)
end
theorem xe:Keys (Xo vk) KeyOf Wa where
 fn:=KeyOf.fn
 kind hl h1 hne hk h:=ov hl h1 (λi v k a b=>⟨hk i v k a b,λq=>hne trivial (q▸QU b)⟩) h
 lt _ hx hy h:=n0 vk hx hy h
theorem RA.ofSub {h:P9}{G:Pz->Prop}:∀ {vs:rg Lt}{ds:rg Pk},vs.length=ds.length->(∀ (i:Pa) (v:Lt) (d:Pk),vs[i]? = qn v->ds[i]? = qn d->∃ bs,R h v d bs/\∀ b∈bs,G b)->∃ cs,RA h vs ds cs/\∀ b∈cs,G b
 | [],[],_,_=>(ah ([]) .nil (λuu q=>nomatch q))
 | v::vs,d::ds,hl,hr=>by
  refine af (hr 0 v d rfl rfl) λbs r k=>?_
  refine af (RA.ofSub (vs:=vs) (ds:=ds) (by simpa using hl) λi u e m l=>hr (i+1) u e m l) λcs g j=>?_
  exact (ah _ (.cons r g) (λb q=>(Pu.mp q).elim (k b) (j b)))
 | [],_::_,hl,_=>by cases hl
 | _::_,[],hl,_=>by cases hl
theorem RA.eachSub (r:RA h vs ds as):∀ (i:Pa) (v:Lt) (d:Pk),vs[i]? = qn v->ds[i]? = qn d->∃ bs,R h v d bs/\∀ b∈bs,b∈as :=
 RA.ind (N:=λvs ds as=>∀ (i:Pa) (v:Lt) (d:Pk),vs[i]? = qn v->ds[i]? = qn d->∃ bs,R h v d bs/\∀ b∈bs,b∈as) (λi v d g uu=>by simp at g) (λ{v vs d ds as bs} r o l i u e g j=>by
  cases i with
  | zero=>exact (ah as (vj g▸vj j▸r) (λb q=>PX _ q))
  | succ i=>
   refine af (l i u e g j) λn k m=>?_
   exact (ah n k (λb q=>P5 _ (m b q)))) r
theorem RA.ofEach:∀ {vs:rg Lt}{ds:rg Pk},vs.length=ds.length->(∀ (i:Pa) (v:Lt) (d:Pk),vs[i]? = qn v->ds[i]? = qn d->R h v d [])->RA h vs ds []
 | [],[],_,_=>.nil
 | v::vs,d::ds,hl,hr=>RA.cons (as:=[]) (bs:=[]) (hr 0 v d rfl rfl) (RA.ofEach (by simpa using hl) λi u e j g=>hr (i+1) u e j g)
 | [],_::_,hl,_=>by cases hl
 | _::_,[],hl,_=>by cases hl
theorem ye (h:eV x=qn k):x=aO k:=by
 cases x with
 | tuple g=>
  have l:∀ {g:rg Pk}{k:rg O3},aM g=qn k->g=k.map .int:=λ{g}=>by
   induction g with
   | nil=>intro k h; (have m:=vj h; clear h; subst m); rfl
   | cons y g ih=>
    intro k h
    cases y with
    | int i=>
     simp only[aM,RX] at h
     refine af (h) λo n j=>?_
     clear h
     subst j
     rw[ih n]; rfl
    | _=>exact nN h
  show PyData.tuple g = .tuple (k.map .int)
  rw[l h]
 | _=>exact nN h
theorem mD:∀ {xs:rg Pk}{ks:rg (rg O3)},eP xs=qn ks->xs=ks.map aO
 | [],ks,h=>by (have i:=vj h; clear h; subst i); rfl
 | x::xs,ks,h=>by
  simp only[eP] at h
  refine bB h λk hk h=>?_
  refine bI h λj l g=>?_
  (clear h; subst g)
  rw[QE,<- mD l,ye hk]
theorem Dz (h:k.length<=2^22):sz (aO k)=true:=sz_tuple.mpr ⟨by rw[Pi]; exact h,gS k⟩
theorem vr (hh:A.handled=O2) (ra:RV s.heap va (.dicT ks) as) (hk:ks.length<=lim) (hQ:∀ v s',EP P s (.d (.list (ks.map aO)),fresh (ks.map aO)) v s'->Q v s'):Ph (Pn prog w) A (SV (bval (b1n .list)) [va]) Q Er s:=by
 refine tQ (ra) λa xs Nr _ lo l z hks htu=>?_
 clear ra
 subst Nr
 refine cQ (l) λo es ep e t hd he _ _=>?_
 clear l
 subst z
 have u:RawD s.heap a es ep:=(aG o e t.1 hd)
 have p:es.size=xs.length:=size_of_entries he
 rw[Pi] at hk
 unfold lim at hk
 refine yR lo hh u (by rw[p,Qv]; exact Ko hk) λh' tk r c' q hS g=>hQ _ _ ?_
 refine EP.aList (vs:=r.toList) (n:=c') (as:=[]) (aC h' tk rfl (.of q)) (QC (PH _)) (by simpa using hS) (RA.ofEach ?_ λi v d hi j=>?_) (by rw[Pi,Pi]; exact zI hk) (λx t=>?_) λuu h=>nomatch h
 ·rw[Py,Pi,Pi,g.1,p]
 ·obtain ⟨hi',rfl⟩:=g.2 i v (by rw[<- Array.getElem?_toList]; exact hi)
  have ee:=entry_at he i
  rw[RT hi'] at ee
  refine bI ee.symm λx m hxe=>?_
  have ek:es[i].key = .ref x.2.1:=by rw[<- hxe]; rfl
  rw[P1,P1,m] at j
  (have oc:=vj j; clear j; subst oc)
  rw[ek]
  exact (htu x (QU m)).keep q
 ·refine aJ t λk hk' y=>?_
  (clear t; subst y)
  exact Dz (hks k hk')
theorem tr (K:Keys κ Kd ne) (hkd:∀ {h:P9}{v:Lt}{k:rg O3}{bs:rg Pz},R h v (g k) bs->Kd h v k) (hu:A.units+200<UV) (ra:R s.heap va (.list (ks.map g)) as) (ha:∀ b∈as,P b) (hz:sz (.list (ks.map g))=vk) (h64:ks.length<64) (hne:ks.length<2\/(ne->[]∉ks)) (hQ:∀ v s',EP P s (.d (.list ((bV ks).map g)),fresh ((bV ks).map g)) v s'->Q v s') :
  Ph (Pn prog w) A (SV (.builtin "sorted") [va]) Q Er s:=by
 refine ra.isList_k λa vs n cs Nx ea z Np=>?_
 (clear ra; subst Nx)
 subst Np
 have hl:vs.length=ks.length:=by have:=z.length; rw[Pi] at this; exact IB this
 have y:∀ (i:Pa) (v:Lt) (k:rg O3),vs[i]? = qn v->ks[i]? = qn k->∃ bs,R s.heap v (g k) bs/\∀ b∈bs,b∈cs:=λi v k p t=>z.eachSub i v (g k) p (by rw[P1,t]; rfl)
 have old:∀ b∈cs,∃ o,s.heap.get? b=qn o:=λb u=>bi (z.there b u) λuu uu e=>⟨_,e⟩
 refine Calls.call_function_entry XU Xu Xv (Zs _) ?_
 unfold VV.«sorted»
 refine Gt (m:=YD "sorted" 1 1 _) (Pb ?_)
 refine Gt (Zt (isL ea) ?_ (by rw[Qv]; exact Aw h64 hl))
 refine Gt (SS ?_ (by rw[Qv]; exact Aw h64 hl))
 have hsz:((s.heap.push (PN "list" #[] 0)).update s.heap.objs.size (PF (· ++ vs.toArray))).objs.size=s.heap.objs.size+1:=by
  rw[XQ,size_push']
 have hoL:(((s.heap.push (PN "list" #[] 0)).update s.heap.objs.size (PF (· ++ vs.toArray))).push (PN "list" vs.toArray 0)).get? (s.heap.objs.size+1)=qn (PN "list" vs.toArray 0):=by
  rw[<- hsz]; exact PE _ rfl
 have keep:∀ b o,s.heap.get? b=qn o->(((s.heap.push (PN "list" #[] 0)).update s.heap.objs.size (PF (· ++ vs.toArray))).push (PN "list" vs.toArray 0)).get? b=qn o:=λb o q=>by
  have hlt:b<s.heap.objs.size:=RH q
  rw[T9 _ _ _ (by rw[hsz]; exact Qz (Tx hlt)),WD _ _ _ _ (Qz hlt),T9 _ _ _ (Qz hlt)]
  exact q
 have l:s.heap.get? (s.heap.objs.size+1)=none:=QC (U9 _)
 show Ph _ _ _ _ _ {s with heap:=((s.heap.push (PN "list" #[] 0)).update s.heap.objs.size (PF (· ++ vs.toArray))).push (PN "list" vs.toArray 0) }
 rw[hsz]
 refine Gt (QB (Uj Wr (ah _ hoL rfl) V3 ?body (YG _)))
 case body=>
  refine m0 K (s0:=s) (s:={s with heap:=((s.heap.push (PN "list" #[] 0)).update s.heap.objs.size (PF (· ++ vs.toArray))).push (PN "list" vs.toArray 0) }) (by show A.units+1+1<UV; exact Gm hu) hoL l (.of keep) hl (Av h64 hl) hne (λH kg i v k p t=>?_) λs' out c kp hD hps=>(ah _ rfl (Pb (ah _ rfl ?_)))
  ·refine af (y i v k p t) λbs r u=>?_
   refine hkd ((r.keep keep).onG kg λb q e=>?_)
   refine ak (old b (u b q)) λo eo=>?_
   rw[e,l] at eo; exact nN eo
  refine aq (hps) λps p1 p2 p3=>?_
  clear hps
  have q1:(ps.map (·.1)).Perm ks:=by
   have:=p1.map (·.1)
   rwa [List.map_fst_zip (Ay hl)] at this
  have q2:ps.map (·.1)=bV ks:=gH (r:=λa b=>ltL b a=OZ) (λa b p t=>fm t p) (q1.trans (Qu ks _).symm) (RI.mpr p3) (x7 ks)
  have hlen:ps.length=ks.length:=by rw[<- q1.length_eq,Pi]
  obtain ⟨cs',rs,hcs⟩:=RA.ofSub (h:=s'.heap) (G:=λb=>b∈cs) (vs:=out.toList) (ds:=(bV ks).map g) (by rw[p2,Pi,Pi,<- q2,Pi]) λi v d p t=>by
   rw[<- q2,VW,P1] at t
   rw[p2,P1] at p
   cases hp:ps[i]? with
   | none=>rw[hp] at p; exact nN p
   | some q=>
    rw[hp] at p t
    (have oc:=vj p; clear p; subst oc); (have oc:=vj t; clear t; subst oc)
    refine ak (Ta (p1.mem_iff.mp (QU hp))) λj hj=>?_
    refine ae (RU.mp hj) λj1 j2=>?_
    refine af (y j _ _ j2 j1) λbs r u=>?_
    exact (ah bs (r.k kp.k) u)
  refine hQ _ _ (EP.aList (vs:=out.toList) (n:=c) (as:=cs') kp l (by simpa [PN] using hD) rs ?_ (λx hx=>?_) λb u=>⟨ha b (.tail _ (hcs b u)),λe=>?_⟩)
  ·rw[Pi,<- q2,Pi,hlen]; exact zS h64
  ·refine aJ hx λk hk' Nl=>?_
   (clear hx; subst Nl)
   refine (sz_list.mp hz).2 _ (T1.mpr (ah k ?_ rfl))
   exact (Qu ks _).mem_iff.mp hk'
  ·refine ak (old b (hcs b u)) λo eo=>?_
   rw[e,l] at eo; exact nN eo
theorem tb (hu:A.units+200<UV) (ra:R s.heap va (.list xs) as) (ha:∀ b∈as,P b) (hz:sz (.list xs)=vk) (hk:eP xs=qn ks) (h64:xs.length<64) (hne:ks.length<2\/[]∉ks) (hQ:∀ v s',EP P s (.d (.list ((bV ks).map aO)),fresh ((bV ks).map aO)) v s'->Q v s') :
  Ph (Pn prog w) A (SV (.builtin "sorted") [va]) Q Er s:=by
 cases mD hk
 rw[Pi] at h64
 exact tr xe (λr=>KeyOf.ofR r) hu ra ha hz h64 (hne.imp id λh _=>h) hQ
end
section
variable {A:PU}{E:Lt->O0->Prop}
theorem r5 (h:Ry vs ns):(∀ i∈ns,0<=i)->∀ p∈vs.zip vs,∃ i t,p.1 = .int i t/\0<=i:=by
 induction h with
 | nil=>exact λuu p hp=>nomatch hp
 | cons n t r ih=>
  intro g p hp
  rcases PC.mp (show p∈(Jaj n t,Jaj n t)::_ from hp) with rfl | hp
  ·exact (aC n t rfl (g n (.head _)))
  ·exact ih (λi j=>g i (.tail _ j)) p hp
theorem l4:∀ (vs:rg Lt),(∀ v∈vs,∃ i t,v = .int i t)->Ry vs (vs.map kq)
 | [],_=>.nil
 | v::vs,h=>by
  obtain ⟨i,t,rfl⟩:=h v (.head _)
  exact .cons i t (l4 vs λu g=>h u (.tail _ g))
theorem y2 {vs:rg Lt}{p:Lt×Lt}(h:p∈vs.zip vs):p.1=p.2/\p.2∈vs:=by
 induction vs with
 | nil=>exact nomatch h
 | cons v vs ih=>
  rcases PC.mp (show p∈(v,v)::_ from h) with rfl | h
  ·exact ⟨rfl,.head _⟩
  ·exact ⟨(ih h).1,.tail _ (ih h).2⟩
theorem rc {ps:rg (Lt×Lt)}(hI:Ry vs ns) (h0:∀ i∈ns,0<=i) (hp:ps.Perm (vs.zip vs)) (hu:ps.Pairwise λx y=>mZ x.1<=mZ y.1):Ry (ps.map (·.2)) (ns.mergeSort λa b=>decide (a<=b)):=by
 have n:∀ p∈ps,∃ i t,p.1 = .int i t/\0<=i/\p.2 = .int i t:=λp l=>by
  have g:=hp.mem_iff.mp l
  refine aw (r5 hI h0 p g) λi t e hi=>?_
  exact ⟨i,t,e,hi,by rw[<- (y2 g).1]; exact e⟩
 have hA:=l4 (ps.map (·.2)) λv hv=>aJ hv λp l e=>by
  obtain ⟨i,t,_,_,o⟩:=n p l
  exact ⟨i,t,e▸o⟩
 have z:((vs.zip vs).map (·.2))=vs:=List.map_snd_zip (PH _)
 have pr:((ps.map (·.2)).map kq).Perm ns:=by
  have:=(hp.map (·.2)).map kq
  rw[z,<- IntsAre.read hI] at this
  exact this
 have r:((ps.map (·.2)).map kq).Pairwise (·<=·):=by
  rw[VW,RI]
  refine Sg (λ{p q} m k h=>?_) hu
  obtain ⟨i,t,e1,i0,o⟩:=n p m
  obtain ⟨j,u,e3,j0,e4⟩:=n q k
  rw[e1,e3] at h
  show kq p.2<=kq q.2
  rw[o,e4]
  replace h:i.toNat<=j.toNat:=h
  show i<=j
  exact Jr j0 h
 have eq:(ps.map (·.2)).map kq=ns.mergeSort λa b=>decide (a<=b):=by
  exact (pr.trans (Qu ns _).symm).eq_of_pairwise (λa b _ _ g h2=>SK g h2) r (ja ns)
 rw[<- eq]; exact hA
set_option maxHeartbeats 4000000 in
theorem nv (ho:s.heap.get? D=qn (PN "list" vs.toArray n)) (f2:s0.heap.get? D=O2) (k0:Kp s0 s)
  (hI:Ry vs ns) (h2:2<=vs.length) (h128:vs.length<128) (h0:∀ i∈ns,0<=i)
  (h:∀ s' c vs',Kp s0 s'->Ry vs' (ns.mergeSort λa b=>decide (a<=b))->s'.heap.get? D=qn (PN "list" vs'.toArray c)->P (.done (.ret .none)) s') :
  Ph (Pn prog w) A (VV.«list.sort» ⟨[.ref D],[]⟩) P E s:=by
 rw[Yg]
 have s1:=P2 s.heap D (PF λuu=>(#[]:Pf Lt))
 obtain ⟨e1,q⟩:∃ e1,(s.heap.update D (PF λuu=>(#[]:Pf Lt))).get? D=qn (PN "list" #[] e1):=⟨_,R1 ho λuu=>#[]⟩
 have k1:=Kp.wr k0 ho f2 s1
 refine Gt (To ho rfl ?_)
 refine Gt (Sf ho rfl ?_ (by rw[PJ,Qv]; exact o4 h128) (Qn _))
 refine Gt (UA q rfl ?_)
 refine Gt (Wq ?_ (by show vs.length<=_; rw[Qv]; exact o4 h128))
 refine Gt (SS ?_ (Qn _))
 refine QB ?_
 have k3:Kp s0 {s with heap:=((s.heap.update D (PF λuu=>(#[]:Pf Lt))).push (PN "tuple" vs.toArray 0)).push (PN "list" #[] 0) }:=(k1.trans (.push _ _ s.toks)).trans (.push _ _ s.toks)
 have j:(((s.heap.update D (PF λuu=>(#[]:Pf Lt))).push (PN "tuple" vs.toArray 0)).push (PN "list" #[] 0)).get? D=qn (PN "list" #[] e1):=Pd _ (Pd _ q)
 generalize ((s.heap.update D (PF λuu=>(#[]:Pf Lt))).push (PN "tuple" vs.toArray 0)).push (PN "list" #[] 0)=H at k3 j
 show Ph (Pn prog w) A _ P E {s with heap:=H }
 have r:¬ vs.toArray.size<2:=by rw[PJ]; exact Fv h2
 rw[OY r,OY r]
 have y:Yz vs.toArray=Qq oneType':=by
  rcases vs with _ | ⟨a,_ | ⟨b,vs⟩⟩
  ·simp at h2
  ·simp at h2
  ·exact keyKind_ints hI
 rw[y]
 refine Gt (Pb ?_)
 have l:(vs.toArray.zip vs.toArray).size=vs.length:=by rw[Xs]; simp
 refine Gt (QI (jP (vd (A:=A) (E:=E) (s:={s with heap:=H })) (st:=Ug Xj (vs.toArray.zip vs.toArray) #[] 7 O2)
   (Q:=λuu g=>(O8 g).Perm (vs.toArray.zip vs.toArray)/\Up (λp=>mZ p.1) (O8 g).toList/\Qa g=O2) ⟨λp hp=>?_,rfl⟩ (by show 2<=(vs.toArray.zip vs.toArray).size; rw[l]; exact E2 h2) (by show (vs.toArray.zip vs.toArray).size<128; rw[l]; exact h128) rfl rfl λg a1 a2 a3=>⟨a1,a2,a3⟩) ?_ λuu uu e=>e)
 ·have o:p∈(vs.toArray.zip vs.toArray).toList:=mem_def.mp hp
  rw[cN] at o
  exact r5 hI h0 p o
 ·rintro ⟨⟨⟩,g⟩ s'' ⟨rfl,ha,hu,hf⟩
  dsimp only
  have m:(O8 g).toList.Perm (vs.zip vs):=by
   have:=Rx.mp ha
   rwa [cN] at this
  have u:=rc hI h0 m hu
  have t:((O8 g).toList.map (·.2)).length=vs.length:=by rw[Pi,m.length_eq,Ui,W4]
  obtain ⟨k,eus,v⟩:∃ k:rg Lt,(O8 g).map (·.2)=k.toArray/\k=(O8 g).toList.map (·.2):=⟨_,by apply WR.mp; rw[VG],rfl⟩
  rw[<- v] at u t
  have s2:=P2 H D (PF λuu=>k.toArray)
  obtain ⟨c2,z⟩:∃ c2,(H.update D (PF λuu=>k.toArray)).get? D=qn (PN "list" k.toArray c2):=⟨_,R1 j λuu=>k.toArray⟩
  have k4:=Kp.wr (s:={s with heap:=H }) k3 j f2 s2
  refine Gt (UA (s:={s with heap:=H }) j rfl ?_)
  rw[show (O8 g).map (λx=>x.2)=k.toArray from eus]
  refine Gt (Sf (s:={s with heap:=H }) j rfl ?_ (Qn _) (by rw[PJ,t,Qv]; exact AF h128))
  rw[show Qa g=O2 from hf]
  simp only[Ve,PK,Ql]
  exact Pb (h _ c2 k k4 u z)
theorem uo (ra:R s.heap va (.list xs) as) (hi:aM xs=qn ns) (h64:¬ xs.length<64) (h128:xs.length<128) (h0:∀ i∈ns,0<=i) (hQ:∀ v s',EP P s (.d (aa (ns.mergeSort λa b=>decide (a<=b))),.deep) v s'->Q v s') :
  Ph (Pn prog w) A (SV (.builtin "sorted") [va]) Q Er s:=by
 refine ra.isList_k λa vs n cs y ea k x=>?_
 (clear ra; subst y)
 subst x
 have r:=k.length
 refine aI (k.ints hi) λhI u t=>?_
 subst u
 subst t
 rw[Pi] at r h64 h128
 refine Calls.call_function_entry XU Xu Xv (Zs _) ?_
 unfold VV.«sorted»
 refine Gt (m:=YD "sorted" 1 1 _) (Pb ?_)
 refine Gt (Zt (isL ea) ?_ (by rw[Qv]; exact tp h128 r))
 refine Gt (SS ?_ (by rw[Qv]; exact tp h128 r))
 have g:((s.heap.push (PN "list" #[] 0)).update s.heap.objs.size (PF (· ++ vs.toArray))).objs.size=s.heap.objs.size+1:=by
  rw[XQ,size_push']
 have p:(((s.heap.push (PN "list" #[] 0)).update s.heap.objs.size (PF (· ++ vs.toArray))).push (PN "list" vs.toArray 0)).get? (s.heap.objs.size+1)=qn (PN "list" vs.toArray 0):=by
  rw[<- g]; exact PE _ rfl
 have l:∀ b o,s.heap.get? b=qn o->(((s.heap.push (PN "list" #[] 0)).update s.heap.objs.size (PF (· ++ vs.toArray))).push (PN "list" vs.toArray 0)).get? b=qn o:=λb o q=>by
  have j:b<s.heap.objs.size:=RH q
  rw[T9 _ _ _ (by rw[g]; exact Qz (Tx j)),WD _ _ _ _ (Qz j),T9 _ _ _ (Qz j)]
  exact q
 show Ph _ _ _ _ _ {s with heap:=((s.heap.push (PN "list" #[] 0)).update s.heap.objs.size (PF (· ++ vs.toArray))).push (PN "list" vs.toArray 0) }
 rw[g]
 refine Gt (QB (Uj Wr (ah _ p rfl) V3 ?body (YG _)))
 case body=>
  refine nv (s0:=s) (s:={s with heap:=((s.heap.push (PN "list" #[] 0)).update s.heap.objs.size (PF (· ++ vs.toArray))).push (PN "list" vs.toArray 0) }) p (QC (U9 _)) (.of l) hI (Ed h64 r) (zE h128 r) h0 λs' c us kp z hD=>(ah _ rfl (Pb (ah _ rfl (hQ _ _ ?_))))
  have ep:EP P s (.d (.list ((ns.mergeSort λa b=>decide (a<=b)).map .int)),fresh ((ns.mergeSort λa b=>decide (a<=b)).map .int)) (.ref (s.heap.objs.size+1)) s' :=
   EP.aList (vs:=us) (n:=c) (as:=[]) kp (QC (U9 _)) (by simpa [PN] using hD) (RA.of_ints z) (by rw[Pi,(Qu ns _).length_eq]; exact zR h128) (gS _) λuu h=>(nomatch h)
  have ef:fresh ((ns.mergeSort λa b=>decide (a<=b)).map .int) = .deep:=by
   unfold fresh
   rw[O1]
   rw[Xf,Q1]
   intro _ _; rfl
  rw[ef] at ep
  exact ep
end
section
variable (fns:Fns) (k:Pa) (C:Calls) (XP:OX->O0->Lt->O0->Prop)
noncomputable def cU:Prop:=∀ f g,C f=qn g->1<=k/\(f = "law" -> fns.lam=vk)/\(f∈aQ->f∈SF.excN)/\(f∉aQ->∃ a,adr fns f=qn a/\∀ {A:PU}{P:Pz->Prop}{s:O0}{Q:Lt->O0->Prop}{Er:Lt->O0->Prop}{xs:rg V}{vals:rg Lt}{as:rg Pz},
 Room fns.hand k A->(∃ l,A.frames=qn l/\FrOk s.heap l)->GE fns s.heap->RVs s.heap xs vals as->(∀ a∈as,P a)->g xs≠.bad->(∀ r,g xs = .ok r->∀ v s',EP P s r v s'->Q v s')->(∀ c,g xs = .exc c->∀ x s',XP c s x s'->Er x s') ->
 Ph (Pn prog w) A (SV (.ref a) vals []) Q Er s)
end
section
theorem oM (hs:l7 a=vk) (ok:okE ns a v=vk):attributeBase v n env (Tu v env)=Tu v env:=by
 cases a with
 | name x=>
  refine PG (wp ok) (λi=>?_) (λq=>?_)
  ·refine aw (i) λt r k p=>?_
   clear i
   (clear ok; subst k)
   rfl
  ·cases q
 | call f es=>
  refine PG (v8 ok) (λg=>?_) (λq=>?_)
  ·refine cS (g) λo m u l j h=>?_
   clear g
   (clear ok; subst j)
   simp only[O9,P0] at h
   cases u with
   | nil=>have:=h.1.1.2; exact nT this
   | cons x u=>rfl
  ·cases q
 | _=>exact nF hs
theorem oC (r:RV h v (.rule c d n) as):∃ x D vf bs t u mA,v = .ref x/\as=x::D::bs/\h.Inst x SF.rule mA/\mA "count" = qn (.int c t)/\mA "full" = qn vf/\mA "size" = qn (.int n u)/\(∀ m∈methNames,mA (mL m)=O2)/\R h vf d bs/\sz d=true:=by
 refine jM (r) λx D o vf bs t u mA h1 h2 h3 h4 h5 z y q p l k j i g=>?_
 clear r
 exact ⟨x,D,vf,bs,t,u,mA,h1,h2,(bD o h3 h4 h5 (.inr (aG D z y q))),p,l,k,j,i,g⟩
theorem mw:VY (.type "object") "count" = Qq none:=by rw[UG,SW]; kernel_rfl
theorem nH:VY (.type "object") "full" = Qq none:=by rw[UG,SW]; kernel_rfl
theorem nY:VY (.type "object") "size" = Qq none:=by rw[UG,SW]; kernel_rfl
theorem vq (hm:m∈methNames):VY (.type "object") (mL m)=Qq none:=by
 simp only[methNames,PC,Sw,UC] at hm
 rcases hm with rfl | rfl | rfl | rfl | rfl<;>(rw[UG,SW]; kernel_rfl)
theorem uS (ge:GE fns s.heap) (hi:fns.init.isSome=vk) (he:k6 x n = .ok r) (ra:RV s.heap va x as) (ha:∀ a∈as,P a)
  (hQ:∀ v s',EP P s r v s'->Q v s'):Ph (Pn prog w) A (getAttr va (mL n) expr) Q Er s:=by
 replace he:=aW he
 revert he; intro j
 refine af (j) λz hq he=>?_
 clear j
 obtain ⟨c,d,sz'⟩:=z
 cases lU hq
 dsimp only at he ra
 refine wJ (oC ra) λy D vf bs t u mA p o I f1 f2 f3 f4 rd zd=>?_
 subst p
 subst o
 refine ay (ge.cls (.inr hi)) λN mN m i _=>?_
 obtain ⟨k,hn⟩:=m
 refine fq (k) λnm q bs' sn sub col dd k0 k1 k2 k3 k5 hC=>?_
 clear k
 obtain ⟨hh,g,dr,tk,os⟩:=s
 have ga:=i "__getattribute__" (by simp)
 by_cases e1:n = "count"
 ·subst e1
  rw[O1 rfl] at he; (have l:=Out.ok.inj he; clear he; subst l)
  exact Zb hC hn ga (i "count" (by simp)) mw I f1 rfl (hQ _ _ (.int (.toks _ _)))
 rw[OY e1] at he
 by_cases e2:n = "full"
 ·(clear e1; subst e2)
  rw[O1 rfl] at he; (have l:=Out.ok.inj he; clear he; subst l)
  have hf:handedOut vf=Qq vf:=by cases rd<;>rfl
  refine Zb hC hn ga (i "full" (by simp)) nH I f2 hf (hQ _ _ ?_)
  exact .after (.toks ⟨hh,g,dr,tk,os⟩ _) (uj (s:=⟨hh,g,dr,tk+1,os⟩) (x:=.d d) ⟨rd,zd⟩ λa h=>ha a (.tail _ (.tail _ h)))
 rw[OY e2] at he
 by_cases e3:n = "size"
 ·(clear e1 e2; subst e3)
  rw[O1 rfl] at he; (have l:=Out.ok.inj he; clear he; subst l)
  exact Zb hC hn ga (i "size" (by simp)) nY I f3 rfl (hQ _ _ (.int (.toks _ _)))
 rw[OY e3] at he
 exact nB he
theorem y7 (hC:cU fns k C XP) (Sa:SimE fns k C XP a):SimE fns k C XP (.attr a n):=by
 intro ex A env σ P s Q Er ok X o p t
 replace ok:=Ds ok
 revert ok; refine λi=>PG i (λj=>?_) (λok=>?_)
 ·clear i
  refine bp (j) λy u l hn hs oa=>?_
  clear j
  subst l
  simp only[e8] at o p t
  cases hR:C "Rule" with
  | none=>rw[hR] at o; exact Pq rfl o
  | some g=>
  have hi:fns.init.isSome=true:=by
   refine af ((hC "Rule" g hR).2.2.2 (by decide)) λfa m _=>?_
   unfold adr at m
   rw[O1 rfl] at m
   refine bI m λuu q _=>?_
   rw[q]; rfl
  rw[hR] at o p t
  simp only[am] at o p t
  refine aR o λn1 n2=>?_
  rw[arm_eval_Attribute,oM hs oa]
  refine Gt (Sa oa X n1 (λx hx va z Ea=>?_) λc hc=>t c (by rw[hc]; rfl))
  obtain ⟨ka,as,ra,ha,_⟩:=Ea
  have:∃ r,k6 x.1 n = .ok r:=by
   cases h:k6 x.1 n with
   | ok r=>exact ⟨r,rfl⟩
   | exc c=>exact Pq h (yC c)
   | bad=>exact Pq h (n2 x hx)
  refine ak (this) λr hr=>?_
  clear this
  refine Gt (TA (Gt (QB (uS (P:=λa=>P a\/s.heap.get? a=O2) (X.ge.k ka.k) hi hr ra ha λv s' E=>?_))))
  exact Gt (wpAny_letTemporaryGo (Pb (p r (by rw[hx]; exact hr) v s' (E.shift ka))))
 ·cases ok
theorem lE:∀ {es:Es}{xs:rg Expr},dv ns es xs=vk->∀ pos:Pos,(RO pos (Qm xs env)).any (·.1)=OZ/\(RO pos (Qm xs env)).all (λx=>!x.1)=vk
 | .nil,xs,h,pos=>by
  refine PG (tu h) (λi=>?_) (λq=>?_)
  ·refine ae (i) λk l=>?_
   clear i
   (clear h; subst k)
   exact ⟨rfl,rfl⟩
  ·cases q
 | .cons e es,xs,h,pos=>by
  refine PG (qB h) (λg=>?_) (λq=>?_)
  ·refine aw (g) λx m j h=>?_
   clear g
   subst j
   refine dU h λo n=>?_
   refine ae (lE (env:=env) n pos) λa b=>?_
   rw[aK o]
   constructor
   ·show (OZ||(RO pos (Qm m env)).any (·.1))=OZ
    rw[a]; rfl
   ·show (!false&&(RO pos (Qm m env)).all (λx=>!x.1))=vk
    rw[b]; rfl
  ·cases q
theorem oX {A:PU}{env:Env}{pos:Pos}{e:Expr}{rest:rg Expr}{Q:Lt->O0->Prop}{E:Lt->O0->Prop}{s:O0}{Cl N:Pz}{mN:Str->O4 Lt}(he:Qm (e::rest) env=(OZ,Tu e env)::Qm rest env) (hp:(RO pos (Qm rest env)).any (·.1)=OZ)
  (h:Ph (Pn prog w) A (VR (RO pos (Qm (e::rest) env))) (λvs s₁=>ClsAt s₁.heap Cl N mN/\Ph (Pn prog w) A (SV (.ref Cl) vs) Q E s₁) E s) :
  Ph (Pn prog w) A (VA pos (.ref Cl) [] (RO pos (Qm (e::rest) env)) []) Q E s:=by
 rw[he] at h ⊢
 have m:((RO pos ((OZ,Tu e env)::Qm rest env)).any (λx=>x.fst)||([]:rg (O4 Str×Sem Lt)).any λx=>x.fst.isNone)=false:=by
  show ((OZ||(RO pos (Qm rest env)).any (·.1))||OZ)=OZ
  rw[hp]; rfl
 unfold VA
 refine Gt (QB (Calls.evalArgs_plain (QI h (λvs s₁ i=>?_) λuu uu x=>x)))
 obtain ⟨v,g,d,t,p⟩:=s₁
 revert i; intro j
 refine ae (j) λl i=>?_
 clear j
 obtain ⟨k,_⟩:=l
 refine fq (k) λnm q bs z o y dd k0 k1 k2 k3 k5 n=>?_
 clear k
 have f1:=tc_lookup
 have hT:(⟨v,g,d,t,p⟩:O0).TypeIs (.ref Cl) "type" := (ah _ n rfl)
 refine Gt (TA ?_)
 show Ph _ _ (keeperOf (.ref Cl)>>=_) _ _ _
 unfold keeperOf specialOf
 repeat (any_goals (first | assumption | with_reducible refine Vh n ?_ | with_reducible refine wpAny_load' n ?_ | wp_step))
 rw[O1 (by rfl),m]
 show Ph _ _ (SV (.ref Cl) vs []>>=λr=>do Zm [r] point; Qq r) _ _ _
 exact Gt (QI i (λr s' u=>Gt (QB (ZW (Pb u)))) λuu uu x=>x)
theorem yO (hf:fns.hand=OZ) (hC:cU fns k C XP) (hXP:∀ c s s₁ x s',Kp s s₁->XP c s₁ x s'->XP c s x s') {a:E}{m:OX}{es:Es}(Sa:SimE fns k C XP a) (Ss:fJ fns k C XP es):SimE fns k C XP (.meth a m es):=by
 intro ex A env σ P s Q Er ok X nb hQ hE
 replace ok:=DK ok
 revert ok; refine λNW=>PG NW (λNY=>?_) (λok=>?_)
 ·clear NW
  refine wf (NY) λv p xs pos OP hl hm hne hlt hs oa oes=>?_
  clear NY
  subst OP
  simp only[dl] at nb hQ hE
  refine aR nb λn1 n2=>?_
  rw[arm_eval_Call,oM hs oa]
  refine Gt (Sa oa X n1 (λx hx va s₁ Ea=>?_) λc hc=>hE c (by rw[hc]; rfl))
  replace n2:=n2 x hx
  rw[hx] at hQ hE
  simp only[Out.ok_bind] at hQ hE
  obtain ⟨ka,as,ra,ha,_⟩:=Ea
  refine Gt (TA ?_)
  have Xa:=X.k ka.k
  by_cases hq:∃ q g,eM x.1=qn q/\C m=qn g
  ·revert hq; intro Ol
   refine aw (Ol) λNp g hq hg=>?_
   clear Ol
   obtain ⟨c,d,n⟩:=Np
   have hx1:=lU hq
   rw[hx1] at ra
   rw[hq,hg] at n2 hQ hE
   simp only[am] at n2 hQ hE
   refine aR n2 λn3 n4=>?_
   obtain ⟨fa,hfa,hcall⟩:=(hC m g hg).2.2.2 (by
    simp only[methNames,PC,Sw,UC] at hm
    rcases hm with rfl | rfl | rfl | rfl | rfl<;>decide)
   have hmR:m ≠ "Rule" := by
    rintro rfl
    simp[methNames] at hm
   rw[sC hmR hm] at hfa
   refine bI hfa λpm hpm Nl=>?_
   subst Nl
   refine wJ (oC ra) λy D vf bs t u mA Nq Nt I f1 f2 f3 f4 rd zd=>?_
   subst Nq
   (clear deep top; subst Nt)
   refine bp (Xa.ge.cls (.inl (bN m pm hpm))) λN mN Nv quiet _ hmth=>?_
   obtain ⟨Ny,hn⟩:=Nv
   refine fq (Ny) λnm q bs' sn sub col dd k0 k1 k2 k3 k5 hCl=>?_
   clear Ny
   refine bX (hmth m pm hpm) λof g1 g2 g3 g4=>?_
   have hform:YH (xs.length+([]:rg Zi).length) (RO pos (Qm xs env)) (ZX pos (XV [] env))=true:=by
    unfold YH
    rw[(lE (env:=env) oes pos).2]
    show (vk&&vk&&decide (xs.length+0+0<30))=vk
    simp; exact KX hlt
   have hpos:YZ vk v env p pos=Qq pos:=by unfold YZ; simp[hl]
   unfold methodCall
   rw[hform]
   obtain ⟨hh,gg,dr,tk,os⟩:=s₁
   refine Gt (QB (method_of hCl hn (quiet "__getattribute__" (by simp)) (quiet "__getattr__" (by simp)) g1 g3 g4 (vq hm) I (f4 m hm) ?_))
   refine Gt (ZZ hpos ?_)
   refine ay (g2) λo fd ho hfd _=>?_
   clear g2
   refine Calls.callWith_function (o:=o) (fd:=fd) ?_
   cases xs with
   | nil=>simp at hne
   | cons y' ys=>
    cases es with
    | nil=>exact Qh (show OZ=vk from oes)
    | cons e es=>
     have oy:okE env.scope.names e y' = true:=(TH.mp (show (okE env.scope.names e y'&&dv env.scope.names es ys)=vk from oes)).1
     have hS:=Ss (pos:=pos) (A:=A) (P:=P) (s:=⟨hh,gg,dr,tk,os⟩) (Er:=Er) (Q:=λvs j=>(j.heap.get? pm.1=qn o/\o.data = .func fd)/\Ph (Pn prog w) A (SV (.ref pm.1) ([.ref y]++vs) []) Q Er j) oes Xa n3 (λl hl vs j Es=>?_) λc hc z s' hz=>hE c (by rw[hc]; rfl) z s' (hXP c s _ z s' ka hz)
     ·rw[aK oy] at hS ⊢
      exact Calls.evalArgs_plain hS
     ·obtain ⟨ks,bsb,rs,hb,_⟩:=Es
      refine ⟨⟨ks.k.exact ho (λuu q=>by rw[hfd] at q; cases q) λuu uu q=>(by rw[hfd] at q; cases q),hfd⟩,?_⟩
      have hnb':=n4 l hl
      rw[hl] at hQ hE
      simp only[Out.ok_bind] at hQ hE
      rw[hx1] at hQ hE hnb'
      have i:=ka.trans ks
      refine hcall (P:=λa=>P a\/s.heap.get? a=O2) X.room (af (X.frm hf) λl' a' b'=>(ah l' a' (b'.k i.k))) (X.ge.k i.k) (.cons (ra.k ks.k) rs) (λb h=>?_) hnb' (λr hr v s' E=>hQ r hr v s' (E.shift i)) λc hc z s' hz=>hE c hc z s' (hXP c s _ z s' i hz)
      rcases Pu.mp h with h | h
      ·exact ha b h
      ·exact (hb b h).imp id ka.none
  ·exfalso
   cases h1:eM x.1 with
   | none=>rw[h1] at n2; exact n2 rfl
   | some q=>
    cases h2:C m with
    | none=>rw[h1,h2] at n2; exact n2 rfl
    | some g=>exact hq (aC q g h1 h2)
 ·cases ok
end
section
theorem Ca:b1V f x≠.exc c:=DX c
theorem b1_list' (h:(am (asD v) λx=>am (asL x) f) = .ok r):∃ xs,v = .d (.list xs)/\f xs = .ok r:=by
 refine a0 h λx i h=>?_
 refine a0 h λxs g h=>?_
 exact (ah xs (by rw[bK i,cW g]) h)
set_option tactic.hygienic true in
theorem BM (hh:A.handled=O2) (hu:A.units+200<UV) (he:b1V f x = .ok r) (ra:RV s.heap va x as) (ha:∀ a∈as,P a)
  (hQ:∀ v s',EP P s r v s'->Q v s'):Ph (Pn prog w) A (SV (bval (b1n f)) [va]) Q Er s:=by
 unfold b1V at he
 cases hd:sM x with
 | some ks=>
  rw[hd] at he
  cases xV hd
  simp only[o6] at he
  split at he
  ·rename_i hk
   revert hk; intro u
   refine ae (u) λNw hk=>?_
   clear u
   subst Nw
   (have g:=Out.ok.inj he; clear he; subst g)
   exact vr hh ra hk hQ
  ·exact nB he
 | none=>
 rw[hd] at he
 dsimp only at he
 cases f with
 | len=>exact wN he ra hQ
 | list=>
  replace he:=aW he
  revert he; intro t
  refine af (t) λy hy he=>?_
  clear t
  cases bK hy
  cases ht:asT y with
  | none=>
   simp only[ht] at he
   replace he:=aW he
   revert he; intro q
   refine af (q) λm hx he=>?_
   clear q
   cases cW hx
   (have g:=Out.ok.inj he; clear he; subst g)
   refine ra.1.isList_k λa vs n cs Nm ea l Nr=>?_
   subst Nm
   subst Nr
   have z:=sz_list.mp ra.2
   exact oP (.inl rfl) ea l z.1 z.2 (λb hb=>ha b (.tail _ hb)) hQ
  | some m=>
   simp only[ht] at he
   (have g:=Out.ok.inj he; clear he; subst g)
   cases mW ht
   refine bj (ra.1.isTup) λa vs n Nn ea l=>?_
   subst Nn
   have z:=sz_tuple.mp ra.2
   exact oP (.inr rfl) ea l z.1 z.2 ha hQ
 | tuple=>
  replace he:=b1_list' he
  revert he; intro p
  refine af (p) λm No he=>?_
  clear p
  (clear hd; subst No)
  (have g:=Out.ok.inj he; clear he; subst g)
  exact zf ra.1 ra.2 ha hQ
 | sorted=>
  replace he:=b1_list' he
  revert he; intro o
  refine af (o) λm Nu he=>?_
  clear o
  (clear hd; subst Nu)
  unfold eF at he
  split at he
  ·rename_i h
   split at he
   ·rename_i ns hn
    (have g:=Out.ok.inj he; clear he; subst g)
    exact ue ra.1 hn h hQ
   ·unfold gw at he
    cases ht:eP m with
    | some ks=>
     rw[ht] at he
     dsimp only at he
     split at he
     ·rename_i hc
      (have g:=Out.ok.inj he; clear he; subst g)
      exact tb hu ra.1 ha ra.2 ht h hc hQ
     ·exact nB he
    | none=>
     rw[ht] at he
     dsimp only at he
     exact nB he
  ·rename_i h
   split at he
   ·rename_i h128
    refine a0 he λns hn he=>?_
    split at he
    ·rename_i hc
     (have g:=Out.ok.inj he; clear he; subst g)
     exact uo ra.1 hn h h128 hc hQ
    ·exact nB he
   ·exact nB he
 | max=>
  replace he:=b1_list' he
  revert he; intro k
  refine af (k) λm Nx he=>?_
  clear k
  (clear hd; subst Nx)
  replace he:=aW he
  revert he; intro j
  refine af (j) λi hi he=>?_
  clear j
  refine bB hi λns hi1 hi2=>?_
  (have g:=Out.ok.inj he; clear he; subst g)
  exact yT hh ra.1 hi1 hi2 hQ
theorem DZ (f:B1):b1n f∈bnames:=by cases f<;>decide
theorem KC (f:B1):(mL (b1n f)==("__debug__" : Str))=false:=by cases f<;>decide
theorem mX (hf:fns.hand=OZ) (Sa:SimE fns k C XP a):SimE fns k C XP (.bi1 f a):=by
 intro ex A env σ P s Q Er ok X nb hQ hE
 replace ok:=AU ok
 revert ok; refine λi=>PG i (λj=>?_) (λok=>?_)
 ·clear i
  refine cS (j) λz y x u l ok=>?_
  clear j
  subst l
  simp only[O9,Pv] at ok
  refine ae (ok) λo t=>?_
  clear ok
  refine ae (o) λp hg=>?_
  clear o
  subst p
  simp only[fo] at nb hQ hE
  refine aR nb λn1 n2=>?_
  have m:∀ {B:Lt},B=bval (b1n f)->∀ {n:Pos},Ph (Pn prog w) A (VR (RO n (Qm [_] env))) (λvs g=>Ph (Pn prog w) A (SV B vs) Q Er g) Er s:=λ{B} hB {n}=>by
   subst hB
   refine iY _ t (Sa t X n1 (λr hr v g Ea=>?_) λc hc=>hE c (by rw[hc]; rfl))
   have n3:=n2 r hr
   cases h:b1V f r.1 with
   | bad=>exact Pq h n3
   | exc c=>exact Pq h Ca
   | ok q=>
    obtain ⟨ka,as,ra,ha,_⟩:=Ea
    exact BM (P:=λa=>P a\/s.heap.get? a=O2) (X.room.1 hf) X.room.units h ra ha λv s' E=>hQ q (by rw[hr]; exact h) v s' (E.shift ka)
  refine hY X.eok X.ge (DZ f) hg (KC f) ?_
  cases f with
  | list=>exact hJ (T:="list") _ t rfl (m rfl)
  | tuple=>exact hJ (T:="tuple") _ t rfl (m rfl)
  | _=>exact qJ _ t rfl (m rfl)
 ·cases ok
theorem yu:iA x t≠.exc c:=Cg c
theorem xW (h:nj t k=qn b):t∈bnames/\bval t = .type t :=
 qq h (λe uu=>e▸⟨by decide,rfl⟩) (λe uu=>e▸⟨by decide,rfl⟩) (λe uu=>e▸⟨by decide,rfl⟩) (λe uu=>e▸⟨by decide,rfl⟩) λe uu=>e▸⟨by decide,rfl⟩
theorem wx {id:Str}{p:Pos}(xs:rg Expr) (env:Env):Qm (.Name id p::xs) env=(OZ,Tu (.Name id p) env)::Qm xs env:=rfl
theorem BA (Sa:SimE fns k C XP a):SimE fns k C XP (.isi a t):=by
 intro ex A r σ P s Q Er ok X nb hQ hE
 replace ok:=D8 ok
 revert ok; refine λg=>PG g (λi=>?_) (λok=>?_)
 ·clear g
  refine uc (i) λOY OS z y v u o ok=>?_
  clear i
  subst o
  simp only[O9,Pv] at ok
  refine ae (ok) λn hdt=>?_
  clear ok
  refine ae (n) λm hgt=>?_
  clear n
  refine ae (m) λl q=>?_
  clear m
  refine ae (l) λj oa=>?_
  clear l
  refine ae (j) λp hg=>?_
  clear j
  subst p
  subst q
  simp only[gv] at nb hQ hE
  refine aR nb λn1 n2=>?_
  refine hY X.eok X.ge (id:="isinstance") (by decide) hg (by decide) (qJ (id:="isinstance") _ oa rfl (Rp ?_ (aK oa _ r)))
  refine Sa oa X n1 (λx hx va s₁ Ea=>?_) λc hc=>hE c (by rw[hc]; rfl)
  cases h:iA x.1 t with
  | bad=>exact Pq h (br (n2 x hx)).1
  | exc c=>exact Pq h yu
  | ok b=>
   refine af (yv h) λxd hxd hi=>?_
   refine ae (xW hi) λhm hb=>?_
   have ge:=X.ge.k Ea.keeps.k
   refine aq (ge.glob) λmg g1 _ g3=>?_
   refine af (ge.blt) λmb b1 b2=>?_
   refine Rp ?_ (wx [] r)
   refine Calls.Name_function_global X.eok.kind (fc hgt) (Calls.loadGlobal_builtin (X.eok.glob▸g1) (g3 t hm) (X.eok.blt▸b1) (b2 t hm) ?_) (nd hdt)
   refine TJ ?_
   obtain ⟨ka,as,ra,ha,_⟩:=Ea
   rw[hxd] at ra
   rw[hb]
   exact xi hi ra.1 λs' kp=>hQ (sB b) (by rw[hx,Out.ok_bind,h]; rfl) _ _ (.bool (ka.trans kp))
 ·cases ok
set_option tactic.hygienic true in
theorem yV (hf:fns.hand=OZ) (hC:cU fns k C XP) (hXP:∀ c s s₁ x s',Kp s s₁->XP c s₁ x s'->XP c s x s') {f:OX}{es:Es}(Ss:fJ fns k C XP es):SimE fns k C XP (.call f es):=by
 intro ex A env σ P s Q Er ok X nb hQ hE
 replace ok:=v8 ok
 revert ok; refine λn=>PG n (λt=>?_) (λok=>?_)
 ·clear n
  refine cS (t) λOX p xs pos OI ok=>?_
  clear t
  subst OI
  simp only[O9,Pv,P0,QM] at ok
  refine ae (ok) λNP m=>?_
  clear ok
  refine ae (NP) λNT hl=>?_
  clear NP
  refine ae (NT) λNK hne=>?_
  clear NT
  refine ae (NK) λN2 hx=>?_
  clear NK
  refine ae (N2) λOf hm=>?_
  clear N2
  refine ae (Of) λu hd=>?_
  clear Of
  refine ae (u) λOb hg=>?_
  clear u
  subst Ob
  simp only[eZ] at nb hQ hE
  split at nb
  ·rename_i g hCf
   rw[hCf] at hQ hE
   dsimp only at hQ hE
   refine aR nb λn1 n2=>?_
   refine af ((hC f g hCf).2.2.2 hx) λfa h i=>?_
   refine aq (X.ge.glob) λmg g1 g2 _=>?_
   refine XE (Calls.Name_function_global X.eok.kind (fc hg) (Calls.loadGlobal_global (X.eok.glob▸g1) (g2 f fa hm h) ?_) (nd hd))
   cases xs with
   | nil=>simp at hne
   | cons y ys=>
    cases es with
    | nil=>exact Qh (show OZ=vk from m)
    | cons e es=>
     refine dU (show (okE env.scope.names e y&&dv env.scope.names es ys)=vk from m) λoy oys=>?_
     have fin:∀ l,evs C (.cons e es) σ = .ok l->∀ j s₁,EPs P s l j s₁->Ph (Pn prog w) A (SV (.ref fa) j []) Q Er s₁:=λl hl j s₁ Es=>by
      obtain ⟨ks,as,rs,ha,_⟩:=Es
      exact i (P:=λa=>P a\/s.heap.get? a=O2) X.room (af (X.frm hf) λl' a' b'=>(ah l' a' (b'.k ks.k))) (X.ge.k ks.k) rs ha (n2 l hl) (λr hr v s' E=>hQ r (by rw[hl]; exact hr) v s' (E.shift ks)) λc hc z s' hz=>hE c (by rw[hl]; exact hc) z s' (hXP c s s₁ z s' ks hz)
     by_cases hR:f = "Rule"
     ·have hi:fns.init.isSome=true:=by
       unfold adr at h
       rw[O1 hR] at h
       refine bI h λuu q _=>?_
       rw[q]; rfl
      have hfr:fa=SF.rule:=by
       unfold adr at h
       rw[O1 hR] at h
       refine bI h λuu uu q=>?_
       exact q.symm
      refine aw (X.ge.cls (.inr hi)) λN mN hcl _=>?_
      rw[<- hfr] at hcl
      exact oX (aK oy _ env) (lE oys pos).1 (Ss (pos:=pos) m X n1 (λl hl j s₁ Es=>⟨rT hcl Es.keeps.k,fin l hl j s₁ Es⟩) λc hc=>hE c (by rw[hc]; rfl))
     ·rw[v7 hR hm] at h
      refine bI h λq hq OG=>?_
      (clear i; subst OG)
      refine ay (X.ge.funs f q hq) λo fd ho hfd _=>?_
      refine Calls.callWith_function (o:=o) (fd:=fd) ?_
      have hS:=Ss (pos:=pos) (A:=A) (P:=P) (s:=s) (Er:=Er) (Q:=λj s₁=>(s₁.heap.get? q.1=qn o/\o.data = .func fd)/\Ph (Pn prog w) A (SV (.ref q.1) ([]++j) []) Q Er s₁) m X n1 (λl hl j s₁ Es=>?_) λc hc=>hE c (by rw[hc]; rfl)
      ·rw[aK oy] at hS ⊢
       exact Calls.evalArgs_plain hS
      ·refine ⟨⟨Es.keeps.k.exact ho (λuu q=>by rw[hfd] at q; cases q) λuu uu q=>(by rw[hfd] at q; cases q),hfd⟩,?_⟩
       rw[WP]
       exact fin l hl j s₁ Es
  ·exact Pq rfl nb
 ·cases ok
noncomputable def ww:Expr->PV
 | .UnaryOp .Not _ _=>OZ
 | .BoolOp _ _ _=>OZ
 | .IfExp _ _ _ _=>OZ
 | .Compare _ _ _ _=>OZ
 | _=>vk
theorem pY {ex:Expr}(h:ww ex=vk) (env:Env) (t:Sem Lt):isTrue ex env t=(do let v <- t; standAt ex.pos; Zm [v] (truthy v)):=by
 cases ex with
 | UnaryOp op x p=>cases op<;>first | rfl | exact nF h
 | _=>first | rfl | exact nF h
noncomputable def vn:E->PV
 | .not _ | .cmp _ _ _ | .and _ _ | .or _ _=>OZ
 | _=>vk
theorem xc {ex:Expr}(hp:vn e=vk) (h:okE ns e ex=vk):ww ex=true:=by
 cases ex with
 | UnaryOp op x p=>
  cases e with
  | not _=>exact nF hp
  | neg a=>
   refine PG (AW h) (λg=>?_) (λq=>?_)
   ·refine aw (g) λk j q i=>?_
    clear g
    cases q; rfl
   ·cases q
  | _=>exact Qh (show OZ=vk from h)
 | BoolOp _ _ _=>
  cases e with
  | and _ _=>exact nF hp
  | or _ _=>exact nF hp
  | _=>exact Qh (show OZ=vk from h)
 | Compare _ _ _ _=>
  cases e with
  | cmp _ _ _=>exact nF hp
  | _=>exact Qh (show OZ=vk from h)
 | IfExp _ _ _ _=>cases e<;>exact Qh (show OZ=vk from h)
 | _=>rfl
variable (fns k C XP)
structure SimAll (ee:E):Prop where
 e:SimE fns k C XP ee
 t:SimT fns k C XP ee
 a:SimA fns k C XP ee
 o:SimO fns k C XP ee
 ta:SimTA fns k C XP ee
 to:SimTO fns k C XP ee
variable {fns k C XP}
noncomputable def qk:E->PV
 | .and _ _=>OZ
 | _=>vk
noncomputable def sX:E->PV
 | .or _ _=>OZ
 | _=>vk
theorem ij (h:qk e=vk):okA ns e vs=false:=by cases e<;>first | rfl | exact nF h
theorem ii (h:sX e=vk):okO ns e vs=false:=by cases e<;>first | rfl | exact nF h
theorem SimAll.ofET {e:E}(S:SimE fns k C XP e) (T:SimT fns k C XP e) (ha:qk e=vk) (ho:sX e=vk):SimAll fns k C XP e where
 e:=S
 t:=T
 a:=lC S λg=>by rw[ij ha] at g; exact nF g
 o:=lF S λg=>by rw[ii ho] at g; exact nF g
 ta:=jV T λg=>by rw[ij ha] at g; exact nF g
 to:=jQ T λg=>by rw[ii ho] at g; exact nF g
theorem SimAll.ofE {e:E}(S:SimE fns k C XP e) (hp:vn e=vk) (ha:qk e=vk) (ho:sX e=vk):SimAll fns k C XP e :=
 .ofET S (sO S λuu uu g t h=>pY (xc hp h) g t) ha ho
theorem zg (h:∀ c s s₁ x s',Kp s s₁->XP c s₁ x s'->XP c s x s'):SimE fns 0 (λuu=>O2) XP (lN x t):=by
 have S1:SimE fns 0 (λuu=>O2) XP (.neg (.sub (.name x) (.name t))):=ss (nC h (e9 x) (e9 t))
 have S2:fJ fns 0 (λuu=>O2) XP (.cons (.name t) .nil):=jE h (e9 t) oB
 have S3:fJ fns 0 (λuu=>O2) XP (.cons (.neg (.sub (.name x) (.name t))) (.cons (.name t) .nil)):=jE h S1 S2
 show SimE fns 0 (λuu=>O2) XP (.tup (.cons (.neg (.sub (.name x) (.name t))) (.cons (.name t) .nil)))
 exact r8 S3
section
variable (hf:fns.hand=OZ) (hC:cU fns k C XP) (hXP:∀ c s s₁ x s',Kp s s₁->XP c s₁ x s'->XP c s x s')
include hXP
theorem uH (Sa:SimAll fns k C XP a) (Sb:SimAll fns k C XP b):SimAll fns k C XP (.and a b) :=
  have S:SimE fns k C XP (.and a b):=Ce hXP Sa.e Sb.a
  have T:SimT fns k C XP (.and a b):=xU hXP Sa.t Sb.ta
  {e:=S,t:=T,o:=lF S λg=>(by rw[ii rfl] at g; cases g),to:=jQ T λg=>(by rw[ii rfl] at g; cases g),
   a:=lC S λ{z} _ _ _ _ _ _ _ _ g X v x y=>(by
    replace g:=i_A g
    revert g; refine λi=>PG i (λl=>?_) (λg=>?_)
    ·clear i
     refine aw (l) λu r n g=>?_
     clear l
     subst n
     simp only[O9] at g
     exact Dq hXP Sa.e Sb.a g.1 g.2 X v x y
    ·cases g),
   ta:=jV T λ{z} _ _ _ _ _ _ _ g X v x y=>(by
    replace g:=i_A g
    revert g; refine λh=>PG h (λj=>?_) (λg=>?_)
    ·clear h
     refine aw (j) λq p m g=>?_
     clear j
     subst m
     simp only[O9] at g
     exact A6 hXP Sa.t Sb.ta g.1 g.2 X v x y
    ·cases g) }
theorem uL (Sa:SimAll fns k C XP a) (Sb:SimAll fns k C XP b):SimAll fns k C XP (.or a b) :=
  have S:SimE fns k C XP (.or a b):=Du hXP Sa.e Sb.o
  have T:SimT fns k C XP (.or a b):=Bk hXP Sa.t Sb.to
  {e:=S,t:=T,a:=lC S λg=>(by rw[ij rfl] at g; cases g),ta:=jV T λg=>(by rw[ij rfl] at g; cases g),
   o:=lF S λ{z} _ _ _ _ _ _ _ _ g X v x y=>(by
    replace g:=i_O g
    revert g; refine λj=>PG j (λl=>?_) (λg=>?_)
    ·clear j
     refine aw (l) λu r n g=>?_
     clear l
     subst n
     simp only[O9] at g
     exact orL hXP Sa.e Sb.o g.1 g.2 X v x y
    ·cases g),
   to:=jQ T λ{z} _ _ _ _ _ _ _ g X v x y=>(by
    replace g:=i_O g
    revert g; refine λh=>PG h (λi=>?_) (λg=>?_)
    ·clear h
     refine aw (i) λq p m g=>?_
     clear i
     subst m
     simp only[O9] at g
     exact CU hXP Sa.t Sb.to g.1 g.2 X v x y
    ·cases g) }
include hf hC
mutual
theorem aB:∀ e:E,SimAll fns k C XP e
 | .name x=>.ofE (e9 x) rfl rfl rfl
 | .int i=>.ofE (sa i) rfl rfl rfl
 | .str s=>.ofE (BG s) rfl rfl rfl
 | .bool b=>.ofE (yS b) rfl rfl rfl
 | .none=>.ofE yU rfl rfl rfl
 | .bin o a b=>.ofE (Bw hXP (aB a).e (aB b).e) rfl rfl rfl
 | .neg a=>.ofE (ss (aB a).e) rfl rfl rfl
 | .not a=>.ofET (Bs (aB a).e) (wU (aB a).t) rfl rfl
 | .cmp o a b=>.ofET (Cc hXP (aB a).e (aB b).e) (xT hXP (aB a).e (aB b).e) rfl rfl
 | .and a b=>uH hXP (aB a) (aB b)
 | .or a b=>uL hXP (aB a) (aB b)
 | .list es=>.ofE (yx (iO es)) rfl rfl rfl
 | .tup es=>.ofE (r8 (iO es)) rfl rfl rfl
 | .edic=>.ofE yo rfl rfl rfl
 | .comp elt x it=>.ofE (xg (fu it) (aB elt).e) rfl rfl rfl
 | .compif elt x it c=>.ofE (tU (fu it) (aB elt).e (aB c).t) rfl rfl rfl
 | .sub a i=>.ofE (nC hXP (aB a).e (aB i).e) rfl rfl rfl
 | .slo a i=>.ofE (Cy hXP (aB a).e (aB i).e) rfl rfl rfl
 | .attr a n=>.ofE (y7 hC (aB a).e) rfl rfl rfl
 | .bi1 f a=>.ofE (mX hf (aB a).e) rfl rfl rfl
 | .isi a t=>.ofE (BA (aB a).e) rfl rfl rfl
 | .call f es=>.ofE (yV hf hC hXP (iO es)) rfl rfl rfl
 | .meth a m es=>.ofE (yO hf hC hXP (aB a).e (iO es)) rfl rfl rfl
 | .order x t=>.ofE (uK hf (λg j=>(hC "law" g j).2.1 rfl) (mX hf (e9 x)) (zg (XP:=λuu uu uu uu=>Qj) λuu uu uu uu uu uu h=>h)) rfl rfl rfl
termination_by structural e=>e
theorem iO:∀ es:Es,fJ fns k C XP es
 | .nil=>oB
 | .cons e es=>jE hXP (aB e).e (iO es)
termination_by structural es=>es
theorem fu:∀ it:It,dJ fns k C XP it
 | .e a=>Cz hf (aB a).e
 | .r1 n=>xH hf (aB n).e
 | .r2 a b=>yP hf hXP (aB a).e (aB b).e
termination_by structural it=>it
end
end
end
theorem ku {σ τ:St}{x:OX}{v:V×Mode}{ns:rg OX}(h:∀ y∈ns,σ y=τ y):∀ y∈ns,upd σ x v y=upd τ x v y:=by
 intro y g
 unfold upd
 split
 ·rfl
 ·exact h y g
mutual
theorem aD (C:Calls):∀ (e:E) (σ τ:St),(∀ y∈fv e,σ y=τ y)->ev C e σ=ev C e τ
 | .name x,σ,τ,h=>by simp only[cK]; rw[h x (by simp[dq])]
 | .int _,_,_,_=>by simp only[eY]
 | .str _,_,_,_=>by simp only[kF]
 | .bool _,_,_,_=>by simp only[hW]
 | .none,_,_,_=>by simp only[gV]
 | .bin o a b,σ,τ,h=>by
  simp only[Co,Pu] at h
  simp only[gB]; rw[aD C a σ τ λy g=>h y (.inl g),aD C b σ τ λy g=>h y (.inr g)]
 | .neg a,σ,τ,h=>by simp only[BX] at h; simp only[gq]; rw[aD C a σ τ h]
 | .not a,σ,τ,h=>by simp only[Ch] at h; simp only[ei]; rw[aD C a σ τ h]
 | .cmp o a b,σ,τ,h=>by
  simp only[Bj,Pu] at h
  simp only[eJ]; rw[aD C a σ τ λy g=>h y (.inl g),aD C b σ τ λy g=>h y (.inr g)]
 | .and a b,σ,τ,h=>by
  simp only[CJ,Pu] at h
  simp only[eu]; rw[aD C a σ τ λy g=>h y (.inl g),aD C b σ τ λy g=>h y (.inr g)]
 | .or a b,σ,τ,h=>by
  simp only[C0,Pu] at h
  simp only[fN]; rw[aD C a σ τ λy g=>h y (.inl g),aD C b σ τ λy g=>h y (.inr g)]
 | .list es,σ,τ,h=>by simp only[yd] at h; simp only[bH]; rw[fM C es σ τ h]
 | .tup es,σ,τ,h=>by simp only[Bl] at h; simp only[eA]; rw[fM C es σ τ h]
 | .edic,_,_,_=>by simp only[gQ]
 | .comp elt x it,σ,τ,h=>by
  simp only[xK,Pu] at h
  simp only[d7]
  rw[eS C it σ τ λy g=>h y (.inl g)]
  have e:∀ d,(ev C elt (upd σ x (mk (.d d))))=ev C elt (upd τ x (mk (.d d))):=λd=>aD C elt _ _ (ku λy g=>h y (.inr g))
  simp only[e]
 | .compif elt x it c,σ,τ,h=>by
  simp only[tD,Pu] at h
  simp only[c6]
  rw[eS C it σ τ λy g=>h y (.inl g)]
  have e:∀ d,(ev C elt (upd σ x (mk (.d d))))=ev C elt (upd τ x (mk (.d d))):=λd=>aD C elt _ _ (ku λy g=>h y (.inr (.inr g)))
  have i:∀ d,(ev C c (upd σ x (mk (.d d))))=ev C c (upd τ x (mk (.d d))):=λd=>aD C c _ _ (ku λy g=>h y (.inr (.inl g)))
  simp only[e,i]
 | .sub a b,σ,τ,h=>by
  simp only[rS,Pu] at h
  simp only[fB]; rw[aD C a σ τ λy g=>h y (.inl g),aD C b σ τ λy g=>h y (.inr g)]
 | .slo a b,σ,τ,h=>by
  simp only[B3,Pu] at h
  simp only[gu]; rw[aD C a σ τ λy g=>h y (.inl g),aD C b σ τ λy g=>h y (.inr g)]
 | .attr a n,σ,τ,h=>by simp only[x6] at h; simp only[e8]; rw[aD C a σ τ h]
 | .bi1 f a,σ,τ,h=>by simp only[rN] at h; simp only[fo]; rw[aD C a σ τ h]
 | .isi a t,σ,τ,h=>by simp only[Cd] at h; simp only[gv]; rw[aD C a σ τ h]
 | .call f es,σ,τ,h=>by simp only[jj] at h; simp only[eZ]; rw[fM C es σ τ h]
 | .meth a m es,σ,τ,h=>by
  simp only[xE,Pu] at h
  simp only[dl]; rw[aD C a σ τ λy g=>h y (.inl g),fM C es σ τ λy g=>h y (.inr g)]
 | .order x _,σ,τ,h=>by simp only[fR]; rw[h x (by simp[vp])]
termination_by structural e=>e
theorem fM (C:Calls):∀ (es:Es) (σ τ:St),(∀ y∈fvs es,σ y=τ y)->evs C es σ=evs C es τ
 | .nil,_,_,_=>by simp only[bg]
 | .cons e es,σ,τ,h=>by
  simp only[il,Pu] at h
  simp only[bk]; rw[aD C e σ τ λy g=>h y (.inl g),fM C es σ τ λy g=>h y (.inr g)]
termination_by structural es=>es
theorem eS (C:Calls):∀ (it:It) (σ τ:St),(∀ y∈bR it,σ y=τ y)->bw C it σ=bw C it τ
 | .e a,σ,τ,h=>by simp only[fg] at h; simp only[iL]; rw[aD C a σ τ h]
 | .r1 a,σ,τ,h=>by simp only[qQ] at h; simp only[gP]; rw[aD C a σ τ h]
 | .r2 a b,σ,τ,h=>by
  simp only[yI,Pu] at h
  simp only[gX]; rw[aD C a σ τ λy g=>h y (.inl g),aD C b σ τ λy g=>h y (.inr g)]
termination_by structural it=>it
end
noncomputable def cL (σ:St) (ns:rg OX):St:=λx=>if x∈ns then σ x else O2
theorem cj (σ:St) (ns:rg OX):∀ y∈ns,cL σ ns y=σ y:=λy g=>by unfold cL; rw[O1 g]
theorem nO {M:Vz}{A:PU}{E:Lt->O0->Prop}{s:O0}{a:Pz}{m:Str->O4 Lt}{name:Str}{v:Lt}{T:Lt}{Q:UN->O0->Prop}(hn:s.heap.Ns a m) (hc:∃ o,s.heap.get? a=qn o/\o.cls=T)
  (h:∀ h',h'.Ns a (λx=>if x=name then qn v else m x)->Qg a s.heap h'->(∃ o,h'.get? a=qn o/\o.cls=T)->Q () {s with heap:=h',toks:=s.toks+1 }):Ph M A (nsSet a name v) Q E s:=by
 refine fF (hn) λo es ep ho hd hk hm=>?_
 clear hn
 refine af (hc) λo' ho' hT=>?_
 clear hc
 rw[ho] at ho'
 obtain rfl:=vj ho'
 have hany:es.any (·.refKey)=false:=by
  rw[Array.any_eq_false']; intro e he; obtain ⟨n,t,h⟩:=hk e he; simp[Jak,h]
 intro Γ p _
 simp only[nsSet,strHash,Sem.wp_bind',Sem.wp_cmd_ask,Sem.wp_pure',Sem.wp_cmd_mkText]
 rw[Sem.wp_loadPart_of M Γ _ p {s with toks:=s.toks+1 } (o:=o) _ ho]
 simp only[hd,aRefKeyMayBeTheName_eq,aRefKeyMayBeTheNameByArray,hany,Bool.and_false,PK,Ql,Sem.wp_cmd_updatePart]
 refine ⟨by rw[ho]; rfl,h _ ?_ (P2 ..) ?_⟩
 ·obtain ⟨c,d,dt,sl⟩:=o
  (clear hT ho'; subst hd)
  cases hi:es.findIdx? (·.key.isStr name) with
  | some i=>
   refine (ip _ _ ep (P4 _ ho (by simp only[RP,Q8,hi]; rfl)) (by simp only[RP,Q8,hi]; rfl) (hk.modify _ _) (λx=>?_))
   show _=if x=name then qn v else m x
   rw[<- hm]; exact findBy_modify (λn v=>v.isStr n) Value.isStr_inj es name x v i hi
  | none=>
   refine (ip _ _ (ep+1) (P4 _ ho (by simp only[RP,Q8,hi]; rfl)) (by simp only[RP,Q8,hi]; rfl) (hk.push _ _ _ _) (λx=>?_))
   show _=if x=name then qn v else m x
   rw[<- hm]
   exact findBy_push (λn v=>v.isStr n) es name x _ _ v (λy=>by
    show (name==y)=decide (y=name)
    by_cases h:y=name
    ·(clear hi; subst h); simp
    ·have:¬ name=y:=λe=>h e.symm
     simp[h,this]) hi
 ·obtain ⟨c,d,dt,sl⟩:=o
  (clear ho'; subst hd)
  cases hi:es.findIdx? (·.key.isStr name) with
  | some i=>exact (ah _ (P4 _ ho (by simp only[RP,Q8,hi]; rfl)) (by simp only[RP,Q8,hi]; exact hT))
  | none=>exact (ah _ (P4 _ ho (by simp only[RP,Q8,hi]; rfl)) (by simp only[RP,Q8,hi]; exact hT))
structure Loc (env:Env) (Z:Pz->Prop) (h:P9) (vals:OX->O4 Lt):Prop where
 cls:∃ o,h.get? env.locals=qn o/\o.cls = .type "frame"
 ns:∃ m,h.Ns env.locals m/\∀ x v,vals x=qn v->env.kindOf (mL x)=qn .local->m (mL x)=qn v
 nz:¬ Z env.locals
 cell:∀ n c,env.kindOf n=qn .cell->env.cells.lookup n=qn c->c≠env.locals/\¬ Z c/\∃ v,h.IsCell c v
 cval:∀ x v c,vals x=qn v->env.kindOf (mL x)=qn .cell->env.cells.lookup (mL x)=qn c->h.IsCell c (qn v)
 apart:∀ n n' c,env.cells.lookup n=qn c->env.cells.lookup n' = qn c->n=n'
 kinds:∀ x v,vals x=qn v->env.kindOf (mL x)=qn .local\/env.kindOf (mL x)=qn .cell
noncomputable def fV (vals:OX->O4 Lt) (x:OX) (v:Lt):OX->O4 Value:=λy=>if y=x then qn v else vals y
noncomputable def yn (T:Pz) (h h':P9):Prop:=(∃ v,h.IsCell T v)->∀ o,h.get? T=qn o->∃ o',h'.get? T=qn o'/\o'.cls=o.cls/\o'.dict=o.dict/\∀ c,o'.data≠.cls c
theorem xq {M:Vz}{A:PU}{E:Lt->O0->Prop}{s:O0}{env:Env}{name:Str}{c:Pz}{l:O4 Lt}{v:Lt}{Q:UN->O0->Prop}(hk:env.scope.kind = .function) (hl:env.kindOf name=qn .cell) (hc:env.cells.lookup name=qn c) (hv:s.heap.IsCell c l)
  (h:∀ h',h'.IsCell c (qn v)->Qg c s.heap h'->yn c s.heap h'->Q () {s with heap:=h' }):Ph M A (VH env name v) Q E s:=by
 unfold VH
 simp only[hl,hk]
 refine Gt (wpAny_cellOf hc ?_)
 refine af (hv) λo g j=>?_
 clear hv
 unfold cellSet
 refine Gt (WT g ?_)
 rw[j]
 refine wpAny_update g (h _ (ah ({o with data:=.cell (qn v) }) (P4 _ g rfl) rfl) (.update ..) λuu k e=>?_)
 rw[g] at e; (have i:=vj e; clear e; subst i)
 exact (bD ({o with data:=.cell (qn v) }) (P4 _ g rfl) rfl rfl (λuu q=>by cases q))
noncomputable def Spot (env:Env) (h:P9) (T:Pz):Prop:=(T=env.locals/\∃ m,h.Ns T m)\/∃ v,h.IsCell T v
theorem Spot.noseq (t:Spot env h T) (o:Obj) (e:h.get? T=qn o) (vs:Pf Lt) (n:Pa):o.data≠.seq vs n:=by
 intro q
 rcases t with ⟨_,m,o',es,ep,e',hd,_⟩ | ⟨v,o',e',hd⟩
 ·rw[e'] at e; (have g:=vj e; clear e; subst g); rw[hd] at q; cases q
 ·rw[e'] at e; (have g:=vj e; clear e; subst g); rw[hd] at q; cases q
theorem Spot.nostay (t:Spot env h T) (o:Obj) (e:h.get? T=qn o):¬ Stay o:=by
 rcases t with ⟨_,m,o',es,ep,e',hd,_⟩ | ⟨v,o',e',hd⟩
 ·rw[e'] at e; (have g:=vj e; clear e; subst g); exact Stay.not_dict hd
 ·rw[e'] at e; (have g:=vj e; clear e; subst g); exact Stay.not_data (λuu q=>by rw[hd] at q; cases q) λuu uu q=>by rw[hd] at q; cases q
section
theorem Loc.onK {env:Env}{Z:Pz->Prop}{h h':P9}{vals:OX->O4 Lt}(L:Loc env Z h vals) (kp:K h h'):Loc env Z h' vals where
 cls:=af (L.cls) λo e c=>af (kp _ o (.inl trivial) e) λg i l=>(ah g i (l.cls.trans c))
 ns:=af (L.ns) λm a b=>(ah m (fX a kp) b)
 nz:=L.nz
 cell:=λn c a b=>let ⟨h1,h2,v,h3⟩:=L.cell n c a b; (cy h1 h2 (bP v (iT h3 kp)))
 cval:=λx v c a b d=>iT (L.cval x v c a b d) kp
 apart:=L.apart
 kinds:=L.kinds
theorem Loc.var (L:Loc env Z h vals) (eok:EnvOk env) (hv:vals x=qn v):VarIs h env (mL x) v:=by
 rcases L.kinds x v hv with hk | hk
 ·refine af (L.ns) λm a b=>?_
  exact .loc m hk a (b x v hv hk)
 ·refine ak (eok.cells _ (.inl hk)) λc g=>?_
  exact .cell c (.inl hk) g (L.cval x v c hv hk g)
theorem Loc.store (L:Loc env Z s.heap vals) (eok:EnvOk env)
  (hx:env.kindOf (mL x)=qn .local\/env.kindOf (mL x)=qn .cell)
  (hQ:∀ T h' tk,Qg T s.heap h'->Spot env s.heap T->yn T s.heap h'->¬ Z T->Loc env Z h' (fV vals x v)->Q () {s with heap:=h',toks:=tk }):Ph (Pn prog w) A (VH env (mL x) v) Q Er s:=by
 have inj:∀ y,mL y=mL x->y=x:=λy e=>cr e
 have kinds':∀ y u,fV vals x v y=qn u->env.kindOf (mL y)=qn .local\/env.kindOf (mL y)=qn .cell:=λy u hu=>by
  unfold fV at hu
  split at hu
  ·rename_i e; (clear hQ inj; subst e); exact hx
  ·exact L.kinds y u hu
 refine af (L.ns) λm hm hmv=>?_
 rcases hx with hk | hk
 ·rw[Yh hk (by rw[eok.kind]; rfl)]
  refine nO hm L.cls (λh' hn hs hcl=>hQ env.locals h' _ hs (.inl (aE rfl (bP m hm))) (λ⟨u,o,e,q⟩=>by obtain ⟨o',es,ep,e',q',_⟩:=hm; rw[e] at e'; (have oc:=vj e'; clear e'; subst oc); rw[q] at q'; cases q') L.nz ?_)
  refine ⟨hcl,(ah _ hn (λy u hu hky=>?_)),L.nz,λn c hkn hc=>?_,λy u c hu hky hc=>?_,L.apart,kinds'⟩
  ·unfold fV at hu
   split at hu
   ·rename_i e; (clear hQ hk hn inj kinds'; subst e); (have oc:=vj hu; clear hu; subst oc); simp
   ·rename_i e
    rw[OY λq=>e (inj y q)]
    exact hmv y u hu hky
  ·refine aI (L.cell n c hkn hc) λh1 h2 Od=>?_
   refine aw (Od) λu o h3 h4=>?_
   clear Od
   exact (cy h1 h2 (aC u o (hs.extBut c o h1 h3) h4))
  ·unfold fV at hu
   split at hu
   ·rename_i e; (clear hQ hn inj kinds'; subst e); rw[hk] at hky; cases hky
   ·refine ae (L.cell _ c hky hc) λh1 _=>?_
    refine af (L.cval y u c hu hky hc) λo h3 h4=>?_
    exact (ah o (hs.extBut c o h1 h3) h4)
 ·refine ak (eok.cells _ (.inl hk)) λco hco=>?_
  refine aI (L.cell _ co hk hco) λh1 h2 Ot=>?_
  refine ak (Ot) λg h3=>?_
  clear Ot
  refine xq eok.kind hk hco h3 λh' hn hs hkp=>hQ co h' s.toks hs (.inr ⟨g,h3⟩) hkp h2 ?_
  refine ⟨(af (L.cls) λo e c=>(ah o (hs.extBut _ o (QA h1) e) c)),(ah m (hm.sameBut hs (QA h1)) (λy u hu hky=>?_)),L.nz,λn c hkn hc=>?_,λy u c hu hky hc=>?_,L.apart,kinds'⟩
  ·unfold fV at hu
   split at hu
   ·rename_i e; (clear hQ hco inj kinds'; subst e); rw[hk] at hky; cases hky
   ·exact hmv y u hu hky
  ·refine aI (L.cell n c hkn hc) λg1 g2 NL=>?_
   refine aw (NL) λu o g3 g4=>?_
   clear NL
   by_cases e:c=co
   ·(clear h1 h2 h3 hco hkp hs; subst e); exact (cy g1 g2 (bP _ hn))
   ·exact (cy g1 g2 (aC u o (hs.extBut c o e g3) g4))
  ·unfold fV at hu
   split at hu
   ·rename_i e; (clear hQ hk inj kinds'; subst e); (have oc:=vj hu; clear hu; subst oc)
    rw[hco] at hc; (have oc:=vj hc; clear hc; subst oc)
    exact hn
   ·rename_i e
    refine af (L.cval y u c hu hky hc) λo g3 g4=>?_
    refine (ah o (hs.extBut c o (λq=>?_) g3) g4)
    (clear h1 h2 h3 hkp hn hs; subst q)
    exact e (inj y (L.apart _ _ c hc hco))
theorem RV.spot (r:RV h v x as) (tt:Spot env h T) (hkp:yn T h h') (hL:∀ a∈as,a≠env.locals) (hs:Qg T h h'):RV h' v x as:=by
 have i:∀ b o,b≠T->h.get? b=qn o->h'.get? b=qn o:=λb o k e=>hs.extBut b o k e
 have l:∀ a∈as,∀ o p z,h.get? a=qn o->o.data = .dict p z->a≠T:=λa ha o p z e m q=>by
  (clear hkp hs i; subst q)
  rcases tt with ⟨t,_⟩ | ⟨v,g,e',hd'⟩
  ·exact hL a ha t
  ·rw[e'] at e; (have oc:=vj e; clear e; subst oc); rw[hd'] at m; cases m
 have key:∀ ks a,S5 (R4 prog w) h ks a->S5 (R4 prog w) h' ks a:=λks a hk=>by
  refine bj (hk) λo it n a1 a2 a3=>?_
  clear hk
  refine (c9 o it n (i a o (λq=>?_) a1) a2 a3)
  (clear l hkp hs i; subst q)
  exact tt.noseq o a1 _ _ a3.1
 cases x with
 | d x=>exact ⟨r.1.off (wr:=[T]) (λb k o e=>.inl (by rw[O7.mp k] at e; exact tt.noseq o e)) λb o k e=>i b o (λq=>k (by simp[q])) e,r.2⟩
 | dic0=>
  refine kL (r) λa h1 h2 h3 Nw Nm=>?_
  clear r
  refine fF (Nw) λo p z e hx m hr=>?_
  clear Nw
  refine cQ (Nm) λg es' ep' e' h4 h5 h6 h7 h8=>?_
  clear Nm
  (clear hL; subst h2)
  have j:=l a (.head _) o p z e m
  exact (jz a h1 rfl h3 (ip o p z (i a o j e) hx m hr) (gd g es' ep' (i a g j e') h4 h5 h6 (λy hy=>key _ _ (h7 y hy)) h8))
 | dicI ks=>
  refine bX (r) λa h1 h2 h3 Nr=>?_
  clear r
  refine fF (Nr) λo p z e hx m hr=>?_
  clear Nr
  (clear hL; subst h2)
  have j:=l a (.head _) o p z e m
  exact (bD a h1 rfl h3 (ip o p z (i a o j e) hx m hr))
 | dicT ks=>
  refine mh (r) λa xs h1 h2 h3 Nn h9=>?_
  clear r
  refine cQ (Nn) λg es' ep' e' h4 h5 h6 h7 h8=>?_
  clear Nn
  (clear hL; subst h2)
  have j:=l a (.head _) g es' ep' e' h5
  exact (ic a xs h1 rfl h3 (gd g es' ep' (i a g j e') h4 h5 h6 (λy hy=>key _ _ (h7 y hy)) h8) h9.1 h9.2.1 (λx hx=>(h9.2.2 x hx).off (wr:=[T]) (λb k o e=>.inl (by rw[O7.mp k] at e; exact tt.noseq o e)) λb o k e=>i b o (λq=>k (by simp[q])) e))
 | rule c d n=>
  refine jM (r) λx D o vf bs t u mA h1 h2 h3 h4 h5 h6 h7 No h9 h10 h11 h12 h13 h14=>?_
  clear r
  refine bC (No) λoD p z e m=>?_
  clear No
  subst h2
  have hneD:D≠T:=l D (.tail _ (.head _)) oD p z e m.1
  have hx:∃ g,h'.get? x=qn g/\g.cls = .ref SF.rule/\g.dict=qn D/\∀ c,g.data≠.cls c:=by
   by_cases q:x=T
   ·(clear l hneD hs i; subst q)
    revert tt; refine λNN=>PG NN (λNB=>?_) (λtt=>?_)
    ·clear NN
     refine ae (NB) λtt N3=>?_
     clear NB
     exact Pq tt (hL x (.head _))
    ·refine bX (hkp tt o h3) λg k1 k2 k3 k4=>?_
     exact (bD g k1 (k2.trans h4) (k3.trans h6) k4)
   ·exact (bD o (i x o q h3) h4 h6 h5)
  refine bX (hx) λg x1 x2 x3 x4=>?_
  clear hx
  exact (jX x D g vf bs t u mA h1 rfl x1 x2 x4 x3 h7 (cB oD p z (i D oD hneD e) m) h9 h10 h11 h12 (h13.off (wr:=[T]) (λb k o e=>.inl (by rw[O7.mp k] at e; exact tt.noseq o e)) λb o k e=>i b o (λq=>k (by simp[q])) e) h14)
end
section
variable (fns:Fns) (k:Pa)
structure SOK (h0:P9) (P Z:Pz->Prop) (A:PU) (env:Env) (h:P9) (σ:St) (vals:OX->O4 Lt) (fp:OX->rg Pz):Prop where
 room:Room fns.hand k A
 eok:EnvOk env
 ge:GE fns h0
 z0:∀ b o,h0.get? b=qn o->Z b
 kp0:K h0 h
 code:fns.lam=vk->∃ q,CodeOk h0 env.code q
 out:fns.hand=OZ->∃ l,A.frames=qn (env::l)/\FrOk h0 l/\env.frame=qn env.locals/\¬ SF.old env.locals
 zdom:∀ b,Z b->∃ o,h.get? b=qn o
 loc:Loc env Z h vals
 val:∀ x p,σ x=qn p->varK env.scope.names x=vk/\∃ v,vals x=qn v/\RV h v p.1 (fp x)/\∀ a∈fp x,a≠env.locals/\(P a\/h0.get? a=O2)
 top:∀ x p,σ x=qn p->p.2 = .top->∃ a bs,fp x=a::bs/\¬ Z a/\a∉bs/\∀ y q,y≠x->σ y=qn q->a∉fp y
 deep:∀ x p,σ x=qn p->p.2 = .deep->(∀ a∈fp x,¬ Z a/\∀ y q,y≠x->σ y=qn q->a∉fp y)/\(fp x).Nodup
noncomputable def Stp (Z:Pz->Prop) (s s':O0):Prop:=∃ h' tk,s' = {s with heap:=h',toks:=tk }/\KG Z s.heap h'
noncomputable def nw (h0:P9) (P:Pz->Prop) (r:V×Mode) (v:Lt) (s':O0):Prop :=
 ∃ as,RV s'.heap v r.1 as/\(∀ a∈as,P a\/h0.get? a=O2)/\(r.2 = .top->∃ a bs,as=a::bs/\h0.get? a=O2/\a∉bs)/\(r.2 = .deep->(∀ a∈as,h0.get? a=O2)/\as.Nodup)
end
theorem Stp.refl (Z:Pz->Prop) (s:O0):Stp Z s s:=(aC s.heap s.toks rfl KG.refl)
theorem Stp.trans (a:Stp Z s s₁) (b:Stp Z s₁ n):Stp Z s n:=by
 refine aw (a) λh t i k=>?_
 clear a
 subst i
 refine aw (b) λm j g l=>?_
 clear b
 subst g
 exact (aC m j rfl (k.trans l))
theorem Kp.stp (a:Kp s s₁):Stp Z s s₁:=by
 refine aw (a) λh t g k=>?_
 clear a
 subst g
 exact (aC h t rfl (k.mono λuu uu=>trivial))
theorem Stp.mono (a:Stp Z' s s₁) (h:∀ b,Z b->Z' b):Stp Z s s₁:=by
 refine aw (a) λi t g k=>?_
 clear a
 subst g
 exact (aC i t rfl (k.mono h))
theorem Stp.same (st:Stp Z s s₁) (hs:Qg a s₁.heap h') (hz:¬ Z a) (hn:∀ o,s₁.heap.get? a=qn o->¬ Stay o):Stp Z s {s₁ with heap:=h',toks:=tk }:=by
 refine aw (st) λh t g k=>?_
 clear st
 subst g
 exact (aC h' tk rfl (k.trans (KG.same hs hz hn)))
section
theorem SOK.onK (K:SOK fns k h0 P Z A env h σ vals fp) (kp:KG (λuu=>Wa) h h'):SOK fns k h0 P Z A env h' σ vals fp where
 room:=K.room
 eok:=K.eok
 ge:=K.ge
 z0:=K.z0
 kp0:=KG.trans K.kp0 kp
 code:=K.code
 out:=K.out
 zdom:=λb i=>ak (K.zdom b i) λuu e=>Internal.K.there kp e
 loc:=K.loc.onK kp
 val:=λx p g=>let ⟨a,v,b,c,d⟩:=K.val x p g; (aE a (aG v b (c.k kp) d))
 top:=K.top
 deep:=K.deep
theorem SOK.h0n (K:SOK fns k h0 P Z A env h σ vals fp) (ha:¬ Z a):h0.get? a=none:=by
 cases q:h0.get? a with
 | none=>rfl
 | some o=>exact Pq (K.z0 a o q) ha
theorem gD (h:(mk v).2 = .deep):tV v=true:=by
 unfold mk at h; dsimp only at h
 split at h
 ·assumption
 ·cases h
theorem iR:(mk v).2≠.top:=by
 unfold mk; dsimp only; split<;>simp
theorem RV.scal_nil (r:RV h v x as) (hs:tV x=vk):as=[]:=by
 cases x with
 | d x=>exact r.1.sx_nil hs
 | _=>exact nF hs
theorem ck (h:demote σ ns x=qn p):∃ q,σ x=qn q/\p.1=q.1/\((x∈ns/\p=mk q.1)\/(x∉ns/\p=q)):=by
 unfold demote at h
 split at h
 ·refine bI h λq i g=>?_
  subst g
  exact (aG q i rfl (.inl ⟨by assumption,rfl⟩))
 ·exact (aG p h rfl (.inr ⟨by assumption,rfl⟩))
theorem fx {σ:St}{ns:rg OX}{x:OX}{p:V×Mode}{G:Prop}(h:demote σ ns x=qn p) (k:∀ q,σ x=qn q->p.1=q.1->((x∈ns/\p=mk q.1)\/(x∉ns/\p=q))->G):G:=aq (ck h) k
theorem SOK.demote (K:SOK fns k h0 P Z A env h σ vals fp) (ns:rg OX):SOK fns k h0 P Z A env h (demote σ ns) vals fp where
 room:=K.room
 eok:=K.eok
 ge:=K.ge
 z0:=K.z0
 kp0:=K.kp0
 code:=K.code
 out:=K.out
 zdom:=K.zdom
 loc:=K.loc
 val:=λx p m=>by
  refine fx m λq j e _=>?_
  rw[e]
  exact K.val x q j
 top:=λx p m ht=>by
  refine fx m λq j e u=>?_
  rcases u with ⟨_,rfl⟩ | ⟨_,rfl⟩
  ·exact Pq ht iR
  ·refine bp (K.top x p j ht) λa bs n z h3 h4=>?_
   refine (bO a bs n z h3 (λy r t l=>?_))
   refine af (ck l) λo i _=>?_
   exact h4 y o t i
 deep:=λx p m hd=>by
  refine fx m λq j e u=>?_
  rcases u with ⟨_,rfl⟩ | ⟨_,rfl⟩
  ·refine ae (K.val x q j) λuu g=>?_
   refine aq (g) λv _ l _=>?_
   clear g
   rw[l.scal_nil (gD hd)]
   exact ⟨λuu h=>(nomatch h),.nil⟩
  ·refine ae (K.deep x p j hd) λn z=>?_
   refine ⟨λa ha=>⟨(n a ha).1,λy r t l=>?_⟩,z⟩
   refine af (ck l) λo i _=>?_
   exact (n a ha).2 y o t i
theorem SOK.consume (K:SOK fns k h0 P Z A env h σ vals fp) (ns:rg OX) (m:Mode):SOK fns k h0 P Z A env h (consume σ ns m) vals fp:=by
 unfold Internal.consume
 split
 ·exact K
 ·exact K.demote ns
noncomputable def Own (σ:St) (fp:OX->rg Pz) (ns:rg OX) (a:Pz):Prop:=∃ y q,y∈ns/\σ y=qn q/\a∈fp y
theorem SOK.cx {s:O0}(K:SOK fns k h0 P Z A env s.heap σ vals fp) (ns:rg OX):Cx fns k A (Own σ fp ns) s.heap env (cL σ ns) where
 room:=K.room
 eok:=K.eok
 ge:=K.ge.k K.kp0
 code:=λe=>ak (K.code e) λq c=>⟨q,c.k K.kp0⟩
 frm:=λe=>by
  refine bX (K.out e) λl h1 h2 h3 h4=>?_
  refine (ah _ h1 (λj he=>?_))
  rcases PC.mp he with rfl | he
  ·refine af (K.loc.ns) λm h _=>?_
   refine bj (h) λo es ep r e2 _=>?_
   clear h
   refine af (K.loc.cls) λo' n e4=>?_
   rw[r] at n; (have t:=vj n; clear n; subst t)
   exact (aE K.eok.kind (kX _ _ es ep h3 h4 r e4 e2))
  ·exact (h2.k K.kp0) j he
 vars:=λx p i _=>by
  unfold cL at i
  split at i
  ·refine ae (K.val x p i) λuu g=>?_
   refine aq (g) λv u y _=>?_
   clear g
   exact (aP v (fp x) (K.loc.var K.eok u) y (λa z=>(aP x p ‹_› i z)))
  ·exact nN i
theorem SOK.eval (K:SOK fns k h0 P Z A env s.heap σ vals fp) (S:SimE fns k C XP e) (ok:okE env.scope.names e exx=vk) (he:ev C e σ = .ok r)
  (hQ:∀ v s',EP (Own σ fp (fv e)) s r v s'->Q v s'):Ph (Pn prog w) A (Tu exx env) Q Er s:=by
 have h:ev C e (cL σ (fv e)) = .ok r:=by rw[aD C e _ σ (cj σ (fv e))]; exact he
 exact S ok (K.cx (fv e)) (by rw[h]; simp) (λl g v s' E=>by rw[h] at g; (have j:=Out.ok.inj g; clear g; subst j); exact hQ v s' E) λc i=>by rw[h] at i; cases i
theorem SOK.evalT (K:SOK fns k h0 P Z A env s.heap σ vals fp) (S:SimT fns k C XP e) (ok:okE env.scope.names e exx=vk) (he:((ev C e σ).bind λr=>au r.1) = .ok b)
  (hQ:∀ s',Kp s s'->Q b s'):Ph (Pn prog w) A (isTrue exx env (WV exx env)) Q Er s:=by
 have h:ev C e (cL σ (fv e))=ev C e σ:=aD C e _ σ (cj σ (fv e))
 refine S ok (K.cx (fv e)) (by rw[h,he]; simp) (λm g s' l=>by rw[h,he] at g; (have j:=Out.ok.inj g; clear g; subst j); exact hQ s' l) λc i=>?_
 rw[h] at i; rw[i] at he; exact nE he
theorem SOK.own (K:SOK fns k h0 P Z A env h σ vals fp) (ha:Own σ fp ns a):(∃ o,h.get? a=qn o)/\a≠env.locals/\(P a\/h0.get? a=O2):=by
 refine ay (ha) λy q _ l i=>?_
 clear ha
 refine ae (K.val y q l) λuu g=>?_
 refine aq (g) λv _ j m=>?_
 clear g
 exact ⟨j.there a i,m a i⟩
noncomputable def Frm (Z:Pz->Prop) (xs:rg OX) (σ:St) (vals:OX->O4 Lt) (fp:OX->rg Pz) (σ':St) (vals':OX->O4 Lt) (fp':OX->rg Pz):Prop :=
 (∀ y,y∉xs->vals' y=vals y/\fp' y=fp y)/\∀ b,Z b->(∀ z q,σ z=qn q->b∉fp z)->∀ z q,σ' z=qn q->b∉fp' z
section
theorem Frm.id (h:∀ z q,σa z=qn q->∃ q',σ z=qn q'):Frm Z xs σ vals fp σa vals fp :=
 ⟨λuu uu=>⟨rfl,rfl⟩,λb _ j z q i=>ak (h z q i) λq' g=>j z q' g⟩
theorem Frm.more (f:Frm Z xs σ vals fp σa valsa fpa) (h:∀ y∈xs,y∈ys):Frm Z ys σ vals fp σa valsa fpa:=⟨λy g=>f.1 y λq=>g (h y q),f.2⟩
theorem Frm.trans (f:Frm Z xs σ vals fp σa valsa fpa) (g:Frm Z ys σa valsa fpa σb valsb fpb):Frm Z (xs++ys) σ vals fp σb valsb fpb :=
 ⟨λy i=>let a:=f.1 y λq=>i (PX _ q); let b:=g.1 y λq=>i (P5 _ q); ⟨b.1.trans a.1,b.2.trans a.2⟩,λb h j=>g.2 b h (f.2 b h j)⟩
theorem Frm.less (f:Frm Z' xs σ vals fp σa valsa fpa) (h:∀ b,Z b->Z' b):Frm Z xs σ vals fp σa valsa fpa:=⟨f.1,λb g=>f.2 b (h b g)⟩
theorem Frm.one (hv:∀ y,y≠x->valsa y=vals y) (h:∀ z q,σa z=qn q->∃ q',σ z=qn q') (ha:∀ b∈as,Z b->∃ z q,σ z=qn q/\b∈fp z) :
  Frm Z [x] σ vals fp (upd σa x r) valsa (λy=>if y=x then as else fp y):=by
 refine ⟨λy l=>⟨hv y λq=>l (by simp[q]),OY λq=>l (by simp[q])⟩,λb o m z q j g=>?_⟩
 unfold upd at j
 dsimp only at g
 by_cases e:z=x
 ·have k:b∈as:=by rwa [O1 e] at g
  refine aw (ha b k o) λn q' t p=>?_
  exact m n q' t p
 ·rw[OY e] at j g
  refine ak (h z q j) λq' i=>?_
  exact m z q' i g
end
theorem dD (hq:Internal.consume σ ns m y=qn q):∃ q',σ y=qn q':=by
 unfold Internal.consume at hq
 split at hq
 ·exact ⟨q,hq⟩
 ·obtain ⟨q',g,_⟩:=ck hq; exact ⟨q',g⟩
theorem SOK.put (K:SOK fns k h0 P Z A env s.heap σ vals fp)
  (hvk:varK env.scope.names x=vk) (hk:env.kindOf (mL x)=qn .local\/env.kindOf (mL x)=qn .cell)
  (rv:RV s.heap v r.1 as) (ha:∀ a∈as,a≠env.locals/\(P a\/h0.get? a=O2))
  (ht:r.2 = .top->∃ a bs,as=a::bs/\¬ Z a/\a∉bs/\∀ y q,y≠x->σ y=qn q->a∉fp y) (hd:r.2 = .deep->(∀ a∈as,¬ Z a/\∀ y q,y≠x->σ y=qn q->a∉fp y)/\as.Nodup)
  (hdis:∀ y q,y≠x->σ y=qn q->(q.2 = .top->∀ a bs,fp y=a::bs->a∉as)/\(q.2 = .deep->∀ a∈fp y,a∉as))
  (hQ:∀ s',Stp Z s s'->(∀ b o,b≠env.locals->(∀ u,o.data≠.cell u)->s.heap.get? b=qn o->s'.heap.get? b=qn o)->SOK fns k h0 P Z A env s'.heap (upd σ x r) (fV vals x v) (λy=>if y=x then as else fp y)->Q () s'):Ph (Pn prog w) A (VH env (mL x) v) Q Er s:=by
 refine K.loc.store K.eok hk λT h' tk hs hT hKp hZ L=>hQ _ ((Stp.refl Z s).same hs hZ hT.nostay) (λb o hb hc e=>hs.extBut b o (λq=>?_) e) ?_
 ·rcases hT with ⟨hT,_⟩ | ⟨u,o',e',hd'⟩
  ·exact hb (q.trans hT)
  ·(clear hKp hZ hs; subst q)
   rw[e'] at e; (have t:=vj e; clear e; subst t)
   exact hc u hd'
 have h0n:∀ a,¬ Z a->h0.get? a=none:=λa ha=>by
  cases q:h0.get? a with
  | none=>rfl
  | some o=>exact Pq (K.z0 a o q) ha
 have kz:∀ b o,Z b->s.heap.get? b=qn o->h'.get? b=qn o:=λb o hb e=>hs.extBut b o (λq=>hZ (q▸hb)) e
 refine ⟨K.room,K.eok,K.ge,K.z0,Internal.K.same K.kp0 hs (h0n _ hZ) hT.nostay,K.code,K.out,λb hb=>ak (K.zdom b hb) λo e=>⟨o,kz b o hb e⟩,L,λy p g=>?_,λy p g htp=>?_,λy p g hdp=>?_⟩
 ·unfold upd at g
  by_cases hy:y=x
  ·(clear L hQ hd hdis hk ht; subst hy)
   rw[O1 rfl] at g; (have t:=vj g; clear g; subst t)
   refine (aE hvk (aG v (by simp[fV]) ?_ ?_))
   ·rw[O1 rfl]; exact rv.spot hT hKp (λa h=>(ha a h).1) hs
   ·rw[O1 rfl]; exact ha
  ·rw[OY hy] at g
   refine ae (K.val y p g) λj l=>?_
   refine aq (l) λu n h3 h4=>?_
   clear l
   refine (aE j (aG u (by simpa [fV,hy] using n) ?_ ?_))
   ·rw[OY hy]; exact h3.spot hT hKp (λa h=>(h4 a h).1) hs
   ·rw[OY hy]; exact h4
 ·unfold upd at g
  by_cases hy:y=x
  ·(clear L hQ hd hdis hk hvk; subst hy)
   rw[O1 rfl] at g; (have t:=vj g; clear g; subst t)
   refine bp (ht htp) λa bs j n h3 h4=>?_
   refine (bO a bs (by rw[O1 rfl]; exact j) n h3 (λz q m i=>?_))
   unfold upd at i
   rw[OY m] at i ⊢
   exact h4 z q m i
  ·rw[OY hy] at g
   refine bp (K.top y p g htp) λa bs j n h3 h4=>?_
   refine (bO a bs (by rw[OY hy]; exact j) n h3 (λz q m i=>?_))
   unfold upd at i
   by_cases hzx:z=x
   ·rw[O1 hzx]
    exact (hdis y p hy g).1 htp a bs j
   ·rw[OY hzx] at i ⊢
    exact h4 z q m i
 ·unfold upd at g
  by_cases hy:y=x
  ·(clear L hQ hdis hk ht hvk; subst hy)
   rw[O1 rfl] at g; (have t:=vj g; clear g; subst t)
   refine ae (hd hdp) λj n=>?_
   rw[O1 rfl]
   refine ⟨λa h=>⟨(j a h).1,λz q m i=>?_⟩,n⟩
   unfold upd at i
   rw[OY m] at i ⊢
   exact (j a h).2 z q m i
  ·rw[OY hy] at g ⊢
   refine ae (K.deep y p g hdp) λj n=>?_
   refine ⟨λa h=>⟨(j a h).1,λz q m i=>?_⟩,n⟩
   unfold upd at i
   by_cases hzx:z=x
   ·rw[O1 hzx]
    exact (hdis y p hy g).2 hdp a h
   ·rw[OY hzx] at i ⊢
    exact (j a h).2 z q m i
theorem SOK.put_ep (K:SOK fns k h0 P Z A env s.heap σ vals fp)
  (hvk:varK env.scope.names x=vk) (hk:env.kindOf (mL x)=qn .local\/env.kindOf (mL x)=qn .cell) (E:EP (Own σ fp ns) s r v s₁)
  (hQ:∀ s' as,RV s₁.heap v r.1 as->Stp Z s₁ s'->(∀ b o,b≠env.locals->(∀ u,o.data≠.cell u)->s₁.heap.get? b=qn o->s'.heap.get? b=qn o)->SOK fns k h0 P Z A env s'.heap (upd (Internal.consume σ ns r.2) x r) (fV vals x v) (λy=>if y=x then as else fp y)->Frm Z [x] σ vals fp (upd (Internal.consume σ ns r.2) x r) (fV vals x v) (λy=>if y=x then as else fp y)->Q () s'):Ph (Pn prog w) A (VH env (mL x) v) Q Er s₁:=by
 obtain ⟨kp,as,rv,ha,ht,hd⟩:=E
 have K₁:=(K.onK kp.k).consume ns r.2
 have nz:∀ a,s.heap.get? a=O2->¬ Z a:=λa e hz=>by
  refine ak (K.zdom a hz) λo t=>?_
  rw[e] at t; exact nN t
 have nf:∀ a,s.heap.get? a=O2->∀ y q,σ y=qn q->a∉fp y:=λa e y q i hm=>by
  refine ae (K.val y q i) λuu n=>?_
  refine aq (n) λu _ hr _=>?_
  clear n
  refine ak (hr.there a hm) λo t=>?_
  rw[e] at t; exact nN t
 have cs:∀ y q,Internal.consume σ ns r.2 y=qn q->∃ l,σ y=qn l:=λy q i=>by
  unfold Internal.consume at i
  split at i
  ·exact ⟨q,i⟩
  ·obtain ⟨l,g,_⟩:=ck i; exact ⟨l,g⟩
 refine af (K.loc.ns) λmL hmL _=>?_
 refine K₁.put hvk hk rv (λa h=>?_) (λhtop=>?_) (λhdeep=>?_) (λy q hy i=>?_) (λs' st kk K'=>hQ s' as rv st kk K' (.one (λy hy=>OY hy) (λz q i=>dD i) λb hb hz=>(ha b hb).elim (λ⟨y,q,_,h1,h2⟩=>(aC y q h1 h2)) λe=>Pq hz (nz b e)))
 ·rcases ha a h with h1 | h1
  ·exact (K.own h1).2
  ·refine ⟨λq=>?_,.inr ?_⟩
   ·refine bC (hmL) λo _ _ e _=>?_
    clear hmL
    rw[<- q] at e
    rw[h1] at e; exact nN e
   ·cases e:h0.get? a with
    | none=>rfl
    | some o=>obtain ⟨_,t⟩:=Internal.K.there K.kp0 e; rw[t] at h1; exact nM h1
 ·refine ay (ht htop) λa bs h1 h2 h3=>?_
  exact (bO a bs h1 (nz a h2) h3 (λy q _ i=>ak (cs y q i) λl g=>nf a h2 y l g))
 ·refine ae (hd hdeep) λh1 h2=>?_
  exact ⟨λa h=>⟨nz a (h1 a h),λy q _ i=>ak (cs y q i) λl g=>nf a (h1 a h) y l g⟩,h2⟩
 ·have main:∀ a,(a∈as)->(∀ y' l,σ y' = qn l->a∈fp y'->y'≠y\/(y'∈ns/\r.2≠.deep))\/True:=λuu uu=>.inr trivial
  clear main
  by_cases hdp:r.2 = .deep
  ·have h1:=(hd hdp).1
   refine ak (cs y q i) λl g=>?_
   exact ⟨λuu a bs e hm=>nf a (h1 a hm) y l g (by rw[e]; exact .head _),λuu a j hm=>nf a (h1 a hm) y l g j⟩
  ·have hq2:Internal.demote σ ns y=qn q:=by unfold Internal.consume at i; rwa [OY hdp] at i
   refine fx hq2 λl g e1 hc=>?_
   rcases hc with ⟨_,rfl⟩ | ⟨hn,rfl⟩
   ·refine ⟨λh=>Pq h iR,λh a j=>?_⟩
    refine ae (K.val y l g) λuu m=>?_
    refine aq (m) λu _ hr _=>?_
    clear m
    rw[hr.scal_nil (gD h)] at j
    cases j
   ·refine ⟨λh a bs e hm=>?_,λh a j hm=>?_⟩
    ·refine PG (ha a hm) (λNB=>?_) (λh1=>?_)
     ·refine ay (NB) λz p hz hp hf=>?_
      clear NB
      refine bp (K.top y q g h) λa' bs' t _ _ h4=>?_
      rw[e] at t; cases t
      exact h4 z p (λq=>hn (q▸hz)) hp hf
     ·exact nf a h1 y q g (by rw[e]; exact .head _)
    ·refine PG (ha a hm) (λND=>?_) (λh1=>?_)
     ·refine ay (ND) λz p hz hp hf=>?_
      clear ND
      exact ((K.deep y q g h).1 a j).2 z p (λq=>hn (q▸hz)) hp hf
     ·exact nf a h1 y q g j
theorem SOK.freeze (K:SOK fns k h0 P Z A env h σ vals fp) {G:Pz->Prop}(hdom:∀ b,G b->∃ o,h.get? b=qn o) (hL:¬ G env.locals) (hc:∀ n c,env.kindOf n=qn .cell->env.cells.lookup n=qn c->¬ G c)
  (ht:∀ x p,σ x=qn p->p.2 = .top->∀ a bs,fp x=a::bs->¬ G a) (hd:∀ x p,σ x=qn p->p.2 = .deep->∀ a∈fp x,¬ G a):SOK fns k h0 P (λb=>Z b\/G b) A env h σ vals fp where
 room:=K.room
 eok:=K.eok
 ge:=K.ge
 z0:=λb o e=>.inl (K.z0 b o e)
 kp0:=K.kp0
 code:=K.code
 out:=K.out
 zdom:=λb y=>y.elim (K.zdom b) (hdom b)
 loc:={K.loc with
  nz:=λq=>q.elim K.loc.nz hL
  cell:=λn c a b=>by
   refine aI (K.loc.cell n c a b) λi m g=>?_
   refine aw (g) λv o u t=>?_
   clear g
   exact (cy i (λq=>q.elim m (hc n c a b)) (aC v o u t)) }
 val:=K.val
 top:=λx p l j=>by
  refine bp (K.top x p l j) λa bs i m u t=>?_
  exact (bO a bs i (λq=>q.elim m (ht x p l j a bs i)) u t)
 deep:=λx p l j=>by
  refine ae (K.deep x p l j) λi m=>?_
  exact ⟨λa r=>⟨λq=>q.elim (i a r).1 (hd x p l j a r),(i a r).2⟩,m⟩
theorem SOK.thaw {Z':Pz->Prop}(K:SOK fns k h0 P Z' A env h σ vals fp) (hz:∀ b,Z b->Z' b) (h0z:∀ b o,h0.get? b=qn o->Z b):SOK fns k h0 P Z A env h σ vals fp where
 room:=K.room
 eok:=K.eok
 ge:=K.ge
 z0:=h0z
 kp0:=K.kp0
 code:=K.code
 out:=K.out
 zdom:=λb t=>K.zdom b (hz b t)
 loc:={K.loc with
  nz:=λq=>K.loc.nz (hz _ q)
  cell:=λn c a b=>by
   refine aI (K.loc.cell n c a b) λg i m=>?_
   exact ⟨g,λq=>i (hz _ q),m⟩ }
 val:=K.val
 top:=λx p l j=>by
  refine bp (K.top x p l j) λa v g i m u=>?_
  exact (bO a v g (λq=>i (hz _ q)) m u)
 deep:=λx p l j=>by
  refine ae (K.deep x p l j) λg i=>?_
  exact ⟨λa r=>⟨λq=>(g a r).1 (hz _ q),(g a r).2⟩,i⟩
end
section
theorem RV.offA (r:RV h v x as) (ho:h.get? a=qn o) (hc:o.cls≠.type "tuple") (hn:a∉as) (hs:Qg a h h'):RV h' v x as:=by
 have k:∀ b o,b≠a->h.get? b=qn o->h'.get? b=qn o:=λb o i e=>hs.extBut b o i e
 have key:∀ ks b,S5 (R4 prog w) h ks b->S5 (R4 prog w) h' ks b:=λks b hk=>by
  refine bj (hk) λj it n a1 a2 a3=>?_
  clear hk
  refine (c9 j it n (k b j (λq=>?_) a1) a2 a3)
  (clear hn hs k; subst q)
  rw[ho] at a1; (have l:=vj a1; clear a1; (clear a3; subst l))
  exact hc a2
 cases x with
 | d x=>exact ⟨r.1.off (wr:=[a]) (λb i j e=>.inr (by
   rw[O7.mp i] at e ⊢
   rw[ho] at e; (have l:=vj e; clear e; subst l)
   exact ⟨hc,hn⟩)) λb o i e=>k b o (λq=>i (by simp[q])) e,r.2⟩
 | dic0=>
  refine kL (r) λb z p m Nw Nm=>?_
  clear r
  refine bC (Nw) λo es ep e hr=>?_
  clear Nw
  refine cQ (Nm) λj es' ep' e' h4 h5 h6 h7 h8=>?_
  clear Nm
  subst p
  have g:b≠a:=λq=>hn (by simp[q])
  exact (jz b z rfl m (cB o es ep (k b o g e) hr) (gd j es' ep' (k b j g e') h4 h5 h6 (λy hy=>key _ _ (h7 y hy)) h8))
 | dicI ks=>
  refine bX (r) λb z p m Nr=>?_
  clear r
  refine bC (Nr) λo es ep e hr=>?_
  clear Nr
  subst p
  have g:b≠a:=λq=>hn (by simp[q])
  exact (bD b z rfl m (cB o es ep (k b o g e) hr))
 | dicT ks=>
  refine mh (r) λb xs z p m Nn h9=>?_
  clear r
  refine cQ (Nn) λj es' ep' e' h4 h5 h6 h7 h8=>?_
  clear Nn
  subst p
  have g:b≠a:=λq=>hn (by simp[q])
  exact (ic b xs z rfl m (gd j es' ep' (k b j g e') h4 h5 h6 (λy hy=>key _ _ (h7 y hy)) h8) h9.1 h9.2.1 (λx hx=>(h9.2.2 x hx).off (wr:=[a]) (λb i j e=>.inr (by
   rw[O7.mp i] at e ⊢
   rw[ho] at e; (have l:=vj e; clear e; subst l)
   exact ⟨hc,λq=>nomatch q⟩)) λb o i e=>k b o (λq=>i (by simp[q])) e))
 | rule c d n=>
  refine jM (r) λy D oy vf bs t u mA z p m h4 h5 h6 h7 No h9 h10 h11 h12 h13 h14=>?_
  clear r
  refine bC (No) λoD es ep e hd=>?_
  clear No
  subst p
  have n1:y≠a:=λq=>hn (by simp[q])
  have n2:D≠a:=λq=>hn (by simp[q])
  exact (jX y D oy vf bs t u mA z rfl (k y oy n1 m) h4 h5 h6 h7 (cB oD es ep (k D oD n2 e) hd) h9 h10 h11 h12 (h13.off (wr:=[a]) (λb i j e=>.inr (by
   rw[O7.mp i] at e ⊢
   rw[ho] at e; (have l:=vj e; clear e; subst l)
   exact ⟨hc,λq=>hn (.tail _ (.tail _ q))⟩)) λb o i e=>k b o (λq=>i (by simp[q])) e) h14)
theorem Loc.offA {a:Pz}{o:Obj}(L:Loc env Z h vals) (ho:h.get? a=qn o) (hc:∀ v,o.data≠.cell v) (hL:a≠env.locals) (hs:Qg a h h'):Loc env Z h' vals where
 cls:=af (L.cls) λo e c=>(ah o (hs.extBut _ o (QA hL) e) c)
 ns:=af (L.ns) λm x y=>(ah m (x.sameBut hs (QA hL)) y)
 nz:=L.nz
 cell:=λn c x y=>by
  refine aI (L.cell n c x y) λu t g=>?_
  refine aw (g) λv j i k=>?_
  clear g
  refine (cy u t (aC v j (hs.extBut c j (λq=>?_) i) k))
  (clear hL hs; subst q)
  rw[ho] at i; (have l:=vj i; clear i; subst l)
  exact hc v k
 cval:=λx v c p q r=>by
  refine af (L.cval x v c p q r) λj i k=>?_
  refine (ah j (hs.extBut c j (λq=>?_) i) k)
  (clear hL hs; subst q)
  rw[ho] at i; (have l:=vj i; clear i; subst l)
  exact hc _ k
 apart:=L.apart
 kinds:=L.kinds
theorem SOK.write (K:SOK fns k h0 P Z A env h σ vals fp) (hp:σ x=qn p) (hval:vals x=qn (.ref a)) (ho:h.get? a=qn o) (hoc:o.cls≠.type "tuple") (hst:¬ Stay o) (hod:∀ v,o.data≠.cell v)
  (hnz:¬ Z a) (hne:∀ y q,y≠x->σ y=qn q->a∉fp y) (haL:a≠env.locals/\(P a\/h0.get? a=O2)) (hs:Qg a h h') (rv:RV h' (.ref a) v' (a::bs')) (hb:∀ b∈bs',b≠env.locals/\(P b\/h0.get? b=O2))
  (ht:m' = .top->a∉bs') (hd:m' = .deep->(∀ b∈bs',¬ Z b/\∀ y q,y≠x->σ y=qn q->b∉fp y)/\(a::bs').Nodup)
  (hdis:∀ y q,y≠x->σ y=qn q->(q.2 = .top->∀ b cs,fp y=b::cs->b∉bs')/\(q.2 = .deep->∀ b∈fp y,b∉bs')) :
  SOK fns k h0 P Z A env h' (upd σ x (v',m')) vals (λy=>if y=x then a::bs' else fp y):=by
 have h0n:h0.get? a=none:=by
  cases q:h0.get? a with
  | none=>rfl
  | some o=>exact Pq (K.z0 a o q) hnz
 have kz:∀ b o,Z b->h.get? b=qn o->h'.get? b=qn o:=λb o hb e=>hs.extBut b o (λq=>hnz (q▸hb)) e
 refine ⟨K.room,K.eok,K.ge,K.z0,Internal.K.same K.kp0 hs h0n (λo' e=>by rw[ho] at e; (have t:=vj e; clear e; subst t); exact hst),K.code,K.out,λb hb=>ak (K.zdom b hb) λo e=>⟨o,kz b o hb e⟩,K.loc.offA ho hod haL.1 hs,λy q i=>?_,λy q i htp=>?_,λy q i hdp=>?_⟩
 ·unfold upd at i
  by_cases hy:y=x
  ·(clear hd hdis hne; subst hy)
   rw[O1 rfl] at i; (have t:=vj i; clear i; subst t)
   rw[O1 rfl]
   refine (aE ((K.val y p hp).1) (aG (.ref a) hval rv (λb g=>?_)))
   rcases PC.mp g with rfl | g
   ·exact haL
   ·exact hb b g
  ·rw[OY hy] at i ⊢
   refine ae (K.val y q i) λn m=>?_
   refine aq (m) λu h2 h3 h4=>?_
   clear m
   exact (aE n (aG u h2 (h3.offA ho hoc (hne y q hy i) hs) h4))
 ·unfold upd at i
  by_cases hy:y=x
  ·(clear hd hdis hp hval; subst hy)
   rw[O1 rfl] at i; (have t:=vj i; clear i; subst t)
   rw[O1 rfl]
   refine (bO a bs' rfl hnz (ht htp) (λz r l j=>?_))
   unfold upd at j
   rw[OY l] at j ⊢
   exact hne z r l j
  ·rw[OY hy] at i ⊢
   refine bp (K.top y q i htp) λb cs n h2 h3 h4=>?_
   refine (bO b cs n h2 h3 (λz r l j=>?_))
   unfold upd at j
   by_cases hzx:z=x
   ·rw[O1 hzx]
    intro hm
    rcases PC.mp hm with e | hm
    ·exact hne y q hy i (by rw[n,e]; exact .head _)
    ·exact (hdis y q hy i).1 htp b cs n hm
   ·rw[OY hzx] at j ⊢
    exact h4 z r l j
 ·unfold upd at i
  by_cases hy:y=x
  ·(clear hdis hp hval; subst hy)
   rw[O1 rfl] at i; (have t:=vj i; clear i; subst t)
   rw[O1 rfl]
   refine ae (hd hdp) λn h2=>?_
   refine ⟨λb g=>?_,h2⟩
   rcases PC.mp g with rfl | g
   ·refine ⟨hnz,λz r l j=>?_⟩
    unfold upd at j
    rw[OY l] at j ⊢
    exact hne z r l j
   ·refine ⟨(n b g).1,λz r l j=>?_⟩
    unfold upd at j
    rw[OY l] at j ⊢
    exact (n b g).2 z r l j
  ·rw[OY hy] at i ⊢
   refine ae (K.deep y q i hdp) λn h2=>?_
   refine ⟨λb g=>⟨(n b g).1,λz r l j=>?_⟩,h2⟩
   unfold upd at j
   by_cases hzx:z=x
   ·rw[O1 hzx]
    intro hm
    rcases PC.mp hm with e | hm
    ·exact hne y q hy i (e▸g)
    ·exact (hdis y q hy i).2 hdp b g hm
   ·rw[OY hzx] at j ⊢
    exact (n b g).2 z r l j
theorem SOK.head (K:SOK fns k h0 P Z A env h σ vals fp) (hp:σ x=qn (.d (.list xs),m)) (hm:m≠.sh) :
  ∃ a vs n bs,vals x=qn (.ref a)/\h.get? a=qn ⟨.type "list", O2,.seq vs.toArray n,#[]⟩/\RA h vs xs bs/\fp x=a::bs/\sz (.list xs)=vk/\¬ Z a/\a∉bs/\(∀ y q,y≠x->σ y=qn q->a∉fp y)/\(∀ b∈a::bs,b≠env.locals/\(P b\/h0.get? b=O2)) /\
   (m = .deep->(∀ b∈bs,¬ Z b/\∀ y q,y≠x->σ y=qn q->b∉fp y)/\bs.Nodup):=by
 refine ae (K.val x _ hp) λuu g=>?_
 refine aq (g) λv hv l o=>?_
 clear g
 refine ae (l) λr z=>?_
 clear l
 refine r.isList_k λa vs n bs p ea u e=>?_
 (clear r; subst p)
 refine ⟨a,vs,n,bs,hv,ea,u,e,z,?_⟩
 rw[e] at o
 cases m with
 | sh=>exact Pq rfl hm
 | top=>
  refine bp (K.top x _ hp rfl) λa' bs' t j i h3=>?_
  rw[e] at t; cases t
  exact (cF j i h3 o (λh=>(by cases h)))
 | deep=>
  refine ae (K.deep x _ hp rfl) λj i=>?_
  rw[e] at j i
  rw[Q6] at i
  exact (cF ((j a (.head _)).1) i.1 ((j a (.head _)).2) o (λuu=>⟨λb o=>j b (.tail _ o),i.2⟩))
end
section
variable (fns:Fns) (k:Pa) (C:Calls)
noncomputable def dP (st:S):Prop:=∀ {stmt:SX}{h0:P9}{P Z:Pz->Prop}{A:PU}{env:Env}{σ:St}{vals:OX->O4 Lt}{fp:OX->rg Pz}{s:O0}{Q:Flow->O0->Prop}{Er:Lt->O0->Prop}{σ':St}{fl:Flw},
 okS env.scope.names st stmt=vk->SOK fns k h0 P Z A env s.heap σ vals fp->ex C st σ = .ok (σ',fl) ->
 (fl = .next->∀ s' vals' fp',Stp Z s s'->SOK fns k h0 P Z A env s'.heap σ' vals' fp'->Frm Z (asg st) σ vals fp σ' vals' fp'->Q .next s')->(∀ r,fl = .ret r->∀ v s',Stp Z s s'->nw h0 P r v s'->Q (.ret v) s') ->
 Ph (Pn prog w) A (exec stmt env) Q Er s
noncomputable def dZ (st:Ss):Prop:=∀ {stmts:rg SX}{h0:P9}{P Z:Pz->Prop}{A:PU}{env:Env}{σ:St}{vals:OX->O4 Lt}{fp:OX->rg Pz}{s:O0}{Q:Flow->O0->Prop}{Er:Lt->O0->Prop}{σ':St}{fl:Flw},
 cM env.scope.names st stmts=vk->SOK fns k h0 P Z A env s.heap σ vals fp->exs C st σ = .ok (σ',fl) ->
 (fl = .next->∀ s' vals' fp',Stp Z s s'->SOK fns k h0 P Z A env s'.heap σ' vals' fp'->Frm Z (iF st) σ vals fp σ' vals' fp'->Q .next s')->(∀ r,fl = .ret r->∀ v s',Stp Z s s'->nw h0 P r v s'->Q (.ret v) s') ->
 Ph (Pn prog w) A (Zc stmts env) Q Er s
end
section
theorem bnd {env:Env}{x:OX}(h:bQ env.scope.names x=vk):varK env.scope.names x=vk/\aZ x=vk/\(env.kindOf (mL x)=qn .local\/env.kindOf (mL x)=qn .cell):=by
 unfold bQ at h
 simp only[O9,UU,Pv] at h
 exact ⟨h.1.1,h.1.2,h.2⟩
theorem io {env:Env}{x:OX}{G:Prop}(h:bQ env.scope.names x=vk) (k:varK env.scope.names x=vk->aZ x=vk->(env.kindOf (mL x)=qn .local\/env.kindOf (mL x)=qn .cell)->G):G:=aI (bnd h) k
theorem Ck (K:SOK fns k h0 P Z A env s.heap σ vals fp) (E:EP (Own σ fp ns) s r v s') :
  nw h0 P r v s':=by
 obtain ⟨y,as,j,m,l,i⟩:=E
 have g:∀ a,s.heap.get? a=O2->h0.get? a=none:=λa e=>by
  cases q:h0.get? a with
  | none=>rfl
  | some o=>obtain ⟨_,u⟩:=Internal.K.there K.kp0 q; rw[u] at e; exact nM e
 exact (bD as j (λa h=>(m a h).elim (λq=>(K.own q).2.2) λq=>.inr (g a q)) (λq=>ay (l q) λa x t p n=>(aP a x t (g a p) n)) (λq=>⟨λa h=>g a ((i q).1 a h),(i q).2⟩))
theorem mu {σa σ':St}{fl:Flw}{l:rg OX}{h0:P9}{P Z:Pz->Prop}{A:PU}{env:Env}{σ:St}{vals:OX->O4 Lt}{fp:OX->rg Pz}{s:O0}{Q:Flow->O0->Prop}(he:(Out.ok (σa,Flw.next):Out (St×Flw)) = .ok (σ',fl))
  (hN:fl = .next->∀ s' vals' fp',Stp Z s s'->SOK fns k h0 P Z A env s'.heap σ' vals' fp'->Frm Z l σ vals fp σ' vals' fp'->Q .next s'):∀ s' vals' fp',Stp Z s s'->SOK fns k h0 P Z A env s'.heap σa vals' fp'->Frm Z l σ vals fp σa vals' fp'->Q .next s':=by
 cases he
 exact hN rfl
theorem z6 {σa σ':St}{fl:Flw}{r:V×Mode}{N:V×Mode->Prop}(he:(Out.ok (σa,Flw.ret r):Out (St×Flw)) = .ok (σ',fl)) (hN:∀ r,fl = .ret r->N r):N r:=by
 cases he
 exact hN r rfl
theorem xJ (S:SimE fns k C XP e):dP fns k C (.ret e):=by
 intro p h0 P Z A y z o fp s Q Er q fl j K l hN x
 replace j:=vC j
 revert j; refine λg=>PG g (λh=>?_) (λj=>?_)
 ·clear g
  refine aw (h) λn m i j=>?_
  clear h
  subst i
  simp only[je] at l
  refine Out.bind_k l λr u l=>?_
  exact Ua (K.eval S j u λv t E=>z6 l x v t E.keeps.stp (Ck K E))
 ·cases j
theorem sH:dP fns k C (.raise c):=by
 intro i q P Z A l m h r s Q Er j t n K g p o
 exfalso
 simp only[dk] at g
 refine a0 g λuu uu g=>?_
 split at g<;>cases g
set_option tactic.hygienic true in
theorem wu:dP fns k C (.retn x):=by
 intro stmt h0 P Z A env σ vals fp s Q Er σ' fl i K n hN hR
 replace i:=Bo i
 revert i; refine λj=>PG j (λl=>?_) (λi=>?_)
 ·clear j
  refine bC (l) λu t p m i=>?_
  clear l
  subst m
  simp only[O9,Pv] at i
  refine ae (i) λy hb=>?_
  clear i
  subst y
  refine io hb λh1 h2 h3=>?_
  simp only[ls] at n
  split at n
  ·rename_i r hr
   cases n
   refine ae (K.val x r hr) λuu g=>?_
   refine aq (g) λv hv z hd=>?_
   clear g
   have nh:∀ a,¬ Z a->h0.get? a=none:=λa e=>by
    cases q:h0.get? a with
    | none=>rfl
    | some o=>exact Pq (K.z0 a o q) e
   refine Ua (dj K.eok.kind h2 (K.loc.var K.eok hv) (hR r rfl v s (.refl Z s) (bD (fp x) z (λa h=>(hd a h).2) (λq=>?_) (λq=>?_))))
   ·refine bp (K.top x r hr q) λa bs e1 e2 e3 _=>?_
    exact (aP a bs e1 (nh a e2) e3)
   ·refine ae (K.deep x r hr q) λe1 e2=>?_
    exact ⟨λa h=>nh a (e1 a h).1,e2⟩
  ·exact nB n
 ·cases i
theorem wS (T:SimT fns k C XP c) (Sa:dZ fns k C a) (Sb:dZ fns k C b):dP fns k C (.ite c a b):=by
 intro stmt h0 P Z A env σ vals fp s Q Er σ' fl h K i hN hR
 replace h:=vx h
 revert h; refine λj=>PG j (λl=>?_) (λh=>?_)
 ·clear j
  refine cS (l) λOu z x u o h=>?_
  clear l
  subst o
  simp only[O9] at h
  simp only[eB] at i
  refine Out.bind_k i λr hr i=>?_
  refine Out.bind_k i λt ht i=>?_
  refine Z0 (K.evalT T h.1.1 (b:=t) (by rw[hr]; exact ht) λs₁ q=>?_)
  have K₁:=K.onK q.k
  cases t with
  | true=>
   rw[O1 rfl] at i ⊢
   exact Sa h.1.2 K₁ i (λe n g p m K' F=>hN e n g p (q.stp.trans m) K' (F.more λy hy=>PX _ hy)) λr e v n m R=>hR r e v n (q.stp.trans m) R
  | false=>
   simp only[PK,Ql] at i ⊢
   exact Sb h.2 K₁ i (λe n g p m K' F=>hN e n g p (q.stp.trans m) K' (F.more λy hy=>P5 _ hy)) λr e v n m R=>hR r e v n (q.stp.trans m) R
 ·cases h
theorem vN:dZ fns k C .nil:=by
 intro n y P Z A u v m t s Q Er p fl l K o r x
 replace l:=C7 l
 revert l; refine λg=>PG g (λi=>?_) (λl=>?_)
 ·clear g
  refine ae (i) λj l=>?_
  clear i
  subst j
  simp only[cq] at o
  cases o
  exact TL (r rfl s m t (.refl Z s) K (.id λz q h=>⟨q,h⟩))
 ·cases l
theorem tE {st:S}{r:Ss}(S:dP fns k C st) (T:dZ fns k C r):dZ fns k C (.cons st r):=by
 intro z h0 P Z A env σ vals fp s Q Er σ' fl h K o hN hR
 replace h:=sv h
 revert h; refine λi=>PG i (λj=>?_) (λh=>?_)
 ·clear i
  refine aw (j) λx u n h=>?_
  clear j
  subst n
  simp only[O9] at h
  simp only[bf] at o
  refine Out.bind_k o λNl h1 o=>?_
  obtain ⟨t,fla⟩:=Nl
  dsimp only at o
  refine Rs (S h.1 K h1 (λe s' y fp' st K' F=>?_) λq e v s' st R=>?_)
  ·(clear h1; subst e)
   dsimp only at o ⊢
   exact T h.2 K' o (λe m g p l K'' F'=>hN e m g p (st.trans l) K'' (F.trans F')) λr e v m l R=>hR r e v m (st.trans l) R
  ·(clear h1; subst e)
   cases o
   exact hR q rfl v s' st R
 ·cases h
theorem wb (S:SimE fns k C XP e):dP fns k C (.expr e):=by
 intro stmt h0 P Z A env σ m fp s Q Er σ' fl l K n y hR
 replace l:=nq l
 revert l; refine λg=>PG g (λi=>?_) (λl=>?_)
 ·clear g
  refine jH (i) λx u t p o j l=>?_
  clear i
  subst j
  simp only[dz] at n
  refine Out.bind_k n λr hr n=>?_
  replace y:=mu n y
  clear n hR
  have hi:Tc env=false:=by unfold Tc; rw[K.eok.kind]; rfl
  exact Td (K.eval S l hr λv s' E=>y s' m fp E.keeps.stp ((K.onK E.keeps.k).consume _ _) (.id λz q h=>dD h)) hi
 ·cases l
theorem SOK.same (K:SOK fns k h0 P Z A env h σ vals fp) (hm:h.Ns D m) (hZ:¬ Z D) (hL:D≠env.locals) (hf:∀ y q,σ y=qn q->D∉fp y)
  (hs:Qg D h h'):SOK fns k h0 P Z A env h' σ vals fp:=by
 have kz:∀ b o,Z b->h.get? b=qn o->h'.get? b=qn o:=λb o j e=>hs.extBut b o (λq=>hZ (q▸j)) e
 have i:=hm
 refine bj (i) λo es ep t x _=>?_
 clear i
 refine ⟨K.room,K.eok,K.ge,K.z0,Internal.K.same K.kp0 hs (K.h0n hZ) (λz e=>by rw[t] at e; (have l:=vj e; clear e; subst l); exact Stay.not_dict x),K.code,K.out,λb j=>ak (K.zdom b j) λo e=>⟨o,kz b o j e⟩,K.loc.offA t (λv q=>by rw[x] at q; cases q) hL hs,λy q r=>?_,K.top,K.deep⟩
 refine ae (K.val y q r) λh1 g=>?_
 refine aq (g) λu h2 h3 h4=>?_
 clear g
 exact (aE h1 (aG u h2 (h3.spot (env:={env with locals:=D }) (.inl (aE rfl (bP m hm))) (λ⟨u,o,e,q⟩=>by obtain ⟨z,es,ep,n,p,_⟩:=hm; rw[e] at n; (have l:=vj n; clear n; subst l); rw[q] at p; cases p) (λa ha (e:a=D)=>hf y q r (e▸ha)) hs) h4))
end
noncomputable def TrAt (N:Pz->Prop) (h:P9) (e:Pz) (vs:Pf Lt) (fl:Lt):Prop :=
 ∃ T oT ts,vs[1]? = qn (.ref T)/\¬ N T/\T≠e/\h.get? T=qn oT/\oT.cls = .type "traceback" /\ oT.data = .fields ts/\ts[3]? = qn fl
noncomputable def Ex0 (N:Pz->Prop) (h:P9) (c:OX) (e:Pz) (vs:Pf Lt):Prop:=¬ N e/\c∈SF.excN/\∃ oe,h.get? e=qn oe/\oe.cls = .ref (SF.exc c)/\oe.data = .fields vs
noncomputable def Exc (N:Pz->Prop) (h:P9) (c:OX) (L:Pz) (x:Lt):Prop:=∃ e vs,x = .ref e/\Ex0 N h c e vs/\(vs[1]? = qn .none\/∃ fl,(fl = .none\/fl=Q7 L)/\TrAt N h e vs fl)
noncomputable def FlyA (N:Pz->Prop) (h:P9) (c:OX) (fl:Lt) (x:Lt):Prop:=∃ e vs,x = .ref e/\Ex0 N h c e vs/\TrAt N h e vs fl
noncomputable def Fly (N:Pz->Prop) (h:P9) (c:OX) (x:Lt):Prop:=FlyA N h c .none x
theorem Fly.exc (f:Fly N h c x):Exc N h c L x:=ay (f) λe g k j i=>(aP e g k j (.inr (ah _ (.inl rfl) i)))
theorem FlyA.exc {N:Pz->Prop}{h:P9}{c:OX}{L:Pz}{x:Lt}(f:FlyA N h c (Q7 L) x):Exc N h c L x:=ay (f) λe g k j i=>(aP e g k j (.inr (ah _ (.inr rfl) i)))
theorem TrAt.old (t:TrAt N h e vs fl) (hn:∀ b,N' b->N b):TrAt N' h e vs fl:=bj (t) λT g ts a b r=>(c9 T g ts a (λq=>b (hn _ q)) r)
theorem FlyA.old (f:FlyA N h c fl x) (hn:∀ b,N' b->N b):FlyA N' h c fl x:=ay (f) λe i k g j=>(aP e i k ⟨λq=>g.1 (hn _ q),g.2⟩ (j.old hn))
theorem Exc.old (f:Exc N h c L x) (hn:∀ b,N' b->N b):Exc N' h c L x:=ay (f) λe i k g j=>(aP e i k ⟨λq=>g.1 (hn _ q),g.2⟩ (j.imp id λ⟨l,q,t⟩=>(ah l q (t.old hn))))
noncomputable def Chg (N:Pz->Prop) (h h':P9):Prop:=∀ b o,h.get? b=qn o->h'.get? b=qn o\/(∃ es ep,¬ SF.old b/\o.cls = .type "frame" /\ o.data = .dict es ep/\∃ sl,h'.get? b=qn {o with slots:=sl })\/(¬ N b/\¬ Stay o/\∃ fs,o.data = .fields fs)
theorem Chg.kg (c:Chg N h h'):KG N h h':=λb o g e=>by
 rcases c b o e with q | ⟨es,ep,h1,h2,h3,sl,h4⟩ | ⟨h1,h2,_⟩
 ·exact (ah o q (.same rfl))
 ·exact (ah _ h4 (.frame es ep h1 h2 h3 rfl rfl rfl))
 ·exact Pq g (λq=>q.elim h1 h2)
theorem Chg.frames (c:Chg N h h') (x:FrOk h l):FrOk h' l:=λi t=>by
 obtain ⟨n,L,o,p,r,m,k,u,j,g⟩:=x i t
 rcases c L o u with q | ⟨_,_,_,_,_,sl,q⟩ | ⟨_,_,fs,q⟩
 ·exact (aE n (kX L o p r m k q j g))
 ·exact (aE n (kX L _ p r m k q j g))
 ·rw[g] at q; cases q
noncomputable def noH (h:P9):Heap:={h with objs:=#[] }
theorem BN (h:P9) (b:Pz):(noH h).get? b=none:=rfl
theorem FrOk.fun:∀ {l:rg Env},FrOk h l->h.FunFrames (noH h) l
 | [],_=>trivial
 | env::l,x=>by
  obtain ⟨m,L,o,t,u,k,r,j,p,i⟩:=x env (.head _)
  exact ⟨by rw[m]; decide,(bO L o k (BN h L) j (λn q=>by rw[i] at q; cases q)),FrOk.fun λy g=>x y (.tail _ g)⟩
section
variable {M:Vz}{A:PU}{E:Lt->O0->Prop}{env:Env}{l:rg Env}{h:P9}{g:Pf YI}{dr:Drawn}{tk:Pa}{os:Zu}{c:OX}{x:Lt}{Q:UN->O0->Prop}{N:Pz->Prop}{L:Pz}
theorem zV (hN:∀ b,N b->∃ o,h.get? b=qn o) (hfr:A.frames=qn (env::l)) (hF:FrOk h (env::l)) (hf:env.frame=qn L) (he:Ex0 N h c e vs) (hsz:1<vs.size)
  (hQ:∀ h',FlyA N h' c (Q7 L) (.ref e)->Chg N h h'->Q () ⟨h',g,dr,tk,os⟩) :
  Ph M A (do let a <- frameOf env; let pl <- entryPlaceOf L hadNext; let b <- WE head a .none (Q7 L) .none pl; ZY (.ref e) 1 b) Q E ⟨h,g,dr,tk,os⟩:=by
 refine aI (he) λne cn m=>?_
 clear he
 refine aq (m) λoe ee hc hd=>?_
 clear m
 have hl:=hF.fun
 have notf:∀ b o fs,h.get? b=qn o->o.data = .fields fs->b∉(env::l).filterMap (·.frame):=λb o fs u hb hm=>by
  refine ae (hl.mem hm) λuu k=>?_
  refine af (k) λz y hnf=>?_
  clear k
  rw[u] at y; (have v:=vj y; clear y; subst v)
  exact hnf fs hb
 refine Gt (wpAny_frameOf_fun (s:=⟨h,g,dr,tk,os⟩) hfr hl hf λi j=>?_)
 refine Gt (wpAny_entryPlaceOf λpl hpl=>?_)
 unfold WE newFields
 refine Gt (R7 ?_ (hpl.sizeOk5 _ _ _ _ _))
 generalize hts:([head,.ref L,.none,Q7 L,.none]++(if pl.isEmpty then List.replicate 6 SH else pl)).toArray=ts
 have h3:ts[3]? = qn (Q7 L):=by rw[<- hts]; simp
 have r:i.get? e=qn oe:=(j.2.1 e (notf e oe vs ee hd)).trans ee
 have p:=Pd (h:=i) {cls:=.type "traceback", dict:=O2,data:=.fields ts } r
 have x:i.objs.size≠e:=Ut (RH r)
 have hTN:¬ N i.objs.size:=λq=>by
  refine ak (hN _ q) λo eo=>?_
  have:=RH eo
  rw[j.1] at this
  exact Uf _ this
 have n:=SI hd (·.setIfInBounds 1 (Rq i.objs.size))
 refine T8 p hd hsz (hQ _ (aP e _ rfl (cy ne cn (aG _ (P4 _ p (Ud n)) ((Vg _ _).trans hc) n)) (lX i.objs.size _ ts (by simp[hsz]) hTN x ((P7 _ _ (QA x)).trans (PE i rfl)) rfl rfl h3)) λb o u=>?_)
 by_cases hbe:b=e
 ·(clear r p hQ x; subst hbe)
  rw[ee] at u; (have v:=vj u; clear u; subst v)
  exact .inr (.inr (cy ne (Stay.not_cls (by rw[hc]; simp) (by rw[hc]; simp)) (bP vs hd)))
 ·have t:∀ z,i.get? b=qn z->((i.push {cls:=.type "traceback", dict:=O2,data:=.fields ts }).update e (TF (·.setIfInBounds 1 (Rq i.objs.size)))).get? b=qn z:=λz y=>by
   rw[P7 _ _ (QA hbe)]
   exact Pd _ y
  by_cases hm:b∈(env::l).filterMap (·.frame)
  ·refine af (List.mem_filterMap.mp hm) λenv' he' hb'=>?_
   obtain ⟨_,L',z,es,ep,f1,f2,f3,f4,f5⟩:=hF env' he'
   rw[hb'] at f1; (have v:=vj f1; clear f1; subst v)
   rw[u] at f3; (have v:=vj f3; clear f3; subst v)
   refine ak (j.2.2 b o u) λsl y=>?_
   exact .inr (.inl (bO es ep f2 f4 f5 (bP sl (t _ y))))
  ·exact .inl (t o ((j.2.1 b hm).trans u))
theorem Chg.upd {ts:Pf Lt}(ht:h.get? T=qn oT) (hc:oT.cls = .type "traceback") (hd:oT.data = .fields ts) (hn:¬ N T):Chg N h (h.update T (TF (·.setIfInBounds 3 v))):=λb o g=>by
 by_cases hb:b=T
 ·subst hb
  rw[ht] at g; (have i:=vj g; clear g; subst i)
  exact .inr (.inr (cy hn (Stay.not_cls (by rw[hc]; simp) (by rw[hc]; simp)) (bP ts hd)))
 ·exact .inl ((P7 _ _ (QA hb)).trans g)
theorem y5 (hN:∀ b,N b->∃ o,h.get? b=qn o) (hfr:A.frames=qn (env::l)) (hF:FrOk h (env::l)) (hf:env.frame=qn L) (hx:Exc N h c L x)
  (hQ:∀ h',FlyA N h' c (Q7 L) x->KG N h h'->FrOk h' (env::l)->Q () ⟨h',g,dr,tk,os⟩):Ph M A (noteFrame x env) Q E ⟨h,g,dr,tk,os⟩:=by
 refine ay (hx) λe vs p h0 n=>?_
 clear hx
 subst p
 refine aI (h0) λt v i=>?_
 clear h0
 refine aq (i) λr m u j=>?_
 clear i
 unfold noteFrame
 simp only[hf]
 rcases n with n | ⟨fl,hfl,T,oT,ts,h1,hTN,hTe,hT,hTc,hTd,h3⟩
 ·refine Gt (UB m j n ?_)
  rw[OY (by decide)]
  exact zV hN hfr hF hf (cy t v (aG r m u j)) (Rg.mp n).1 λh' f k=>hQ h' f k.kg (k.frames hF)
 ·refine Gt (UB m j h1 ?_)
  rw[O1 (show (Rq T != SH)=vk from by simp)]
  refine Gt (UB hT hTd h3 ?_)
  rcases hfl with rfl | rfl
  ·rw[OY (show ¬ ((SH==Q7 L)=vk) from by simp[Q7])]
   refine Gt (T8 hT hTd (Rg.mp h3).1 ?_)
   have y:Chg N h (h.update T (TF (·.setIfInBounds 3 SH))):=Chg.upd hT hTc hTd hTN
   refine zV (λb z=>?_) hfr (y.frames hF) hf (cy t v (aG r ((P7 _ _ hTe).trans m) u j)) (Rg.mp h1).1 λh' f k=>hQ h' f (y.kg.trans k.kg) (k.frames (y.frames hF))
   refine ak (hN b z) λo e=>?_
   exact ⟨o,(P7 _ _ (show T≠b from λq=>hTN (by rw[q]; exact z))).trans e⟩
  ·rw[O1 (show (Q7 L==Q7 L)=vk from by simp)]
   exact Pb (hQ h (aP e vs rfl (cy t v (aG r m u j)) (lX T oT ts h1 hTN hTe hT hTc hTd h3)) .refl hF)
theorem mT (hF:FrOk h l) (hx:FlyA N h c fl x) (hQ:∀ h',FlyA N h' c (fr.elim .none λf=>Q7 f) x->KG N h h'->FrOk h' l->Q () ⟨h',g,dr,tk,os⟩):Ph M A (setFlight x fr) Q E ⟨h,g,dr,tk,os⟩:=by
 obtain ⟨e,z,q,k,T,oT,ts,u,p,n,r,o,j,h3⟩:=hx
 subst q
 refine aI (k) λne cn i=>?_
 clear k
 refine aq (i) λoe v hc t=>?_
 clear i
 unfold setFlight
 refine Gt (UB v t u ?_)
 rw[O1 (show (Rq T != SH)=vk from by simp)]
 have m:=(Rg.mp h3).1
 have y:Chg N h (h.update T (TF (·.setIfInBounds 3 (fr.elim .none λf=>Q7 f)))):=Chg.upd r o j p
 exact T8 r j m (hQ _ (aP e z rfl (cy ne cn (aG oe ((P7 _ _ n).trans v) hc t)) (lX T _ _ u p n (P4 _ r (Ud (SI j _))) ((Vg _ _).trans o) (SI j _) (by simp[m]))) y.kg (y.frames hF))
theorem EE (hN:∀ b,N b->∃ o,h.get? b=qn o) (hfr:A.frames=qn (env::l)) (hF:FrOk h (env::l)) (hf:env.frame=qn L) (hx:Exc N h c L x)
  (hQ:∀ h',Fly N h' c x->KG N h h'->Q () ⟨h',g,dr,tk,os⟩):Ph M A (Yk env x) Q E ⟨h,g,dr,tk,os⟩:=by
 unfold Yk
 exact Gt (y5 hN hfr hF hf hx λp n j q=>mT q n λk m i _=>hQ k m (j.trans i))
theorem EF (hN:∀ b,N b->∃ o,h.get? b=qn o) (hfr:A.frames=qn (env::l)) (hF:FrOk h (env::l)) (hf:env.frame=qn L) (hx:Exc N h c L x)
  (hQ:∀ h',Exc N h' c L x->KG N h h'->FrOk h' (env::l)->E' x ⟨h',g,dr,tk,os⟩):notedBy (Pn prog w) A env (cameBackBy (Pn prog w) A env E') x ⟨h,g,dr,tk,os⟩:=by
 refine y5 hN hfr hF hf hx λv k p F₁=>?_
 refine ay (k) λe vs t m j=>?_
 clear k
 refine bC (j) λT oT ts z u=>?_
 clear j
 (clear hx; subst t)
 refine aI (m) λne cn i=>?_
 clear m
 refine aq (i) λoe ee hc y=>?_
 clear i
 refine Gt (UB ee y z ?_)
 rw[OY (show ¬ (Rq T==SH)=vk from by simp),hf]
 exact mT F₁ (aP e vs rfl (cy ne cn (aG oe ee hc y)) (cB T oT ts z u)) λq r n F₂=>hQ q r.exc (p.trans n) F₂
end
noncomputable def dom (h:P9) (b:Pz):Prop:=∃ o,h.get? b=qn o
noncomputable def XPc (c:OX) (s:O0) (x:Lt) (s':O0):Prop:=Kp s s'/\Fly (dom s.heap) s'.heap c x
theorem XPc.of (k:Kp s s₁) (h:XPc c s₁ x s'):XPc c s x s':=⟨k.trans h.1,h.2.old λuu ⟨_,e⟩=>af (k.k _ _ (.inl trivial) e) λg i uu=>⟨g,i⟩⟩
theorem cf:∀ (c:OX) (s s₁:O0) (x:Lt) (s':O0),Kp s s₁->XPc c s₁ x s'->XPc c s x s':=λuu uu uu uu uu k h=>.of k h
noncomputable def Lv (A:PU) (env:Env) (h:P9):Prop:=∃ l,A.frames=qn (env::l)/\FrOk h (env::l)/\env.frame=qn env.locals
section
variable (fns:Fns) (k:Pa) (C:Calls)
noncomputable def dQ (st:S):Prop:=∀ {stmt:SX}{h0:P9}{P Z:Pz->Prop}{A:PU}{env:Env}{σ:St}{vals:OX->O4 Lt}{fp:OX->rg Pz}{s:O0}{Q:Flow->O0->Prop}{Er:Lt->O0->Prop}{c:OX},
 okS env.scope.names st stmt=vk->SOK fns k h0 P Z A env s.heap σ vals fp->ex C st σ = .exc c->(∀ x s',Stp Z s s'->Lv A env s'.heap->Exc Z s'.heap c env.locals x->Er x s')->Ph (Pn prog w) A (exec stmt env) Q Er s
noncomputable def dY (st:Ss):Prop:=∀ {stmts:rg SX}{h0:P9}{P Z:Pz->Prop}{A:PU}{env:Env}{σ:St}{vals:OX->O4 Lt}{fp:OX->rg Pz}{s:O0}{Q:Flow->O0->Prop}{Er:Lt->O0->Prop}{c:OX},
 cM env.scope.names st stmts=vk->SOK fns k h0 P Z A env s.heap σ vals fp->exs C st σ = .exc c->(∀ x s',Stp Z s s'->Lv A env s'.heap->Exc Z s'.heap c env.locals x->Er x s')->Ph (Pn prog w) A (Zc stmts env) Q Er s
end
section
noncomputable def uU:Expr->PV
 | .ListComp .. | .SetComp .. | .DictComp ..=>OZ
 | _=>vk
theorem iz (h:uU v=vk) (t:O4 Expr) (l:Pa) (env:Env):VI v t l env=Qq false:=by
 cases v<;>first | rfl | exact nF h
theorem mF {gs:rg WI}:VI (.ListComp e gs sc p) (qn (.Name t q)) l env=Qq vk\/VI (.ListComp e gs sc p) (qn (.Name t q)) l env=Qq false:=by
 have g:VI (.ListComp e gs sc p) (qn (.Name t q)) l env=Qq (env.blockKind == .function&&env.kindOf t==qn .local&&q.line==(Y0 e gs sc p).pos.line && !(sc.names.any λ(n,k)=>n==t&&(k == .local||k == .cell))):=rfl
 rw[g]
 generalize (env.blockKind == .function&&env.kindOf t==qn .local&&q.line==(Y0 e gs sc p).pos.line && !(sc.names.any λ(n,k)=>n==t&&(k == .local||k == .cell)))=b
 cases b
 ·exact .inr rfl
 ·exact .inl rfl
theorem km {ex:Expr}(hp:jf e=OZ) (h:okE ns e ex=vk):uU ex=true:=by
 cases ex with
 | ListComp _ _ _ _=>
  cases e with
  | comp _ _ _=>exact nT hp
  | compif _ _ _ _=>exact nT hp
  | _=>exact Qh (show OZ=vk from h)
 | _=>first | rfl | (cases e<;>exact Qh (show OZ=vk from h))
theorem mG {px pt:Pos}{elt iter:Expr}
  (hsc:iJ env.scope.names sc x=vk) (X:Cx fns k A P h env σ) (hset:∀ v,Vd iter env v=Qq v) (hsw:VI (.ListComp elt [⟨.Name (mL x) px,iter,ifs,0⟩] sc pos) (qn (.Name (mL t) pt)) spos.line env=Qq vk)
  (h:∀ cl:rg (Str×Pz),(∀ n,(n,Q3)∈sc.names->cl.lookup n=env.cells.lookup n)->Ph (Pn prog w) A (Tu iter env) (λv s₁=>Ph (Pn prog w) A (XF v) (λi z=>Ph (Pn prog w) A (newObj (.type "list") (.seq #[]) O2) (λacc s₃=>
   Ph (Pn prog w) A (S6 sc env.globals cl [] env.qual O2 .none (qn env)) (λcenv s₄=>
    Vc (Pn prog w) A (.compStart (.ListComp elt [⟨.Name (mL x) px,iter,ifs,0⟩] sc pos) 0 i acc {cenv with scope:=Vb sc env }) (VC (Pn prog w) A Er (qn (Vn (.Name (mL t) pt) env)) (λuu s'=>Q .next s') acc cenv.locals) s₄) Er s₃) Er z) Er s₁) Er s) :
  Ph (Pn prog w) A (exec (.Assign [.Name (mL t) pt] (.ListComp elt [⟨.Name (mL x) px,iter,ifs,0⟩] sc pos) spos) env) Q Er s:=by
 refine dI (jm hsc) λhk l q g=>?_
 obtain ⟨cl,m,j⟩:=mR (scope:=sc) (env:=env) (λp u e=>by
  rcases g p u with h | h | h | h
  ·rw[h.1] at e; cases e
  ·rw[h] at e; cases e
  ·rw[h.1] at e; cases e
  ·exact X.eok.cells p.1 h.2)
 rw[exec_Assign_Name_used _ _ _ _ hsw]
 refine Gt (TA (Gt ?_))
 show Ph _ A (do let _ <- comprehension (.ListComp elt [⟨.Name (mL x) px,iter,ifs,0⟩] sc pos) sc env _ (newList []) OZ (Tu iter env) (qn (Vn (.Name (mL t) pt) env))) _ _ s
 exact Gt (QI (Vo (use:=qn (Vn (.Name (mL t) pt) env)) (Q:=λuu s'=>Q .next s') rfl hset m hk (λy o e=>by rw[<- e]; exact ju l o) (h cl j)) (λuu s' r=>Pb (Pb r)) λuu uu e=>e)
theorem pk {h0:P9}{P Z:Pz->Prop}{A:PU}{env:Env}{σ:St}{vals:OX->O4 Lt}{fp:OX->rg Pz}{s s₂:O0}{Q:Flow->O0->Prop}{Er:Lt->O0->Prop}{x:OX}{px:Pos}{ns:rg OX}{d:Pk}{md:Mode}{v:Lt}{h:P9}{tk:Pa}{D:Pz}{m:Str->O4 Lt}
  (K:SOK fns k h0 P Z A env s.heap σ vals fp) (hb:bQ env.scope.names x=vk) (E:EP (Own σ fp ns) s (.d d,md) v {s₂ with heap:=h,toks:=tk }) (hm:h.Ns D m) (hD:s.heap.get? D=O2)
  (hN:∀ s' vals' fp',Stp Z s s'->SOK fns k h0 P Z A env s'.heap (upd (consume σ ns md) x (.d d,md)) vals' fp'->Frm Z [x] σ vals fp (upd (consume σ ns md) x (.d d,md)) vals' fp'->Q .next s') :
  VC (Pn prog w) A Er (qn (Vn (.Name (mL x) px) env)) (λuu s'=>Q .next s') v D (.ok .next) {s₂ with heap:=h,toks:=tk }:=by
 refine io hb λh1 h2 h3=>?_
 show Ph _ A (Vn (.Name (mL x) px) env v) _ _ _
 refine T2 (K.put_ep h1 h3 E λs' as rv st kk K' F=>?_)
 have dL:D≠env.locals:=λq=>by
  refine af (K.loc.ns) λm' p _=>?_
  refine bC (p) λo _ _ e _=>?_
  clear p
  rw[<- q] at e
  rw[hD] at e; exact nN e
 have r:=hm
 refine bj (r) λo es ep ho z hr=>?_
 clear r
 have j:=kk D o dL (λu q=>by rw[z] at q; cases q) ho
 have t:s'.heap.Ns D m:=(c9 o es ep j z hr)
 refine (ah m t (λh' hs=>hN _ _ _ ?_ (K'.same t (λhz=>?_) dL (λy q l hf=>?_) hs) F))
 ·refine (E.keeps.stp.trans st).same hs (λhz=>?_) λo' e=>by rw[j] at e; (have oc:=vj e; clear e; subst oc); exact Stay.not_dict z
  refine ak (K.zdom D hz) λo e=>?_
  rw[hD] at e; exact nN e
 ·refine ak (K.zdom D hz) λo e=>?_
  rw[hD] at e; exact nN e
 ·split at hf
  ·refine bi (rv.1.there D hf) λuu uu e=>?_
   rw[ho] at e; (have oc:=vj e; clear e; (clear ho j; subst oc)); cases z
  ·rename_i hy
   unfold upd at l
   rw[OY hy] at l
   have:∃ n,σ y=qn n:=by
    unfold consume at l
    split at l
    ·exact ⟨q,l⟩
    ·obtain ⟨n,i,_⟩:=ck l; exact ⟨n,i⟩
   refine ak (this) λn i=>?_
   clear this
   refine ae (K.val y n i) λuu g=>?_
   refine aq (g) λu _ hr _=>?_
   clear g
   refine ak (hr.there D hf) λo e=>?_
   rw[hD] at e; exact nN e
theorem tY (h:jf e=vk):(∃ elt y it,e = .comp elt y it)\/∃ elt y it c,e = .compif elt y it c:=by
 cases e with
 | comp elt y it=>exact .inl ⟨_,_,_,rfl⟩
 | compif elt y it c=>exact .inr ⟨_,_,_,_,rfl⟩
 | _=>exact nF h
theorem rx (S:SimE fns k C XP e) (Sc:(∀ elt y it,e = .comp elt y it->dJ fns k C XP it/\SimE fns k C XP elt)/\∀ elt y it c,e = .compif elt y it c->dJ fns k C XP it/\SimE fns k C XP elt/\SimT fns k C XP c):dP fns k C (.assign x e):=by
 intro stmt h0 P Z A env σ vals fp s Q Er σ' fl ok K he hN hR
 replace ok:=kl ok
 revert ok; refine λNN=>PG NN (λNB=>?_) (λok=>?_)
 ·clear NN
  refine cS (NB) λt pt v spos N6 ok=>?_
  clear NB
  subst N6
  simp only[O9,Pv] at ok
  refine ae (ok) λNm oe=>?_
  clear ok
  refine ae (Nm) λNr hb=>?_
  clear Nm
  subst Nr
  refine io hb λh1 h2 h3=>?_
  simp only[bt] at he
  refine Out.bind_k he λr hr he=>?_
  replace hr:=Dt hr
  replace hN:=mu he hN
  clear he hR
  have n:VI v (qn (.Name (mL x) pt)) spos.line env=Qq OZ->Ph (Pn prog w) A (exec (.Assign [.Name (mL x) pt] v spos) env) Q Er s:=λhsw=>by
   refine Vi (K.eval S oe hr λu s' E=>?_) hsw
   exact K.put_ep h1 h3 E λs'' as rv st kk K' F=>hN s'' _ _ (E.keeps.stp.trans st) K' F
  cases hc:jf e with
  | false=>exact n (iz (km hc oe) _ _ _)
  | true=>
   refine PG (tY hc) (λq0=>?_) (λq0=>?_)
   ·refine Et (q0) λelt y it e0=>?_
    clear q0
    refine ae (Sc.1 elt y it e0) λSi Se=>?_
    clear Sc S hc
    subst e0
    replace oe:=uN oe
    revert oe; refine λNZ=>PG NZ (λND=>?_) (λoe=>?_)
    ·clear NZ
     refine uc (ND) λee ty py iter sc pos OO oe=>?_
     clear ND
     subst OO
     rcases mF (e:=ee) (gs:=[⟨.Name ty py,iter,[],0⟩]) (sc:=sc) (p:=pos) (t:=mL x) (q:=pt) (l:=spos.line) (env:=env) with hsw | hsw
     ·simp only[O9,Pv] at oe
      revert oe; intro Om
      refine ae (Om) λNn oe=>?_
      clear Om
      refine ae (Nn) λNo oi=>?_
      clear Nn
      refine ae (No) λNu hsc=>?_
      clear No
      (clear n; subst Nu)
      have X:=K.cx (fv (.comp elt y it))
      have e1:ev C (.comp elt y it) (cL σ (fv (.comp elt y it))) = .ok r:=by rw[aD C _ _ σ (cj σ _)]; exact hr
      simp only[d7] at e1
      refine Out.bind_k e1 λq hq e1=>?_
      refine Out.bind_k e1 λres g e1=>?_
      (have j:=Out.ok.inj e1; clear e1; (clear hr; subst j))
      refine mG hsc X (mY oi env) hsw λcl hcl=>Si oi X (by rw[hq]; simp) (λq' hq' i s₂ I=>?_) λc hc=>by rw[hq] at hc; cases hc
      rw[hq] at hq'; (have j:=Out.ok.inj hq'; clear hq'; subst j)
      obtain ⟨res',o⟩:=fG (by rw[g]; simp:(bM _ q.1).calm≠.bad)
      rw[o] at g; (have j:=Out.ok.inj g; clear g; subst j)
      refine gf (RR:=λacc C=>VC (Pn prog w) A Er (qn (Vn (.Name (mL x) pt) env)) (λuu s'=>Q .next s') acc C) (ds:=q.1) hsc X o (λd r hf cenv s₃ P' Q₁ Qb Er' hNm X' g1 g2=>X5 ?_) I (λD C h tk m E hm hC=>pk K hb E hm hC λs' vals' fp' st K' F=>hN s' vals' fp' st K' F) hcl
      rw[O1 rfl]
      refine Out.bind_k hf λz hz e=>?_
      (have j:=Out.ok.inj e; clear e; (clear g1 hf; subst j))
      exact Se (hNm▸oe) X' (by rw[hz]; simp) (λr hr v s' E=>g2 r (by rw[hz] at hr; (have j:=Out.ok.inj hr; clear hr; (clear E; subst j)); rfl) v s' E) λc hc=>by rw[hz] at hc; cases hc
     ·exact n hsw
    ·cases oe
   ·refine Ln (q0) λelt y it c e0=>?_
    clear q0
    refine aI (Sc.2 elt y it c e0) λSi Se Sc'=>?_
    clear Sc S hc
    subst e0
    replace oe:=qi oe
    revert oe; refine λOn=>PG On (λNX=>?_) (λoe=>?_)
    ·clear On
     refine kQ (NX) λee ty py iter ff sc pos OB oe=>?_
     clear NX
     subst OB
     rcases mF (e:=ee) (gs:=[⟨.Name ty py,iter,[ff],0⟩]) (sc:=sc) (p:=pos) (t:=mL x) (q:=pt) (l:=spos.line) (env:=env) with hsw | hsw
     ·simp only[O9,Pv] at oe
      revert oe; intro Os
      refine ae (Os) λNx oe=>?_
      clear Os
      refine ae (Nx) λNp j=>?_
      clear Nx
      refine ae (Np) λNl oi=>?_
      clear Np
      refine ae (Nl) λNq hsc=>?_
      clear Nl
      (clear n; subst Nq)
      have X:=K.cx (fv (.compif elt y it c))
      have e1:ev C (.compif elt y it c) (cL σ (fv (.compif elt y it c))) = .ok r:=by rw[aD C _ _ σ (cj σ _)]; exact hr
      simp only[c6] at e1
      refine Out.bind_k e1 λq hq e1=>?_
      refine Out.bind_k e1 λres g e1=>?_
      (have j:=Out.ok.inj e1; clear e1; (clear hr; subst j))
      refine mG hsc X (mY oi env) hsw λcl hcl=>Si oi X (by rw[hq]; simp) (λq' hq' i s₂ I=>?_) λc hc=>by rw[hq] at hc; cases hc
      rw[hq] at hq'; (have j:=Out.ok.inj hq'; clear hq'; subst j)
      obtain ⟨res',o⟩:=fG (by rw[g]; simp:(bM _ q.1).calm≠.bad)
      rw[o] at g; (have j:=Out.ok.inj g; clear g; subst j)
      refine gf (RR:=λacc C=>VC (Pn prog w) A Er (qn (Vn (.Name (mL x) pt) env)) (λuu s'=>Q .next s') acc C) (ds:=q.1) hsc X o (λd r hf cenv s₃ P' Q₁ Qb Er' hNm X' g1 g2=>X6 ?_) I (λD C h tk m E hm hC=>pk K hb E hm hC λs' vals' fp' st K' F=>hN s' vals' fp' st K' F) hcl
      refine Out.bind_k hf λt ht hf=>?_
      refine Out.bind_k hf λb hb' hf=>?_
      refine Sc' (hNm▸j) X' (by rw[ht,Out.ok_bind,hb']; simp) (λb'' hb'' s₄ kd=>?_) λc hc=>by rw[ht] at hc; cases hc
      rw[ht,Out.ok_bind,hb'] at hb''
      (have j:=Out.ok.inj hb''; clear hb''; subst j)
      cases b with
      | false=>(have j:=Out.ok.inj hf; clear hf; (clear g2; subst j)); simpa using g1 rfl s₄ kd
      | true=>
       rw[O1 rfl] at hf ⊢
       refine Out.bind_k hf λz hz e=>?_
       (have j:=Out.ok.inj e; clear e; (clear g1; subst j))
       exact Se (hNm▸oe) (X'.k kd.k) (by rw[hz]; simp) (λr hr v s' E=>g2 r (by rw[hz] at hr; (have j:=Out.ok.inj hr; clear hr; (clear E; subst j)); rfl) v s' (E.after kd)) λc hc=>by rw[hz] at hc; cases hc
     ·exact n hsw
    ·cases oe
 ·cases ok
end
section
variable {fns:Fns}{k:Pa}{C:Calls}{XP:OX->O0->Lt->O0->Prop}
variable {h0:P9}{P Z:Pz->Prop}{A:PU}{env:Env}{σ:St}{vals:OX->O4 Lt}{fp:OX->rg Pz}
theorem SOK.putl {s s₂:O0}{h':P9}{ns:rg OX}{x:OX}{xs zs:rg Pk}{mx m:Mode}{as:rg Pz}{σ':St}{fl:Flw}{a:Pz}{vs vs':rg Lt}{n n':Pa}{bs bs':rg Pz}
  (K:SOK fns k h0 P Z A env s.heap σ vals fp) (kp:Kp s s₂) (ha:∀ b∈as,Own σ fp ns b\/s.heap.get? b=O2) (hdp:m = .deep->(∀ b∈as,s.heap.get? b=O2)/\as.Nodup)
  (hx:σ x=qn (.d (.list xs),mx)) (hput:jW σ x ns mx zs m = .ok (σ',fl)) (hm:mx≠.sh)
  (hv:vals x=qn (.ref a)) (ea:s.heap.get? a=qn ⟨.type "list", O2,.seq vs.toArray n,#[]⟩) (hfp:fp x=a::bs) (hZ:¬ Z a) (hab:a∉bs) (hne:∀ y q,y≠x->σ y=qn q->a∉fp y) (hP:∀ b∈a::bs,b≠env.locals/\(P b\/h0.get? b=O2))
  (hdx:mx = .deep->(∀ b∈bs,¬ Z b/\∀ y q,y≠x->σ y=qn q->b∉fp y)/\bs.Nodup)
  (hs:Qg a s₂.heap h') (ea':h'.get? a=qn ⟨.type "list", O2,.seq vs'.toArray n',#[]⟩) (rr:RA s₂.heap vs' zs bs') (hz:∀ z∈zs,sz z=vk) (hbs:∀ b∈bs',b∈bs\/b∈as) (hnd:(bs++as).Nodup->bs'.Nodup) :
  fl = .next/\∃ fp',SOK fns k h0 P Z A env h' σ' vals fp'/\Frm Z [x] σ vals fp σ' vals fp':=by
 have nz:∀ a,s.heap.get? a=O2->¬ Z a:=λa e hz=>by
  refine ak (K.zdom a hz) λo e'=>?_
  rw[e] at e'; exact nN e'
 have nf:∀ a,s.heap.get? a=O2->∀ y q,σ y=qn q->a∉fp y:=λa e y q r hm=>by
  refine ae (K.val y q r) λuu Oz=>?_
  refine aq (Oz) λu _ hr _=>?_
  clear Oz
  refine ak (hr.there a hm) λo e'=>?_
  rw[e] at e'; exact nN e'
 unfold jW at hput
 split at hput
 ·rename_i hlen
  have l:=kp.k.get ea rfl
  have main:∀ (g:m = .deep\/x∉ns),a∉as:=λg hm=>by
   refine PG (ha a hm) (λNB=>?_) (λh1=>?_)
   ·refine ay (NB) λz q hz r hf=>?_
    clear NB
    rcases g with hc | hc
    ·have:=(hdp hc).1 a hm
     rw[ea] at this; exact nM this
    ·exact hne z q (λe=>hc (e▸hz)) r hf
   ·rw[ea] at h1; exact nM h1
  have rv':(g:m = .deep\/x∉ns)->RV h' (.ref a) (.d (.list zs)) (a::bs'):=λg=>by
   refine ⟨.list ea' (rr.off (wr:=[a]) (λb hb o e=>.inr ?_) λb o hb e=>hs.extBut b o (λq=>hb (by simp[q])) e),sz_list.mpr ⟨?_,hz⟩⟩
   ·rw[O7.mp hb] at e ⊢
    rw[l] at e; (have oc:=vj e; clear e; subst oc)
    exact ⟨by simp,λhm=>(hbs a hm).elim hab (main g)⟩
   ·unfold lim at hlen; exact zI hlen
  have pb:∀ b∈bs',b≠env.locals/\(P b\/h0.get? b=O2):=λb hb=>by
   rcases hbs b hb with h1 | h1
   ·exact hP b (.tail _ h1)
   ·rcases ha b h1 with h2 | h2
    ·exact (K.own h2).2
    ·refine ⟨λq=>?_,.inr ?_⟩
     ·refine af (K.loc.ns) λm' Nw _=>?_
      refine bC (Nw) λo _ _ e _=>?_
      clear Nw
      rw[<- q] at e
      rw[h2] at e; exact nN e
     ·cases e:h0.get? b with
      | none=>rfl
      | some o=>obtain ⟨_,e'⟩:=Internal.K.there K.kp0 e; rw[e'] at h2; exact nM h2
  have abs:(g:m = .deep\/x∉ns)->a∉bs':=λg hm=>(hbs a hm).elim hab (main g)
  have org:∀ b∈a::bs',Z b->∃ z q,σ z=qn q/\b∈fp z:=λb hb hz=>by
   rcases PC.mp hb with rfl | hb
   ·exact Pq hz hZ
   ·rcases hbs b hb with hb | hb
    ·exact (aC x _ hx (by rw[hfp]; exact .tail _ hb))
    ·refine PG (ha b hb) (λND=>?_) (λh1=>?_)
     ·refine ay (ND) λy q N3 h1 h2=>?_
      clear ND
      exact (aC y q h1 h2)
     ·exact Pq hz (nz b h1)
  split at hput
  ·rename_i v
   cases hput
   refine (aE rfl (ah _ ?_ (.one (λuu uu=>rfl) (λz q h=>⟨q,h⟩) org)))
   refine ((K.onK kp.k).write hx hv l (by simp) Stay.not_list (λuu q=>by cases q) hZ hne (hP a (.head _)) hs (rv' (.inl v)) pb (λuu=>abs (.inl v)) (λj=>?_) λt q hy r=>?_)
   ·refine ae (hdx j) λg1 g2=>?_
    refine ae (hdp v) λg3 g4=>?_
    refine ⟨λb hb=>?_,Q6.mpr ⟨abs (.inl v),hnd (R6.mpr ⟨g2,g4,λb hb c hc q=>?_⟩)⟩⟩
    ·rcases hbs b hb with h1 | h1
     ·exact g1 b h1
     ·exact ⟨nz b (g3 b h1),λy q _ r=>nf b (g3 b h1) y q r⟩
    ·subst q
     exact nf b (g3 b hc) x _ hx (by rw[hfp]; exact .tail _ hb)
   ·have g3:=(hdp v).1
    refine ⟨λht b cs e hm=>?_,λhd b hb hm=>?_⟩
    ·refine bp (K.top t q r ht) λb' cs' e' _ _ h4=>?_
     rw[e] at e'; cases e'
     rcases hbs b hm with h1 | h1
     ·exact h4 x _ (QA hy) hx (by rw[hfp]; exact .tail _ h1)
     ·exact nf b (g3 b h1) t q r (by rw[e]; exact .head _)
    ·rcases hbs b hm with h1 | h1
     ·exact ((K.deep t q r hd).1 b hb).2 x _ (QA hy) hx (by rw[hfp]; exact .tail _ h1)
     ·exact nf b (g3 b h1) t q r hb
  ·split at hput
   ·exact nB hput
   ·rename_i v hxn
    cases hput
    have hx':Internal.demote σ ns x=qn (V.d (.list xs),mx):=by unfold Internal.demote; rw[OY hxn]; exact hx
    refine (aE rfl (ah _ ?_ (.one (λuu uu=>rfl) (λz q h=>af (ck h) λq' h' uu=>⟨q',h'⟩) org)))
    refine (((K.onK kp.k).demote ns).write hx' hv l (by simp) Stay.not_list (λuu q=>by cases q) hZ (λt q hy r=>?_) (hP a (.head _)) hs (rv' (.inr hxn)) pb (λuu=>abs (.inr hxn)) (λj=>by cases j) λt q hy r=>?_)
    ·refine af (ck r) λq' i _=>?_
     exact hne t q' hy i
    ·refine fx r λq' i e1 hc=>?_
     rcases hc with ⟨_,rfl⟩ | ⟨hn,rfl⟩
     ·refine ⟨λh=>Pq h iR,λh b hb=>?_⟩
      refine ae (K.val t q' i) λuu Oi=>?_
      refine aq (Oi) λu _ hr _=>?_
      clear Oi
      rw[hr.scal_nil (gD h)] at hb
      cases hb
     ·refine ⟨λht b cs e hm=>?_,λhd b hb hm=>?_⟩
      ·refine bp (K.top t q i ht) λb' cs' e' _ _ h4=>?_
       rw[e] at e'; cases e'
       rcases hbs b hm with h1 | h1
       ·exact h4 x _ (QA hy) hx (by rw[hfp]; exact .tail _ h1)
       ·refine PG (ha b h1) (λNX=>?_) (λh2=>?_)
        ·refine ay (NX) λz p hz hp hf=>?_
         clear NX
         exact h4 z p (λq=>hn (q▸hz)) hp hf
        ·exact nf b h2 t q i (by rw[e]; exact .head _)
      ·rcases hbs b hm with h1 | h1
       ·exact ((K.deep t q i hd).1 b hb).2 x _ (QA hy) hx (by rw[hfp]; exact .tail _ h1)
       ·refine PG (ha b h1) (λN0=>?_) (λh2=>?_)
        ·refine ay (N0) λz p hz hp hf=>?_
         clear N0
         exact ((K.deep t q i hd).1 b hb).2 z p (λq=>hn (q▸hz)) hp hf
        ·exact nf b h2 t q i hb
 ·exact nB hput
theorem um (eok:EnvOk env):Tc env=false:=by unfold Tc; rw[eok.kind]; rfl
set_option tactic.hygienic true in
theorem qY (S:SimE fns k C XP e):dP fns k C (.append x e):=by
 intro stmt h0 P Z A env σ vals fp s Q Er σ' fl j K i hN hR
 replace j:=v9 j
 revert j; refine λl=>PG l (λq=>?_) (λj=>?_)
 ·clear l
  refine kQ (q) λt pt mm ap v pos spos OJ j=>?_
  clear q
  subst OJ
  simp only[O9,Pv] at j
  refine ae (j) λNm oe=>?_
  clear j
  refine ae (Nm) λNr hb=>?_
  clear Nm
  refine ae (Nr) λNn No=>?_
  clear Nr
  refine ae (Nn) λNu hl=>?_
  clear Nn
  subst Nu
  subst No
  refine io hb λh1 h2 h3=>?_
  simp only[eL] at i
  replace i:=kY i
  refine Out.bind_k i λr hr hA=>?_
  clear i
  obtain ⟨ry,m⟩:=r
  refine a0 hA λy hy hB=>?_
  clear hA
  refine a0 hB λp hx hA=>?_
  clear hB
  obtain ⟨vv,mx⟩:=p
  refine a0 hA λxs hxx i=>?_
  clear hA
  dsimp only at hy hxx i
  cases bK hy
  cases im hxx
  clear hy hxx
  by_cases hmx:mx = .sh
  ·rw[O1 hmx] at i; exact nB i
  ·rw[OY hmx] at i
   ·refine pW (K.head hx hmx) λa vs n bs hv ea ra hfp hz hZ hab hne hP hdx=>?_
    refine Td (wpAny_Call_append rfl (by rw[aK oe]; rfl) (by simpa using hl) (by rw[aK oe]; rfl) ?_) (um K.eok)
    refine dj K.eok.kind h2 (K.loc.var K.eok hv) (aP a vs.toArray rfl (bO _ n ea rfl rfl rfl) (K.eval S oe hr λu s₂ E=>?_))
    obtain ⟨kp,as,Nx,ha,ht,hd⟩:=E
    refine ae (Nx) λru zu=>?_
    clear Nx
    have hlen:=ra.length
    have hzl:=(sz_list.mp hz)
    refine VB (hsz:=by rw[PJ,hlen]; unfold RC; exact tR hzl) ⟨n,kp.k.get ea rfl⟩ λh' hp hs=>?_
    refine ak (hp) λn' ep=>?_
    clear hp
    have:=K.putl kp ha hd hx i hmx hv ea hfp hZ hab hne hP hdx hs (vs':=vs++[u]) (by simpa using ep) ((ra.k kp.k).append (.cons ru .nil)) (λz hz'=>by
     rcases Pu.mp hz' with h | h
     ·exact hzl.2 z h
     ·rw[O7.mp h]; exact zu) (λb hb=>by
     rcases Pu.mp hb with h | h
     ·exact .inl h
     ·exact .inr (by simpa using h)) (λh=>by simpa using h)
    refine ae (this) λhfl g=>?_
    clear this
    refine af (g) λfp' K' F'=>?_
    clear g
    exact hN hfl _ vals fp' (kp.stp.same hs hZ λo e=>by rw[kp.k.get ea rfl] at e; (have oc:=vj e; clear e; subst oc); exact Stay.not_list) K' F'
 ·cases j
theorem RA.split (r:RA h vs xs bs) (i:Pa):∃ b1 b2,bs=b1++b2/\RA h (vs.take i) (xs.take i) b1/\RA h (vs.drop i) (xs.drop i) b2 :=
 RA.ind (N:=λvs xs bs=>∀ i,∃ b1 b2,bs=b1++b2/\RA h (vs.take i) (xs.take i) b1/\RA h (vs.drop i) (xs.drop i) b2) (λi=>(aP ([]) ([]) rfl (by rw[Y1,Y1]; exact RA.nil) (by rw[W5,W5]; exact RA.nil))) (λ{v vs d m as bs} x r l i=>by
  cases i with
  | zero=>exact (aP ([]) (as++bs) rfl RA.nil (RA.cons x r))
  | succ i=>
   refine ay (l i) λb1 b2 g k j=>?_
   exact (aP (as++b1) b2 (by rw[QX,g]) (RA.cons x k) j)) r i
theorem Dg (l:rg Lt) (k:Pa) (y:Lt):(l.toArray.extract 0 k).push y++l.toArray.extract k=(l.take k++y::l.drop k).toArray:=by
 apply WR.mp
 simp
 exact QL (by simp)
set_option tactic.hygienic true in
theorem rl (hXP:∀ c s s₁ x s',Kp s s₁->XP c s₁ x s'->XP c s x s') {x:OX}{i e:E}(Si:SimE fns k C XP i) (S:SimE fns k C XP e):dP fns k C (.insert x i e):=by
 intro stmt h0 P Z A env σ vals fp s Q Er σ' fl ok K he hN hR
 replace ok:=wA ok
 revert ok; refine λNW=>PG NW (λNY=>?_) (λok=>?_)
 ·clear NW
  refine DA (NY) λt pt mm ap vi v pos spos OF ok=>?_
  clear NY
  subst OF
  simp only[O9,Pv] at ok
  refine ae (ok) λNl oe=>?_
  clear ok
  refine ae (Nl) λNq oi=>?_
  clear Nl
  refine ae (Nq) λNt hb=>?_
  clear Nq
  refine ae (Nt) λNv Ny=>?_
  clear Nt
  refine ae (Nv) λNz hl=>?_
  clear Nv
  subst Nz
  subst Ny
  refine io hb λh1 h2 h3=>?_
  simp only[jv] at he
  replace he:=kY he
  refine Out.bind_k he λq hq hA=>?_
  clear he
  refine Out.bind_k hA λr hr hB=>?_
  clear hA
  obtain ⟨ri,mi⟩:=q
  obtain ⟨ry,m⟩:=r
  refine a0 hB λd hd' hA=>?_
  clear hB
  refine a0 hA λj hj hB=>?_
  clear hA
  refine a0 hB λy hy hA=>?_
  clear hB
  refine a0 hA λp hx hB=>?_
  clear hA
  obtain ⟨vv,mx⟩:=p
  refine a0 hB λg hxx he=>?_
  clear hB
  dsimp only at hd' hy hxx he
  cases bK hd'
  cases cJ hj
  cases bK hy
  cases im hxx
  clear hd' hj hy hxx
  by_cases hmx:mx = .sh\/j<0\/(g.length:O3)<j
  ·rw[O1 hmx] at he; exact nB he
  ·rw[OY hmx] at he
   ·have hmx':mx≠.sh:=λq=>hmx (.inl q)
    have hj0:0<=j:=by
     apply RF.mp
     exact λq=>hmx (.inr (.inl q))
    have hjl:j<=g.length:=by
     apply RF.mp
     exact λq=>hmx (.inr (.inr q))
    refine pW (K.head hx hmx') λa vs n bs hv ea ra hfp hz hZ hab hne hP hdx=>?_
    have hlen:=ra.length
    have hzl:=(sz_list.mp hz)
    refine Td (Xx (T:="list") (id:="list.insert") rfl (by rw[aK oi,aK oe]; rfl) (by simpa using hl) Xy WW F.type_list_insert ?_) (um K.eok)
    refine dj K.eok.kind h2 (K.loc.var K.eok hv) ⟨(ah _ ea rfl),λb hb=>?_,?_⟩
    ·cases hb; exact (ah _ ea rfl)
    have fin:Ph (Pn prog w) A (VR (RO pos (Qm [vi,v] env))) (λws s₁=>Ph (Pn prog w) A (SV (.builtin "list.insert") ([.ref a]++ws)) (λuu=>Q .next) Er s₁) Er s:=by
     refine Rp ?_ (aK oi _ env)
     refine K.eval Si oi hq λvj s₁ Ei=>?_
     refine iY _ oe ((K.onK Ei.keeps.k).eval S oe hr λu s₂ E=>?_)
     obtain ⟨ki,is,NA,_⟩:=Ei
     refine ae (NA) λrj _=>?_
     clear NA
     cases rj
     obtain ⟨kp,as,NC,ha,ht,hd⟩:=E
     refine ae (NC) λru zu=>?_
     clear NC
     have kk:=ki.trans kp
     refine call_meets WW (ah _ (kk.k.get ea rfl) rfl) F.entry_list_insert (F.args_list_insert_3 _ _ _) (WJ a _ n j _ u ?_ ?_) ⟨kk.k.get ea rfl,?_⟩
     ·have:Te j=true:=by
       unfold Te
       simp
       exact FR hmx hzl
      simp[this]
     ·rw[PJ,hlen]; unfold RC; exact tR hzl
     ·refine ay ((ra.k kk.k).split j.toNat) λb1 b2 hb12 q1 q2=>?_
      have hup:=Jae (kk.k.get ea rfl) (λg:Pf Lt=>(g.extract 0 (if j<0 then (j+((g.size:Pa):O3)).toNat else min j.toNat g.size)).push u++g.extract (if j<0 then (j+((g.size:Pa):O3)).toNat else min j.toNat g.size))
      have hmin:(if j<0 then (j+((vs.toArray.size:Pa):O3)).toNat else min j.toNat vs.toArray.size)=j.toNat:=by
       rw[OY (Gr hmx),PJ,hlen]; exact G8 hmx
      obtain ⟨n',hup'⟩:∃ n',IsL (s₂.heap.update a (PF λg:Pf Lt=>(g.extract 0 (if j<0 then (j+((g.size:Pa):O3)).toNat else min j.toNat g.size)).push u++g.extract (if j<0 then (j+((g.size:Pa):O3)).toNat else min j.toNat g.size))) a (vs.take j.toNat++u::vs.drop j.toNat).toArray n':=by
       have:=hup
       rw[hmin,Dg] at this
       exact ⟨_,this⟩
      have:=K.putl kk (as:=as) (λb hb=>(ha b hb).imp (λh=>h) ki.none) (λh=>⟨λb hb=>ki.none ((hd h).1 b hb),(hd h).2⟩) hx he hmx' hv ea hfp hZ hab hne hP hdx (P2 ..) hup' (q1.append (.cons ru q2)) (λz hz'=>by
       rcases Pu.mp hz' with h | h
       ·exact hzl.2 z (Rk h)
       rcases PC.mp h with rfl | h
       ·exact zu
       ·exact hzl.2 z (SN h)) (λb hb=>by
       rw[hb12]
       rcases Pu.mp hb with h | h
       ·exact .inl (PX _ h)
       rcases Pu.mp h with h | h
       ·exact .inr h
       ·exact .inl (P5 _ h)) (λh=>by
       rw[hb12] at h
       have p:(b1++b2++as).Perm (b1++(as++b2)):=by
        rw[QX]
        exact ZC b1 Sp
       exact p.nodup_iff.mp h)
      refine ae (this) λhfl l=>?_
      clear this
      refine af (l) λfp' K' F'=>?_
      clear l
      exact hN hfl _ vals fp' (kk.stp.same (P2 ..) hZ λo e=>by rw[kk.k.get ea rfl] at e; (have oc:=vj e; clear e; subst oc); exact Stay.not_list) K' F'
    rw[aK oi] at fin ⊢
    exact Calls.callWith_builtin (by rw[aK oe]; rfl) (Calls.evalArgs_plain (QI fin (λvs s₁ h₁=>h₁) λuu uu e=>e))
 ·cases ok
end
section
theorem RA.erase (i:Pa) (r:RA h vs xs bs):∃ bs',RA h (vs.eraseIdx i) (xs.eraseIdx i) bs'/\∀ b∈bs',b∈bs :=
 RA.ind (N:=λvs xs bs=>∀ i,∃ bs',RA h (vs.eraseIdx i) (xs.eraseIdx i) bs'/\∀ b∈bs',b∈bs) (λuu=>(ah ([]) RA.nil (λuu h=>(nomatch h)))) (λx r j i=>by
  cases i with
  | zero=>exact (ah _ r (λb g=>P5 _ g))
  | succ i=>
   refine af (j i) λbs' q k=>?_
   exact (ah _ (RA.cons x q) (λb g=>(Pu.mp g).elim (PX _) λh=>P5 _ (k b h)))) r i
theorem yb (l:rg Lt) (i:Pa):l.toArray.eraseIdxIfInBounds i=(l.eraseIdx i).toArray:=by
 apply WR.mp
 unfold Vq
 split
 ·simp
 ·rename_i h
  simp at h
  simp[List.eraseIdx_of_length_le h]
set_option tactic.hygienic true in
theorem xI (Si:SimE fns k C XP i):dP fns k C (.pop x i):=by
 intro stmt h0 P Z A env σ vals fp s Q Er σ' fl v K he hN hR
 replace v:=C1 v
 revert v; refine λNN=>PG NN (λNB=>?_) (λv=>?_)
 ·clear NN
  refine kQ (NB) λt pt mm ap vi pos spos OH v=>?_
  clear NB
  subst OH
  simp only[O9,Pv] at v
  refine ae (v) λNw oi=>?_
  clear v
  refine ae (Nw) λNm l=>?_
  clear Nw
  refine ae (Nm) λNr Nn=>?_
  clear Nm
  refine ae (Nr) λNo hl=>?_
  clear Nr
  subst No
  subst Nn
  refine io l λh1 h2 h3=>?_
  simp only[nr] at he
  replace he:=kY he
  refine Out.bind_k he λq hq g=>?_
  clear he
  obtain ⟨ri,mi⟩:=q
  refine a0 g λd hd' hA=>?_
  clear g
  refine a0 hA λj hj hB=>?_
  clear hA
  refine a0 hB λp hx hA=>?_
  clear hB
  obtain ⟨vv,mx⟩:=p
  refine a0 hA λr hxx g=>?_
  clear hA
  dsimp only at hd' hxx g
  cases bK hd'
  cases cJ hj
  cases im hxx
  clear hd' hj hxx
  by_cases hmx:mx = .sh\/j<0\/(r.length:O3)<=j
  ·rw[O1 hmx] at g; exact nB g
  ·rw[OY hmx] at g
   ·replace hN:=mu g hN
    clear g hR
    have hmx':mx≠.sh:=λq=>hmx (.inl q)
    have hj0:0<=j:=RF.mp λq=>hmx (.inr (.inl q))
    have hjl:j<r.length:=WK.mp λq=>hmx (.inr (.inr q))
    refine pW (K.head hx hmx') λa vs n bs hv ea ra hfp hz hZ hab hne hP hdx=>?_
    have u:=ra.length
    have hzl:=(sz_list.mp hz)
    refine Td (Xx (T:="list") (id:="list.pop") rfl (by rw[aK oi]; rfl) (by simpa using hl) Xy Yi F.type_list_pop ?_) (um K.eok)
    refine dj K.eok.kind h2 (K.loc.var K.eok hv) ⟨(ah _ ea rfl),λb l=>?_,?_⟩
    ·cases l; exact (ah _ ea rfl)
    have fin:Ph (Pn prog w) A (VR (RO pos (Qm [vi] env))) (λws s₁=>Ph (Pn prog w) A (SV (.builtin "list.pop") ([.ref a]++ws)) (λuu=>Q .next) Er s₁) Er s:=by
     refine iY _ oi (K.eval Si oi hq λvj m Ei=>?_)
     obtain ⟨y,is,Nu,_⟩:=Ei
     refine ae (Nu) λrj _=>?_
     clear Nu
     cases rj
     have hlt:j.toNat<vs.length:=by exact Hb hmx u
     refine call_meets Yi (ah _ (y.k.get ea rfl) rfl) F.entry_list_pop (F.args_list_pop_2 _ _) (YJ a vs.toArray n j _ j.toNat vs[j.toNat] ?_ ?_ ?_ ?_) ⟨y.k.get ea rfl,?_⟩
     ·unfold Te
      simp
      exact Ge hmx hzl
     ·unfold Y6
      rw[PJ,u]
      simp only[OY (RF.mpr hj0)]
      simp[hj0,hjl]
     ·simp[hlt]
     ·rw[PJ,u]; unfold RC; exact tR hzl
     ·refine af ((ra.k y.k).erase j.toNat) λbs' q1 q2=>?_
      obtain ⟨n',hup⟩:∃ n',IsL (m.heap.update a (PF λr=>r.eraseIdxIfInBounds j.toNat)) a (vs.eraseIdx j.toNat).toArray n':=by
       have:=Jae (y.k.get ea rfl) (λr:Pf Lt=>r.eraseIdxIfInBounds j.toNat)
       rw[yb] at this
       exact ⟨_,this⟩
      have hs:Qg a m.heap (m.heap.update a (PF λr=>r.eraseIdxIfInBounds j.toNat)):=P2 ..
      have hab':a∉bs':=λh=>hab (q2 a h)
      have rv:RV (m.heap.update a (PF λr=>r.eraseIdxIfInBounds j.toNat)) (.ref a) (.d (.list (r.eraseIdx j.toNat))) (a::bs'):=by
       refine ⟨.list hup (q1.off (wr:=[a]) (λb l o e=>.inr ?_) λb o l e=>hs.extBut b o (λq=>l (by simp[q])) e),sz_list.mpr ⟨If (VJ ..) hzl.1,λz hz=>hzl.2 z (Vs hz)⟩⟩
       rw[O7.mp l] at e ⊢
       rw[y.k.get ea rfl] at e; (have oc:=vj e; clear e; subst oc)
       exact ⟨by simp,hab'⟩
      have K':=(K.onK y.k).write (m':=.top) hx hv (y.k.get ea rfl) (by simp) Stay.not_list (λuu q=>by cases q) hZ hne (hP a (.head _)) hs rv (λb l=>hP b (.tail _ (q2 b l))) (λuu=>hab') (λh=>by cases h) λy' q hy hq=>⟨λht b cs e hm=>by
       refine bp (K.top y' q hq ht) λb' cs' e' _ _ h4=>?_
       rw[e] at e'; cases e'
       exact h4 x _ (QA hy) hx (by rw[hfp]; exact .tail _ (q2 b hm)),λhd b l hm=>((K.deep y' q hq hd).1 b l).2 x _ (QA hy) hx (by rw[hfp]; exact .tail _ (q2 b hm))⟩
      exact hN _ vals _ (y.stp.same hs hZ λo e=>by rw[y.k.get ea rfl] at e; (have oc:=vj e; clear e; subst oc); exact Stay.not_list) K' (.one (λuu uu=>rfl) (λz q h=>⟨q,h⟩) λb l hz=>(PC.mp l).elim (λq=>Pq hz (q▸hZ)) λl=>(aC x _ hx (by rw[hfp]; exact .tail _ (q2 b l))))
    rw[aK oi] at fin ⊢
    exact Calls.callWith_builtin rfl (Calls.evalArgs_plain (QI fin (λvs s₁ ha=>ha) λuu uu e=>e))
 ·cases v
theorem SOK.dict (K:SOK fns k h0 P Z A env h σ vals fp) (hx:σ x=qn (v,.deep)) (hfp:fp x=[a]) :
  ¬ Z a/\(∀ y q,y≠x->σ y=qn q->a∉fp y)/\a≠env.locals/\(P a\/h0.get? a=O2):=by
 refine ae (K.deep x _ hx rfl) λj _=>?_
 refine ae (K.val x _ hx) λuu g=>?_
 refine aq (g) λu _ _ l=>?_
 clear g
 have i:a∈fp x:=by rw[hfp]; exact .head _
 exact ⟨(j a i).1,(j a i).2,l a i⟩
theorem rI (ks:rg O3) (i:O3):stored (ks.map λk=>(k,Jab vk)) i (.bool vk)=(if i∈ks then ks else ks++[i]).map λk=>(k,.bool vk):=by
 unfold stored
 by_cases hi:i∈ks
 ·rw[O1 (by simpa using hi),O1 hi,VW]
  apply UL
  intro a _
  simp only[Y2]
  split<;>rfl
 ·rw[OY (by simpa using hi),OY hi,SJ]
  rfl
theorem qA (ho:h.get? a=qn o) (hd:o.data = .dict es ep) (hs:Qg a h h') (r:R h (.ref a') (aO t) []) (hx:∀ x∈xs,R h (.ref x.2.1) (aO x.1) []):∀ x∈storedH xs t a' v,R h' (.ref x.2.1) (aO x.1) []:=by
 have off:∀ {v:Lt}{d:Pk},R h v d []->R h' v d []:=λr=>r.off (wr:=[a]) (λb g l e=>.inl λk n q=>by rw[O7.mp g,ho] at e; (have i:=vj e; clear e; subst i); rw[hd] at q; cases q) λb o g e=>hs.extBut b o (λq=>g (by simp[q])) e
 intro x j
 rcases mem_storedH j with ⟨y,hy,e1,e2⟩ | ⟨e1,e2⟩
 ·rw[e1,e2]; exact off (hx y hy)
 ·rw[e1,e2]; exact off r
theorem ke (xs:rg (rg O3×Pz×Lt)) (t:rg O3) (a:Pz) (v:Lt):(storedH xs t a v).map (·.1)=if t∈xs.map (·.1) then xs.map (·.1) else xs.map (·.1)++[t]:=by
 unfold storedH
 rw[j7]
 by_cases hi:t∈xs.map (·.1)
 ·rw[O1 (by simpa using hi),O1 hi,VW]
  apply UL
  intro y _
  simp only[Y2,putAt]
  split<;>rfl
 ·rw[OY (by simpa using hi),OY hi,SJ]
  rfl
theorem l6:∀ {xs:rg Pk}{ns:rg O3},aM xs=qn ns->ns.length=xs.length
 | [],ns,h=>by simp[aM] at h; subst h; rfl
 | y::xs,ns,h=>by
  cases y<;>simp only[aM] at h<;>try (cases h)
  refine bI h λi e g=>?_
  (clear h; subst g)
  rw[PR,PR,l6 e]
theorem qX (h:eV x=qn t) (z:sz x=vk):t.length<=2^22:=by
 cases x<;>simp only[eV] at h<;>try (cases h)
 rw[l6 h]
 exact (sz_tuple.mp z).1
set_option tactic.hygienic true in
theorem pT (S:SimE fns k C XP e):dP fns k C (.setitem x e):=by
 intro stmt h0 P Z A env σ vals fp s Q Er σ' fl ok K he hN hR
 replace ok:=uk ok
 revert ok; refine λNZ=>PG NZ (λND=>?_) (λok=>?_)
 ·clear NZ
  refine kQ (ND) λt pt ix ps c1 c2 spos ON ok=>?_
  clear ND
  subst ON
  simp only[O9,Pv] at ok
  refine ae (ok) λNp oe=>?_
  clear ok
  refine ae (Np) λNl hb=>?_
  clear Np
  subst Nl
  refine io hb λh1 h2 h3=>?_
  simp only[db] at he
  replace he:=kY he
  refine Out.bind_k he λr hr g=>?_
  clear he
  obtain ⟨ri,mi⟩:=r
  refine a0 g λkd m hA=>?_
  clear g
  refine a0 hA λp hx g=>?_
  clear hA
  obtain ⟨v,mx⟩:=p
  dsimp only at m g
  cases bK m
  clear m
  by_cases hmx:mx = .deep
  ·rw[O1 hmx] at g
   subst hmx
   refine wpAny_Assign_Subscript (Wz ?_)
   refine ae (K.val x _ hx) λuu NL=>?_
   refine aq (NL) λu hv hrv _=>?_
   clear NL
   dsimp only at hrv
   refine dj K.eok.kind h2 (K.loc.var K.eok hv) (K.eval S oe hr λvk s₂ E=>?_)
   obtain ⟨kk,is,Nq,_⟩:=E
   refine ae (Nq) λrk zk=>?_
   clear Nq
   have K₂:=K.onK kk.k
   have l:=hrv.k kk.k
   have fin:∀ {a:Pz}{o:Obj}{v':V}{h':P9}{tk':Pa},u = .ref a->fp x=[a]->s₂.heap.get? a=qn o->o.ExactDict->(∃ es ep,o.data = .dict es ep)->Qg a s₂.heap h'->RV h' (.ref a) v' [a]->(Out.ok (upd σ x (v',.deep),Flw.next):Out (St×Flw)) = .ok (σ',fl)->Q .next {s₂ with heap:=h',toks:=tk' }:=λ{a} {o} {v'} {h'} {tk'} hu hfp ho hox j hs rv he=>by
    (clear hrv l; subst hu)
    refine dI (K.dict hx hfp) λd1 d2 d3 d4=>?_
    have hoc:o.cls≠.type "tuple" := λq=>by
     rw[hox.1] at q; simp at q
    have hod:∀ v,o.data≠.cell v:=λv q=>by
     refine bi (j) λes ep e=>?_
     clear j
     rw[e] at q; cases q
    have K':=K₂.write (m':=.deep) (bs':=[]) hx hv ho hoc (j.elim λes j=>j.elim λep j=>Stay.not_dict j) hod d1 d2 ⟨d3,d4⟩ hs rv (λuu h=>(nomatch h)) (λuu h=>(nomatch h)) (λuu=>⟨λuu h=>(nomatch h),by simp⟩) λy q hy hq=>⟨λuu uu uu uu h=>(nomatch h),λuu uu uu h=>(nomatch h)⟩
    exact mu he hN _ vals _ (kk.stp.same hs d1 λo' e=>by rw[ho] at e; (have oc:=vj e; clear e; subst oc); exact j.elim λes j=>j.elim λep j=>Stay.not_dict j) K' (.one (λuu uu=>rfl) (λz q h=>⟨q,h⟩) λb hb hz=>Pq hz (O7.mp hb▸d1))
   cases v with
   | dic0=>
    refine kL (l) λa Nt hfp hsm hdI hdT=>?_
    clear l
    (clear hrv hv; subst Nt)
    simp only[iD] at g
    split at g
    ·rename_i i hi
     (have oc:=cJ hi; (clear hr zk; subst oc))
     refine R.isInt_k rk λti oqi _=>?_
     (clear rk; subst oqi)
     have m:=hdI
     refine fF (m) λo es ep ho hox j _=>?_
     clear m
     refine WF (VP prog w _ _) hdI (λh' hm' hs=>fin (v':=.dicI [_]) rfl hfp ho hox (bN _ _ j) hs (bD a rfl rfl hsm ?_) g) (by simp[RC])
     simpa [stored] using hm'
    ·split at g
     ·rename_i t ht
      refine af (fI rk ht) λa' Nv hk=>?_
      subst Nv
      have m:=hdT
      refine fF (m) λo es ep ho hox j _=>?_
      clear m
      refine WX (TO (rm1 K.room.2.2)) hk hdT (λh' hm' hs=>fin (v':=.dicT [_]) rfl hfp ho hox (bN _ _ j) hs (ic a _ rfl rfl hsm hm' ?_ ?_ ?_) g) (by simp[RC])
      ·rw[ke]; simp
      ·intro z hz
       rw[O7.mp hz]
       exact qX ht zk
      ·exact qA ho j hs (sb rk ht) λx hx=>nomatch hx
     ·exact nB g
   | dicI ks=>
    refine bX (l) λa Ny hfp hsm hdI=>?_
    clear l
    (clear hrv hv; subst Ny)
    simp only[iD] at g
    split at g
    ·rename_i i hi
     split at g
     ·rename_i n
      (have oc:=cJ hi; (clear hr zk; subst oc))
      refine R.isInt_k rk λti oqi _=>?_
      (clear rk; subst oqi)
      have m:=hdI
      refine fF (m) λo es ep ho hox j _=>?_
      clear m
      refine WF (VP prog w _ _) hdI (λh' hm' hs=>fin (v':=.dicI _) rfl hfp ho hox (bN _ _ j) hs (bD a rfl rfl hsm ?_) g) (by rw[Pi]; unfold lim at n; unfold RC; exact Aq n)
      rw[rI] at hm'
      exact hm'
     ·exact nB g
    ·exact nB g
   | dicT ks=>
    refine tQ (l) λa xs Nz hfp hsm hdT NA hks htu=>?_
    clear l
    (clear hrv hv; subst Nz)
    subst NA
    simp only[iD] at g
    split at g
    ·rename_i t ht
     split at g
     ·rename_i n
      refine af (fI rk ht) λa' NC hk=>?_
      subst NC
      have m:=hdT
      refine fF (m) λo es ep ho hox j _=>?_
      clear m
      refine WX (TO (rm1 K.room.2.2)) hk hdT (λh' hm' hs=>fin (v':=.dicT _) rfl hfp ho hox (bN _ _ j) hs (ic a _ rfl rfl hsm hm' ?_ ?_ ?_) g) (by rw[Pi] at n; unfold lim at n; unfold RC; exact Aq n)
      ·rw[ke]
      ·intro z hz
       split at hz
       ·exact hks z hz
       ·rcases Pu.mp hz with h | h
        ·exact hks z h
        ·rw[O7.mp h]; exact qX ht zk
      ·exact qA ho j hs (sb rk ht) htu
     ·exact nB g
    ·exact nB g
   | _=>simp only[iD] at g; exact nB g
  ·rw[OY hmx] at g; exact nB g
 ·cases ok
end
section
end
section
theorem SOK.lv (hf:fns.hand=OZ) (K:SOK fns k h0 P Z A env h σ vals fp):Lv A env h:=by
 refine bX (K.out hf) λl x v p u=>?_
 refine (aG l x (λj g=>?_) p)
 rcases PC.mp g with rfl | g
 ·refine af (K.loc.ns) λm i _=>?_
  refine bj (i) λo y z e r _=>?_
  clear i
  refine af (K.loc.cls) λo' n t=>?_
  rw[e] at n; (have q:=vj n; clear n; subst q)
  exact (aE K.eok.kind (kX _ o y z p u e t r))
 ·exact v.k K.kp0 j g
theorem SOK.zd (K:SOK fns k h0 P Z A env h σ vals fp) (b:Pz) (hb:Z b):dom h b:=K.zdom b hb
theorem SOK.evalX (hf:fns.hand=OZ) (K:SOK fns k h0 P Z A env s.heap σ vals fp) (S:SimE fns k C XPc e) (ok:okE env.scope.names e exx=vk) (he:ev C e σ = .exc c)
  (hE:∀ x s',Stp Z s s'->Lv A env s'.heap->Exc Z s'.heap c env.locals x->Er x s'):Ph (Pn prog w) A (WV exx env) Q Er s:=by
 have g:ev C e (cL σ (fv e)) = .exc c:=by rw[aD C e _ σ (cj σ (fv e))]; exact he
 refine S ok (K.cx (fv e)) (by rw[g]; simp) (λr h=>by rw[g] at h; cases h) λj i x s' X=>?_
 rw[g] at i; cases i
 exact hE x s' X.1.stp ((K.onK X.1.k).lv hf) (Fly.exc (X.2.old K.zd))
theorem SOK.evalTX (hf:fns.hand=OZ) (K:SOK fns k h0 P Z A env s.heap σ vals fp) (S:SimT fns k C XPc e) (ok:okE env.scope.names e exx=vk) (he:ev C e σ = .exc c)
  (hE:∀ x s',Stp Z s s'->Lv A env s'.heap->Exc Z s'.heap c env.locals x->Er x s'):Ph (Pn prog w) A (isTrue exx env (WV exx env)) Q Er s:=by
 have g:ev C e (cL σ (fv e)) = .exc c:=by rw[aD C e _ σ (cj σ (fv e))]; exact he
 refine S ok (K.cx (fv e)) (by rw[g]; simp) (λr h=>by rw[g] at h; cases h) λj i x s' X=>?_
 rw[g] at i; cases i
 exact hE x s' X.1.stp ((K.onK X.1.k).lv hf) (Fly.exc (X.2.old K.zd))
theorem xx:NE (au v):=λc h=>by
 unfold au at h
 split at h<;>cases h
theorem yy (hf:fns.hand=OZ) (S:SimE fns k C XPc e):dQ fns k C (.ret e):=by
 intro p u P Z A r t o v s Q Er c j K l q
 replace j:=vC j
 revert j; refine λg=>PG g (λh=>?_) (λj=>?_)
 ·clear g
  refine aw (h) λn m i j=>?_
  clear h
  subst i
  simp only[je] at l
  rcases bY l with l | ⟨_,_,l⟩
  ·exact Ua (K.evalX hf S j l q)
  ·cases l
 ·cases j
theorem uQ (hf:fns.hand=OZ) (S:SimE fns k C XPc e):dQ fns k C (.expr e):=by
 intro u z P Z A r y t fp s Q Er c j K l x
 replace j:=nq j
 revert j; refine λg=>PG g (λh=>?_) (λj=>?_)
 ·clear g
  refine jH (h) λq p o n m i j=>?_
  clear h
  subst i
  simp only[dz] at l
  have v:Tc r=false:=by unfold Tc; rw[K.eok.kind]; rfl
  rcases bY l with l | ⟨_,_,l⟩
  ·exact Td (K.evalX hf S j l x) v
  ·cases l
 ·cases j
theorem qZ (hf:fns.hand=OZ) (S:SimE fns k C XPc e):dQ fns k C (.assign x e):=by
 intro u h0 P Z A env σ t fp s Q Er c g K j z
 replace g:=kl g
 revert g; refine λh=>PG h (λi=>?_) (λg=>?_)
 ·clear h
  refine cS (i) λq p o n l g=>?_
  clear i
  subst l
  simp only[O9,Pv] at g
  refine ae (g) λm v=>?_
  clear g
  refine ae (m) λr hb=>?_
  clear m
  subst r
  simp only[bt] at j
  rcases bY j with j | ⟨_,_,j⟩
  ·refine ae (sq j) λj y=>?_
   exact Vi (K.evalX hf S v j z) (iz (km y v) _ _ _)
  ·cases j
 ·cases g
theorem yj (hf:fns.hand=OZ) (T:SimT fns k C XPc c) (Xa:dY fns k C a) (Xb:dY fns k C b):dQ fns k C (.ite c a b):=by
 intro stmt h0 P Z A env σ z fp s Q Er c' h K g y
 replace h:=vx h
 revert h; refine λi=>PG i (λj=>?_) (λh=>?_)
 ·clear i
  refine cS (j) λp o n m l h=>?_
  clear j
  subst l
  simp only[O9] at h
  simp only[eB] at g
  rcases bY g with g | ⟨r,hr,g⟩
  ·exact Z0 (K.evalTX hf T h.1.1 g y)
  ·rcases bY g with g | ⟨t,ht,g⟩
   ·exact Pq g (xx c')
   ·refine Z0 (K.evalT T h.1.1 (b:=t) (by rw[hr]; exact ht) λs₁ v=>?_)
    have K₁:=K.onK v.k
    cases t with
    | true=>
     rw[O1 rfl] at g ⊢
     exact Xa h.1.2 K₁ g λx u q=>y x u (v.stp.trans q)
    | false=>
     simp only[PK,Ql] at g ⊢
     exact Xb h.2 K₁ g λx u q=>y x u (v.stp.trans q)
 ·cases h
theorem tj {st:S}{r:Ss}(S:dP fns k C st) (X:dQ fns k C st) (Xr:dY fns k C r):dY fns k C (.cons st r):=by
 intro p h0 P Z A env σ y fp s Q Er c g K j z
 replace g:=sv g
 revert g; refine λh=>PG h (λi=>?_) (λg=>?_)
 ·clear h
  refine aw (i) λn m l g=>?_
  clear i
  subst l
  simp only[O9] at g
  simp only[bf] at j
  rcases bY j with j | ⟨⟨σa,fla⟩,h1,j⟩
  ·exact Rs (X g.1 K j z)
  ·dsimp only at j
   cases fla with
   | ret v=>cases j
   | next=>
    refine Rs (S g.1 K h1 (λuu s' o fp' st K' F=>?_) λq e=>by cases e)
    exact Xr g.2 K' j λx u t=>z x u (st.trans t)
 ·cases g
theorem vU:dY fns k C .nil:=by
 intro g o P Z A j l h p s Q Er c m K i n
 simp only[cq] at i
 cases i
theorem t0 (hf:fns.hand=OZ) (hC:cU fns k C XPc):dQ fns k C (.raise c):=by
 intro x h0 P Z A env σ v fp s Q Er c' h K l hE
 replace h:=yq h
 revert h; refine λi=>PG i (λj=>?_) (λh=>?_)
 ·clear i
  refine kQ (j) λr np t kk p2 cp pos m h=>?_
  clear j
  subst m
  simp only[O9,Pv,PM] at h
  refine ae (h) λp hl=>?_
  clear h
  refine ae (p) λn hd=>?_
  clear p
  refine ae (n) λu hg=>?_
  clear n
  subst u
  simp only[dk] at l
  cases hc:C c with
  | none=>rw[hc] at l; cases l
  | some g=>
   rw[hc] at l
   simp only[am] at l
   split at l
   ·rename_i hn
    cases l
    have z:=(hC c g hc).2.2.1 hn
    have ge:=K.ge.k K.kp0
    refine aq (ge.exc) λmg g1 g2 _=>?_
    refine ae (g2 c z) λgm xd=>?_
    refine xd.use @λN nm q bs hdct sn sub ab col dd k0 k1 k2 k3 k5 mN e1 e2 e3 e4=>?_
    refine wpAny_Raise_call_subT (C:=SF.exc c) (nm:=nm) (q:=q) (N:=N) (bs:=bs) (bm:=dN c) (hdct:=hdct) (sn:=sn) (sub:=sub) (ab:=ab) (col:=col) (dd:=dd) (k0:=k0) (k1:=k1) (k2:=k2) (k3:=k3) (k5:=k5)
     Tf (mN:=mN) (e4.hasType Tf.hasBase) (K.room.1 hf) rfl e3 (Calls.Name_function_global K.eok.kind (fc hg) (Calls.loadGlobal_global (K.eok.glob▸g1) gm ⟨rfl,?_⟩) (nd hd))
    refine Calls.evalArgs_plain (Rp (WN (TJ (mt rfl (by show 1<=RC; rw[Qv]; exact Ej) e1 e2 e4 (λh' e Mk=>?_)))) rfl)
    refine aq (Mk.there) λtt m1 m2 m3=>?_
    have y:Kp s {s with heap:=h',toks:=s.toks+1 }:=.of Mk.keeps
    refine hE _ _ y.stp ((K.onK y.k).lv hf) (aP e _ rfl (cy (λq=>(by obtain ⟨o,eo⟩:=K.zdom e q; rw[Mk.new] at eo; cases eo)) z (aG _ m1 rfl rfl)) (.inl rfl))
   ·cases l
 ·cases h
theorem xM (h:am o f = .exc c):∃ a,f a = .exc c:=by
 cases o with
 | some a=>exact ⟨a,h⟩
 | none=>cases h
theorem dM {α β:Type}{o:O4 α}{f:α->Out β}{c:OX}{G:Prop}(h:am o f = .exc c) (k:∀ a,f a = .exc c->G):G:=ak (xM h) k
theorem fh {st:S}(h:∀ σ c,ex C st σ≠.exc c):dQ fns k C st:=by
 intro i o P Z A l σ g p s Q Er c m K j n
 exact Pq j (h σ c)
theorem qb:dQ fns k C (.setitem x e):=fh λg c h=>by rw[db] at h; exact NE.calm c h
theorem rp:dQ fns k C (.append x e):=fh λg c h=>by rw[eL] at h; exact NE.calm c h
theorem rJ:dQ fns k C (.insert x i e):=fh λg c h=>by rw[jv] at h; exact NE.calm c h
theorem yi:dQ fns k C (.pop x i):=fh λg c h=>by rw[nr] at h; exact NE.calm c h
theorem vB:dQ fns k C (.retn x):=fh λg c h=>by
 simp only[ls] at h
 split at h<;>cases h
theorem xX:dQ fns k C .bad:=fh λg c h=>by simp only[B6] at h; cases h
end
section
end
section
variable {M:Vz}{A:PU}{E:Lt->O0->Prop}{g:Pf YI}{dr:Drawn}{tk:Pa}{os:Zu}
theorem rF
  (hC:h.get? C=qn (Wl nm q C N bs bm hdct sn sub ab col dd k0 k1 k2 k3 k5 ni)) (hD:h.get? D=qn (Wl nm' q' D N' bs' bm' hdct' sn' sub' ab' col' dd' j0 j1 j2 j3 j5 ni')) (he:h.get? e=qn oe) (hcls:oe.cls = .ref C) (hbase:bm'.contains (.type "BaseException")=vk)
  (hq:Q ((Rq C::bm).contains (.ref D)) ⟨h,g,dr,tk,os⟩):Ph M A (excMatches (.ref e) (.ref D)) Q E ⟨h,g,dr,tk,os⟩:=by
 have i:(Rq D::bm').contains (.type "BaseException")=true:=by rw[U3,hbase,Bool.or_true]
 have f:=tc_notTuple
 unfold excMatches
 repeat (first | (with_reducible refine Vh he ?_; rw[hcls]) | with_reducible refine Vh hD ?_ | (with_reducible refine WG hD ?_; rw[i]) | with_reducible refine WG hC ?_ | wp_step)
 cases hb:(Rq C::bm).contains (.ref D)<;>(rw[hb] at hq; wp_walk; exact hq)
end
section
noncomputable def Lx (fns:Fns) (k:Pa) (C:Calls) (st:S):Prop:=∀ {stmt:SX}{h0:P9}{P Z:Pz->Prop}{A:PU}{env:Env}{σ:St}{vals:OX->O4 Lt}{fp:OX->rg Pz}{s:O0}{Q:Flow->O0->Prop}{Er:Lt->O0->Prop}{c:OX},
 okS env.scope.names st stmt=vk->SOK fns k h0 P Z A env s.heap σ vals fp->ex C st σ = .exc c->(∀ x s',XPc c s x s'->Er x s')->Ph (Pn prog w) A (exec stmt env) Q Er s
theorem SOK.evalK (K:SOK fns k h0 P Z A env s.heap σ vals fp) (S:SimE fns k C XPc e) (ok:okE env.scope.names e exx=vk) (he:ev C e σ = .exc c)
  (hE:∀ x s',XPc c s x s'->Er x s'):Ph (Pn prog w) A (WV exx env) Q Er s:=by
 have g:ev C e (cL σ (fv e)) = .exc c:=by rw[aD C e _ σ (cj σ (fv e))]; exact he
 refine S ok (K.cx (fv e)) (by rw[g]; simp) (λr h=>by rw[g] at h; cases h) λj i x s' X=>?_
 rw[g] at i; cases i
 exact hE x s' X
theorem xF (hb:w2 b=vk) (Se:∀ e,b = .expr e->SimE fns k C XPc e) (Sa:∀ x e,b = .assign x e->SimE fns k C XPc e):Lx fns k C b:=by
 intro stmt h0 P Z A env σ vals fp s Q Er c g K h hE
 cases b with
 | expr e=>
  replace g:=nq g
  revert g; refine λj=>PG j (λm=>?_) (λg=>?_)
  ·clear j
   refine jH (m) λN3 Ok z y v o g=>?_
   clear m
   subst o
   simp only[dz] at h
   have hi:Tc env=false:=by unfold Tc; rw[K.eok.kind]; rfl
   rcases bY h with h | ⟨_,_,h⟩
   ·exact Td (K.evalK (Se e rfl) g h hE) hi
   ·cases h
  ·cases g
 | assign x e=>
  replace g:=kl g
  revert g; refine λi=>PG i (λl=>?_) (λg=>?_)
  ·clear i
   refine cS (l) λu t r q n g=>?_
   clear l
   subst n
   simp only[O9,Pv] at g
   refine ae (g) λp oe=>?_
   clear g
   refine ae (p) λNm hb=>?_
   clear p
   subst Nm
   simp only[bt] at h
   rcases bY h with h | ⟨_,_,h⟩
   ·refine ae (sq h) λh hc=>?_
    exact Vi (K.evalK (Sa x e rfl) oe h hE) (iz (km hc oe) _ _ _)
   ·cases h
  ·cases g
 | _=>exact nF hb
theorem yg (inj:∀ c∈SF.excN,∀ c' ∈ "PickError" :: SF.excN,SF.exc c=SF.exc c'->c=c') (hc:c∈SF.excN) (hd:d∈SF.excN):(Rq (SF.exc c)::dN c).contains (.ref (SF.exc d))=decide (d=c\/d = "PickError"):=by
 have g:bmV.contains (.ref (SF.exc d))=false:=by unfold bmV; simp
 by_cases h1:d=c
 ·(clear hc; subst h1); simp
 ·have h:SF.exc d≠SF.exc c:=λq=>h1 (inj d hd c (.tail _ hc) q)
  rw[U3]
  have i:(Rq (SF.exc d)==Rq (SF.exc c))=false:=by simpa using h
  rw[i,Bool.false_or]
  unfold dN
  by_cases h2:d = "PickError"
  ·(clear i g hd h; subst h2)
   have:c ≠ "PickError" := λq=>h1 q.symm
   rw[OY this]
   simp
  ·have j:SF.exc d≠SF.exc "PickError" := λq=>h2 (inj d hd _ (.head _) q)
   have:decide (d=c\/d = "PickError")=false:=by simp[h1,h2]
   rw[this]
   split
   ·exact g
   ·rw[U3,g,YW]
    simpa using j
theorem vE (hf:fns.hand=OZ) (hC:cU fns k C XPc) (K₀:SOK fns k h0 P Z A env s.heap σ vals fp):∀ (hs:rg (OX×O3)) (ds:rg Sd) {h:P9}{tk:Pa},tv env.scope.names hs ds=vk ->
  K s.heap h->FlyA (dom s.heap) h c .none x->FrOk h l->lL C c hs σ = .ok (σ',fl) ->
  (∀ r,fl = .ret r->∀ v s',Stp Z s s'->nw h0 P r v s'->Q (.ret v) s') ->
  Ph (Pn prog w) A (handleBy x env ds) Q Er {s with heap:=h,toks:=tk }
 | [],ds,h,tk,ok,kk,fly,fr,g,hR=>by exact nB g
 | p::r,[],h,tk,ok,kk,fly,fr,g,hR=>by exact nF ok
 | p::r,d::ds,h,tk,ok,kk,fly,fr,g,hR=>by
  refine dU ok λo1 o2=>?_
  refine aj o1 λq e1 o1=>?_
  refine aj o1 λn e2 o1=>?_
  simp only[O9,Pv] at o1
  refine ae (o1) λNr ob=>?_
  clear o1
  refine ae (Nr) λNn hd=>?_
  clear Nr
  refine ae (Nn) λhn hg=>?_
  clear Nn
  refine ak (xS e1) λpos e3=>?_
  rw[e3,bn e2,hn]
  refine a0 (show am (C p.1) (λuu=>if p.1∈aQ then (if p.1=c\/p.1 = "PickError" then .ok (σ,.ret (sI p.2)) else lL C c r σ) else .bad)=_ from g) λgC hgC g=>?_
  by_cases hne:p.1∈aQ
  rotate_left
  ·rw[OY hne] at g; exact nB g
  rw[O1 hne] at g
  have hdN:=(hC p.1 gC hgC).2.2.1 hne
  have ge:=K₀.ge.k (KG.trans K₀.kp0 kk)
  refine aq (ge.exc) λmg g1 g2 g3=>?_
  refine ae (g2 p.1 hdN) λgm xd=>?_
  refine xd.use λd1 d2 d3 d4=>?_
  clear xd
  have m:=fly
  refine ay (fly) λe vs No Nu _=>?_
  clear fly
  subst No
  refine aI (Nu) λne cn i=>?_
  clear Nu
  refine aq (i) λoe ee hc hdt=>?_
  clear i
  refine (g2 c cn).2.use λc1 c2 c3 c4=>?_
  refine wpAny_handleBy_cons (codeAny_handlers_test (Calls.Name_function_global K₀.eok.kind (fc hg) (Calls.loadGlobal_global (K₀.eok.glob▸g1) gm ?_) (nd hd))) (by intro q; cases q)
  refine rF c1 d1 ee hc (d4.hasType Tf.hasBase) ?_
  rw[yg g3 cn hdN]
  by_cases hm:p.1=c\/p.1 = "PickError"
  ·rw[O1 hm] at g
   rw[Qc hm]
   refine codeAny_handlers_suite (mT (l:=l) fr m λj fd kd F₄=>?_)
   have k04:K s.heap j:=Internal.K.step kk kd λb o e=>⟨o,e⟩
   have y:∀ t,Stp Z s {s with heap:=j,toks:=t }:=λt=>(aC j t rfl (k04.mono λuu uu=>trivial))
   refine aj ob λs1 e4 ob=>?_
   refine aj ob λu e5 ob=>?_
   refine aj ob λv e6 ob=>?_
   rw[bh e4,lJ e5,e6]
   refine Rs (Ua ?_)
   refine PG (zM ob) (λorq=>?_) (λq=>q.elim)
   refine bC (orq) λa1 a2 a3 z oki=>?_
   clear orq
   subst z
   have:=Pv.mp oki
   subst this
   exact WM (z6 g hR _ _ (y _) (bD ([]) ⟨.int _ _,rfl⟩ (λ_ h=>nomatch h) (λq=>nomatch q) (λ_=>⟨λ_ h=>(nomatch h),.nil⟩)))
  ·rw[OY hm] at g
   rw[Qe hm]
   exact vE hf hC K₀ r ds o2 kk m fr g hR
theorem Bc (h:orH C b hs σ o = .ok r):o = .ok r\/∃ c,o = .exc c/\w2 b=vk/\lL C c hs σ = .ok r:=by
 cases o with
 | ok a=>exact .inl h
 | exc c=>
  simp only[orH] at h
  split at h
  ·rename_i q; exact .inr (aG c rfl q h)
  ·exact nB h
 | bad=>exact nB h
theorem yG (hf:fns.hand=OZ) (hC:cU fns k C XPc) (Sb:dP fns k C b) (Se:∀ e,b = .expr e->SimE fns k C XPc e) (Sa:∀ x e,b = .assign x e->SimE fns k C XPc e):dP fns k C (.tryS b hs):=by
 intro stmt h0 P Z A env σ vals fp s Q Er σ' fl ok K i hN hR
 refine tB (Dw ok) λt d ds p Nx ob oh=>?_
 (clear ok; subst Nx)
 simp only[lH] at i
 refine wpAny_Try_except (Rs ?_)
 rcases Bc i with i | ⟨c,i,h1,h2⟩
 ·refine Sb ob K i (λe s' h fp' st K' F=>?_) λr e v s' st R=>hR r e v s' st R
  exact TL (TL (hN e s' h fp' st K' F))
 ·refine xF h1 Se Sa ob K i λx s₁ X=>?_
  refine ae (X) λj fly=>?_
  clear X
  refine aw (j) λq z Nl g=>?_
  clear j
  subst Nl
  refine aq ((K.onK g).lv hf) λl l1 l2 l3=>?_
  have hN':∀ b,dom s.heap b->∃ o,q.get? b=qn o:=λb ⟨o,e⟩=>af (g b o (.inl trivial) e) λo' e' uu=>⟨o',e'⟩
  refine y5 hN' l1 l2 l3 (Fly.exc fly) λhb y n F₂=>mT F₂ y λhc u m F₃=>?_
  exact vE hf hC K hs (d::ds) oh (Internal.K.step (Internal.K.step g n λb o e=>⟨o,e⟩) m λb o e=>⟨o,e⟩) u F₃ h2 hR
theorem sr:∀ (hs:rg (OX×O3)) (σ:St),lL C c hs σ≠.exc c'
 | [],σ,h=>by cases h
 | p::r,σ,h=>by
  unfold lL at h
  refine dM h λuu h=>?_
  split at h
  ·split at h
   ·cases h
   ·exact sr r σ h
  ·cases h
theorem wT:dQ fns k C (.tryS b hs):=fh λg c h=>by
 simp only[lH] at h
 cases o:ex C b g with
 | ok a=>rw[o] at h; cases h
 | exc c=>
  rw[o] at h
  simp only[orH] at h
  split at h
  ·exact sr _ _ h
  ·cases h
 | bad=>rw[o] at h; cases h
end
section
theorem RV.fields {h h':P9}{wr:rg Pz}{v:Lt}{x:V}{as:rg Pz}(r:RV h v x as) (hw:∀ b∈wr,∃ o,h.get? b=qn o/\(∀ C,o.cls≠.ref C)/\∃ fs,o.data = .fields fs) (kp:∀ b o,b∉wr->h.get? b=qn o->h'.get? b=qn o):RV h' v x as:=by
 have j:∀ b o,h.get? b=qn o->(∀ fs,o.data≠.fields fs)->b∉wr:=λb o e z hm=>by
  refine aq (hw b hm) λi g _ p=>?_
  refine ak (p) λfs q=>?_
  clear p
  rw[e] at g; (have oc:=vj g; clear g; subst oc)
  exact z fs q
 have key:∀ ks b,S5 (R4 prog w) h ks b->S5 (R4 prog w) h' ks b:=λks b hk=>by
  refine bj (hk) λi it n a1 a2 a3=>?_
  clear hk
  exact (c9 i it n (kp b i (j b i a1 λfs q=>by rw[a3.1] at q; cases q) a1) a2 a3)
 cases x with
 | d x=>exact ⟨r.1.off (wr:=wr) (λb hb o e=>.inl λvs n q=>by
   refine aq (hw b hb) λi g _ m=>?_
   refine ak (m) λfs q'=>?_
   clear m
   rw[e] at g; (have oc:=vj g; clear g; subst oc)
   rw[q] at q'; cases q') kp,r.2⟩
 | dic0=>
  refine kL (r) λb h1 h2 h3 Nw Nm=>?_
  clear r
  refine fF (Nw) λo es ep e hx z hr=>?_
  clear Nw
  refine cQ (Nm) λi es' ep' g h4 h5 h6 h7 h8=>?_
  clear Nm
  exact (jz b h1 h2 h3 (ip o es ep (kp b o (j b o e λfs q=>by rw[z] at q; cases q) e) hx z hr) (gd i es' ep' (kp b i (j b i g λfs q=>by rw[h5] at q; cases q) g) h4 h5 h6 (λy hy=>key _ _ (h7 y hy)) h8))
 | dicI ks=>
  refine bX (r) λb h1 h2 h3 Nr=>?_
  clear r
  refine fF (Nr) λo es ep e hx z hr=>?_
  clear Nr
  exact (bD b h1 h2 h3 (ip o es ep (kp b o (j b o e λfs q=>by rw[z] at q; cases q) e) hx z hr))
 | dicT ks=>
  refine mh (r) λb xs h1 h2 h3 Nn h9=>?_
  clear r
  refine cQ (Nn) λi es' ep' g h4 h5 h6 h7 h8=>?_
  clear Nn
  exact (ic b xs h1 h2 h3 (gd i es' ep' (kp b i (j b i g λfs q=>by rw[h5] at q; cases q) g) h4 h5 h6 (λy hy=>key _ _ (h7 y hy)) h8) h9.1 h9.2.1 (λx hx=>(h9.2.2 x hx).off (wr:=wr) (λb hb o e=>.inl λvs n q=>by
   refine aq (hw b hb) λi g _ l=>?_
   refine ak (l) λfs q'=>?_
   clear l
   rw[e] at g; (have oc:=vj g; clear g; subst oc)
   rw[q] at q'; cases q') kp))
 | rule c d n=>
  refine jM (r) λx D o vf bs t u mA h1 h2 h3 h4 h5 h6 h7 No h9 h10 h11 h12 h13 h14=>?_
  clear r
  refine bC (No) λoD es ep e z=>?_
  clear No
  have nx:x∉wr:=λhm=>by
   refine aq (hw x hm) λi g hn _=>?_
   rw[h3] at g; (have oc:=vj g; clear g; subst oc)
   exact hn _ h4
  have nD:D∉wr:=j D oD e λfs q=>by rw[z.1] at q; cases q
  exact (jX x D o vf bs t u mA h1 h2 (kp x o nx h3) h4 h5 h6 h7 (cB oD es ep (kp D oD nD e) z) h9 h10 h11 h12 (h13.off (wr:=wr) (λb hb o e=>.inl λvs n q=>by
   refine aq (hw b hb) λi g _ k=>?_
   refine ak (k) λfs q'=>?_
   clear k
   rw[e] at g; (have oc:=vj g; clear g; subst oc)
   rw[q] at q'; cases q') kp) h14)
theorem SOK.iter {h h':P9}{wr:rg Pz}(K:SOK fns k h0 P Z A env h σ vals fp) (hw:∀ b∈wr,∃ o,h.get? b=qn o/\(∀ C,o.cls≠.ref C)/\∃ fs,o.data = .fields fs) (hw':∀ b∈wr,Z b->∃ o,h'.get? b=qn o) (hw0:∀ b∈wr,h0.get? b=O2) (hns:∀ b∈wr,∀ o,h.get? b=qn o->¬ Stay o) (kp:∀ b o,b∉wr->h.get? b=qn o->h'.get? b=qn o):SOK fns k h0 P Z A env h' σ vals fp:=by
 have out:∀ b o,h.get? b=qn o->(∀ fs,o.data≠.fields fs)->b∉wr:=λb o e y u=>by
  refine aq (hw b u) λo' t _ j=>?_
  refine ak (j) λfs q=>?_
  clear j
  rw[e] at t; (have oc:=vj t; clear t; subst oc)
  exact y fs q
 refine ⟨K.room,K.eok,K.ge,K.z0,Internal.K.step K.kp0 (KG.ofW kp hns) (λb o e u=>by rw[hw0 b u] at e; cases e),K.code,K.out,λb hb=>?_,⟨(let ⟨m,⟨o',es,ep,t,y,_⟩,_⟩:=K.loc.ns; af (K.loc.cls) λo e c=>(ah o (kp _ o (out _ o e λfs q=>by rw[e] at t; (have oc:=vj t; clear t; subst oc); rw[y] at q; cases q) e) c)),?_,K.loc.nz,λn c a b=>?_,λx v c a b d=>?_,K.loc.apart,K.loc.kinds⟩,λx p hp=>?_,K.top,K.deep⟩
 ·by_cases u:b∈wr
  ·exact hw' b u hb
  ·refine ak (K.zdom b hb) λo e=>?_
   exact ⟨o,kp b o u e⟩
 ·refine af (K.loc.ns) λm z hv=>?_
  refine bj (z) λo es ep e y hr=>?_
  clear z
  exact (ah m (c9 o es ep (kp _ o (out _ o e λfs q=>by rw[y] at q; cases q) e) y hr) hv)
 ·refine aI (K.loc.cell n c a b) λh1 h2 i=>?_
  refine aw (i) λv o r l=>?_
  clear i
  exact (cy h1 h2 (aC v o (kp c o (out c o r λfs q=>by rw[l] at q; cases q) r) l))
 ·refine af (K.loc.cval x v c a b d) λo r l=>?_
  exact (ah o (kp c o (out c o r λfs q=>by rw[l] at q; cases q) r) l)
 ·refine ae (K.val x p hp) λh1 g=>?_
  refine aq (g) λv h2 r l=>?_
  clear g
  exact (aE h1 (aG v h2 (r.fields hw kp) l))
theorem SOK.excl {s:O0}{ns:rg OX}{m:Mode}{F:rg Pz}(K:SOK fns k h0 P Z A env s.heap σ vals fp) (ha:∀ a∈F,Own σ fp ns a\/s.heap.get? a=O2) (hd:m = .deep->∀ a∈F,s.heap.get? a=O2) :
  ∀ y q,Internal.consume σ ns m y=qn q->(q.2 = .top->∀ a bs,fp y=a::bs->a∉F)/\(q.2 = .deep->∀ a∈fp y,a∉F):=by
 have nf:∀ a,s.heap.get? a=O2->∀ y q,σ y=qn q->a∉fp y:=λa e y q hq hm=>by
  refine ae (K.val y q hq) λuu OA=>?_
  refine aq (OA) λu _ hr _=>?_
  clear OA
  refine ak (hr.there a hm) λo e'=>?_
  rw[e] at e'; exact nN e'
 intro y q hq
 by_cases hdp:m = .deep
 ·have hq':σ y=qn q:=by unfold Internal.consume at hq; rwa [O1 hdp] at hq
  exact ⟨λuu a bs e hm=>nf a (hd hdp a hm) y q hq' (by rw[e]; exact .head _),λuu a ha' hm=>nf a (hd hdp a hm) y q hq' ha'⟩
 ·have hq2:Internal.demote σ ns y=qn q:=by unfold Internal.consume at hq; rwa [OY hdp] at hq
  refine fx hq2 λq' hq' e1 hc=>?_
  rcases hc with ⟨_,rfl⟩ | ⟨hn,rfl⟩
  ·refine ⟨λh=>Pq h iR,λh a ha'=>?_⟩
   refine ae (K.val y q' hq') λuu Oy=>?_
   refine aq (Oy) λu _ hr _=>?_
   clear Oy
   rw[hr.scal_nil (gD h)] at ha'
   cases ha'
  ·refine ⟨λh a bs e hm=>?_,λh a ha' hm=>?_⟩
   ·refine PG (ha a hm) (λNB=>?_) (λh1=>?_)
    ·refine ay (NB) λz p hz hp hf=>?_
     clear NB
     refine bp (K.top y q hq' h) λa' bs' e' _ _ h4=>?_
     rw[e] at e'; cases e'
     exact h4 z p (λq=>hn (q▸hz)) hp hf
    ·exact nf a h1 y q hq' (by rw[e]; exact .head _)
   ·refine PG (ha a hm) (λND=>?_) (λh1=>?_)
    ·refine ay (ND) λz p hz hp hf=>?_
     clear ND
     exact ((K.deep y q hq' h).1 a ha').2 z p (λq=>hn (q▸hz)) hp hf
    ·exact nf a h1 y q hq' ha'
noncomputable def FI (fns:Fns) (k:Pa) (C:Calls) (h0:P9) (P Z:Pz->Prop) (A:PU) (env:Env) (xs:rg OX) (B:Pk->Internal.St->O4 Internal.St) (b:Ss) (s h:O0) (ds:rg Pk) (F wr:rg Pz) (L:Pz->Prop) (St:Pa->P9->Prop) (out:Out (Internal.St×Flw)) (σo:Internal.St) (vals:OX->O4 Lt) (fp:OX->rg Pz) (n:Pa) (s':O0):Prop :=
 ∃ (j:Pa) (σj:Internal.St) (vals':OX->O4 Lt) (fp':OX->rg Pz),Stp Z s s'/\SOK fns k h0 P (λb=>Z b\/(b∈F\/b∈wr\/L b)) A env s'.heap σj vals' fp'/\St j s'.heap/\j<=ds.length/\n=ds.length+1-j /\
    cR (λy g=>am (B y g) (exs C b)) (ds.drop j) σj=out/\KG (λb=>Z b\/(b∈F\/L b)) h.heap s'.heap/\Frm (λb=>Z b\/L b) (xs++iF b) σo vals fp σj vals' fp'
noncomputable def t8 (fns:Fns) (k:Pa) (A:PU) (env:Env) (tg:Expr) (xs:rg OX) (B:Pk->Internal.St->O4 Internal.St):Prop:=∀ {h0:P9}{P Z:Pz->Prop}{s:O0}{σ σ':Internal.St}{vals:OX->O4 Lt}{fp:OX->rg Pz}{v:Lt}{d:Pk}{bs:rg Pz}{Q:UN->O0->Prop}{Er:Lt->O0->Prop},
 SOK fns k h0 P Z A env s.heap σ vals fp->R s.heap v d bs->sz d=vk->(∀ a∈bs,Z a/\a≠env.locals/\(P a\/h0.get? a=O2))->B d σ=qn σ' ->
 (∀ s' vals' fp',Stp Z s s'->SOK fns k h0 P Z A env s'.heap σ' vals' fp'->(∀ y,y∉xs->vals' y=vals y/\fp' y=fp y)->(∀ y q,σ' y=qn q->(∀ a∈fp' y,a∈bs)\/(σ y=qn q/\fp' y=fp y))->Q () s')->Ph (Pn prog w) A (Vn tg env v) Q Er s
theorem DG (h:∃ o,s.heap.get? I=qn o/\(hardB o=vk/\noIt o.cls=vk/\∀ C,o.cls≠.ref C)/\∃ fs,o.data = .fields fs) (hQ:Q () s):Ph (Pn prog w) A (V6 tg (.ref I) v) Q Er s:=by
 obtain ⟨o,e,⟨_,h,_⟩,fs,i⟩:=h
 have g:Ph (Pn prog w) A (V6 (.Tuple [] 0 SB) (.ref I) v) Q Er s:=by
  cases v with
  | ref a=>
   unfold V6
   refine Gt (WT e ?_)
   rw[i]
   cases hc:o.cls with
   | type n=>
    rw[hc] at h
    have:["enumerate", "zip", "dict_itemiterator", "dict_reverseitemiterator", "odict_iterator", "itertools.zip_longest", "itertools.pairwise"].contains n=false:=by
     unfold noIt at h
     simp at h ⊢
     exact h.2
    show Ph _ A (if (["enumerate", "zip", "dict_itemiterator", "dict_reverseitemiterator", "odict_iterator", "itertools.zip_longest", "itertools.pairwise"].contains n&&fs[0]? == qn (Q7 a))=vk then _ else _) Q Er s
    rw[this,OY (by simp)]
    exact Pb hQ
   | _=>exact Pb hQ
  | _=>exact Pb hQ
 cases tg with
 | Tuple _ _ _=>exact g
 | List _ _=>exact g
 | _=>exact Pb hQ
theorem sf {pt:Pos}(hb:bQ env.scope.names x=vk):t8 fns k A env (.Name (mL x) pt) [x] λd σ=>qn (upd σ x (mk (.d d))):=by
 intro h0 P Z s σ σ' t fp v d bs Q Er K r hz g he hQ
 cases he
 refine io hb λg1 g2 g3=>?_
 refine T2 (K.put (r:=mk (.d d)) (as:=bs) g1 g3 ⟨r,hz⟩ (λa l=>(g a l).2) (λh=>Pq h iR) (λh=>?_) (λy q u j=>⟨λht a cs e o=>?_,λp a l o=>?_⟩) λm i _ K₃=>hQ m _ _ i K₃ (λy u=>?_) λy q j=>?_)
 ·have:bs=[]:=r.sx_nil (gD h)
  (clear g r; subst this)
  exact ⟨λuu h=>(nomatch h),.nil⟩
 ·refine ay (K.top y q j ht) λa' bs' z h1 _=>?_
  rw[e] at z; cases z
  exact h1 (g a o).1
 ·exact ((K.deep y q j p).1 a l).1 (g a o).1
 ·have n:y≠x:=λq=>u (q▸.head _)
  exact ⟨OY n,OY n⟩
 ·unfold upd at j
  by_cases e:y=x
  ·exact .inl λa l=>by rw[O1 e] at l; exact l
  ·rw[OY e] at j
   exact .inr ⟨j,OY e⟩
set_option maxHeartbeats 1000000 in
theorem wj (Si:dJ fns k C XP it) (Sb:dZ fns k C b) (Xb:dY fns k C b) (L:Pz->Prop)
  (oi:fC env.scope.names it iter=vk) (ob:cM env.scope.names b body=vk) (TG:t8 fns k A env tg xs B) (K:SOK fns k h0 P Z A env s.heap σ vals fp) (e1:bw C it (cL σ (bR it)) = .ok (ds,md)) (he1:cR (λy σ=>am (B y σ) (exs C b)) ds σo=out) (hnb:out≠.bad)
  (hK:∀ h',Internal.K s.heap h'->SOK fns k h0 P Z A env h' σo vals fp) (cs:∀ y q,σo y=qn q->∃ q',σ y=qn q')
  (hex:∀ F:rg Pz,(∀ a∈F,Own σ fp (bR it) a\/s.heap.get? a=O2)->(md = .deep->∀ a∈F,s.heap.get? a=O2)->∀ y q,σo y=qn q->(q.2 = .top->∀ a bs,fp y=a::bs->a∉F)/\(q.2 = .deep->∀ a∈fp y,a∉F))
  (hL1:∀ a,L a->a≠env.locals/\∃ vs n,s.heap.get? a=qn ⟨.type "list", O2,.seq vs n,#[]⟩) (hL2:∀ y q,σo y=qn q->∀ a∈fp y,¬ L a) (hsc:(∀ d∈ds,sx d=vk)\/∀ y q,σ y=qn q->∃ q',σo y=qn q')
  (hN:∀ σ',out = .ok (σ',.next)->∀ s' vals' fp',Stp Z s s'->KG (λb=>Z b\/L b) s.heap s'.heap->SOK fns k h0 P Z A env s'.heap σ' vals' fp'->Frm (λb=>Z b\/L b) (xs++iF b) σo vals fp σ' vals' fp'->Q .next s')
  (hR:∀ σ' r,out = .ok (σ',.ret r)->∀ v s',Stp Z s s'->nw h0 P r v s'->Q (.ret v) s') (hX:∀ c,out = .exc c->∀ x s',Stp Z s s'->Lv A env s'.heap->Exc Z s'.heap c env.locals x->Er x s'):Ph (Pn prog w) A (exec (.For tg iter body [] spos) env) Q Er s:=by
 refine wpAny_For (Si oi (K.cx (bR it)) (by rw[e1]; simp) (λq' hq' i s₂ I=>?_) λc hc=>by rw[e1] at hc; cases hc) (mY oi env)
 rw[e1] at hq'; (have oc:=Out.ok.inj hq'; clear hq'; subst oc)
 obtain ⟨kpb,Nq,hsm⟩:=I
 refine wc (Nq) λI fpw wr Pw St F Nt W hst hwr hfp hPw hF hFP hFd=>?_
 clear Nq
 refine ae (Nt) λNt hIw=>?_
 subst Nt
 have exists_s:∀ b o,s.heap.get? b=qn o->b∉wr:=λb o e hm=>by rw[(hwr b hm).1] at e; exact nN e
 have hLs:∃ o es ep,s.heap.get? env.locals=qn o/\o.data = .dict es ep:=by
  refine af (K.loc.ns) λm Nv _=>?_
  refine bj (Nv) λo es ep e hd _=>?_
  clear Nv
  exact (cB o es ep e hd)
 have hFL:env.locals∉F:=λhm=>by
  refine bC (hLs) λo es ep e hd=>?_
  clear hLs
  refine bi (hF _ hm) λvs n e'=>?_
  obtain ⟨_,e1,d1,_⟩:=kpb.k.data e λfs q=>by rw[hd] at q; cases q
  rw[e1] at e'; (have oc:=vj e'; clear e'; (clear e1 right; subst oc)); rw[hd] at d1; cases d1
 have ex0:=hex F hFP hFd
 have nf:∀ y q,σo y=qn q->∀ a∈fp y,a∉wr:=λy q hq a ha hm=>by
  refine ak (cs y q hq) λq' hq'=>?_
  refine ae (K.val y q' hq') λuu Oo=>?_
  refine aq (Oo) λu _ hr _=>?_
  clear Oo
  refine ak (hr.there a ha) λo e=>?_
  exact exists_s a o e hm
 have wz:∀ b∈wr,¬ Z b:=λb hm hz=>by
  refine ak (K.zdom b hz) λo e=>?_
  exact exists_s b o e hm
 have w0:∀ b∈wr,h0.get? b=none:=λb hm=>by
  cases e:h0.get? b with
  | none=>rfl
  | some o=>exact Pq (K.z0 b o e) (wz b hm)
 have K₂:SOK fns k h0 P (λb=>Z b\/(b∈F\/b∈wr\/L b)) A env s₂.heap σo vals fp:=by
  refine (hK _ kpb.k).freeze (λb hb=>?_) (λhm=>?_) (λn c hkn hc hm=>?_) (λy q hq hqt a bs e hm=>?_) (λy q hq hqd a ha hm=>?_)
  ·rcases hb with hb | hb | hb
   ·obtain ⟨vs,n,e⟩:=hF b hb; exact ⟨_,e⟩
   ·obtain ⟨o,e,_⟩:=(hwr b hb).2.2 0 _ hst; exact ⟨o,e⟩
   ·obtain ⟨_,vs,n,e⟩:=hL1 b hb; exact ⟨_,kpb.k.get e rfl⟩
  ·rcases hm with hm | hm | hm
   ·exact hFL hm
   ·refine bC (hLs) λo es ep e hd=>?_
    clear hLs
    exact exists_s _ o e hm
   ·exact (hL1 _ hm).1 rfl
  ·refine aI (K.loc.cell n c hkn hc) λuu uu Oj=>?_
   refine aw (Oj) λv o e hd=>?_
   clear Oj
   rcases hm with hm | hm | hm
   ·refine bi (hF c hm) λvs n e'=>?_
    obtain ⟨_,e1,d1,_⟩:=kpb.k.data e λfs q=>by rw[hd] at q; cases q
    rw[e1] at e'; (have oc:=vj e'; clear e'; (clear e1 right; subst oc)); rw[hd] at d1; cases d1
   ·exact exists_s c o e hm
   ·refine ae (hL1 c hm) λuu Oe=>?_
    refine bi (Oe) λvs n e'=>?_
    clear Oe
    rw[e] at e'; (have oc:=vj e'; clear e'; (clear e; subst oc)); cases hd
  ·rcases hm with hm | hm | hm
   ·exact (ex0 y q hq).1 hqt a bs e hm
   ·exact nf y q hq a (by rw[e]; exact .head _) hm
   ·exact hL2 y q hq a (by rw[e]; exact .head _) hm
  ·rcases hm with hm | hm | hm
   ·exact (ex0 y q hq).2 hqd a ha hm
   ·exact nf y q hq a ha hm
   ·exact hL2 y q hq a ha hm
 have FP:∀ a∈F,a≠env.locals/\(P a\/h0.get? a=O2):=λa ha=>by
  refine ⟨λq=>hFL (q▸ha),?_⟩
  rcases hFP a ha with h | h
  ·exact (K.own h).2.2
  ·right
   cases e:h0.get? a with
   | none=>rfl
   | some o=>obtain ⟨_,e'⟩:=Internal.K.there K.kp0 e; rw[e'] at h; exact nM h
 have stpb:Stp Z s s₂:=kpb.stp
 refine codeAny_forLoop_any
  (FI fns k C h0 P Z A env xs B b s s₂ ds F wr L St out σo vals fp) ?_ (ds.length+1)
  (pJ 0 _ vals fp stpb K₂ hst (Qn _) rfl (by simpa using he1) KG.refl (.id λz q h=>⟨q,h⟩))
 intro n s' Ny
 refine wf (Ny) λj σj vals' fp' stp' K' hst' hj Nz p hkp hfr=>?_
 clear Ny
 subst Nz
 have hLw:∀ b,L b->b∉wr:=λb hb=>let ⟨_,vs,n,e⟩:=hL1 b hb; exists_s b _ e
 have hwf:∀ b∈wr,∃ o,s'.heap.get? b=qn o/\(∀ C,o.cls≠.ref C)/\∃ fs,o.data = .fields fs:=λb hm=>aq ((hwr b hm).2.2 j _ hst') λo e g f=>(aG o e g.2.2 f)
 have hFw:∀ a∈F,a∉wr:=λa ha hm=>(hwr a hm).2.1 ha
 have hns:∀ b∈wr,∀ o,s'.heap.get? b=qn o->¬ Stay o:=λb hm o e=>by
  refine aq ((hwr b hm).2.2 j _ hst') λo' e' NA Oq=>?_
  refine ak (Oq) λfs q=>?_
  clear Oq
  refine ae (NA) λuu hc=>?_
  clear NA
  rw[e] at e'; (have oc:=vj e'; clear e'; (clear uu; subst oc))
  exact λx=>x.elim (λx=>noIt.code hc.1 x.1) λx=>let ⟨_,vs,n,e⟩:=x; by rw[q] at e; cases e
 have step1:∀ t tka,(∀ b∈wr,∃ o,t.get? b=qn o)->(∀ b o,b∉wr->s'.heap.get? b=qn o->t.get? b=qn o)->SOK fns k h0 P (λb=>Z b\/(b∈F\/b∈wr\/L b)) A env t σj vals' fp'/\Stp Z s {s' with heap:=t,toks:=tka }:=λt tka hwa hka=>by
  refine ⟨K'.iter hwf (λb hm _=>hwa b hm) w0 hns hka,?_⟩
  refine aw (stp') λhh tk' NC kk=>?_
  clear stp'
  (clear K' hkp hst' hwf; subst NC)
  exact (aC t tka rfl (kk.trans ((KG.ofW hka hns).mono λb hz hm=>wz b hm hz)))
 by_cases hlt:j<ds.length
 ·obtain ⟨d,hd⟩:∃ d,ds[j]? = qn d:=⟨_,Pp hlt⟩
  have hdd:ds.drop j=d::ds.drop (j+1):=by
   rw[Rw hlt]
   rw[Pp hlt] at hd
   (have oc:=vj hd; clear hd; subst oc); rfl
  rw[hdd] at p
  simp only[cR] at p
  refine W.item j _ _ _ hlt hst' λv t tka hPv hsta hka=>?_
  obtain ⟨K₁,stpa⟩:=step1 t tka (λb hm=>af ((hwr b hm).2.2 (j+1) t hsta) λo e uu=>⟨o,e⟩) hka
  refine af (hPw j v hPv d hd) λbs hrv hbs=>?_
  have hkpa:KG (λb=>Z b\/(b∈F\/L b)) s₂.heap t:=hkp.trans ((KG.ofW hka hns).mono λb hb hm=>hb.elim (wz b hm) λhf=>hf.elim (λhf=>hFw b hf hm) λhf=>hLw b hf hm)
  have hrva:R t v d bs:=hrv.onG hkpa λb hb=>.inr (.inl (hbs b hb))
  have hfpH:∀ b∈fpw,∀ o,t.get? b=qn o->hardB o=true:=λb hb o e=>by
   rcases hfp b hb with hb | hb
   ·refine aq ((hwr b hb).2.2 _ _ hsta) λo' e' NF _=>?_
    refine ae (NF) λhh _=>?_
    clear NF
    rw[e] at e'; (have oc:=vj e'; clear e'; subst oc); exact hh
   ·refine bi (hF b hb) λvs' n' e'=>?_
    rw[hkpa.hard (.inl (.inr (.inl hb))) e' rfl] at e
    (have oc:=vj e; clear e; subst oc); rfl
  have hzd:sz d=true:=hsm.2 d (QU hd)
  cases hB:B d σj with
  | none=>rw[hB] at p; exact Pq p.symm hnb
  | some σ1=>
   rw[hB] at p
   refine DG ((hwr I hIw).2.2 _ _ hsta) ?_
   refine TG K₁ hrva hzd (λa ha=>⟨.inr (.inl (hbs a ha)),FP a (hbs a ha)⟩) hB λsc valsc fpc stc K₃ hvc hfc=>?_
   have hfx:Frm (λb=>Z b\/L b) (xs++iF b) σo vals fp σ1 valsc fpc:=by
    refine ⟨λy hy=>?_,λb' hz hb' z q hq hm=>?_⟩
    ·have h1:=hfr.1 y hy
     have h2:=hvc y λq=>hy (PX _ q)
     exact ⟨h2.1.trans h1.1,h2.2.trans h1.2⟩
    ·rcases hfc z q hq with h1 | ⟨h1,h2⟩
     ·replace hm:=h1 b' hm
      rcases hsc with h | h
      ·rw[hrva.sx_nil (h d (QU hd))] at hm; cases hm
      ·refine PG (hFP b' (hbs b' hm)) (λN0=>?_) (λh1=>?_)
       ·refine ay (N0) λy q OD h1 h2=>?_
        clear N0
        refine ak (h y q h1) λq' hq'=>?_
        exact hb' y q' hq' h2
       ·rcases hz with hz | hz
        ·refine ak (K.zdom b' hz) λo e=>?_
         rw[h1] at e; exact nN e
        ·refine ae (hL1 b' hz) λuu Ox=>?_
         refine bi (Ox) λvs n e=>?_
         clear Ox
         rw[h1] at e; exact nN e
     ·rw[h2] at hm
      exact hfr.2 b' hz hb' z q h1 hm
   have bodyc:∀ s₄,Stp (λb=>Z b\/(b∈F\/b∈wr\/L b)) sc s₄->Stp Z s s₄/\St (j+1) s₄.heap/\KG (λb=>Z b\/(b∈F\/L b)) s₂.heap s₄.heap:=λs₄ std=>by
    have st:=stc.trans std
    refine ⟨stpa.trans (st.mono λb hb=>.inl hb),?_,?_⟩
    ·refine aw (st) λh₄ tkd NG kkd=>?_
     clear st
     (clear std; subst NG)
     exact W.frame _ _ _ hsta λb hb o e=>kkd.hard (.inl (.inr ((hfp b hb).elim (λh=>.inr (.inl h)) .inl))) e (hfpH b hb o e)
    ·refine aw (st) λh₄ tkd NH kkd=>?_
     clear st
     (clear std; subst NH)
     exact hkpa.trans (kkd.mono λb hb=>hb.imp id λh=>h.imp id .inr)
   cases hbody:exs C b σ1 with
   | bad=>rw[show am (qn σ1) (exs C b)=exs C b σ1 from rfl,hbody] at p; exact Pq p.symm hnb
   | exc c=>
    rw[show am (qn σ1) (exs C b)=exs C b σ1 from rfl,hbody] at p
    refine Xb ob K₃ hbody λz s₄ std lv exc=>?_
    refine aq (lv) λl l1 l2 l3=>?_
    clear lv
    refine aw ((bodyc s₄ std).1) λh₄ tkd e₄ kkd=>?_
    (clear std; subst e₄)
    refine EF (N:=Z) (λb hb=>?_) l1 l2 l3 (exc.old λb hb=>.inl hb) λh' ex' kg' fr'=>hX c p.symm z _ (aC h' tkd rfl (kkd.trans kg')) (aG l l1 fr' l3) ex'
    refine ak (K.zdom b hb) λo e=>?_
    refine af (kkd b o (.inl hb) e) λo' e' _=>?_
    exact ⟨o',e'⟩
   | ok o=>
   obtain ⟨σa,fla⟩:=o
   rw[show am (qn σ1) (exs C b)=exs C b σ1 from rfl,hbody] at p
   simp only[Out.ok_bind] at p
   refine Sb ob K₃ hbody (λe s₄ valsd fpd std Kd F₄=>?_) λr e v s₄ std Rd=>?_
   ·(clear hbody; subst e)
    refine aI (bodyc s₄ std) λq1 q2 q3=>?_
    refine (ah (ds.length+1-(j+1)) (uh hlt) (pJ (j+1) σa valsd fpd q1 Kd q2 hlt rfl p q3 ((hfx.trans (F₄.less λb hb=>hb.imp id λh=>.inr (.inr h))).more λy hy=>(Pu.mp hy).elim (λh=>h) (P5 _))))
   ·(clear hbody; subst e)
    exact hR σa r p.symm v s₄ (bodyc s₄ std).1 Rd
 ·have hjl:j=ds.length:=by exact AI hj hlt
  (clear hj hlt; subst hjl)
  rw[S7] at p
  simp only[cR] at p
  refine W.done _ _ _ hst' λt tka hka=>?_
  have st1:Stp Z s {s' with heap:=t,toks:=tka }:=by
   refine aw (stp') λhh tk' NI kk=>?_
   clear stp'
   (clear K' hkp hst' hwf step1; subst NI)
   exact (aC t tka rfl (kk.trans ((KG.ofW hka hns).mono λb hz hm=>wz b hm hz)))
  have kgL:KG (λb=>Z b\/L b) s.heap t:=((kpb.k.mono λuu uu=>trivial).trans (hkp.mono λb hb=>hb.imp id .inr)).trans ((KG.ofW hka hns).mono λb hb hm=>hb.elim (wz b hm) λh=>hLw b h hm)
  exact TL (hN σj p.symm {s' with heap:=t,toks:=tka } vals' fp' st1 kgL ((K'.thaw (Z:=Z) (λb hb=>.inl hb) K.z0).iter hwf (λb hm hz=>Pq hz (wz b hm)) w0 hns hka) hfr)
theorem zY (y:OX) (q:V×Mode) (hy:σ y=qn q):∃ q',Internal.consume σ ns md y=qn q':=by
 unfold Internal.consume
 split
 ·exact ⟨q,hy⟩
 ·unfold Internal.demote
  split
  ·exact ⟨_,by rw[hy]; rfl⟩
  ·exact ⟨q,hy⟩
theorem vA (Si:dJ fns k C XP it) (Sb:dZ fns k C b) (Xb:dY fns k C b)
  (oi:fC env.scope.names it iter=vk) (ob:cM env.scope.names b body=vk) (TG:t8 fns k A env tg xs B) (K:SOK fns k h0 P Z A env s.heap σ vals fp) (he:((bw C it σ).bind λq=>cR (λy σ=>am (B y σ) (exs C b)) q.1 (consume σ (bR it) q.2)) = .ok (σ',fl))
  (hN:fl = .next->∀ s' vals' fp',Stp Z s s'->SOK fns k h0 P Z A env s'.heap σ' vals' fp'->Frm Z (xs++iF b) σ vals fp σ' vals' fp'->Q .next s') (hR:∀ r,fl = .ret r->∀ v s',Stp Z s s'->nw h0 P r v s'->Q (.ret v) s'):Ph (Pn prog w) A (exec (.For tg iter body [] spos) env) Q Er s:=by
 refine Out.bind_k he λi j m=>?_
 obtain ⟨ds,n⟩:=i
 have e1:bw C it (cL σ (bR it)) = .ok (ds,n):=by rw[eS C it _ σ (cj σ _)]; exact j
 exact wj Si Sb Xb (λuu=>Qj) oi ob TG K e1 m (by simp) (λh' t=>(K.onK t).consume (bR it) n) (λy q j=>dD j) (λF h1 h2=>K.excl h1 h2) (λa h=>h.elim) (λuu uu uu uu uu h=>h) (.inr zY)
  (λg e s' vals' fp' o _ K' F=>by cases e; exact hN rfl s' vals' fp' o K' ⟨F.1,λb u x=>F.2 b (.inl u) λz q j=>ak (dD j) λp l=>x z p l⟩) (λg r e=>by cases e; exact hR r rfl) λc e=>by cases e
theorem wB (hf:fns.hand=OZ) (Si:dJ fns k C XPc it) (Sb:dZ fns k C b) (Xb:dY fns k C b)
  (oi:fC env.scope.names it iter=vk) (ob:cM env.scope.names b body=vk) (TG:t8 fns k A env tg xs B) (K:SOK fns k h0 P Z A env s.heap σ vals fp) (he:((bw C it σ).bind λq=>cR (λy σ=>am (B y σ) (exs C b)) q.1 (consume σ (bR it) q.2)) = .exc c)
  (hE:∀ x s',Stp Z s s'->Lv A env s'.heap->Exc Z s'.heap c env.locals x->Er x s'):Ph (Pn prog w) A (exec (.For tg iter body [] spos) env) Q Er s:=by
 rcases bY he with he | ⟨⟨ds,md⟩,l,he1⟩
 ·have j:bw C it (cL σ (bR it)) = .exc c:=by rw[eS C it _ σ (cj σ _)]; exact he
  refine wpAny_For (Si oi (K.cx (bR it)) (by rw[j]; simp) (λu i=>by rw[j] at i; cases i) λt m x s' X=>?_) (mY oi env)
  rw[j] at m; cases m
  exact hE x s' X.1.stp ((K.onK X.1.k).lv hf) (Fly.exc (X.2.old K.zd))
 ·have j:bw C it (cL σ (bR it)) = .ok (ds,md):=by rw[eS C it _ σ (cj σ _)]; exact l
  exact wj Si Sb Xb (λuu=>Qj) oi ob TG K j he1 (by simp) (λv n=>(K.onK n).consume (bR it) md) (λy q l=>dD l) (λF p o=>K.excl p o) (λa h=>h.elim) (λuu uu uu uu uu h=>h) (.inr zY)
   (λg e=>by cases e) (λg r e=>by cases e) λt e=>by cases e; exact hE
theorem xr (Si:dJ fns k C XP it) (Sb:dZ fns k C b) (Xb:dY fns k C b):dP fns k C (.for1 x it b):=by
 intro m h0 P Z A y z l fp s Q Er q fl g K r v u
 replace g:=r3 g
 revert g; refine λh=>PG h (λi=>?_) (λg=>?_)
 ·clear h
  refine jH (i) λt pt o p n j g=>?_
  clear i
  subst j
  simp only[O9,Pv] at g
  rw[g.1.1.1]
  exact vA Si Sb Xb g.1.2 g.2 (sf g.1.1.2) K r v u
 ·cases g
theorem xh (hf:fns.hand=OZ) (Si:dJ fns k C XPc it) (Sb:dZ fns k C b) (Xb:dY fns k C b):dQ fns k C (.for1 x it b):=by
 intro m y P Z A u v l z s Q Er c g K q r
 replace g:=r3 g
 revert g; refine λh=>PG h (λi=>?_) (λg=>?_)
 ·clear h
  refine jH (i) λt pt o p n j g=>?_
  clear i
  subst j
  simp only[O9,Pv] at g
  rw[g.1.1.1]
  exact wB hf Si Sb Xb g.1.2 g.2 (sf g.1.1.2) K q r
 ·cases g
section
variable (hf:fns.hand=OZ) (hC:cU fns k C XPc)
include hf hC
mutual
theorem iq:∀ st:S,dP fns k C st/\dQ fns k C st
 | .assign x e=>⟨rx (aB hf hC cf e).e ⟨λelt y g _=>⟨fu hf hC cf g,(aB hf hC cf elt).e⟩,λelt y g c _=>⟨fu hf hC cf g,(aB hf hC cf elt).e,(aB hf hC cf c).t⟩⟩,qZ hf (aB hf hC cf e).e⟩
 | .setitem x e=>⟨pT (aB hf hC cf e).e,qb⟩
 | .append x e=>⟨qY (aB hf hC cf e).e,rp⟩
 | .insert x i e=>⟨rl cf (aB hf hC cf i).e (aB hf hC cf e).e,rJ⟩
 | .pop x i=>⟨xI (aB hf hC cf i).e,yi⟩
 | .expr e=>⟨wb (aB hf hC cf e).e,uQ hf (aB hf hC cf e).e⟩
 | .ret e=>⟨xJ (aB hf hC cf e).e,yy hf (aB hf hC cf e).e⟩
 | .retn x=>⟨wu,vB⟩
 | .ite c a b=>⟨wS (aB hf hC cf c).t (bv a).1 (bv b).1,yj hf (aB hf hC cf c).t (bv a).2 (bv b).2⟩
 | .for1 x g b=>⟨xr (fu hf hC cf g) (bv b).1 (bv b).2,xh hf (fu hf hC cf g) (bv b).1 (bv b).2⟩
 | .raise _=>⟨sH,t0 hf hC⟩
 | .tryS b hs=>⟨yG hf hC (iq b).1 (λe _=>(aB hf hC cf e).e) (λx e _=>(aB hf hC cf e).e),wT⟩
 | .bad=>⟨λh=>Qh (show OZ=vk from h),xX⟩
termination_by structural s=>s
theorem bv:∀ st:Ss,dZ fns k C st/\dY fns k C st
 | .nil=>⟨vN,vU⟩
 | .cons s r=>⟨tE (iq s).1 (bv r).1,tj (iq s).1 (iq s).2 (bv r).2⟩
termination_by structural s=>s
end
theorem n6 (st:Ss):dZ fns k C st:=(bv hf hC st).1
theorem od (st:Ss):dY fns k C st:=(bv hf hC st).2
end
end
structure InF (s₀:O0) (L:Pz) (m:Str->O4 Lt) (cs:rg (Str×Pz)) (cm:Str->O4 Lt) (s:O0):Prop where
 x:InCallC s₀ L m cs cm s
 c:∃ o,s.heap.get? L=qn o/\o.cls = .type "frame"
section
variable {M:Vz}{A:PU}{E:Lt->O0->Prop}{s₀:O0}{env:Env}
theorem jU (f:Str×Lt->Xn->Sem (PI Xn)) (hf:∀ n v u,f (n,v) u=(do VH env n v; Qq (.yield ⟨⟩))) (hk:env.scope.kind = .function) :
  ∀ (binds:rg (Str×Lt)) (m cm:Str->O4 Lt) (s:O0) (Q:Xn->O0->Prop),InF s₀ env.locals m env.cells cm s ->
   (∀ x∈binds,env.kindOf x.1=qn .local\/(env.kindOf x.1=qn .cell/\(env.cells.lookup x.1).isSome=vk)) ->
   (∀ s',InF s₀ env.locals (XW env.kindOf binds m) env.cells (XX env.kindOf binds cm) s'->Q ⟨⟩ s')->Ph M A (UY binds ⟨⟩ f) Q E s
 | [],m,cm,s,Q,x,_,h=>by rw[Ww]; exact Pb (h s x)
 | (n,v)::r,m,cm,s,Q,⟨x,c⟩,hkind,h=>by
  rw[UZ,hf]
  have hr:∀ y∈r,env.kindOf y.1=qn .local\/(env.kindOf y.1=qn .cell/\(env.cells.lookup y.1).isSome=vk):=λy hy=>hkind y (List.mem_cons_of_mem _ hy)
  refine bi (x.toInCall.same) λha tk l=>?_
  rcases hkind (n,v) Uo with hl | ⟨hl,j⟩
  ·refine Gt (Gt ?_)
   rw[Yh hl (by rw[hk]; rfl)]
   refine nO x.toInCall.ns c λh' hn' g hc'=>Pb (jU f hf hk r (λx=>if x=n then qn v else m x) cm _ Q ⟨⟨⟨(bN h' (s.toks+1) (by rw[l])),hn',λb o e=>?_,x.toInCall.fresh⟩,λk c j=>?_,x.apart,x.above⟩,hc'⟩ hr λt p=>h t ?_)
   ·exact g.extBut b o (Qz (O6 (RH e) x.toInCall.fresh)) (x.toInCall.keep b o e)
   ·exact (x.cell k c j).sameBut g (Ut (x.above k c (mem_of_lookup j)))
   ·unfold XW XX; rw[O1 hl,O1 hl]; exact p
  ·refine bZ j λcc j=>?_
   have z:¬ env.kindOf n=qn .local:=by rw[hl]; decide
   have hLc:=x.above n cc (mem_of_lookup j)
   refine Gt (Gt (Wo hk hl j (x.cell n cc j) λh' hc' g=>Pb (jU f hf hk r m (λy=>if y=n then qn v else cm y) _ Q ⟨⟨⟨(bN h' s.toks (by rw[l])),x.toInCall.ns.sameBut g (Qz hLc),λb o e=>?_,x.toInCall.fresh⟩,λk c' i=>?_,x.apart,x.above⟩,af (c) λo e q=>(ah o (g.extBut _ o (Qz hLc) e) q)⟩ hr λt p=>h t ?_)))
   ·exact g.extBut b o (Qz (Tw (O6 (RH e) x.toInCall.fresh) hLc)) (x.toInCall.keep b o e)
   ·by_cases hkn:k=n
    ·(clear h hkind hl z; subst hkn)
     rw[j] at i; (have oc:=vj i; clear i; subst oc)
     show h'.IsCell _ (if _=_ then qn v else cm _)
     rw[O1 rfl]; exact hc'
    ·show h'.IsCell _ (if _=_ then qn v else cm _)
     rw[OY hkn]
     exact (x.cell k c' i).sameBut g λe=>hkn (Zv x.apart (mem_of_lookup i) (e▸mem_of_lookup j))
   ·unfold XW XX; rw[OY z,OY z]; exact p
end
section
theorem rP {R:Yv->O0->Prop}{a:Pz}{o:Obj}{fd:Z1}{body:rg SX}{vals:rg Lt}{binds:rg (Str×Lt)}
  (hroom:A.depth<Rv) (ho:s.heap.get? a=qn o) (hdata:o.data = .func fd) (hlim:s.heap.NoLimit) (hcd:s.heap.CodeRec fd.code fd.qualname)
  (hbody:fd.body = .stmts body) (hbind:W7 fd ⟨vals,[]⟩=Qq binds) (hclo:fd.closure=[])
  (hkind:∀ x∈binds,fd.scope.names.lookup x.1=qn .local\/(fd.scope.names.lookup x.1=qn .cell/\((RY (s.heap.objs.size+1) fd.scope.names []).lookup x.1).isSome=vk))
  (h:∀ s₁,InF s (Rc fd s.heap.objs.size a).locals (XW (Rc fd s.heap.objs.size a).kindOf binds λuu=>O2) (Rc fd s.heap.objs.size a).cells
    (XX (Rc fd s.heap.objs.size a).kindOf binds λuu=>O2) s₁ ->
   Ph (Pn prog w) (A.deeper (Rc fd s.heap.objs.size a)) (Zc body (Rc fd s.heap.objs.size a)) (λf s'=>R (.ok (.ret (match f with | .ret v=>v | _=>.none))) s')
    (λe s'=>Ph (Pn prog w) (A.deeper (Rc fd s.heap.objs.size a)) (Yk (Rc fd s.heap.objs.size a) e) (λuu s''=>R (.error e) s'') (λe' s''=>R (.error e') s'') s') s₁)
  (hco:fd.scope.isCoroutine=OZ) (hgen:fd.scope.isGenerator=OZ) (hk:fd.scope.kind = .function) :
  Vc (Pn prog w) A (.call (.ref a) ⟨vals,[]⟩) R s:=by
 refine codeAny_call_function hroom ho hdata hco hgen hbody hcd ?_
 rw[hbind,hclo]
 refine Pb ?_
 simp only[S6,Option.isSome_none,PK,Ql]
 refine Gt (ZM ?_)
 refine Gt (Yu _ (λi kind cells=>by cases hkc:kind==Uq<;>simp[hkc]) _ _ _ _ ?_)
 have ok:=cellsFrom_ok fd.scope.names (s.heap.push {cls:=.type "frame", data:=.dict #[] }) (s.heap.objs.size+1) [] ⟨λuu uu g=>(nomatch g),Jah⟩ (by rw[TT]; exact PH _)
 rw[TT] at ok
 rw[show ({s with heap:=s.heap.push {cls:=.type "frame", data:=.dict #[] } }:O0).heap.objs.size=s.heap.objs.size+1 from TT ..]
 refine Gt (jU (s₀:=s) (env:=Rc fd s.heap.objs.size a) _ (λuu uu uu=>rfl) hk binds (λuu=>O2) (λuu=>O2) _ _
  ⟨⟨⟨(bN _ _ rfl),(ZN s.heap (.type "frame")).keeps (RZ _ _),λb o e=>RZ _ _ b o (Pd _ e),PH _⟩,
   λn c j=>(ok.empty n c (mem_of_lookup j)).1,ok.apart,λn c g=>(ok.empty n c g).2⟩,_,RZ _ _ _ _ (PE _ rfl),rfl⟩
  hkind λs' x=>Pb ⟨hlim.keeps x.x.toInCall.keep,codeAny_func (h s' x)⟩)
end
theorem dG:∀ (names:rg (Str×P6)) (k:Pa) (acc:rg (Str×Pz)),(names.lookup n=qn .cell\/(acc.lookup n).isSome=vk)->((RY k names acc).lookup n).isSome=vk
 | [],_,acc,h=>h.elim (λe=>by cases e) id
 | (m,kd)::r,k,acc,h=>by
  unfold RY
  by_cases hk:kd = .cell
  ·subst hk
   simp only[Rb,Q4]
   by_cases e:n=m
   ·(clear h; subst e)
    exact dG r _ _ (.inr (by simp))
   ·have g:(n==m)=false:=by simpa using e
    refine dG r _ _ (h.imp (λh=>?_) λh=>?_)
    ·rw[Qf,g] at h; exact h
    ·rw[Qf,g]; exact h
  ·have i:(kd==Uq)=false:=by simpa using hk
   simp only[i,PK,Ql]
   by_cases e:n=m
   ·subst e
    rcases h with h | h
    ·simp at h; exact Pq h hk
    ·exact dG r _ _ (.inr h)
   ·have g:(n==m)=false:=by simpa using e
    refine dG r _ _ (h.imp (λh=>?_) id)
    rw[Qf,g] at h; exact h
theorem lj:∀ (bs:rg (Str×Lt)) (m:Str->O4 Lt),(∀ p∈bs,p.1≠y)->XW kd bs m y=m y
 | [],_,_=>rfl
 | (n,v)::r,m,h=>by
  unfold XW
  rw[lj r _ λp g=>h p (.tail _ g)]
  split
  ·exact OY λ(e:y=n)=>h (n,v) (.head _) e.symm
  ·rfl
theorem lh:∀ (bs:rg (Str×Lt)) (m:Str->O4 Lt),(∀ p∈bs,p.1≠y)->XX kd bs m y=m y
 | [],_,_=>rfl
 | (n,v)::r,m,h=>by
  unfold XX
  rw[lh r _ λp g=>h p (.tail _ g)]
  split
  ·rfl
  ·exact OY λ(e:y=n)=>h (n,v) (.head _) e.symm
theorem vm {ps:rg OX}(h:p∉ps):∀ q∈(ps.map mL).zip vs,q.1≠mL p:=by
 intro q i e
 have:=(WU i).1
 refine aJ this λy g j=>?_
 exact h (cr (j.trans e)▸g)
theorem nL:∀ (ps:rg OX) (vs:rg Lt) (m:Str->O4 Lt),ps.Nodup->(ps.zip vs).lookup x=qn v->kd (mL x)=qn .local->XW kd ((ps.map mL).zip vs) m (mL x)=qn v
 | [],_,_,_,h,_=>by simp at h
 | _::_,[],_,_,h,_=>by simp at h
 | p::ps,u::vs,m,hn,h,hk=>by
  rw[Q6] at hn
  rw[Rt,Qf] at h
  rw[QE,Rt]
  unfold XW
  by_cases e:x=p
  ·subst e
   simp at h
   subst h
   rw[lj _ _ (vm hn.1),O1 hk]
   simp
  ·have g:(x==p)=false:=by simpa using e
   rw[g] at h
   exact nL ps vs _ hn.2 h hk
theorem n9:∀ (ps:rg OX) (vs:rg Lt) (m:Str->O4 Lt),ps.Nodup->(ps.zip vs).lookup x=qn v->kd (mL x)=qn .cell->XX kd ((ps.map mL).zip vs) m (mL x)=qn v
 | [],_,_,_,h,_=>by simp at h
 | _::_,[],_,_,h,_=>by simp at h
 | p::ps,u::vs,m,hn,h,hk=>by
  rw[Q6] at hn
  rw[Rt,Qf] at h
  rw[QE,Rt]
  unfold XX
  by_cases e:x=p
  ·subst e
   simp at h
   subst h
   rw[lh _ _ (vm hn.1),OY (by rw[hk]; simp)]
   simp
  ·have g:(x==p)=false:=by simpa using e
   rw[g] at h
   exact n9 ps vs _ hn.2 h hk
section
theorem pE (rs:RVs h xs vals as):∀ {ps:rg OX}{σ:St},bq ps xs=qn σ ->
  vals.length=ps.length/\∃ fp:OX->rg Pz,∀ x q,σ x=qn q->x∈ps/\∃ V v,q=mk V/\(ps.zip vals).lookup x=qn v/\RV h v V (fp x)/\∀ a∈fp x,a∈as:=by
 induction rs with
 | nil=>
  intro ps σ j
  cases ps with
  | nil=>exact (aE rfl (bP (λuu=>[]) (λx q h=>nN ((congrFun (vj j) x).trans h))))
  | cons p ps=>exact nN j
 | @cons V xs v vs a1 bs r rs IH=>
  intro ps σ j
  cases ps with
  | nil=>exact nN j
  | cons p ps=>
  replace j:=RX.mp (show (bq ps xs).map _=_ from j)
  refine af (j) λu m l=>?_
  clear j
  subst l
  obtain ⟨hl,g,z⟩:=IH m
  refine (aE (by rw[PR,PR,hl]) (bP (λx=>if x=p then a1 else g x) (λx q k=>?_)))
  unfold upd at k
  by_cases e:x=p
  ·subst e
   rw[O1 rfl] at k; (have y:=vj k; clear k; subst y)
   have t:(if x=x then a1 else g x)=a1:=O1 rfl
   refine (aE (.head _) (bO V v rfl (by simp) ?_ (λa n=>?_)))
   ·show RV h v V (if x=x then a1 else g x)
    rw[t]; exact r
   ·have i:a∈(if x=x then a1 else g x):=n
    rw[t] at i
    exact PX _ i
  ·rw[OY e] at k
   obtain ⟨h1,V',o,h2,h3,h4,h5⟩:=z x q k
   have e':(x==p)=false:=by simpa using e
   exact (aE (.tail _ h1) (bO V' o h2 (by rw[Rt,Qf,e']; exact h3) (by show RV h o V' (if x=p then a1 else g x); rw[OY e]; exact h4) (λa n=>P5 _ (h5 a (by have i:a∈(if x=p then a1 else g x):=n; rwa [OY e] at i)))))
theorem nP {ft:FnT}{fd:Z1}{fa:Pz}{A:PU}{P:Pz->Prop}{s:O0}{ha:P9}{tka:Pa}{σ:St}{pn:rg OX}{pv:rg Lt}{fp:OX->rg Pz}
  (hf:fns.hand=OZ) (hnd:pn.Nodup) (hpb:∀ x∈pn,bQ ft.scope.names x=vk) (hfree:∀ p∈ft.scope.names,(p.2 != .free)=vk) (hh:fns.hand=OZ->A.handled=O2) (r1:A.depth+2*k+5<Rv) (r2:A.units+100*k+303<UV) (hfr:∃ l,A.frames=qn l/\FrOk s.heap l) (ge:GE fns s.heap)
  (hsc:fd.scope=ft.scope) (hgl:fd.globals=Q0) (hbl:fd.builtins=TN) (hkind:fd.scope.kind = .function) (hcode:ft.lam=vk->CodeOk s.heap fd.code fd.qualname)
  (X:InF s (Rc fd s.heap.objs.size fa).locals (XW (Rc fd s.heap.objs.size fa).kindOf ((pn.map mL).zip pv) λuu=>O2) (Rc fd s.heap.objs.size fa).cells (XX (Rc fd s.heap.objs.size fa).kindOf ((pn.map mL).zip pv) λuu=>O2) {s with heap:=ha,toks:=tka })
  (hfp:∀ x q,σ x=qn q->x∈pn/\∃ V v,q=mk V/\(pn.zip pv).lookup x=qn v/\RV s.heap v V (fp x)/\∀ a∈fp x,P a) :
  SOK {fns with lam:=ft.lam } k s.heap P (λb=>∃ o,s.heap.get? b=qn o) (A.deeper (Rc fd s.heap.objs.size fa)) (Rc fd s.heap.objs.size fa) ha σ (λx=>(pn.zip pv).lookup x) fp:=by
 have r:=X.x.toInCall
 have m:(Rc fd s.heap.objs.size fa).scope.names=ft.scope.names:=by show fd.scope.names=_; rw[hsc]
 have i:(Rc fd s.heap.objs.size fa).locals=s.heap.objs.size:=rfl
 have y:∀ n,(Rc fd s.heap.objs.size fa).kindOf n=ft.scope.names.lookup n:=λn=>by show fd.scope.names.lookup n=_; rw[hsc]
 have j:∀ n,(Rc fd s.heap.objs.size fa).kindOf n≠qn .free:=λn e=>by
  rw[y] at e
  have:=hfree _ (mem_of_lookup e)
  simp at this
 have hold:¬ SF.old s.heap.objs.size:=λq=>by
  refine ak (ge.old _ q) λo e=>?_
  rw[bx] at e; exact nN e
 refine ⟨⟨hh,?_,?_⟩,⟨hkind,hgl,hbl,λn hn=>?_⟩,ge.flag ft.lam fns.hand,λb o e=>⟨o,e⟩,.of r.keep,λq=>⟨_,hcode q⟩,λuu=>?_,λb ⟨o,e⟩=>⟨o,r.keep b o e⟩,⟨X.c,(ah _ r.ns (λx v g hk=>?_)),λ⟨o,e⟩=>?_,λn c hk hc=>?_,λx v c g hk hc=>?_,λn n' c h1 h2=>?_,λx v g=>?_⟩,λx p t=>?_,λx p t ht=>?_,λx p t hdp=>?_⟩
 ·show A.depth+1+2*k+(if fns.hand then 1 else 4)<_
  rw[hf]; simp only[PK,Ql]; exact Fx r1
 ·show A.units+3+100*k+(if fns.hand then 200 else 300)<_
  rw[hf]; simp only[PK,Ql]; exact K2 r2
 ·rcases hn with hn | hn
  ·rw[y] at hn
   exact Tz.mp (by show ((RY _ fd.scope.names []).lookup n).isSome=vk; rw[hsc]; exact dG _ _ _ (.inl hn))
  ·exact Pq hn (j n)
 ·refine af (hfr) λl e1 e2=>?_
  clear hfr
  exact (bD l (Ws e1) e2 rfl hold)
 ·exact nL pn pv _ hnd g hk
 ·rw[i] at e
  rw[bx] at e; exact nN e
 ·have hm:=mem_of_lookup hc
  have u:=X.x.above n c hm
  refine (cy (Ut u) (λ⟨o,e⟩=>?_) (bP _ (X.x.cell n c hc)))
  have:=RH e
  rw[i] at u
  exact Uf _ (Tw this u)
 ·have:=X.x.cell _ c hc
  rw[n9 pn pv _ hnd g hk] at this
  exact this
 ·exact Zv X.x.apart (mem_of_lookup h1) (mem_of_lookup h2)
 ·have hm:x∈pn:=by
   have:(x,v)∈pn.zip pv:=by
    generalize pn.zip pv=l at g
    induction l with
    | nil=>exact nN g
    | cons q l ih=>
     rw[Qf] at g
     split at g
     ·rename_i e
      (have oc:=vj g; clear g; (clear ih; subst oc))
      rw[Pv.mp e]
      exact .head _
     ·exact .tail _ (ih g)
   exact (WU this).1
  have z:=hpb x hm
  unfold bQ at z
  simp only[O9,UU,Pv] at z
  rw[y]
  exact z.2
 ·obtain ⟨h1,V,v,Nm,h3,h4,h5⟩:=hfp x p t
  (clear t; subst Nm)
  have z:=hpb x h1
  unfold bQ at z
  simp only[O9] at z
  refine (aE (by rw[m]; exact z.1.1) (aG v h3 (h4.keep r.keep) (λa h=>⟨λq=>?_,.inl (h5 a h)⟩)))
  refine ak (h4.there a h) λo e=>?_
  rw[q,i,bx] at e; exact nN e
 ·obtain ⟨h1,V,v,Nr,_⟩:=hfp x p t
  (clear t; subst Nr)
  exact Pq ht iR
 ·obtain ⟨h1,V,v,Nn,h3,h4,h5⟩:=hfp x p t
  (clear t; subst Nn)
  rw[h4.scal_nil (gD hdp)]
  exact ⟨λuu h=>(nomatch h),.nil⟩
theorem mS {ft:FnT}{fd:Z1}{pn:rg OX}{vals:rg Lt}{n:Pa}(hsc:fd.scope=ft.scope) (hbk:∀ x∈pn,bQ ft.scope.names x=vk):∀ x∈(pn.map mL).zip vals,fd.scope.names.lookup x.1=qn .local\/(fd.scope.names.lookup x.1=qn .cell/\((RY n fd.scope.names []).lookup x.1).isSome=vk):=by
 intro x j
 refine aJ (WU j).1 λy i e=>?_
 have g:=hbk y i
 unfold bQ at g
 simp only[O9,UU,Pv] at g
 rw[hsc,<- e]
 rcases g.2 with h | h
 ·exact .inl h
 ·exact .inr ⟨h,dG _ _ _ (.inl h)⟩
section
theorem w7 (h:bq f.params vs=qn σ) (e:exs C f.body σ = .bad):av C f vs = .bad:=by unfold av; rw[h]; dsimp only; rw[e]; rfl
theorem x8 (h:bq f.params vs=qn σ) (e:exs C f.body σ = .exc c):av C f vs = .exc c:=by unfold av; rw[h]; dsimp only; rw[e]; rfl
theorem vP (h:bq f.params vs=qn σ) (e:exs C f.body σ = .ok (σ',.next)):av C f vs = .ok (.d .none,.deep):=by unfold av; rw[h]; dsimp only; rw[e]; rfl
theorem xa (h:bq f.params vs=qn σ) (e:exs C f.body σ = .ok (σ',.ret r)):av C f vs = .ok r:=by unfold av; rw[h]; dsimp only; rw[e]; rfl
theorem yw (h:bq f.params vs=qn σ) (e:exs C f.body σ = .bad):dC C f vs = .bad:=by unfold dC; rw[h]; dsimp only; rw[e]; rfl
theorem xC (h:bq f.params vs=qn σ) (e:exs C f.body σ = .exc c):dC C f vs = .exc c:=by unfold dC; rw[h]; dsimp only; rw[e]; rfl
theorem oQ (h:bq f.params vs=qn σ) (e:exs C f.body σ = .ok (σ',.next)):dC C f vs=fQ σ':=by unfold dC; rw[h]; dsimp only; rw[e]; rfl
theorem wR (h:bq f.params vs=qn σ) (e:exs C f.body σ = .ok (σ',.ret r)):dC C f vs = .bad:=by unfold dC; rw[h]; dsimp only; rw[e]; rfl
end
theorem qP {A:PU}{env:Env}{s s₁:O0}{c:OX}{x:Lt}{R:O0->Prop}{E:Lt->O0->Prop}(kp:Kp s s₁) (lv:Lv A env s₁.heap) (ex:Exc (dom s.heap) s₁.heap c env.locals x) (hR:∀ s',XPc c s x s'->R s') :
  Ph (Pn prog w) A (Yk env x) (λuu s'=>R s') E s₁:=by
 refine aq (lv) λl q p n=>?_
 clear lv
 refine aw (kp) λj h i g=>?_
 clear kp
 subst i
 refine EE (N:=dom s.heap) (λb k=>?_) q p n ex λt u r=>hR _ ⟨(aC t h rfl (Internal.K.step g r λb o e=>⟨o,e⟩)),u⟩
 refine ak (k) λo e=>?_
 clear k
 refine af (g b o (.inl trivial) e) λm v _=>?_
 exact ⟨m,v⟩
set_option maxHeartbeats 1000000 in
theorem nc (hf:fns.hand=OZ) (hC:cU {fns with lam:=ft.lam } k C XPc) (hok:okF ft fn=vk)
  (hroom:Room fns.hand (k+1) A) (hfr:∃ l,A.frames=qn l/\FrOk s.heap l) (ge:GE fns s.heap) (hfa:FnAt s.heap ft fa) (rs:RVs s.heap xs vals as) (ha:∀ a∈as,P a) (nb:av C fn xs≠.bad) (hQ:∀ r,av C fn xs = .ok r->∀ v s',EP P s r v s'->Q v s') (hE:∀ c,av C fn xs = .exc c->∀ x s',XPc c s x s'->Er x s') :
  Ph (Pn prog w) A (SV (.ref fa) vals []) Q Er s:=by
 unfold okF at hok
 simp only[O9,PM,Q1] at hok
 refine ae (hok) λNu p=>?_
 clear hok
 refine ae (Nu) λz u=>?_
 clear Nu
 refine ae (z) λy hnd=>?_
 clear z
 refine ae (y) λhps hbk=>?_
 clear y
 cases hσ:bq fn.params xs with
 | none=>exact Pq (by unfold av; rw[hσ]) nb
 | some σ=>
 obtain ⟨hlen,fp,hfp⟩:=pE rs hσ
 refine vg (hfa) λo fd ho hd hbd n hgl hcl hbl hcr t i hco hgen g=>?_
 clear hfa
 rw[hps] at i
 refine YE (rP (by have:=hroom.at hf; exact JH this) ho hd ge.nolim hcr hbd (i vals hlen) hcl (mS n hbk) (λs₁ X=>?_) hco hgen g)
 refine bi (X.x.toInCall.same) λh₁ m Nl=>?_
 subst Nl
 have K:=nP (k:=k) (ft:=ft) (fa:=fa) (σ:=σ) (pn:=fn.params) (pv:=vals) (fp:=fp) (P:=P) hf hnd hbk p hroom.1 (O5 (U9 _) (hroom.at hf).1) (O5 Fw (hroom.at hf).2) hfr ge n hgl hbl g t X λx q hq=>by
  obtain ⟨h1,V,v,h2,h3,h4,h5⟩:=hfp x q hq
  exact (aE h1 (bO V v h2 h3 h4 (λa h=>ha a (h5 a h))))
 have kp:∀ s',Stp (λb=>∃ o,s.heap.get? b=qn o) {s with heap:=h₁,toks:=m } s'->Kp s s':=λs' j=>by
  refine aw (j) λh' tk' Nq kk=>?_
  clear j
  subst Nq
  exact (aC h' tk' rfl (Internal.K.step (Internal.K.of X.x.toInCall.keep) kk λb o e=>⟨o,e⟩))
 have okb:cM (Rc fd s.heap.objs.size fa).scope.names fn.body ft.body=true:=by show cM fd.scope.names fn.body ft.body=vk; rw[n]; exact u
 cases hex:exs C fn.body σ with
 | bad=>exact Pq (w7 hσ hex) nb
 | exc c=>exact od (fns:={fns with lam:=ft.lam }) hf hC fn.body okb K hex λx s' j lv ex=>qP (kp s' j) lv ex λs'' X=>hE c (x8 hσ hex) x s'' X
 | ok o=>
  obtain ⟨σ',fl⟩:=o
  refine n6 (fns:={fns with lam:=ft.lam }) hf hC fn.body okb K hex (λe s' vals' fp' j K' _=>?_) λq e v s' j R=>?_
  ·subst e
   exact hQ _ (vP hσ hex) _ _ (.scalar (kp s' j) .none rfl (by simp))
  ·subst e
   refine bX (R) λas' h1 h2 h3 h4=>?_
   clear R
   exact hQ _ (xa hσ hex) _ _ ⟨kp s' j,as',h1,h2,h3,h4⟩
end
theorem oG:∀ (l1 l2:rg SX),Zc (l1++l2) env=(Zc l1 env>>=λf=>match f with | .next=>Zc l2 env | f=>Qq f)
 | [],l2=>rfl
 | st::l1,l2=>by
  rw[XM,execs_cons,execs_cons,bind_assoc]
  congr 1
  funext f
  cases f with
  | next=>exact oG l1 l2
  | _=>rfl
section
noncomputable def But2 (x D:Pz) (h h':P9):Prop:=∀ b o,b≠x->b≠D->h.get? b=qn o->h'.get? b=qn o
theorem But2.kk (a:But2 x D h h') (k:K h0 h) (hx:h0.get? x=O2) (hD:h0.get? D=O2) (nx:∀ o,h.get? x=qn o->¬ Stay o) (nD:∀ o,h.get? D=qn o->¬ Stay o):K h0 h' :=
 K.step k (G:=λb=>b≠x/\b≠D) (.of λb o g e=>a b o (λq=>g.elim (λh=>h.1 q) (nx o (q▸e))) (λq=>g.elim (λh=>h.2 q) (nD o (q▸e))) e) λb o e=>⟨λq=>(by rw[q,hx] at e; cases e),λq=>(by rw[q,hD] at e; cases e)⟩
theorem Loc.but2 {x D:Pz}{h h':P9}{env:Env}{Z:Pz->Prop}{vals:OX->O4 Lt}(L:Loc env Z h vals) (a:But2 x D h h') (hx:Z x) (hD:Z D):Loc env Z h' vals where
 cls:=af (L.cls) λo e c=>(ah o (a _ o (λq=>L.nz (q▸hx)) (λq=>L.nz (q▸hD)) e) c)
 ns:=let ⟨m,⟨o,es,ep,e,r⟩,q⟩:=L.ns; (ah m (cB o es ep (a _ o (λq=>L.nz (q▸hx)) (λq=>L.nz (q▸hD)) e) r) q)
 nz:=L.nz
 cell:=λn c k j=>by
  refine aI (L.cell n c k j) λp i g=>?_
  refine aw (g) λv o e r=>?_
  clear g
  exact (cy p i (aC v o (a c o (λq=>i (q▸hx)) (λq=>i (q▸hD)) e) r))
 cval:=λy v c k j l=>by
  refine aI (L.cell _ c j l) λuu i _=>?_
  refine af (L.cval y v c k j l) λo e r=>?_
  exact (ah o (a c o (λq=>i (q▸hx)) (λq=>i (q▸hD)) e) r)
 apart:=L.apart
 kinds:=L.kinds
theorem j6 {A:PU}{h:P9}{g:Pf YI}{dr:Drawn}{tk:Pa}{os:Zu}{E:Lt->O0->Prop}{x D:Pz}{mA:Str->O4 Lt}{n:OX}{v:Lt}{Q:UN->O0->Prop}{ns:rg Str}(ge:RuleAt fns h) (hn:n∈fieldNames) (hw:Within mA ns) (hs:ns.length<=8) (hxC:x≠SF.rule)
  (I:h.Inst x SF.rule mA) (hd:∀ o,h.get? x=qn o->o.dict=qn D)
  (hQ:∀ h' tk',h'.Inst x SF.rule (λy=>if y=mL n then qn v else mA y)->But2 x D h h'->(∀ o,h'.get? x=qn o->o.dict=qn D)->Q () ⟨h',g,dr,tk',os⟩) :
  Ph (Pn prog w) A (setAttr (.ref x) (mL n) v) Q E ⟨h,g,dr,tk,os⟩:=by
 refine ay (ge) λN mN t i _=>?_
 clear ge
 obtain ⟨m,hN⟩:=t
 refine fq (m) λnm q bs' sn sub col dd k0 k1 k2 k3 k5 hC=>?_
 clear m
 have hB:VY (.type "object") (mL n)=Qq none:=by
  simp only[fieldNames,PC,Sw,UC] at hn
  rcases hn with rfl | rfl | rfl
  ·exact mw
  ·exact nH
  ·exact nY
 have hq:mN (mL n)=none:=i n (by
  simp only[fieldNames,PC,Sw,UC] at hn
  rcases hn with rfl | rfl | rfl<;>simp)
 refine store_attr Z2 hC hN (i "__setattr__" (by simp)) hq hB hxC I (λh' tk' I' hk l=>?_) hw (by rw[Qv]; exact Kt hs)
 refine af (I) λo e _=>?_
 clear I
 have r:=hd o e
 refine hQ h' tk' I' (λb ob h1 h2 eb=>hk b ob h1 (λoo dx k z=>by rw[e] at k; (have p:=vj k; clear k; subst p); rw[r] at z; (have p:=vj z; clear z; subst p); exact h2) eb) λo' e'=>?_
 refine kL (l o e) λoa j _ _ _ u=>?_
 rw[e'] at j; (have p:=vj j; clear j; subst p)
 exact u D r
theorem Inst.ns1 {h:P9}{x Cl D:Pz}{mA:Str->O4 Lt}(I:h.Inst x Cl mA) (hd:∀ o,h.get? x=qn o->o.dict=qn D):∃ o,h.get? x=qn o/\o.cls = .ref Cl/\(∀ c,o.data≠.cls c)/\o.dict=qn D/\D≠x/\h.Ns1 D mA:=by
 refine bX (I) λo e k j i=>?_
 clear I
 have:=hd o e
 rcases i with ⟨q,_⟩ | ⟨d,q1,q2,q3⟩
 ·rw[this] at q; exact nM q
 ·rw[this] at q1; (have g:=vj q1; clear q1; subst g)
  exact (kG o e k j this q2 q3)
theorem Inst.kk {h h':P9}{x Cl D:Pz}{mA:Str->O4 Lt}(I:h.Inst x Cl mA) (hd:∀ o,h.get? x=qn o->o.dict=qn D) (k:K h h'):h'.Inst x Cl mA/\∀ o,h'.get? x=qn o->o.dict=qn D:=by
 refine jy (Inst.ns1 I hd) λo e n v m u g=>?_
 refine bj (g) λoD y z eD i r=>?_
 clear g
 have p:=K.get k e (by unfold hardB; rw[n])
 obtain ⟨j,l,q,_⟩:=K.data k eD λfs q=>by rw[i] at q; cases q
 exact ⟨(bD o p n v (.inr (aG D m u (c9 j y z l (q.trans i) r)))),λo' q=>by rw[p] at q; (have t:=vj q; clear q; subst t); exact m⟩
theorem ve (h:fQ σ = .exc c):False:=by
 unfold fQ at h
 refine dM h λuu h=>?_
 refine dM h λuu h=>?_
 refine dM h λuu h=>?_
 refine dM h λuu h=>?_
 refine dM h λuu h=>?_
 refine dM h λuu h=>?_
 refine dM h λuu h=>?_
 refine dM h λuu h=>?_
 split at h<;>cases h
set_option maxHeartbeats 2000000 in
theorem t7 (h:fQ σ = .ok r):∃ ci mc rows ys,r=(.rule ci (.list rows) (ys:rg Pk).length,.deep)/\σ "count" = qn (.d (.int ci),mc)/\σ "full" = qn (.d (.list rows),.deep)/\rows[0]? = qn (.list ys):=by
 unfold fQ at h
 obtain ⟨⟨pc,mc⟩,j,h⟩:=aW h
 obtain ⟨dc,o,h⟩:=aW h
 obtain ⟨ci,n,h⟩:=aW h
 obtain ⟨⟨z,u⟩,i,h⟩:=aW h
 obtain ⟨df,m,h⟩:=aW h
 obtain ⟨rows,l,h⟩:=aW h
 obtain ⟨p,g,h⟩:=aW h
 obtain ⟨ys,k,h⟩:=aW h
 by_cases hd:u = .deep
 ·rw[O1 hd] at h
  have t:=bK o
  have y:=cJ n
  have q:=bK m
  have x:=cW l
  have v:=cW k
  dsimp only at t q
  rw[t,y] at j
  rw[q,x,hd] at i
  rw[v] at g
  exact (jw ci mc rows ys ((Out.ok.inj h).symm) j i g)
 ·rw[OY hd] at h; exact nB h
theorem xR (hf1:σ "full" = qn (.d (.list rows),.deep)) (hf4:rows[0]? = qn (.list ys)):ev C fA (cL σ ["full"]) = .ok (sI ys.length):=by
 have i:cL σ ["full"] "full" = qn (.d (.list rows),.deep):=by unfold cL; rw[O1 (by simp)]; exact hf1
 have h:elem (.list rows) 0=qn (.list ys):=by
  show (bl 0 rows.length).bind (λk=>rows[k]?)=_
  have g:0<rows.length:=(P3.mp hf4).1
  unfold bl
  rw[O1 (U8 0),O1 (la3 g)]
  exact hf4
 unfold fA
 rw[fo,fB,cK,eY,i]
 show ((fy (.list rows) (.int 0)).bind _)=_
 unfold fy
 rw[show cT (.int 0)=qn 0 from rfl]
 simp only[am,h,Out.ok_bind]
 rfl
theorem vZ (C:Calls) (hf:fns.hand=OZ) {A:PU}{env:Env}{P:Pz->Prop}{hh h' hs:P9}{g:Pf YI}{dr:Drawn}{tk tk':Pa}{os:Zu}{x D:Pz}{σ:St}{vals:OX->O4 Lt}{fp:OX->rg Pz}{Q:Flow->O0->Prop}{Er:Lt->O0->Prop}
  {ci:O3}{mc:Mode}{rows ys:rg Pk}{a3 b3 c3:SX}(Mk:Heap.MadeObj hh h' x D SF.rule) (hxC:x≠SF.rule) (kh:K h' hs) (ge:GE fns hh) (R0:RuleAt fns hh) (hlam:fns.lam=OZ)
  (K':SOK fns k h' P (λb=>∃ o,h'.get? b=qn o) A env hs σ vals fp) (hfr:∃ l,A.frames=qn (env::l)/\FrOk hh l) (hvs:vals "self" = qn (.ref x))
  (hc1:σ "count" = qn (.d (.int ci),mc)) (hf1:σ "full" = qn (.d (.list rows),.deep)) (hf4:rows[0]? = qn (.list ys))
  (o1:fw env.scope.names "count" (.name "count") a3=vk) (o2:fw env.scope.names "full" (.name "full") b3=vk) (o3:fw env.scope.names "size" fA c3=vk)
  (hQ:∀ s',EP P ⟨hh,g,dr,tk,os⟩ (.rule ci (.list rows) ys.length,.deep) (.ref x) s'->Q .next s'):Ph (Pn prog w) A (Zc [a3,b3,c3] env) Q Er ⟨hs,g,dr,tk',os⟩:=by
 have kM:K hh h':=.of Mk.keeps
 have Zx:∃ o,h'.get? x=qn o:=by obtain ⟨o,e,_⟩:=Mk.inst; exact ⟨o,e⟩
 refine jy (Inst.ns1 Mk.inst Mk.dict) λox ex hxc hxd hxdict hDx hNs=>?_
 have ZD:∃ o,h'.get? D=qn o:=by obtain ⟨o,_,_,e,_⟩:=hNs; exact ⟨o,e⟩
 have kall:K hh hs:=KG.trans kM kh
 refine ae (K'.val "count" _ hc1) λuu z=>?_
 refine aq (z) λvc hvc NC _=>?_
 clear z
 refine ae (NC) λrvc _=>?_
 clear NC
 refine rvc.isInt_k λtc NF _=>?_
 (clear rvc; subst NF)
 refine ae (K'.val "full" _ hf1) λuu u=>?_
 refine aq (u) λvf hvf NG _=>?_
 clear u
 refine ae (NG) λrvf zvf=>?_
 clear NG
 refine ae (K'.deep "full" _ hf1 rfl) λdp1 dp2=>?_
 refine ae (Inst.kk Mk.inst Mk.dict kh) λI1 D1=>?_
 refine cS (lG o1) λq1 q2 v1 q3 NH ov1=>?_
 (clear o1; subst NH)
 refine cS (lG o2) λq4 q5 v2 q6 NI ov2=>?_
 (clear o2; subst NI)
 refine cS (lG o3) λq7 q8 v3 q9 NJ ov3=>?_
 (clear o3; subst NJ)
 refine aq (lM ov1) λq10 NQ _ nd1=>?_
 subst NQ
 refine aq (lM ov2) λq11 NM _ nd2=>?_
 subst NM
 have nds:aZ "self" = true:=by decide
 have p:∀ {h:P9}{mA:Str->O4 Lt},h.Inst x SF.rule mA->∀ o,h.get? x=qn o->¬ Stay o:=λI o e=>by
  refine aq (I) λo' e' c' _=>?_
  clear I
  rw[e] at e'; (have oc:=vj e'; clear e'; subst oc)
  exact Stay.not_cls (by rw[c']; simp) (by rw[c']; simp)
 have j:∀ {h:P9}{mA:Str->O4 Lt},h.Inst x SF.rule mA->(∀ o,h.get? x=qn o->o.dict=qn D)->(∀ o,h.get? D=qn o->¬ Stay o)/\∀ o,h.get? D=qn o->∀ vs n,o.data≠.seq vs n:=λI d=>by
  obtain ⟨_,_,_,_,_,_,o',es,ep,e',hd',_⟩:=Inst.ns1 I d
  exact ⟨λo e=>by rw[e] at e'; (have oc:=vj e'; clear e'; subst oc); exact Stay.not_dict hd',λo e vs n q=>by rw[e] at e'; (have oc:=vj e'; clear e'; subst oc); rw[hd'] at q; cases q⟩
 have nxf:x∉fp "full" := λq=>(dp1 x q).1 Zx
 have nDf:D∉fp "full" := λq=>(dp1 D q).1 ZD
 have t:∀ {h h2:P9}{mA:Str->O4 Lt},h.Inst x SF.rule mA->(∀ o,h.get? x=qn o->o.dict=qn D)->But2 x D h h2->R h vf (.list rows) (fp "full")->R h2 vf (.list rows) (fp "full"):=λI d b r=>by
  refine r.on2 λa o ha ⟨vs,n,hs⟩ e=>b a o (λq=>?_) (λq=>?_) e
  ·(clear D1 I1 Mk Zx b d j ex hDx hQ hvs hxC p; subst q)
   refine aq (I) λo' e' c' _=>?_
   clear I
   rw[e] at e'; (have oc:=vj e'; clear e'; subst oc)
   rcases ha with ha | ha
   ·exact nxf ha
   ·rw[c'] at ha; cases ha
  ·(clear D1 Mk ZD b hDx hNs hxdict nDf; subst q)
   exact (j I d).2 o e vs n hs
 refine Rs (Sh (dj K'.eok.kind nd1 (K'.loc.var K'.eok hvc) (dj K'.eok.kind nds (K'.loc.var K'.eok hvs) (j6 (fns:=fns) (R0.k kall) (by simp[fieldNames]) YK (by simp) hxC I1 D1 λh2 tk2 I2 b2 D2=>?_))) rfl)
 have k2:K hh h2:=b2.kk kall Mk.newX Mk.newD (p I1) (j I1 D1).1
 have L2:=K'.loc.but2 b2 Zx ZD
 refine Rs (Sh (dj K'.eok.kind nd2 (L2.var K'.eok hvf) (dj K'.eok.kind nds (L2.var K'.eok hvs) (j6 (fns:=fns) (R0.k k2) (by simp[fieldNames]) (XY _ _ YK) (by simp) hxC I2 D2 λh3 tk3 I3 b3 D3=>?_))) rfl)
 have k3:K hh h3:=b3.kk k2 Mk.newX Mk.newD (p I2) (j I2 D2).1
 have L3:=L2.but2 b3 Zx ZD
 have rf3:R h3 vf (.list rows) (fp "full"):=t I2 D2 b3 (t I1 D1 b2 rvf)
 have he:ev C fA (cL σ ["full"]) = .ok (sI ys.length):=xR hf1 hf4
 have cx3:Cx fns k A (λuu=>Wa) h3 env (cL σ ["full"]):=by
  refine ⟨K'.room,K'.eok,ge.k k3,(λq=>by rw[hlam] at q; cases q),λq=>?_,λy py hy _=>?_⟩
  ·refine bX (K'.out q) λl e1 e2 e3 e4=>?_
   refine af (hfr) λl' f1 f2=>?_
   refine (ah _ f1 (λenv' he'=>?_))
   rcases PC.mp he' with rfl | he'
   ·refine af (L3.ns) λm NS _=>?_
    refine bj (NS) λo es ep g1 g2 _=>?_
    refine af (L3.cls) λo' g3 g4=>?_
    rw[g1] at g3; (have oc:=vj g3; clear g3; subst oc)
    exact (aE K'.eok.kind (kX _ _ es ep e3 e4 g1 g4 g2))
   ·exact (f2.k k3) env' he'
  ·unfold cL at hy
   split at hy
   ·rename_i hm
    rw[O7.mp hm] at hy ⊢
    rw[hf1] at hy; (have oc:=vj hy; clear hy; subst oc)
    exact (aP vf (fp "full") (L3.var K'.eok hvf) ⟨rf3,zvf⟩ (λuu uu=>trivial))
   ·exact nN hy
 have S3:SimE fns k C XPc fA:=mX hf (nC cf (e9 "full") (sa 0))
 refine Rs (Sh (S3 ov3 cx3 (by rw[he]; simp) (λr hr v s4 E4=>?_) (λc hc=>by rw[he] at hc; cases hc)) (by
  refine PG (AU ov3) (λNB=>?_) (λq=>?_)
  ·refine cS (NB) λN3 Ok OQ OC N6 OE=>?_
   clear NB
   subst N6
   rfl
  ·cases q))
 rw[he] at hr; (have oc:=Out.ok.inj hr; clear hr; subst oc)
 obtain ⟨NR,as4,NO,_⟩:=E4
 refine aw (NR) λh4 tk4 NU k34=>?_
 clear NR
 subst NU
 refine ae (NO) λrv4 _=>?_
 clear NO
 refine rv4.isInt_k λt4 NV _=>?_
 (clear rv4; subst NV)
 refine ae (Inst.kk I3 D3 k34) λI4 D4=>?_
 have k4:K hh h4:=KG.trans k3 k34
 have L4:=L3.onK k34
 refine dj K'.eok.kind nds (L4.var K'.eok hvs) (j6 (fns:=fns) (R0.k k4) (by simp[fieldNames]) (XY _ _ (XY _ _ YK)) (by simp) hxC I4 D4 λh5 tk5 I5 b5 D5=>?_)
 have k5':K hh h5:=b5.kk k4 Mk.newX Mk.newD (p I4) (j I4 D4).1
 have rf5:R h5 vf (.list rows) (fp "full"):=t I4 D4 b5 (rf3.k k34)
 refine jy (Inst.ns1 I5 D5) λo5 e5 c5 d5 di5 ne5 ns5=>?_
 have nh:∀ a,¬ (∃ o,h'.get? a=qn o)->hh.get? a=none:=λa q=>by
  cases e:hh.get? a with
  | none=>rfl
  | some o=>exact Pq ⟨o,Mk.keeps a o e⟩ q
 refine TL (hQ _ ⟨(aC h5 tk5 rfl k5'),x::D::fp "full", (jX x D o5 vf (fp "full") tc t4 _ rfl rfl e5 c5 d5 di5 ne5 ns5 ?_ ?_ ?_ ?_ rf5 zvf),λa i=>.inr ?_,(λq=>by cases q),λuu=>⟨λa i=>?_,?_⟩⟩)
 ·rfl
 ·rfl
 ·rfl
 ·intro m hm
  simp only[methNames,PC,Sw,UC] at hm
  rcases hm with rfl | rfl | rfl | rfl | rfl<;>rfl
 ·rcases PC.mp i with rfl | i
  ·exact Mk.newX
  ·rcases PC.mp i with rfl | i
   ·exact Mk.newD
   ·exact nh a (dp1 a i).1
 ·rcases PC.mp i with rfl | i
  ·exact Mk.newX
  ·rcases PC.mp i with rfl | i
   ·exact Mk.newD
   ·exact nh a (dp1 a i).1
 ·refine Q6.mpr ⟨λq=>?_,Q6.mpr ⟨nDf,dp2⟩⟩
  rcases PC.mp q with q | q
  ·exact ne5 q.symm
  ·exact nxf q
theorem vH (hf:fns.hand=OZ) (hp:fns.init=qn p) (hC:cU {fns with lam:=p.2.lam } k C XPc) (hok:okI p.2 fn=vk)
  (hroom:Room fns.hand (k+1) A) (hfr:∃ l,A.frames=qn l/\FrOk s.heap l) (ge:GE fns s.heap) (rs:RVs s.heap xs vals as) (ha:∀ a∈as,P a) (nb:dC C fn xs≠.bad) (hQ:∀ r,dC C fn xs = .ok r->∀ v s',EP P s r v s'->Q v s') (hE:∀ c,dC C fn xs = .exc c->∀ x s',XPc c s x s'->Er x s') :
  Ph (Pn prog w) A (SV (.ref SF.rule) vals []) Q Er s:=by
 unfold okI at hok
 simp only[O9,PM,Q1,P0] at hok
 refine ae (hok) λNn hlam=>?_
 clear hok
 refine ae (Nn) λNo hfree=>?_
 clear Nn
 refine ae (No) λNu hself=>?_
 clear No
 refine ae (Nu) λNx hlast=>?_
 clear Nu
 refine ae (Nx) λNp hbody=>?_
 clear Nx
 refine ae (Np) λNl hnd=>?_
 clear Np
 refine ae (Nl) λn hbk=>?_
 clear Nl
 refine fF (Bd hlast) λa3 b3 c3 hl3 o1 o2 o3=>?_
 cases hσ:bq fn.params xs with
 | none=>exact Pq (by unfold dC; rw[hσ]) nb
 | some σ=>
  refine ae (pE rs hσ) λhlen m=>?_
  refine ak (m) λfp hfp=>?_
  clear m
  have R0:=ge.cls (.inr (by rw[hp]; rfl))
  refine bp (R0) λN mN Nq quiet Nt _=>?_
  clear R0
  obtain ⟨Nv,hN⟩:=Nq
  refine fq (Nv) λnm q bs' sn sub col dd k0 k1 k2 k3 k5 hCl=>?_
  clear Nv
  refine mh (Nt) λp' oI i1 i2 i3 i4 i5=>?_
  clear Nt
  rw[hp] at i1; (have oc:=vj i1; clear i1; subst oc)
  obtain ⟨hh,g,dr,tk,os⟩:=s
  refine wpAny_call_obj_init PySem.F.objNew hCl hN i2 i4 i5 λh' x D Mk=>?_
  have hxC:x≠SF.rule:=λq=>by have:=Mk.newX; rw[q] at this; rw[this] at hCl; exact nN hCl
  have kM:K hh h':=.of Mk.keeps
  refine vg (i3.k kM) λo fd ho hd hbd i hgl hcl hbl hcr hcode z hco hgen u=>?_
  rw[n] at z
  refine ae (hroom.at hf) λr1 r2=>?_
  have ge':GE fns h':=ge.k kM
  have K0fp:∀ y q,σ y=qn q->y ∈ "self" :: fn.params/\∃ V v,q=mk V/\(("self" :: fn.params).zip (.ref x::vals)).lookup y=qn v/\RV h' v V (fp y)/\∀ a∈fp y,P a:=λy q hq=>by
   refine ae (hfp y q hq) λh1 j=>?_
   refine bp (j) λV v h2 h3 h4 h5=>?_
   clear j
   have hys:y ≠ "self" := λe=>by
    rw[n] at hnd
    exact (Q6.mp hnd).1 (e▸h1)
   refine (aE (.tail _ h1) (bO V v h2 ?_ (h4.k kM) (λa h=>ha a (h5 a h))))
   rw[Rt,Qf,RD.mpr hys]
   exact h3
  have hu:(A.under (.builtin "type.__call__" ⟨.ref SF.rule::vals,[]⟩)).units<=A.units+50:=by
   have:(VZ "type.__call__" ⟨.ref SF.rule::vals,[]⟩).cUnits<=50:=by
    have:(VZ "type.__call__" ⟨.ref SF.rule::vals,[]⟩).cUnits=1+3*(VZ "type.__call__" ⟨.ref SF.rule::vals,[]⟩).frames:=rfl
    rw[this]
    have:(VZ "type.__call__" ⟨.ref SF.rule::vals,[]⟩).frames<=1:=by first | exact PH _ | exact Qn _
    exact KO this
   show A.units+_<=_
   exact EZ this
  refine YE (rP (s:=⟨h',g,dr,tk,os⟩) (A:=A.under (.builtin "type.__call__" ⟨.ref SF.rule::vals,[]⟩)) (by rw[XR]; exact HA r1) ho hd (kW ge.nolim kM) hcr hbd (z (.ref x::vals) (by rw[PR,PR,hlen])) hcl (mS i (λy hy=>hbk y (n▸hy))) (λs₁ X=>?_) hco hgen u)
  refine bi (X.x.toInCall.same) λh₁ tka Ny=>?_
  subst Ny
  have t:=X.x.toInCall.keep
  have KS:=nP (k:=k) (ft:=p.2) (fa:=p.1) (σ:=σ) (pn:="self" :: fn.params) (pv:=.ref x::vals) (fp:=fp) (P:=P) (s:=⟨h',g,dr,tk,os⟩) hf (n▸hnd) (λy hy=>hbk y (n▸hy)) hfree (A:=A.under (.builtin "type.__call__" ⟨.ref SF.rule::vals,[]⟩)) hroom.1 (by rw[XR]; exact GZ r1) (O5 (FV hu) r2) (by
   refine af (hfr) λl e1 e2=>?_
   clear hfr
   exact (ah l e1 (e2.k kM))) ge' i hgl hbl u hcode X K0fp
  have hsplit:p.2.body=p.2.body.take (p.2.body.length-3)++[a3,b3,c3]:=by rw[<- hl3]; exact (QY _ _).symm
  rw[hsplit,oG]
  refine Gt ?_
  have okb:cM (Rc fd h'.objs.size p.1).scope.names fn.body (p.2.body.take (p.2.body.length-3))=true:=by show cM fd.scope.names fn.body _=vk; rw[i]; exact hbody
  cases hex:exs C fn.body σ with
  | bad=>exact Pq (yw hσ hex) nb
  | exc c=>
   refine od (fns:={fns with lam:=p.2.lam }) hf hC fn.body okb KS hex λx s' st lv ex=>?_
   have kp:Kp ⟨h',g,dr,tk,os⟩ s':=by
    refine aw (st) λhb tk' Nz kk=>?_
    clear st
    (clear ex lv; subst Nz)
    exact (aC hb tk' rfl (Internal.K.step (Internal.K.of t) kk λb o e=>⟨o,e⟩))
   exact qP kp lv ex λs'' X=>hE c (xC hσ hex) x s'' (.of (aC h' tk rfl kM) X)
  | ok o=>
  obtain ⟨σ',fl⟩:=o
  cases fl with
  | ret q=>exact Pq (wR hσ hex) nb
  | next=>
  cases hfl:fQ σ' with
  | bad=>exact Pq ((oQ hσ hex).trans hfl) nb
  | exc c=>
   exact (ve hfl).elim
  | ok r=>
  replace hQ:=hQ r ((oQ hσ hex).trans hfl)
  refine f8 (t7 hfl) λci mc rows ys er hc1 hf1 hf4=>?_
  refine n6 (fns:={fns with lam:=p.2.lam }) hf hC fn.body okb KS hex (λuu s' vals' fp' st K' F=>?_) λq e=>by cases e
  refine aw (st) λhs' tk' NA kgs=>?_
  (clear st; subst NA)
  rw[er] at hQ
  have R0:=ge.cls (.inr (by rw[hp]; rfl))
  refine vZ (fns:={fns with lam:=p.2.lam }) C hf Mk hxC (Internal.K.step (Internal.K.of t) kgs λb o e=>⟨o,e⟩) (ge.flag _ _) R0 hlam K' ?_ ?_ hc1 hf1 hf4 (by show fw fd.scope.names _ _ _=vk; rw[i]; exact o1) (by show fw fd.scope.names _ _ _=vk; rw[i]; exact o2) (by show fw fd.scope.names _ _ _=vk; rw[i]; exact o3) λs' E=>⟨rfl,hQ _ _ E⟩
  ·refine af (hfr) λl' f1 f2=>?_
   exact (ah l' (Ws (A:=A.under (.builtin "type.__call__" ⟨.ref SF.rule::vals,[]⟩)) f1) f2)
  ·rw[(F.1 "self" hself).1]
   show (("self" :: fn.params).zip (Rq x::vals)).lookup "self" = _
   rw[Rt,Qf,Rb]
end
section
noncomputable def AK (fns:Fns) (L:rg (OX×Fn)):Prop:=∀ f fn,L.lookup f=qn fn->(f∈aQ->f∈SF.excN)/\(f∉aQ->if f = "Rule" then ∃ p,fns.init=qn p/\okI p.2 fn=vk else if f∈methNames then ∃ p,fns.mth f=qn p/\okF p.2 fn=vk/\p.2.lam=OZ else ∃ p,fns.fn f=qn p/\okF p.2 fn=vk/\p.2.lam=vk)
theorem Ci (h:okI ft f=vk):ft.lam=false:=by
 unfold okI at h
 simp only[O9,P0] at h
 exact h.2
theorem wG (hf:fns.hand=OZ) (hL:AK fns L):∀ n,cU {fns with lam:=vk } n (mkC L n) XPc/\cU {fns with lam:=OZ } n (aA (mkC L n)) XPc
 | 0=>⟨(λf g h=>by cases h),λf g h=>by
  unfold aA at h
  split at h<;>cases h⟩
 | n+1=>by
  refine ae (wG hf hL n) λi1 i2=>?_
  have u:∀ (b:PV) (f:OX) (g:rg V->Out (V×Mode)),mkC L (n+1) f=qn g->(f∈aQ->f∈SF.excN)/\(f∉aQ->∃ a,adr {fns with lam:=b } f=qn a/\∀ {A:PU}{P:Pz->Prop}{s:O0}{Q:Lt->O0->Prop}{Er:Lt->O0->Prop}{j:rg V}{vals:rg Lt}{as:rg Pz},
    Room fns.hand (n+1) A->(∃ l,A.frames=qn l/\FrOk s.heap l)->GE {fns with lam:=b } s.heap->RVs s.heap j vals as->(∀ a∈as,P a)->g j≠.bad->(∀ r,g j = .ok r->∀ v s',EP P s r v s'->Q v s')->(∀ c,g j = .exc c->∀ x s',XPc c s x s'->Er x s') ->
    Ph (Pn prog w) A (SV (.ref a) vals []) Q Er s):=λb f g h=>by
   refine bI (show (L.lookup f).map (λfn vs=>ce f (mkC L n) fn vs)=qn g from h) λfn hfn Nw=>?_
   (clear h; subst Nw)
   refine ae (hL f fn hfn) λh1 m=>?_
   refine ⟨h1,λhe=>?_⟩
   replace m:=m he
   by_cases hr:f = "Rule"
   ·rw[O1 hr] at m
    refine af (m) λp t k=>?_
    clear m
    refine (ah SF.rule (by unfold adr; rw[O1 hr]; show (fns.init).map _=_; rw[t]; rfl) (λi fr y z ha o hQ hE=>?_))
    have hk:∀ j,ce f (mkC L n) fn j=dC (aA (mkC L n)) fn j:=λj=>by unfold ce; rw[O1 hr]
    dsimp only at o
    rw[hk] at o
    refine vH (fns:={fns with lam:=b }) hf (p:=p) t (by rw[Ci k]; exact i2) k i fr y z ha o (λr e=>hQ r ((hk _).trans e)) λc e=>hE c ((hk _).trans e)
   ·rw[OY hr] at m
    by_cases hm:f∈methNames
    ·rw[O1 hm] at m
     refine aq (m) λp t k hl=>?_
     clear m
     refine (ah p.1 (by rw[sC hr hm]; show (fns.mth f).map _=_; rw[t]; rfl) (λi fr y z ha o hQ hE=>?_))
     have hk:∀ j,ce f (mkC L n) fn j=av (aA (mkC L n)) fn j:=λj=>by unfold ce; rw[OY hr,O1 hm]
     dsimp only at o
     rw[hk] at o
     refine bp (y.cls (.inl (bN f p t))) λuu uu uu uu uu hmt=>?_
     refine aq (hmt f p t) λuu uu hat _=>?_
     exact nc (fns:={fns with lam:=b }) hf (ft:=p.2) (by rw[hl]; exact i2) k i fr y hat z ha o (λr e=>hQ r ((hk _).trans e)) λc e=>hE c ((hk _).trans e)
    ·rw[OY hm] at m
     refine aq (m) λp t k hl=>?_
     clear m
     refine (ah p.1 (by rw[v7 hr hm]; show (fns.fn f).map _=_; rw[t]; rfl) (λi fr y z ha o hQ hE=>?_))
     have hk:∀ j,ce f (mkC L n) fn j=av (mkC L n) fn j:=λj=>by unfold ce; rw[OY hr,OY hm]
     dsimp only at o
     rw[hk] at o
     exact nc (fns:={fns with lam:=b }) hf (ft:=p.2) (by rw[hl]; exact i1) k i fr y (y.funs f p t) z ha o (λr e=>hQ r ((hk _).trans e)) λc e=>hE c ((hk _).trans e)
  refine ⟨λf g h=>⟨QH 1 n,λuu=>rfl,u vk f g h⟩,λf g h=>?_⟩
  unfold aA at h
  split at h
  ·exact nN h
  ·rename_i hn
   exact ⟨QH 1 n,λq=>Pq q hn,u OZ f g h⟩
end
noncomputable def cw (p:Un) (loose:rg Str) (mg mN:Str->O4 Lt) (L:rg (OX×Fn)):Fns where
 fn f:=if f = "Rule" \/ f∈methNames\/f∈aQ then O2 else (L.lookup f).bind λfn=>((Yo p).find? λd=>d.name==mL f).bind λd=>(gK (mg (mL f))).map λa=>(a,⟨fn.params,d.body,d.scope,vk⟩)
 mth m:=if m∈methNames then (L.lookup m).bind λfn=>(ey p loose m).bind λr=>(gK (mN (mL m))).map λa=>(a,⟨fn.params,r.body,r.scope,OZ⟩) else O2
 init:=(L.lookup "Rule").bind λfn=>(ey p loose "__init__").bind λr=>(gK (mN "__init__")).map λa=>(a,⟨"self" :: fn.params,r.body,r.scope,OZ⟩)
 lam:=vk
 hand:=OZ
theorem iI:∀ {l:rg (OX×α)}{x:OX}{v:α},l.lookup x=qn v->(x,v)∈l
 | (y,u)::l,x,v,h=>by
  rw[Qf] at h
  split at h
  ·rename_i e; (have g:=vj h; clear h; subst g); rw[Pv.mp e]; exact .head _
  ·exact .tail _ (iI h)
theorem s9 {ps:rg OX}(h:ps.Nodup):(ps.map mL).Nodup:=RI.mpr (Xz (λh e=>h (cr e)) h)
theorem su {ps:rg OX}(h:gU fd.params ps=vk) (hd:fd.defaults = .none) (hn:ps.Nodup) (vals:rg Lt) (hl:vals.length=ps.length):W7 fd ⟨vals,[]⟩=Qq ((ps.map mL).zip vals):=by
 unfold gU at h
 simp only[O9,Pv,Uu,SC] at h
 refine ae (h) λj k=>?_
 clear h
 refine ae (j) λi l=>?_
 clear j
 refine ae (i) λg m=>?_
 clear i
 refine ae (g) λo n=>?_
 clear g
 exact l9 o n m l k hd (s9 hn) (by rw[Pi]; exact hl)
theorem oH (h:okF ft f=vk):f.params.Nodup:=by
 unfold okF at h
 simp only[O9,PM] at h
 exact h.1.1.2
theorem vX (h:okI ft f=vk):ft.params.Nodup:=by
 unfold okI at h
 simp only[O9,PM] at h
 exact h.1.1.1.1.1.2
theorem mq (h:gG sc=vk):sc.isCoroutine=OZ/\sc.isGenerator=OZ/\sc.kind = .function:=by
 unfold gG at h
 simp only[O9,P0,Pv] at h
 exact ⟨h.1.1,h.1.2,h.2⟩
section
theorem EU (hS:∀ c P,h.TableAt c P #[]->SF.tab P) (T:Top p loose mean mg mb h) {f:OX}{ps:rg OX}{d:DefRec}(hd:(Yo p).find? (λd=>d.name==mL f)=qn d) (hn:ps.Nodup) (h1:gU d.params ps=vk) (h2:gG d.scope=vk) :
  ∃ a,mg (mL f)=qn (.ref a)/\FnAt h ⟨ps,d.body,d.scope,vk⟩ a:=by
 have y:=Ts hd
 have j:=V7 hd
 simp only[Pv] at j
 refine o7 (T.fn d y) λa o pm k doc x v u t=>?_
 have g:CodeOk h k d.name:=by
  refine CQ (T.tab d y) λa' o' fd c P r l n u4 z m=>?_
  rw[x] at r; cases r
  rw[v] at l; (have oc:=vj l; clear l; subst oc)
  rw[u] at n; cases n
  exact ⟨c,P,#[],u4,t,z,m,⟨trivial,λpos cv q=>by cases q⟩,hS c P m⟩
 refine aI (mq h2) λh7 h8 h9=>?_
 exact ⟨a,by rw[<- j]; exact x,o,_,v,u,rfl,rfl,rfl,rfl,rfl,t,λuu=>g,λi hl=>su h1 rfl hn i hl,h7,h8,h9⟩
theorem rR (P:PlainAt h c C N mN) {ps:rg OX}(hr:c.meths.find? (λr=>r.name==mL m)=qn r) (hn:ps.Nodup) (h1:gU r.params ps=vk) (h2:gG r.scope=vk) :
  ∃ a o,mN (mL m)=qn (.ref a)/\FnAt h ⟨ps,r.body,r.scope,OZ⟩ a/\h.get? a=qn o/\o.cls = .type "function" := by
 have i:=V7 hr
 simp only[Pv] at i
 refine wo (P.meths r (Ts hr)) λa o z cd y p j n l k=>?_
 refine aI (mq h2) λx v u=>?_
 exact ⟨a,o,by rw[<- i]; exact p,⟨o,_,j,l,rfl,rfl,rfl,rfl,rfl,k,(λq=>by cases q),λg t=>su h1 rfl hn g t,x,v,u⟩,j,n⟩
theorem B7 (TE:TopE p loose mg h) (Y:ig (bJ L) h) (T:Top p loose mean mg mb h) (hr:(gp p loose).isSome=vk):∃ c C N mN,gp p loose=qn c/\mg "Rule" = qn (.ref C)/\PlainAt h c C N mN/\∀ n∈fieldNames,mN (mL n)=none:=by
 refine bZ hr λc k=>?_
 have x:=Ts k
 have m:=V7 k
 simp only[Pv] at m
 refine bC (TE c x) λC N mN l P=>?_
 rw[m] at l
 refine ⟨c,C,N,mN,k,l,P.ofCmp,λn hf=>?_⟩
 obtain ⟨i,g',ad,_,_,C',o,cd,j,b1,t,b3,b4,b5⟩:=Y
 have y:i=mg:=g'.eq_nsMap.trans T.g.eq_nsMap.symm
 (clear T TE; subst y)
 have r:i "Rule" = qn (.ref C):=l
 rw[b1] at r; cases r
 refine fq (P.cls.obj) λnm q bs sn u col dd k0 k1 k2 k3 k5 e=>?_
 rw[t] at e; (have v:=vj e; clear e; (clear t; subst v))
 cases b3
 have z:j=mN:=b4.eq_nsMap.trans P.cls.ns.eq_nsMap.symm
 rw[<- z]
 exact b5 n hf
theorem Dc (Y:ig (bJ L) h) (T:Top p loose mean mg mb h) (ht:lZ p loose L=vk) {ad:OX->Pz}(had:∀ c∈bJ L,mg (mL c)=qn (.ref (ad c))) (hP:bJ L=[] \/ "PickError" ∈ bJ L) (hSF:∀ c,SF.exc c=ad c) :
  (∀ c∈bJ L,ExcAt h c)/\∀ c∈bJ L,∀ c' ∈ "PickError" :: bJ L,ad c=ad c'->c=c':=by
 obtain ⟨mg',g',m,a1,a2,_⟩:=Y
 have hg:mg' = mg:=g'.eq_nsMap.trans T.g.eq_nsMap.symm
 subst hg
 have t:∀ c∈bJ L,m c=ad c:=λc i=>by
  refine aw (a1 c i) λuu uu q _=>?_
  rw[had c i] at q
  exact (Jar (vj q)).symm
 refine ⟨λc i=>?_,λc i c' hc' q=>?_⟩
 ·have l : "PickError" ∈ bJ L:=hP.resolve_left λq=>by rw[q] at i; cases i
  refine bp (a1 c i) λo cd b1 v b3 u=>?_
  refine lD i λr hce=>?_
  refine aJ r λz hq y=>?_
  obtain ⟨f,fn⟩:=z
  (clear r; subst y)
  have k:=Q1.mp ht _ hq
  unfold iN at k
  rw[O1 (PS hce),Pv] at k
  refine af (T.ownAt k) λC O _=>?_
  obtain ⟨bm,N,nm,q,bs,n,sn,x,ab,col,dd,k0,k1,k2,k3,k5,mN,c1,c2,c3,c4⟩:=O.obj
  have eC:=O.bound
  rw[b1] at eC; cases eC
  rw[v] at c1; (have oc:=vj c1; clear c1; subst oc)
  cases b3
  dsimp only at u
  injection u with _ u
  have e1:SF.exc f=m f:=by rw[hSF,t f i]
  have e2:SF.exc "PickError" = m "PickError" := by rw[hSF,t _ l]
  have e3:bm=dN f:=by rw[u]; unfold dN; rw[e2]
  subst e3
  rw[<- e1] at v
  exact ⟨N,nm,q,bs,n,sn,x,ab,col,dd,k0,k1,k2,k3,k5,mN,by rw[e1] at v ⊢; exact v,c2,c3 _ (.head _),c4.tail⟩
 ·have l : "PickError" ∈ bJ L:=hP.resolve_left λq=>by rw[q] at i; cases i
  have j:c'∈bJ L:=(PC.mp hc').elim (λq=>q▸l) id
  exact a2 c i c' j (by rw[t c i,t c' j]; exact q)
theorem Bb (Y:ig (bJ L) h) (T:Top p loose mean mg mb h):∀ c∈bJ L,∃ a,mg (mL c)=qn (.ref a):=λc k=>by
 obtain ⟨i,l,m,n,_⟩:=Y
 have j:i=mg:=l.eq_nsMap.trans T.g.eq_nsMap.symm
 (clear T; subst j)
 refine aw (n c k) λuu uu q _=>?_
 exact ⟨_,q⟩
theorem nA (ht:lZ p loose L=vk) (hf:L.lookup f=qn fn):iN p loose f fn=true:=Q1.mp ht _ (iI hf)
theorem yB (hf:L.lookup f=qn fn) (he:f∈aQ):f∈bJ L:=Qk.mpr ⟨T1.mpr ⟨_,iI hf,rfl⟩,Qc he⟩
theorem vz (hS:∀ c P,h.TableAt c P #[]->SF.tab P) (hO:∀ b,SF.old b->∃ o,h.get? b=qn o) (T:Top p loose mean mg mb h) (TE:TopE p loose mg h) (Y:ig (bJ L) h) (ht:lZ p loose L=vk) (hb:yt p loose=vk) (hr:(gp p loose).isSome=vk) (hL:(L.lookup "Rule").isSome=vk) (hP:bJ L=[] \/ "PickError" ∈ bJ L)
  (hN:SF.excN=bJ L) (hA:∀ c,SF.exc c=((gK (mg (mL c))).getD 0)) (hR:SF.rule=(gK (mg "Rule")).getD 0):∃ mN,GE (cw p loose mg mN L) h/\AK (cw p loose mg mN L) L:=by
 refine f8 (B7 TE Y T hr) λc C N mN hc hC Pl t=>?_
 have eR:SF.rule=C:=by rw[hR,hC]; rfl
 have had:∀ c∈bJ L,mg (mL c)=qn (.ref (SF.exc c)):=λc hc=>by
  refine ak (Bb Y T c hc) λa e=>?_
  rw[hA,e]; rfl
 refine ae (Dc Y T ht (ad:=SF.exc) had hP λuu=>rfl) λx1 x2=>?_
 have mrec:∀ m,ey p loose m=c.meths.find? λr=>r.name==mL m:=λm=>by unfold ey; rw[hc]; rfl
 have tM:∀ m fn,L.lookup m=qn fn->m∈methNames->∃ a o r,ey p loose m=qn r/\mN (mL m)=qn (.ref a)/\FnAt h ⟨fn.params,r.body,r.scope,OZ⟩ a/\h.get? a=qn o/\o.cls = .type "function" /\ okF ⟨fn.params,r.body,r.scope,OZ⟩ fn=true:=λm fn hm hmm=>by
  have i:=nA ht hm
  have n1:m∉aQ:=λq=>by
   simp only[methNames,PC,Sw,UC] at hmm
   rcases hmm with rfl | rfl | rfl | rfl | rfl<;>revert q<;>decide
  have n2:m ≠ "Rule" := λq=>by (clear i hm n1; subst q); revert hmm; decide
  unfold iN at i
  rw[OY n1,OY n2,O1 hmm] at i
  refine aj i λr hr i=>?_
  simp only[O9] at i
  refine bp (rR Pl ((mrec m).symm.trans hr) (oH i.1.1) i.1.2 i.2) λa o u l v z=>?_
  exact ⟨a,o,r,hr,u,l,v,z,i.1.1⟩
 have tI:∀ fn,L.lookup "Rule" = qn fn->∃ a o r,ey p loose "__init__" = qn r/\mN "__init__" = qn (.ref a)/\FnAt h ⟨"self" :: fn.params,r.body,r.scope,OZ⟩ a/\h.get? a=qn o/\o.cls = .type "function" /\ okI ⟨"self" :: fn.params,r.body,r.scope,OZ⟩ fn=true:=λfn hm=>by
  have i:=nA ht hm
  unfold iN at i
  rw[OY (by decide),O1 rfl] at i
  refine aj i λr hr i=>?_
  simp only[O9] at i
  refine bp (rR Pl (ps:="self" :: fn.params) ((mrec "__init__").symm.trans hr) (vX i.1.1) i.1.2 i.2) λa o u l v z=>?_
  exact ⟨a,o,r,hr,u,l,v,z,i.1.1⟩
 have tF:∀ f fn,L.lookup f=qn fn->¬ (f = "Rule" \/ f∈methNames\/f∈aQ)->∃ a d,(Yo p).find? (λd=>d.name==mL f)=qn d/\mg (mL f)=qn (.ref a)/\FnAt h ⟨fn.params,d.body,d.scope,vk⟩ a/\okF ⟨fn.params,d.body,d.scope,vk⟩ fn=true:=λf fn hm y=>by
  have i:=nA ht hm
  unfold iN at i
  rw[OY (λq=>y (.inr (.inr q))),OY (λq=>y (.inl q)),OY (λq=>y (.inr (.inl q)))] at i
  refine aj i λd hd i=>?_
  simp only[O9] at i
  refine af (EU hS T hd (oH i.1.1) i.1.2 i.2) λa u l=>?_
  exact ⟨a,d,hd,u,l,i.1.1⟩
 have gF:∀ f k,(cw p loose mg mN L).fn f=qn k->¬ (f = "Rule" \/ f∈methNames\/f∈aQ)/\mg (mL f)=qn (.ref k.1)/\FnAt h k.2 k.1:=λf k j=>by
  simp only[cw] at j
  split at j
  ·exact nN j
  ·rename_i y
   refine bB j λfn t j=>?_
   refine bp (tF f fn t y) λa d u l v _=>?_
   rw[u,l] at j
   (have oc:=vj j; clear j; subst oc)
   exact ⟨y,l,v⟩
 have gM:∀ m k,(cw p loose mg mN L).mth m=qn k->m∈methNames/\∃ o,mN (mL m)=qn (.ref k.1)/\FnAt h k.2 k.1/\h.get? k.1=qn o/\o.cls = .type "function" := λm k j=>by
  simp only[cw] at j
  split at j
  ·rename_i y
   refine bB j λfn t j=>?_
   refine cQ (tM m fn t y) λa o r u l v z e5 _=>?_
   rw[u,l] at j
   (have oc:=vj j; clear j; subst oc)
   exact ⟨y,o,l,v,z,e5⟩
  ·exact nN j
 have gI:∀ k,(cw p loose mg mN L).init=qn k->∃ o,mN "__init__" = qn (.ref k.1)/\FnAt h k.2 k.1/\h.get? k.1=qn o/\o.cls = .type "function" := λk j=>by
  simp only[cw] at j
  refine bB j λfn t j=>?_
  refine cQ (tI fn t) λa o r u l v z e5 _=>?_
  rw[u,l] at j
  (have oc:=vj j; clear j; subst oc)
  exact ⟨o,l,v,z,e5⟩
 refine ⟨mN,⟨⟨mg,T.g,λf a hf hq=>?_,λx hx=>?_⟩,λf k j=>(gF f k j).2.2,λuu=>?_,⟨mb,T.b,λx hx=>?_⟩,T.nolimit,hO,⟨mg,T.g,λc hc=>?_,?_⟩,An (T.bmain) λbm ob a b c d e f=>⟨mg,bm,ob,T.g,a,b,c,d,e,f⟩⟩,λf fn hf=>⟨λhe=>by rw[hN]; exact yB hf he,λhe=>?_⟩⟩
 ·unfold adr at hq
  by_cases i:f = "Rule"
  ·rw[O1 i] at hq
   refine bI hq λuu uu Np=>?_
   subst Np
   rw[i,eR]; exact hC
  ·rw[OY i,OY hf] at hq
   refine bI hq λk j Nl=>?_
   subst Nl
   exact (gF f k j).2.1
 ·have:=Q1.mp hb x hx
  simp only[O9,P0,List.contains_eq_mem,QM] at this
  refine ae (this) λNq h5=>?_
  clear this
  refine ae (Nq) λNt h4=>?_
  clear Nq
  refine ae (Nt) λNv h3=>?_
  clear Nt
  refine ae (Nv) λi h2=>?_
  clear Nv
  exact T.free _ i h2 h3 h4 h5
 ·refine bZ hL λfn hfn'=>?_
  refine cQ (tI fn hfn') λa o r u l v z e5 _=>?_
  refine ⟨N,mN,eR▸Pl.cls,λn y=>?_,⟨(a,⟨"self" :: fn.params,r.body,r.scope,OZ⟩),o,?_,l,v,z,e5⟩,λm k j=>(gM m k j).2⟩
  ·simp only[PC,Sw,UC] at y
   rcases y with rfl | rfl | rfl | rfl | rfl | rfl
   ·exact Pl.quiet _ (PX _ (.head _))
   ·exact Pl.quiet _ (PX _ (.tail _ (.head _)))
   ·exact Pl.quiet _ (PX _ (.tail _ (.tail _ (.head _))))
   ·exact t _ (.head _)
   ·exact t _ (.tail _ (.head _))
   ·exact t _ (.tail _ (.tail _ (.head _)))
  ·simp only[cw,hfn',u,l,Tp,gK,TC]
 ·simp only[bnames,PC,Sw,UC] at hx
  rcases hx with rfl | rfl | rfl | rfl | rfl | rfl | rfl | rfl | rfl | rfl | rfl | rfl<;>(rw[T.builtins _ (by decide +kernel)]; kernel_rfl)
 ·rw[hN] at hc
  exact ⟨had c hc,x1 c hc⟩
 ·rw[hN]; exact x2
 ·by_cases i:f = "Rule"
  ·rw[O1 i]
   (clear he; subst i)
   refine cQ (tI fn hf) λa o r u l v z e5 e6=>?_
   exact ⟨(a,⟨"self" :: fn.params,r.body,r.scope,OZ⟩),by simp only[cw,hf,u,l,Tp,gK,TC],e6⟩
  ·rw[OY i]
   by_cases h2:f∈methNames
   ·rw[O1 h2]
    refine cQ (tM f fn hf h2) λa o r u l v z e5 e6=>?_
    exact ⟨(a,⟨fn.params,r.body,r.scope,OZ⟩),by simp only[cw,O1 h2,hf,u,l,Tp,gK,TC],e6,rfl⟩
   ·rw[OY h2]
    refine bp (tF f fn hf λq=>q.elim i λq=>q.elim h2 he) λa d u l v e6=>?_
    exact ⟨(a,⟨fn.params,d.body,d.scope,vk⟩),by simp only[cw,OY (show ¬ (f = "Rule" \/ f∈methNames\/f∈aQ) from λq=>q.elim i λq=>q.elim h2 he),hf,u,l,Tp,gK,TC],e6,rfl⟩
theorem rB (h:n<=60):Room OZ n callerA:=⟨λuu=>rfl,by show 1+Z3+2*n+4<Rv; unfold Z3 Rv; exact EN h,by show 4+100*n+300<UV; unfold UV; exact Io h⟩
theorem DV:qR gl:=by
 intro p g mean mg mb L s fn fa a n ns vs m Q Er i T TE Y ht hb hr hL hP hf hmg hn j ea hI hlen hQ
 replace i:SF=pp mg L s.heap:=i
 show Ph (Pn prog w) Zj (SV (.ref fa) [.ref a]) Q Er s
 refine af (vz (λc P x=>by rw[i]; exact ⟨c,x⟩) (λb hb=>by rw[i] at hb; exact hb) T TE Y ht hb hr hL hP (by rw[i]; rfl) (λuu=>by rw[i]; rfl) (by rw[i]; rfl)) λmN ge tab=>?_
 obtain ⟨k,hp,hok,z⟩:∃ k,(cw p g mg mN L).fn "law" = qn k/\okF k.2 fn=vk/\k.2.lam=true:=(tab "law" fn hf).2 (by decide)
 have ha:k.1=fa:=by
  have:(cw p g mg mN L).fn "law" = qn k:=hp
  simp only[cw] at this
  rw[OY (by decide),hf] at this
  refine bB (show ((Yo p).find? _).bind _=qn k from this) λd _ this=>?_
  rw[hmg] at this
  (have oc:=vj this; clear this; (clear z hok hp; subst oc)); rfl
 have hC:cU { (cw p g mg mN L) with lam:=k.2.lam } n (mkC L n) XPc:=by rw[z]; exact (wG (fns:=cw p g mg mN L) rfl tab n).1
 have rs:RVs s.heap [.d (aa ns)] [.ref a] ([a]++[]):=by
  refine .cons ⟨.list ea (RA.of_ints hI),?_⟩ .nil
  exact sz_list.mpr ⟨by rw[Pi]; exact hlen,gS ns⟩
 have hat:FnAt s.heap k.2 fa:=ha▸ge.funs "law" k hp
 refine nc (fns:=cw p g mg mN L) (P:=λuu=>Wa) rfl hC hok (rB (JQ hn)) ⟨[],rfl,λuu h=>nomatch h⟩ ge hat rs (λuu uu=>trivial) (by rw[j]; simp) (λr hr v s' E=>?_) λc hc=>by rw[j] at hc; cases hc
 rw[j] at hr; (have oc:=Out.ok.inj hr; clear hr; subst oc)
 obtain ⟨y,as,u,_⟩:=E
 refine aw (y) λh' tk NA kp=>?_
 clear y
 subst NA
 refine ae (u) λr _=>?_
 clear u
 cases r
 refine hQ h' tk ⟨λb o e=>?_,λb o e=>K.there kp e⟩
 refine af (kp b o (.inl trivial) e) λo' e' l=>?_
 cases l with
 | same q=>exact .inl (q▸e')
 | tab ps more q1 q2 q3 _=>
  rw[i] at q1; revert q1; intro t
  refine ak (t) λc q1=>?_
  clear t
  (clear e; subst q2 q3)
  exact .inr (.inl ⟨q1.isCodeTable,rfl,ps,more,rfl,e'⟩)
 | frame es ep q1 _ _ _ _ _=>rw[i] at q1; exact Pq ⟨o,e⟩ q1
end
theorem t6 {P:Params}{h:P9}{a:Pz}{vs:rg Lt}{xs:rg W.WData}(x:W.Well P h (.ref a) (.list xs)) (hL:h.IsList a vs.toArray):h.get? a=qn {cls:=.type "list", data:=.seq vs.toArray }:=by
 obtain ⟨o,e,j,n,g⟩:=hL
 cases x with
 | list e' _=>
  rw[e] at e'; (have i:=vj e'; clear e'; (clear j; subst i))
  dsimp only at g
  injection g with h1 h2
  rw[e,h1]
theorem wQ {w:World}{prog:Un}(T:Top p loose mean mg mb s.heap) (TE:TopE p loose mg s.heap) (Y:ig (bJ L) s.heap) (ht:lZ p loose L=vk) (hb:yt p loose=vk) (hr:(gp p loose).isSome=vk) (hL:(L.lookup "Rule").isSome=vk) (hP:bJ L=[] \/ "PickError" ∈ bJ L)
  (hf:L.lookup "law" = qn fn) (hmg:mg (mL "law")=qn (.ref fa)) (hn:n<=50) (hrun:av (mkC L n) fn [.d (aa ns)] = .ok (.d (.bool vk),m)) (ea:s.heap.get? a=qn {cls:=.type "list", data:=.seq vs.toArray }) (hI:Ry vs ns) (hlen:ns.length<=2^22)
  (hQ:∀ h' tk,OldK s.heap h'->Q (.bool vk) {s with heap:=h',toks:=tk }):Ph (Pn prog w) Zj (SV (.ref fa) [.ref a]) Q Er s :=
 De DV ⟨prog,w,pp mg L s.heap⟩ rfl T TE Y ht hb hr hL hP hf hmg hn hrun ea hI hlen hQ
theorem iB:∀ {xs:rg Pk},(∀ x∈xs,x.depth<=n)->TI xs<=n
 | [],_=>by simp[TI]
 | x::xs,h=>by
  rw[TI]
  exact Jaa.mpr ⟨h x (.head _),iB λy g=>h y (.tail _ g)⟩
theorem f7:∀ {xs:rg Pk},(∀ x∈xs,x.canLay0=vk)->Vj xs=vk
 | [],_=>by simp[Vj]
 | x::xs,h=>by
  rw[Vj,h x (.head _),f7 λy g=>h y (.tail _ g)]; rfl
noncomputable def Low (n:Pa) (d:Pk):Prop:=d.canLay0=vk/\d.depth<=n
theorem Low.okc (h:Low n d) (hn:n<=64:=by decide):okc d=true:=by
 unfold Internal.okc
 rw[h.1,Qc (If h.2 hn)]; rfl
theorem Low.int (i:O3) (n:Pa):Low (n+1) (.int i):=⟨rfl,by simp[UO]⟩
theorem Low.list (h:∀ x∈xs,Low n x):Low (n+1) (.list xs) :=
 ⟨by rw[UX]; exact f7 λx g=>(h x g).1,by rw[UO]; have:=iB λx g=>(h x g).2; exact kO this⟩
theorem Low.tuple (h:∀ x∈xs,Low n x):Low (n+1) (.tuple xs) :=
 ⟨by rw[UX]; exact f7 λx g=>(h x g).1,by rw[UO]; have:=iB λx g=>(h x g).2; exact kO this⟩
theorem pN (ns:rg O3) (n:Pa):Low (n+2) (aa ns):=.list λx h=>by
 refine aJ h λi _ g=>?_
 (clear h; subst g)
 exact .int i n
theorem Cv (ns:rg O3) (n:Pa):Low (n+2) (aO ns):=.tuple λx h=>by
 refine aJ h λi _ g=>?_
 (clear h; subst g)
 exact .int i n
theorem yc (t:rg (rg O3)) (n:Pa):Low (n+3) (ag t):=.list λx h=>by
 refine aJ h λi _ g=>?_
 (clear h; subst g)
 exact pN i n
@[simp] theorem iV (i:O3):okc (.int i)=true:=(Low.int i 0).okc
@[simp] theorem MV:okc .none=true:=rfl
@[simp] theorem dB (ns:rg O3):okc (aa ns)=true:=(pN ns 0).okc
@[simp] theorem okc_ints' (ns:rg O3):okc (.list (ns.map .int))=true:=dB ns
@[simp] theorem fz (t:rg (rg O3)):okc (ag t)=true:=(yc t 0).okc
@[simp] theorem okc_rows' (t:rg (rg O3)):okc (.list (t.map aa))=true:=fz t
@[simp] theorem Nc:okc (.list [])=true:=dB []
@[simp] theorem m8 (a b:O3):QQ (.int a) (.int b)=decide (a=b):=by
 rw[QQ]; by_cases h:a=b<;>simp[h]
theorem iy:∀ (a b:rg O3),QV (a.map .int) (b.map .int)=decide (a=b)
 | [],[]=>by simp[QV]
 | [],y::b=>by simp[QV]
 | x::a,[]=>by simp[QV]
 | x::a,y::b=>by
  rw[QE,QE,QV,iy a b,m8]
  by_cases h1:x=y<;>by_cases h2:a=b<;>simp[h1,h2]
@[simp] theorem gY (a b:rg O3):QQ (aa a) (aa b)=decide (a=b):=by
 unfold aa; rw[QQ]; exact iy a b
@[simp] theorem eqv_ints' (a b:rg O3):QQ (.list (a.map .int)) (.list (b.map .int))=decide (a=b):=gY a b
theorem lf:∀ (a b:rg (rg O3)),QV (a.map aa) (b.map aa)=decide (a=b)
 | [],[]=>by simp[QV]
 | [],y::b=>by simp[QV]
 | x::a,[]=>by simp[QV]
 | x::a,y::b=>by
  rw[QE,QE,QV,lf a b,gY]
  by_cases h1:x=y<;>by_cases h2:a=b<;>simp[h1,h2]
@[simp] theorem qK (a b:rg (rg O3)):QQ (ag a) (ag b)=decide (a=b):=by
 unfold ag; rw[QQ]; exact lf a b
@[simp] theorem C8 (a:rg O3):QQ (aa a) (.list [])=decide (a=[]):=gY a []
@[simp] theorem qy (k:O3) (ns:rg O3):inV (.int k) (.d (aa ns)) = .ok (decide (k∈ns)):=by
 show (if okc (.int k)&&okc (aa ns) then Out.ok ((ns.map PA).any λy=>QQ y (.int k)) else .bad)=_
 rw[iV,dB,O1 (by decide)]
 congr 1
 rw[V8,Zw]
 simp[Vk]
@[simp] theorem qT (k:rg O3) (t:rg (rg O3)):inV (aa k) (.d (ag t)) = .ok (decide (k∈t)):=by
 show (if okc (aa k)&&okc (ag t) then Out.ok ((t.map aa).any λy=>QQ y (aa k)) else .bad)=_
 rw[dB,fz,O1 (by decide)]
 congr 1
 rw[V8,Zw]
 simp[Vk]
@[simp] theorem cY:∀ ns:rg O3,aM (ns.map .int)=qn ns
 | []=>rfl
 | i::ns=>by rw[QE,aM,cY ns]; rfl
theorem uT (ns:rg O3):(ns.map PA).all sx=true:=by rw[Xf,Q1]; intro _ _; rfl
@[simp] theorem kj (ns:rg O3):fresh (ns.map .int) = .deep:=by unfold fresh; rw[uT]; rfl
@[simp] theorem Df (i:O3):mk (.d (.int i))=sI i:=rfl
@[simp] theorem Nf (ns:rg O3):mk (.d (aa ns))=(.d (aa ns),.sh):=rfl
theorem mz:∀ {ns:rg O3},(∀ i∈ns,F (.int i) = .ok (if p i then qn (sI (f i)) else O2))->bM F (ns.map .int) = .ok (((ns.filter p).map f).map .int,vk)
 | [],_=>rfl
 | i::ns,h=>by
  rw[QE,bM,h i (.head _),mz λj g=>h j (.tail _ g)]
  simp only[Out.ok_bind]
  cases hp:p i<;>simp[hp,sI,TU]
theorem qW:∀ {l:rg α},(∀ i∈l,F (e i) = .ok (qn (sI (f i))))->bM F (l.map e) = .ok ((l.map f).map .int,vk)
 | [],_=>rfl
 | i::l,h=>by
  rw[QE,bM,h i (.head _),qW λj g=>h j (.tail _ g)]
  rfl
theorem jD {α:Type}{F:Pk->Out (O4 (V×Mode))}{e:α->Pk}{f:α->rg O3}{p:α->PV}{m:α->Mode}:∀ {l:rg α},(∀ i∈l,F (e i) = .ok (if p i then qn (.d (aa (f i)),m i) else O2)) ->
  ∃ b,bM F (l.map e) = .ok (((l.filter p).map f).map aa,b)/\((∀ i∈l,m i = .deep)->b=vk)
 | [],_=>(ah vk rfl (λuu=>rfl))
 | i::l,h=>by
  refine af (jD (l:=l) λj g=>h j (.tail _ g)) λb n k=>?_
  rw[QE,bM,h i (.head _),n]
  simp only[Out.ok_bind]
  cases hp:p i
  ·exact (ah b (by simp[hp,TU]) (λq=>k λj g=>q j (.tail _ g)))
  ·refine (ah (decide (m i = .deep)&&b) (by simp[hp,TU]) (λq=>?_))
   rw[q i (.head _),k λj g=>q j (.tail _ g)]; rfl
theorem lQ (a b:O3):dF a b=((QR (b-a).toNat).map λ(k:Pa)=>a+(k:O3)).map .int:=by
 unfold dF; rw[VW]; rfl
noncomputable def aS (n:Pa):rg Int:=(QR n).map λ(k:Pa)=>(k:O3)
theorem wv {n:Pa}(h:n<=1000000):cC 0 n = .ok ((aS n).map .int,.deep):=by
 unfold cC
 rw[O1 (cF (by unfold lim; exact Hn h) G4 Gv Hp (K5 h)),lQ]
 simp[aS]
theorem mem_upTo:i∈aS n↔0<=i/\i<n:=by
 unfold aS
 simp only[T1,YL]
 constructor
 ·rintro ⟨k,hk,rfl⟩; exact JT hk
 ·rintro ⟨g,h⟩; exact (ah i.toNat (la1 g h) (JS g))
theorem oU (hk:bl i xs.length=qn k) (h:xs[k]? = qn y):fy (.list xs) (.int i) = .ok (mk (.d y)):=by
 show (am ((bl i xs.length).bind λk=>xs[k]?) λz=>Out.ok (mk (.d z)))=_
 rw[hk,Tp,h]; rfl
theorem gh {i:O3}{n:Pa}(h0:0<=i) (h:i<n):bl i n=qn i.toNat:=by unfold bl; rw[O1 h0,O1 h]
theorem wI (h0:0<=i) (h:ns[i.toNat]? = qn x):fy (aa ns) (.int i) = .ok (sI x):=by
 have g:i.toNat<ns.length:=(P3.mp h).1
 exact oU (gh h0 (by rw[Pi]; exact Al g)) (by rw[P1,h]; rfl)
section
variable (a b:O3) (xs ys:rg O3) (t u:rg (rg O3)) (σ:St) (x y:OX) (v:V×Mode)
@[simp] theorem Nb:upd σ x v y=if y=x then qn v else σ y:=rfl
@[simp] theorem b6 (b:PV):au (.d (.bool b)) = .ok b:=rfl
@[simp] theorem Ni:cz .lt (.d (.int a)) (.d (.int b)) = .ok (decide (a<b)):=rfl
@[simp] theorem Nj:cz .gt (.d (.int a)) (.d (.int b)) = .ok (decide (b<a)):=rfl
@[simp] theorem Nh:cz .ge (.d (.int a)) (.d (.int b)) = .ok (decide (b<=a)):=rfl
@[simp] theorem Dm:cz .eq (.d (.int a)) (.d (.int b)) = .ok (decide (a=b)):=by
 show (if okc (.int a)&&okc (.int b) then Out.ok (QQ (.int a) (.int b)) else .bad)=_
 rw[iV,iV,m8,O1 (by decide)]
@[simp] theorem Dr:cz .ne (.d (.int a)) (.d (.int b)) = .ok (!decide (a=b)):=by
 show (if okc (.int a)&&okc (.int b) then Out.ok (!PyData.eqv (.int a) (.int b)) else .bad)=_
 rw[iV,iV,m8,O1 (by decide)]
@[simp] theorem Bh:cz .eq (.d (aa xs)) (.d (aa ys)) = .ok (decide (xs=ys)):=by
 show (if okc (aa xs)&&okc (aa ys) then Out.ok (QQ (aa xs) (aa ys)) else .bad)=_
 rw[dB,dB,gY,O1 (by decide)]
@[simp] theorem CH:cz .ne (.d (aa xs)) (.d (aa ys)) = .ok (!decide (xs=ys)):=by
 show (if okc (aa xs)&&okc (aa ys) then Out.ok (!PyData.eqv (aa xs) (aa ys)) else .bad)=_
 rw[dB,dB,gY,O1 (by decide)]
@[simp] theorem Bn:cz .eq (.d (ag t)) (.d (ag u)) = .ok (decide (t=u)):=by
 show (if okc (ag t)&&okc (ag u) then Out.ok (QQ (ag t) (ag u)) else .bad)=_
 rw[fz,fz,qK,O1 (by decide)]
@[simp] theorem Ng:cz .ne (.d (ag t)) (.d (ag u)) = .ok (!decide (t=u)):=by
 show (if okc (ag t)&&okc (ag u) then Out.ok (!PyData.eqv (ag t) (ag u)) else .bad)=_
 rw[fz,fz,qK,O1 (by decide)]
@[simp] theorem Di:cz .isin (.d (.int a)) (.d (aa xs)) = .ok (decide (a∈xs)):=qy a xs
@[simp] theorem Cq:cz .notin (.d (.int a)) (.d (aa xs)) = .ok (!decide (a∈xs)):=by
 show ((inV (.int a) (.d (aa xs))).bind λb=>Out.ok (!b))=_
 rw[qy]; rfl
@[simp] theorem BP:cz .isin (.d (aa xs)) (.d (ag t)) = .ok (decide (xs∈t)):=qT xs t
@[simp] theorem M7:dR .add (.int a) (.int b) = .ok (sI (a+b)):=rfl
@[simp] theorem Nd:dR .sub (.int a) (.int b) = .ok (sI (a-b)):=rfl
@[simp] theorem Na:dR .xor (.int a) (.int b) = .ok (sI (UT a b)):=rfl
theorem uM (h:a.natAbs<2^63):dR .mul (.int a) (.int b) = .ok (sI (a*b)):=by
 show (if a.natAbs<2^63\/b.natAbs<2^63 then Out.ok (sI (a*b)) else .bad)=_
 rw[O1 (.inl h)]
theorem vy (h:b.natAbs<2^63):dR .mul (.int a) (.int b) = .ok (sI (a*b)):=by
 show (if a.natAbs<2^63\/b.natAbs<2^63 then Out.ok (sI (a*b)) else .bad)=_
 rw[O1 (.inr h)]
theorem Cs (h:0<b):dR .mod (.int a) (.int b) = .ok (sI (a%b)):=by
 show (if b=0 then Out.bad else Out.ok (sI (a.fmod b)))=_
 rw[OY (J7 h),Int.fmod_eq_emod_of_nonneg _ (A2 h)]
theorem Ba (h:0<b) (h':b<1000000000):dR .fdiv (.int a) (.int b) = .ok (sI (a/b)):=by
 show (if b=0\/1000000000<=b.natAbs then Out.bad else Out.ok (sI (a.fdiv b)))=_
 rw[OY (by lia),Int.fdiv_eq_ediv_of_nonneg _ (A2 h)]
theorem yN (h:xs.length+ys.length<=1000000):dR .add (aa xs) (aa ys) = .ok (.d (aa (xs++ys)),.deep):=by
 show (if (xs.map PA).length+(ys.map PA).length<=lim then Out.ok (V.d (.list (xs.map .int++ys.map .int)),fresh (xs.map .int++ys.map .int)) else .bad)=_
 rw[Pi,Pi,O1 (show _<=lim from h),<- SJ,kj]; rfl
@[simp] theorem Db:b1V .len (.d (aa xs)) = .ok (sI xs.length):=by
 show Out.ok (sI (xs.map PA).length)=_
 rw[Pi]
@[simp] theorem Bt:b1V .len (.d (ag t)) = .ok (sI t.length):=by
 show Out.ok (sI (t.map aa).length)=_
 rw[Pi]
@[simp] theorem Bz:b1V .list (.d (aa xs)) = .ok (.d (aa xs),.deep):=by
 show Out.ok (V.d (.list (xs.map PA)),fresh (xs.map PA))=_
 rw[kj]; rfl
@[simp] theorem xb:b1V .tuple (.d (aa xs)) = .ok (.d (aO xs),.deep):=by
 show Out.ok (V.d (.tuple (xs.map PA)),if (xs.map PA).all sx then Mode.deep else .sh)=_
 rw[uT,O1 rfl]; rfl
noncomputable def aL (xs:rg O3):rg Int:=xs.mergeSort λa b=>decide (a<=b)
theorem oF (h:xs.length<64):b1V .sorted (.d (aa xs)) = .ok (.d (aa (aL xs)),.deep):=by
 show eF (xs.map PA)=_
 unfold eF
 rw[Pi,O1 h,cY]; rfl
theorem lT (h:xs.length<128) (h0:∀ i∈xs,0<=i):b1V .sorted (.d (aa xs)) = .ok (.d (aa (aL xs)),.deep):=by
 by_cases h1:xs.length<64
 ·exact oF xs h1
 show eF (xs.map PA)=_
 unfold eF
 rw[Pi,OY h1,O1 h,cY]
 show (if _ then _ else _)=_
 rw[O1 h0]; rfl
theorem rh (h:xs.length<128) (h0:∀ i∈xs,0<=i) (hs:aL xs=xs):b1V .sorted (.d (aa xs)) = .ok (.d (aa xs),.deep):=by
 rw[lT xs h h0,hs]
@[simp] theorem D6:iA (.d (.int a)) "int" = .ok true:=rfl
@[simp] theorem CM:iA (.d (.int a)) "bool" = .ok false:=rfl
@[simp] theorem CK:iA (.d (aa xs)) "list" = .ok true:=rfl
@[simp] theorem wO:(sI a).1 = .d (.int a):=rfl
@[simp] theorem C4:(sI a).2 = .deep:=rfl
@[simp] theorem jq (b:PV):(sB b).1 = .d (.bool b):=rfl
@[simp] theorem Nk (b:PV):(sB b).2 = .deep:=rfl
@[simp] theorem MU:b0 []=qn []:=rfl
@[simp] theorem My (m:Mode) (l:rg (V×Mode)):b0 ((.d (.int a),m)::l)=(b0 l).map (.int a :: ·):=rfl
@[simp] theorem M9 (l:rg (V×Mode)):b0 (sI a::l)=(b0 l).map (.int a :: ·):=rfl
@[simp] theorem D0:allDeep []=true:=rfl
@[simp] theorem FS (l:rg (V×Mode)):allDeep (sI a::l)=allDeep l:=by simp[allDeep]
end
theorem eT (xs:rg O3):(aL xs).Perm xs:=Qu ..
theorem qh (xs:rg O3):(aL xs).Pairwise (·<=·):=by
 have:=Rz (le:=λa b:O3=>decide (a<=b)) (λa b c h1 h2=>by simp at *; exact zA h1 h2) (λa b=>by simp; exact zP) xs
 exact this.imp (by intro a b h; simpa using h)
theorem nX:∀ {l l':rg O3},l.Perm l'->l.Pairwise (·<=·)->l'.Pairwise (·<=·)->l=l'
 | [],l',p,_,_=>by rw[p.nil_eq]
 | a::l,[],p,_,_=>by cases p.eq_nil
 | a::l,b::l',p,h,h'=>by
  refine ae (SQ.mp h) λk j=>?_
  refine ae (SQ.mp h') λg i=>?_
  have e:a=b:=by
   rcases PC.mp (p.mem_iff.mp (Uo (a:=a) (l:=l))) with e | e
   ·exact e
   ·rcases PC.mp (p.mem_iff.mpr (Uo (a:=b) (l:=l'))) with e' | e'
    ·exact e'.symm
    ·have:=k b e'; have:=g a e; exact z9 ‹_› this
  (clear h' g; subst e)
  rw[nX ((Yt a).mp p) j i]
theorem qs (p:xs.Perm ys) (h:ys.Pairwise (·<=·)):aL xs=ys:=nX ((eT xs).trans p) (qh xs) h
@[simp] theorem ot (xs:rg O3):fZ (.d (aa xs))=qn (xs.map .int):=rfl
@[simp] theorem n8 (t:rg (rg O3)):fZ (.d (ag t))=qn (t.map aa):=rfl
@[simp] theorem aV (xs:rg O3) (m:Mode):itV (.d (aa xs),m) = .ok (xs.map .int,m):=rfl
@[simp] theorem aY (t:rg (rg O3)) (m:Mode):itV (.d (ag t),m) = .ok (t.map aa,m):=rfl
@[simp] theorem rE (xs:rg O3) (a:O3):Z4 (xs.map .int++[.int a])=aa (xs++[a]):=by unfold aa; rw[SJ]; rfl
theorem ik (h:xs.length<=1000000):jW σ x ns mx xs .deep = .ok (upd σ x (.d (.list xs),mx),.next):=by
 unfold jW
 rw[O1 (show _<=lim from h),O1 rfl]
@[simp] theorem bG (n:Pa):(aS n).length=n:=by simp[aS]
theorem s6 (xs:rg O3) (j:Pa) (x:O3):Z4 ((xs.map PA).take j ++ .int x::(xs.map PA).drop j)=aa (xs.take j++x::xs.drop j):=by
 unfold aa; rw[SJ,QE,List.map_take,Y3]
theorem oJ (xs:rg O3) (n:Pa) (h:n<=1000000):jG (aa xs) (.int n) = .ok (.d (aa (xs.drop n)),.deep):=by
 unfold aa jG
 dsimp only
 rw[O1 ⟨by exact Ai,by exact IL h⟩,T7,<- Y3,kj]
theorem gL (h:ex C s σ = .ok (σ',.next)):exs C (.cons s r) σ=exs C r σ':=by
 simp only[bf,h,Out.ok_bind]
theorem CA (h:ex C s σ = .ok (σ',.ret v)):exs C (.cons s r) σ = .ok (σ',.ret v):=by
 simp only[bf,h,Out.ok_bind]
section
theorem vh (ha:ev C a σ = .ok (.d x,mx)) (hb:ev C b σ = .ok (.d y,my)):ev C (.slo a b) σ=jG x y:=by simp only[gu,ha,hb,Out.ok_bind]
theorem iK (ha:ev C a σ = .ok (.d x,mx)) (hb:ev C b σ = .ok (.d y,my)):ev C (.sub a b) σ=fy x y:=by simp only[fB,ha,hb,Out.ok_bind]
theorem dW (ha:ev C a σ = .ok (.d x,mx)) (hb:ev C b σ = .ok (.d y,my)):ev C (.bin o a b) σ=dR o x y:=by simp only[gB,ha,hb,Out.ok_bind]
theorem C6 (h:ev C a σ = .ok r):ex C (.ret a) σ = .ok (σ,.ret r):=by simp only[je,h,Out.ok_bind]
theorem oR (h:ev C a σ = .ok r) (hd:r.2 = .deep):ex C (.assign z a) σ = .ok (upd σ z r,.next):=by
 simp only[bt,jY h,Out.ok_bind,consume,hd,Q4]
end
section
theorem jb (hC:C f=qn g) (he:evs C es σ = .ok l):ev C (.call f es) σ=g (l.map (·.1)):=by simp only[eZ,hC,he,Out.ok_bind]
theorem ai (h:ev C a σ = .ok r) (hs:evs C es σ = .ok l):evs C (.cons a es) σ = .ok (r::l):=by simp only[bk,h,hs,Out.ok_bind]
theorem ax:evs C .nil σ = .ok []:=by simp only[bg]
theorem bF (ha:ev C a σ = .ok (x,mx)) (hb:ev C b σ = .ok (y,my)) (h:cz o x y = .ok t):ev C (.cmp o a b) σ = .ok (sB t):=by simp only[eJ,ha,hb,h,Out.ok_bind]
theorem fP (ha:ev C a σ = .ok (sB t)):ev C (.not a) σ = .ok (sB (!t)):=by simp only[ei,ha,Out.ok_bind,jq,b6]
theorem BQ (ha:ev C a σ = .ok (sB OZ)) (hb:ev C b σ = .ok (sB t)):ev C (.or a b) σ = .ok (sB t):=by
 simp only[fN,ha,hb,Out.ok_bind,jq,b6,PK,Ql]
theorem BF (ha:ev C a σ = .ok (sB vk)):ev C (.or a b) σ = .ok (sB vk):=by
 simp only[fN,ha,Out.ok_bind,jq,b6,Q4]
theorem wX (ha:ev C a σ = .ok (sB vk)) (hb:ev C b σ = .ok (sB t)):ev C (.and a b) σ = .ok (sB t):=by
 simp only[eu,ha,hb,Out.ok_bind,jq,b6,Q4]
theorem xl (ha:ev C a σ = .ok (sB OZ)):ev C (.and a b) σ = .ok (sB OZ):=by
 simp only[eu,ha,Out.ok_bind,jq,b6,PK,Ql]
theorem ny (h:ev C c σ = .ok (sB OZ)):ex C (.ite c u v) σ=exs C v σ:=by simp only[eB,h,Out.ok_bind,jq,b6,PK,Ql]
theorem sF (h:ev C c σ = .ok (sB vk)):ex C (.ite c u v) σ=exs C u σ:=by simp only[eB,h,Out.ok_bind,jq,b6,Q4]
theorem iS:exs C .nil σ = .ok (σ,.next):=by simp only[cq]
theorem d6 (ha:ev C a σ = .ok (x,mx)):ev C (.bi1 f a) σ=b1V f x:=by simp only[fo,ha,Out.ok_bind]
theorem tO (h:σ z=qn p) (hr:mk p.1=r):ev C (.name z) σ = .ok r:=by simp only[cK,h,hr]
theorem aF (h:ev C a σ = .ok r) (hq:itV r = .ok q):bw C (.e a) σ = .ok q:=by simp only[iL,h,Out.ok_bind,hq]
theorem cu {n:Pa}{m:Mode}(h:ev C a σ = .ok (.d (.int n),m)) (hn:n<=1000000):bw C (.r1 a) σ = .ok ((aS n).map .int,.deep):=by
 simp only[gP,h,Out.ok_bind]; exact wv hn
theorem si {elt:E}(h:bw C it σ = .ok q) (hr:bM (λy=>(ev C elt (upd σ z (mk (.d y)))).bind λr=>.ok (qn r)) q.1 = .ok r):ev C (.comp elt z it) σ = .ok (.d (.list r.1),if r.2 then .deep else .top):=by
 simp only[d7,h,Out.ok_bind,hr,Out.calm_ok]
theorem om {elt c:E}(h:bw C it σ = .ok q) (hr:bM (λy=>(ev C c (upd σ z (mk (.d y)))).bind λt=>(au t.1).bind λb=>if b then (ev C elt (upd σ z (mk (.d y)))).bind λr=>.ok (qn r) else .ok O2) q.1 = .ok r):ev C (.compif elt z it c) σ = .ok (.d (.list r.1),if r.2 then .deep else .top):=by
 simp only[c6,h,Out.ok_bind,hr,Out.calm_ok]
theorem bS {c:E}{z:OX}{it:It}{ns:rg O3}{m:Mode}(p:O3->PV) (h:bw C it σ = .ok (ns.map .int,m)) (hc:∀ i∈ns,ev C c (upd σ z (sI i)) = .ok (sB (p i))):ev C (.compif (.name z) z it c) σ = .ok (.d (aa (ns.filter p)),.deep):=by
 rw[om h (r:=((ns.filter p).map .int,vk))]
 ·rfl
 ·have:=mz (F:=λy=>(ev C c (upd σ z (mk (.d y)))).bind λt=>(au t.1).bind λb=>if b then (ev C (.name z) (upd σ z (mk (.d y)))).bind λr=>.ok (qn r) else .ok O2) (f:=λi=>i) (p:=p) (ns:=ns) λi g=>by
   rw[Df,hc i g]
   cases p i<;>simp[cK]
  simpa using this
theorem wk (hz:σ z=qn (.d (aa xs),m)) (hm:m≠.sh) (h:ev C a σ = .ok (sI i)) (hl:xs.length<1000000):ex C (.append z a) σ = .ok (upd σ z (.d (aa (xs++[i])),m),.next):=by
 simp only[eL,h,Out.ok_bind,kI,eH,hz,ot,OY hm,wO,C4]
 rw[ik (by rw[Pj,Pi]; exact hl),rE,Out.calm_ok]
theorem vO (h0:0<=i) (h:t[i.toNat]? = qn r):fy (ag t) (.int i) = .ok (.d (aa r),.sh):=by
 have g:i.toNat<t.length:=(P3.mp h).1
 exact oU (gh h0 (by rw[Pi]; exact Al g)) (by rw[P1,h]; rfl)
end
def Val (σ:St) (x:OX) (v:V):Prop:=∃ m,σ x=qn (v,m)
def Has (σ:St) (l:rg (OX×V)):Prop:=∀ x v,l.lookup x=qn v->Val σ x v
def Sub (l:rg (OX×V)):rg (OX×V)->Prop
 | []=>Wa
 | p::r=>l.lookup p.1=qn p.2/\Sub l r
theorem pq (σ:St) (x:OX) (r:V×Mode):upd σ x r x=qn r:=O1 rfl
theorem oS (x:OX) (v:β) (l:rg (OX×β)):Z5 x ((x,v)::l)=qn v:=by
 rw[Qf,Rb]
theorem ol (h:x≠y) (v:β) (l:rg (OX×β)):Z5 x ((y,v)::l)=l.lookup x:=by
 rw[Qf,RD.mpr h]
section
variable {C:Calls}{σ:St}{l l':rg (OX×V)}
theorem Has.nil:Has σ []:=λuu uu h=>by exact nN h
theorem Has.ev (H:Has σ l) (h:l.lookup x=qn v):ev C (.name x) σ = .ok (mk v):=by
 refine ak (H x v h) λm e=>?_
 exact tO e rfl
theorem Has.upd (H:Has σ l) (x:OX) (v:V) (m:Mode):Has (Internal.upd σ x (v,m)) ((x,v)::l):=by
 intro y u h
 by_cases e:y=x
 ·subst e
  rw[oS] at h
  (have g:=vj h; clear h; subst g)
  exact ⟨m,O1 rfl⟩
 ·rw[ol e] at h
  refine ak (H y u h) λi q=>?_
  exact ⟨i,(OY e).trans q⟩
theorem Has.demote (H:Has σ l) (ns:rg OX):Has (Internal.demote σ ns) l:=by
 intro x v h
 refine ak (H x v h) λm q=>?_
 by_cases e:x∈ns
 ·exact ⟨(mk v).2,(O1 e).trans (by rw[q]; rfl)⟩
 ·exact ⟨m,(OY e).trans q⟩
theorem Has.consume (H:Has σ l) (ns:rg OX) (m:Mode):Has (Internal.consume σ ns m) l:=by
 unfold Internal.consume
 by_cases e:m = .deep
 ·rw[O1 e]; exact H
 ·rw[OY e]; exact H.demote ns
theorem Has.sub (H:Has σ l) (h:Sub l l'):Has σ l':=by
 induction l' with
 | nil=>exact .nil
 | cons p r ih=>
  intro x v g
  by_cases e:x=p.1
  ·subst e
   rw[oS] at g
   (have i:=vj g; clear g; subst i)
   exact H _ _ h.1
  ·rw[ol e] at g
   exact ih h.2 x v g
noncomputable def Runs (C:Calls) (b:Ss) (σ:St) (Post:St->Flw->Prop):Prop:=∃ σ' fl,exs C b σ = .ok (σ',fl)/\Post σ' fl
noncomputable def Cont (C:Calls) (b:Ss) (Post:St->Flw->Prop) (σ:St):Flw->Prop
 | .next=>Runs C b σ Post
 | .ret v=>Post σ (.ret v)
variable {b u v:Ss}{s:S}{e c:E}{Post Post':St->Flw->Prop}{r:V×Mode}{x:OX}
theorem Cont.ret (h:Post σ (.ret r)):Cont C b Post σ (.ret r):=h
theorem Runs.mono (h:Runs C b σ Post) (k:∀ σ' fl,Post σ' fl->Post' σ' fl):Runs C b σ Post':=aw (h) λa f i g=>(aC a f i (k a f g))
theorem Runs.nil (h:Post σ .next):Runs C .nil σ Post:=(aC σ .next iS h)
theorem Runs.cons (he:ex C s σ = .ok o) (k:Cont C b Post o.1 o.2):Runs C (.cons s b) σ Post:=by
 obtain ⟨g,j⟩:=o
 cases j with
 | next=>
  refine aw (k) λa f i h=>?_
  clear k
  exact (aC a f (by rw[gL he]; exact i) h)
 | ret v=>exact (aC g (.ret v) (CA he) k)
theorem Runs.set (H:Has σ l) (he:Internal.ev C e σ = .ok r) (k:∀ σ',Has σ' ((x,r.1)::l)->σ' x=qn r->Runs C b σ' Post):Runs C (.cons (.assign x e) b) σ Post :=
 Runs.cons (o:=(Internal.upd (Internal.consume σ (fv e) r.2) x r,.next)) (by simp only[bt,jY he,Out.ok_bind]) (k _ ((H.consume _ _).upd x r.1 r.2) (O1 rfl))
theorem Runs.expr (H:Has σ l) (he:Internal.ev C e σ = .ok r) (k:∀ σ',Has σ' l->(∀ y,y∉fv e->σ' y=σ y)->Runs C b σ' Post):Runs C (.cons (.expr e) b) σ Post :=
 Runs.cons (o:=(Internal.consume σ (fv e) r.2,.next)) (by simp only[dz,he,Out.ok_bind]) (k _ (H.consume _ _) λy g=>by
  unfold Internal.consume
  by_cases q:r.2 = .deep
  ·rw[O1 q]
  ·rw[OY q]; exact OY g)
theorem Runs.ret (he:Internal.ev C e σ = .ok r) (k:Post σ (.ret r)):Runs C (.cons (.ret e) b) σ Post:=Runs.cons (o:=(σ,.ret r)) (C6 he) k
theorem Runs.retn (he:σ x=qn r) (k:Post σ (.ret r)):Runs C (.cons (.retn x) b) σ Post:=Runs.cons (o:=(σ,.ret r)) (by simp only[ls,he]) k
theorem Runs.no (he:Internal.ev C c σ = .ok (sB OZ)) (k:Runs C b σ Post):Runs C (.cons (.ite c u .nil) b) σ Post:=Runs.cons (o:=(σ,.next)) ((ny he).trans iS) k
theorem Runs.ite (he:Internal.ev C c σ = .ok (sB t)) (kt:t=vk->Runs C u σ (Cont C b Post)) (kf:t=OZ->Runs C v σ (Cont C b Post)):Runs C (.cons (.ite c u v) b) σ Post:=by
 cases t with
 | true=>
  refine aw (kt rfl) λa f h g=>?_
  exact Runs.cons (o:=(a,f)) ((sF he).trans h) g
 | false=>
  refine aw (kf rfl) λa f h g=>?_
  exact Runs.cons (o:=(a,f)) ((ny he).trans h) g
theorem Runs.next (he:ex C s σ = .ok (σ',.next)) (k:Runs C b σ' Post):Runs C (.cons s b) σ Post:=Runs.cons (o:=(σ',.next)) he k
theorem Runs.iteTo (Inv:St->Prop) (he:Internal.ev C c σ = .ok (sB t)) (kt:t=vk->Runs C u σ (λσ' fl=>fl = .next/\Inv σ')) (kf:t=OZ->Runs C v σ (λσ' fl=>fl = .next/\Inv σ')) (k:∀ σ',Inv σ'->Runs C b σ' Post):Runs C (.cons (.ite c u v) b) σ Post :=
 Runs.ite he (λq=>(kt q).mono λσ' fl h=>by obtain ⟨rfl,h⟩:=h; exact k σ' h) λq=>(kf q).mono λσ' fl h=>by obtain ⟨rfl,h⟩:=h; exact k σ' h
theorem iw:(∀ l,Has σ l->Has (Internal.consume σ ns m) l)/\∀ y,y∉ns->Internal.consume σ ns m y=σ y:=⟨λuu H=>H.consume ns m,λy g=>by
 unfold Internal.consume
 by_cases q:m = .deep
 ·rw[O1 q]
 ·rw[OY q]; exact OY g⟩
theorem nJ (Inv:rg α->St->Prop)
  (hs:∀ pre y post,xs=pre++y::post->∀ σ,Inv pre σ->Runs C body (Internal.upd σ z (mk (.d (g y)))) (λσ' fl=>match fl with | .next=>Inv (pre++[y]) σ' | .ret v=>Post σ' (.ret v))) :
  ∀ (post pre:rg α) (σ:St),xs=pre++post->Inv pre σ->∃ o,cR (λy σ=>exs C body (Internal.upd σ z (mk (.d y)))) (post.map g) σ = .ok o/\match o.2 with | .next=>Inv xs o.1 | .ret v=>Post o.1 (.ret v)
 | [],pre,σ,hl,h=>(ah (σ,.next) rfl (by rw[hl,SD]; exact h))
 | y::post,pre,σ,hl,h=>by
  refine aw (hs pre y post hl σ h) λa f j i=>?_
  cases f with
  | ret v=>exact (ah (a,.ret v) (by rw[QE,cR,j]; rfl) i)
  | next=>
   obtain ⟨o,l,k⟩:=nJ Inv hs post (pre++[y]) a (by rw[hl,QX]; rfl) i
   exact (ah o (by rw[QE,cR,j]; exact l) k)
theorem Runs.for (Inv:rg α->St->Prop) (hit:bw C it σ = .ok (xs.map g,m)) (h0:∀ σ0,(∀ l,Has σ l->Has σ0 l)->(∀ y,y∉bR it->σ0 y=σ y)->Inv [] σ0)
  (hs:∀ pre y post,xs=pre++y::post->∀ σ,Inv pre σ->Runs C body (Internal.upd σ z (mk (.d (g y)))) (λσ' fl=>match fl with | .next=>Inv (pre++[y]) σ' | .ret v=>Post σ' (.ret v)))
  (k:∀ σ',Inv xs σ'->Runs C b σ' Post):Runs C (.cons (.for1 z it body) b) σ Post:=by
 refine af (nJ Inv hs xs [] (Internal.consume σ (bR it) m) rfl (h0 _ iw.1 iw.2)) λo i h=>?_
 refine Runs.cons (o:=o) (by simp only[pH,hit,Out.ok_bind]; exact i) ?_
 obtain ⟨a,f⟩:=o
 cases f with
 | next=>exact k a h
 | ret v=>exact h
noncomputable def Sk (o:O4 β) (Inv:St->Prop) (rv:β->V×Mode) (σ:St) (fl:Flw):Prop:=match o with
 | none=>fl = .next/\Inv σ
 | some q=>fl = .ret (rv q)
theorem Sk.next {β:Type}{o:O4 β}{Inv:St->Prop}{rv:β->V×Mode}(h:o=O2) (hI:Inv σ):Sk o Inv rv σ .next:=by subst h; exact ⟨rfl,hI⟩
theorem Sk.ret {β:Type}{o:O4 β}{q:β}{Inv:St->Prop}{rv:β->V×Mode}(h:o=qn q):Sk o Inv rv σ (.ret (rv q)):=by subst h; exact rfl
theorem Runs.seek {α β:Type}{body:Ss}{z:OX}{it:It}{g:α->Pk}{xs:rg α}{m:Mode}(Inv:St->Prop) (f:α->O4 β) (rv:β->V×Mode) (hit:bw C it σ = .ok (xs.map g,m)) (h0:∀ σ0,(∀ l,Has σ l->Has σ0 l)->(∀ y,y∉bR it->σ0 y=σ y)->Inv σ0)
  (hs:∀ y∈xs,∀ σ,Inv σ->Runs C body (Internal.upd σ z (mk (.d (g y)))) (Sk (f y) Inv rv))
  (k:xs.findSome? f=O2->∀ σ',Inv σ'->Runs C b σ' Post) (kr:∀ q,xs.findSome? f=qn q->∀ σ',Post σ' (.ret (rv q))):Runs C (.cons (.for1 z it body) b) σ Post:=by
 refine Runs.for (λj σ=>Inv σ/\j.findSome? f=O2) hit (λσ0 n u=>⟨h0 σ0 n u,rfl⟩) (λj y r t o n=>?_) λσ' h=>k h.2 σ' h.1
 refine (hs y (by rw[t]; exact P5 _ (.head _)) o n.1).mono λσ' v h=>?_
 cases hf:f y with
 | none=>
  rw[hf] at h
  revert h; intro i
  refine ae (i) λp h=>?_
  clear i
  subst p
  exact ⟨h,by rw[Wf,n.2,So,hf]; rfl⟩
 | some q=>
  rw[hf] at h
  subst h
  exact kr q (by rw[t,Wf,n.2,So,hf]; rfl) σ'
theorem bT:∀ (ps:rg OX) (vs:rg V),ps.length=vs.length->∃ σ,bq ps vs=qn σ/\Has σ (ps.zip vs)
 | [],[],_=>(ah _ rfl .nil)
 | [],v::vs,h=>by cases h
 | p::ps,[],h=>by cases h
 | p::ps,v::vs,h=>by
  refine af (bT ps vs (Nat.succ.inj h)) λσ i g=>?_
  exact (ah _ (by rw[bq,i]; rfl) (g.upd p (mk v).1 (mk v).2))
theorem da {ps:rg OX}{vs:rg V}{P:V×Mode->Prop}(hl:ps.length=vs.length) (h:∀ σ,Has σ (ps.zip vs)->Runs C b σ (λuu fl=>∃ r,fl = .ret r/\P r)):∃ r,av C ⟨ps,b⟩ vs = .ok r/\P r:=by
 refine af (bT ps vs hl) λσ l k=>?_
 obtain ⟨a,f,j,r,g,i⟩:=h σ k
 subst g
 exact (ah r (by unfold av; dsimp only; rw[l]; dsimp only; rw[j]; rfl) i)
theorem b8 {ps:rg OX}(hl:ps.length=vs.length) (h:∀ σ,Has σ (ps.zip vs)->Runs C b σ (λuu fl=>fl = .ret r)):av C ⟨ps,b⟩ vs = .ok r:=by
 refine af (da (P:=λq=>q=r) hl λσ H=>(h σ H).mono λuu uu e=>(ah r e rfl)) λq i g=>?_
 (clear h; subst g)
 exact i
noncomputable def g7 (f:OX):Bool:=!decide (f = "Rule") && !decide (f∈methNames)
theorem k8 (h:g7 f=vk) (fn:Fn) (vs:rg V):ce f C fn vs=av C fn vs:=by
 unfold g7 at h
 simp only[O9,P0,QM] at h
 unfold ce
 rw[OY h.1,OY h.2]
theorem b9 (hL:L.lookup f=qn fn) (he:evs (mkC L (n+1)) es σ = .ok q) (hv:q.map (·.1)=vs) (h:av (mkC L n) fn vs = .ok r) (hp:g7 f=true:=by decide):Internal.ev (mkC L (n+1)) (.call f es) σ = .ok r:=by
 have g:mkC L (n+1) f=qn λvs=>ce f (mkC L n) fn vs:=by show (L.lookup f).map _=_; rw[hL]; rfl
 rw[jb g he,hv,k8 hp,h]
end
section
theorem al (i:O3):ev C (.int i) σ = .ok (sI i):=by simp only[eY]
theorem hH (i:PV):ev C (.bool i) σ = .ok (sB i):=by simp only[hW]
theorem jN:ev C .none σ = .ok (.d .none,.deep):=by simp only[gV]
theorem uX:ev C .edic σ = .ok (.dic0,.deep):=by simp only[gQ]
theorem me:ev C (.list .nil) σ = .ok (.d (aa []),.deep):=by simp only[bH,bg]; rfl
theorem di (h:ev C a σ = .ok (sI x)):ev C (.list (.cons a .nil)) σ = .ok (.d (aa [x]),.deep):=by simp only[bH,bg,bk,h,Out.ok_bind]; rfl
theorem GH (h:ev C a σ = .ok (sI x)) (h':ev C b σ = .ok (sI y)):ev C (.list (.cons a (.cons b .nil))) σ = .ok (.d (aa [x,y]),.deep):=by simp only[bH,bg,bk,h,h',Out.ok_bind]; rfl
theorem cP (ha:ev C a σ = .ok (sI x)) (hb:ev C b σ = .ok (sI y)):ev C (.bin .add a b) σ = .ok (sI (x+y)):=(dW ha hb).trans rfl
theorem Ae (ha:ev C a σ = .ok (sI x)) (hb:ev C b σ = .ok (sI y)):ev C (.bin .sub a b) σ = .ok (sI (x-y)):=(dW ha hb).trans rfl
theorem Hw (ha:ev C a σ = .ok (sI x)) (hb:ev C b σ = .ok (sI y)):ev C (.bin .xor a b) σ = .ok (sI (UT x y)):=(dW ha hb).trans rfl
theorem lR (ha:ev C a σ = .ok (sI x)) (hb:ev C b σ = .ok (sI y)) (h:x.natAbs<2^63):ev C (.bin .mul a b) σ = .ok (sI (x*y)):=(dW ha hb).trans (uM x y h)
theorem be (ha:ev C a σ = .ok (sI x)) (hb:ev C b σ = .ok (sI y)) (h:0<y):ev C (.bin .mod a b) σ = .ok (sI (x%y)):=(dW ha hb).trans (Cs x y h)
theorem eN (ha:ev C a σ = .ok (sI x)) (hb:ev C b σ = .ok (sI y)) (h:0<y) (h':y<1000000000):ev C (.bin .fdiv a b) σ = .ok (sI (x/y)):=(dW ha hb).trans (Ba x y h h')
theorem nk (ha:ev C a σ = .ok (sI x)) (hb:ev C b σ = .ok (sI y)):ev C (.cmp .lt a b) σ = .ok (sB (decide (x<y))):=bF ha hb rfl
theorem yZ (ha:ev C a σ = .ok (sI x)) (hb:ev C b σ = .ok (sI y)):ev C (.cmp .gt a b) σ = .ok (sB (decide (y<x))):=bF ha hb rfl
theorem xt (ha:ev C a σ = .ok (sI x)) (hb:ev C b σ = .ok (sI y)):ev C (.cmp .ge a b) σ = .ok (sB (decide (y<=x))):=bF ha hb rfl
theorem dg (ha:ev C a σ = .ok (sI x)) (hb:ev C b σ = .ok (sI y)):ev C (.cmp .eq a b) σ = .ok (sB (decide (x=y))):=bF ha hb (Dm x y)
theorem jA (ha:ev C a σ = .ok (sI x)) (hb:ev C b σ = .ok (sI y)):ev C (.cmp .ne a b) σ = .ok (sB (!decide (x=y))):=bF ha hb (Dr x y)
theorem Fe (ha:ev C a σ = .ok (.d (aa xs),m)) (hb:ev C b σ = .ok (.d (aa ys),m')):ev C (.cmp .ne a b) σ = .ok (sB (!decide (xs=ys))):=bF ha hb (CH xs ys)
theorem HF (ha:ev C a σ = .ok (.d (aa xs),m)) (hb:ev C b σ = .ok (.d (aa ys),m')):ev C (.cmp .eq a b) σ = .ok (sB (decide (xs=ys))):=bF ha hb (Bh xs ys)
theorem kn (ha:ev C a σ = .ok (sI x)) (hb:ev C b σ = .ok (.d (aa xs),m)):ev C (.cmp .isin a b) σ = .ok (sB (decide (x∈xs))):=bF ha hb (Di x xs)
theorem ie (ha:ev C a σ = .ok (sI x)) (hb:ev C b σ = .ok (.d (aa xs),m)):ev C (.cmp .notin a b) σ = .ok (sB (!decide (x∈xs))):=bF ha hb (Cq x xs)
theorem ud (ha:ev C a σ = .ok (.d (aa xs),m)) (hb:ev C b σ = .ok (.d (ag t),m')):ev C (.cmp .isin a b) σ = .ok (sB (decide (xs∈t))):=bF ha hb (BP xs t)
theorem cA (ha:ev C a σ = .ok (.d (aa xs),m)) (hb:ev C b σ = .ok (.d (aa ys),m')) (h:xs.length+ys.length<=1000000):ev C (.bin .add a b) σ = .ok (.d (aa (xs++ys)),.deep):=(dW ha hb).trans (yN xs ys h)
theorem y3 (t u:rg (rg O3)) (h:t.length+u.length<=1000000):∃ m,dR .add (ag t) (ag u) = .ok (.d (ag (t++u)),m):=by
 refine ⟨fresh ((t++u).map aa),?_⟩
 show (if (t.map aa).length+(u.map aa).length<=lim then Out.ok (V.d (.list (t.map aa++u.map aa)),fresh (t.map aa++u.map aa)) else .bad)=_
 rw[Pi,Pi,O1 (show _<=lim from h),<- SJ]; rfl
theorem mC (ha:ev C a σ = .ok (.d (ag t),m)) (hb:ev C b σ = .ok (.d (ag u),m')) (h:t.length+u.length<=1000000):∃ m,ev C (.bin .add a b) σ = .ok (.d (ag (t++u)),m):=by
 refine ak (y3 t u h) λm q=>?_
 exact ⟨m,(dW ha hb).trans q⟩
theorem c7 (ha:ev C a σ = .ok (.d (aa xs),m)):ev C (.bi1 .len a) σ = .ok (sI xs.length):=(d6 ha).trans (Db xs)
theorem jO (ha:ev C a σ = .ok (.d (ag t),m)):ev C (.bi1 .len a) σ = .ok (sI t.length):=(d6 ha).trans (Bt t)
theorem j4 (ha:ev C a σ = .ok (.d (aa xs),m)):ev C (.bi1 .list a) σ = .ok (.d (aa xs),.deep):=(d6 ha).trans (Bz xs)
theorem rX (ha:ev C a σ = .ok (.d (aa xs),m)):ev C (.bi1 .tuple a) σ = .ok (.d (aO xs),.deep):=(d6 ha).trans (xb xs)
theorem yM (ha:ev C a σ = .ok (.d (aa xs),m)) (h:xs.length<64):ev C (.bi1 .sorted a) σ = .ok (.d (aa (aL xs)),.deep):=(d6 ha).trans (oF xs h)
theorem lq (h:r.Pairwise (· < ·)):aL r=r:=qs (.refl _) (h.imp λh=>QW h)
theorem ej (ha:ev C a σ = .ok (.d (aa xs),m)) (h:xs.length<128) (h0:∀ i∈xs,0<=i):ev C (.bi1 .sorted a) σ = .ok (.d (aa (aL xs)),.deep):=(d6 ha).trans (lT xs h h0)
theorem mK (ha:ev C a σ = .ok (.d (aa xs),m)) (h:xs.length<128) (h0:∀ i∈xs,0<=i) (hu:xs.Pairwise (· < ·)):ev C (.bi1 .sorted a) σ = .ok (.d (aa xs),.deep):=(d6 ha).trans (rh xs h h0 (lq hu))
theorem gi (ha:ev C a σ = .ok (.d (aa xs),m)) (hb:ev C b σ = .ok (sI i)) (h0:0<=i) (h:xs[i.toNat]? = qn x):ev C (.sub a b) σ = .ok (sI x):=(iK ha hb).trans (wI h0 h)
theorem pC (ha:ev C a σ = .ok (.d (ag t),m)) (hb:ev C b σ = .ok (sI i)) (h0:0<=i) (h:t[i.toNat]? = qn xs):ev C (.sub a b) σ = .ok (.d (aa xs),.sh):=(iK ha hb).trans (vO h0 h)
theorem fK (ha:ev C a σ = .ok (sB p)) (hb:p=vk->ev C b σ = .ok (sB q)):ev C (.and a b) σ = .ok (sB (p&&q)):=by
 cases p with
 | true=>exact wX ha (hb rfl)
 | false=>exact xl ha
theorem fe (ha:ev C a σ = .ok (sB p)) (hb:p=OZ->ev C b σ = .ok (sB q)):ev C (.or a b) σ = .ok (sB (p||q)):=by
 cases p with
 | true=>exact BF ha
 | false=>exact BQ ha (hb rfl)
theorem Cf (ha:ev C a σ = .ok (sI i)) (hb:ev C b σ = .ok (sI j)) (h1:0<=i) (h2:i<=1000) (h3:0<=j) (h4:j<=1000):bw C (.r2 a b) σ = .ok (((QR (j-i).toNat).map λ(k:Pa)=>i+(k:O3)).map .int,.deep):=by
 simp only[gX,ha,hb,Out.ok_bind]
 show cC i j=_
 unfold cC
 rw[O1 (cF (by unfold lim; exact Iy h1 h4) (AO h1) (zx h2) (AO h3) (zx h4)),lQ]
theorem dO {α:Type}{g:α->Pk}{l:rg α}{z:OX}{it:It}{q:Mode}(f:α->rg O3) (mm:Mode) (h:bw C it σ = .ok (l.map g,q)) (hc:∀ i∈l,ev C a (upd σ z (mk (.d (g i)))) = .ok (.d (aa (f i)),mm)) :
  ∃ m,ev C (.comp a z it) σ = .ok (.d (ag (l.map f)),m)/\(mm = .deep->m = .deep)/\m≠.sh:=by
 obtain ⟨b,j,o⟩:=jD (F:=λy=>(ev C a (upd σ z (mk (.d y)))).bind λr=>.ok (qn r)) (e:=g) (f:=f) (p:=λuu=>vk) (m:=λuu=>mm) (l:=l) λi n=>by rw[hc i n]; rfl
 rw[List.filter_eq_self.mpr (λuu uu=>rfl)] at j
 exact (aG (if b then .deep else .top) (si h j) (λk=>by rw[o λuu uu=>k]; rfl) (by cases b<;>simp))
theorem jL {α:Type}{g:α->Pk}{l:rg α}{z:OX}{it:It}{r:Mode}(f:α->rg O3) (p:α->PV) (mm:Mode) (h:bw C it σ = .ok (l.map g,r)) (hp:∀ i∈l,ev C c (upd σ z (mk (.d (g i)))) = .ok (sB (p i)))
  (hc:∀ i∈l,p i=vk->ev C a (upd σ z (mk (.d (g i)))) = .ok (.d (aa (f i)),mm)):∃ m,ev C (.compif a z it c) σ = .ok (.d (ag ((l.filter p).map f)),m)/\(mm = .deep->m = .deep)/\m≠.sh:=by
 obtain ⟨b,o,n⟩:=jD (F:=λy=>(ev C c (upd σ z (mk (.d y)))).bind λt=>(au t.1).bind λb=>if b then (ev C a (upd σ z (mk (.d y)))).bind λr=>.ok (qn r) else .ok O2) (e:=g) (f:=f) (p:=p) (m:=λuu=>mm) (l:=l) λi j=>by
  rw[hp i j]
  cases hq:p i with
  | true=>simp only[Out.ok_bind,jq,b6,Q4,hc i j hq]
  | false=>simp only[Out.ok_bind,jq,b6,PK,Ql]
 exact (aG (if b then .deep else .top) (om h o) (λk=>by rw[n λuu uu=>k]; rfl) (by cases b<;>simp))
theorem gz {α:Type}{g:α->Pk}{l:rg α}{z:OX}{it:It}{q:Mode}(f:α->O3) (h:bw C it σ = .ok (l.map g,q)) (hc:∀ i∈l,ev C a (upd σ z (mk (.d (g i)))) = .ok (sI (f i))):ev C (.comp a z it) σ = .ok (.d (aa (l.map f)),.deep):=by
 rw[si h (r:=((l.map f).map .int,vk))]
 ·rfl
 ·exact qW (F:=λy=>(ev C a (upd σ z (mk (.d y)))).bind λr=>.ok (qn r)) (e:=g) λi j=>by rw[hc i j]; rfl
theorem jT (h:xs≠[]):∃ i,eU xs=qn i/\i∈xs:=by
 cases xs with
 | nil=>exact Pq rfl h
 | cons x xs=>
  refine (ah _ rfl ?_)
  have g:∀ (l:rg O3) (a:O3),l.foldl (λa b=>if a<b then b else a) a=a\/l.foldl (λa b=>if a<b then b else a) a∈l:=by
   intro l
   induction l with
   | nil=>exact λa=>.inl rfl
   | cons y l ih=>
    intro a
    rw[VS]
    by_cases q:a<y
    ·rw[O1 q]
     rcases ih y with e | e
     ·exact .inr (by rw[e]; exact .head _)
     ·exact .inr (.tail _ e)
    ·rw[OY q]
     exact (ih a).imp id λe=>.tail _ e
  rcases g xs x with e | e
  ·rw[e]; exact .head _
  ·exact .tail _ e
theorem He (ha:ev C a σ = .ok (.d (aa xs),m)) (h:xs≠[]):∃ i,ev C (.bi1 .max a) σ = .ok (sI i)/\i∈xs:=by
 refine af (jT h) λi j g=>?_
 refine (ah i ((d6 ha).trans ?_) g)
 show (am ((aM (xs.map PA)).bind eU) λi=>Out.ok (sI i))=_
 rw[cY,Tp,j]; rfl
theorem qF:ev C (.list (.cons (.list .nil) .nil)) σ = .ok (.d (ag [[]]),.deep):=by simp only[bH,bg,bk]; rfl
theorem mV:ev C (.list .nil) σ = .ok (.d (ag []),.deep):=by simp only[bH,bg]; rfl
theorem ll {α:Type}{l:rg α}{Q:α->PV->Prop}(h:∀ i∈l,∃ b,Q i b):∃ p:α->PV,∀ i∈l,Q i (p i):=by
 classical
 exact ⟨λi=>if g:i∈l then (h i g).choose else OZ,λi g=>by dsimp only; rw[dif_pos g]; exact (h i g).choose_spec⟩
theorem Has.mk (H:Has σ l) (z:OX) (v:V):Has (Internal.upd σ z (Internal.mk v)) ((z,v)::l):=H.upd z v (Internal.mk v).2
theorem Runs.app (H:Has σ l) (hz:σ z=qn (.d (aa xs),m)) (hm:m≠.sh) (h:ev C a σ = .ok (sI x)) (hl:xs.length<1000000) (k:∀ σ',Has σ' ((z,.d (aa (xs++[x])))::l)->σ' z=qn (.d (aa (xs++[x])),m)->(∀ y,y≠z->σ' y=σ y)->Runs C bb σ' Post):Runs C (.cons (.append z a) bb) σ Post :=
 Runs.cons (o:=(upd σ z (.d (aa (xs++[x])),m),.next)) (wk hz hm h hl) (k _ (H.upd z _ m) (O1 rfl) λy g=>OY g)
theorem Runs.appR (H:Has σ l) (hz:σ z=qn (.d (ag t),m)) (hm:m≠.sh) (h:ev C a σ = .ok (.d (aa xs),.deep)) (hl:t.length<1000000) (k:∀ σ',Has σ' ((z,.d (ag (t++[xs])))::l)->σ' z=qn (.d (ag (t++[xs])),m)->(∀ y,y≠z->σ' y=σ y)->Runs C bb σ' Post):Runs C (.cons (.append z a) bb) σ Post:=by
 refine Runs.cons (o:=(upd σ z (.d (ag (t++[xs])),m),.next)) ?_ (k _ (H.upd z _ m) (O1 rfl) λy g=>OY g)
 simp only[eL,h,Out.ok_bind,kI,eH,hz,n8,OY hm]
 rw[ik (by rw[Pj,Pi]; exact hl)]
 unfold ag; rw[SJ]; rfl
theorem nK (f:α->β):∀ (l:rg α) (i:Pa),(l.map f).eraseIdx i=(l.eraseIdx i).map f
 | [],_=>rfl
 | _::_,0=>rfl
 | a::l,i+1=>R2 (f a :: ·) (nK f l i)
theorem Runs.popR (H:Has σ l) (hz:σ z=qn (.d (ag t),m)) (hm:m≠.sh) (h:ev C a σ = .ok (sI x)) (h0:0<=x) (h1:x<t.length) (k:∀ σ',Has σ' ((z,.d (ag (t.eraseIdx x.toNat)))::l)->σ' z=qn (.d (ag (t.eraseIdx x.toNat)),.top)->Runs C bb σ' Post):Runs C (.cons (.pop z a) bb) σ Post:=by
 refine Runs.cons (o:=(upd σ z (.d (ag (t.eraseIdx x.toNat)),.top),.next)) ?_ (k _ (H.upd z _ .top) (O1 rfl))
 simp only[nr,h,Out.ok_bind,kI,eH,cT,hz,n8,wO]
 rw[OY (by rw[Pi]; exact λq=>q.elim hm λq=>by exact GV h0 h1 q)]
 unfold ag; rw[nK]; rfl
theorem mM {r:Pk}{q:rg Pk}(h:ev C a σ = .ok (.d (.tuple (r::q)),m)) (hb:ev C b σ = .ok (sI 0)):ev C (.sub a b) σ = .ok (mk (.d r)):=by
 rw[iK h hb]
 show (am ((bl 0 (r::q).length).bind λk=>(r::q)[k]?) λz=>Out.ok (mk (.d z)))=_
 rw[gh (by decide) (by rw[PR]; exact Ja)]; rfl
theorem pf {r r':Pk}{q:rg Pk}(h:ev C a σ = .ok (.d (.tuple (r::r'::q)),m)) (hb:ev C b σ = .ok (sI 1)):ev C (.sub a b) σ = .ok (mk (.d r')):=by
 rw[iK h hb]
 show (am ((bl 1 (r::r'::q).length).bind λk=>(r::r'::q)[k]?) λz=>Out.ok (mk (.d z)))=_
 rw[gh (by decide) (by rw[PR,PR]; exact J9)]; rfl
theorem CO (ha:ev C a σ = .ok (sI x)) (hb:ev C b σ = .ok (.d (ag t),m)):∃ m,ev C (.tup (.cons a (.cons b .nil))) σ = .ok (.d (.tuple [.int x,ag t]),m):=by
 refine ⟨if allDeep [sI x,(.d (ag t),m)] then .deep else .sh,?_⟩
 simp only[eA,bg,bk,ha,hb,Out.ok_bind]
 rfl
theorem c8 {G:Prop}(ha:ev C a σ = .ok (sI x)) (hb:ev C b σ = .ok (.d (ag t),m)) (k:∀ m,ev C (.tup (.cons a (.cons b .nil))) σ = .ok (.d (.tuple [.int x,ag t]),m)->G):G:=ak (CO ha hb) k
theorem lO (h:ev C a σ = .ok (v,m)) (hi:iA v ty = .ok p):ev C (.isi a ty) σ = .ok (sB p):=by simp only[gv,h,Out.ok_bind,hi]
theorem wK {x y z:Pk}{m1 m2 m3:Mode}(ha:ev C a σ = .ok (.d x,m1)) (hb:ev C b σ = .ok (.d y,m2)) (hc:ev C c σ = .ok (.d z,m3)):ev C (.tup (.cons a (.cons b (.cons c .nil)))) σ = .ok (.d (.tuple [x,y,z]),if allDeep [(.d x,m1),(.d y,m2),(.d z,m3)] then .deep else .sh):=by
 simp only[eA,bg,bk,ha,hb,hc,Out.ok_bind]; rfl
end
noncomputable def p_exchanged:Fn:=⟨["choice", "out", "thing"],
(.cons (.ret (.bi1 .sorted (.bin .add (.compif (.name "one") "one" (.e (.name "choice")) (.cmp .ne (.name "one") (.name "out"))) (.list (.cons (.name "thing") .nil)))))
.nil)⟩
noncomputable def p_known_of:Fn:=⟨["table"],
(.cons (.assign "known" .edic)
(.cons (.for1 "choice" (.e (.name "table"))
(.cons (.setitem "known" (.bi1 .tuple (.name "choice")))
.nil))
(.cons (.retn "known")
.nil)))⟩
noncomputable def p_goes:Fn:=⟨["known", "one", "other", "thing"],
(.cons (.for1 "out" (.e (.name "one"))
(.cons (.ite (.and (.cmp .notin (.name "out") (.name "other")) (.cmp .isin (.bi1 .tuple (.call "exchanged" (.cons (.name "one") (.cons (.name "out") (.cons (.name "thing") .nil))))) (.name "known")))
(.cons (.ret (.bool vk))
.nil)
.nil)
.nil))
(.cons (.ret (.bool OZ))
.nil))⟩
noncomputable def p_fault:Fn:=⟨["count", "table"],
(.cons (.assign "known" (.call "known_of" (.cons (.name "table") .nil)))
(.cons (.for1 "one" (.e (.name "table"))
(.cons (.for1 "thing" (.r1 (.name "count"))
(.cons (.ite (.cmp .notin (.name "thing") (.name "one"))
(.cons (.for1 "other" (.e (.name "table"))
(.cons (.ite (.and (.cmp .isin (.name "thing") (.name "other")) (.not (.call "goes" (.cons (.name "known") (.cons (.name "one") (.cons (.name "other") (.cons (.name "thing") .nil)))))))
(.cons (.ret (.tup (.cons (.bi1 .list (.name "one")) (.cons (.bi1 .list (.name "other")) (.cons (.name "thing") .nil)))))
.nil)
.nil)
.nil))
.nil)
.nil)
.nil))
.nil))
(.cons (.ret .none)
.nil)))⟩
noncomputable def l_cell_at:Fn:=⟨["_law_script", "_law_k"],
(.cons (.ite (.cmp .lt (.name "_law_k") (.bi1 .len (.name "_law_script")))
(.cons (.ret (.sub (.name "_law_script") (.name "_law_k")))
.nil)
.nil)
(.cons (.ite (.cmp .eq (.name "_law_script") (.list .nil))
(.cons (.ret (.int 0))
.nil)
.nil)
(.cons (.ret (.bin .add (.bin .mul (.sub (.name "_law_script") (.bin .mod (.name "_law_k") (.bi1 .len (.name "_law_script")))) (.int 7)) (.name "_law_k")))
.nil)))⟩
noncomputable def l_whole:Fn:=⟨["_law_found"],
(.cons (.ret (.and (.isi (.name "_law_found") "int") (.not (.isi (.name "_law_found") "bool"))))
.nil)⟩
noncomputable def l_subsets:Fn:=⟨["_law_count"],
(.cons (.assign "_law_rows" (.list (.cons (.list .nil) .nil)))
(.cons (.for1 "_law_thing" (.r1 (.name "_law_count"))
(.cons (.assign "_law_rows" (.bin .add (.name "_law_rows") (.comp (.bin .add (.name "_law_row") (.list (.cons (.name "_law_thing") .nil))) "_law_row" (.e (.name "_law_rows")))))
.nil))
(.cons (.retn "_law_rows")
.nil)))⟩
noncomputable def l_apart:Fn:=⟨["_law_vectors", "_law_row"],
(.cons (.assign "_law_sums" (.list (.cons (.int 0) .nil)))
(.cons (.for1 "_law_thing" (.e (.name "_law_row"))
(.cons (.ite (.cmp .isin (.sub (.name "_law_vectors") (.name "_law_thing")) (.name "_law_sums"))
(.cons (.ret (.bool OZ))
.nil)
.nil)
(.cons (.assign "_law_sums" (.bin .add (.name "_law_sums") (.comp (.bin .xor (.name "_law_one") (.sub (.name "_law_vectors") (.name "_law_thing"))) "_law_one" (.e (.name "_law_sums")))))
.nil)))
(.cons (.ret (.bool vk))
.nil)))⟩
noncomputable def l_parts:Fn:=⟨["_law_script", "_law_kind", "_law_count", "_law_more"],
(.cons (.assign "_law_rows" (.call "_law_subsets" (.cons (.name "_law_count") .nil)))
(.cons (.ite (.cmp .eq (.name "_law_kind") (.int 0))
(.cons (.ret (.tup (.cons (.name "_law_count") (.cons (.comp (.sub (.name "_law_rows") (.bin .mod (.call "_law_cell_at" (.cons (.name "_law_script") (.cons (.bin .add (.int 6) (.name "_law_k")) .nil))) (.bi1 .len (.name "_law_rows")))) "_law_k" (.r1 (.bin .mod (.name "_law_more") (.int 6)))) .nil))))
.nil)
.nil)
(.cons (.ite (.cmp .eq (.bin .mod (.name "_law_more") (.int 9)) (.int 8))
(.cons (.assign "_law_count" (.bin .add (.int 7) (.bin .mod (.bin .fdiv (.name "_law_more") (.int 9)) (.int 3))))
(.cons (.assign "_law_rows" (.list .nil))
(.cons (.for1 "_law_one" (.r1 (.name "_law_count"))
(.cons (.assign "_law_rows" (.bin .add (.name "_law_rows") (.comp (.list (.cons (.name "_law_one") (.cons (.name "_law_thing") .nil))) "_law_thing" (.r2 (.bin .add (.name "_law_one") (.int 1)) (.name "_law_count")))))
.nil))
(.cons (.ret (.tup (.cons (.name "_law_count") (.cons (.name "_law_rows") .nil))))
.nil))))
.nil)
(.cons (.ret (.tup (.cons (.name "_law_count") (.cons (.compif (.name "_law_row") "_law_row" (.e (.name "_law_rows")) (.cmp .eq (.bi1 .len (.name "_law_row")) (.bin .mod (.name "_law_more") (.bin .add (.name "_law_count") (.int 1))))) .nil))))
.nil))))⟩
noncomputable def l_few:Fn:=⟨["_law_script"],
(.cons (.assign "_law_kind" (.bin .mod (.call "_law_cell_at" (.cons (.name "_law_script") (.cons (.int 0) .nil))) (.int 9)))
(.cons (.assign "_law_count" (.sub (.list (.cons (.int 6) (.cons (.int 5) (.cons (.int 4) (.cons (.int 3) (.cons (.int 6) (.cons (.int 1) (.cons (.int 0) .nil)))))))) (.bin .mod (.bin .fdiv (.call "_law_cell_at" (.cons (.name "_law_script") (.cons (.int 0) .nil))) (.int 9)) (.int 7))))
(.cons (.assign "_law_more" (.call "_law_cell_at" (.cons (.name "_law_script") (.cons (.int 1) .nil))))
(.cons (.ite (.cmp .eq (.name "_law_kind") (.int 7))
(.cons (.assign "_law_many" (.bin .add (.int 1) (.bin .mod (.name "_law_more") (.int 4))))
(.cons (.ite (.cmp .gt (.bi1 .len (.name "_law_script")) (.int 63))
(.cons (.assign "_law_many" (.bin .add (.int 1) (.bin .mod (.name "_law_more") (.int 5))))
.nil)
.nil)
(.cons (.ret (.tup (.cons (.bin .mul (.int 2) (.name "_law_many")) (.cons (.call "_law_pairs_by" (.cons (.name "_law_many") .nil)) .nil))))
.nil)))
.nil)
(.cons (.ite (.cmp .lt (.name "_law_kind") (.int 2))
(.cons (.ret (.call "_law_parts" (.cons (.name "_law_script") (.cons (.name "_law_kind") (.cons (.name "_law_count") (.cons (.name "_law_more") .nil))))))
.nil)
.nil)
(.cons (.assign "_law_count" (.sub (.list (.cons (.int 6) (.cons (.int 5) (.cons (.int 4) (.cons (.int 3) (.cons (.int 7) (.cons (.int 7) (.cons (.int 2) .nil)))))))) (.bin .mod (.bin .fdiv (.call "_law_cell_at" (.cons (.name "_law_script") (.cons (.int 0) .nil))) (.int 9)) (.int 7))))
(.cons (.assign "_law_rows" (.list (.cons (.list .nil) .nil)))
(.cons (.for1 "_law_thing" (.r1 (.name "_law_count"))
(.cons (.assign "_law_rows" (.bin .add (.name "_law_rows") (.compif (.bin .add (.name "_law_row") (.list (.cons (.name "_law_thing") .nil))) "_law_row" (.e (.name "_law_rows")) (.cmp .lt (.bi1 .len (.name "_law_row")) (.int 3)))))
.nil))
(.cons (.assign "_law_vectors" (.comp (.bin .mod (.call "_law_cell_at" (.cons (.name "_law_script") (.cons (.bin .add (.int 6) (.name "_law_thing")) .nil))) (.int 8)) "_law_thing" (.r1 (.name "_law_count"))))
(.cons (.assign "_law_good" (.compif (.name "_law_row") "_law_row" (.e (.name "_law_rows")) (.call "_law_apart" (.cons (.name "_law_vectors") (.cons (.name "_law_row") .nil)))))
(.cons (.assign "_law_most" (.bi1 .max (.comp (.bi1 .len (.name "_law_row")) "_law_row" (.e (.name "_law_good")))))
(.cons (.assign "_law_table_here" (.compif (.name "_law_row") "_law_row" (.e (.name "_law_good")) (.cmp .eq (.bi1 .len (.name "_law_row")) (.name "_law_most"))))
(.cons (.ite (.cmp .eq (.name "_law_kind") (.int 3))
(.cons (.pop "_law_table_here" (.bin .mod (.name "_law_more") (.bi1 .len (.name "_law_table_here"))))
.nil)
.nil)
(.cons (.ret (.tup (.cons (.name "_law_count") (.cons (.name "_law_table_here") .nil))))
.nil))))))))))))))⟩
noncomputable def l_pairs_by:Fn:=⟨["_law_many"],
(.cons (.assign "_law_rows" (.list (.cons (.list .nil) .nil)))
(.cons (.for1 "_law_k" (.r1 (.name "_law_many"))
(.cons (.assign "_law_rows" (.bin .add (.comp (.bin .add (.name "_law_row") (.list (.cons (.bin .mul (.int 2) (.name "_law_k")) .nil))) "_law_row" (.e (.name "_law_rows"))) (.comp (.bin .add (.name "_law_row") (.list (.cons (.bin .add (.bin .mul (.int 2) (.name "_law_k")) (.int 1)) .nil))) "_law_row" (.e (.name "_law_rows")))))
.nil))
(.cons (.retn "_law_rows")
.nil)))⟩
noncomputable def l_table:Fn:=⟨["_law_script"],
(.cons (.assign "_law_kind" (.bin .mod (.call "_law_cell_at" (.cons (.name "_law_script") (.cons (.int 0) .nil))) (.int 9)))
(.cons (.assign "_law_more" (.call "_law_cell_at" (.cons (.name "_law_script") (.cons (.int 1) .nil))))
(.cons (.ite (.cmp .eq (.name "_law_kind") (.int 4))
(.cons (.assign "_law_count" (.bin .add (.int 7) (.bin .mod (.name "_law_more") (.int 12))))
(.cons (.assign "_law_step" (.bin .add (.int 1) (.bin .mod (.bin .fdiv (.name "_law_more") (.int 12)) (.int 4))))
(.cons (.ret (.tup (.cons (.name "_law_count") (.cons (.compif (.list (.cons (.name "_law_thing") .nil)) "_law_thing" (.r1 (.name "_law_count")) (.cmp .eq (.bin .mod (.name "_law_thing") (.name "_law_step")) (.int 0))) .nil))))
.nil)))
.nil)
(.cons (.ite (.cmp .eq (.name "_law_kind") (.int 5))
(.cons (.assign "_law_count" (.bin .add (.int 7) (.bin .mod (.name "_law_more") (.int 6))))
(.cons (.ret (.tup (.cons (.name "_law_count") (.cons (.comp (.compif (.name "_law_thing") "_law_thing" (.r1 (.name "_law_count")) (.cmp .ne (.name "_law_thing") (.name "_law_gone"))) "_law_gone" (.r1 (.name "_law_count"))) .nil))))
.nil))
.nil)
(.cons (.assign "_law_made" (.call "_law_few" (.cons (.name "_law_script") .nil)))
(.cons (.assign "_law_far" (.call "_law_cell_at" (.cons (.name "_law_script") (.cons (.int 12) .nil))))
(.cons (.ite (.or (.cmp .ne (.bin .mod (.name "_law_far") (.int 3)) (.int 1)) (.or (.cmp .gt (.bi1 .len (.sub (.name "_law_made") (.int 1))) (.int 8)) (.cmp .gt (.sub (.name "_law_made") (.int 0)) (.int 9))))
(.cons (.retn "_law_made")
.nil)
.nil)
(.cons (.assign "_law_step" (.bin .add (.int 1) (.bin .mod (.bin .fdiv (.name "_law_far") (.int 3)) (.int 9))))
(.cons (.assign "_law_first" (.bin .mod (.bin .fdiv (.name "_law_far") (.int 27)) (.int 9)))
(.cons (.assign "_law_table_here" (.list .nil))
(.cons (.for1 "_law_choice" (.e (.sub (.name "_law_made") (.int 1)))
(.cons (.append "_law_table_here" (.comp (.bin .add (.name "_law_first") (.bin .mul (.name "_law_step") (.name "_law_thing"))) "_law_thing" (.e (.name "_law_choice"))))
.nil))
(.cons (.ret (.tup (.cons (.bin .add (.name "_law_first") (.bin .mul (.name "_law_step") (.sub (.name "_law_made") (.int 0)))) (.cons (.name "_law_table_here") .nil))))
.nil))))))))))))⟩
noncomputable def l_can:Fn:=⟨["_law_table_here", "_law_one", "_law_other", "_law_thing"],
(.cons (.for1 "_law_out" (.e (.name "_law_one"))
(.cons (.assign "_law_made" (.bi1 .sorted (.bin .add (.compif (.name "_law_left") "_law_left" (.e (.name "_law_one")) (.cmp .ne (.name "_law_left") (.name "_law_out"))) (.list (.cons (.name "_law_thing") .nil)))))
(.cons (.ite (.and (.cmp .notin (.name "_law_out") (.name "_law_other")) (.cmp .isin (.name "_law_made") (.name "_law_table_here")))
(.cons (.ret (.bool vk))
.nil)
.nil)
.nil)))
(.cons (.ret (.bool OZ))
.nil))⟩
noncomputable def l_fault:Fn:=⟨["_law_count", "_law_table_here"],
(.cons (.for1 "_law_one" (.e (.name "_law_table_here"))
(.cons (.for1 "_law_thing" (.r1 (.name "_law_count"))
(.cons (.ite (.cmp .notin (.name "_law_thing") (.name "_law_one"))
(.cons (.for1 "_law_other" (.e (.name "_law_table_here"))
(.cons (.ite (.and (.cmp .isin (.name "_law_thing") (.name "_law_other")) (.not (.call "_law_can" (.cons (.name "_law_table_here") (.cons (.name "_law_one") (.cons (.name "_law_other") (.cons (.name "_law_thing") .nil)))))))
(.cons (.ret (.tup (.cons (.name "_law_one") (.cons (.name "_law_other") (.cons (.name "_law_thing") .nil)))))
.nil)
.nil)
.nil))
.nil)
.nil)
.nil))
.nil))
(.cons (.ret .none)
.nil))⟩
structure Lib (L:rg (OX×Fn)):Prop where
 cell:L.lookup "_law_cell_at" = qn l_cell_at
 whole:L.lookup "_law_whole" = qn l_whole
 subs:L.lookup "_law_subsets" = qn l_subsets
 apart:L.lookup "_law_apart" = qn l_apart
 parts:L.lookup "_law_parts" = qn l_parts
 few:L.lookup "_law_few" = qn l_few
 pairs:L.lookup "_law_pairs_by" = qn l_pairs_by
 table:L.lookup "_law_table" = qn l_table
 can:L.lookup "_law_can" = qn l_can
 lfault:L.lookup "_law_fault" = qn l_fault
 exch:L.lookup "exchanged" = qn p_exchanged
 known:L.lookup "known_of" = qn p_known_of
 goes:L.lookup "goes" = qn p_goes
 fault:L.lookup "fault" = qn p_fault
noncomputable def ba (s:rg O3) (k:O3):Int:=if k<s.length then s[k.toNat]?.getD 0 else if s=[] then 0 else s[(k%s.length).toNat]?.getD 0*7+k
theorem getD_some {s:rg O3}{i:Pa}(h:i<s.length):s[i]? = qn (s[i]?.getD 0):=by rw[Pp h]; rfl
theorem pF (C:Calls) (s:rg O3) (k:O3) (hk:0<=k):av C l_cell_at [.d (aa s),.d (.int k)] = .ok (sI (ba s k)):=by
 unfold l_cell_at
 refine b8 rfl λm H=>?_
 have i:=nk (C:=C) (H.ev (x:="_law_k") rfl) (c7 (H.ev (x:="_law_script") rfl))
 unfold ba
 by_cases h1:k<s.length
 ·rw[O1 h1]
  refine Runs.ite (i.trans (by rw[Qc h1])) (λuu=>Runs.ret (gi (H.ev rfl) (H.ev rfl) hk (getD_some (la1 hk h1))) rfl) λq=>by cases q
 ·rw[OY h1]
  refine Runs.no (i.trans (by rw[Qe h1])) ?_
  have h:=HF (C:=C) (H.ev (x:="_law_script") rfl) me
  by_cases h2:s=[]
  ·rw[O1 h2]
   exact Runs.ite (h.trans (by rw[Qc h2])) (λuu=>Runs.ret (al 0) rfl) λq=>by cases q
  ·rw[OY h2]
   refine Runs.no (h.trans (by rw[Qe h2])) ?_
   have g:0<s.length:=Tg.mpr h2
   have l:0<=k%s.length:=P8 _ (la2 g)
   have j:k%s.length<s.length:=Qr _ (la3 g)
   refine Runs.ret (cP ((dW (gi (H.ev rfl) (be (H.ev rfl) (c7 (H.ev rfl)) (la3 g)) l (getD_some (la4 g j))) (al 7)).trans (vy _ 7 (by decide))) (H.ev rfl)) rfl
theorem mf (C:Calls) (i:O3):av C l_whole [.d (.int i)] = .ok (sB vk):=by
 unfold l_whole
 refine b8 rfl λg H=>Runs.ret (fK (p:=vk) (q:=vk) ?_ λuu=>?_) rfl
 ·exact lO (H.ev rfl) rfl
 ·exact fP (t:=OZ) (lO (H.ev rfl) rfl)
def Srt (c:O3) (r:rg O3):Prop:=r.Pairwise (· < ·)/\∀ x∈r,0<=x/\x<c
theorem Srt.snoc (h:Srt c r) (h0:0<=c) (hx:c<=x):Srt (x+1) (r++[x]):=by
 refine ⟨Qx.mpr ⟨h.1,VF _ _,λa ha b g=>?_⟩,λa ha=>?_⟩
 ·rw[O7.mp g]; have:=h.2 a ha; exact la5 hx this
 ·rcases Pu.mp ha with ha | ha
  ·have:=h.2 a ha; exact la6 hx this
  ·rw[O7.mp ha]; exact la7 h0 hx
theorem Srt.mono (h:Srt c r) (hd:c<=d):Srt d r:=⟨h.1,λx g=>by have:=h.2 x g; exact la8 hd this⟩
theorem Srt.nil (c:O3):Srt c []:=⟨.nil,λuu h=>by cases h⟩
theorem yk (h:aS c=pre++y::post):y=pre.length/\pre.length<c:=by
 have j:=R2 List.length h
 rw[bG,Pj,PR] at j
 have g:(aS c)[pre.length]? = qn y:=by rw[h,S9 (PH _),Vw]; rfl
 have i:pre.length<c:=by exact la9 j
 unfold aS at g
 rw[P1,UK i] at g
 exact ⟨(vj g).symm,i⟩
theorem l8 {c:Pa}{pre post:rg O3}{y:O3}{G:Prop}(h:aS c=pre++y::post) (k:y=pre.length->pre.length<c->G):G:=ae (yk h) k
def qL (k n:Pa) (c:O3) (t:rg (rg O3)):Prop:=t≠[]/\t.length<=n/\∀ r∈t,r.length<=k/\Srt c r
noncomputable def subs:Pa->rg (rg O3)
 | 0=>[[]]
 | k+1=>subs k++(subs k).map λr=>r++[(k:O3)]
noncomputable def mU:Pa->rg (rg O3)
 | 0=>[[]]
 | k+1=>mU k++((mU k).filter λr=>decide ((r.length:O3)<3)).map λr=>r++[(k:O3)]
theorem yH:∀ c≤6,∀ r∈subs c,((subs c).filter λr'=>decide ((r'.length:O3)=r.length)).length<=63:=by decide +kernel
theorem vK:∀ c≤7,∀ r∈mU c,((mU c).filter λr'=>decide ((r'.length:O3)=r.length)).length<=63:=by decide +kernel
theorem qE {t:rg (rg O3)}(h:∀ r∈t,(t.filter λr'=>decide ((r'.length:O3)=r.length)).length<=63) (k:O3):(t.filter λr=>decide ((r.length:O3)=k)).length<=63:=by
 cases e:t.filter λr=>decide ((r.length:O3)=k) with
 | nil=>exact Qn _
 | cons r u=>
  obtain ⟨i,g⟩:=Qk.mp (show r∈t.filter λr=>decide ((r.length:O3)=k) by rw[e]; exact .head _)
  have:=h r i
  rw[PS g,e] at this
  exact this
theorem qt (C:Calls) (c:Pa) (hc:c<=7):∃ r,av C l_subsets [.d (.int c)] = .ok r/\∃ t,r.1 = .d (ag t)/\t=subs c/\[]∈t/\qL c 128 c t:=by
 unfold l_subsets
 refine da rfl λl H=>?_
 refine Runs.set H qF λl H _=>?_
 refine Runs.for (g:=PA) (xs:=aS c) (λi l=>∃ t,Has l [("_law_rows", .d (ag t)),("_law_count", .d (.int c))]/\t=subs i.length/\[]∈t/\qL i.length (2^i.length) i.length t) (cu (H.ev rfl) (LD hc)) (λσ0 h _=>(kG ([[]]) ((h _ H).sub ⟨rfl,rfl,trivial⟩) rfl (.head _) (by simp) (by simp) (λr hr=>?_))) ?_ ?_
 ·cases O7.mp hr; exact ⟨PH _,.nil _⟩
 ·intro i y post hl l o
  refine jy (o) λt H p h0 g1 u k=>?_
  clear o
  refine l8 hl λhy hp=>?_
  have j:2^i.length<=2^6:=RN (by decide) (DI hc hp)
  have H1:=H.mk "_law_thing" (.d (.int y))
  obtain ⟨m1,e1,_⟩:=dO (λr=>r++[y]) .deep (aF (H1.ev (C:=C) (x:="_law_rows") rfl) (aY t .sh)) (a:=.bin .add (.name "_law_row") (.list (.cons (.name "_law_thing") .nil))) (z:="_law_row") (λr hr=>by
   have H2:=H1.mk "_law_row" (.d (aa r))
   exact cA (H2.ev rfl) (di (H2.ev rfl)) (by have:=(k r hr).1; rw[Pm]; exact MM hc hp this))
  obtain ⟨m2,e2⟩:=mC (H1.ev (C:=C) (x:="_law_rows") rfl) e1 (by rw[Pi]; exact Mz u j)
  refine Runs.set H1 e2 λl H _=>Runs.nil (kG _ (H.sub ⟨rfl,rfl,trivial⟩) (by rw[p,hy,Pj,Pm]; rfl) (PX _ h0) ?_ ?_ (λr hr=>?_))
  ·exact λq=>g1 (Ub.mp q).1
  ·rw[Pj,Pj,Pi,Pm,V0]; exact Dd u
  ·rw[Pj,Pm]
   rcases Pu.mp hr with hr | hr
   ·obtain ⟨q1,v⟩:=k r hr; exact ⟨by exact QT ‹_›,v.mono Dj⟩
   ·refine aJ hr λr' hr' Nm=>?_
    (clear hr; subst Nm)
    refine ae (k r' hr') λq1 v=>?_
    rw[Pj,Pm]
    exact ⟨by exact RJ ‹_›,(v.snoc (PW _) (x:=y) (Dk hy)).mono (CN hy)⟩
 ·intro σ' n
  refine jy (n) λt H p h0 g1 u k=>?_
  clear n
  refine ak (H "_law_rows" _ rfl) λm e=>?_
  rw[bG] at p u k
  have j:2^c<=2^7:=RN (by decide) ‹_›
  exact Runs.retn e (ah _ rfl (kG t rfl p h0 g1 (by exact If ‹_› ‹_›) k))
section
theorem bL (lib:Lib L) (ha:ev (mkC L (n+1)) a σ = .ok (.d (aa s),m)) (hb:ev (mkC L (n+1)) b σ = .ok (sI k)) (hk:0<=k):ev (mkC L (n+1)) (.call "_law_cell_at" (.cons a (.cons b .nil))) σ = .ok (sI (ba s k)) :=
 b9 lib.cell (ai ha (ai hb ax)) rfl (pF _ s k hk)
end
theorem td (C:Calls) (vec row:rg O3) (h:∀ i∈row,0<=i/\i<vec.length) (hl:row.length<=7):∃ r,av C l_apart [.d (aa vec),.d (aa row)] = .ok r/\∃ b,r=sB b/\(row=[]->b=vk):=by
 unfold l_apart
 refine da rfl λk H=>?_
 refine Runs.set H (di (al 0)) λk H _=>?_
 refine Runs.for (g:=PA) (xs:=row) (λj k=>∃ m:rg O3,Has k [("_law_sums", .d (aa m)),("_law_vectors", .d (aa vec))]/\m.length=2^j.length) (aF (H.ev rfl) (aV row .sh)) (λσ0 h _=>(ah ([0]) ((h _ H).sub ⟨rfl,rfl,trivial⟩) rfl)) ?_ ?_
 ·intro j y z u k o
  refine af (o) λm H v=>?_
  clear o
  have hp:j.length<row.length:=by rw[u,Pj,PR]; exact w6
  have p:2^j.length<=2^6:=RN (by decide) (DI hl hp)
  obtain ⟨x,y1⟩:=h y (by rw[u]; exact P5 _ (.head _))
  have H1:=H.mk "_law_thing" (.d (.int y))
  have t:∀ {k:St}{l:rg (OX×V)},Has k l->l.lookup "_law_vectors" = qn (.d (aa vec))->l.lookup "_law_thing" = qn (.d (.int y))->ev C (.sub (.name "_law_vectors") (.name "_law_thing")) k = .ok (sI (vec[y.toNat]?.getD 0)):=λH a b=>gi (H.ev a) (H.ev b) x (getD_some (la1 x y1))
  refine Runs.ite (kn (t H1 rfl rfl) (H1.ev rfl)) (λuu=>Runs.ret (hH OZ) (ah _ rfl (ah OZ rfl (λq=>?_)))) λuu=>Runs.nil ?_
  ·rw[q] at u; exact Pq u (by simp)
  refine Runs.set H1 (cA (H1.ev rfl) (gz (g:=PA) (λi=>UT i (vec[y.toNat]?.getD 0)) (aF (H1.ev rfl) (aV m .sh)) λi _=>?_) ?_) λk H _=>Runs.nil (ah _ (H.sub ⟨rfl,rfl,trivial⟩) ?_)
  ·have H2:=H1.mk "_law_one" (.d (.int i))
   exact Hw (H2.ev rfl) (t H2 rfl rfl)
  ·rw[Pi]; exact M3 v p
  ·rw[Pj,Pj,Pi,Pm,V0]; exact Mt v
 ·intro σ' n
  refine af (n) λm H v=>?_
  clear n
  exact Runs.ret (hH vk) (ah _ rfl (ah vk rfl (λuu=>rfl)))
def Tb (c:O3) (t:rg (rg O3)):Prop:=0<=c/\c<=100/\t.length<=63/\∀ r∈t,r.length<=12/\Srt c r
def uC (r:V×Mode):Prop:=∃ c t,r.1 = .d (.tuple [.int c,ag t])/\Tb c t
theorem sW (C:Calls) (c:Pa) (hc:c<=5):∃ r,av C l_pairs_by [.d (.int c)] = .ok r/\∃ t,r.1 = .d (ag t)/\qL c 32 (2*c) t:=by
 unfold l_pairs_by
 refine da rfl λn H=>?_
 refine Runs.set H qF λn H _=>?_
 refine Runs.for (g:=PA) (xs:=aS c) (λi n=>∃ t,Has n [("_law_rows", .d (ag t)),("_law_many", .d (.int c))]/\qL i.length (2^i.length) (2*i.length) t) (cu (H.ev rfl) (Mg hc)) (λσ0 h _=>(bD ([[]]) ((h _ H).sub ⟨rfl,rfl,trivial⟩) (by simp) (by simp) (λr hr=>?_))) ?_ ?_
 ·cases O7.mp hr; exact ⟨PH _,.nil _⟩
 ·intro i y post hl n p
  refine bX (p) λt H g1 v l=>?_
  clear p
  refine l8 hl λu hp=>?_
  have j:2^i.length<=2^5:=RN (by decide) (MK hc hp)
  have H1:=H.mk "_law_k" (.d (.int y))
  obtain ⟨m1,e1,_⟩:=dO (λr=>r++[2*y]) .deep (aF (H1.ev (C:=C) (x:="_law_rows") rfl) (aY t .sh)) (a:=.bin .add (.name "_law_row") (.list (.cons (.bin .mul (.int 2) (.name "_law_k")) .nil))) (z:="_law_row") (λr hr=>by
   have H2:=H1.mk "_law_row" (.d (aa r))
   exact cA (H2.ev rfl) (di (lR (al 2) (H2.ev rfl) (by decide))) (by have:=(l r hr).1; rw[Pm]; exact C5 hc hp this))
  obtain ⟨m2,e2,_⟩:=dO (λr=>r++[2*y+1]) .deep (aF (H1.ev (C:=C) (x:="_law_rows") rfl) (aY t .sh)) (a:=.bin .add (.name "_law_row") (.list (.cons (.bin .add (.bin .mul (.int 2) (.name "_law_k")) (.int 1)) .nil))) (z:="_law_row") (λr hr=>by
   have H2:=H1.mk "_law_row" (.d (aa r))
   exact cA (H2.ev rfl) (di (cP (lR (al 2) (H2.ev rfl) (by decide)) (al 1))) (by have:=(l r hr).1; rw[Pm]; exact C5 hc hp this))
  obtain ⟨m3,e3⟩:=mC e1 e2 (by rw[Pi,Pi]; exact Mv v j)
  refine Runs.set H1 e3 λn H _=>Runs.nil (bD _ (H.sub ⟨rfl,rfl,trivial⟩) ?_ ?_ (λr hr=>?_))
  ·exact λq=>g1 (WH.mp (Ub.mp q).1)
  ·rw[Pj,Pj,Pi,Pi,Pm,V0]; exact Dd v
  ·rw[Pj,Pm]
   rcases Pu.mp hr with hr | hr
   ·refine aJ hr λr' k Nx=>?_
    (clear hr; subst Nx)
    refine ae (l r' k) λq1 q2=>?_
    rw[Pj,Pm]
    exact ⟨by exact RJ ‹_›,(q2.snoc (PW _) (x:=2*y) (Ma u)).mono (MT u)⟩
   ·refine aJ hr λr' k Np=>?_
    (clear hr; subst Np)
    refine ae (l r' k) λq1 q2=>?_
    rw[Pj,Pm]
    exact ⟨by exact RJ ‹_›,(q2.snoc (PW _) (x:=2*y+1) (Mb u)).mono (LN u)⟩
 ·intro σ' o
  refine bX (o) λt H g1 v l=>?_
  clear o
  refine ak (H "_law_rows" _ rfl) λm e=>?_
  rw[bG] at v l
  have j:2^c<=2^5:=RN (by decide) ‹_›
  exact Runs.retn e (ah _ rfl (bD t rfl g1 (by exact If ‹_› ‹_›) l))
theorem dA {L:rg (OX×Fn)}{n:Pa}{σ:St}{f:OX}{fn:Fn}{es:Es}{q:rg (V×Mode)}{vs:rg V}{P:V×Mode->Prop}(hL:L.lookup f=qn fn) (he:evs (mkC L (n+1)) es σ = .ok q) (hv:q.map (·.1)=vs) (h:∃ r,av (mkC L n) fn vs = .ok r/\P r) (hp:g7 f=true:=by decide):∃ r,ev (mkC L (n+1)) (.call f es) σ = .ok r/\P r:=by
 refine af (h) λr i g=>?_
 clear h
 exact (ah r (b9 hL he hv i hp) g)
noncomputable def tri (k:Pa):Nat:=((QR k).map λi=>8-i).sum
theorem vS:∀ k≤9,tri k<=36:=by decide
theorem xu (k:Pa):tri (k+1)=tri k+(8-k):=by unfold tri; rw[List.range_succ,SJ,List.sum_append]; rfl
theorem tH (lib:Lib L) (n:Pa) (s:rg O3) (kind more:O3) (c:Pa) (hc:c<=6):∃ r,av (mkC L (n+1)) l_parts [.d (aa s),.d (.int kind),.d (.int c),.d (.int more)] = .ok r/\uC r:=by
 unfold l_parts
 refine da rfl λσ H=>?_
 obtain ⟨Nq,e1,t,ht,hsub,h0,g1,g2,g3⟩:=dA (σ:=σ) (n:=n) lib.subs (es:=.cons (.name "_law_count") .nil) (ai (H.ev rfl) ax) rfl (qt _ c (by exact QT ‹_›))
 obtain ⟨rv,rm⟩:=Nq
 cases ht
 refine Runs.set H e1 λσ H _=>?_
 have m6:=P8 more (show (6:O3)≠0 by decide)
 have m6':=Qr more (show (0:O3)<6 by decide)
 have j:0<t.length:=Tg.mpr g1
 refine Runs.ite (dg (H.ev rfl) (al 0)) (λuu=>?_) λuu=>Runs.nil ?_
 ·obtain ⟨k,hk⟩:∃ k:Pa,more%6=k:=⟨(more%6).toNat,by exact LS⟩
  have idx:∀ i:O3,∃ r,t[(ba s (6+i)%t.length).toNat]? = qn r:=λi=>⟨_,Pp (by have:=Qr (ba s (6+i)) (show (0:O3)<t.length by exact la3 j); have:=P8 (ba s (6+i)) (show (t.length:O3)≠0 by exact la2 j); exact la4 j ‹_›)⟩
  obtain ⟨m1,e2,_⟩:=dO (C:=mkC L (n+1)) (σ:=σ) (g:=PA) (l:=aS k) (z:="_law_k") (it:=.r1 (.bin .mod (.name "_law_more") (.int 6))) (a:=.sub (.name "_law_rows") (.bin .mod (.call "_law_cell_at" (.cons (.name "_law_script") (.cons (.bin .add (.int 6) (.name "_law_k")) .nil))) (.bi1 .len (.name "_law_rows")))) (λi=>(t[(ba s (6+i)%t.length).toNat]?).getD []) .sh (cu (n:=k) (m:=.deep) ((be (H.ev rfl) (al 6) (by decide)).trans (by rw[hk]; rfl)) (MD hk)) (λi hi=>by
   have H2:=H.mk "_law_k" (.d (.int i))
   have:=mem_upTo.mp hi
   refine ak (idx i) λr hr=>?_
   rw[hr]
   exact pC (H2.ev rfl) (be (bL lib (H2.ev rfl) (cP (al 6) (H2.ev rfl)) (DY this)) (jO (H2.ev rfl)) (la3 j)) (P8 _ (la2 j)) hr)
  refine c8 (H.ev (x:="_law_count") rfl) e2 λm2 e3=>?_
  refine Runs.ret e3 (ah _ rfl (bW c _ rfl (PW _) (DU hc) (by rw[Pi,bG]; exact M0 hk) (λr hr=>?_)))
  refine aJ hr λi _ Nt=>?_
  (clear hr; subst Nt)
  refine ak (idx i) λr hr=>?_
  rw[hr]
  refine ae (g3 r (QU hr)) λo q2=>?_
  exact ⟨by show r.length<=12; exact CT hc o,q2⟩
 ·refine Runs.ite (dg (be (H.ev rfl) (al 9) (by decide)) (al 8)) (λuu=>?_) λuu=>Runs.nil ?_
  ·have a1:=P8 (more/9) (show (3:O3)≠0 by decide)
   have a2:=Qr (more/9) (show (0:O3)<3 by decide)
   obtain ⟨d,p⟩:∃ d:Pa,7+more/9%3=d:=⟨(7+more/9%3).toNat,by exact LV⟩
   refine Runs.set H (cP (al 7) (be (eN (H.ev rfl) (al 9) (by decide) (by decide)) (al 3) (by decide))) λσ H _=>?_
   rw[p] at H
   refine Runs.set H mV λσ H _=>?_
   refine Runs.for (g:=PA) (xs:=aS d) (λpre σ=>∃ t,Has σ [("_law_rows", .d (ag t)),("_law_count", .d (.int d))]/\t.length<=tri pre.length/\∀ r∈t,r.length<=12/\Srt d r) (cu (H.ev rfl) (LZ p)) (λσ0 h _=>(aG ([]) ((h _ H).sub ⟨rfl,rfl,trivial⟩) (by simp) (λuu q=>by cases q))) ?_ ?_
   ·intro pre y post hl σ v
    refine aq (v) λt H o q2=>?_
    clear v
    refine l8 hl λhy hp=>?_
    have H1:=H.mk "_law_one" (.d (.int y))
    obtain ⟨m1,e2,_⟩:=dO (C:=mkC L (n+1)) (σ:=upd σ "_law_one" (mk (.d (.int y)))) (g:=PA) (z:="_law_thing") (it:=.r2 (.bin .add (.name "_law_one") (.int 1)) (.name "_law_count")) (a:=.list (.cons (.name "_law_one") (.cons (.name "_law_thing") .nil))) (λi=>[y,i]) .deep (Cf (cP (H1.ev rfl) (al 1)) (H1.ev rfl) (Mf hy) (MS p hy hp) (PW _) (MZ p)) (λi hi=>by
     have H2:=H1.mk "_law_thing" (.d (.int i))
     exact GH (H2.ev rfl) (H2.ev rfl))
    obtain ⟨m2,e3⟩:=mC (H1.ev (C:=mkC L (n+1)) (x:="_law_rows") rfl) e2 (by rw[Pi,Pi,Vf]; have:=vS pre.length (LU p hp); exact LP p o hy this)
    refine Runs.set H1 e3 λσ H _=>Runs.nil (aG _ (H.sub ⟨rfl,rfl,trivial⟩) ?_ (λr hr=>?_))
    ·rw[Pj,Pj,Pi,Pi,Vf,Pm,xu]; exact LX p o hy
    ·rcases Pu.mp hr with hr | hr
     ·exact q2 r hr
     ·refine aJ hr λi hi Ny=>?_
      (clear hr; subst Ny)
      refine aJ hi λk hk Nz=>?_
      (clear hi hr; subst Nz)
      have:=YL.mp hk
      exact ⟨by simp,by simp; exact LM,λx hx=>by
       rcases PC.mp hx with rfl | hx
       ·exact Mm hp hy
       ·rw[O7.mp hx]; exact LG hy this⟩
   ·intro σ' u
    refine aq (u) λt H o q2=>?_
    clear u
    refine c8 (H.ev (C:=mkC L (n+1)) (x:="_law_count") rfl) (H.ev (x:="_law_rows") rfl) λm2 e3=>?_
    rw[bG] at o
    have:=vS d (ML p)
    exact Runs.ret e3 (ah _ rfl (bW d t rfl (PW _) (LJ p) (Mr o this) q2))
  ·obtain ⟨m1,e2,_⟩:=jL (C:=mkC L (n+1)) (σ:=σ) (g:=aa) (l:=t) (z:="_law_row") (it:=.e (.name "_law_rows")) (a:=.name "_law_row") (c:=.cmp .eq (.bi1 .len (.name "_law_row")) (.bin .mod (.name "_law_more") (.bin .add (.name "_law_count") (.int 1)))) (λr=>r) (λr=>decide ((r.length:O3)=more%(c+1))) .sh (aF (H.ev rfl) (aY t .sh)) (λr hr=>by
    have H2:=H.mk "_law_row" (.d (aa r))
    exact dg (c7 (H2.ev rfl)) (be (H2.ev rfl) (cP (H2.ev rfl) (al 1)) wV)) (λr hr _=>(H.mk "_law_row" (.d (aa r))).ev rfl)
   refine c8 (H.ev (x:="_law_count") rfl) e2 λm2 e3=>?_
   refine Runs.ret e3 (ah _ rfl (bW c _ rfl (PW _) (DU hc) ?_ (λr hr=>?_)))
   ·rw[Tq]; exact qE (by rw[hsub]; exact yH c hc) _
   ·rw[Tq] at hr
    refine ae (g3 r (Qk.mp hr).1) λo q2=>?_
    exact ⟨by exact CT hc o,q2⟩
theorem zm {l:rg O3}{x:O3}{b:O3}(h:l.length=7) (hb:∀ i∈l,0<=i/\i<=b):∃ c:Pa,l[(x/9%7).toNat]? = qn (c:O3)/\(c:O3)<=b:=by
 have k:=P8 (x/9) (show (7:O3)≠0 by decide)
 have j:=Qr (x/9) (show (0:O3)<7 by decide)
 have g:(x/9%7).toNat<l.length:=by exact L1 h
 have:=hb _ (RM g)
 exact (ah (l[(x/9%7).toNat].toNat) (by rw[Pp g]; congr 1; exact LI this) (LY this))
theorem rW (a b c d e f g:O3):ev C (.list (.cons (.int a) (.cons (.int b) (.cons (.int c) (.cons (.int d) (.cons (.int e) (.cons (.int f) (.cons (.int g) .nil)))))))) σ = .ok (.d (aa [a,b,c,d,e,f,g]),.deep):=by
 simp only[eY,bH,bg,bk,Out.ok_bind]; rfl
theorem yJ (lib:Lib L) (n:Pa) (s:rg O3) (hs:s.length<=63):∃ r,av (mkC L (n+2)) l_few [.d (aa s)] = .ok r/\uC r:=by
 unfold l_few
 refine da rfl λσ H=>?_
 refine Runs.set H (be (bL lib (H.ev rfl) (al 0) (by decide)) (al 9) (by decide)) λσ H _=>?_
 refine af (zm (l:=[6,5,4,3,6,1,0]) (x:=ba s 0) (b:=6) rfl (by decide)) λc hc1 j=>?_
 refine Runs.set H (gi (rW 6 5 4 3 6 1 0) (be (eN (bL lib (H.ev rfl) (al 0) (by decide)) (al 9) (by decide) (by decide)) (al 7) (by decide)) (P8 _ (by decide)) hc1) λσ H _=>?_
 refine Runs.set H (bL lib (H.ev rfl) (al 1) (by decide)) λσ H _=>?_
 generalize ba s 0%9=kind at H
 generalize ba s 1=more at H
 refine Runs.ite (dg (H.ev rfl) (al 7)) (λuu=>?_) λuu=>Runs.nil ?_
 ·have a1:=P8 more (show (4:O3)≠0 by decide)
  have a2:=Qr more (show (0:O3)<4 by decide)
  obtain ⟨d,hd⟩:∃ d:Pa,1+more%4=d:=⟨(1+more%4).toNat,by exact Mn⟩
  refine Runs.set H (cP (al 1) (be (H.ev rfl) (al 4) (by decide))) λσ H _=>?_
  rw[hd] at H
  refine Runs.no ((yZ (c7 (H.ev rfl)) (al 63)).trans (by rw[Qe (LC hs)])) ?_
  obtain ⟨NC,e1,t,ht,g1,g2,g3⟩:=dA (σ:=σ) (n:=n+1) lib.pairs (es:=.cons (.name "_law_many") .nil) (ai (H.ev rfl) ax) rfl (sW _ d (L9 hd))
  obtain ⟨rv,rm⟩:=NC
  cases ht
  refine c8 (lR (al 2) (H.ev (x:="_law_many") rfl) (by decide)) e1 λm2 e3=>?_
  exact Runs.ret e3 (ah _ rfl (bW _ t rfl (PW _) (Lz hd) (LF g2) (λr hr=>ae (g3 r hr) λu o=>⟨by exact LW hd u,o⟩)))
 ·refine Runs.ite (nk (H.ev rfl) (al 2)) (λuu=>?_) λuu=>Runs.nil ?_
  ·refine af (dA (σ:=σ) (n:=n+1) lib.parts (es:=.cons (.name "_law_script") (.cons (.name "_law_kind") (.cons (.name "_law_count") (.cons (.name "_law_more") .nil)))) (ai (H.ev rfl) (ai (H.ev rfl) (ai (H.ev rfl) (ai (H.ev rfl) ax)))) rfl (tH lib n s kind more c (MO j))) λr e1 h=>?_
   exact Runs.ret e1 (ah r rfl h)
  ·clear hc1 j
   refine af (zm (l:=[6,5,4,3,7,7,2]) (x:=ba s 0) (b:=7) rfl (by decide)) λc hc1 j=>?_
   refine Runs.set H (gi (rW 6 5 4 3 7 7 2) (be (eN (bL lib (H.ev rfl) (al 0) (by decide)) (al 9) (by decide) (by decide)) (al 7) (by decide)) (P8 _ (by decide)) hc1) λσ H _=>?_
   refine Runs.set H qF λσ H _=>?_
   refine Runs.for (g:=PA) (xs:=aS c) (λk σ=>∃ t,Has σ [("_law_rows", .d (ag t)),("_law_count", .d (.int c)),("_law_script", .d (aa s)),("_law_kind", .d (.int kind)),("_law_more", .d (.int more))]/\t=mU k.length/\[]∈t/\qL k.length (2^k.length) k.length t) (cu (H.ev rfl) (CR j)) (λσ0 h _=>(kG ([[]]) ((h _ H).sub (mt rfl rfl rfl rfl rfl trivial)) rfl (.head _) (by simp) (by simp) (λr hr=>?_))) ?_ ?_
   ·cases O7.mp hr; exact ⟨PH _,.nil _⟩
   ·intro k y post hl σ NF
    refine jy (NF) λt H h3 h0 g1 g2 g3=>?_
    clear NF
    refine l8 hl λhy hp=>?_
    have hpow:2^k.length<=2^6:=RN (by decide) (LO j hp)
    have H1:=H.mk "_law_thing" (.d (.int y))
    obtain ⟨m1,e1,_⟩:=jL (C:=mkC L (n+2)) (λr=>r++[y]) (λr=>decide ((r.length:O3)<3)) .deep (aF (H1.ev (x:="_law_rows") rfl) (aY t .sh)) (a:=.bin .add (.name "_law_row") (.list (.cons (.name "_law_thing") .nil))) (c:=.cmp .lt (.bi1 .len (.name "_law_row")) (.int 3)) (z:="_law_row") (λr hr=>nk (c7 ((H1.mk "_law_row" (.d (aa r))).ev rfl)) (al 3)) (λr hr _=>by
     have H2:=H1.mk "_law_row" (.d (aa r))
     exact cA (H2.ev rfl) (di (H2.ev rfl)) (by have:=(g3 r hr).1; rw[Pm]; exact LQ j hp this))
    have hf:=QZ (λr:rg O3=>decide ((r.length:O3)<3)) t
    obtain ⟨m2,e2⟩:=mC (H1.ev (C:=mkC L (n+2)) (x:="_law_rows") rfl) e1 (by rw[Pi]; exact L6 g2 hpow hf)
    refine Runs.set H1 e2 λσ H _=>Runs.nil (kG _ (H.sub (mt rfl rfl rfl rfl rfl trivial)) (by rw[h3,hy,Pj,Pm]; rfl) (PX _ h0) ?_ ?_ (λr hr=>?_))
    ·exact λq=>g1 (Ub.mp q).1
    ·rw[Pj,Pj,Pi,Pm,V0]; exact LL g2 hf
    ·rw[Pj,Pm]
     rcases Pu.mp hr with hr | hr
     ·obtain ⟨u,o⟩:=g3 r hr; exact ⟨by exact QT ‹_›,o.mono Dj⟩
     ·refine aJ hr λr' hr' NG=>?_
      (clear hr; subst NG)
      refine ae (g3 r' (Qk.mp hr').1) λu o=>?_
      rw[Pj,Pm]
      exact ⟨by exact RJ ‹_›,(o.snoc (PW _) (x:=y) (Dk hy)).mono (CN hy)⟩
   ·intro σ NH
    refine jy (NH) λt H h3 h0 g1 g2 g3=>?_
    clear NH
    rw[bG] at h3 g2 g3
    have hpow:2^c<=2^7:=RN (by decide) (DR j)
    obtain ⟨m,hvec⟩:∃ m,(aS c).map (λi=>ba s (6+i)%8)=m:=⟨_,rfl⟩
    have hvl:m.length=c:=by rw[<- hvec,Pi,bG]
    refine Runs.set H (r:=(.d (aa m),.deep)) ((gz (g:=PA) (λi=>ba s (6+i)%8) (cu (n:=c) (H.ev rfl) (CR j)) λi hi=>?_).trans (by rw[hvec])) λσ H _=>?_
    ·have H2:=H.mk "_law_thing" (.d (.int i))
     have:=mem_upTo.mp hi
     exact be (bL lib (H2.ev rfl) (cP (al 6) (H2.ev rfl)) (DY this)) (al 8) (by decide)
    obtain ⟨p,hp⟩:=ll (l:=t) (Q:=λr b=>ev (mkC L (n+2)) (.call "_law_apart" (.cons (.name "_law_vectors") (.cons (.name "_law_row") .nil))) (upd σ "_law_row" (mk (.d (aa r)))) = .ok (sB b)/\(r=[]->b=vk)) λr hr=>by
     have H2:=H.mk "_law_row" (.d (aa r))
     refine ae (g3 r hr) λu o=>?_
     obtain ⟨_,e1,b,rfl,hb⟩:=dA (n:=n+1) lib.apart (es:=.cons (.name "_law_vectors") (.cons (.name "_law_row") .nil)) (ai (H2.ev rfl) (ai (H2.ev rfl) ax)) rfl (td _ m r (λi hi=>by have:=o.2 i hi; exact LH hvl this) (Lu j u))
     exact (ah b e1 hb)
    refine af (jL (C:=mkC L (n+2)) (σ:=σ) (g:=aa) (l:=t) (z:="_law_row") (it:=.e (.name "_law_rows")) (a:=.name "_law_row") (c:=.call "_law_apart" (.cons (.name "_law_vectors") (.cons (.name "_law_row") .nil))) (λr=>r) p .sh (aF (H.ev rfl) (aY t .sh)) (λr hr=>(hp r hr).1) (λr hr _=>(H.mk "_law_row" (.d (aa r))).ev rfl)) λm1 e1 _=>?_
    rw[Tq] at e1
    refine Runs.set H e1 λσ H _=>?_
    have hne:(t.filter p).map (λr=>(r.length:O3))≠[]:=λq=>by
     have:[]∈t.filter p:=Qk.mpr ⟨h0,(hp [] h0).2 rfl⟩
     rw[WH.mp q] at this
     cases this
    refine af (He (gz (C:=mkC L (n+2)) (σ:=σ) (g:=aa) (l:=t.filter p) (z:="_law_row") (it:=.e (.name "_law_good")) (a:=.bi1 .len (.name "_law_row")) (λr=>(r.length:O3)) (aF (H.ev rfl) (aY _ .sh)) λr _=>c7 ((H.mk "_law_row" (.d (aa r))).ev rfl)) hne) λmo e2 hmo=>?_
    refine Runs.set H e2 λσ H _=>?_
    refine aJ hmo λr0 hr0 hr1=>?_
    obtain ⟨tt,htt⟩:∃ tt,(t.filter p).filter (λr=>decide ((r.length:O3)=mo))=tt:=⟨_,rfl⟩
    have v:0<tt.length:=Tg.mpr λq=>by
     have:r0∈tt:=by rw[<- htt]; exact Qk.mpr ⟨hr0,Qc hr1⟩
     rw[q] at this; cases this
    have hsub:∀ r∈tt,r∈t:=λr hr=>by rw[<- htt] at hr; exact (Qk.mp (Qk.mp hr).1).1
    have hlen:tt.length<=63:=by
     have u:=QZ p (t.filter λr:rg O3=>decide ((r.length:O3)=mo))
     have o:=qE (t:=t) (by rw[h3]; exact vK c (DR j)) mo
     rw[<- htt,U4]
     rw[U4] at u
     simp only[Bool.and_comm] at u ⊢
     exact L8 u o
    obtain ⟨m3,e3,_,hm3⟩:=jL (C:=mkC L (n+2)) (σ:=σ) (g:=aa) (l:=t.filter p) (z:="_law_row") (it:=.e (.name "_law_good")) (a:=.name "_law_row") (c:=.cmp .eq (.bi1 .len (.name "_law_row")) (.name "_law_most")) (λr=>r) (λr=>decide ((r.length:O3)=mo)) .sh (aF (H.ev rfl) (aY _ .sh)) (λr hr=>by
     have H2:=H.mk "_law_row" (.d (aa r))
     exact dg (c7 (H2.ev rfl)) (H2.ev rfl)) (λr hr _=>(H.mk "_law_row" (.d (aa r))).ev rfl)
    rw[Tq,htt] at e3
    refine Runs.set H e3 λσ H hσ=>?_
    have fin:∀ {σ:St}{l:rg (OX×V)}(t':rg (rg O3)),Has σ l->l.lookup "_law_count" = qn (.d (.int c))->l.lookup "_law_table_here" = qn (.d (ag t'))->(∀ r∈t',r∈t)->t'.length<=63->Runs (mkC L (n+2)) (.cons (.ret (.tup (.cons (.name "_law_count") (.cons (.name "_law_table_here") .nil)))) .nil) σ (λuu fl=>∃ r,fl = .ret r/\uC r):=λt' H a b ht' hl'=>by
     refine c8 (H.ev (C:=mkC L (n+2)) a) (H.ev b) λm2 e4=>?_
     exact Runs.ret e4 (ah _ rfl (bW c t' rfl (PW _) (MY j) hl' (λr hr=>ae (g3 r (ht' r hr)) λu o=>⟨by exact Mq j u,o⟩)))
    refine Runs.ite (dg (H.ev rfl) (al 3)) (λuu=>?_) λuu=>Runs.nil (fin tt H rfl rfl hsub hlen)
    refine Runs.popR H hσ hm3 (be (H.ev rfl) (jO (H.ev rfl)) (la3 v)) (P8 _ (la2 v)) (Qr _ (la3 v)) λσ H _=>Runs.nil (fin _ H rfl rfl (λr hr=>hsub r (Vs hr)) (If (VJ ..) hlen))
theorem Srt.affine (h:Srt c r) (ha:0<=a) (hb:0<b):Srt (a+b*c) (r.map λx=>a+b*x):=by
 refine ⟨?_,λx i=>?_⟩
 ·rw[RI]
  refine h.1.imp λ{x y} q=>?_
  have:=U5 q hb
  exact Mx this
 ·refine aJ i λy l g=>?_
  (clear i; subst g)
  refine ae (h.2 y l) λn m=>?_
  have k:=YM (QW hb) n
  have j:=U5 m hb
  exact MA ha k j
theorem iG (c:Pa):(aS c).Pairwise (· < ·):=by
 unfold aS
 rw[RI]
 exact List.pairwise_lt_range.imp λ{a b} h=>by exact DH h
theorem ui (lib:Lib L) (n:Pa) (s:rg O3) (hs:s.length<=63):∃ r,av (mkC L (n+3)) l_table [.d (aa s)] = .ok r/\uC r:=by
 unfold l_table
 refine da rfl λσ H=>?_
 refine Runs.set H (be (bL lib (H.ev rfl) (al 0) (by decide)) (al 9) (by decide)) λσ H _=>?_
 refine Runs.set H (bL lib (H.ev rfl) (al 1) (by decide)) λσ H _=>?_
 generalize ba s 0%9=kind at H
 generalize ba s 1=more at H
 refine Runs.ite (dg (H.ev rfl) (al 4)) (λuu=>?_) λuu=>Runs.nil ?_
 ·have a1:=P8 more (show (12:O3)≠0 by decide)
  have a2:=Qr more (show (0:O3)<12 by decide)
  have a3:=P8 (more/12) (show (4:O3)≠0 by decide)
  obtain ⟨d,p⟩:∃ d:Pa,7+more%12=d:=⟨(7+more%12).toNat,by exact M2⟩
  refine Runs.set H (cP (al 7) (be (H.ev rfl) (al 12) (by decide))) λσ H _=>?_
  rw[p] at H
  refine Runs.set H (cP (al 1) (be (eN (H.ev rfl) (al 12) (by decide) (by decide)) (al 4) (by decide))) λσ H _=>?_
  obtain ⟨m1,e1,_⟩:=jL (C:=mkC L (n+3)) (σ:=σ) (g:=PA) (l:=aS d) (z:="_law_thing") (it:=.r1 (.name "_law_count")) (a:=.list (.cons (.name "_law_thing") .nil)) (c:=.cmp .eq (.bin .mod (.name "_law_thing") (.name "_law_step")) (.int 0)) (λi=>[i]) (λi=>decide (i%(1+more/12%4)=0)) .deep (cu (H.ev rfl) (Lw p)) (λi _=>by
   have H2:=H.mk "_law_thing" (.d (.int i))
   exact dg (be (H2.ev rfl) (H2.ev rfl) MC) (al 0)) (λi _ _=>di ((H.mk "_law_thing" (.d (.int i))).ev rfl))
  refine c8 (H.ev (C:=mkC L (n+3)) (x:="_law_count") rfl) e1 λm2 e2=>?_
  refine Runs.ret e2 (ah _ rfl (bW d _ rfl (PW _) (Me p) ?_ (λr u=>?_)))
  ·rw[Pi]
   have:=QZ (λi=>decide (i%(1+more/12%4)=0)) (aS d)
   rw[bG] at this; exact LA p this
  ·refine aJ u λi hi NJ=>?_
   (clear u; subst NJ)
   have:=mem_upTo.mp (Qk.mp hi).1
   exact ⟨by simp,by simp,λx hx=>by rw[O7.mp hx]; exact DJ this⟩
 ·refine Runs.ite (dg (H.ev rfl) (al 5)) (λuu=>?_) λuu=>Runs.nil ?_
  ·have a1:=P8 more (show (6:O3)≠0 by decide)
   have a2:=Qr more (show (0:O3)<6 by decide)
   obtain ⟨d,p⟩:∃ d:Pa,7+more%6=d:=⟨(7+more%6).toNat,by exact Ly⟩
   refine Runs.set H (cP (al 7) (be (H.ev rfl) (al 6) (by decide))) λσ H _=>?_
   rw[p] at H
   obtain ⟨m1,e1,_⟩:=dO (C:=mkC L (n+3)) (σ:=σ) (g:=PA) (l:=aS d) (z:="_law_gone") (it:=.r1 (.name "_law_count")) (a:=.compif (.name "_law_thing") "_law_thing" (.r1 (.name "_law_count")) (.cmp .ne (.name "_law_thing") (.name "_law_gone"))) (λg=>(aS d).filter λi=>!decide (i=g)) .deep (cu (H.ev rfl) (DF p)) (λg _=>by
    have H2:=H.mk "_law_gone" (.d (.int g))
    exact bS (λi=>!decide (i=g)) (cu (H2.ev rfl) (DF p)) λi _=>by
     have H3:Has (upd (upd σ "_law_gone" (mk (.d (.int g)))) "_law_thing" (sI i)) _:=H2.upd "_law_thing" (.d (.int i)) .deep
     exact jA (H3.ev rfl) (H3.ev rfl))
   refine c8 (H.ev (C:=mkC L (n+3)) (x:="_law_count") rfl) e1 λm2 e2=>?_
   refine Runs.ret e2 (ah _ rfl (bW d _ rfl (PW _) (MG p) (by rw[Pi,bG]; exact Mu p) (λr u=>?_)))
   refine aJ u λg _ NQ=>?_
   (clear u; subst NQ)
   refine ⟨?_,(iG d).filter _,λx hx=>?_⟩
   ·have:=QZ (λi=>!decide (i=g)) (aS d)
    rw[bG] at this; exact L7 p this
   ·have:=mem_upTo.mp (Qk.mp hx).1
    exact DJ this
  ·obtain ⟨NM,e1,c,t,u,h0,h1,h2,h3⟩:=dA (σ:=σ) (n:=n+2) lib.few (es:=.cons (.name "_law_script") .nil) (ai (H.ev rfl) ax) rfl (yJ lib n s hs)
   obtain ⟨rv,rm⟩:=NM
   cases u
   refine Runs.set H e1 λσ H k=>?_
   refine Runs.set H (bL lib (H.ev rfl) (al 12) (by decide)) λσ' H hσ'=>?_
   generalize ba s 12=far at H
   have o:∀ {σ:St}{l:rg (OX×V)},Has σ l->l.lookup "_law_made" = qn (.d (.tuple [.int c,ag t]))->ev (mkC L (n+3)) (.sub (.name "_law_made") (.int 0)) σ = .ok (sI c)/\ev (mkC L (n+3)) (.sub (.name "_law_made") (.int 1)) σ = .ok (.d (ag t),.sh):=λH a=>⟨mM (m:=.sh) (H.ev a) (al 0),pf (m:=.sh) (H.ev a) (al 1)⟩
   refine ae (o H rfl) λd1 d2=>?_
   refine Runs.ite (fe (jA (be (H.ev rfl) (al 3) (by decide)) (al 1)) λuu=>fe (yZ (jO d2) (al 8)) λuu=>yZ d1 (al 9)) (λuu=>?_) λq=>Runs.nil ?_
   ·refine ak (H "_law_made" _ rfl) λm e=>?_
    exact Runs.retn e (ah _ rfl (bW c t rfl h0 h1 h2 h3))
   ·have hc9:c<=9:=by
     have:=(SP.mp (SP.mp q).2).2
     have:=RQ this
     exact ME this
    have ht8:t.length<=8:=by
     have:=(SP.mp (SP.mp q).2).1
     have:=RQ this
     exact Ls this
    clear q d1 d2
    refine Runs.set H (cP (al 1) (be (eN (H.ev rfl) (al 3) (by decide) (by decide)) (al 9) (by decide))) λσ H _=>?_
    refine Runs.set H (be (eN (H.ev rfl) (al 27) (by decide) (by decide)) (al 9) (by decide)) λσ H _=>?_
    have b1:=P8 (far/3) (show (9:O3)≠0 by decide)
    have b2:=Qr (far/3) (show (0:O3)<9 by decide)
    have b3:=P8 (far/27) (show (9:O3)≠0 by decide)
    have b4:=Qr (far/27) (show (0:O3)<9 by decide)
    generalize hst:1+far/3%9=st at H
    generalize hfi:far/27%9=fi at H
    refine Runs.set H mV λσ H k=>?_
    refine Runs.for (g:=aa) (xs:=t) (λj σ=>Has σ [("_law_table_here", .d (ag (j.map λr=>r.map λx=>fi+st*x))),("_law_made", .d (.tuple [.int c,ag t])),("_law_step", .d (.int st)),("_law_first", .d (.int fi))]/\σ "_law_table_here" = qn (.d (ag (j.map λr=>r.map λx=>fi+st*x)),.deep)) (aF (o H rfl).2 (aY t .sh)) (λσ0 h hh=>⟨(h _ H).sub (cF rfl rfl rfl rfl trivial),(hh _ (by simp[fg,dq,BB,rS])).trans k⟩) ?_ ?_
    ·intro j y post hl σ NS
     refine ae (NS) λH k=>?_
     clear NS
     have hp:j.length<t.length:=by rw[hl,Pj,PR]; exact w6
     have H1:=H.mk "_law_choice" (.d (aa y))
     refine Runs.appR H1 (t:=j.map λr=>r.map λx=>fi+st*x) (m:=.deep) ((OY (by decide)).trans k) (by decide) (gz (g:=PA) (λx=>fi+st*x) (aF (H1.ev rfl) (aV y .sh)) λi _=>?_) (by rw[Pi]; exact MB ht8 hp) λσ H k _=>Runs.nil ?_
     ·have H2:=H1.mk "_law_thing" (.d (.int i))
      exact cP (H2.ev rfl) (lR (H2.ev rfl) (H2.ev rfl) (by lia))
     ·have e:(j++[y]).map (λr=>r.map λx=>fi+st*x)=j.map (λr=>r.map λx=>fi+st*x)++[y.map λx=>fi+st*x]:=by rw[SJ]; rfl
      show Has σ _/\_
      rw[e]
      exact ⟨H.sub (cF rfl rfl rfl rfl trivial),k⟩
    ·intro σ v
     refine ae (v) λH _=>?_
     clear v
     refine c8 (cP (H.ev (C:=mkC L (n+3)) (x:="_law_first") rfl) (lR (H.ev (x:="_law_step") rfl) (o H rfl).1 (by lia))) (H.ev (x:="_law_table_here") rfl) λm2 e2=>?_
     have q1:=YM (show 0<=st by exact LB hst) h0
     have q2:st*c<=9*9:=Int.mul_le_mul (MQ hst) hc9 h0 (by decide)
     refine Runs.ret e2 (ah _ rfl (bW _ _ rfl (Mp hfi q1) (Mo hfi q2) (by rw[Pi]; exact M4 ht8) (λr u=>?_)))
     refine aJ u λr' hr' NO=>?_
     (clear u; subst NO)
     refine ae (h3 r' hr') λq3 q4=>?_
     exact ⟨by rw[Pi]; exact MX q3,q4.affine (MR hfi) (MW hst)⟩
noncomputable def exchF (one:rg O3) (o x:O3):rg Int:=aL (one.filter (λy=>!decide (y=o))++[x])
noncomputable def dh (t:rg (rg O3)) (one other:rg O3) (x:O3):Bool:=one.any λo=>!decide (o∈other)&&decide (exchF one o x∈t)
noncomputable def fO (c:Pa) (t:rg (rg O3)):O4 (rg O3×rg O3×O3) :=
 t.findSome? λh=>(aS c).findSome? λx=>if x∈h then O2 else t.findSome? λg=>if (decide (x∈g) && !dh t h g x)=vk then qn (h,g,x) else O2
theorem jt (p:α->PV) (l:rg α):l.findSome? (λx=>if p x=vk then qn () else O2)=if l.any p=vk then qn () else none:=by
 induction l with
 | nil=>rfl
 | cons a l ih=>
  rw[So,List.any_cons]
  cases p a with
  | true=>rfl
  | false=>simpa using ih
theorem BW (H:Has σ l) (hz:z ≠ "x") (ha:ev C a σ = .ok (.d (aa c),m)) (hd:ev C d σ = .ok (sI t)) (hb:∀ i:O3,ev C b (upd σ z (sI i)) = .ok (sI o)) (h:c.length<63) :
  ev C (.bi1 .sorted (.bin .add (.compif (.name z) z (.e a) (.cmp .ne (.name z) b)) (.list (.cons d .nil)))) σ = .ok (.d (aa (exchF c o t)),.deep):=by
 have g:(c.filter λx=>!decide (x=o)).length<=c.length:=QZ ..
 refine yM (cA (bS (λi=>!decide (i=o)) (aF ha (aV c m)) λi _=>jA (tO (p:=sI i) (O1 rfl) rfl) (hb i)) (di hd) (by rw[Pm]; exact Ml h g)) ?_
 rw[Pj,Pm]; exact M5 h g
theorem xo (C:Calls) (t:rg (rg O3)) (one other:rg O3) (x:O3) (h:one.length<63):av C l_can [.d (ag t),.d (aa one),.d (aa other),.d (.int x)] = .ok (sB (dh t one other x)):=by
 unfold l_can dh
 refine b8 rfl λj H=>?_
 refine Runs.seek (g:=PA) (xs:=one) (λj=>Has j [("_law_table_here", .d (ag t)),("_law_one", .d (aa one)),("_law_other", .d (aa other)),("_law_thing", .d (.int x))]) (λo=>if (!decide (o∈other)&&decide (exchF one o x∈t))=vk then qn () else O2) (λuu=>sB vk) (aF (H.ev rfl) (aV one .sh)) (λl h _=>(h _ H).sub (cF rfl rfl rfl rfl trivial)) (λo m j H=>?_) (λq k _=>?_) λuu q k=>?_
 ·have H1:=H.mk "_law_out" (.d (.int o))
  refine Runs.set H1 (BW H1 (by decide) (H1.ev rfl) (H1.ev rfl) (λi=>(H1.upd "_law_left" (.d (.int i)) .deep).ev rfl) h) λj H2 _=>?_
  refine Runs.ite (fK (ie (H2.ev rfl) (H2.ev rfl)) λuu=>ud (H2.ev rfl) (H2.ev rfl)) (λq=>Runs.ret (hH vk) ?_) λq=>Runs.nil (Runs.nil ?_)
  ·exact Cont.ret (Sk.ret (q:=()) (O1 q))
  ·exact Sk.next (OY (by rw[q]; decide)) (H2.sub (cF rfl rfl rfl rfl trivial))
 ·rw[jt] at q
  refine Runs.ret (hH OZ) ?_
  by_cases e:(one.any λo=>!decide (o∈other)&&decide (exchF one o x∈t))=vk
  ·rw[O1 e] at q; cases q
  ·rw[Uc.mpr e]
 ·rw[jt] at q
  by_cases e:(one.any λo=>!decide (o∈other)&&decide (exchF one o x∈t))=vk
  ·rw[e]
  ·rw[OY e] at q; cases q
theorem rn (lib:Lib L) (n:Pa) (c:Pa) (t:rg (rg O3)) (hc:c<=1000) (h:∀ r∈t,r.length<63):av (mkC L (n+1)) l_fault [.d (.int c),.d (ag t)] = .ok (match fO c t with | none=>(.d .none,.deep) | some (a,b,x)=>(.d (.tuple [aa a,aa b,.int x]),.sh)):=by
 unfold l_fault fO
 refine b8 rfl λl H=>?_
 let rv:rg O3×rg O3×O3->V×Mode:=λq=>(.d (.tuple [aa q.1,aa q.2.1,.int q.2.2]),.sh)
 let Inv:St->Prop:=λl=>Has l [("_law_table_here", .d (ag t)),("_law_count", .d (.int c))]
 refine Runs.seek (g:=aa) (xs:=t) Inv (λj=>(aS c).findSome? λx=>if x∈j then O2 else t.findSome? λi=>if (decide (x∈i) && !dh t j i x)=vk then qn (j,i,x) else O2) rv (aF (H.ev rfl) (aY t .sh)) (λo h _=>(h _ H).sub ⟨rfl,rfl,trivial⟩) (λj u l H=>?_) (λq k _=>?_) λq p k=>?_
 ·have H1:=H.mk "_law_one" (.d (aa j))
  refine Runs.seek (g:=PA) (xs:=aS c) (λl=>Has l [("_law_table_here", .d (ag t)),("_law_count", .d (.int c)),("_law_one", .d (aa j))]) (λx=>if x∈j then O2 else t.findSome? λi=>if (decide (x∈i) && !dh t j i x)=vk then qn (j,i,x) else O2) rv (cu (H1.ev rfl) (xA hc)) (λo h _=>(h _ H1).sub (cZ rfl rfl rfl trivial)) (λx y l H=>?_) (λq k H=>Runs.nil ?_) λq p k=>?_
  ·have H2:=H.mk "_law_thing" (.d (.int x))
   refine Runs.ite (ie (H2.ev rfl) (H2.ev rfl)) (λq=>?_) λq=>Runs.nil (Runs.nil ?_)
   ·have m:x∉j:=by simpa using q
    refine Runs.seek (g:=aa) (xs:=t) (λl=>Has l [("_law_table_here", .d (ag t)),("_law_count", .d (.int c)),("_law_one", .d (aa j)),("_law_thing", .d (.int x))]) (λi=>if (decide (x∈i) && !dh t j i x)=vk then qn (j,i,x) else O2) rv (aF (H2.ev rfl) (aY t .sh)) (λo h _=>(h _ H2).sub (cF rfl rfl rfl rfl trivial)) (λi z l H=>?_) (λq k H=>Runs.nil (Runs.nil ?_)) λq p k=>?_
    ·have H3:=H.mk "_law_other" (.d (aa i))
     refine Runs.ite (fK (kn (H3.ev rfl) (H3.ev rfl)) λuu=>fP (b9 lib.can (ai (H3.ev rfl) (ai (H3.ev rfl) (ai (H3.ev rfl) (ai (H3.ev rfl) ax)))) rfl (xo _ t j i x (h j u)))) (λq=>?_) λq=>Runs.nil (Runs.nil ?_)
     ·have v:ev (mkC L (n+1)) (.tup (.cons (.name "_law_one") (.cons (.name "_law_other") (.cons (.name "_law_thing") .nil)))) (upd l "_law_other" (mk (.d (aa i)))) = .ok (rv (j,i,x)):=by
       exact wK (m1:=.sh) (m2:=.sh) (m3:=.deep) (H3.ev rfl) (H3.ev rfl) (H3.ev rfl)
      exact Runs.ret v (Cont.ret (Sk.ret (q:=(j,i,x)) (O1 q)))
     ·exact Sk.next (OY (by rw[q]; decide)) (H3.sub (cF rfl rfl rfl rfl trivial))
    ·exact Sk.next ((OY m).trans q) (H.sub (cZ rfl rfl rfl trivial))
    ·exact Cont.ret (Sk.ret ((OY m).trans p))
   ·have m:x∈j:=by simpa using q
    exact Sk.next (O1 m) (H2.sub (cZ rfl rfl rfl trivial))
  ·exact Sk.next q (H.sub ⟨rfl,rfl,trivial⟩)
  ·exact Sk.ret p
 ·rw[q]; exact Runs.ret jN rfl
 ·rw[p]
def Kn (pre:rg (rg O3)) (v:V):Prop:=(pre=[]/\v = .dic0)\/∃ ks,v = .dicT ks/\ks.length<=pre.length/\(∀ k,k∈ks↔k∈pre)/\ks.Nodup
theorem ji (r:rg O3):eV (aO r)=qn r:=cY r
theorem Kn.add (K:Kn pre v) (r:rg O3) (hl:pre.length<=1000):∃ v',iD σ z v (aO r) = .ok (upd σ z (v',.deep),.next)/\Kn (pre++[r]) v':=by
 rcases K with ⟨rfl,rfl⟩ | ⟨ks,rfl,h1,h2,h3⟩
 ·refine (ah (.dicT [r]) ?_ (.inr (bD ([r]) rfl (PH _) (λk=>Jaf) (by simp))))
  simp only[iD,ji,show cT (aO r)=O2 from rfl]
 ·refine (ah (.dicT (if r∈ks then ks else ks++[r])) ?_ (.inr (bD _ rfl ?_ (λk=>?_) ?_)))
  ·show (match eV (aO r) with | some i=>if ks.length<=lim then Out.ok (upd σ z (V.dicT (if i∈ks then ks else ks++[i]),Mode.deep),Flw.next) else .bad | none=>.bad)=_
   rw[ji]
   show (if ks.length<=lim then _ else _)=_
   rw[O1 (by unfold lim; exact DW hl h1)]
  ·rw[Pj,Pm]
   by_cases e:r∈ks
   ·rw[O1 e]; exact Ad h1
   ·rw[OY e,Pj,Pm]; exact kO h1
  ·by_cases e:r∈ks
   ·rw[O1 e,h2,Pu,O7]
    exact ⟨.inl,λq=>q.elim id λq=>q▸(h2 r).mp e⟩
   ·rw[OY e,Pu,Pu,h2]
  ·by_cases e:r∈ks
   ·rw[O1 e]; exact h3
   ·rw[OY e]; exact R6.mpr ⟨h3,by simp,λa h b g q=>e (by rw[O7.mp g] at q; exact q▸h)⟩
theorem mQ (C:Calls) (t:rg (rg O3)) (hl:t.length<=1000):∃ r,av C p_known_of [.d (ag t)] = .ok r/\∃ v,r=(v,.deep)/\Kn t v:=by
 unfold p_known_of
 refine da rfl λσ H=>?_
 refine Runs.set H uX λσ H k=>?_
 refine Runs.for (g:=aa) (xs:=t) (λj σ=>∃ v,σ "known" = qn (v,.deep)/\Kn j v) (aF (H.ev rfl) (aY t .sh)) (λu _ hh=>(ah .dic0 ((hh _ (by simp[fg,dq])).trans k) (.inl ⟨rfl,rfl⟩))) ?_ ?_
 ·intro j y q n σ i
  refine af (i) λv m K=>?_
  clear i
  have x:j.length<t.length:=by rw[n,Pj,PR]; exact w6
  refine af (K.add (σ:=upd σ "choice" (mk (.d (aa y)))) (z:="known") y (Fo hl x)) λo h1 h2=>?_
  have l:upd σ "choice" (mk (.d (aa y))) "known" = qn (v,.deep):=(OY (by decide)).trans m
  refine Runs.next (σ':=upd (upd σ "choice" (mk (.d (aa y)))) "known" (o,.deep)) ?_ (Runs.nil (ah o (pq _ _ _) h2))
  simp only[db,rX (C:=C) (tO (C:=C) (σ:=upd σ "choice" (mk (.d (aa y)))) (z:="choice") (p:=(.d (aa y),.sh)) (O1 rfl) rfl),Out.ok_bind,kI,eH,l]
  rw[O1 trivial,h1]; rfl
 ·intro σ' h
  refine af (h) λv m K=>?_
  clear h
  exact Runs.retn m (ah _ rfl (ah v rfl K))
noncomputable def s5:O4 (rg O3×rg O3×O3)->V×Mode
 | none=>(.d .none,.deep)
 | some q=>(.d (.tuple [aa q.1,aa q.2.1,.int q.2.2]),.deep)
noncomputable def p_need_row:Fn:=⟨["count", "things"],
(.cons (.assign "seen" .edic)
(.cons (.for1 "thing" (.e (.name "things"))
(.cons (.ite (.or (.cmp .lt (.name "thing") (.int 0)) (.or (.cmp .ge (.name "thing") (.name "count")) (.cmp .isin (.name "thing") (.name "seen"))))
(.cons (.raise "NoThing")
.nil)
.nil)
(.cons (.setitem "seen" (.name "thing"))
.nil)))
.nil))⟩
noncomputable def jI:Ss:=(.cons (.ite (.or (.cmp .lt (.name "thing") (.int 0)) (.or (.cmp .ge (.name "thing") (.name "count")) (.cmp .isin (.name "thing") (.name "seen"))))
(.cons (.raise "NoThing")
.nil)
.nil)
(.cons (.setitem "seen" (.name "thing"))
.nil))
def Good (c:O3) (xs:rg O3):Prop:=(∀ x∈xs,0<=x/\x<c)/\xs.Nodup
def Sn (pre:rg O3) (v:V):Prop:=(pre=[]/\v = .dic0)\/∃ ks,v = .dicI ks/\ks.length<=pre.length/\∀ k,k∈ks↔k∈pre
theorem Sn.has (K:Sn pre v) (x:O3):cz .isin (.d (.int x)) v = .ok (decide (x∈pre)):=by
 rcases K with ⟨rfl,rfl⟩ | ⟨ks,rfl,h1,h2⟩
 ·rfl
 ·show Out.ok (decide (x∈ks))=_
  rw[Tk.mpr (h2 x)]
theorem Sn.add (K:Sn pre v) (x:O3) (hl:pre.length<=1000):∃ v',iD σ z v (.int x) = .ok (upd σ z (v',.deep),.next)/\Sn (pre++[x]) v':=by
 rcases K with ⟨rfl,rfl⟩ | ⟨ks,rfl,h1,h2⟩
 ·exact (ah (.dicI [x]) rfl (.inr (aG ([x]) rfl (PH _) (λk=>Jaf))))
 ·refine (ah (.dicI (if x∈ks then ks else ks++[x])) ?_ (.inr (aG _ rfl ?_ (λk=>?_))))
  ·show (if ks.length<=lim then _ else _)=_
   rw[O1 (by unfold lim; exact DW hl h1)]
  ·rw[Pj,Pm]
   by_cases e:x∈ks
   ·rw[O1 e]; exact Ad h1
   ·rw[OY e,Pj,Pm]; exact kO h1
  ·by_cases e:x∈ks
   ·rw[O1 e,h2,Pu,O7]
    exact ⟨.inl,λq=>q.elim id λq=>q▸(h2 x).mp e⟩
   ·rw[OY e,Pu,Pu,h2]
theorem ow (hC:C "NoThing" = qn g) (c:O3):∀ (xs pre:rg O3) (σ:St) (v:V),Has σ [("count", .d (.int c))]->σ "seen" = qn (v,.deep)->Sn pre v->Good c pre->pre.length+xs.length<=1000 ->
  (Good c (pre++xs)->∃ σ',cR (λy σ=>exs C jI (upd σ "thing" (mk (.d y)))) (xs.map .int) σ = .ok (σ',.next))/\(¬ Good c (pre++xs)->cR (λy σ=>exs C jI (upd σ "thing" (mk (.d y)))) (xs.map .int) σ = .exc "NoThing")
 | [],pre,σ,v,H,hs,K,hg,hl=>by
  rw[SD]
  exact ⟨λuu=>⟨σ,rfl⟩,λq=>Pq hg q⟩
 | x::xs,pre,σ,v,H,hs,K,hg,hl=>by
  have H1:Has (upd σ "thing" (mk (.d (.int x)))) [("thing", .d (.int x)),("count", .d (.int c))]:=H.mk "thing" (.d (.int x))
  have i:upd σ "thing" (mk (.d (.int x))) "seen" = qn (v,.deep):=(OY (by decide)).trans hs
  have k:=H1.ev (C:=C) (x:="thing") rfl
  have e2:ev C (.cmp .isin (.name "thing") (.name "seen")) (upd σ "thing" (mk (.d (.int x)))) = .ok (sB (decide (x∈pre))):=bF k (by simp only[cK,i]; rfl) (K.has x)
  have m:ev C (.or (.cmp .lt (.name "thing") (.int 0)) (.or (.cmp .ge (.name "thing") (.name "count")) (.cmp .isin (.name "thing") (.name "seen")))) (upd σ "thing" (mk (.d (.int x)))) = .ok (sB (decide (x<0)||(decide (c<=x)||decide (x∈pre)))) :=
   fe (nk k (al 0)) λuu=>fe (xt k (H1.ev rfl)) λuu=>e2
  simp only[QE,cR]
  by_cases bad:x<0\/c<=x\/x∈pre
  ·have n:(decide (x<0)||(decide (c<=x)||decide (x∈pre)))=true:=by simpa using bad
   rw[n] at m
   have ng:¬ Good c (pre++x::xs):=λ⟨h1,h2⟩=>by
    have r:=h1 x (by simp)
    rcases bad with q | q | q
    ·exact Gx r q
    ·exact Jv r q
    ·exact (R6.mp h2).2.2 x q x (.head _) rfl
   have l:exs C jI (upd σ "thing" (mk (.d (.int x)))) = .exc "NoThing" := by
    unfold jI
    simp only[cq,bf]
    rw[sF m]
    simp only[cq,bf,db,dk,hC,am]
    rfl
   refine ⟨λq=>Pq q ng,λuu=>?_⟩
   rw[l]; rfl
  ·have n:(decide (x<0)||(decide (c<=x)||decide (x∈pre)))=false:=by simpa using bad
   rw[n] at m
   obtain ⟨j,u,K'⟩:=K.add (σ:=upd σ "thing" (mk (.d (.int x)))) (z:="seen") x (by rw[PR] at hl; exact Ih hl)
   have l:exs C jI (upd σ "thing" (mk (.d (.int x)))) = .ok (upd (upd σ "thing" (mk (.d (.int x)))) "seen" (j,.deep),.next):=by
    unfold jI
    rw[gL ((ny m).trans iS)]
    refine (gL (σ':=upd (upd σ "thing" (mk (.d (.int x)))) "seen" (j,.deep)) ?_).trans iS
    simp only[db,k,Out.ok_bind,i]
    show (iD _ _ _ _).calm=_
    rw[u]; rfl
   have o:Good c (pre++[x]):=by
    refine ⟨λy hy=>?_,R6.mpr ⟨hg.2,by simp,λa ha b t q=>?_⟩⟩
    ·rcases Pu.mp hy with h | h
     ·exact hg.1 y h
     ·rw[O7.mp h]; exact Hc bad
    ·rw[O7.mp t] at q; (clear H1 K' e2 u n l k t hl i; subst q); exact bad (.inr (.inr ha))
   have p:=ow hC c xs (pre++[x]) (upd (upd σ "thing" (mk (.d (.int x)))) "seen" (j,.deep)) j ((H1.upd "seen" j .deep).sub ⟨rfl,trivial⟩) (pq _ _ _) K' o (by rw[Pj,Pm]; rw[PR] at hl; exact HJ hl)
   rw[QX] at p
   rw[l]
   exact p
theorem fY (hC:C "NoThing" = qn g) (c:O3) (xs:rg O3) (hl:xs.length<=1000) :
  (Good c xs->av C p_need_row [.d (.int c),.d (aa xs)] = .ok (.d .none,.deep))/\(¬ Good c xs->av C p_need_row [.d (.int c),.d (aa xs)] = .exc "NoThing"):=by
 refine af (bT ["count", "things"] [.d (.int c),.d (aa xs)] rfl) λσ k H=>?_
 have m:bq p_need_row.params [.d (.int c),.d (aa xs)]=qn σ:=k
 have p:ex C (.assign "seen" .edic) σ = .ok (upd σ "seen" (.dic0,.deep),.next):=by
  simp only[bt]
  rw[jY (uX (C:=C) (σ:=σ))]
  rfl
 have H1:Has (upd σ "seen" (.dic0,.deep)) [("seen", .dic0),("count", .d (.int c)),("things", .d (aa xs))]:=H.upd "seen" .dic0 .deep
 have l:=aF (C:=C) (H1.ev (C:=C) (x:="things") rfl) (aV xs .sh)
 refine ae (ow hC c xs [] (consume (upd σ "seen" (.dic0,.deep)) (bR (.e (.name "things"))) .sh) .dic0 ((H1.sub (l':=[("count", .d (.int c))]) ⟨rfl,trivial⟩).consume _ _) ((iw.2 "seen" (by simp[fg,dq])).trans (pq _ _ _)) (.inl ⟨rfl,rfl⟩) ⟨λuu h=>(nomatch h),.nil⟩ (by simpa using hl)) λj o=>?_
 have i:exs C p_need_row.body σ=(cR (λy σ=>exs C jI (upd σ "thing" (mk (.d y)))) (xs.map .int) (consume (upd σ "seen" (.dic0,.deep)) (bR (.e (.name "things"))) .sh)).bind λq=>match q.2 with | .next=>exs C .nil q.1 | .ret v=>.ok (q.1,.ret v):=by
  show exs C (.cons (.assign "seen" .edic) _) σ=_
  rw[gL p]
  simp only[cq,bf,db,eB,pH,dk,l,Out.ok_bind]
  rfl
 refine ⟨λq=>?_,λq=>?_⟩
 ·refine ak (j q) λn j=>?_
  rw[j] at i
  unfold av
  rw[m]
  dsimp only
  rw[i]
  simp only[Out.ok_bind,iS]
 ·rw[o q] at i
  unfold av
  rw[m]
  dsimp only
  rw[i]
  rfl
def NoF (c:Pa) (t:rg (rg O3)):Prop:=∀ one∈t,∀ x∈aS c,x∉one->∀ other∈t,x∈other->dh t one other x=vk
theorem fault_none:fO c t=O2↔NoF c t:=by
 unfold fO NoF
 rw[Th]
 refine Y4 λj=>Yj λuu=>?_
 rw[Th]
 refine Y4 λx=>Yj λuu=>?_
 by_cases hx:x∈j
 ·simp[hx]
 ·rw[OY hx,Th]
  refine ⟨λh _ g k i=>?_,λh g k=>?_⟩
  ·have:=h g k
   cases hc:dh t j g x with
   | true=>rfl
   | false=>rw[O1 (by simp[i,hc])] at this; cases this
  ·by_cases i:x∈g
   ·rw[OY (by simp[h hx g k i])]
   ·rw[OY (by simp[i])]
theorem y4 (h:∀ r,r∈t↔r∈u) (one other:rg O3) (x:O3):dh t one other x=dh u one other x:=by
 unfold dh
 congr 1
 funext o
 rw[Tk.mpr (h (exchF one o x))]
theorem NoF.set (n:NoF c t) (h:∀ r,r∈t↔r∈u):NoF c u:=λi m x l o g k j=>by
 rw[<- y4 h]
 exact n i ((h i).mpr m) x l o g ((h g).mpr k) j
theorem NoF.empty (n:NoF c t) (hr:∀ r∈t,Srt c r) (h:[]∈t):∀ r∈t,r=[]:=λr g=>by
 cases r with
 | nil=>rfl
 | cons x r=>
  have i:=(hr _ g).2 x (.head _)
  have:=n [] h x (mem_upTo.mpr i) (λq=>nomatch q) _ g (.head _)
  cases this
theorem NoF.one (c:Pa) (r:rg O3):NoF c [r]:=λone k x l j h i g=>by
 rw[O7.mp k] at j
 rw[O7.mp i] at g
 exact Pq g j
noncomputable def p_Rule:Fn:=⟨["count", "table"],
(.cons (.ite (.cmp .eq (.bi1 .len (.name "table")) (.int 0))
(.cons (.raise "NoChoice")
.nil)
.nil)
(.cons (.for1 "choice" (.e (.name "table"))
(.cons (.expr (.call "need_row" (.cons (.name "count") (.cons (.name "choice") .nil))))
.nil))
(.cons (.assign "known" (.call "known_of" (.cons (.comp (.bi1 .sorted (.name "choice")) "choice" (.e (.name "table"))) .nil)))
(.cons (.assign "full" (.comp (.bi1 .list (.name "choice")) "choice" (.e (.bi1 .sorted (.bi1 .list (.name "known"))))))
(.cons (.ite (.cmp .isnot (.call "fault" (.cons (.name "count") (.cons (.name "full") .nil))) .none)
(.cons (.raise "NoExchange")
.nil)
.nil)
.nil)))))⟩
structure LibR (L:rg (OX×Fn)):Prop extends Lib L where
 need:L.lookup "need_row" = qn p_need_row
 rule:L.lookup "Rule" = qn p_Rule
 nth:∃ f,L.lookup "NoThing" = qn f
theorem gZ (hL:L.lookup f=qn fn) (he:evs (aA (mkC L (n+1))) es σ = .ok q) (hv:q.map (·.1)=vs) (h:av (mkC L n) fn vs = .ok r) (hp:g7 f=true:=by decide) (hl:f ≠ "law" := by decide):ev (aA (mkC L (n+1))) (.call f es) σ = .ok r:=by
 have g:aA (mkC L (n+1)) f=qn λvs=>ce f (mkC L n) fn vs:=by
  unfold aA
  rw[OY hl]
  show (L.lookup f).map _=_; rw[hL]; rfl
 rw[jb g he,hv,k8 hp,h]
theorem Srt.good (h:Srt c r):Good c r:=⟨h.2,h.1.imp λq e=>by rw[e] at q; exact Int.lt_irrefl _ q⟩
theorem li:∀ ks:rg (rg O3),eP (ks.map aO)=qn ks
 | []=>rfl
 | k::ks=>by simp only[QE,eP,ji,li ks,Tp,TC]
theorem rt (h0:ks≠[]) (h64:ks.length<64) (hne:ks.length<2\/[]∉ks):∃ m,b1V .sorted (.d (.list (ks.map aO))) = .ok (.d (.list ((bV ks).map aO)),m):=by
 refine ⟨fresh ((bV ks).map aO),?_⟩
 show eF (ks.map aO)=_
 unfold eF
 have g:aM (ks.map aO)=none:=by
  cases ks with
  | nil=>exact Pq rfl h0
  | cons k ks=>rfl
 rw[O1 (by rw[Pi]; exact h64),g]
 show gw _=_
 unfold gw
 rw[li]
 show (if ks.length<2\/[]∉ks then _ else _)=_
 rw[O1 hne]
theorem yX (r:rg O3):b1V .list (.d (aO r)) = .ok (.d (aa r),.deep):=by
 show Out.ok (V.d (.list (r.map PA)),fresh (r.map PA))=_
 have:fresh (r.map PA) = .deep:=by
  unfold fresh
  rw[O1]
  rw[Xf,Q1]
  intro _ _; rfl
 rw[this]; rfl
noncomputable def p_rank:Fn:=⟨["self", "things"],
(.cons (.expr (.call "need_row" (.cons (.attr (.name "self") "count") (.cons (.name "things") .nil))))
(.cons (.ret (.bi1 .max (.comp (.bi1 .len (.compif (.name "thing") "thing" (.e (.name "choice")) (.cmp .isin (.name "thing") (.name "things")))) "choice" (.e (.attr (.name "self") "full")))))
.nil))⟩
noncomputable def p_together:Fn:=⟨["self", "things"],
(.cons (.ret (.cmp .eq (.meth (.name "self") "rank" (.cons (.name "things") .nil)) (.bi1 .len (.name "things"))))
.nil)⟩
noncomputable def jl (things choice:rg O3):Nat:=(choice.filter λx=>decide (x∈things)).length
theorem jg:∀ {a b:rg O3},a.Nodup->(∀ x∈a,x∈b)->a.length<=b.length
 | [],_,_,_=>Qn _
 | x::a,b,hn,h=>by
  have i:=h x (.head _)
  refine ae (Q6.mp hn) λk j=>?_
  have:=jg (b:=b.erase x) j λy g=>(List.mem_erase_of_ne (λ(q:y=x)=>k (q▸g))).mpr (h y (.tail _ g))
  rw[Vt i] at this
  have l:0<b.length:=SE i
  rw[PR]; exact HQ this l
theorem Cw {a b:rg O3}(hn:a.Nodup) (h:∀ x∈a,x∈b) (hl:b.length<=a.length):∀ x∈b,x∈a:=λx i=>by
 by_cases q:x∈a
 ·exact q
 ·have:=jg (a:=x::a) (Q6.mpr ⟨q,hn⟩) λy g=>(PC.mp g).elim (λe=>e▸i) (h y)
  rw[PR] at this
  exact HK hl this
theorem rZ (h:choice.Nodup):jl things choice<=things.length:=jg (h.filter _) λx g=>PS (Qk.mp g).2
theorem qw (hc:choice.Nodup) (ht:things.Nodup):jl things choice=things.length↔∀ x∈things,x∈choice:=by
 constructor
 ·intro h x g
  exact (Qk.mp (Cw (hc.filter λx=>decide (x∈things)) (λx g=>PS (Qk.mp g).2) (by unfold jl at h; exact Ay h) x g)).1
 ·intro h
  exact Qt (rZ hc) (jg ht λx g=>Qk.mpr ⟨h x g,Qc g⟩)
theorem wi (hL:L.lookup f=qn fn) (he:evs (aA (mkC L (n+1))) es σ = .ok q) (hv:q.map (·.1)=vs) (h:av (mkC L n) fn vs = .exc c) (hp:g7 f=true:=by decide) (hl:f ≠ "law" := by decide):ev (aA (mkC L (n+1))) (.call f es) σ = .exc c:=by
 have g:aA (mkC L (n+1)) f=qn λvs=>ce f (mkC L n) fn vs:=by
  unfold aA
  rw[OY hl]
  show (L.lookup f).map _=_; rw[hL]; rfl
 rw[jb g he,hv,k8 hp,h]
theorem dm (hC:C "Rule" = qn g) (h:ev C a σ = .ok (.rule c d k,m)):ev C (.attr a "count") σ = .ok (sI c)/\ev C (.attr a "full") σ = .ok (mk (.d d))/\ev C (.attr a "size") σ = .ok (sI k):=by
 refine ⟨?_,?_,?_⟩<;>(simp only[e8,hC,am,h,Out.ok_bind]; rfl)
theorem Dx (ha:ev C a σ = .ok (.d (aa xs),m)) (h:eU xs=qn i):ev C (.bi1 .max a) σ = .ok (sI i):=by
 rw[d6 ha]
 show (am ((aM (xs.map PA)).bind eU) λi=>Out.ok (sI i))=_
 rw[cY,Tp,h]
 rfl
theorem vo (lib:LibR L) (n:Pa) (c k:O3) (u:rg (rg O3)) (things:rg O3) (hu:u≠[]) (hl:things.length<=1000) :
  (Good c things->∃ i,eU (u.map λr=>(jl things r:O3))=qn i/\av (aA (mkC L (n+2))) p_rank [.rule c (ag u) k,.d (aa things)] = .ok (sI i)) /\
  (¬ Good c things->av (aA (mkC L (n+2))) p_rank [.rule c (ag u) k,.d (aa things)] = .exc "NoThing"):=by
 refine ak (lib.nth) λnt q=>?_
 have v:mkC L (n+1) "NoThing" = qn λo=>ce "NoThing" (mkC L n) nt o:=by show (L.lookup "NoThing").map _=_; rw[q]; rfl
 have h:aA (mkC L (n+2)) "Rule" = qn λo=>ce "Rule" (mkC L (n+1)) p_Rule o:=by
  unfold aA
  rw[OY (by decide)]
  show (L.lookup "Rule").map _=_; rw[lib.rule]; rfl
 refine ae (fY v c things hl) λs1 z=>?_
 refine ⟨λt=>?_,λt=>?_⟩
 ·refine af (jT (xs:=u.map λr=>(jl things r:O3)) (by simpa using hu)) λi y _=>?_
  refine (ah i y ?_)
  unfold p_rank
  refine b8 rfl λm H=>?_
  have j:=H.ev (C:=aA (mkC L (n+2))) (x:="self") rfl
  refine Runs.expr H (gZ lib.need (ai (dm h j).1 (ai (H.ev (x:="things") rfl) ax)) rfl (s1 t)) λm H _=>?_
  have j:=H.ev (C:=aA (mkC L (n+2))) (x:="self") rfl
  refine Runs.ret (Dx (gz (g:=aa) (l:=u) (λr=>(jl things r:O3)) (aF (dm h j).2.1 (aY u .sh)) λr _=>?_) y) rfl
  have H1:=H.mk "choice" (.d (aa r))
  exact c7 (bS (λx=>decide (x∈things)) (aF (H1.ev rfl) (aV r .sh)) λx _=>by
   have H2:=H1.mk "thing" (.d (.int x))
   exact kn (H2.ev (x:="thing") rfl) (H2.ev (x:="things") rfl))
 ·refine af (bT ["self", "things"] [V.rule c (ag u) k,V.d (aa things)] rfl) λm p H=>?_
  have j:=H.ev (C:=aA (mkC L (n+2))) (x:="self") rfl
  have e1:=wi lib.need (ai (dm h j).1 (ai (H.ev (x:="things") rfl) ax)) rfl (z t)
  unfold av
  rw[show bq p_rank.params [V.rule c (ag u) k,V.d (aa things)]=qn m from p]
  dsimp only
  unfold p_rank
  simp only[cq,bf,dz,je,e1,Out.exc_bind]
structure LibT (L:rg (OX×Fn)):Prop extends LibR L where
 rank:L.lookup "rank" = qn p_rank
 tog:L.lookup "together" = qn p_together
theorem sE (lib:LibT L) (n:Pa) (hC:C "rank" = mkC L (n+3) "rank") (ha:ev C a σ = .ok (.rule c (ag u) k,m)) (hb:ev C b σ = .ok (.d (aa things),m')) :
  ev C (.meth a "rank" (.cons b .nil)) σ=av (aA (mkC L (n+2))) p_rank [.rule c (ag u) k,.d (aa things)]:=by
 have h:C "rank" = qn λg=>ce "rank" (mkC L (n+2)) p_rank g:=by rw[hC]; show (L.lookup "rank").map _=_; rw[lib.rank]; rfl
 simp only[dl,ha,Out.ok_bind,eM,am,h,bg,bk,hb,QE,XA]
 rfl
theorem oW (lib:LibT L) (n:Pa) (c k:O3) (u:rg (rg O3)) (things:rg O3) (hu:u≠[]) (hl:things.length<=1000) :
  (Good c things->∃ i,eU (u.map λr=>(jl things r:O3))=qn i/\av (aA (mkC L (n+3))) p_together [.rule c (ag u) k,.d (aa things)] = .ok (sB (decide (i=things.length)))) /\
  (¬ Good c things->av (aA (mkC L (n+3))) p_together [.rule c (ag u) k,.d (aa things)] = .exc "NoThing"):=by
 refine ae (vo lib.toLibR n c k u things hu hl) λp o=>?_
 have m:aA (mkC L (n+3)) "rank" = mkC L (n+3) "rank" := by unfold aA; rw[OY (by decide)]
 refine ⟨λl=>?_,λl=>?_⟩
 ·refine af (p l) λi q h=>?_
  refine (ah i q ?_)
  unfold p_together
  refine b8 rfl λg H=>?_
  refine Runs.ret (dg ((sE lib n m (H.ev (x:="self") rfl) (H.ev (x:="things") rfl)).trans h) (c7 (H.ev (x:="things") rfl))) rfl
 ·refine af (bT ["self", "things"] [V.rule c (ag u) k,V.d (aa things)] rfl) λg j H=>?_
  have t:=(sE lib n m (H.ev (x:="self") rfl) (H.ev (x:="things") rfl)).trans (o l)
  unfold av
  rw[show bq p_together.params [V.rule c (ag u) k,V.d (aa things)]=qn g from j]
  dsimp only
  unfold p_together
  simp only[cq,bf,je]
  rw[show ev (aA (mkC L (n+3))) (.cmp .eq (.meth (.name "self") "rank" (.cons (.name "things") .nil)) (.bi1 .len (.name "things"))) g = .exc "NoThing" from by rw[eJ,t]; rfl]
  rfl
noncomputable def l_bit:Fn:=⟨["_law_cell", "_law_k"],
(.cons (.for1 "_law_j" (.r1 (.name "_law_k"))
(.cons (.assign "_law_cell" (.bin .fdiv (.name "_law_cell") (.int 2)))
.nil))
(.cons (.ret (.cmp .eq (.bin .mod (.name "_law_cell") (.int 2)) (.int 1)))
.nil))⟩
noncomputable def l_held:Fn:=⟨["_law_script"],
(.cons (.assign "_law_made" (.call "_law_table" (.cons (.name "_law_script") .nil)))
(.cons (.ite (.or (.cmp .eq (.sub (.name "_law_made") (.int 1)) (.list .nil)) (.cmp .isnot (.call "_law_fault" (.cons (.sub (.name "_law_made") (.int 0)) (.cons (.sub (.name "_law_made") (.int 1)) .nil))) .none))
(.cons (.ret (.tup (.cons (.sub (.name "_law_made") (.int 0)) (.cons (.list (.cons (.compif (.name "_law_thing") "_law_thing" (.r1 (.sub (.name "_law_made") (.int 0))) (.call "_law_bit" (.cons (.call "_law_cell_at" (.cons (.name "_law_script") (.cons (.int 2) .nil))) (.cons (.name "_law_thing") .nil)))) .nil)) .nil))))
.nil)
.nil)
(.cons (.retn "_law_made")
.nil)))⟩
structure LibH (L:rg (OX×Fn)):Prop extends Lib L where
 bit:L.lookup "_law_bit" = qn l_bit
 held:L.lookup "_law_held" = qn l_held
structure Hd (c:Pa) (t:rg (rg O3)):Prop where
 hc:c<=100
 ne:t≠[]
 len:t.length<=63
 rows:∀ r∈t,r.length<=100/\Srt c r
 few:1<t.length->∀ r∈t,r.length<=60
 nf:NoF c t
theorem w5 (C:Calls) (x:O3) (k:Pa) (hk:k<=1000):∃ r,av C l_bit [.d (.int x),.d (.int k)] = .ok r/\∃ b,r=sB b:=by
 unfold l_bit
 refine da rfl λi H=>?_
 refine Runs.for (g:=PA) (xs:=aS k) (λm i=>∃ y:O3,Has i [("_law_cell", .d (.int y))]) (cu (H.ev rfl) (xA hk)) (λo h _=>⟨x,(h _ H).sub ⟨rfl,trivial⟩⟩) ?_ ?_
 ·intro m y n p i l
  refine ak (l) λz H=>?_
  clear l
  have H1:=H.mk "_law_j" (.d (.int y))
  exact Runs.set H1 (eN (H1.ev rfl) (al 2) (by decide) (by decide)) λi H _=>Runs.nil ⟨_,H.sub ⟨rfl,trivial⟩⟩
 ·intro i j
  refine ak (j) λz H=>?_
  clear j
  exact Runs.ret (dg (be (H.ev rfl) (al 2) (by decide)) (al 1)) (ah _ rfl (bP _ rfl))
theorem Ld (ha:ev C a σ = .ok (.d (ag t),m)) (hb:ev C b σ = .ok (.d (ag u),m')):ev C (.cmp .eq a b) σ = .ok (sB (decide (t=u))):=bF ha hb (Bn t u)
theorem CP (ha:ev C a σ = .ok (.d (aa r),m)):∃ m,ev C (.list (.cons a .nil)) σ = .ok (.d (ag [r]),m):=by
 refine ⟨if allDeep [(.d (aa r),m)] then .deep else .top,?_⟩
 simp only[bH,bg,bk,ha,Out.ok_bind]
 rfl
theorem vF (lib:LibH L) (n:Pa) (s:rg O3) (hs:s.length<=63):∃ r,av (mkC L (n+4)) l_held [.d (aa s)] = .ok r/\∃ (c:Pa) (t:rg (rg O3)),r.1 = .d (.tuple [.int c,ag t])/\Hd c t:=by
 unfold l_held
 refine da rfl λσ H=>?_
 obtain ⟨u,v,c,t,g,h0,h,h2,k⟩:=dA (σ:=σ) (n:=n+3) lib.table (es:=.cons (.name "_law_script") .nil) (ai (H.ev rfl) ax) rfl (ui lib.toLib n s hs)
 obtain ⟨rv,rm⟩:=u
 cases g
 obtain ⟨c,rfl⟩:∃ d:Pa,c=d:=⟨c.toNat,by exact Ke h0⟩
 refine Runs.set H v λσ H hσ=>?_
 have j:∀ {σ:St}{l:rg (OX×V)},Has σ l->l.lookup "_law_made" = qn (.d (.tuple [.int c,ag t]))->ev (mkC L (n+4)) (.sub (.name "_law_made") (.int 0)) σ = .ok (sI c)/\ev (mkC L (n+4)) (.sub (.name "_law_made") (.int 1)) σ = .ok (.d (ag t),.sh):=λH a=>⟨mM (m:=.sh) (H.ev a) (al 0),pf (m:=.sh) (H.ev a) (al 1)⟩
 refine ae (j H rfl) λy d2=>?_
 have o:=b9 (σ:=σ) lib.lfault (ai y (ai d2 ax)) rfl (rn lib.toLib (n+2) c t (J8 h) λr g=>by have:=(k r g).1; exact HR this)
 have en:ev (mkC L (n+4)) (.cmp .isnot (.call "_law_fault" (.cons (.sub (.name "_law_made") (.int 0)) (.cons (.sub (.name "_law_made") (.int 1)) .nil))) .none) σ = .ok (sB (!decide (fO c t=O2))):=by
  cases hf:fO c t with
  | none=>
   rw[hf] at o
   exact bF o jN rfl
  | some q=>
   rw[hf] at o
   exact bF (mx:=.sh) o jN rfl
 refine Runs.ite (fe (Ld d2 mV) λuu=>en) (λuu=>?_) λq=>Runs.nil ?_
 ·obtain ⟨p,hp⟩:=ll (l:=aS c) (Q:=λi b=>ev (mkC L (n+4)) (.call "_law_bit" (.cons (.call "_law_cell_at" (.cons (.name "_law_script") (.cons (.int 2) .nil))) (.cons (.name "_law_thing") .nil))) (upd σ "_law_thing" (sI i)) = .ok (sB b)) λi hi=>by
   have H2:Has (upd σ "_law_thing" (sI i)) _:=H.upd "_law_thing" (.d (.int i)) .deep
   obtain ⟨i,rfl⟩:∃ d:Pa,i=d:=⟨i.toNat,by have:=mem_upTo.mp hi; exact FC this⟩
   obtain ⟨_,v,b,rfl⟩:=dA (n:=n+3) lib.bit (es:=.cons (.call "_law_cell_at" (.cons (.name "_law_script") (.cons (.int 2) .nil))) (.cons (.name "_law_thing") .nil)) (ai (bL lib.toLib (H2.ev rfl) (al 2) (by decide)) (ai (H2.ev rfl) ax)) rfl (w5 _ _ i (by have:=mem_upTo.mp hi; exact KE h this))
   exact ⟨b,v⟩
  refine ak (CP (bS (z:="_law_thing") p (cu y (GS h)) hp)) λm1 e3=>?_
  refine c8 y e3 λm2 e4=>?_
  have hl:((aS c).filter p).length<=100:=by
   have:=QZ p (aS c)
   rw[bG] at this; exact F1 h this
  refine Runs.ret e4 ⟨_,rfl,c,_,rfl,by exact Ag h,by simp,by simp,λr g=>?_,λq=>by simp at q,.one c _⟩
  rw[O7.mp g]
  exact ⟨hl,(iG c).filter _,λx hx=>mem_upTo.mp (Qk.mp hx).1⟩
 ·refine ak (H "_law_made" _ rfl) λm e=>?_
  refine ae (SP.mp q) λq1 q2=>?_
  refine Runs.retn e ⟨_,rfl,c,t,rfl,by exact Ag h,RQ q1,h2,λr g=>⟨by have:=(k r g).1; exact Lh this,(k r g).2⟩,λuu r g=>by have:=(k r g).1; exact Gp this,fault_none.mp ?_⟩
  simpa using q2
theorem CF (lib:LibR L) (he:evs (mkC L (n+1)) es σ = .ok q) (hv:q.map (·.1)=vs) (h:dC (aA (mkC L n)) p_Rule vs = .ok r):ev (mkC L (n+1)) (.call "Rule" es) σ = .ok r:=by
 have g:mkC L (n+1) "Rule" = qn λvs=>ce "Rule" (mkC L n) p_Rule vs:=by show (L.lookup "Rule").map _=_; rw[lib.rule]; rfl
 rw[jb g he,hv]
 exact h
theorem qg {a:rg O3}(h:a.Pairwise (· < ·)):a.Nodup:=Xz (R:=(· < ·)) (S:=(·≠·)) (λh=>Zg h) h
theorem qM (lib:LibR L) (n:Pa):∃ g,mkC L (n+1) "Rule" = qn g:=⟨_,by show (L.lookup "Rule").map _=_; rw[lib.rule]; rfl⟩
noncomputable def p_need_full:Fn:=⟨["self", "choice"],
(.cons (.expr (.call "need_row" (.cons (.attr (.name "self") "count") (.cons (.name "choice") .nil))))
(.cons (.ite (.cmp .notin (.bi1 .sorted (.name "choice")) (.attr (.name "self") "full"))
(.cons (.raise "NoChoice")
.nil)
.nil)
(.cons (.ret (.bi1 .sorted (.name "choice")))
.nil)))⟩
noncomputable def p_outs:Fn:=⟨["self", "choice", "thing"],
(.cons (.assign "held" (.meth (.name "self") "need_full" (.cons (.name "choice") .nil)))
(.cons (.ite (.or (.cmp .lt (.name "thing") (.int 0)) (.or (.cmp .ge (.name "thing") (.attr (.name "self") "count")) (.cmp .isin (.name "thing") (.name "held"))))
(.cons (.raise "NoThing")
.nil)
.nil)
(.cons (.ret (.compif (.name "out") "out" (.e (.name "held")) (.cmp .isin (.call "exchanged" (.cons (.name "held") (.cons (.name "out") (.cons (.name "thing") .nil)))) (.attr (.name "self") "full"))))
.nil)))⟩
noncomputable def p_exchanges:Fn:=⟨["self", "choice"],
(.cons (.assign "held" (.meth (.name "self") "need_full" (.cons (.name "choice") .nil)))
(.cons (.ret (.compif (.tup (.cons (.name "thing") (.cons (.meth (.name "self") "outs" (.cons (.name "held") (.cons (.name "thing") .nil))) .nil))) "thing" (.r1 (.attr (.name "self") "count")) (.cmp .notin (.name "thing") (.name "held"))))
.nil))⟩
structure LibE (L:rg (OX×Fn)):Prop extends LibR L where
 nch:(L.lookup "NoChoice").isSome=vk
 nf:L.lookup "need_full" = qn p_need_full
 outs:L.lookup "outs" = qn p_outs
 exs:L.lookup "exchanges" = qn p_exchanges
theorem qz (xs:rg O3) (t:rg (rg O3)):cz .notin (.d (aa xs)) (.d (ag t)) = .ok (!decide (xs∈t)):=by
 show ((inV (aa xs) (.d (ag t))).bind λb=>Out.ok (!b))=_
 rw[qT]; rfl
theorem kR (hC:C f=mkC L (n+1) f) (hL:L.lookup f=qn fn) (hk:∀ vs,ce f (mkC L n) fn vs=av (aA (mkC L n)) fn vs) {σ:St}{a:E}{es:Es}{q:rg (V×Mode)}{vs:rg V}{m:Mode}{c k:O3}{d:Pk}(ha:ev C a σ = .ok (.rule c d k,m)) (he:evs C es σ = .ok q) (hv:q.map (·.1)=vs) :
  ev C (.meth a f es) σ=av (aA (mkC L n)) fn (.rule c d k::vs):=by
 have g:C f=qn λvs=>ce f (mkC L n) fn vs:=by rw[hC]; show (L.lookup f).map _=_; rw[hL]; rfl
 simp only[dl,ha,Out.ok_bind,eM,am,g,he,hv]
 exact hk _
theorem gW (h:f ≠ "law"):aA C f=C f:=by unfold aA; rw[OY h]
theorem gO (h:(L.lookup f).isSome=vk) (n:Pa):∃ g,mkC L (n+1) f=qn g:=by
 refine bZ h λj i=>?_
 exact ⟨_,by show (L.lookup f).map _=_; rw[i]; rfl⟩
theorem kP {ps:rg OX}(hl:ps.length=vs.length) (h:∀ σ,Has σ (ps.zip vs)->ex C s σ = .exc c):av C ⟨ps,.cons s b⟩ vs = .exc c:=by
 refine af (bT ps vs hl) λσ g H=>?_
 unfold av
 rw[show bq (Fn.mk ps (.cons s b)).params vs=qn σ from g]
 dsimp only
 rw[bf,h σ H]
 rfl
theorem Good.nn (h:Good c xs):∀ i∈xs,0<=i:=λi g=>(h.1 i g).1
theorem jR (lib:LibE L) (n:Pa) (c k:O3) (u:rg (rg O3)) (xs:rg O3) (hl:xs.length<128):(¬ Good c xs->av (aA (mkC L (n+2))) p_need_full [.rule c (ag u) k,.d (aa xs)] = .exc "NoThing")/\(Good c xs->aL xs∉u->av (aA (mkC L (n+2))) p_need_full [.rule c (ag u) k,.d (aa xs)] = .exc "NoChoice") /\
  (Good c xs->aL xs∈u->av (aA (mkC L (n+2))) p_need_full [.rule c (ag u) k,.d (aa xs)] = .ok (.d (aa (aL xs)),.deep)):=by
 obtain ⟨gR,j⟩:∃ g,aA (mkC L (n+2)) "Rule" = qn g:=by rw[gW (by decide)]; exact qM lib.toLibR (n+1)
 obtain ⟨gN,hN⟩:∃ g,aA (mkC L (n+2)) "NoChoice" = qn g:=by rw[gW (by decide)]; exact gO lib.nch (n+1)
 refine ak (lib.nth) λfT hT=>?_
 have p:mkC L (n+1) "NoThing" = qn λv=>ce "NoThing" (mkC L n) fT v:=by show (L.lookup "NoThing").map _=_; rw[hT]; rfl
 refine ae (fY p c xs (Jo hl)) λq y=>?_
 have r:∀ {h:St}{l:rg (OX×V)},Has h l->l.lookup "self" = qn (.rule c (ag u) k)->l.lookup "choice" = qn (.d (aa xs))->Good c xs->ev (aA (mkC L (n+2))) (.cmp .notin (.bi1 .sorted (.name "choice")) (.attr (.name "self") "full")) h = .ok (sB (!decide (aL xs∈u))):=λH a b i=>
  bF (ej (H.ev b) hl i.nn) (dm j (H.ev a)).2.1 (qz _ _)
 unfold p_need_full
 refine ⟨λi=>kP rfl λh H=>?_,λi o=>?_,λi o=>b8 rfl λh H=>?_⟩
 ·rw[dz,wi lib.need (ai (dm j (H.ev (x:="self") rfl)).1 (ai (H.ev (x:="choice") rfl) ax)) rfl (y i)]; rfl
 ·refine af (bT ["self", "choice"] [.rule c (ag u) k,.d (aa xs)] rfl) λh m H=>?_
  have e1:=gZ lib.need (ai (dm j (H.ev (x:="self") rfl)).1 (ai (H.ev (x:="choice") rfl) ax)) rfl (q i)
  have t:=r H rfl rfl i
  rw[Qe o] at t
  have z:∀ ns,consume h ns .deep=h:=λ_=>O1 rfl
  unfold av
  rw[show bq (Fn.mk ["self", "choice"] _).params [.rule c (ag u) k,.d (aa xs)]=qn h from m]
  dsimp only
  rw[bf,dz,e1]
  simp only[Out.ok_bind,z,bf,eB]
  rw[show ev (aA (mkC L (n+2))) (.cmp .notin (.bi1 .sorted (.name "choice")) (.attr (.name "self") "full")) h = .ok (sB vk) from t]
  simp only[Out.ok_bind,cq,dk,hN,am]
  rfl
 ·refine Runs.expr H (gZ lib.need (ai (dm j (H.ev (x:="self") rfl)).1 (ai (H.ev (x:="choice") rfl) ax)) rfl (q i)) λh H _=>?_
  refine Runs.no ((r H rfl rfl i).trans (by simp[o])) ?_
  exact Runs.ret (ej (H.ev rfl) hl i.nn) rfl
theorem eQ (C:Calls) (r:rg O3) (o x:O3) (h:r.length<127) (h0:∀ i∈r,0<=i) (hx:0<=x):av C p_exchanged [.d (aa r),.d (.int o),.d (.int x)] = .ok (.d (aa (exchF r o x)),.deep):=by
 have g:(r.filter λx=>!decide (x=o)).length<=r.length:=QZ ..
 unfold p_exchanged
 refine b8 rfl λk H=>Runs.ret (ej (cA (bS (λi=>!decide (i=o)) (aF (H.ev (x:="choice") rfl) (aV r .sh)) λi _=>?_) (di (H.ev (x:="thing") rfl)) (by rw[Pm]; exact Ao h g)) (by rw[Pj,Pm]; exact AQ h g) λi j=>?_) rfl
 ·have H2:=H.upd "one" (.d (.int i)) .deep
  exact jA (H2.ev (x:="one") rfl) (H2.ev (x:="out") rfl)
 ·rcases Pu.mp j with q | q
  ·exact h0 i (Qk.mp q).1
  ·rw[O7.mp q]; exact hx
noncomputable def pg (u:rg (rg O3)) (r:rg O3) (x:O3):rg Int:=r.filter λo=>decide (exchF r o x∈u)
theorem tx (h:Good c xs):Good c (aL xs):=⟨λx g=>h.1 x ((Qu xs _).mem_iff.mp g),(Qu xs _).nodup_iff.mpr h.2⟩
theorem v6 (xs:rg O3):(aL xs).length=xs.length:=(Qu xs _).length_eq
theorem vT (lib:LibE L) (n:Pa) (c k:O3) (u:rg (rg O3)) (xs:rg O3) (x:O3) (hl:xs.length<127) :
  (¬ Good c xs->av (aA (mkC L (n+3))) p_outs [.rule c (ag u) k,.d (aa xs),.d (.int x)] = .exc "NoThing")/\(Good c xs->aL xs∉u->av (aA (mkC L (n+3))) p_outs [.rule c (ag u) k,.d (aa xs),.d (.int x)] = .exc "NoChoice") /\
  (Good c xs->aL xs∈u->(x<0\/c<=x\/x∈xs)->av (aA (mkC L (n+3))) p_outs [.rule c (ag u) k,.d (aa xs),.d (.int x)] = .exc "NoThing") /\
  (Good c xs->aL xs∈u->0<=x->x<c->x∉xs->av (aA (mkC L (n+3))) p_outs [.rule c (ag u) k,.d (aa xs),.d (.int x)] = .ok (.d (aa (pg u (aL xs) x)),.deep)):=by
 obtain ⟨gR,v⟩:∃ g,aA (mkC L (n+3)) "Rule" = qn g:=by rw[gW (by decide)]; exact qM lib.toLibR (n+2)
 refine ak (lib.nth) λfT hT=>?_
 obtain ⟨gT,t⟩:∃ g,aA (mkC L (n+3)) "NoThing" = qn g:=by rw[gW (by decide)]; exact gO (by rw[hT]; rfl) (n+2)
 refine aI (jR lib n c k u xs (JK hl)) λf1 f2 z=>?_
 have q:∀ {h:St}{l:rg (OX×V)},Has h l->l.lookup "self" = qn (.rule c (ag u) k)->l.lookup "choice" = qn (.d (aa xs))->ev (aA (mkC L (n+3))) (.meth (.name "self") "need_full" (.cons (.name "choice") .nil)) h=av (aA (mkC L (n+2))) p_need_full [.rule c (ag u) k,.d (aa xs)]:=λH a b=>
  kR (gW (by decide)) lib.nf (λ_=>rfl) (H.ev a) (ai (H.ev b) ax) rfl
 have eb:∀ {h:St}{l:rg (OX×V)},Has h l->l.lookup "self" = qn (.rule c (ag u) k)->l.lookup "thing" = qn (.d (.int x))->l.lookup "held" = qn (.d (aa (aL xs)))->ev (aA (mkC L (n+3))) (.or (.cmp .lt (.name "thing") (.int 0)) (.or (.cmp .ge (.name "thing") (.attr (.name "self") "count")) (.cmp .isin (.name "thing") (.name "held")))) h = .ok (sB (decide (x<0)||(decide (c<=x)||decide (x∈aL xs)))):=λH a b d=>
  fe (nk (H.ev b) (al 0)) λ_=>fe (xt (H.ev b) (dm v (H.ev a)).1) λ_=>kn (H.ev b) (H.ev d)
 have i:x∈aL xs↔x∈xs:=(Qu xs _).mem_iff
 unfold p_outs
 refine (cZ (λj=>kP rfl λh H=>?_) (λj p=>kP rfl λh H=>?_) (λj p hb=>?_) (λj p y h1 h2=>b8 rfl λh H=>?_))
 ·rw[bt]; unfold evA; rw[OY (by decide),q H rfl rfl,f1 j]; rfl
 ·rw[bt]; unfold evA; rw[OY (by decide),q H rfl rfl,f2 j p]; rfl
 ·refine af (bT ["self", "choice", "thing"] [.rule c (ag u) k,.d (aa xs),.d (.int x)] rfl) λh r H=>?_
  have e1:=(q H rfl rfl).trans (z j p)
  have H2:=H.upd "held" (.d (aa (aL xs))) .deep
  have e2:=eb H2 rfl rfl rfl
  have m:(decide (x<0)||(decide (c<=x)||decide (x∈aL xs)))=true:=by
   simp only[i,UU,PM]; exact hb
  rw[m] at e2
  have hc:∀ ns,consume h ns .deep=h:=λ_=>O1 rfl
  unfold av
  rw[show bq (Fn.mk ["self", "choice", "thing"] _).params [.rule c (ag u) k,.d (aa xs),.d (.int x)]=qn h from r]
  dsimp only
  rw[bf,bt,jY e1]
  simp only[Out.ok_bind,hc,bf,eB]
  rw[e2]
  simp only[Out.ok_bind,cq,dk,t,am]
  rfl
 ·refine Runs.set H ((q H rfl rfl).trans (z j p)) λh H _=>?_
  have m:(decide (x<0)||(decide (c<=x)||decide (x∈aL xs)))=false:=by
   simp only[i,SP,QM]; exact ⟨by exact AN y,by exact Gz h1,h2⟩
  refine Runs.no ((eb H rfl rfl rfl).trans (by rw[m])) ?_
  refine Runs.ret (bS (λo=>decide (exchF (aL xs) o x∈u)) (aF (H.ev (x:="held") rfl) (aV _ .sh)) λo ho=>?_) rfl
  have H3:=H.upd "out" (.d (.int o)) .deep
  exact ud (gZ lib.exch (ai (H3.ev (x:="held") rfl) (ai (H3.ev (x:="out") rfl) (ai (H3.ev (x:="thing") rfl) ax))) rfl (eQ _ (aL xs) o x (by rw[v6]; exact hl) (tx j).nn y)) (dm v (H3.ev (x:="self") rfl)).2.1
section
end
noncomputable def k7:Fn:=⟨["_law_choice", "_law_cell"],
(.cons (.assign "_law_row" (.list .nil))
(.cons (.for1 "_law_thing" (.e (.name "_law_choice"))
(.cons (.insert "_law_row" (.bin .mod (.name "_law_cell") (.bin .add (.bi1 .len (.name "_law_row")) (.int 1))) (.name "_law_thing"))
(.cons (.assign "_law_cell" (.bin .fdiv (.name "_law_cell") (.int 3)))
.nil)))
(.cons (.retn "_law_row")
.nil)))⟩
theorem Runs.ins (H:Has σ l) (hz:σ z=qn (.d (aa xs),m)) (hm:m≠.sh) (hi:ev C a σ = .ok (sI i)) (h:ev C e σ = .ok (sI x)) (h0:0<=i) (h1:i<=xs.length) (hl:xs.length<1000000)
  (k:∀ σ',Has σ' ((z,.d (aa (xs.take i.toNat++x::xs.drop i.toNat)))::l)->σ' z=qn (.d (aa (xs.take i.toNat++x::xs.drop i.toNat)),m)->Runs C bb σ' Post):Runs C (.cons (.insert z a e) bb) σ Post:=by
 refine Runs.cons (o:=(upd σ z (.d (aa (xs.take i.toNat++x::xs.drop i.toNat)),m),.next)) ?_ (k _ (H.upd z _ m) (O1 rfl))
 simp only[jv,hi,h,Out.ok_bind,kI,eH,cT,hz,ot,wO,C4]
 rw[OY (by rw[Pi]; exact λq=>q.elim hm λq=>q.elim (Fy h0) (Jp h1)),ik (by rw[Pj,PR,Sr,Q2,Pi]; exact Ji hl),s6,Out.calm_ok]
theorem pj (xs:rg O3) (i:Pa) (x:O3):(xs.take i++x::xs.drop i).Perm (x::xs):=by
 have:=List.perm_middle (a:=x) (l₁:=xs.take i) (l₂:=xs.drop i)
 rwa [QY] at this
theorem uz (C:Calls) (r:rg O3) (x:O3) (hl:r.length<=1000):∃ q,av C k7 [.d (aa r),.d (.int x)] = .ok q/\∃ p,q=(.d (aa p),.deep)/\p.Perm r:=by
 unfold k7
 refine da rfl λk H=>?_
 refine Runs.set H me λk H i=>?_
 refine Runs.for (g:=PA) (xs:=r) (λl k=>∃ (xs:rg O3) (y:O3),Has k [("_law_row", .d (aa xs)),("_law_cell", .d (.int y))]/\k "_law_row" = qn (.d (aa xs),.deep)/\xs.Perm l) (aF (H.ev (x:="_law_choice") rfl) (aV r .sh)) (λσ0 h hh=>(aP ([]) x ((h _ H).sub ⟨rfl,rfl,trivial⟩) ((hh _ (by decide)).trans i) (.refl _))) ?_ ?_
 ·intro l o post hp k n
  refine ay (n) λxs y H i z=>?_
  clear n
  have H1:=H.mk "_law_thing" (.d (.int o))
  have u:upd k "_law_thing" (mk (.d (.int o))) "_law_row" = qn (.d (aa xs),.deep):=(OY (by decide)).trans i
  have v:xs.length<=r.length:=by rw[z.length_eq,hp,Pj]; exact uG
  have b1:=P8 y (show (xs.length:O3)+1≠0 by exact GL)
  have b2:=Qr y (show (0:O3)<xs.length+1 by exact wV)
  refine Runs.ins H1 u (by decide) (be (H1.ev (x:="_law_cell") rfl) (cP (c7 (H1.ev (x:="_law_row") rfl)) (al 1)) wV) (H1.ev (x:="_law_thing") rfl) b1 (Ka b2) (zD hl v) λj H2 t=>?_
  refine Runs.cons (o:=(upd j "_law_cell" (sI (y/3)),.next)) (oR (eN (H2.ev (x:="_law_cell") rfl) (al 3) (by decide) (by decide)) rfl) (Runs.nil (aP _ (y/3) ((H2.upd "_law_cell" (.d (.int (y/3))) .deep).sub ⟨rfl,rfl,trivial⟩) ((show upd j "_law_cell" (sI (y/3)) "_law_row" = j "_law_row" from OY (by decide)).trans t) ?_))
  exact (pj xs _ o).trans ((z.cons o).trans (U6 o l).symm)
 ·intro k m
  refine ay (m) λxs y H i z=>?_
  clear m
  exact Runs.retn i (ah _ rfl (ah xs rfl z))
theorem oK:∀ {b:rg O3},(∀ y∈b,p y=vk->q y=vk)->x∈b->q x=vk->p x=OZ->(b.filter p).length<(b.filter q).length
 | y::b,h,hx,hq,hp=>by
  have j:(b.filter p).length<=(b.filter q).length:=by
   have:∀ l:rg O3,(∀ y∈l,p y=vk->q y=vk)->(l.filter p).length<=(l.filter q).length:=λl=>by
    induction l with
    | nil=>exact λ_=>PH _
    | cons z l ih=>
     intro i
     have:=ih λy g=>i y (.tail _ g)
     rw[TU,TU]
     cases e:p z with
     | true=>rw[i z (.head _) e]; simp only[Q4,PR]; exact kO this
     | false=>cases q z<;>simp only[PK,Q4,Ql,PR]<;>lia
   exact this b λy g=>h y (.tail _ g)
  rw[TU,TU]
  rcases PC.mp hx with rfl | hx
  ·rw[hp,hq]; simp only[PK,Q4,Ql,PR]; exact zB j
  ·have:=oK (b:=b) (λy g=>h y (.tail _ g)) hx hq hp
   cases e:p y with
   | true=>rw[h y (.head _) e]; simp only[Q4,PR]; exact ED this
   | false=>cases q y<;>simp only[PK,Q4,Ql,PR]<;>lia
theorem xm {a:rg O3}{o:O3}(hn:a.Nodup) (ho:o∈a):(a.filter λy=>!decide (y=o)).length+1=a.length:=by
 have e:(a.filter λy=>!decide (y=o))=a.erase o:=by rw[hn.erase_eq_filter]; congr 1
 rw[e,Vt ho]
 have:=SE ho
 exact HE this
theorem NoF.le (nf:NoF c t) (hr:∀ r∈t,Srt c r) {b:rg O3}(hb:b∈t):∀ (n:Pa) (a:rg O3),a∈t->(b.filter λx=>!decide (x∈a)).length<=n->b.length<=a.length
 | n,a,ha,h=>by
  by_cases e:∀ x∈b,x∈a
  ·exact jg (hr b hb).good.2 e
  ·refine ak (Z6.mp e) λx z=>?_
   refine ae (Jai.mp z) λg i=>?_
   have u:=nf a ha x (mem_upTo.mpr ((hr b hb).2 x g)) i b hb g
   unfold dh at u
   refine af (Vk.mp u) λo ho h2=>?_
   refine dU h2 λh3 h4=>?_
   have h5:exchF a o x∈t:=PS h4
   have k:o∉b:=by simpa using h3
   have m:∀ y,y∈exchF a o x↔(y∈a/\y≠o)\/y=x:=λy=>by
    unfold exchF
    rw[(eT _).mem_iff,Pu,O7,Qk]
    simp
   have hl:(exchF a o x).length=a.length:=by
    unfold exchF
    rw[(eT _).length_eq,Pj,Pm]
    exact xm (hr a ha).good.2 ho
   have l:=oK (p:=λy=>!decide (y∈exchF a o x)) (q:=λy=>!decide (y∈a)) (x:=x) (b:=b) (λy v q=>by
    simp only[P0,QM] at q ⊢
    exact λj=>q ((m y).mpr (.inl ⟨j,λe=>k (e▸v)⟩))) g (by simpa using i) (by simp[m])
   cases n with
   | zero=>exact Lm l h
   | succ n=>
    rw[<- hl]
    exact NoF.le nf hr hb n _ h5 (KM l h)
theorem NoF.len (nf:NoF c t) (hr:∀ r∈t,Srt c r) {a b:rg O3}(ha:a∈t) (hb:b∈t):a.length=b.length:=Qt (nf.le hr ha _ b hb (PH _)) (nf.le hr hb _ a ha (PH _))
noncomputable def p_order:Fn:=⟨["weights"],
(.cons (.ret (.order "weights" "thing"))
.nil)⟩
noncomputable def p_picked:Fn:=⟨["rule", "weights"],
(.cons (.ite (.cmp .ne (.bi1 .len (.name "weights")) (.attr (.name "rule") "count"))
(.cons (.raise "NoWeights")
.nil)
.nil)
(.cons (.assign "kept" (.list .nil))
(.cons (.for1 "thing" (.e (.call "order" (.cons (.name "weights") .nil)))
(.cons (.ite (.meth (.name "rule") "together" (.cons (.bin .add (.name "kept") (.list (.cons (.name "thing") .nil))) .nil))
(.cons (.append "kept" (.name "thing"))
.nil)
.nil)
.nil))
(.cons (.ret (.bi1 .sorted (.name "kept")))
.nil))))⟩
noncomputable def jn:Fn:=⟨["_law_cell", "_law_mode"],
(.cons (.ite (.cmp .eq (.name "_law_mode") (.int 0))
(.cons (.ret (.bin .sub (.bin .mod (.name "_law_cell") (.int 5)) (.int 2)))
.nil)
.nil)
(.cons (.ite (.cmp .eq (.name "_law_mode") (.int 1))
(.cons (.ret (.bin .sub (.bin .mod (.name "_law_cell") (.int 2001)) (.int 1000)))
.nil)
.nil)
(.cons (.assign "_law_far" (.bin .mod (.name "_law_cell") (.bin .pow (.int 10) (.int 60))))
(.cons (.ite (.and (.cmp .eq (.name "_law_mode") (.int 2)) (.cmp .eq (.bin .mod (.bin .fdiv (.name "_law_cell") (.int 10)) (.int 2)) (.int 0)))
(.cons (.retn "_law_far")
.nil)
.nil)
(.cons (.ret (.neg (.name "_law_far")))
.nil)))))⟩
theorem BO (h:ltL [a,b] [c,d]=OZ):c<=a/\(a=c->d<=b):=by
 unfold ltL ltL ltL at h
 by_cases e:a=c
 ·rw[O1 e] at h
  refine ⟨by exact Ak e,λ_=>?_⟩
  by_cases e2:b=d
  ·exact Ak e2
  ·rw[OY e2] at h; simp at h; exact zo h
 ·rw[OY e] at h
  simp at h
  exact ⟨by exact zo h,λq=>Pq q e⟩
noncomputable def xy (ns:rg O3):rg (rg O3×Pa):=((QR ns.length).map λi=>(dT ns i,i)).mergeSort λa b=>!ltL b.1 a.1
theorem jS (ns:rg O3):(xy ns).Perm ((QR ns.length).map λi=>(dT ns i,i)):=Qu _ _
theorem Bq (ns:rg O3):(xy ns).Pairwise λa b=>ltL b.1 a.1=false:=by
 refine (Rz (le:=λ(a b:rg O3×Pa)=>!ltL b.1 a.1) (λa b c i g=>?_) (λa b=>?_) _).imp λh=>by simpa using h
 ·simp only[P0] at i g ⊢
  cases q:ltL c.1 a.1 with
  | false=>rfl
  | true=>
   cases r:ltL a.1 b.1 with
   | true=>rw[cX q r] at g; cases g
   | false=>rw[<- fm r i,q] at g; cases g
 ·cases q:ltL b.1 a.1 with
  | false=>simp
  | true=>
   cases r:ltL a.1 b.1 with
   | true=>have:=cX q r; rw[iM] at this; cases this
   | false=>simp
theorem rO (ns:rg O3):bz ns=(xy ns).map λp=>(p.2:O3):=rfl
theorem du (ns:rg O3):(bz ns).Perm (aS ns.length):=by
 rw[rO]
 refine ((jS ns).map _).trans (TK ?_)
 rw[VW]; rfl
theorem g9 (h:i∈bz ns):0<=i/\i<ns.length:=mem_upTo.mp ((du ns).mem_iff.mp h)
theorem eX (ns:rg O3):(bz ns).Nodup:=by
 refine (du ns).symm.nodup ?_
 unfold aS
 exact RI.mpr (List.nodup_range.imp λh q=>h (A0 q))
theorem fL (ns:rg O3):(bz ns).length=ns.length:=by rw[(du ns).length_eq,bG]
noncomputable def wt (ns:rg O3) (a:O3):Int:=ns.getD a.toNat 0
def Bef (ns:rg O3) (a b:O3):Prop:=wt ns b<=wt ns a/\(wt ns a=wt ns b->a<=b)
theorem se (ns:rg O3):(bz ns).Pairwise (Bef ns):=by
 rw[rO,RI]
 refine Sg (λ{a b} m l h=>?_) (Bq ns)
 refine af (T1.mp ((jS ns).mem_iff.mp m)) λi _ k=>?_
 subst k
 refine af (T1.mp ((jS ns).mem_iff.mp l)) λj _ g=>?_
 subst g
 have:=BO (show ltL [-(ns.getD j 0),(j:O3)] [-(ns.getD i 0),(i:O3)]=OZ from h)
 show ns.getD j 0<=ns.getD i 0/\(ns.getD i 0=ns.getD j 0->(i:O3)<=j)
 exact ⟨by exact EB this,λq=>this.2 (EG q)⟩
theorem Bef.anti (h:Bef ns a b) (g:Bef ns b a):a=b:=by
 have e:wt ns a=wt ns b:=SK g.1 h.1
 exact SK (h.2 e) (g.2 e.symm)
theorem DO {ns a b:rg O3}(p:a.Perm b) (ha:a.Pairwise (Bef ns)) (hb:b.Pairwise (Bef ns)):a=b:=p.eq_of_pairwise (λx y _ _ h g=>h.anti g) ha hb
structure LibO (L:rg (OX×Fn)):Prop extends LibT L where
 order:L.lookup "order" = qn p_order
 picked:L.lookup "picked" = qn p_picked
 law:(L.lookup "law").isSome=vk
 now:(L.lookup "NoWeights").isSome=vk
theorem mJ (hl:(L.lookup "law").isSome=vk) (n:Pa) (ws:rg O3) (h:ws.length<128):av (mkC L (n+1)) p_order [.d (aa ws)] = .ok (.d (aa (bz ws)),.deep):=by
 unfold p_order
 refine b8 rfl λi H=>Runs.ret ?_ rfl
 refine ak (H "weights" (.d (aa ws)) rfl) λm k=>?_
 refine ak (Tz.mp hl) λl g=>?_
 rw[fR]
 have:mkC L (n+1) "law" = qn λj=>ce "law" (mkC L n) l j:=by show (L.lookup "law").map _=_; rw[g]; rfl
 rw[this]
 show fj (i "weights")=_
 rw[k]
 show am (aM (ws.map PA)) _=_
 rw[cY]
 show (if ws.length<128 then _ else _)=_
 rw[O1 h]; rfl
theorem tN (h:ev C a σ = .ok (sI x)):ev C (.neg a) σ = .ok (sI (-x)):=by simp only[gq,h,Out.ok_bind]; rfl
noncomputable def kH (c m:O3):Int:=if m=0 then c%5-2 else if m=1 then c%2001-1000 else if m=2/\c/10%2=0 then c%10^60 else -(c%10^60)
theorem rK (C:Calls) (c m:O3):av C jn [.d (.int c),.d (.int m)] = .ok (sI (kH c m)):=by
 unfold jn kH
 refine b8 rfl λh H=>?_
 refine Runs.ite (dg (H.ev (x:="_law_mode") rfl) (al 0)) (λq=>?_) λq=>Runs.nil ?_
 ·rw[O1 (PS q)]
  exact Runs.ret (Ae (be (H.ev rfl) (al 5) (by decide)) (al 2)) (Cont.ret rfl)
 rw[OY (RQ q)]
 refine Runs.ite (dg (H.ev (x:="_law_mode") rfl) (al 1)) (λq=>?_) λq=>Runs.nil ?_
 ·rw[O1 (PS q)]
  exact Runs.ret (Ae (be (H.ev rfl) (al 2001) (by decide)) (al 1000)) (Cont.ret rfl)
 rw[OY (RQ q)]
 refine Runs.set H (be (H.ev rfl) (y:=10^60) ((dW (al 10) (al 60)).trans rfl) (by decide)) λh H g=>?_
 refine Runs.ite (fK (dg (H.ev (x:="_law_mode") rfl) (al 2)) λuu=>dg (be (eN (H.ev rfl) (al 10) (by decide) (by decide)) (al 2) (by decide)) (al 0)) (λq=>?_) λq=>Runs.nil ?_
 ·simp only[O9,PM] at q
  rw[O1 q]
  exact Runs.retn g (Cont.ret rfl)
 ·have i:¬ (m=2/\c/10%2=0):=by simpa using q
  rw[OY i]
  exact Runs.ret (tN (H.ev rfl)) rfl
def lA (u:rg (rg O3)) (xs:rg O3):Bool:=u.any λr=>xs.all λx=>decide (x∈r)
theorem togB_iff:lA u xs=vk↔∃ r∈u,∀ x∈xs,x∈r:=by
 unfold lA
 simp only[Vk,Q1,PM]
noncomputable def cE (u:rg (rg O3)) (kept:rg O3) (x:O3):rg Int:=if lA u (kept++[x]) then kept++[x] else kept
noncomputable def aU (u:rg (rg O3)) (l:rg O3):rg Int:=l.foldl (cE u) []
noncomputable def az (u:rg (rg O3)) (ws:rg O3):rg Int:=aL (aU u (bz ws))
theorem mO (u:rg (rg O3)) (l:rg O3) (x:O3):aU u (l++[x])=cE u (aU u l) x:=by unfold aU; rw[Vl]; rfl
theorem ko (u:rg (rg O3)):∀ (l acc:rg O3),(l.foldl (cE u) acc).Sublist (acc++l)
 | [],acc=>by rw[SD]; exact Vm _
 | x::l,acc=>by
  refine (ko u l _).trans ?_
  show (cE u acc x++l).Sublist (acc++([x]++l))
  rw[<- QX]
  refine Z9 ?_ (Vm _)
  unfold cE
  split
  ·exact Vm _
  ·exact Vu _ _
theorem eE (u:rg (rg O3)) (l:rg O3):(aU u l).Sublist l:=ko u l []
theorem Ct (h:eU xs=qn i):∀ x∈xs,x<=i:=by
 cases xs with
 | nil=>cases h
 | cons a xs=>
  have m:∀ (l:rg O3) (a:O3),a<=l.foldl (λa b=>if a<b then b else a) a/\∀ x∈l,x<=l.foldl (λa b=>if a<b then b else a) a:=by
   intro l
   induction l with
   | nil=>exact λa=>⟨U8 _,λuu q=>nomatch q⟩
   | cons y l ih=>
    intro a
    rw[VS]
    by_cases q:a<y
    ·rw[O1 q]
     refine ae (ih y) λg k=>?_
     exact ⟨by exact IA q g,λx j=>(PC.mp j).elim (λe=>e▸g) (k x)⟩
    ·rw[OY q]
     refine ae (ih a) λg k=>?_
     exact ⟨g,λx j=>(PC.mp j).elim (λe=>by rw[e]; exact Iv q g) (k x)⟩
  refine ae (m xs a) λg k=>?_
  cases h
  exact λx j=>(PC.mp j).elim (λe=>e▸g) (k x)
theorem Cu (nd:∀ r∈u,r.Nodup) (hg:things.Nodup) (hi:eU (u.map λr=>(jl things r:O3))=qn i) (hu:u≠[]):decide (i=things.length)=lA u things:=by
 refine af (jT (xs:=u.map λr=>(jl things r:O3)) (by simpa using hu)) λj x m=>?_
 obtain rfl:i=j:=vj (hi.symm.trans x)
 refine af (T1.mp m) λk g h=>?_
 have l:=Ct hi
 rw[V8,togB_iff,PM]
 refine ⟨λq=>⟨k,g,(qw (nd k g) hg).mp (JX h q)⟩,λ⟨r,n,v⟩=>?_⟩
 have t:=(qw (nd r n) hg).mpr v
 have p:=l _ (T1.mpr ⟨r,n,rfl⟩)
 have o:=rZ (things:=things) (nd k g)
 exact G2 h t p o
theorem CY (lib:LibT L) (n:Pa) (hC:C "together" = mkC L (n+4) "together") (ha:ev C a σ = .ok (.rule c (ag u) k,m)) (hb:ev C b σ = .ok (.d (aa things),m')) :
  ev C (.meth a "together" (.cons b .nil)) σ=av (aA (mkC L (n+3))) p_together [.rule c (ag u) k,.d (aa things)]:=by
 have h:C "together" = qn λg=>ce "together" (mkC L (n+3)) p_together g:=by rw[hC]; show (L.lookup "together").map _=_; rw[lib.tog]; rfl
 simp only[dl,ha,Out.ok_bind,eM,am,h,bg,bk,hb,QE,XA]
 rfl
theorem iE (lib:LibO L) (n:Pa) (c:Pa) (k:O3) (u:rg (rg O3)) (ws:rg O3) (hu:u≠[]) (nd:∀ r∈u,r.Nodup) (hc:c<=100) (hw:ws.length=c) :
  av (mkC L (n+4)) p_picked [.rule c (ag u) k,.d (aa ws)] = .ok (.d (aa (az u ws)),.deep):=by
 obtain ⟨gR,hR⟩:=gO (L:=L) (f:="Rule") (by rw[lib.rule]; rfl) (n+3)
 unfold p_picked
 refine b8 rfl λo H=>?_
 refine Runs.no ((jA (c7 (H.ev (x:="weights") rfl)) (dm hR (H.ev (x:="rule") rfl)).1).trans (by simp[hw])) ?_
 refine Runs.set H me λo H m=>?_
 have eo:ev (mkC L (n+4)) (.call "order" (.cons (.name "weights") .nil)) o = .ok (.d (aa (bz ws)),.deep):=b9 lib.order (ai (H.ev (x:="weights") rfl) ax) rfl (mJ lib.law (n+2) ws (AG hc hw))
 refine Runs.for (g:=PA) (xs:=bz ws) (λj o=>Has o [("rule", .rule c (ag u) k),("kept", .d (aa (aU u j)))]/\o "kept" = qn (.d (aa (aU u j)),.deep)) (aF eo (aV _ .deep)) (λσ0 h hh=>⟨(h _ H).sub ⟨rfl,rfl,trivial⟩,(hh _ (by simp[fg,jj,il,lw,dq])).trans m⟩) ?_ ?_
 ·intro j y post hl o z
  refine ae (z) λH m=>?_
  clear z
  have t:(aU u j).Sublist (bz ws):=(eE u j).trans (by rw[hl]; exact Vu _ _)
  have hy:y∉aU u j:=λq=>by
   have:=eX ws
   rw[hl,R6] at this
   exact this.2.2 y ((eE u j).subset q) y (.head _) rfl
  have hy0:=g9 (ns:=ws) (i:=y) (by rw[hl]; simp)
  have hg:Good c (aU u j++[y]):=by
   refine ⟨λx hx=>?_,?_⟩
   ·rcases Pu.mp hx with q | q
    ·have:=g9 (t.subset q); exact Ah hw this
    ·rw[O7.mp q]; exact Ah hw hy0
   ·rw[R6]
    exact ⟨(eX ws).sublist t,by simp,λa ha b hb q=>hy (by rw[<- O7.mp hb,<- q]; exact ha)⟩
  have l:(aU u j).length<=100:=by have:=t.length_le; rw[fL] at this; exact E5 hc hw this
  obtain ⟨i,hi,e1⟩:=(oW lib.toLibT n c k u (aU u j++[y]) hu (by rw[Pj]; simp; exact GN l)).1 hg
  rw[Cu nd hg.2 hi hu] at e1
  have H1:=H.mk "thing" (.d (.int y))
  have p:upd o "thing" (mk (.d (.int y))) "kept" = qn (.d (aa (aU u j)),.deep):=(OY (by decide)).trans m
  refine Runs.ite ((CY lib.toLibT n rfl (H1.ev (x:="rule") rfl) (cA (H1.ev (x:="kept") rfl) (di (H1.ev (x:="thing") rfl)) (by simp; exact F9 l))).trans e1) (λq=>?_) λq=>Runs.nil (Runs.nil ?_)
  ·refine Runs.app H1 p (by decide) (H1.ev rfl) (II l) λσ' H2 hσ2 _=>Runs.nil (Runs.nil ?_)
   have e:aU u (j++[y])=aU u j++[y]:=by rw[mO]; unfold cE; rw[O1 q]
   rw[e]
   exact ⟨H2.sub ⟨rfl,rfl,trivial⟩,hσ2⟩
  ·have e:aU u (j++[y])=aU u j:=by rw[mO]; unfold cE; rw[OY (by rw[q]; decide)]
   rw[e]
   exact ⟨H1.sub ⟨rfl,rfl,trivial⟩,p⟩
 ·intro o v
  refine ae (v) λH m=>?_
  clear v
  have t:=eE u (bz ws)
  refine Runs.ret (ej (H.ev rfl) (by have:=t.length_le; rw[fL] at this; exact IJ hc hw this) λi hi=>(g9 (t.subset hi)).1) rfl
theorem tn (lib:LibO L) (n:Pa) (c k:O3) (d:Pk) (ws:rg O3) (hw:(ws.length:O3)≠c):av (mkC L (n+1)) p_picked [.rule c d k,.d (aa ws)] = .exc "NoWeights" := by
 obtain ⟨m,i⟩:=gO (L:=L) (f:="Rule") (by rw[lib.rule]; rfl) n
 refine ak (gO (L:=L) (f:="NoWeights") lib.now n) λo j=>?_
 refine af (bT ["rule", "weights"] [V.rule c d k,V.d (aa ws)] rfl) λh g H=>?_
 have l:ev (mkC L (n+1)) (.cmp .ne (.bi1 .len (.name "weights")) (.attr (.name "rule") "count")) h = .ok (sB vk):=(jA (c7 (H.ev (x:="weights") rfl)) (dm i (H.ev (x:="rule") rfl)).1).trans (by simp[hw])
 unfold av
 rw[show bq p_picked.params [V.rule c d k,V.d (aa ws)]=qn h from g]
 dsimp only
 unfold p_picked
 simp only[cq,bf,eB,l,Out.ok_bind,dk,j,am]
 rfl
theorem Good.perm (h:Good c r) (pm:p.Perm r):Good c p:=⟨λx g=>h.1 x (pm.mem_iff.mp g),pm.nodup_iff.mpr h.2⟩
theorem Srt.sort (h:Srt c r) (pm:p.Perm r):aL p=r:=qs pm (h.1.imp λh=>QW h)
section
end
theorem lB:∀ {l acc:rg O3},y∈acc->y∈l.foldl (cE u) acc
 | [],_,h=>h
 | x::l,acc,h=>lB (l:=l) (by unfold cE; split; exact PX _ h; exact h)
theorem xO {u:rg (rg O3)}{y:O3}{l acc:rg O3}(h:y∈l.foldl (cE u) acc):y∈acc\/y∈l:=Pu.mp ((ko u l acc).subset h)
theorem lY (u:rg (rg O3)) (pre:rg O3) (x:O3) (post:rg O3):aU u (pre++x::post)=post.foldl (cE u) (cE u (aU u pre) x):=by
 unfold aU; rw[Vl]; rfl
theorem qU (h:y∈aU u pre):y∈aU u (pre++x::post):=by
 rw[lY]
 refine lB ?_
 unfold cE; split
 ·exact PX _ h
 ·exact h
theorem pR (h1:x∉pre) (h2:x∉post):x∈aU u (pre++x::post)↔lA u (aU u pre++[x])=true:=by
 rw[lY]
 constructor
 ·intro h
  rcases xO h with h | h
  ·unfold cE at h
   split at h
   ·assumption
   ·exact Pq ((eE u pre).subset h) h1
  ·exact Pq h h2
 ·intro h
  refine lB ?_
  unfold cE
  rw[O1 h]
  simp
theorem qD (hu:u≠[]):∀ (l acc:rg O3),lA u acc=vk->lA u (l.foldl (cE u) acc)=vk
 | [],_,h=>h
 | x::l,acc,h=>qD hu l _ (by unfold cE; split; assumption; exact h)
theorem lg (hn:l.Nodup) (e:l=pre++x::post):x∉pre/\x∉post:=by
 rw[e,R6] at hn
 exact ⟨λh=>hn.2.2 x h x (.head _) rfl,(Q6.mp hn.2.1).1⟩
theorem kC {c:Pa}{u:rg (rg O3)}{l:rg O3}(hu:u≠[]) (hr:∀ r∈u,Srt c r) (hp:l.Perm (aS c)) (hn:l.Nodup):aL (aU u l)∈u/\∀ x,x∈aL (aU u l)↔x∈aU u l:=by
 refine af (togB_iff.mp (qD (u:=u) hu l [] (togB_iff.mpr (ak (RW u hu) λr h=>⟨r,h,λ_ q=>nomatch q⟩)))) λr i g=>?_
 have n:=hr r i
 have j:∀ x∈r,x∈aU u l:=λx v=>by
  have z:x∈l:=hp.mem_iff.mpr (mem_upTo.mpr (n.2 x v))
  refine bi (WY z) λk o e=>?_
  have t:=lg hn e
  have h2:∀ y∈aU u k,y∈r:=λy m=>g y (show y∈aU u l by rw[e]; exact qU m)
  rw[e,pR t.1 t.2]
  refine togB_iff.mpr ⟨r,i,λy m=>?_⟩
  rcases Pu.mp m with q | q
  ·exact h2 y q
  ·rw[O7.mp q]; exact v
 have p:(aU u l).Perm r:=(List.perm_ext_iff_of_nodup (hn.sublist (eE u l)) n.good.2).mpr λx=>⟨g x,j x⟩
 rw[n.sort p]
 exact ⟨i,λx=>p.mem_iff.symm⟩
theorem tW (hn:(pre++x::post).Nodup) (hh:held∈u) (hx:x∉held) (hpre:∀ y∈pre,y∈aU u (pre++x::post)->y∈held) (ho:o∈held) (hg:o∉aU u (pre++x::post)) (hol:o∈pre++x::post):o∈post:=by
 rcases Pu.mp hol with h | h
 ·exfalso
  refine bi (WY h) λg i e=>?_
  subst e
  have k:g++o::i++x::post=g++o::(i++x::post):=by rw[QX]; rfl
  have j:=lg hn k
  rw[k] at hg hpre
  refine hg ((pR j.1 j.2).mpr (togB_iff.mpr ⟨held,hh,λy l=>?_⟩))
  rcases Pu.mp l with q | q
  ·exact hpre y (PX _ ((eE u g).subset q)) (qU q)
  ·rw[O7.mp q]; exact ho
 ·rcases PC.mp h with rfl | h
  ·exact Pq ho hx
  ·exact h
noncomputable def p_way:Fn:=⟨["rule", "weights", "choice"],
(.cons (.assign "goal" (.call "picked" (.cons (.name "rule") (.cons (.name "weights") .nil))))
(.cons (.assign "held" (.meth (.name "rule") "need_full" (.cons (.name "choice") .nil)))
(.cons (.assign "steps" (.list .nil))
(.cons (.for1 "thing" (.e (.call "order" (.cons (.name "weights") .nil)))
(.cons (.ite (.and (.cmp .isin (.name "thing") (.name "goal")) (.cmp .notin (.name "thing") (.name "held")))
(.cons (.assign "outs" (.compif (.name "out") "out" (.e (.meth (.name "rule") "outs" (.cons (.name "held") (.cons (.name "thing") .nil)))) (.cmp .notin (.name "out") (.name "goal"))))
(.cons (.append "steps" (.tup (.cons (.sub (.name "outs") (.int 0)) (.cons (.name "thing") .nil))))
(.cons (.assign "held" (.call "exchanged" (.cons (.name "held") (.cons (.sub (.name "outs") (.int 0)) (.cons (.name "thing") .nil)))))
.nil)))
.nil)
.nil))
(.cons (.retn "steps")
.nil)))))⟩
noncomputable def goF (u:rg (rg O3)) (g held:rg O3) (x:O3):rg Int:=(pg u held x).filter λo=>!decide (o∈g)
noncomputable def d8 (u:rg (rg O3)) (g held:rg O3) (x:O3):Int:=(goF u g held x).headD 0
noncomputable def gj (u:rg (rg O3)) (g:rg O3) (st:rg (O3×O3)×rg O3) (x:O3):rg (O3×O3)×rg Int:=if x∈g/\x∉st.2 then (st.1++[(d8 u g st.2 x,x)],exchF st.2 (d8 u g st.2 x) x) else st
noncomputable def dE (u:rg (rg O3)) (g held l:rg O3):rg (O3×O3)×rg Int:=l.foldl (gj u g) ([],held)
theorem j8 (u:rg (rg O3)) (g held l:rg O3) (x:O3):dE u g held (l++[x])=gj u g (dE u g held l) x:=by unfold dE; rw[Vl]; rfl
theorem exch_mem:y∈exchF a o x↔(y∈a/\y≠o)\/y=x:=by
 unfold exchF
 rw[(eT _).mem_iff,Pu,O7,Qk]
 simp
structure Step (u:rg (rg O3)) (ws g held:rg O3) (x o:O3):Prop where
 oh:o∈held
 og:o∉g
 ex:exchF held o x∈u
 wt:wt ws o<=wt ws x
theorem BH {c:Pa}{u:rg (rg O3)}{ws pre post held:rg O3}{x:O3}(hu:u≠[]) (hr:∀ r∈u,Srt c r) (nf:NoF c u) (hw:ws.length=c) (e:bz ws=pre++x::post) (hh:held∈u) (hx:x∉held) (hg:x∈az u ws) (hpre:∀ y∈pre,y∈az u ws->y∈held):∀ o∈goF u (az u ws) held x,Step u ws (az u ws) held x o:=λo t=>by
 have j:=eX ws
 have n:(bz ws).Perm (aS c):=hw▸du ws
 have h:=kC hu hr n j
 refine lD t λh1 z=>?_
 refine lD h1 λk v=>?_
 have m:o∉az u ws:=by simpa using z
 refine ⟨k,m,PS v,?_⟩
 have i:o∈post:=by
  have g:o∈bz ws:=n.mem_iff.mpr (mem_upTo.mpr ((hr held hh).2 o k))
  rw[e] at j g
  refine tW (u:=u) (pre:=pre) (x:=x) j hh hx (λy p hk=>hpre y p ?_) k (λq=>m ?_) g
  ·unfold az; rw[e] at h ⊢; exact (h.2 y).mpr hk
  ·unfold az; rw[e] at h ⊢; exact (h.2 o).mpr q
 have l:=se ws
 rw[e,Qx] at l
 exact ((SQ.mp l.2.1).1 o i).1
theorem Bi {c:Pa}{u:rg (rg O3)}{g held:rg O3}{x:O3}(hr:∀ r∈u,Srt c r) (nf:NoF c u) (hgu:g∈u) (hh:held∈u) (hx:x∉held) (hg:x∈g):∃ o l,goF u g held x=o::l:=by
 have h:=nf held hh x (mem_upTo.mpr ((hr g hgu).2 x hg)) hx g hgu hg
 unfold dh at h
 refine af (Vk.mp h) λo i m=>?_
 refine dU m λk j=>?_
 have:o∈goF u g held x:=Qk.mpr ⟨Qk.mpr ⟨i,j⟩,k⟩
 cases q:goF u g held x with
 | nil=>rw[q] at this; cases this
 | cons a l=>exact ⟨a,l,rfl⟩
structure WayI (u:rg (rg O3)) (g:rg O3) (pre h:rg O3):Prop where
 row:h∈u
 has:∀ y∈pre,y∈g->y∈h
theorem WayI.next {c:Pa}{u:rg (rg O3)}{ws pre post h:rg O3}{x:O3}(hu:u≠[]) (hr:∀ r∈u,Srt c r) (nf:NoF c u) (hw:ws.length=c) (e:bz ws=pre++x::post) (I:WayI u (az u ws) pre h) :
  (x∈az u ws/\x∉h->(∃ l,goF u (az u ws) h x=d8 u (az u ws) h x::l)/\Step u ws (az u ws) h x (d8 u (az u ws) h x)/\WayI u (az u ws) (pre++[x]) (exchF h (d8 u (az u ws) h x) x))/\(¬ (x∈az u ws/\x∉h)->WayI u (az u ws) (pre++[x]) h):=by
 have p:=(kC hu hr (hw▸du ws) (eX ws)).1
 refine ⟨λ⟨m,k⟩=>?_,λt=>⟨I.row,λy j g=>?_⟩⟩
 ·refine bi (Bi hr nf (show az u ws∈u from p) I.row k m) λo l q=>?_
  have v:d8 u (az u ws) h x=o:=by unfold d8; rw[q]; rfl
  rw[v]
  have i:=BH hu hr nf hw e I.row k m I.has o (by rw[q]; exact .head _)
  refine ⟨⟨l,q⟩,i,i.ex,λy j g=>exch_mem.mpr ?_⟩
  rcases Pu.mp j with q | q
  ·exact .inl ⟨I.has y q g,λe=>i.og (e▸g)⟩
  ·exact .inr (O7.mp q)
 ·rcases Pu.mp j with q | q
  ·exact I.has y q g
  ·rw[O7.mp q] at g ⊢
   exact Tr λn=>t ⟨g,n⟩
theorem WayI.all {c:Pa}{u:rg (rg O3)}{ws h0:rg O3}(hu:u≠[]) (hr:∀ r∈u,Srt c r) (nf:NoF c u) (hw:ws.length=c) (hh:h0∈u):∀ (n:Pa) (pre post:rg O3),pre.length=n->bz ws=pre++post->WayI u (az u ws) pre (dE u (az u ws) h0 pre).2
 | 0,pre,post,hl,e=>by
  rw[List.length_eq_zero_iff.mp hl]
  exact ⟨hh,λy j=>nomatch j⟩
 | n+1,pre,post,hl,e=>by
  have h:pre≠[]:=λq=>by rw[q] at hl; cases hl
  obtain ⟨g,x,rfl⟩:∃ g x,pre=g++[x]:=⟨pre.dropLast,pre.getLast h,(List.dropLast_concat_getLast h).symm⟩
  rw[Pj,Pm] at hl
  have i:bz ws=g++x::post:=by rw[e,QX]; rfl
  have I:=WayI.all hu hr nf hw hh n g (x::post) (Kr hl) i
  rw[j8]
  have N:=I.next hu hr nf hw i
  unfold gj
  by_cases q:x∈az u ws/\x∉(dE u (az u ws) h0 g).2
  ·rw[O1 q]; exact (N.1 q).2.2
  ·rw[OY q]; exact N.2 q
theorem xN {c:Pa}{u:rg (rg O3)}{ws:rg O3}(hu:u≠[]) (hr:∀ r∈u,Srt c r) (hw:ws.length=c):az u ws∈u:=(kC hu hr (hw▸du ws) (eX ws)).1
theorem tm (lib:Lib L) (n:Pa) (t:rg (rg O3)) (v:V) (K:Kn t v) (one other:rg O3) (x:O3) (ht:t≠[]) (h:∀ o,av (mkC L n) p_exchanged [.d (aa one),.d (.int o),.d (.int x)] = .ok (.d (aa (exchF one o x)),.deep)):av (mkC L (n+1)) p_goes [v,.d (aa one),.d (aa other),.d (.int x)] = .ok (sB (dh t one other x)):=by
 rcases K with ⟨q,_⟩ | ⟨ks,rfl,_,hk,_⟩
 ·exact Pq q ht
 unfold p_goes dh
 refine b8 rfl λj H=>?_
 refine Runs.seek (g:=PA) (xs:=one) (λj=>Has j [("known", .dicT ks),("one", .d (aa one)),("other", .d (aa other)),("thing", .d (.int x))]) (λo=>if (!decide (o∈other)&&decide (exchF one o x∈t))=vk then qn () else O2) (λuu=>sB vk) (aF (H.ev rfl) (aV one .sh)) (λl h _=>(h _ H).sub (cF rfl rfl rfl rfl trivial)) (λo p j H=>?_) (λq k _=>?_) λuu q k=>?_
 ·have H1:=H.mk "out" (.d (.int o))
  have m:ev (mkC L (n+1)) (.cmp .isin (.bi1 .tuple (.call "exchanged" (.cons (.name "one") (.cons (.name "out") (.cons (.name "thing") .nil))))) (.name "known")) (upd j "out" (mk (.d (.int o)))) = .ok (sB (decide (exchF one o x∈t))):=by
   refine bF (rX (b9 lib.exch (ai (H1.ev rfl) (ai (H1.ev rfl) (ai (H1.ev rfl) ax))) rfl (h o))) (H1.ev (x:="known") rfl) ?_
   show (am (eV (aO (exchF one o x))) λi=>Out.ok (decide (i∈ks)))=_
   rw[ji]
   exact R2 Out.ok (Tk.mpr (hk _))
  refine Runs.ite (fK (ie (H1.ev rfl) (H1.ev rfl)) λuu=>m) (λq=>Runs.ret (hH vk) (Cont.ret (Sk.ret (q:=()) (O1 q)))) λq=>Runs.nil (Runs.nil (Sk.next (OY (by rw[q]; decide)) (H1.sub (cF rfl rfl rfl rfl trivial))))
 ·rw[jt] at q
  refine Runs.ret (hH OZ) ?_
  by_cases e:(one.any λo=>!decide (o∈other)&&decide (exchF one o x∈t))=vk
  ·rw[O1 e] at q; cases q
  ·rw[Uc.mpr e]
 ·rw[jt] at q
  by_cases e:(one.any λo=>!decide (o∈other)&&decide (exchF one o x∈t))=vk
  ·rw[e]
  ·rw[OY e] at q; cases q
theorem rD (lib:Lib L) (n:Pa) (c:Pa) (t:rg (rg O3)) (hc:c<=1000) (hl:t.length<=1000) (h:∀ one∈t,∀ other∈t,∀ x∈other,x∉one->∀ o,av (mkC L n) p_exchanged [.d (aa one),.d (.int o),.d (.int x)] = .ok (.d (aa (exchF one o x)),.deep)):av (mkC L (n+2)) p_fault [.d (.int c),.d (ag t)] = .ok (s5 (fO c t)):=by
 unfold p_fault fO
 refine b8 rfl λσ H=>?_
 obtain ⟨_,y,v,m,K⟩:=dA (σ:=σ) (n:=n+1) lib.known (es:=.cons (.name "table") .nil) (ai (H.ev rfl) ax) rfl (mQ _ t hl)
 subst m
 refine Runs.set H y λσ H _=>?_
 refine Runs.seek (g:=aa) (xs:=t) (λσ=>Has σ [("table", .d (ag t)),("count", .d (.int c)),("known", v)]) (λone=>(aS c).findSome? λx=>if x∈one then O2 else t.findSome? λother=>if (decide (x∈other) && !dh t one other x)=vk then qn (one,other,x) else O2) (λq=>s5 (qn q)) (aF (H.ev rfl) (aY t .sh)) (λl h _=>(h _ H).sub (cZ rfl rfl rfl trivial)) (λone k σ H=>?_) (λq i _=>?_) λq p i=>?_
 ·have H1:=H.mk "one" (.d (aa one))
  refine Runs.seek (g:=PA) (xs:=aS c) (λσ=>Has σ [("table", .d (ag t)),("count", .d (.int c)),("known", v),("one", .d (aa one))]) (λx=>if x∈one then O2 else t.findSome? λother=>if (decide (x∈other) && !dh t one other x)=vk then qn (one,other,x) else O2) (λq=>s5 (qn q)) (cu (H1.ev rfl) (xA hc)) (λl h _=>(h _ H1).sub (cF rfl rfl rfl rfl trivial)) (λx z σ H=>?_) (λq i H=>Runs.nil ?_) λq p i=>?_
  ·have H2:=H.mk "thing" (.d (.int x))
   refine Runs.ite (ie (H2.ev rfl) (H2.ev rfl)) (λq=>?_) λq=>Runs.nil (Runs.nil ?_)
   ·have j:x∉one:=by simpa using q
    refine Runs.seek (g:=aa) (xs:=t) (λσ=>Has σ [("table", .d (ag t)),("count", .d (.int c)),("known", v),("one", .d (aa one)),("thing", .d (.int x))]) (λother=>if (decide (x∈other) && !dh t one other x)=vk then qn (one,other,x) else O2) (λq=>s5 (qn q)) (aF (H2.ev rfl) (aY t .sh)) (λl h _=>(h _ H2).sub (mt rfl rfl rfl rfl rfl trivial)) (λother u σ H=>?_) (λq i H=>Runs.nil (Runs.nil ?_)) λq p i=>?_
    ·have H3:=H.mk "other" (.d (aa other))
     refine Runs.ite (fK (kn (H3.ev rfl) (H3.ev rfl)) λr=>fP (b9 lib.goes (ai (H3.ev rfl) (ai (H3.ev rfl) (ai (H3.ev rfl) (ai (H3.ev rfl) ax)))) rfl (tm lib n t v K one other x (List.ne_nil_of_mem k) (h one k other u x (PS r) j)))) (λq=>?_) λq=>Runs.nil (Runs.nil ?_)
     ·exact Runs.ret (wK (j4 (H3.ev rfl)) (j4 (H3.ev rfl)) (H3.ev rfl)) (Cont.ret (Sk.ret (q:=(one,other,x)) (O1 q)))
     ·exact Sk.next (OY (by rw[q]; decide)) (H3.sub (mt rfl rfl rfl rfl rfl trivial))
    ·exact Sk.next ((OY j).trans q) (H.sub (cF rfl rfl rfl rfl trivial))
    ·exact Cont.ret (Sk.ret ((OY j).trans p))
   ·have j:x∈one:=by simpa using q
    exact Sk.next (O1 j) (H2.sub (cF rfl rfl rfl rfl trivial))
  ·exact Sk.next q (H.sub (cZ rfl rfl rfl trivial))
  ·exact Sk.ret p
 ·rw[q]; exact Runs.ret jN rfl
 ·rw[p]
theorem tw (lib:LibR L) (n:Pa) (c:Pa) (t:rg (rg O3)) (hc:c<=1000) (ht:t≠[]) (hl:t.length<=63) (hr:∀ r∈t,r.length<=100/\Srt c r) (nf:NoF c t) :
  ∃ u x,dC (aA (mkC L (n+3))) p_Rule [.d (.int c),.d (ag t)] = .ok (.rule c (ag u) (x:rg O3).length,.deep)/\(∀ r,r∈u↔r∈t)/\u[0]? = qn x/\∃ ks,u=bV ks/\ks.Nodup/\ks.length<=t.length:=by
 refine ak (lib.nth) λnt hnt=>?_
 have hNT:mkC L (n+2) "NoThing" = qn λvs=>ce "NoThing" (mkC L (n+1)) nt vs:=by show (L.lookup "NoThing").map _=_; rw[hnt]; rfl
 have p:∀ σ,Has σ (["count", "table"].zip [V.d (.int c),V.d (ag t)])->Runs (aA (mkC L (n+3))) p_Rule.body σ (λk fl=>fl = .next/\∃ u:rg (rg O3),Has k [("count", .d (.int c))]/\k "full" = qn (.d (ag u),.deep)/\(∀ r,r∈u↔r∈t)/\∃ ks,u=bV ks/\ks.Nodup/\ks.length<=t.length):=λσ H=>by
  refine Runs.no ((dg (jO (H.ev (x:="table") rfl)) (al 0)).trans (by rw[Qe (λq=>ht (List.eq_nil_of_length_eq_zero (F7 q)))])) ?_
  refine Runs.for (g:=aa) (xs:=t) (λpre σ=>Has σ [("count", .d (.int c)),("table", .d (ag t))]) (aF (H.ev (x:="table") rfl) (aY t .sh)) (λσ0 h _=>(h _ H).sub ⟨rfl,rfl,trivial⟩) ?_ ?_
  ·rintro pre y post hl' σ H
   have hy:y∈t:=by rw[hl']; simp
   have H1:=H.mk "choice" (.d (aa y))
   refine Runs.expr H1 (gZ lib.need (ai (H1.ev (x:="count") rfl) (ai (H1.ev (x:="choice") rfl) ax)) rfl ((fY hNT c y (by have:=(hr y hy).1; exact ur this)).1 (hr y hy).2.good)) λk H' _=>Runs.nil (H'.sub ⟨rfl,rfl,trivial⟩)
  ·rintro σ H
   obtain ⟨m1,e1,_,_⟩:=dO (C:=aA (mkC L (n+3))) (σ:=σ) (g:=aa) (l:=t) (z:="choice") (it:=.e (.name "table")) (a:=.bi1 .sorted (.name "choice")) (λr=>r) .deep (aF (H.ev rfl) (aY t .sh)) λr j=>mK ((Has.nil.mk "choice" (.d (aa r))).ev rfl) (by have:=(hr r j).1; exact zy this) (λi hi=>((hr r j).2.2 i hi).1) (hr r j).2.1
   rw[Tq] at e1
   obtain ⟨r,e2,v,Nw,K⟩:=mQ (mkC L (n+2)) t (FW hl)
   subst Nw
   refine Runs.set H (gZ lib.known (ai e1 ax) rfl e2) λσ H hk=>?_
   rcases K with ⟨q,_⟩ | ⟨ks,rfl,k1,k2,k3⟩
   ·exact Pq q ht
   have hne:ks.length<2\/[]∉ks:=by
    by_cases q:[]∈ks
    ·left
     have all:=nf.empty (λr j=>(hr r j).2) ((k2 _).mp q)
     rcases ks with _ | ⟨a,_ | ⟨b,ks⟩⟩
     ·simp
     ·simp
     ·have ha:=all a ((k2 a).mp (by simp))
      have hb:=all b ((k2 b).mp (by simp))
      (clear H e2 hk k1 k2 q; subst ha hb)
      simp at k3
    ·exact .inr q
   have h0:ks≠[]:=λq=>by
    refine ak (RW t ht) λa ha=>?_
    have:=(k2 a).mpr ha
    rw[q] at this; cases this
   have e3:ev (aA (mkC L (n+3))) (.bi1 .list (.name "known")) σ = .ok (.d (.list (ks.map aO)),fresh (ks.map aO)):=by
    rw[d6 (H.ev (x:="known") rfl)]
    show o6 .list ks=_
    unfold o6
    rw[O1 ⟨rfl,by unfold lim; exact FB hl k1⟩]
   refine ak (rt h0 (JL hl k1) hne) λm4 e4=>?_
   have e5:ev (aA (mkC L (n+3))) (.bi1 .sorted (.bi1 .list (.name "known"))) σ = .ok (.d (.list ((bV ks).map aO)),m4):=(d6 e3).trans e4
   refine aq (dO (C:=aA (mkC L (n+3))) (σ:=σ) (g:=aO) (l:=bV ks) (z:="choice") (it:=.e (.bi1 .sorted (.bi1 .list (.name "known")))) (a:=.bi1 .list (.name "choice")) (λr=>r) .deep (aF e5 rfl) λr _=>(d6 ((Has.nil.mk "choice" (.d (aO r))).ev rfl)).trans (yX r)) λm6 e6 hm6 _=>?_
   rw[Tq,hm6 rfl] at e6
   have m:∀ r,r∈bV ks↔r∈t:=λr=>((Qu ks _).mem_iff).trans (k2 r)
   refine Runs.set H e6 λσ H hf=>?_
   have ef:=rD lib.toLib n c (bV ks) hc (by have:=(Qu ks (λa b=>!ltL b a)).length_eq; show (bV ks).length<=_; unfold bV; exact Ib hl k1 this) λr j o ho x hx hn z=>by
    have q:=hr r ((m r).mp j)
    exact eQ _ r z x (O5 q.1 (by decide)) (λi hi=>(q.2.2 i hi).1) ((hr o ((m o).mp ho)).2.2 x hx).1
   rw[fault_none.mpr (nf.set λr=>(m r).symm)] at ef
   refine Runs.no (bF (t:=OZ) (gZ lib.fault (ai (H.ev (x:="count") rfl) (ai (H.ev (x:="full") rfl) ax)) rfl ef) jN rfl) ?_
   exact Runs.nil (aE rfl (bD (bV ks) (H.sub ⟨rfl,trivial⟩) hf m (aG ks rfl k3 k1)))
 refine af (bT ["count", "table"] [V.d (.int c),V.d (ag t)] rfl) λσ hσ H=>?_
 obtain ⟨k,fl,he,Nm,u,H',hu,hm,hks⟩:=p σ H
 subst Nm
 obtain ⟨x,hx⟩:∃ x,u[0]? = qn x:=by
  cases u with
  | nil=>
   refine ak (RW t ht) λa ha=>?_
   have:=(hm a).mpr ha
   cases this
  | cons x u=>exact ⟨x,rfl⟩
 refine (bO u x ?_ hm hx hks)
 refine ak (H' "count" _ rfl) λmc hcnt=>?_
 unfold dC
 rw[show bq p_Rule.params [V.d (.int c),V.d (ag t)]=qn σ from hσ]
 dsimp only
 rw[he]
 simp only[Out.ok_bind]
 unfold fQ
 rw[hcnt,hu]
 show (am ((u.map aa)[0]?) _)=_
 rw[P1,hx]
 show Out.ok (V.rule c (.list (u.map aa)) ((x.map PA).length:O3),Mode.deep)=_
 rw[Pi]
 rfl
theorem Runs.setD (H:Has σ l) (he:ev C e σ = .ok r) (hd:r.2 = .deep) (k:∀ σ',Has σ' ((x,r.1)::l)->σ' x=qn r->(∀ y,y≠x->σ' y=σ y)->Runs C b σ' Post):Runs C (.cons (.assign x e) b) σ Post:=by
 refine Runs.cons (o:=(upd (consume σ (fv e) r.2) x r,.next)) (by simp only[bt,jY he,Out.ok_bind]) (k _ ((H.consume _ _).upd x r.1 r.2) (O1 rfl) λy g=>(OY g).trans ?_)
 unfold consume
 rw[O1 hd]
structure LibW (L:rg (OX×Fn)):Prop where
 o:LibO L
 e:LibE L
 way:L.lookup "way" = qn p_way
noncomputable def dS (p:O3×O3):PyData:=.tuple [.int p.1,.int p.2]
noncomputable def aX (l:rg (O3×O3)):PyData:=.list (l.map dS)
theorem vJ (ha:ev C a σ = .ok (sI x)) (hb:ev C b σ = .ok (sI y)):ev C (.tup (.cons a (.cons b .nil))) σ = .ok (.d (dS (x,y)),.deep):=by
 simp only[eA,bg,bk,ha,hb,Out.ok_bind]; rfl
theorem Runs.appT (H:Has σ l) (hz:σ z=qn (.d (aX t),m)) (hm:m≠.sh) (h:ev C a σ = .ok (.d (dS p),.deep)) (hl:t.length<1000000) (k:∀ σ',Has σ' ((z,.d (aX (t++[p])))::l)->σ' z=qn (.d (aX (t++[p])),m)->(∀ y,y≠z->σ' y=σ y)->Runs C bb σ' Post):Runs C (.cons (.append z a) bb) σ Post:=by
 refine Runs.cons (o:=(upd σ z (.d (aX (t++[p])),m),.next)) ?_ (k _ (H.upd z _ m) (O1 rfl) λy g=>OY g)
 have i:fZ (.d (aX t))=qn (t.map dS):=rfl
 simp only[eL,h,Out.ok_bind,kI,eH,hz,i,OY hm]
 rw[ik (by rw[Pj,Pi]; exact hl)]
 unfold aX; rw[SJ]; rfl
theorem sj (u:rg (rg O3)) (g held:rg O3):∀ l:rg O3,(dE u g held l).1.length<=l.length:=λl=>by
 have i:∀ (l:rg O3) (h:rg (O3×O3)×rg O3),(l.foldl (gj u g) h).1.length<=h.1.length+l.length:=λl=>by
  induction l with
  | nil=>exact λh=>PH _
  | cons x l ih=>
   intro h
   have k:=ih (gj u g h x)
   have j:(gj u g h x).1.length<=h.1.length+1:=by
    unfold gj
    split
    ·rw[Pj]; exact PH _
    ·exact U9 _
   rw[VS,PR]
   exact Ii k j
 have:=i l ([],held)
 unfold dE
 simpa using this
theorem x5 (lib:LibW L) (n:Pa) (c:Pa) (k:O3) (u:rg (rg O3)) (ws ch:rg O3) (hu:u≠[]) (hr:∀ r∈u,r.length<=100/\Srt c r) (nf:NoF c u) (hc:c<=100) (hw:ws.length=c) (hg:Good c ch) (hm:aL ch∈u) :
  av (mkC L (n+5)) p_way [.rule c (ag u) k,.d (aa ws),.d (aa ch)] = .ok (.d (aX (dE u (az u ws) (aL ch) (bz ws)).1),.deep):=by
 have t:∀ r∈u,Srt c r:=λr h=>(hr r h).2
 have hcl:ch.length<=100:=by rw[<- (eT ch).length_eq]; exact (hr _ hm).1
 unfold p_way
 refine b8 rfl λj H=>?_
 refine Runs.setD H (b9 lib.o.picked (ai (H.ev (x:="rule") rfl) (ai (H.ev (x:="weights") rfl) ax)) rfl (iE lib.o n c k u ws hu (λr h=>qg (t r h).1) hc hw)) rfl λj H _ _=>?_
 refine Runs.setD H ((kR (n:=n+4) rfl lib.e.nf (λ_=>rfl) (H.ev (x:="rule") rfl) (ai (H.ev (x:="choice") rfl) ax) rfl).trans ((jR lib.e (n+2) c k u ch (zy hcl)).2.2 hg hm)) rfl λj H _ _=>?_
 have e0:ev (mkC L (n+5)) (.list .nil) j = .ok (.d (aX []),.deep):=by simp only[bH,bg]; rfl
 refine Runs.setD H e0 rfl λj H hs _=>?_
 have eo:=b9 lib.o.order (ai (H.ev (C:=mkC L (n+5)) (x:="weights") rfl) ax) rfl (mJ lib.o.law (n+3) ws (AG hc hw))
 refine Runs.for (g:=PA) (xs:=bz ws) (λm j=>Has j [("rule", .rule c (ag u) k),("goal", .d (aa (az u ws))),("held", .d (aa (dE u (az u ws) (aL ch) m).2)),("steps", .d (aX (dE u (az u ws) (aL ch) m).1))]/\j "steps" = qn (.d (aX (dE u (az u ws) (aL ch) m).1),.deep)) (aF eo (aV _ .deep)) (λσ0 h hn=>⟨(h _ H).sub ⟨rfl,rfl,rfl,rfl,trivial⟩,(hn _ (by simp[fg,jj,il,lw,dq])).trans hs⟩) ?_ λj hI=>Runs.retn hI.2 rfl
 intro m y z hp j hI
 obtain ⟨H,hs⟩:=hI
 have W:=WayI.all hu t nf hw hm _ m (y::z) rfl hp
 have N:=W.next hu t nf hw hp
 have H1:=H.mk "thing" (.d (.int y))
 have p:upd j "thing" (mk (.d (.int y))) "steps" = _:=(OY (by decide)).trans hs
 have hy:0<=y/\y<(c:O3):=by
  have:=g9 (ns:=ws) (i:=y) (by rw[hp]; simp)
  rwa [hw] at this
 have hwl:=sj u (az u ws) (aL ch) m
 have hpl:m.length<=c:=by
  have:=fL ws
  rw[hp,Pj] at this
  exact AM hw this
 rw[j8]
 unfold gj
 generalize (dE u (az u ws) (aL ch) m)=st at H H1 hs p W N hwl ⊢
 refine Runs.ite (fK (kn (H1.ev (x:="thing") rfl) (H1.ev (x:="goal") rfl)) λ_=>ie (H1.ev (x:="thing") rfl) (H1.ev (x:="held") rfl)) (λq=>?_) λq=>Runs.nil (Runs.nil ?_)
 ·have q:y∈az u ws/\y∉st.2:=by simpa using q
  obtain ⟨⟨l,hl⟩,S,_⟩:=N.1 q
  have g2:=(t _ W.row).good
  have v:aL st.2=st.2:=lq (t _ W.row).1
  have ou:=(vT lib.e (n+1) c k u st.2 y (by have:=(hr _ W.row).1; exact zX this)).2.2.2 g2 (by rw[v]; exact W.row) hy.1 hy.2 q.2
  rw[v] at ou
  have eg:ev (mkC L (n+5)) (.compif (.name "out") "out" (.e (.meth (.name "rule") "outs" (.cons (.name "held") (.cons (.name "thing") .nil)))) (.cmp .notin (.name "out") (.name "goal"))) (upd j "thing" (mk (.d (.int y)))) = .ok (.d (aa (goF u (az u ws) st.2 y)),.deep) :=
   bS (λo=>!decide (o∈az u ws)) (aF ((kR (n:=n+4) rfl lib.e.outs (λ_=>rfl) (H1.ev (x:="rule") rfl) (ai (H1.ev (x:="held") rfl) (ai (H1.ev (x:="thing") rfl) ax)) rfl).trans ou) (aV _ .deep)) λo _=>by
    have H2:=H1.mk "out" (.d (.int o))
    exact ie (H2.ev (x:="out") rfl) (H2.ev (x:="goal") rfl)
  refine Runs.setD H1 eg rfl λj H hg kp=>?_
  have hs2:=(kp "steps" (by decide)).trans p
  clear kp
  have h0:ev (mkC L (n+5)) (.sub (.name "outs") (.int 0)) j = .ok (sI (d8 u (az u ws) st.2 y)):=gi (H.ev (x:="outs") rfl) (al 0) (by decide) (by rw[hl]; rfl)
  refine Runs.appT H hs2 (by decide) (vJ h0 (H.ev (x:="thing") rfl)) (AZ hc hpl hwl) λj H hs3 kp=>?_
  have h0':ev (mkC L (n+5)) (.sub (.name "outs") (.int 0)) j = .ok (sI (d8 u (az u ws) st.2 y)):=gi (H.ev (x:="outs") rfl) (al 0) (by decide) (by rw[hl]; rfl)
  refine Runs.setD H (b9 lib.o.exch (ai (H.ev (x:="held") rfl) (ai h0' (ai (H.ev (x:="thing") rfl) ax))) rfl (eQ _ st.2 _ y (by have:=(hr _ W.row).1; exact zX this) (λi hi=>((t _ W.row).2 i hi).1) hy.1)) rfl λj H _ kp=>Runs.nil (Runs.nil ?_)
  show Has j _/\_
  rw[O1 q]
  exact ⟨H.sub ⟨rfl,rfl,rfl,rfl,trivial⟩,(kp _ (by decide)).trans hs3⟩
 ·have q:¬ (y∈az u ws/\y∉st.2):=by simpa using q
  show Has _ _/\_
  rw[OY q]
  exact ⟨H1.sub ⟨rfl,rfl,rfl,rfl,trivial⟩,p⟩
theorem uW (p:O3×O3):dS p = .tuple ([p.1,p.2].map .int):=rfl
theorem wY (l:rg (O3×O3)):okc (aX l)=true:=(show Low 3 (aX l) from .list λx g=>by
 refine aJ g λp _ e=>?_
 rw[<- e]
 exact Cv [p.1,p.2] 0).okc
theorem oN:∀ l:rg (O3×O3),QV (l.map dS) (l.map dS)=vk
 | []=>by rw[XA,QV]
 | p::l=>by
  rw[QE,QV,oN l,uW,QQ,iy]
  simp
theorem x9 (l:rg (O3×O3)):QQ (aX l) (aX l)=true:=by unfold aX; rw[QQ]; exact oN l
theorem Ig (ha:ev C a σ = .ok (.d (aX l),m)) (hb:ev C b σ = .ok (.d (aX l),m')):ev C (.cmp .ne a b) σ = .ok (sB OZ):=bF ha hb (by
 show (if okc (aX l)&&okc (aX l) then Out.ok (!PyData.eqv (aX l) (aX l)) else .bad)=_
 rw[wY,x9]; rfl)
noncomputable def jk:Fn:=⟨["_law_weights"],
(.cons (.assign "_law_row" (.list .nil))
(.cons (.for1 "_law_thing" (.r1 (.bi1 .len (.name "_law_weights")))
(.cons (.assign "_law_place" (.bi1 .len (.compif (.name "_law_one") "_law_one" (.e (.name "_law_row")) (.cmp .ge (.sub (.name "_law_weights") (.name "_law_one")) (.sub (.name "_law_weights") (.name "_law_thing"))))))
(.cons (.insert "_law_row" (.name "_law_place") (.name "_law_thing"))
.nil)))
(.cons (.retn "_law_row")
.nil)))⟩
theorem lP:∀ {l:rg O3},l.Pairwise (λa b=>P b=vk->P a=vk)->l.filter P=l.take (l.filter P).length/\∀ y∈l.drop (l.filter P).length,P y=OZ
 | [],_=>⟨rfl,λy h=>nomatch h⟩
 | a::l,h=>by
  have g:=SQ.mp h
  by_cases q:P a=vk
  ·obtain ⟨i,i2⟩:=lP g.2
   rw[VK q,PR,List.take_succ_cons,WB]
   exact ⟨R2 _ i,i2⟩
  ·have e:l.filter P=[]:=VX.mpr λb j p=>q (g.1 b j p)
   rw[VL q,e]
   refine ⟨rfl,λy hy=>?_⟩
   rcases PC.mp hy with rfl | hy
   ·exact Uc.mpr q
   ·exact Uc.mpr λp=>q (g.1 y hy p)
theorem BL {ws row:rg O3}{k:O3}(h:row.Pairwise (Bef ws)) (hk:∀ y∈row,y<k):(row.take (row.filter λy=>decide (wt ws k<=wt ws y)).length++k::row.drop (row.filter λy=>decide (wt ws k<=wt ws y)).length).Pairwise (Bef ws):=by
 obtain ⟨m,l⟩:=lP (P:=λy=>decide (wt ws k<=wt ws y)) (h.imp λ{a b} i p=>Qc (PO (PS p) i.1))
 generalize v:(row.filter λy=>decide (wt ws k<=wt ws y)).length=n at m l ⊢
 have q:(row.take n++row.drop n).Pairwise (Bef ws):=by rw[QY]; exact h
 obtain ⟨u,t,r⟩:=Qx.mp q
 refine Qx.mpr ⟨u,SQ.mpr ⟨λy o=>?_,t⟩,λa j b hb=>?_⟩
 ·have:=RQ (l y o)
  exact ⟨by exact IZ this,λe=>by exact GP this e⟩
 ·rcases PC.mp hb with rfl | hb
  ·have g:=j
   rw[<- m] at g
   exact ⟨PS (Qk.mp g).2,λ_=>QW (hk a (Rk j))⟩
  ·exact r a j b hb
theorem zG (h:0<=i/\i<ws.length):ws[i.toNat]? = qn (wt ws i):=by
 have:i.toNat<ws.length:=by exact J1 h
 rw[Pp this]
 unfold wt
 rw[List.getD_eq_getElem?_getD,Pp this]; rfl
theorem re (C:Calls) (ws:rg O3) (hl:ws.length<=1000):av C jk [.d (aa ws)] = .ok (.d (aa (bz ws)),.deep):=by
 unfold jk
 refine b8 rfl λσ H=>?_
 refine Runs.set H me λσ H j=>?_
 refine Runs.for (g:=PA) (xs:=aS ws.length) (λl σ=>∃ i,Has σ [("_law_row", .d (aa i)),("_law_weights", .d (aa ws))]/\σ "_law_row" = qn (.d (aa i),.deep)/\i.Perm l/\i.Pairwise (Bef ws)) (cu (c7 (H.ev (x:="_law_weights") rfl)) (If hl (by decide))) (λσ0 h hh=>⟨[],(h _ H).sub ⟨rfl,rfl,trivial⟩,(hh _ (by simp[qQ,rN,dq])).trans j,.refl _,.nil⟩) ?_ ?_
 ·intro l y post q σ hI
  obtain ⟨i,H,j,m,r⟩:=hI
  have H1:=H.mk "_law_thing" (.d (.int y))
  have o:upd σ "_law_thing" (mk (.d (.int y))) "_law_row" = _:=(OY (by decide)).trans j
  have p:=iG ws.length
  rw[q] at p
  have u:∀ z∈i,z<y:=λz n=>(Qx.mp p).2.2 z (m.mem_iff.mp n) y (.head _)
  have hy:=mem_upTo.mp (show y∈aS ws.length by rw[q]; simp)
  have hr:∀ z∈i,0<=z/\z<ws.length:=λz n=>mem_upTo.mp (by rw[q]; exact PX _ (m.mem_iff.mp n))
  have t:i.length<=ws.length:=by
   have:=bG ws.length
   rw[q,Pj] at this
   rw[m.length_eq]; exact Gj this
  have v:(i.filter λz=>decide (wt ws y<=wt ws z)).length<=i.length:=QZ ..
  have ep:=c7 (bS (C:=C) (σ:=upd σ "_law_thing" (mk (.d (.int y)))) (z:="_law_one") (λz=>decide (wt ws y<=wt ws z)) (aF (H1.ev (x:="_law_row") rfl) (aV i .sh)) λz n=>by
   have H2:=H1.upd "_law_one" (.d (.int z)) .deep
   exact xt (gi (H2.ev (x:="_law_weights") rfl) (H2.ev (x:="_law_one") rfl) (hr z n).1 (zG (hr z n))) (gi (H2.ev (x:="_law_weights") rfl) (H2.ev (x:="_law_thing") rfl) hy.1 (zG hy)))
  refine Runs.setD H1 ep rfl λσ H2 _ kp=>?_
  refine Runs.ins H2 ((kp _ (by decide)).trans o) (by decide) (H2.ev (x:="_law_place") rfl) (H2.ev (x:="_law_thing") rfl) (PW _) (Hi v) (zD hl t) λσ H3 k=>Runs.nil ?_
  rw[T7] at H3 k
  exact ⟨_,H3.sub ⟨rfl,rfl,trivial⟩,k,(pj i _ y).trans ((m.cons y).trans (U6 y l).symm),BL r u⟩
 ·intro σ hI
  obtain ⟨i,H,j,m,r⟩:=hI
  rw[DO (m.trans (du ws).symm) r (se ws)] at j
  exact Runs.retn j rfl
noncomputable def rC:Fn:=⟨[],.nil⟩
noncomputable def ug:Fn:=⟨[],.nil⟩
noncomputable def wa:Fn:=⟨[],.nil⟩
noncomputable def qO:Fn:=⟨[],.nil⟩
noncomputable def ro:Fn:=⟨[],.nil⟩
noncomputable def g6:Fn:=⟨["_law_rule", "_law_weights", "_law_choice"],
(.cons (.tryS (.expr (.call "way" (.cons (.name "_law_rule") (.cons (.name "_law_weights") (.cons (.name "_law_choice") .nil))))) [("NoWeights", 1),("NoChoice", 2),("NoThing", 3)])
(.cons (.ret (.int 0))
.nil))⟩
noncomputable def l5:Fn:=⟨["_law_table_here", "_law_here", "_law_goal", "_law_thing"],
(.cons (.for1 "_law_out" (.e (.name "_law_here"))
(.cons (.assign "_law_made" (.bi1 .sorted (.bin .add (.compif (.name "_law_one") "_law_one" (.e (.name "_law_here")) (.cmp .ne (.name "_law_one") (.name "_law_out"))) (.list (.cons (.name "_law_thing") .nil)))))
(.cons (.ite (.and (.cmp .notin (.name "_law_out") (.name "_law_goal")) (.cmp .isin (.name "_law_made") (.name "_law_table_here")))
(.cons (.retn "_law_out")
.nil)
.nil)
.nil)))
(.cons (.ret (.neg (.int 1)))
.nil))⟩
noncomputable def d0:Fn:=⟨["_law_table_here", "_law_goal"],
(.cons (.assign "_law_best" (.sub (.name "_law_table_here") (.int 0)))
(.cons (.for1 "_law_choice" (.e (.name "_law_table_here"))
(.cons (.ite (.cmp .lt (.bi1 .len (.compif (.name "_law_thing") "_law_thing" (.e (.name "_law_choice")) (.cmp .isin (.name "_law_thing") (.name "_law_goal")))) (.bi1 .len (.compif (.name "_law_thing") "_law_thing" (.e (.name "_law_best")) (.cmp .isin (.name "_law_thing") (.name "_law_goal")))))
(.cons (.assign "_law_best" (.name "_law_choice"))
.nil)
.nil)
.nil))
(.cons (.retn "_law_best")
.nil)))⟩
noncomputable def uw:Fn:=⟨["_law_script"],
(.cons (.assign "_law_made" (.call "_law_held" (.cons (.name "_law_script") .nil)))
(.cons (.assign "_law_count" (.sub (.name "_law_made") (.int 0)))
(.cons (.assign "_law_table_here" (.comp (.bi1 .sorted (.name "_law_choice")) "_law_choice" (.e (.sub (.name "_law_made") (.int 1)))))
(.cons (.assign "_law_rule" (.call "Rule" (.cons (.name "_law_count") (.cons (.name "_law_table_here") .nil))))
(.cons (.assign "_law_more" (.call "_law_cell_at" (.cons (.name "_law_script") (.cons (.int 3) .nil))))
(.cons (.assign "_law_weights" (.comp (.call "_law_weight" (.cons (.call "_law_cell_at" (.cons (.name "_law_script") (.cons (.bin .add (.int 13) (.name "_law_thing")) .nil))) (.cons (.bin .mod (.name "_law_more") (.int 4)) .nil))) "_law_thing" (.r1 (.name "_law_count"))))
(.cons (.assign "_law_here" (.sub (.name "_law_table_here") (.bin .mod (.bin .fdiv (.call "_law_cell_at" (.cons (.name "_law_script") (.cons (.int 4) .nil))) (.int 2)) (.bi1 .len (.name "_law_table_here")))))
(.cons (.ite (.and (.cmp .eq (.bin .mod (.bin .fdiv (.name "_law_more") (.int 4)) (.int 6)) (.int 1)) (.cmp .ne (.name "_law_here") (.list .nil)))
(.cons (.ite (.or (.cmp .ne (.call "_law_told" (.cons (.name "_law_rule") (.cons (.bi1 .list (.name "_law_weights")) (.cons (.slo (.name "_law_here") (.int 1)) .nil)))) (.int 2)) (.cmp .ne (.call "_law_told" (.cons (.name "_law_rule") (.cons (.bi1 .list (.name "_law_weights")) (.cons (.bin .add (.name "_law_here") (.list (.cons (.name "_law_count") .nil))) .nil)))) (.int 3)))
(.cons (.ret (.bool OZ))
.nil)
.nil)
(.cons (.ite (.cmp .ne (.call "_law_told" (.cons (.name "_law_rule") (.cons (.bi1 .list (.name "_law_weights")) (.cons (.bin .add (.list (.cons (.sub (.name "_law_here") (.neg (.int 1))) .nil)) (.name "_law_here")) .nil)))) (.int 3))
(.cons (.ret (.bool OZ))
.nil)
.nil)
(.cons (.ite (.or (.cmp .ne (.call "_law_told" (.cons (.name "_law_rule") (.cons (.bin .add (.name "_law_weights") (.list (.cons (.int 0) .nil))) (.cons (.bin .add (.name "_law_here") (.list (.cons (.name "_law_count") .nil))) .nil)))) (.int 1)) (.cmp .ne (.call "_law_told" (.cons (.name "_law_rule") (.cons (.slo (.name "_law_weights") (.int 1)) (.cons (.bin .add (.name "_law_here") (.name "_law_here")) .nil)))) (.int 1)))
(.cons (.ret (.bool OZ))
.nil)
.nil)
(.cons (.ite (.cmp .ne (.call "_law_told" (.cons (.name "_law_rule") (.cons (.bin .add (.name "_law_weights") (.list (.cons (.int 0) .nil))) (.cons (.slo (.name "_law_here") (.int 1)) .nil)))) (.int 1))
(.cons (.ret (.bool OZ))
.nil)
.nil)
.nil))))
.nil)
(.cons (.assign "_law_goal" (.call "picked" (.cons (.name "_law_rule") (.cons (.bi1 .list (.name "_law_weights")) .nil))))
(.cons (.ite (.or (.not (.isi (.name "_law_goal") "list")) (.cmp .notin (.name "_law_goal") (.name "_law_table_here")))
(.cons (.ret (.bool OZ))
.nil)
.nil)
(.cons (.ite (.cmp .eq (.bin .mod (.call "_law_cell_at" (.cons (.name "_law_script") (.cons (.int 4) .nil))) (.int 2)) (.int 0))
(.cons (.assign "_law_here" (.call "_law_least_alike" (.cons (.name "_law_table_here") (.cons (.name "_law_goal") .nil))))
.nil)
.nil)
(.cons (.assign "_law_begun" (.call "_law_mixed" (.cons (.name "_law_here") (.cons (.call "_law_cell_at" (.cons (.name "_law_script") (.cons (.int 5) .nil))) .nil))))
(.cons (.assign "_law_due" (.list .nil))
(.cons (.for1 "_law_thing" (.e (.call "_law_ranked" (.cons (.name "_law_weights") .nil)))
(.cons (.ite (.and (.cmp .isin (.name "_law_thing") (.name "_law_goal")) (.cmp .notin (.name "_law_thing") (.name "_law_here")))
(.cons (.append "_law_due" (.tup (.cons (.call "_law_goes" (.cons (.name "_law_table_here") (.cons (.name "_law_here") (.cons (.name "_law_goal") (.cons (.name "_law_thing") .nil))))) (.cons (.name "_law_thing") .nil))))
(.cons (.assign "_law_here" (.bi1 .sorted (.bin .add (.compif (.name "_law_one") "_law_one" (.e (.name "_law_here")) (.cmp .ne (.name "_law_one") (.sub (.sub (.name "_law_due") (.neg (.int 1))) (.int 0)))) (.list (.cons (.name "_law_thing") .nil)))))
.nil))
.nil)
.nil))
(.cons (.assign "_law_found" (.call "way" (.cons (.name "_law_rule") (.cons (.bi1 .list (.name "_law_weights")) (.cons (.name "_law_begun") .nil)))))
(.cons (.ite (.or (.not (.isi (.name "_law_found") "list")) (.cmp .ne (.name "_law_found") (.name "_law_due")))
(.cons (.ret (.bool OZ))
.nil)
.nil)
(.cons (.for1 "_law_step" (.e (.name "_law_found"))
(.cons (.ite (.or (.not (.isi (.name "_law_step") "tuple")) (.or (.not (.call "_law_whole" (.cons (.sub (.name "_law_step") (.int 0)) .nil))) (.not (.call "_law_whole" (.cons (.sub (.name "_law_step") (.int 1)) .nil)))))
(.cons (.ret (.bool OZ))
.nil)
.nil)
.nil))
(.cons (.ret (.bool vk))
.nil))))))))))))))))))⟩
noncomputable def p_L:rg (OX×Fn):=[("PickError", rC),("NoChoice", ug),("NoThing", wa),("NoExchange", qO),("NoWeights", ro),("exchanged", p_exchanged),("known_of", p_known_of),("goes", p_goes),("fault", p_fault),("need_row", p_need_row),("Rule", p_Rule),("together", p_together),("rank", p_rank),("need_full", p_need_full),("outs", p_outs),("exchanges", p_exchanges),("order", p_order),("picked", p_picked),("way", p_way),("_law_cell_at", l_cell_at),("_law_whole", l_whole),("_law_bit", l_bit),("_law_subsets", l_subsets),("_law_apart", l_apart),("_law_parts", l_parts),("_law_few", l_few),("_law_pairs_by", l_pairs_by),("_law_table", l_table),("_law_can", l_can),("_law_fault", l_fault),("_law_held", l_held),("_law_weight", jn),("_law_ranked", jk),("_law_told", g6),("_law_goes", l5),("_law_least_alike", d0),("_law_mixed", k7),("law", uw)]
theorem libH:LibH p_L:=⟨⟨rfl,rfl,rfl,rfl,rfl,rfl,rfl,rfl,rfl,rfl,rfl,rfl,rfl,rfl⟩,rfl,rfl⟩
theorem tP:LibR p_L:=⟨libH.toLib,rfl,rfl,⟨_,rfl⟩⟩
theorem libW:LibW p_L:=⟨⟨⟨tP,rfl,rfl⟩,rfl,rfl,rfl,rfl⟩,⟨tP,rfl,rfl,rfl,rfl⟩,rfl⟩
theorem te (C:Calls) (t:rg (rg O3)) (g:rg O3) (h0:t≠[]):∃ q,av C d0 [.d (ag t),.d (aa g)] = .ok q/\∃ r∈t,q.1 = .d (aa r):=by
 unfold d0
 refine da rfl λi H=>?_
 obtain ⟨x,u⟩:∃ x,t[0]? = qn x:=by
  cases t with
  | nil=>exact Pq rfl h0
  | cons a l=>exact ⟨a,rfl⟩
 refine Runs.set H (pC (H.ev (x:="_law_table_here") rfl) (al 0) (by decide) u) λi H _=>?_
 refine Runs.for (g:=aa) (xs:=t) (λj i=>∃ r∈t,Has i [("_law_best", .d (aa r)),("_law_goal", .d (aa g))]) (aF (H.ev (x:="_law_table_here") rfl) (aY t .sh)) (λσ0 h _=>⟨x,QU u,(h _ H).sub ⟨rfl,rfl,trivial⟩⟩) ?_ ?_
 ·intro j y p hp i n
  obtain ⟨r,k,H⟩:=n
  have H1:=H.mk "_law_choice" (.d (aa y))
  have v:∀ (z:OX) (l:rg O3),ev C (.name z) (upd i "_law_choice" (mk (.d (aa y)))) = .ok (.d (aa l),.sh)->ev C (.bi1 .len (.compif (.name "_law_thing") "_law_thing" (.e (.name z)) (.cmp .isin (.name "_law_thing") (.name "_law_goal")))) (upd i "_law_choice" (mk (.d (aa y)))) = .ok (sI (l.filter λo=>decide (o∈g)).length):=λz l hz=>
   c7 (bS (λo=>decide (o∈g)) (aF hz (aV l .sh)) λo _=>by
    have H2:=H1.upd "_law_thing" (.d (.int o)) .deep
    exact kn (H2.ev (x:="_law_thing") rfl) (H2.ev (x:="_law_goal") rfl))
  refine Runs.ite (nk (v _ _ (H1.ev (x:="_law_choice") rfl)) (v _ _ (H1.ev (x:="_law_best") rfl))) (λ_=>?_) λ_=>Runs.nil (Runs.nil ⟨r,k,H1.sub ⟨rfl,rfl,trivial⟩⟩)
  exact Runs.set H1 (H1.ev (x:="_law_choice") rfl) λi H2 _=>Runs.nil (Runs.nil ⟨y,by rw[hp]; simp,H2.sub ⟨rfl,rfl,trivial⟩⟩)
 ·intro i n
  obtain ⟨r,k,H⟩:=n
  obtain ⟨m,hm⟩:=H "_law_best" _ rfl
  exact Runs.retn hm ⟨_,rfl,r,k,rfl⟩
theorem v4 (hL:L.lookup f=qn fn) (he:evs (mkC L (n+1)) es σ = .ok q) (hv:q.map (·.1)=vs) (hp:g7 f=true:=by decide):ev (mkC L (n+1)) (.call f es) σ=av (mkC L n) fn vs:=by
 have g:mkC L (n+1) f=qn λvs=>ce f (mkC L n) fn vs:=by show (L.lookup f).map _=_; rw[hL]; rfl
 rw[jb g he,hv,k8 hp]
theorem js (n:Pa) (hc:(c = "NoWeights" /\ i=1)\/(c = "NoChoice" /\ i=2)\/(c = "NoThing" /\ i=3)) (hw:av (mkC p_L (n+1)) p_way [a,b,d] = .exc c):av (mkC p_L (n+2)) g6 [a,b,d] = .ok (sI i):=by
 unfold g6
 refine b8 rfl λg H=>Runs.cons (o:=(g,.ret (sI i))) ?_ rfl
 have e:ev (mkC p_L (n+2)) (.call "way" (.cons (.name "_law_rule") (.cons (.name "_law_weights") (.cons (.name "_law_choice") .nil)))) g = .exc c:=(v4 libW.way (ai (H.ev (x:="_law_rule") rfl) (ai (H.ev (x:="_law_weights") rfl) (ai (H.ev (x:="_law_choice") rfl) ax))) rfl).trans hw
 rw[lH,dz,e]
 rcases hc with ⟨rfl,rfl⟩ | ⟨rfl,rfl⟩ | ⟨rfl,rfl⟩<;>rfl
theorem Dp (n:Pa) (c k:O3) (d ch:Pk) (ws:rg O3) (hw:(ws.length:O3)≠c):av (mkC p_L (n+2)) p_way [.rule c d k,.d (aa ws),.d ch] = .exc "NoWeights" := by
 unfold p_way
 refine kP rfl λg H=>?_
 rw[bt,show evA (mkC p_L (n+2)) (.call "picked" (.cons (.name "rule") (.cons (.name "weights") .nil))) g = .exc "NoWeights" from (v4 libW.o.picked (ai (H.ev (x:="rule") rfl) (ai (H.ev (x:="weights") rfl) ax)) rfl).trans (tn libW.o n c k d ws hw)]
 rfl
theorem pA (n c:Pa) (k:O3) (u:rg (rg O3)) (ws ch:rg O3) (hu:u≠[]) (nd:∀ r∈u,r.Nodup) (hc:c<=100) (hw:ws.length=c) (hf:av (aA (mkC p_L (n+4))) p_need_full [.rule c (ag u) k,.d (aa ch)] = .exc e):av (mkC p_L (n+5)) p_way [.rule c (ag u) k,.d (aa ws),.d (aa ch)] = .exc e:=by
 obtain ⟨h,g,H⟩:=bT ["rule", "weights", "choice"] [.rule c (ag u) k,.d (aa ws),.d (aa ch)] rfl
 have j:=b9 libW.o.picked (ai (H.ev (C:=mkC p_L (n+5)) (x:="rule") rfl) (ai (H.ev (x:="weights") rfl) ax)) rfl (iE libW.o n c k u ws hu nd hc hw)
 have H1:=H.upd "goal" (.d (aa (az u ws))) .deep
 have i:evA (mkC p_L (n+5)) (.meth (.name "rule") "need_full" (.cons (.name "choice") .nil)) (upd h "goal" (.d (aa (az u ws)),.deep)) = .exc e:=(kR (n:=n+4) rfl libW.e.nf (λ_=>rfl) (H1.ev (x:="rule") rfl) (ai (H1.ev (x:="choice") rfl) ax) rfl).trans hf
 unfold av
 rw[show bq p_way.params _=qn h from g]
 dsimp only
 unfold p_way
 rw[gL (oR j rfl),bf,bt,i]
 rfl
theorem oj:∀ {l:rg O3},l.filter p=o::r->l.findSome? (λx=>if p x=vk then qn x else O2)=qn o
 | [],e=>by cases e
 | a::l,e=>by
  by_cases q:p a=vk
  ·rw[VK q] at e
   rw[So,O1 q,(Jas e).1]
  ·rw[VL q] at e
   rw[So,OY q]
   exact oj e
theorem rz (C:Calls) (t:rg (rg O3)) (h g:rg O3) (x o:O3) (l:rg O3) (hl:h.length<127) (h0:∀ i∈h,0<=i) (hx:0<=x) (e:goF t g h x=o::l):av C l5 [.d (ag t),.d (aa h),.d (aa g),.d (.int x)] = .ok (sI o):=by
 unfold goF pg at e
 rw[U4] at e
 have j:=oj e
 unfold l5
 refine b8 rfl λm H=>?_
 refine Runs.seek (g:=PA) (xs:=h) (λm=>Has m [("_law_table_here", .d (ag t)),("_law_here", .d (aa h)),("_law_goal", .d (aa g)),("_law_thing", .d (.int x))]) (λo=>if (!decide (o∈g)&&decide (exchF h o x∈t))=vk then qn o else O2) (λo=>sI o) (aF (H.ev (x:="_law_here") rfl) (aV h .sh)) (λp h' _=>(h' _ H).sub ⟨rfl,rfl,rfl,rfl,trivial⟩) (λy hy m H=>?_) (λq=>by rw[j] at q; cases q) λq n u=>by rw[j] at n; cases n; rfl
 have H1:=H.mk "_law_out" (.d (.int y))
 have k:(h.filter λi=>!decide (i=y)).length<=h.length:=QZ ..
 refine Runs.setD H1 (r:=(.d (aa (exchF h y x)),.deep)) (ej (cA (bS (λi=>!decide (i=y)) (aF (H1.ev (x:="_law_here") rfl) (aV _ .sh)) λi _=>?_) (di (H1.ev (x:="_law_thing") rfl)) (by rw[Pm]; exact Ao hl k)) (by rw[Pj,Pm]; exact AQ hl k) λi z=>?_) rfl λm H2 _ v=>?_
 ·have H2:=H1.upd "_law_one" (.d (.int i)) .deep
  exact jA (H2.ev (x:="_law_one") rfl) (H2.ev (x:="_law_out") rfl)
 ·rcases Pu.mp z with a | a
  ·exact h0 i (Qk.mp a).1
  ·rw[O7.mp a]; exact hx
 refine Runs.ite (fK (ie (H2.ev (x:="_law_out") rfl) (H2.ev (x:="_law_goal") rfl)) λ_=>ud (H2.ev (x:="_law_made") rfl) (H2.ev (x:="_law_table_here") rfl)) (λq=>?_) λq=>Runs.nil (Runs.nil (Sk.next (OY (by rw[q]; decide)) (H2.sub ⟨rfl,rfl,rfl,rfl,trivial⟩)))
 exact Runs.retn ((v _ (by decide)).trans (O1 rfl)) (Cont.ret (Sk.ret (rv:=λo=>sI o) (O1 q)))
theorem CG (ha:ev C a σ = .ok (.d (aX (l++[p])),m)):ev C (.sub a (.neg (.int 1))) σ = .ok (.d (dS p),.deep):=by
 rw[iK ha (tN (al 1))]
 show (am ((bl (-1) ((l++[p]).map dS).length).bind λk=>((l++[p]).map dS)[k]?) λz=>Out.ok (mk (.d z)))=_
 have e:bl (-1) ((l++[p]).map dS).length=qn l.length:=by
  unfold bl
  rw[OY (by decide),Pi,Pj,Pm,O1 Lk]
  exact R2 qn EA
 rw[e,Tp,P1,S9 (PH _),Vw]
 rfl
theorem Bx (h:xs≠[]) (ha:ev C a σ = .ok (.d (aa xs),m)):∃ y∈xs,ev C (.sub a (.neg (.int 1))) σ = .ok (sI y):=by
 have g:0<xs.length:=Tg.mpr h
 refine ⟨xs[xs.length-1],RM _,?_⟩
 rw[iK ha (tN (al 1))]
 show (am ((bl (-1) (xs.map PA).length).bind λk=>(xs.map PA)[k]?) λz=>Out.ok (mk (.d z)))=_
 have e:bl (-1) (xs.map PA).length=qn (xs.length-1):=by
  unfold bl
  rw[OY (by decide),Pi,O1 (HH g)]
  exact R2 qn Li
 rw[e,Tp,P1,Pp (AV g)]
 rfl
theorem yp (s:rg O3) (hs:s.length<=63):∃ m,av (mkC p_L 8) uw [.d (aa s)] = .ok (.d (.bool vk),m):=by
 refine ⟨.deep,?_⟩
 unfold uw
 refine b8 rfl λσ H=>?_
 obtain ⟨oq,e1,c,t,hr,hd⟩:=dA (σ:=σ) (n:=7) libH.held (es:=.cons (.name "_law_script") .nil) (ai (H.ev rfl) ax) rfl (vF libH 3 s hs)
 obtain ⟨rv,rm⟩:=oq
 cases hr
 have hc:c<=100:=hd.hc
 have hSr:∀ r∈t,Srt c r:=λr h=>(hd.rows r h).2
 refine Runs.set H e1 λσ H _=>?_
 refine Runs.set H (mM (m:=.sh) (H.ev (x:="_law_made") rfl) (al 0)) λσ H _=>?_
 refine af (dO (C:=mkC p_L 8) (σ:=σ) (g:=aa) (l:=t) (z:="_law_choice") (it:=.e (.sub (.name "_law_made") (.int 1))) (a:=.bi1 .sorted (.name "_law_choice")) (λr=>r) .deep (aF (pf (m:=.sh) (H.ev (x:="_law_made") rfl) (al 1)) (aY t .sh)) λr h=>mK ((Has.nil.mk "_law_choice" (.d (aa r))).ev rfl) (O5 (hd.rows r h).1 (by decide)) (λi hi=>((hSr r h).2 i hi).1) (hSr r h).1) λm1 e2 _=>?_
 rw[Tq] at e2
 refine Runs.set H e2 λσ H _=>?_
 clear e1 e2
 obtain ⟨u,x,er,hm,hx,_⟩:=tw tP 4 c t (ur hc) hd.ne hd.len hd.rows hd.nf
 refine Runs.setD H (CF tP (ai (H.ev (x:="_law_count") rfl) (ai (H.ev (x:="_law_table_here") rfl) ax)) rfl er) rfl λσ H _ _=>?_
 have hu:u≠[]:=λq=>by rw[q] at hx; cases hx
 have rU:∀ r∈u,r.length<=100/\Srt c r:=λr h=>hd.rows r ((hm r).mp h)
 have sU:∀ r∈u,Srt c r:=λr h=>(rU r h).2
 have nU:∀ r∈u,r.Nodup:=λr h=>qg (sU r h).1
 have fU:NoF c u:=hd.nf.set λr=>(hm r).symm
 refine Runs.setD H (bL libH.toLib (H.ev (x:="_law_script") rfl) (al 3) (by decide)) rfl λσ H _ _=>?_
 generalize ba s 3=more at H
 refine Runs.setD H (gz (g:=PA) (l:=aS c) (λi=>kH (ba s (13+i)) (more%4)) (cu (H.ev (x:="_law_count") rfl) (H0 hc)) λi hi=>?_) rfl λσ H _ _=>?_
 ·have H1:=H.mk "_law_thing" (.d (.int i))
  have:=mem_upTo.mp hi
  exact b9 (show p_L.lookup "_law_weight" = qn jn from rfl) (ai (bL libH.toLib (H1.ev (x:="_law_script") rfl) (cP (al 13) (H1.ev (x:="_law_thing") rfl)) (Gc this)) (ai (be (H1.ev (x:="_law_more") rfl) (al 4) (by decide)) ax)) rfl (rK _ _ _)
 obtain ⟨ws,hws⟩:∃ ws,(aS c).map (λi=>kH (ba s (13+i)) (more%4))=ws:=⟨_,rfl⟩
 rw[hws] at H
 have hwl:ws.length=c:=by rw[<- hws,Pi,bG]
 have gm:=xN (ws:=ws) hu sU hwl
 have tl:0<t.length:=Tg.mpr hd.ne
 have hi0:=P8 (ba s 4/2) (show (t.length:O3)≠0 by exact la2 tl)
 have hi1:=Qr (ba s 4/2) (show (0:O3)<t.length by exact la3 tl)
 have hil:(ba s 4/2%(t.length:O3)).toNat<t.length:=by exact Hm tl hi1
 refine Runs.set H (pC (H.ev (x:="_law_table_here") rfl) (be (eN (bL libH.toLib (H.ev (x:="_law_script") rfl) (al 4) (by decide)) (al 2) (by decide) (by decide)) (jO (H.ev (x:="_law_table_here") rfl)) (la3 tl)) hi0 (Pp hil)) λσ H _=>?_
 have hh0:t[(ba s 4/2%(t.length:O3)).toNat]∈t:=RM hil
 generalize t[(ba s 4/2%(t.length:O3)).toNat]=h0 at H hh0
 have hu0:=(hm h0).mpr hh0
 have hl0:=(hd.rows h0 hh0).1
 refine Runs.iteTo (λσ=>Has σ [("_law_here", .d (aa h0)),("_law_weights", .d (aa ws)),("_law_rule", .rule c (ag u) x.length),("_law_table_here", .d (ag t)),("_law_script", .d (aa s))]) (fK (dg (be (eN (H.ev (x:="_law_more") rfl) (al 4) (by decide) (by decide)) (al 6) (by decide)) (al 1)) λ_=>Fe (H.ev (x:="_law_here") rfl) me) (λq=>?_) (λ_=>Runs.nil ⟨rfl,H.sub ⟨rfl,rfl,rfl,rfl,rfl,trivial⟩⟩) ?_
 ·have hne:h0≠[]:=by
   simp only[O9,P0,QM] at q
   exact q.2
  have hlp:0<h0.length:=Tg.mpr hne
  have hcp:0<c:=by
   obtain ⟨a,ha⟩:=RW h0 hne
   have:=(hSr h0 hh0).2 a ha
   exact Jb this
  have tld:∀ {a b:E}{ws' ch:rg O3}{m m':Mode}{i:O3},ev (mkC p_L 8) a σ = .ok (.d (aa ws'),m)->ev (mkC p_L 8) b σ = .ok (.d (aa ch),m')->av (mkC p_L 7) g6 [.rule c (ag u) x.length,.d (aa ws'),.d (aa ch)] = .ok (sI i)->ev (mkC p_L 8) (.cmp .ne (.call "_law_told" (.cons (.name "_law_rule") (.cons a (.cons b .nil)))) (.int i)) σ = .ok (sB OZ):=λha hb hr=>
   (jA (b9 (show p_L.lookup "_law_told" = qn g6 from rfl) (ai (H.ev (x:="_law_rule") rfl) (ai ha (ai hb ax))) rfl hr) (al _)).trans (by simp)
  have ew:=j4 (H.ev (C:=mkC p_L 8) (x:="_law_weights") rfl)
  have eh:=H.ev (C:=mkC p_L 8) (x:="_law_here") rfl
  have et:=(vh eh (al 1)).trans (oJ h0 1 (by decide))
  have ec:=cA eh (di (H.ev (x:="_law_count") rfl)) (show h0.length+1<=1000000 by exact IY hl0)
  have ewl:=cA (H.ev (C:=mkC p_L 8) (x:="_law_weights") rfl) (di (al 0)) (show ws.length+1<=1000000 by exact GW hc hwl)
  have ews:=(vh (H.ev (C:=mkC p_L 8) (x:="_law_weights") rfl) (al 1)).trans (oJ ws 1 (by decide))
  have ehh:=cA eh eh (show h0.length+h0.length<=1000000 by exact Jd hl0)
  obtain ⟨y,hy,ely⟩:=Bx hne eh
  have eyh:=cA (di ely) eh (show 1+h0.length<=1000000 by exact IN hl0)
  have fs:=λch (hl:ch.length<128)=>jR libW.e 3 c x.length u ch hl
  have sd:(h0.drop 1).Sublist h0:=T4 1 h0
  have t2:=js 5 (.inr (.inl ⟨rfl,rfl⟩)) (pA 1 c x.length u ws (h0.drop 1) hu nU hc hwl ((fs _ (by rw[Q2]; exact Hh hl0)).2.1 ⟨λa ha=>(hSr h0 hh0).2 a (sd.subset ha),((hSr h0 hh0).good.2).sublist sd⟩ λq=>by
   rw[lq ((hSr h0 hh0).1.sublist sd)] at q
   have:=fU.len sU q hu0
   rw[Q2] at this
   exact Gi hlp this))
  have t3a:=js 5 (.inr (.inr ⟨rfl,rfl⟩)) (pA 1 c x.length u ws (h0++[(c:O3)]) hu nU hc hwl ((fs _ (by rw[Pj,Pm]; exact Ff hl0)).1 λq=>by
   have:=q.1 c (by simp)
   exact I7 this))
  have t3b:=js 5 (.inr (.inr ⟨rfl,rfl⟩)) (pA 1 c x.length u ws ([y]++h0) hu nU hc hwl ((fs _ (by rw[Pj,Pm]; exact Kq hl0)).1 λq=>(Q6.mp q.2).1 hy))
  have t1:=λ(w ch:rg O3) (hw:w.length≠c)=>js 5 (.inl ⟨rfl,rfl⟩) (Dp 4 c x.length (ag u) (aa ch) w λq=>hw (A0 q))
  refine Runs.no (fe (p:=OZ) (q:=OZ) (tld ew et t2) λ_=>tld ew ec t3a) ?_
  refine Runs.no (tld ew eyh t3b) ?_
  refine Runs.no (fe (p:=OZ) (q:=OZ) (tld ewl ec (t1 _ _ (by rw[Pj,Pm]; exact zn hwl))) λ_=>tld ews ehh (t1 _ _ (by rw[Q2]; exact EO hwl hcp))) ?_
  exact Runs.no (tld ewl et (t1 _ _ (by rw[Pj,Pm]; exact zn hwl))) (Runs.nil ⟨rfl,H.sub ⟨rfl,rfl,rfl,rfl,rfl,trivial⟩⟩)
 clear H
 intro σ H
 refine Runs.setD H (b9 libW.o.picked (ai (H.ev (x:="_law_rule") rfl) (ai (j4 (H.ev (x:="_law_weights") rfl)) ax)) rfl (iE libW.o 3 c x.length u ws hu nU hc hwl)) rfl λσ H _ _=>?_
 refine Runs.no (fe (p:=OZ) (q:=OZ) (fP (t:=vk) (lO (H.ev (x:="_law_goal") rfl) rfl)) λ_=>bF (H.ev (x:="_law_goal") rfl) (H.ev (x:="_law_table_here") rfl) ((qz _ _).trans (by rw[Qc ((hm _).mp gm)]; rfl))) ?_
 refine Runs.iteTo (λσ=>∃ h∈t,Has σ [("_law_here", .d (aa h)),("_law_goal", .d (aa (az u ws))),("_law_weights", .d (aa ws)),("_law_rule", .rule c (ag u) x.length),("_law_table_here", .d (ag t)),("_law_script", .d (aa s))]) (dg (be (bL libH.toLib (H.ev (x:="_law_script") rfl) (al 4) (by decide)) (al 2) (by decide)) (al 0)) (λ_=>?_) (λ_=>Runs.nil ⟨rfl,h0,hh0,H.sub ⟨rfl,rfl,rfl,rfl,rfl,rfl,trivial⟩⟩) ?_
 ·obtain ⟨q,e3,r,hr,e4⟩:=dA (σ:=σ) (n:=7) (show p_L.lookup "_law_least_alike" = qn d0 from rfl) (ai (H.ev (x:="_law_table_here") rfl) (ai (H.ev (x:="_law_goal") rfl) ax)) rfl (te _ t (az u ws) hd.ne)
  obtain ⟨qv,qm⟩:=q
  cases e4
  exact Runs.set H e3 λσ H _=>Runs.nil ⟨rfl,r,hr,H.sub ⟨rfl,rfl,rfl,rfl,rfl,rfl,trivial⟩⟩
 clear H
 intro σ hI
 obtain ⟨h,hht,H⟩:=hI
 have hhu:h∈u:=(hm h).mpr hht
 have hhl:=(hd.rows h hht).1
 obtain ⟨q,e5,p,e6,pm⟩:=dA (σ:=σ) (n:=7) (show p_L.lookup "_law_mixed" = qn k7 from rfl) (ai (H.ev (x:="_law_here") rfl) (ai (bL libH.toLib (H.ev (x:="_law_script") rfl) (al 5) (by decide)) ax)) rfl (uz _ h (ba s 5) (ur hhl))
 cases e6
 refine Runs.setD H e5 rfl λσ H _ _=>?_
 clear e5
 have hso:=(sU h hhu).sort pm
 have hg:Good c p:=(sU h hhu).good.perm pm
 have en:ev (mkC p_L 8) (.list .nil) σ = .ok (.d (aX []),.deep):=by simp only[bH,bg]; rfl
 refine Runs.setD H en rfl λσ H hdu _=>?_
 clear en
 have cg:∀ held y,goF t (az u ws) held y=goF u (az u ws) held y:=λheld y=>by
  unfold goF pg
  simp only[hm]
 have wl:=λpre=>sj u (az u ws) h pre
 refine Runs.for (g:=PA) (xs:=bz ws) (λpre σ=>Has σ [("_law_here", .d (aa (dE u (az u ws) h pre).2)),("_law_due", .d (aX (dE u (az u ws) h pre).1)),("_law_goal", .d (aa (az u ws))),("_law_weights", .d (aa ws)),("_law_rule", .rule c (ag u) x.length),("_law_table_here", .d (ag t)),("_law_begun", .d (aa p))]/\σ "_law_due" = qn (.d (aX (dE u (az u ws) h pre).1),.deep)) (aF (b9 (show p_L.lookup "_law_ranked" = qn jk from rfl) (ai (H.ev (x:="_law_weights") rfl) ax) rfl (re _ ws (GM hc hwl))) (aV _ .deep)) (λσ0 h' hn=>⟨(h' _ H).sub ⟨rfl,rfl,rfl,rfl,rfl,rfl,rfl,trivial⟩,(hn _ (by simp[fg,jj,il,lw,dq])).trans hdu⟩) ?_ ?_
 ·intro pre y post hp σ hI
  obtain ⟨H,hs⟩:=hI
  have W:=WayI.all hu sU fU hwl hhu _ pre (y::post) rfl hp
  have N:=W.next hu sU fU hwl hp
  have H1:=H.mk "_law_thing" (.d (.int y))
  have hs1:upd σ "_law_thing" (mk (.d (.int y))) "_law_due" = _:=(OY (by decide)).trans hs
  have hy:0<=y/\y<(c:O3):=by
   have:=g9 (ns:=ws) (i:=y) (by rw[hp]; simp)
   rwa [hwl] at this
  have hwl2:=wl pre
  have hpl:pre.length<=c:=by
   have:=fL ws
   rw[hp,Pj] at this
   exact AM hwl this
  rw[j8]
  unfold gj
  generalize (dE u (az u ws) h pre)=st at H H1 hs hs1 W N hwl2 ⊢
  refine Runs.ite (fK (kn (H1.ev (x:="_law_thing") rfl) (H1.ev (x:="_law_goal") rfl)) λ_=>ie (H1.ev (x:="_law_thing") rfl) (H1.ev (x:="_law_here") rfl)) (λq=>?_) λq=>Runs.nil (Runs.nil ?_)
  ·have q:y∈az u ws/\y∉st.2:=by simpa using q
   obtain ⟨⟨l,hl⟩,S,_⟩:=N.1 q
   have hrow:=rU _ W.row
   refine Runs.appT H1 hs1 (by decide) (vJ (b9 (show p_L.lookup "_law_goes" = qn l5 from rfl) (ai (H1.ev (x:="_law_table_here") rfl) (ai (H1.ev (x:="_law_here") rfl) (ai (H1.ev (x:="_law_goal") rfl) (ai (H1.ev (x:="_law_thing") rfl) ax)))) rfl (rz _ t st.2 (az u ws) y _ l (Kw hrow) (λi hi=>(hrow.2.2 i hi).1) hy.1 (by rw[cg]; exact hl))) (H1.ev (x:="_law_thing") rfl)) (AZ hc hpl hwl2) λσ H hs3 kp=>?_
   have hfl:(st.2.filter λi=>!decide (i=d8 u (az u ws) st.2 y)).length<=st.2.length:=QZ ..
   refine Runs.setD H (r:=(.d (aa (exchF st.2 (d8 u (az u ws) st.2 y) y)),.deep)) (ej (cA (bS (λi=>!decide (i=d8 u (az u ws) st.2 y)) (aF (H.ev (x:="_law_here") rfl) (aV _ .sh)) λi _=>?_) (di (H.ev (x:="_law_thing") rfl)) (by rw[Pm]; exact Fg hrow hfl)) (by rw[Pj,Pm]; exact G1 hrow hfl) λi hi=>?_) rfl λσ H2 _ kp2=>Runs.nil (Runs.nil ?_)
   ·have H2:=H.upd "_law_one" (.d (.int i)) .deep
    exact jA (H2.ev (x:="_law_one") rfl) (mM (m:=.deep) (CG (H2.ev (x:="_law_due") rfl)) (al 0))
   ·rcases Pu.mp hi with a | a
    ·exact (hrow.2.2 i (Qk.mp a).1).1
    ·rw[O7.mp a]; exact hy.1
   show Has σ _/\_
   rw[O1 q]
   exact ⟨H2.sub ⟨rfl,rfl,rfl,rfl,rfl,rfl,rfl,trivial⟩,(kp2 _ (by decide)).trans hs3⟩
  ·have q:¬ (y∈az u ws/\y∉st.2):=by simpa using q
   show Has _ _/\_
   rw[OY q]
   exact ⟨H1.sub ⟨rfl,rfl,rfl,rfl,rfl,rfl,rfl,trivial⟩,hs1⟩
 clear H hdu
 intro σ hI
 have H:=hI.1
 have wy:=x5 libW 2 c x.length u ws p hu rU fU hc hwl hg (by rw[hso]; exact hhu)
 rw[hso] at wy
 refine Runs.setD H (b9 libW.way (ai (H.ev (x:="_law_rule") rfl) (ai (j4 (H.ev (x:="_law_weights") rfl)) (ai (H.ev (x:="_law_begun") rfl) ax))) rfl wy) rfl λσ H _ _=>?_
 refine Runs.no (fe (p:=OZ) (q:=OZ) (fP (t:=vk) (lO (H.ev (x:="_law_found") rfl) rfl)) λ_=>Ig (H.ev (x:="_law_found") rfl) (H.ev (x:="_law_due") rfl)) ?_
 refine Runs.for (g:=dS) (xs:=(dE u (az u ws) h (bz ws)).1) (λ_ _=>Wa) (aF (H.ev (x:="_law_found") rfl) (show itV (mk (.d (aX _))) = .ok (ZT dS _,.sh) from rfl)) (λ_ _ _=>trivial) ?_ λσ _=>Runs.ret (hH vk) rfl
 intro pre q post _ σ _
 have H1:=(Has.nil (σ:=σ)).mk "_law_step" (.d (dS q))
 have ef:ev (mkC p_L 8) (.sub (.name "_law_step") (.int 0)) (upd σ "_law_step" (mk (.d (dS q)))) = .ok (sI q.1):=mM (m:=.deep) (H1.ev (x:="_law_step") rfl) (al 0)
 have es:ev (mkC p_L 8) (.sub (.name "_law_step") (.int 1)) (upd σ "_law_step" (mk (.d (dS q)))) = .ok (sI q.2):=pf (m:=.deep) (H1.ev (x:="_law_step") rfl) (al 1)
 exact Runs.no (fe (p:=OZ) (q:=OZ) (fP (t:=vk) (lO (H1.ev (x:="_law_step") rfl) rfl)) λ_=>fe (p:=OZ) (q:=OZ) (fP (t:=vk) (b9 libH.whole (ai ef ax) rfl (mf _ _))) λ_=>fP (t:=vk) (b9 libH.whole (ai es ax) rfl (mf _ _))) (Runs.nil trivial)
open PySem.W
noncomputable def rw0:RowW:=OpenRow.toRowW (XZ Sq)
noncomputable def vw:Program:={rw0.prog with main:={rw0.prog.main with body:=rw0.prog.main.body.filter λs=>(pP s).isNone } }
theorem BU:(defOf vw (XZ Sq).name).isSome=true:=by kernel_rfl
noncomputable def dw:=(defOf vw (XZ Sq).name).get BU
theorem B9:dw.1.name=mL "law" := by kernel_rfl
noncomputable def hk:=MN (bJ p_L)
end Internal
set_option tactic.hygienic true
open PySem PySem.W PyProof.Rows
set_option maxRecDepth 100000
set_option maxHeartbeats 8000000
theorem PySem.Challenge.cw_uf050037_10_holds : PySem.Challenge.rw_uf050037_10.Holds := by
  w_on
  refine holds_law (by
    unfold OpenLaw.wellSaid
    iterate 18 (refine look_both ?_ ?_)
    · unfold OpenRow.wellSaid
      iterate 2 (refine look_both ?_ ?_)
      · unfold OpenRow.partSaid
        iterate 12 (refine look_both ?_ ?_)
        · unfold looksOpen
          iterate 5 (refine look_both ?_ ?_)
          all_goals decide +kernel
        all_goals decide +kernel
      all_goals decide +kernel
    all_goals decide +kernel) fun said=>?_
  refine holds_open (q:=Internal.vw) (loose:=[]) (Xt:=fun s=>xlAt Internal.vw [] s && recOk (RowW.records Internal.rw0) s) (XP:=XL Internal.vw []) (Yf:=Hook.obs Internal.hk) (Ya:=Hook.val Internal.hk) (YP:=Hook.says Internal.hk) (d:=Internal.dw.1) (kwd:=Internal.dw.2) (N:=5000) ?hl (Hook.of Internal.hk) (Hook.keeps Internal.hk) (fun s e=>xl_of s (Bool.and_eq_true_iff.mp e).1) XL.keeps (by kernel_rfl) (by kernel_rfl) (by kernel_rfl) (fun s e=>recFacts_of (Bool.and_eq_true_iff.mp e).2) (by rfl) (by assumption) (by decide +kernel) ⟨rfl,rfl,rfl,rfl,rfl,by decide +kernel⟩ ?hw ?hc
  case hl=>exact fun w=>by kernel_rfl
  case hw=>w_witness2
  intro w s₀ s₁ mg mb G Y fa o pm cd doc dV kV ho hd hcd hD hmg hg args vals as hpre hlay hrd hwl hlo
  refine Ground.open G ?_
  intro T B D TE TW
  clear hd hcd hD
  rw [Internal.B9] at hmg
  wrow_args hpre hlay hrd hwl hlo
  rename_i ns _ _ _ _ _ _ _ a vs _ hL ra w1 r0 hI hr hc1 hc2
  have e:=Internal.t6 (by simpa only [ofPy] using w1) hL
  obtain ⟨m,hsp⟩:=Internal.yp ns (by omega)
  refine Internal.wQ (n:=8) (ns:=ns) T TE Y (L:=Internal.p_L) (by kernel_rfl) (by kernel_rfl) (by kernel_rfl) rfl (.inr (by decide)) rfl hmg (by decide) hsp e hI (by omega) fun h' tk kk=>?_
  refine ⟨.inl ⟨_,.bool true,[],rfl,?_,?_,?_,?_⟩,kk,rfl,.of_eq hg⟩
  · intro cls; first | rfl | exact raisesW_false allW_false_nil
  · exact .bool true
  · wrow_post
  · exact fun _=>⟨.nil,fun _ h=>nomatch h⟩
