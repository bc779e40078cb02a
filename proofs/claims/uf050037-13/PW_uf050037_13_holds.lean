import PyProof.Rows.All
import Wide.All
import Wide.FinOn
import Open.Line
import PyProof.P3Statements
import PyProof.Lay0
import PyProof.StrBlockL
import PyProof.Rows.StrNews2
import PyProof.P3In
import PyProof.NeData
import PyProof.CompFree
import PyProof.DictRoadsH
import PyProof.DictWalks
import PyProof.Rows.SortShell
import PyProof.Rows.RuleB_xor
import PyProof.Rows.RuleB_small
import PyProof.Rows.RuleB_floordiv
import PyProof.Rows.RuleB_mod
import PyProof.Rows.RuleB_mul
import PyProof.Rows.IntRules
import PyProof.Rows.RuleC_int
import PyProof.Rows.RuleU_int
import PyProof.ListOps
import PyProof.Cells
import PyProof.Calls
import PyProof.SliceMore
import PyProof.TupleOfSeq
import PyProof.ListCopy
import PyProof.CodeObjX
import PyProof.Rows.PlainObj
import PyProof.ExcClass2
import PyProof.ExcArgsOwn
import PyProof.IsInstanceH
import PyProof.ExcAttrAll.ValueError
import PyProof.Rows.StrRules
import PyProof.StrLaws
import PyProof.DictStraight
import PyProof.Rows.StrTemp
import PyProof.TupleOps
import PyProof.ListIndexNeg
import PyProof.Rules3
import PyProof.SliceList
import PyProof.Rows.TupSub
import PyProof.ForRange
import PyProof.Rows.DictMade
import PyProof.WalkInts
import PyProof.SeqI3
import PyProof.SumWalkG
import PyProof.WalksMore
import PyProof.IsiPairs
import PyProof.IsiHeapPairs
import PyProof.ListRange
import PyProof.Rows.SortWalk
import PyProof.StrWalks
import PyProof.IsiNone
import PyProof.Rows.SortRuns
import PyProof.Rows.CallKwBuiltin
import PyProof.DefMake
import PyProof.EvalArms
import PyProof.RangeFor
import PyProof.ListNew
import PyProof.Rows.DictUnroll
import PyProof.Rows.PlainNoArg
import PyProof.LetGo
import PyProof.Rows.StrSplitJoin
import PyProof.Rows.StrSplitAre
import PyProof.CallStr
import PyProof.Conv_int_bool
import KE.KIntText
import PyProof.ForAppend
import PyProof.CallRoads
import PyProof.MeetsSeq
import PyProof.AutoSeq1
import PyProof.ForAny
import PyProof.Raises
import PyProof.RaisesMany
import PyProof.StationsW
import PyProof.ExcBaseAll.ValueError
import PyProof.Rows.TupTab
import PyProof.RulesAs
import PyProof.RulesTry
import PyProof.Rows.TupIter
import PyProof.ObjNew
import PyProof.InstStore
import PyProof.AssignAttr
import PyProof.StrLawsTight
import PyProof.StrLawsIdx
import PySem.Challenge.RW_uf050037_13
set_option Elab.async false
set_option autoImplicit true
set_option bootstrap.genMatcherCode false
set_option genSizeOf false
set_option genInjectivity false
set_option linter.all false

set_option tactic.hygienic false
set_option linter.unusedVariables false
set_option linter.unusedSectionVars false
universe u0 u1 u2 u3 u4 u5 u6 u7 u8 u9 u10 u11
namespace Internal
open PySem.Str renaming join->O5,length->Jaa,length_append->PH,ofString->oD,ofString_eq_toList->U1
open Option renaming bind_eq_some_iff->Uy,bind_some->R8,getD_some->UE,isNone_iff_eq_none->Rn,isSome_iff_exists->Sj,isSome_map->WH,map_eq_some_iff->Rx,map_some->UC,none->NI,none->Qv,some->ti
open _root_ renaming Array->Oe,Bool->OF,Decidable->VP,False->PD,ForInStep->OB,Int->N3,List->uq,Nat->N7,Option->NX,PUnit->YH,StateT->SC,String->If,True->V1,Unit->T6,absurd->N5,beq_eq_false_iff_ne->Pd,beq_iff_eq->Oj,beq_self_eq_true->Pi,bne_self_eq_false->WT,congrArg->PG,decide_eq_decide->R2,decide_eq_false->OC,decide_eq_false_iff_not->QA,decide_eq_true->OA,decide_eq_true_eq->OT,forall_congr'->YD,if_false->PA,if_neg->N0,if_pos->NZ,if_true->Qz,imp_congr_right->XR,liftM->Zv,map_eq_pure_bind->Th,ne_true_of_eq_false->TK,of_decide_eq_false->Qq,of_decide_eq_true->Oy,or_false->WS
open Nat renaming add_assoc->PI,add_comm->Tr,add_le_add->Sx,add_le_add_left->Ob,add_le_add_right->PW,add_le_of_le_sub'->Vm,add_lt_add_left->O9,add_lt_of_lt_sub'->QN,add_right_comm->P6,add_sub_add_left->Vv,add_sub_cancel'->TG,add_sub_cancel_left->Pc,add_sub_of_le->OG,add_zero->Vw,div_add_mod->Xx,div_lt_self->TA,eq_zero_of_le_zero->SO,eq_zero_of_not_pos->Rm,le_add_left->Pa,le_add_right->Os,le_antisymm->PK,le_max_right->RY,le_mul_of_pos_left->QG,le_of_eq->OH,le_of_lt->Oq,le_of_lt_succ->OW,le_of_not_le->Xn,le_of_not_lt->OO,le_of_sub_eq_zero->QO,le_of_succ_le->P3,le_of_succ_le_succ->UV,le_refl->Ow,le_sub_of_add_le->Ql,le_sub_one_of_lt->Px,le_succ->TN,le_succ_of_le->OX,le_total->Zi,le_trans->vc,lt_add_of_pos_right->Qe,lt_irrefl->SH,lt_min->Yn,lt_of_le_of_lt->N4,lt_of_le_of_ne->OK,lt_of_lt_of_le->N2,lt_of_not_le->Rh,lt_of_sub_pos->Tl,lt_of_succ_le->Tk,lt_of_succ_lt->SQ,lt_or_ge->YO,lt_sub_of_add_lt->RZ,lt_succ_of_le->Pv,lt_succ_of_lt->Q2,lt_succ_self->Tf,lt_trans->Rv,max_le->ZN,min_eq_left->QV,min_eq_right->Ri,min_le_left->Py,min_le_right->WY,min_le_right->YN,mul_add->Zk,mul_le_mul_left->Sf,ne_of_gt->Ux,ne_of_lt->PL,not_le_of_lt->UU,not_lt->Wk,not_lt_of_le->P5,not_lt_zero->Vd,pos_of_ne_zero->Rk,pow_le_pow_right->Qp,pow_succ->U9,sub_add_cancel->Rl,sub_eq_zero_of_le->RH,sub_le->TS,sub_le_iff_le_add'->Rj,sub_le_of_le_add->RN,sub_le_sub_left->Ru,sub_le_sub_right->Qm,sub_lt->Uj,sub_lt_left_of_lt_add->Qj,sub_one_lt_of_lt->Tv,sub_pos_of_lt->QJ,sub_right_comm->TU,sub_self->TT,sub_zero->WQ,succ_le_of_lt->Qr,succ_le_succ->O6,succ_lt_succ->WZ,succ_pos->SN,succ_sub_succ->WA,zero_add->PV,zero_le->Pf,zero_max->WD
open Bool renaming and_eq_true->Of,and_eq_true_iff->Qf,eq_false_iff->WW,eq_iff_iff->XQ,false->NY,false_eq_true->OL,false_ne_true->Qo,false_or->Wc,noConfusion->PZ,not_eq_true'->P8,not_not->WI,or_eq_false_iff->RB,or_eq_true->TZ,or_eq_true_iff->V8,or_false->Yu,or_true->U3,true->vj,true_and->YE
open Option.some renaming inj->Gt,injEq->WL
open PySem renaming Addr->Oo,Around->OI,Builtin->RE,Builtin->Ub,Comprehension->V9,Const->Zl,DictEntry->VX,Drawn->Zm,ExceptHandler->Q3,Fin->Jae,Flow->ZE,FuncData->XW,GenState->Vz,Heap->O2,IsRangeIter->Zo,IsTupleKey->XY,JoinOk->YQ,Model->VA,NameKind->OY,Operator->XV,OsState->WG,OwnTail->YS,Program->SS,PyData->N9,Result->W3,Shared->NU,Stmt->Q6,UnaryOp->XT,Value->Lt,allTrue->WJ,argBest->WO,arm_eval_BoolOp->XB,assign->W0,attributeBase->Yy,backTo->Ro,binaryOp->X1,bindArgs->XX,bindC->Xs,bindL->Xq,boolOp->TD,builtinLookup_eq_fast->RI,builtinsNs->T0,cLine->TH,call->Sy,callEnvC->P1,callWith->WM,call_meets->Z3,callerA->YR,cellsFrom->QS,checkBuiltinCall->W4,checkCount->Z1,claimMargin->ZH,closureFor->X3,codeAny->VQ,codeAny_builtin->Ve,codeAny_call_builtin->VB,compPost->X5,eval->Wv,evalEach->VE,excClassObj->PP,excMatches->Z6,execs->Yi,execs_cons->Z8,firstArgMember->Yc,foldedSetIterable->Ue,getItem->U0,intBits_le_64->Yr,intKind->SU,intKind_is->UX,interactive->RT,leaving->Y4,load_attr->YL,lookupAlong->VC,lookupAlong_cons->UA,mainGlobals->PX,method1_meets->Yz,model->Ok,name_of_addr->Y5,newFunctionEnv->SV,noteFrame->UL,notedBy->XU,operate->VR,plainId_quiet->Ur,plainObj_wpAny_Assign_Attribute->Q5,post_val_or_str->XK,pushCells->YG,pushCells_keeps->QT,pyIter->W6,rawInt->SE,recursionLimit->RO,relabel->U2,seqIndex?->VS,setField->Zy,sizeLine->Qw,sizeLine_eq->Pz,slicePick->YF,sliceRange->X2,slot_list_getitem->Uc,spliced->VU,starEach->PE,step->Zr,storeName->Xk,storeName_local->XM,strValues->VY,subscripted->SI,swapsWith->UM,sysModules->T1,truthy->ZP,tupleKind->W2,tupleKind_room_in1->SA,typeIs_str->T3,typeLookup->RP,typeLookup_eq->Ul,typeLookup_type->TC,updateSeq->YI,wpAny->Og,wpAny_Assign_Name->WU,wpAny_Call_NameR->W5,wpAny_Constant_bool->V2,wpAny_Constant_int->Wh,wpAny_Constant_str->Wi,wpAny_Expr_any->S8,wpAny_If->ZF,wpAny_Name->X0,wpAny_Return_some->S7,wpAny_Slice->VF,wpAny_Subscript_Slice->Vt,wpAny_UnaryOp->Wb,wpAny_allTrue_And_cons->UZ,wpAny_allTrue_Or_cons->Vo,wpAny_alloc->Zq,wpAny_assign_Name->SW,wpAny_attempt->We,wpAny_bind->Is,wpAny_call->Z7,wpAny_call_entry->Ti,wpAny_classOwn_exc->Wg,wpAny_comprehension_free->Um,wpAny_dictEntries->WR,wpAny_dictEpoch->XG,wpAny_eqBool_int->W9,wpAny_execs_cons->P0,wpAny_execs_nil->Sw,wpAny_field->Tx,wpAny_getItem_str_slice->UK,wpAny_holding->P4,wpAny_in_heap->Ys,wpAny_in_of->Zn,wpAny_isInstance->Xf,wpAny_isOneOf_keyiter->Vr,wpAny_isSubtype_exc->QE,wpAny_isTrue_BoolOp->V3,wpAny_ite_split->Vi,wpAny_items_cons->Qn,wpAny_items_nil->Sr,wpAny_layCells->X4,wpAny_list_append_plain->UD,wpAny_loadPart_at->O3,wpAny_lt_int->YX,wpAny_mono->Pg,wpAny_mroOf_exc->Xz,wpAny_newList->Ut,wpAny_newObj_type->RL,wpAny_newTuple->Yd,wpAny_pure->Od,wpAny_pyIter_list->WN,wpAny_rule->Z0,wpAny_setField->S4,wpAny_setItem_heap->Ww,wpAny_setItem_pairs->V7,wpAny_standAt->Tn,wpAny_storeName_cell->Tt,wpAny_throw->Zz,wpAny_truthy_bool->Qy,wpAny_typeNameOfWhole_keyiter->Re,wpAny_typeNameOf_keyiter->So,wpAny_typeOf->TQ,wpAny_updateSeq->Vj
open List renaming all->Jal,all_cons->Yt,all_eq_true->Pm,all_map->VV,all_toArray->Xd,any_eq_true->UO,any_map->Y6,append_assoc->Pk,append_eq_nil_iff->S9,append_nil->PU,contains_cons->Tp,countP_append->RG,countP_cons->RS,count_append->Ta,count_cons->XS,count_eq_zero->T5,drop->VW,drop_append->UH,drop_drop->R5,drop_eq_getElem_cons->PM,drop_eq_nil_iff->Tu,drop_eq_nil_of_le->U5,drop_length->QY,drop_of_length_le->Tc,drop_sublist->S0,drop_zero->RF,eq_nil_of_length_eq_zero->PB,filterMap_cons->RQ,filterMap_map->Wl,filter_cons->UP,filter_filter->Wx,find?_cons->XA,find?_some->Sv,findSome?_append->Vu,findSome?_cons->TL,findSome?_eq_none_iff->O1,foldl->X7,foldl_cons->Vf,forIn_cons->Wo,forIn_nil->VI,getElem?_eq_getElem->Oh,getElem?_eq_none->Vs,getElem?_eq_some_iff->O4,getElem?_map->Pp,getElem?_of_mem->QZ,getElem?_zip_eq_some->Sd,getElem_drop->R7,getElem_mem->R4,getElem_of_mem->Q9,getElem_take->TO,isEmpty_iff->Ts,length->VK,length_append->Ox,length_cons->OS,length_drop->PN,length_eraseIdx_le->UN,length_filter_le->QQ,length_map->Oc,length_nil->XD,length_pos_iff->Sh,length_pos_of_mem->SX,length_range->WV,length_reverse->TI,length_singleton->OD,length_take->QX,length_zip->Wt,lookup->ZI,lookup_cons->Pb,map->Yb,mapM_cons->Xc,mapM_nil->X8,mapM_toArray->S2,map_append->Rs,map_congr_left->RU,map_cons->Pe,map_eq_nil_iff->Qx,map_id'->Q0,map_map->U4,map_reverse->Xm,mem_append->Op,mem_append_left->OV,mem_append_right->OU,mem_cons->Ou,mem_cons_of_mem->VN,mem_cons_self->Q4,mem_filter->QB,mem_map->Tm,mem_map_of_mem->V5,mem_of_find?_eq_some->Qk,mem_of_getElem?->PF,mem_of_mem_drop->Ry,mem_of_mem_eraseIdx->Uw,mem_of_mem_take->Qg,mem_range->VT,mem_reverse->Tg,mem_singleton->N1,mem_take_iff_getElem->Ua,mergeSort_nil->Wy,mergeSort_perm->P9,nil_append->Vg,nodup_append->R3,nodup_cons->QC,not_mem_nil->Uh,of_mem_zip->Vk,pairwise_append->Qi,pairwise_cons->Sl,pairwise_iff_getElem->R9,pairwise_map->S5,pairwise_mergeSort->SK,pairwise_singleton->UI,perm_append_comm->QP,perm_cons->VG,range->Sz,reverse->Vb,reverse_append->TJ,reverse_cons->WE,reverse_perm->Uf,reverse_reverse->Tw,size_toArray->OJ,sublist_cons_self->Va,take_append_drop->Pj,take_length->UG,take_nil->Yq,take_of_length_le->Pr,take_sublist->WP,take_succ_eq_append_getElem->SZ,take_zero->VH,zipIdx_cons->W8,zipIdx_nil->Vh,zip_cons_cons->Qs,zip_nil_right->Ws
open PyProof.Rows renaming IntsAre->P2,Keyed->N8,SortKind->SY,SortSt->On,Subscript_->Wj,args_list_sort->Yg,args_sorted1->Y1,arrOf->N6,bubble->ZW,collect_list->Y2,depth_under_make->Xl,entry_list_sort->XJ,entry_sorted->Y0,failedOf->Pq,firstOfTuple'->Wd,get?_update_seq->TF,getElem?_bubble->XC,getElem?_mirror_all->Q7,keyKind'->X9,keyKind'_eq->Zw,keyLt'->ZZ,kind_sorted->ZB,listItems_at->TP,listUpdate_at->Us,list_sort_plain->XI,minRun'->YV,minRun'_succ->YW,mirror->Un,oneLt'->ZY,oneType'->UF,oneTypeOnly'_eq->XF,part_short->SL,pendingOf->OP,plain_sorted->YZ,recsOf->W1,reverseSlice'->Tq,seqEpoch_at->VJ,seqObj->O7,setArr->X6,setPending->ZX,size_push'->Z2,slot_list_sort->Ye,sortRuns'->W7,split_weight->T9,sub_short->U7,subscriptTail->RD,tail_any->WK,tuples'->YY,valAt->Jab,wpS_bind->Oa,wpS_forRange->Qa,wpS_get->Su,wpS_modify->SD,wpS_mono->QF,wpS_pure->Ol
open PySem.Heap renaming SameBut->Pn,clsAt_spec->Xy,get?_none_of_le->PY,get?_push_ne->S6,get?_push_of_some->Oi,get?_push_size->Ov,get?_update_ne->V4,get?_update_other->OZ,get?_update_self->PQ,lt_size->QW,size_push->SJ,size_update->Xh
open Array renaming eraseIdxIfInBounds->Uo,getElem?_eq_getElem->QR,getElem?_eq_some_iff->Qd,getElem?_toList->RJ,getElem_extract->Vp,getElem_mem->Qh,length_toList->Om,mem_def->Yw,mem_toList_iff->T2,perm_iff_toList_perm->QK,size_extract->Wp,size_zip->ZA,toList_append->O8,toList_inj->Wr,toList_map->Xg,toList_push->Rc,toList_reverse->S1
open Int renaming add_le_add_left->VZ,add_lt_add_left->V0,add_nonneg->Rf,add_sub_cancel->Wf,emod_lt_of_pos->O0,emod_nonneg->OQ,eq_ofNat_of_zero_le->UR,le_antisymm->TB,le_of_eq->US,le_of_lt->QU,le_refl->Vy,le_trans->ON,lt_of_le_of_lt->Rg,lt_of_lt_of_le->PC,lt_succ->Xo,lt_trans->SP,mul_lt_mul_of_pos_left->T4,mul_nonneg->Ym,natCast_nonneg->Ot,natCast_pos->Vc,ne_of_gt->TM,not_le->Vx,not_lt->Q1,ofNat_le->PJ,ofNat_lt->Qu,self_le_toNat->WC,sub_le_self->Xw,sub_neg->Zj,toNat_le->YM,toNat_lt->WB,toNat_natCast->RM,toNat_of_nonneg->Ph,toNat_sub->Yp
open PySem.PyData renaming canLay0->VD,canLayAll0->Ui,depth->UY,depthAll->Sq,eqv->P7,eqvAll->Qt,int->Oz,str->Wz
open Or renaming elim->OE
open PySem.Obj renaming cls_mapFields->Ug,data_mapFields->Rq,isFreed_of_fields->Te,mapFields->Sp,mapSeq->OM,putName->Xp
open PySem.Value renaming bool->ZO,builtin->Uk,int->Jaf,none->Rp,ref->OR,type->QL
open Pure renaming pure->Pu
open PySem.Heap.SameBut renaming update->PO
open PySem.NameKind renaming cell->To,free->PR
open List.cons renaming inj->PS,injEq->Jai
open Ne renaming symm->PT
open ForInStep renaming yield->QD
open PySem.Builtin.List renaming listExtendWith->QI,listFitsIndex->Yk,listItems->QH,listLengthHint->TR,listSameRef->Uq,listUpdate->UJ
open PySem.StrLaws renaming At->RX,glued_eq_join->Zf,join_length_le->Y7,join_split->QM,occ_head->Tj,part_free->WX,partsBetween_eq->UQ,partsFrom_ne->ZJ,sliceText_from->Y8,sliceText_to->ZK,split_free->Z9,strSub_toList->Ze
open PySem.Builtin.Str renaming occurrences->Q8,occurrences->Tz,partsBetween->YA,strKind->Sg,strSliceIndices->Vl,strSub->Rt,strSub->Z4
open Classical renaming byContradiction->T7,epsilon->WF,epsilon_spec->UW,propDecidable->Ra
open PySem.Challenge renaming rw_uf050037_13->Rb
open PySem.F renaming args_list_init_2->Yv,attrBase_ValueError->Vn,called_list->ZM,entry_list_init->YK,excBase_ValueError->RW,plainAttrs_str->Xi,plain_extend_loop->T8,slot_dict_iter->Xe,slot_dict_keyiterator_next->Rz,slot_dict_len->Zd,slot_gs_get->Wa,slot_list_lt->Yh,slot_list_pop->XO,slot_str_getitem->Wu,slot_str_partition->VM,slot_str_split->Xj,store_object->ZG,typeCall_list_1->YJ,typeOf_object_class->Td
open PySem.Txt renaming find->SR,join->TY,partition->RC,slice->R1,slice_le->U6
open Inhabited renaming default->RK
open PySem.Builtin renaming bitXor->TV
open ForIn renaming forIn->Ud
open List.Pairwise renaming imp->Jad,imp_of_mem->Uu,nil->Jac
open PySem.MeetsSeq3 renaming entry_eq_loop->Yx,plain_eq_loop->Uv
open ToString renaming toString->Uz
open PySem.Builtin.Range renaming rangeSize->UB
open Eq renaming symm->UT
open PySem.Code renaming builtin->U8
open PySem.Builtin.Dict renaming dictSlotNone->Yo,showsAll->Vq
open PySem.Around renaming frames_deeper->VO,under_plainId->VL
open PySem.EntryCells renaming newEntry->V6
open Char renaming toNat->Wm
open PyProof.Rows.SortSt renaming mk'->Wq
open PySem.Within renaming cons->Xu,nil->Yl
open PySem.W.OpenLaw renaming row->Xv
open List.Perm renaming of_eq->XE,trans->Jaj
open PySem.Builtin.Dict_items renaming ownsTuple->XH
open PySem.Env renaming kindOf->XZ
open PySem.MeetsSeq renaming list_pop_at->Yj
open PySem.Expr renaming ListComp->YB
open Function renaming comp->YC
open PyProof renaming noPylong_small->YT
open PySem.IsiPair renaming NoneType_bool->Zb,NoneType_int->Zt,NoneType_list->Zc,NoneType_str->Zu,NoneType_tuple->YU,bool_tuple->ZU,list_tuple->ZV,tuple_bool->ZS,tuple_list->ZT,tuple_tuple->ZL
open PySem.AutoSeq1 renaming sub_list_list->Y3
open List.Sublist renaming countP_le->Y9,count_le->Zg
open PySem.P renaming getItem_tuple->Za,str_of_int->Z5
open OfNat renaming ofNat->Zh
open PySem.IsRange renaming new->Zp
open PySem.Heap.Ns renaming new->Zs
open PySem.W.KIN renaming call_num->ZC
open PySem.Heap.IsSliceOf renaming new->ZQ
open PySem.Walks renaming list->ZR
open PySem.DictEntry renaming refKey->Jag
open PySem.Heap.DictOf renaming new->Jah
open Array.Perm renaming refl->Jak
open PySem.Value.ref renaming inj->Jam
section
open Nat (add_lt_of_lt_sub le_min mul_two one_pos sub_sub two_mul)
theorem nLe {x n:N7}(h:(x:N3)<=@Zh N3 n instOfNat):x<=n:=PJ.mp h
theorem nLm {x n:N7}(h:x<=n):(x:N3)<=@Zh N3 n instOfNat:=PJ.mpr h
theorem lte {a b c:N7}(h:a<c) (e:b=c):a<b:=e▸h
theorem lee {a b c:N7}(h:a<=c) (e:b=c):a<=b:=e▸h
theorem elt {a b c:N7}(e:a=c) (h:c<b):a<b:=e▸h
theorem ele {a b c:N7}(e:a=c) (h:c<=b):a<=b:=e▸h
theorem jle {a b c:N3}(e:a=c) (h:c<=b):a<=b:=e▸h
theorem nn {x:N3}{n:N7}(e:x = ↑n):0<=x:=e▸Ot n
theorem m9 {x:N3}{n:N7}(h:7+x/9%3 = ↑n):n<=9:=by lia
theorem m18 {x:N3}{n:N7}(h:7+x%12 = ↑n):n<=18:=by lia
theorem m12 {x:N3}{n:N7}(h:7+x%6 = ↑n):n<=12:=by lia
theorem m4 {x:N3}{n:N7}(h:1+x%4 = ↑n):n<=4:=by lia
theorem m5 {x:N3}{n:N7}(h:x%6 = ↑n):n<=5:=by lia
theorem p9 {x y:N3}(h:1+x/3%9=y):0<y:=by lia
theorem q9 {x y:N3}(h:1+x/3%9=y):y<=9:=by lia
theorem r9 {x y:N3}(h:x/27%9=y):0<=y:=by lia
theorem dbl {a b:N7}(h:a<=b):a+a<=b*2:=by lia
theorem tlt {x:N3}{n:N7}(h0:0<n) (h:x < ↑n):x.toNat<n:=by lia
theorem tln {x:N3}{n:N7}(h0:0<=x) (h:x < ↑n):x.toNat<n:=by lia
theorem nxl {a b c:N7}(h:a+b<c):a<c:=N4 (Os a b) h
theorem nxe {a b c:N7}(h:a+b<=c):a<=c:=vc (Os a b) h
theorem adl {a b c d:N7}(h:b<c) (g:a+c<=d):a+b<d:=N2 (O9 h a) g
theorem adE {a b c d:N7}(h:b<=c) (g:a+c<=d):a+b<=d:=vc (Ob h a) g
theorem pQ {a b c:N7}(h:a<c):a-b<c:=N4 (TS a b) h
theorem K7 {a b c:N7}(h:a<=c):a-b<=c:=vc (TS a b) h
theorem mne {a b c:N7}(h:b<=c):min a b<=c:=vc (WY a b) h
theorem mnl {a b c:N7}(h:a<=c):min a b<=c:=vc (Py a b) h
theorem vlo{a b c:N7}:a<=a+b-(a+b-(a+c)):=Ql (Ob (vc (OH (Vv a b c)) (TS b c)) a)
theorem pl {a b:N7}(p:0<a) (h:a<b+1):a-1<b:=N2 (Nat.sub_one_lt (Ux p)) (OW h)
theorem sl {a b:N7}(h:1<=b):a+b-1<a+b:=Uj (N2 h (Pa _ _)) Nat.one_pos
theorem ts {a b:N7}{x:N3}(e:x = ↑b):((a:N3)-(x+1)).toNat=a-(b+1):=by subst e; exact Yp a (b+1)
theorem r9b {x y:N3}(h:x/27%9=y):y<=8:=h▸Int.le_of_lt_add_one (O0 _ (by decide))
theorem rm1 {u k c:N7}{b:Prop} [VP b] (h:u+100*k+(if b then 200 else 300)<c):u+1<c:=N4 (Sx (Os u _) (by split<;>decide)) h
theorem na1 {a:N3}(h:a.natAbs<2^63):-2^64<a:=by lia
theorem na2 {a:N3}(h:a.natAbs<2^63):a<2^64:=by lia
theorem wle {a b:N7}(h:1<=b) (e:0+a+(b-a)-1=b-1):a<=b:=(Nat.le_total a b).elim id λg=>by rw[PV,RH g,Vw] at e; exact OH (Nat.sub_one_cancel (N2 h g) h e)
theorem hf (n:N7):n/2<=n-1:=by
 cases n with
 | zero=>exact Ow _
 | succ n=>exact OW (TA (SN n) (by decide))
variable {a b c d e f:N7}
variable {a b c d e f:N7}
variable {a b c d e f:N7}
theorem la1{a:N3}{b:N7}:0<=a->a<b->a.toNat<b:=λp q=>tln p q
theorem la2{a:N7}:0<a->(↑a:N3)≠(0:N3):=λp=>TM (Vc.mpr p)
theorem la3{a:N7}:0<a->(0:N3)<(↑a:N3):=λp=>Vc.mpr p
theorem la4{a:N3}{b:N7}:0<b->a%b<b->(a%(↑b:N3)).toNat<b:=λp q=>tlt p q
theorem la5{a b c:N3}:c<=b->0<=a/\a<c->a<b:=λp q=>PC q.2 p
theorem la6{a b c:N3}:c<=b->0<=a/\a<c->0<=a/\a<b+1:=λp q=>And.intro q.1 (PC q.2 (ON p (QU (Xo _))))
theorem la7{a b:N3}:0<=b->b<=a->0<=a/\a<a+1:=λp q=>And.intro (ON p q) (Xo _)
theorem la8{a b c:N3}:c<=b->0<=a/\a<c->0<=a/\a<b:=λp q=>And.intro q.1 (PC q.2 p)
theorem la9:b=a+(c+1)->a<b:=λp=>lte (Qe (SN _)) p
theorem KC:a<=7->a<=1000000:=λp=>vc p (by decide)
theorem DO:b<=7->a<b->a<=6:=λp q=>OW (N2 q p)
theorem KW:b<=7->c<b->a<=c->a+1<=1000000:=λp q r=>vc (vc (Qr (N4 r q)) p) (by decide)
theorem Ky:a<=b->b<=2^6->a+a<=1000000:=λp q=>vc (dbl (vc p q)) (by decide)
theorem CW:a<=b->a+a<=b*2:=λp=>dbl p
theorem DM{a:N7}:(↑a:N3)<=(↑(a+(1:N7)):N3):=PJ.mpr (Os _ _)
theorem CO{a:N7}{b:N3}:b=a->a<=b:=λp=>US (UT p)
theorem Dt{a:N3}{b:N7}:a=b->a+1<=(↑(b+(1:N7)):N3):=λp=>US (by rw[p]; rfl)
theorem x7:a<a+(b+1):=Qe (SN _)
theorem KR:a=b->b<=2^6->a+a<=1000000:=λp q=>vc (dbl (ele p q)) (by decide)
theorem La:a=b->a+a=b*2:=λp=>by rw[p,mul_two]
theorem LS:a<=5->a<=1000000:=λp=>vc p (by decide)
theorem KF:b<=5->a<b->a<=5:=λp q=>vc (Oq q) p
theorem CQ:b<=5->c<b->a<=c->a+1<=1000000:=λp q r=>vc (vc (Qr (N4 r q)) p) (by decide)
theorem Le:a<=b->b<=2^5->a+a<=1000000:=λp q=>vc (dbl (vc p q)) (by decide)
theorem K2{a:N7}{b:N3}:b=a->2*a<=2*b:=λp=>US (by rw[p])
theorem LO{a:N3}{b:N7}:a=b->2*a+1<=2*(↑(b+(1:N7)):N3):=λh=>by rw[h,Int.natCast_succ,Int.mul_add]; exact VZ (by decide) _
theorem LL{a:N7}{b:N3}:b=a->2*a<=2*b+1:=by intro p; lia
theorem KD{a:N3}{b:N7}:a=b->2*a+1+1<=2*(↑(b+(1:N7)):N3):=by intro p; lia
theorem KL{a:N3}:a%(6:N3)=(↑(a%(6:N3)).toNat:N3):=UT (Ph (OQ _ (by decide)))
theorem LD{a:N7}{b:N3}:b%6=a->a<=1000000:=λp=>vc (m5 p) (by decide)
theorem Dg{a:N3}{b:N7}:0<=a/\a<b->0<=6+a:=λp=>Rf (by decide) p.1
theorem CJ{a:N7}:a<=6->(↑a:N3)<=(99:N3):=λp=>ON (PJ.mpr p) (by decide)
theorem LY{a:N7}{b:N3}:b%6=a->a<=62:=λp=>vc (m5 p) (by decide)
theorem CY:b<=6->a<=b->a<=12:=λp q=>vc q (vc p (by decide))
theorem LM{a:N3}:(7:N3)+a/(9:N3)%(3:N3)=(↑((7:N3)+a/(9:N3)%(3:N3)).toNat:N3):=(Ph (Rf (by decide) (OQ _ (by decide)))).symm
theorem KY{a:N7}{b:N3}:7+b/9%3=a->a<=1000000:=λp=>vc (m9 p) (by decide)
theorem Lk{a:N3}{b:N7}:a=b->0<=a+1:=λp=>Rf (nn p) (by decide)
theorem L6{a b:N3}{c d:N7}:7+b/9%3=c->a=d->d<c->a+1<=1000:=λp q r=>by subst q; exact PJ.mpr (vc r (vc (m9 p) (by decide)))
theorem KM{a:N7}{b:N3}:7+b/9%3=a->(↑a:N3)<=(1000:N3):=λp=>ON (PJ.mpr (m9 p)) (by decide)
theorem Kr{a:N7}{b:N3}{c:N7}:7+b/9%3=c->a<c->a<=9:=λp q=>vc (Oq q) (m9 p)
theorem L8{a b:N7}{c d:N3}{e f:N7}:7+d/9%3=b->a<=e->c=f->e<=36->a+((↑b:N3)-(c+(1:N3))).toNat<=(1000000:N7):=λp q r s=>vc (Sx (vc q s) (vc (OH (ts r)) (vc (TS _ _) (m9 p)))) (by decide)
theorem Lh{a b:N7}{c:N3}{d e:N7}{f:N3}:7+f/9%3=b->a<=d->c=e->a+((↑b:N3)-(c+(1:N3))).toNat<=d+((8:N7)-e):=λp q r=>Sx q (vc (OH (ts r)) (vc (Qm (m9 p) _) (OH (WA 8 _))))
theorem KZ{a:N3}{b:N7}:a<a+1+b:=PC (Xo a) (Int.le_add_of_nonneg_right (Ot b))
theorem L0{a:N3}{b c:N7}:c<b->a=c->0<=a/\a<b:=λp q=>by subst q; exact ⟨Ot _,Qu.mpr p⟩
theorem Lj{a:N3}{b c d:N7}:a=d->b<((↑c:N3)-(a+(1:N3))).toNat->0<=a+1+b/\a+1+b<c:=λp q=>And.intro (Rf (Rf (nn p) (by decide)) (Ot _)) (by subst p; exact Qu.mpr (QN (Nat.lt_of_lt_of_eq q (ts rfl))))
theorem KT{a:N7}{b:N3}:7+b/9%3=a->a<=9:=λp=>m9 p
theorem K3{a:N7}{b:N3}:7+b/9%3=a->(↑a:N3)<=(99:N3):=λp=>ON (PJ.mpr (m9 p)) (by decide)
theorem Lc:a<=b->b<=36->a<=62:=λp q=>vc p (vc q (by decide))
theorem LJ{a:N7}:(0:N3)<(↑a:N3)+(1:N3):=Int.lt_add_one_of_le (Ot _)
theorem Ko{a:N3}{b:N7}:b=7->(a/(9:N3)%(7:N3)).toNat<b:=λp=>p▸(WB (OQ _ (by decide))).mpr (O0 _ (by decide))
theorem Md{a b:N3}:0<=a/\a<=b->a=(↑a.toNat:N3):=λp=>UT (Ph p.1)
theorem KJ{a b:N3}:0<=a/\a<=b->(↑a.toNat:N3)<=b:=λp=>jle (Ph p.1) p.2
theorem Kq{a:N3}:(1:N3)+a%(4:N3)=(↑((1:N3)+a%(4:N3)).toNat:N3):=(Ph (Rf (by decide) (OQ _ (by decide)))).symm
theorem KP{a:N7}:a<=63->¬(63:N3)<(↑a:N3):=λp=>Q1.mpr (nLm p)
theorem Ku{a:N7}{b:N3}:1+b%4=a->a<=5:=λp=>vc (m4 p) (by decide)
theorem LF{a:N7}{b:N3}:1+b%4=a->(2:N3)*(↑a:N3)<=(99:N3):=λp=>PJ.mpr (vc (Sf 2 (m4 p)) (by decide))
theorem K1:a<=32->a<=62:=λp=>vc p (by decide)
theorem Ly{a:N7}{b:N3}{c:N7}:1+b%4=c->a<=c->a<=12:=λp q=>vc q (vc (m4 p) (by decide))
theorem Ln{a:N7}:(↑a:N3)<=(6:N3)->a<=6:=λp=>nLe p
theorem CX{a:N7}:(↑a:N3)<=(7:N3)->a<=1000000:=λp=>vc (nLe p) (by decide)
theorem Ma{a b:N7}:(↑b:N3)<=(7:N3)->a<b->a<=6:=λp q=>OW (N2 q (nLe p))
theorem L7{a b c:N7}:(↑b:N3)<=(7:N3)->c<b->a<=c->a+1<=1000000:=λp q r=>vc (O6 r) (vc q (vc (nLe p) (by decide)))
theorem Li:a<=c->c<=2^6->b<=a->a+b<=1000000:=λp q r=>vc (Sx (vc p q) (vc r (vc p q))) (by decide)
theorem LP:a<=c->b<=a->a+b<=c*2:=λp q=>adE q (dbl p)
theorem DJ{a:N7}:(↑a:N3)<=(7:N3)->a<=7:=λp=>nLe p
theorem KQ{a:N3}{b c:N7}:b=c->0<=a/\a<c->0<=a/\a<b:=λp q=>p▸q
theorem K8{a b:N7}:(↑b:N3)<=(7:N3)->a<=b->a<=7:=λp q=>vc q (nLe p)
theorem LX:a<=b->b<=62->a<=62:=λp q=>vc p q
theorem Mb{a:N7}:(↑a:N3)<=(7:N3)->(↑a:N3)<=(99:N3):=λp=>ON p (by decide)
theorem Lf{a b:N7}:(↑b:N3)<=(7:N3)->a<=b->a<=12:=λp q=>vc q (vc (nLe p) (by decide))
theorem LA{a b c d:N3}:b*c<b*d->a+b*c<a+b*d:=λp=>V0 p _
theorem KX{a b c d:N3}:0<=a->0<=b*c->b*c<b*d->0<=a+b*c/\a+b*c<a+b*d:=λp q r=>And.intro (Rf p q) (V0 r _)
theorem Lr{a b:N7}:a<b->(↑a:N3)<(↑b:N3):=λp=>Qu.mpr p
theorem LH{a:N3}:(7:N3)+a%(12:N3)=(↑((7:N3)+a%(12:N3)).toNat:N3):=(Ph (Rf (by decide) (OQ _ (by decide)))).symm
theorem KK{a:N7}{b:N3}:7+b%12=a->a<=1000000:=λp=>vc (m18 p) (by decide)
theorem Kt{a:N3}:0<1+a/12%4:=PC (by decide) (VZ (OQ _ (by decide)) 1)
theorem KV{a:N7}{b:N3}:7+b%12=a->(↑a:N3)<=(99:N3):=λp=>ON (PJ.mpr (m18 p)) (by decide)
theorem KA{a:N7}{b:N3}{c:N7}:7+b%12=c->a<=c->a<=62:=λp q=>vc q (vc (m18 p) (by decide))
theorem DC{a:N3}{b:N7}:0<=a/\a<b->0<=a/\a<b:=by intro p; omega
theorem Lq{a:N3}:(7:N3)+a%(6:N3)=(↑((7:N3)+a%(6:N3)).toNat:N3):=(Ph (Rf (by decide) (OQ _ (by decide)))).symm
theorem C2{a:N7}{b:N3}:7+b%6=a->a<=1000000:=λp=>vc (m12 p) (by decide)
theorem LI{a:N7}{b:N3}:7+b%6=a->(↑a:N3)<=(99:N3):=λp=>ON (PJ.mpr (m12 p)) (by decide)
theorem Kw{a:N7}{b:N3}:7+b%6=a->a<=62:=λp=>vc (m12 p) (by decide)
theorem Ks{a:N7}{b:N3}{c:N7}:7+b%6=c->a<=c->a<=12:=λp q=>vc q (m12 p)
theorem Ls{a:N3}:¬9<a->a<=9:=λp=>Q1.mp p
theorem LB{a:N7}:¬(8:N3)<(↑a:N3)->a<=8:=λp=>nLe (Q1.mp p)
theorem LK:b<=8->a<b->a<1000000:=λp q=>N2 q (vc p (by decide))
theorem Lu{a b:N3}:1+b/3%9=a->0<=a:=λp=>QU (p9 p)
theorem Lw{a b:N3}:1+b/3%9=a->a<=9:=λp=>q9 p
theorem L5{a b c d:N3}:d/27%9=a->0<=b*c->0<=a+b*c:=λp q=>Rf (r9 p) q
theorem LC{a b c d:N3}:d/27%9=a->b*c<=9*9->a+b*c<=99:=λp q=>ON (Int.add_le_add (r9b p) q) (by decide)
theorem K4:a<=8->a<=62:=λp=>vc p (by decide)
theorem Kz:a<=12->a<=12:=by intro p; omega
theorem LV{a b:N3}:b/27%9=a->0<=a:=λp=>r9 p
theorem LG{a b:N3}:1+b/3%9=a->0<a:=λp=>p9 p
theorem qv:a<=1000->a<=1000000:=λp=>vc p (by decide)
theorem Ds:b<=1000->a<=b->a<=1000000:=λp q=>vc q (vc p (by decide))
theorem Ac:a<=b->a<=b+1:=λp=>OX p
theorem o8:a<=b->a+1<=b+1:=λp=>O6 p
theorem GA:b<=1000->a<b->a<=1000:=λp q=>vc (Oq q) p
theorem Fa{a b:N3}:0<=a/\a<b->a<0->False:=λp q=>N5 q (Q1.mpr p.1)
theorem IP{a b:N3}:0<=a/\a<b->b<=a->False:=λp q=>N5 p.2 (Q1.mpr q)
theorem AH{a b:N3}:a<=b->b<=a->a=b:=λp q=>TB p q
theorem Hw{a:N3}:0<=a->a=(↑a.toNat:N3):=λp=>UT (Ph p)
theorem J0{a:N7}:(↑a:N3)<=(99:N3)->a<=1000:=λp=>vc (nLe p) (by decide)
theorem ET{a:N3}{b:N7}:0<=a/\a<b->a=(↑a.toNat:N3):=λp=>UT (Ph p.1)
theorem Gw{a b:N7}:(↑b:N3)<=(99:N3)->(0:N3)<=(↑a:N3)/\(↑a:N3)<(↑b:N3)->a<=1000:=λp q=>vc (nLe (ON (QU q.2) p)) (by decide)
theorem Fr{a:N7}:(↑a:N3)<=(99:N3)->a<=1000000:=λp=>vc (nLe p) (by decide)
theorem Il{a:N7}:(↑a:N3)=(0:N3)->a=0:=λp=>SO (PJ.mp (jle p (by decide)))
theorem EN:a<=63->a<=1000:=λp=>vc p (by decide)
theorem Fm:b<=63->a<=b->a<=1000000:=λp q=>vc q (vc p (by decide))
theorem GS:b<=63->a<=b->a<64:=λp q=>N4 q (N4 p (by decide))
theorem Gq{a b:N3}{c:Prop}:¬(a<0\/b<=a\/c)->0<=a/\a<b:=λp=>And.intro (Q1.mp λg=>p (.inl g)) (Vx.mp λg=>p (.inr (.inl g)))
theorem EM:a<=b-1->0<b->a+1<=b:=λp q=>Qr (N4 p (Uj q (by decide)))
theorem Hy:b=a->a<=b:=λp=>OH (UT p)
theorem Js{a:N7}:a<=1000000->((↑a:N3)-(0:N3)).toNat<=(1000000:N7):=λp=>YM.mpr (ON (Xw _ (Vy 0)) (PJ.mpr p))
theorem JO:-(2:N3)^(60:N7)<=(0:N3):=by decide
theorem Hx:(0:N3)<(2:N3)^(60:N7):=by decide
theorem Ka{a:N7}:-(2:N3)^(60:N7)<=(↑a:N3):=by lia
theorem Gz{a:N7}:a<=1000000->(↑a:N3)<(2:N3)^(60:N7):=λp=>Rg (PJ.mpr p) (by decide)
theorem IV{a b:N7}:a<b->(0:N3)<=(↑a:N3)/\(↑a:N3)<(↑b:N3):=λp=>And.intro (Ot _) (Qu.mpr p)
theorem JE{a:N3}:0<=a->(↑a.toNat:N3)=a:=λp=>Ph p
theorem zw{a:N3}{b:N7}:a.toNat<b->a<b:=λp=>Rg (WC _) (Qu.mpr p)
theorem GF{a:N3}:0<a->¬a=0:=λp=>TM p
theorem Aa{a:N3}:0<a->0<=a:=λp=>QU p
theorem AO{a b c:N3}:a<=c->c<=b->a<=b:=λp q=>ON p q
theorem z7{a b:N3}:a<=b\/b<=a:=Int.le_total _ _
theorem HX{a b:N3}:0<=b->a<=1000->(a-b).toNat<=(1000000:N7):=λp q=>YM.mpr (ON (Xw _ p) (ON q (by decide)))
theorem zZ{a:N3}:0<=a->-(2:N3)^(60:N7)<=a:=by intro p; lia
theorem Ad{a:N3}:a<=1000->a<(2:N3)^(60:N7):=λp=>Rg p (by decide)
theorem Kj{a:N3}{b:N7}:0<=a->a<b->a<0\/b<=a->False:=λp q r=>r.elim (λg=>Q1.mpr p g) (λg=>Vx.mpr q g)
theorem E5{a:N7}:(0:N3)<(↑(a+(1:N7)):N3):=Vc.mpr (SN _)
theorem IS{a:N7}:(1:N3)<(↑(a+(1:N7)+(1:N7)):N3):=Qu.mpr (WZ (SN _))
theorem Gn{a:N7}:(2:N3)<(↑(a+(1:N7)+(1:N7)+(1:N7)):N3):=by lia
theorem zv:a+d<=c->b<d->a+b<c:=λp q=>adl q p
theorem Ef:a<=c->a-b<=c-0:=λp=>vc (Ru (Pf _) _) (Qm p _)
theorem JK:a<=b->¬a=b->a<b:=λp q=>OK p q
theorem Fv:a<=b->¬a=b->a+(b-a)/2+1<=b:=λp q=>N2 (O9 (TA (QJ (OK p q)) (by decide)) a) (OH (OG p))
theorem J6:a-b<=c-d->a-(b+(a-b)/2+1)<=c-(d+1):=λp=>Qm (vc (vc (OH (sub_sub _ _ _).symm) (TS _ _)) p) 1
theorem HL:a<b+(c-b)/2+1->a<=b+(c-b)/2:=λp=>OW p
theorem Jj:a<=b->b<=c->¬a=b->a+(b-a)/2<c:=λp q r=>N2 (N2 (O9 (TA (QJ (OK p r)) (by decide)) a) (OH (OG p))) q
theorem JJ:a<=a+(b-a)/2:=Os _ _
theorem Hv:a<=b->b<=c->a+(b-a)/2<=c:=λp q=>vc (Ob (Nat.div_le_self _ _) _) (vc (OH (OG p)) q)
theorem I8:b-a<=c-d->a+(b-a)/2-a<=c-(d+1):=λp=>by rw[Pc,<- sub_sub]; exact vc (hf _) (Qm p 1)
theorem Gi:a<=b->b-a<=c-max 0 c->a=b:=λp q=>PK p (QO (Nat.le_zero.mp (by rw[WD,TT] at q; exact q)))
theorem z3:0<1:=by decide
theorem IW:a<b->a+0<b:=by intro p; omega
theorem A2:0+1<=1:=by decide
theorem AD:¬b≥c-a->a+b<c:=λp=>QN (Rh p)
theorem zM{a:N7}:a<2*a+1:=Pv (QG a (by decide))
theorem A5{a b:N7}:a+1<=b->a+1+1<=2*b+1:=λh=>O6 (vc h (QG b (by decide)))
theorem Gv:max 0 a+1<=c->a-b<=c:=λp=>vc (OX (K7 (RY _ _))) p
theorem FZ:b<c->a+b<d->a+b+1<=a+min c (d-a):=λp q=>Ob (le_min.mpr ⟨p,RZ (Tr a b▸q)⟩) a
theorem Hr:a<c->a+min b (c-a)<=c:=λp=>vc (Ob (YN _ _) _) (OH (OG (Oq p)))
theorem Fq:a<b+c+1->a<=b+c:=λp=>OW p
theorem F3{a:Prop}{b c d e:N7}:b+min c (d-b)<=e->e<d->d-b<=c->a:=λp q r=>by rw[Ri r] at p; exact N5 (vc (Rj.mp (Ow _)) p) (UU q)
theorem Gu:a+min b (d-a)<=c->c<d->a+b<=c:=λp q=>(Zi b (d-a)).elim (λg=>by rw[QV g] at p; exact p) (λg=>by rw[Ri g] at p; exact N5 (vc (Rj.mp (Ow _)) p) (UU q))
theorem zp:a<b->¬a≥b:=λp=>UU p
theorem zI:a<b->b<=c->a+(b-a)/2<c:=λp q=>N2 (N2 (O9 (TA (QJ p) (by decide)) a) (OH (OG (Oq p)))) q
theorem GH:0<=a:=Pf _
theorem zO:a<c->a-b<c:=λp=>pQ p
theorem zV:¬a≥b+1->a<=b:=λp=>OW (Rh p)
theorem F9:a<c->max 0 c+1<=b->a+1<=b:=λp q=>vc p (vc (RY 0 c) (P3 q))
theorem HT:a<c->a-b<=c:=λp=>Oq (pQ p)
theorem Jz:a+1<=b->a+1-min b (a+1)<=a-c:=λp=>by rw[Ri p,TT]; exact Pf _
theorem GN:c<b->a+1-min b (a+1)<=a-c:=λp=>(Zi b (a+1)).elim (λg=>by rw[QV g]; exact vc (Ru p _) (OH (Nat.add_sub_add_right a 1 c))) (λg=>by rw[Ri g,TT]; exact Pf _)
theorem JS{a:Prop}{b c d:N7}:b<c+1-min d (c+1)->c+1<=d->a:=λp q=>by rw[Ri q,TT] at p; exact N5 p (Vd _)
theorem F2{a b c:N7}:a<b+1-min c (b+1)->a<=b-c:=λp=>(Zi c (b+1)).elim (λg=>Ql (OW (add_lt_of_lt_sub (by rw[QV g] at p; exact p)))) (λg=>N5 (by rw[Ri g,TT] at p; exact p) (Vd _))
theorem AL:a<=b+c->¬a=b+c->a<=b+c-1:=λp q=>Px (OK p q)
theorem uJ:1<=b->a+b-1<a+b:=λp=>sl p
theorem zW:a<b+(c+1)->¬a=b+c->a<b+c:=λp q=>OK (OW p) q
theorem Ik:a<=c/\c<b->a<=a+b-1-c:=λp=>Ql (Px (O9 p.2 _))
theorem Iq:a<=c/\c<b->a+b-1-c<b:=λp=>N4 (Ru p.1 _) (by rw[TU,Pc]; exact Uj (N4 (Pf _) p.2) one_pos)
theorem ER:d<=a->c<=f->b<d\/f<=b->¬(a<=b/\b<c):=λp q r=>λe=>r.elim (λg=>P5 (vc p e.1) g) (λg=>P5 (vc q g) e.2)
theorem Fb:a+d<=c->b<=d->a+b<=c:=λp q=>adE q p
theorem E9:c<a+b->a<=a+(a+b)-1-c:=λp=>Ql (Px (O9 p _))
theorem Ic:d<=c->a+(a+b)-1-c<=a+(a+b)-1-d:=λp=>Ru p _
theorem IA:1<=b->a<=c->a+(a+b)-1-c<a+b:=λp q=>N4 (Ru q _) (by rw[TU,Pc]; exact sl p)
theorem JB:max a b<=b->max a b=b:=λp=>PK p (RY _ _)
theorem zl:c+1-(0+1)<=b->b<c+1->a+b=a+(c+1)-1:=λp q=>PG (_ + ·) (PK (OW q) p)
theorem pg:a+d<=e->b<d->c=e->a+b<c:=λp q r=>lte (adl q p) r
theorem z4:a+d<=e->b<d->c=e->a+b-1<c:=λp q r=>lte (pQ (adl q p)) r
theorem zt:a+d<=e->b<d->c=e->a+b<=c:=λp q r=>Oq (lte (adl q p) r)
theorem zm:c+1<=b->a<=a+b-(c+1):=λp=>Ql (Ob p _)
theorem Aw:d+a-(b+1)<=c->a-(b+1)<=c-d:=λp=>RN (Nat.le_of_add_le_add_left (vc (Nat.le_add_of_sub_le p) (vc (PW (Rj.mp (Ow _)) _) (OH (PI _ _ _)))))
theorem Ae:d+1<=c->a<b+c->a-b<c:=λp q=>(YO a b).elim (λg=>N4 (OH (RH (Oq g))) (N2 (SN _) p)) (λg=>Qj g q)
theorem AF:c+1<=d->a+d-(c+1)<=b->a+(b-a)=b:=λp q=>OG (vc (Ql (Ob p _)) q)
theorem Jk:¬b<a->¬a<b->a=b:=λp q=>PK (OO p) (OO q)
theorem Hn:a+(b+1)-1=a+b:=by rfl
theorem Jm:a+1-(b+1+1)<=c->a-(b+1)<=c:=λp=>WA _ _▸p
theorem H9:a<b+1->¬a=b->a<b:=λp q=>OK (OW p) q
theorem Hb:max (a+1) b<=b->max (a+1) b=b:=λp=>PK p (RY _ _)
theorem Aj:a+d<=e->b<=d->c=e->a+b<=c:=λp q r=>lee (adE q p) r
theorem uP:a+b<=d->c=d->a+b<=c:=λp q=>lee p q
theorem EF:b+1<=a->1<=a:=λp=>vc (Pa _ _) p
theorem zr:c<=a->a<=b->b<c+1->a=b:=λp q r=>PK q (vc (OW r) p)
theorem JX:max 1 a<=a->max 1 a=a:=λp=>PK p (RY _ _)
theorem Ay:a<=b->a≠b->a<b:=λp q=>OK p q
theorem JU:1<=c->a+c<=b->a<b:=λp q=>N2 (Qe (Tk p)) q
theorem FN:1<=b->b<=d->a+d<=c->a+b-1<c:=λp q r=>N2 (sl p) (vc (Ob q _) r)
theorem Hu:a<b+c->a<=b+c-1:=λp=>Px p
theorem FD:¬c<b->c<=a->a<=b->a=b:=λp q r=>PK r (vc (OO p) q)
theorem Au:b<=d->a+d<=c->a+b<=c:=λp q=>adE p q
theorem Ga:1<=a->¬a>1->a=1:=λp q=>PK (OO q) p
theorem FT:a<b->a<=(a+b)/2/\(a+b)/2<b:=λp=>And.intro ((Nat.le_div_iff_mul_le (by decide)).mpr (by rw[mul_two]; exact Ob (Oq p) _)) ((Nat.div_lt_iff_lt_mul (by decide)).mpr (by rw[mul_two]; exact Nat.add_lt_add_right p _))
theorem H4:a<b->min a b=a:=λp=>QV (Oq p)
theorem Kc:c<0->a<=b:=λp=>N5 p (Vd _)
theorem EY:c<=d->d<c->a<b:=λp q=>N5 q (P5 p)
theorem F7{a b c d e f g:N7}:a+d<=e->f<d->g<=f->c=e->b<g->a+b<c:=λp q r s t=>s▸N2 (O9 (Rv (N2 t r) q) a) p
theorem He:c<=b->a<c->a<=b:=λp q=>vc (Oq q) p
theorem Ix:e-b<=c-d->a<e->a-b<=c-(d+1):=λp q=>vc (Qm (Px q) _) (vc (OH (TU _ 1 _)) (Qm p 1))
theorem IK:a-e<=c-d->e<=b->a-(b+1)<=c-(d+1):=λp q=>Qm (vc (Ru q _) p) 1
theorem HV:b<c+1->a+b<=a+c:=λp=>Ob (OW p) _
theorem Jr:d<=c->b<d->a+b<a+c:=λp q=>O9 (N2 q p) _
theorem HC:a-c<=d-max 0 d->c<=b->a<=b:=λp q=>vc (QO (SO (vc p (OH (RH (RY 0 _)))))) q
theorem Eu:c<f->a<b\/b+f<=a->¬a=b+c-(b+c-(b+d)):=λp q=>λe=>q.elim (λg=>P5 vlo (e▸g)) (λg=>P5 (vc g (vc (OH e) (TS _ _))) (O9 p _))
theorem Em:b<f->d<a\/a+f<=d->¬(a+b-(a+b-(a+c))<d/\d<=a+b):=λp q=>λe=>q.elim (λg=>P5 vlo (Rv e.1 g)) (λg=>P5 (vc g e.2) (O9 p _))
theorem HI:a<b->min (a+1) b=a+1:=λp=>QV (Qr p)
theorem Fs:c<=b->a+b-(a+b-(a+c))=a+c:=λp=>Nat.sub_sub_self (Ob p _)
theorem IB:e<=c->c<a+(d+1)->e=a+b->¬c=a+b->a+b<c/\c<=a+d:=λp q r s=>And.intro (OK (r▸p) (PT s)) (OW q)
theorem Fp:d<=b->d=c+a->¬b=c+a->a<=b-1-c:=λp q r=>Ql (Px (Tr _ _▸OK (q▸p) (PT r)))
theorem HZ:d<=a->a<b+(c+1)->d=b+e->¬a=b+e->a-1-b<c:=λp q r s=>Qj (Px (N4 (Os _ _) (OK (r▸p) (PT s)))) (pl (N4 (Pf _) (OK (r▸p) (PT s))) q)
theorem Ke:c<=b->c=a+d->¬b=a+d->a+(b-1-a)=b-1:=λp q r=>OG (Px (N4 (Os _ _) (OK (q▸p) (PT r))))
theorem Gm:c<=f->f=a+b->¬(a+b<c/\c<=a+d):=λp q=>λe=>P5 (q▸p) e.1
theorem HQ:b<=a->a<=d->¬a=b+c->d=b+c->a-b<c:=λp q r s=>Qj p (OK (s▸q) r)
theorem j9:a<=b->a+(b-a)=b:=λp=>TG p
theorem J5:c<=e->e<a+(d+1)->a+b<c->a+b<c/\c<=a+d:=λp q r=>And.intro r (OW (N4 p q))
theorem Fx:e<=c->c<a+(d+1)->a+b<e->a+b<c/\c<=a+d:=λp q r=>And.intro (N2 r p) (OW q)
theorem Ie:a+c<b->a<=b-1:=λp=>nxe (Px p)
theorem Gk:a<=b->a-1<=b-1:=λp=>Qm p _
theorem JG:d<=a->a<b+(c+1)->b+e<d->a-1<b+c:=λp q r=>pl (N4 (Pf _) (N2 r p)) q
theorem zJ:¬a+b<c->¬(a+b<c/\c<=a+d):=λp=>λe=>p e.1
theorem HN:c<a+(d+1)->a+b<c->a+b<c/\c<=a+d:=λp q=>And.intro q (OW p)
theorem Ii:¬c+d<a->c+d<b->a<=b-1:=λp q=>vc (OO p) (Px q)
theorem HA:a<b+(c+1)->b+d<a->a-1<b+c:=λp q=>pl (N4 (Pf _) q) p
theorem GZ:d<=c->¬a=b+d->¬b+d<a->a<b+c:=λp q r=>N2 (OK (OO r) q) (Ob p _)
theorem Hl:min (max (max a 1) b) b=b:=Ri (RY _ _)
theorem FV:c<=a->a<=b->b<c+min (max d 1) e->d=0->a=b:=λp q r s=>PK q (vc (OW (N2 r (Ob (vc (Py (max d 1) e) (by rw[s]; decide:max d 1<=1)) _))) p)
theorem EH:a<b+min (max c 1) d->¬c=0->a<b+c:=λp q=>N2 p (Ob (vc (Py _ _) (ZN.mpr ⟨Ow _,Rk q⟩)) _)
theorem FK{a b c:N3}:a<c->c<b->¬a=b:=λp q=>Int.ne_of_lt (PC p (QU q))
theorem GX{a b c:N3}:a<c->c<b->a<b:=λp q=>PC p (QU q)
theorem JF{a:Prop}{b c:N3}:¬b=c->¬b<c->¬c<b->a:=λp q r=>N5 (TB (Q1.mp r) (Q1.mp q)) p
theorem Kb:a<=b->a<=b+c:=λp=>vc p (Os _ _)
theorem JM:a<=b->a<b+1:=λp=>Pv p
theorem JD:a<b->a<b+c:=λp=>N2 p (Os _ _)
theorem J8:a<b->b<a->False:=λp q=>N5 q (P5 (Oq p))
theorem EW{a:Prop}{b:N7}:1<=b->0=b->a:=λp q=>N5 (lee p q) (by decide)
theorem EB:2<=a->a=a-1+1:=λp=>(Rl (P3 p)).symm
theorem GY:b=a->0+(a-0)<=b:=λp=>by rw[PV]; exact OH p.symm
theorem Ej:b=a->0+a<=b:=λp=>by rw[p,PV]; exact Ow _
theorem EJ:a=b->a<=b:=λp=>OH p
theorem IX{a b:N3}:0<=a->(a.toNat<b.toNat↔a<b):=λp=>by rw[Int.lt_toNat,Ph p]
theorem Kf{a:N3}:¬0<=a->a<0:=λp=>Vx.mp p
theorem Ff{a:N3}{b:N7}:b<=2^22->a<b->a<(2:N3)^(63:N7):=λp q=>PC q (ON (PJ.mpr p) (by decide))
theorem G4{a:N3}{b:N7}:b<=2^22->-b<=a->-(2:N3)^(63:N7)<=a:=λp q=>ON (ON (by decide) (Int.neg_le_neg (PJ.mpr p))) q
theorem Jx{a:N3}:0<=a->¬a<0:=λp=>Q1.mpr p
theorem IY{a:N3}:-(2:N3)^(22:N7)<=a/\a<(2:N3)^(22:N7)->-(2:N3)^(63:N7)<=a:=λp=>ON (by decide) p.1
theorem IU{a:N3}:-(2:N3)^(22:N7)<=a/\a<(2:N3)^(22:N7)->a<(2:N3)^(63:N7):=λp=>SP p.2 (by decide)
theorem AE:b<=2^22->a=b->a<=2^24:=λp q=>vc (ele q p) (by decide)
theorem F8{a:N3}{b:N7}:b<=2^22->min a.toNat b<=(2:N7)^(22:N7):=λp=>mne p
theorem G2{a:N7}:((↑a:N3)-(1:N3)-(-1:N3)-(-1:N3)-(1:N3)).toNat=a:=by rw[Zj,Zj,Int.sub_add_cancel,Wf]; rfl
theorem JC{a:N7}:¬(↑a:N3)-(1:N3)>(-1:N3)->Int.toNat (0:N3)=a:=λh=>by cases a with | zero=>rfl | succ n=>exact N5 (show (-1:N3)<((n:N3)+1)-1 by rw[Wf]; exact PC (by decide) (Ot n)) h
theorem EA{a b:N7}:((↑a:N3)-(1:N3)+(-1:N3)*(↑b:N3)).toNat=a-(1:N7)-b:=by rw[Int.neg_mul,Int.one_mul,<- Int.sub_eq_add_neg,Int.sub_sub,sub_sub]; exact Yp a (1+b)
theorem I6:b=c->a<c->a<b:=λp q=>lte q p
theorem EV:a=c->¬b<c->min a a<=b:=λp q=>mne (ele p (OO q))
theorem JL:¬c<a->min a b<=c:=λp=>mnl (OO p)
theorem IT:a<64->a<=16777216+1:=λp=>vc (Oq p) (by decide)
theorem AX:a<64->a<=16777216:=λp=>vc (Oq p) (by decide)
theorem HY:a<2->a<=1:=λp=>OW p
theorem J4:¬a<2->1<=a:=λp=>vc (Pa _ _) (OO p)
theorem El:b=a->¬b<2->¬a<2:=λp q=>P5 (vc (OO q) (OH p))
theorem Gj:¬a<2->2<=a:=λp=>OO p
theorem Jt:b<=a->¬a<b:=λp=>P5 p
theorem E7:a<=1000000->a<=16777216:=λp=>vc p (by decide)
theorem zH:a<=1000000->a<=2^22:=λp=>vc p (by decide)
theorem JR:a=b->a=b:=by intro p; omega
theorem Av:b<64->a=b->a<=16777216:=λp q=>vc (Oq (elt q p)) (by decide)
theorem FS:a+200<b->a+1+1<b:=λp=>N4 (Ob (by decide:2<=200) a) p
theorem A4:b<64->a=b->a<64:=λp q=>elt q p
theorem Ah:a<64->a<=2^22:=λp=>vc (Oq p) (by decide)
theorem Jn{a b:N7}:a=b->b<=2^22->(↑a:N3)<(2:N3)^(63:N7):=λp q=>Rg (PJ.mpr (ele p q)) (by decide)
theorem Jq{a b:N7}:a=b->b<=2^22->¬(↑a:N3)≥(2:N3)^(63:N7):=λp q=>λg=>N5 (ON g (PJ.mpr (vc (OH p) q))) (by decide)
theorem GD{a b:N7}{c:Prop}:a=b->b<=2^22/\c->a<=2^24:=λp q=>vc (ele p q.1) (by decide)
theorem A0:a<128->a<=16777216:=λp=>vc (Oq p) (by decide)
theorem GB:2<=a->¬a<2:=λp=>P5 p
theorem Fi:2<=a->2<=a:=by intro p; omega
theorem ID:a<128->a<=16777216+1:=λp=>vc (Oq p) (by decide)
theorem AM:b<128->a=b->a<=16777216:=λp q=>vc (Oq (elt q p)) (by decide)
theorem D7:¬b<64->a=b->2<=a:=λp q=>vc (Pa _ _) (lee (OO p) q)
theorem Hz:b<128->a=b->a<128:=λp q=>elt q p
theorem GL:a<128->a<=2^22:=λp=>vc (Oq p) (by decide)
theorem J1:a+100*c+200<b->a+200<b:=λp=>N4 (PW (Os _ _) 200) p
theorem G9:a+100*c+300<b->a+200<b:=λp=>N4 (Sx (Os _ _) (by decide)) p
theorem AK:a+200<d->b+1<=64->a+1+min b c<d:=λp q=>N4 (vc (OH (PI _ 1 _)) (Ob (vc (Ob (Py _ _) 1) (vc (OH (Tr 1 _)) (vc q (by decide)))) _)) p
theorem zA:a+200<b->a+1<b:=λp=>N4 (O6 (Os _ _)) p
theorem zL:a+200<d->b<=64->a+min b c<d:=λp q=>N4 (Ob (vc (Py _ _) (vc q (by decide))) _) p
theorem zP{a b:N7}{c:Prop}{d:N7}:b<1000/\c->a=d->d=b->a<=2^24:=λp q r=>vc (Oq (elt q (elt r p.1))) (by decide)
theorem Ap{a b:N7}{c:Prop}{d:N7}:b<1000/\c->d=b->a=d->a<=2^22:=λp q r=>vc (Oq (elt r (elt q p.1))) (by decide)
theorem EI{a b:N3}:-(2:N3)^(60:N7)<=a/\a<(2:N3)^(60:N7)/\-(2:N3)^(60:N7)<=b/\b<(2:N3)^(60:N7)->-(2:N3)^(62:N7)<=a:=λp=>ON (by decide) p.1
theorem Id{a b:N3}:-(2:N3)^(60:N7)<=a/\a<(2:N3)^(60:N7)/\-(2:N3)^(60:N7)<=b/\b<(2:N3)^(60:N7)->a<(2:N3)^(62:N7):=λp=>SP p.2.1 (by decide)
theorem Eo{a b:N3}:-(2:N3)^(60:N7)<=b/\b<(2:N3)^(60:N7)/\-(2:N3)^(60:N7)<=a/\a<(2:N3)^(60:N7)->-(2:N3)^(62:N7)<=a:=λp=>ON (by decide) p.2.2.1
theorem HD{a b:N3}:-(2:N3)^(60:N7)<=b/\b<(2:N3)^(60:N7)/\-(2:N3)^(60:N7)<=a/\a<(2:N3)^(60:N7)->a<(2:N3)^(62:N7):=λp=>SP p.2.2.2 (by decide)
theorem Hq{a b:N3}:(a-b).toNat<=(1000000:N7)->(a-b).toNat<=(2:N7)^(22:N7):=λp=>vc p (by decide)
theorem tv:b<a->a+1-(b+1)<a+1-b:=λp=>Nat.sub_lt_sub_left (Q2 p) (Tf _)
theorem I0{a b:N7}{c:Prop}{d:N7}:b<=2^22/\c->a<=d->d<b->a<=2^24:=λp q r=>vc q (vc (vc (Oq r) p.1) (by decide))
theorem An:a<=b->¬a<b->a=b:=λp q=>PK p (OO q)
theorem GO:a<=0->a=0:=λp=>SO p
theorem zY:a<=b+1->¬a=b+1->a<=b:=λp q=>OW (OK p q)
theorem Iw{a b c:N3}:b>c->a<=c->a<=b:=λp q=>ON q (QU p)
theorem Fg{a b:N3}:¬a>b->a<=b:=λp=>Q1.mp p
theorem Im:0<b->a<=b-1->a<b:=λp q=>N4 q (Uj p (by decide))
theorem uD:a<b->a<=b-1:=λp=>Px p
theorem AT{a:N7}:¬(↑a:N3)<(0:N3):=Q1.mpr (Ot _)
theorem FL:¬b<a->a<=b:=λp=>OO p
theorem AC{a:N7}{b:Prop}:a<=2^22/\b->a<=2^24:=λp=>vc p.1 (by decide)
theorem Ib{a:N3}{b:N7}{c:Prop}{d:N7}:¬(c\/a<0\/d<=a)->b=d->a.toNat<b:=λp q=>q▸(WB (Q1.mp λg=>p (.inr (.inl g)))).mpr (Vx.mp λg=>p (.inr (.inr g)))
theorem FX{a:N3}{b:Prop}{c:N7}{d:Prop}:¬(b\/a<0\/c<=a)->c<=2^22/\d->(-9223372036854775808:N3)<=a/\a<9223372036854775808:=λp q=>And.intro (ON (by decide) (Q1.mp λg=>p (.inr (.inl g)))) (SP (Vx.mp λg=>p (.inr (.inr g))) (Rg (PJ.mpr q.1) (by decide)))
theorem Am:a<=1000000->a<=2^24:=λp=>vc p (by decide)
theorem Fd:1<=16777216:=by decide
theorem Ji:a+2*b+4<c->a+2*b+1<c:=λp=>N4 (O6 (Os _ _)) p
theorem J9:a+100*b+300<c->a+100*b+200<c:=λp=>N4 (Ob (Pa _ _) _) p
theorem EE:a+2*b+5<c->a+1+2*b+4<c:=λp=>by rw[P6 _ 1]; exact p
theorem Ki:a+100*b+303<c->a+3+100*b+300<c:=λp=>by rw[P6 _ 3]; exact p
theorem JW:a+2*(c+1)+4<b/\d+100*(c+1)+300<e->a<b:=λp=>nxl (nxl p.1)
theorem Gb:a+100*b+303<=a+100*(b+1)+300:=by lia
theorem Gf:a<=8->a<=16777216:=λp=>vc p (by decide)
theorem Gs:a<=1->1+3*a<=50:=λp=>vc (Ob (Sf 3 p) 1) (by decide)
theorem FG:b<=50->a+b<=a+50:=λp=>Ob p _
theorem FE:a+2*(c+1)+4<b->a+1<b:=λp=>N4 (Sx (Os _ _) (by decide)) p
theorem Gg:a+2*(b+1)+4<c->a+1+2*b+5<c:=λp=>by rw[P6 _ 1]; exact p
theorem Ee:a<=c+50->a+100*b+303<=c+100*(b+1)+300:=by intros; lia
theorem ED:1<=a+1+0/\a+1+0<=a+1/\a+1<=2*(a+1+0):=And.intro (SN _) (And.intro (Ow _) (QG _ (by decide)))
theorem IE{a:N7}:2<=a+1->a=a-1+1:=λp=>(Rl (UV p)).symm
theorem J2:a+1+1<128->(a+1+1)/2<64:=λp=>Nat.div_lt_of_lt_mul p
theorem EC{a:N7}:1<=(a+1+1)/2+max 0 ((a+1+1)%2)/\(a+1+1)/2+max 0 ((a+1+1)%2)<=a+1+1/\a+1+1<=2*((a+1+1)/2+max 0 ((a+1+1)%2)):=by
 rw[WD,show a+1+1=a+2 from rfl,Nat.add_div_right a (by decide),Nat.add_mod_right]
 exact ⟨vc (Pa 1 _) (Os _ _),vc (OH (P6 _ 1 _)) (OX (O6 (vc (PW (QG _ (by decide)) _) (OH (Xx a 2))))),vc (O6 (O6 (OH (Xx a 2).symm))) (vc (OH (P6 _ (a%2) 2)) (vc (Ob (QG (a%2) (by decide:0<2)) (2*(a/2)+2)) (OH (by rw[Zk,Zk]))))⟩
theorem Kg:c=a->0+min (a-0) b<=c:=λp=>by rw[PV,p]; exact Py _ _
theorem FM:c<=b->a<c->a<=min (b-0) c:=λp q=>le_min.mpr ⟨vc (Oq q) p,Oq q⟩
theorem Ex:b<=a->min (a-0) b=b:=λp=>Ri p
theorem Io:a<=b->a≥b->a=b:=λp q=>PK p q
theorem Ir:¬a≥b->c=b->a+(b-a)<=c:=λp q=>OH ((OG (Oq (Rh p))).trans q.symm)
theorem Fy:¬b≥a->1<=a-b:=λp=>Qr (QJ (Rh p))
theorem Hg:1<=b->b<=a->1<=a:=λp q=>vc p q
theorem Jb:c=b->1<=d->d<=b-a->a+(b-a)=c:=λp q r=>(OG (Oq (Tl (N2 q r)))).trans p.symm
theorem Ed:a<=c->c<0+b->a<b:=λp q=>N4 p (PV b▸q)
theorem tL:a<0+b->a<b:=λp=>PV b▸p
theorem Fz:d=b->1<=e->e<=b-a->a+min (b-a) c<=d:=λp q r=>vc (Ob (Py _ _) _) (OH ((OG (Oq (Tl (N2 q r)))).trans p.symm))
theorem HS:b<=2*d->d<=c->a<=b-c->a<=min (b-c) d:=λp q r=>le_min.mpr ⟨r,vc r (RN (vc p (two_mul d▸Ob q _)))⟩
theorem JI:a<=2*c->c<=b->min (a-b) c=a-b:=λp q=>QV (RN (vc p (two_mul c▸Ob q _)))
theorem G0:b<=2*d->d<=c->a<=b-c->¬a<d->a=b-c:=λp q r s=>PK r (vc (RN (vc p (two_mul d▸Ob q _))) (OO s))
theorem Kk{a b c:Prop}{d:N7}:2<=d->max 0 d=0->a/\(b\/c):=λp q=>by rw[WD] at q; rw[q] at p; exact N5 p (by decide)
theorem GT:2<=b->max 0 b=1\/a=b->a=b:=by intros; lia
theorem IG:a=2->¬a<=1:=λp=>UU (lte (Tf _) p)
theorem FA:d=e->a+b=d->c=e->a+b=c:=λp q r=>Eq.trans q (Eq.trans p (UT r))
theorem EL{a:N7}{b:Prop}:2<=a->max 0 a=0/\b->False:=by intro p q; lia
theorem F1:a+b<=1000000->a+b<=2^22:=λp=>vc p (by decide)
theorem Fh:a+b<=1000000->a+b<=2^24:=λp=>vc p (by decide)
theorem ES{a:N7}{b:N3}:¬(b=0\/(1000000000:N7)<=a)->a<1073741824:=λp=>Rv (Rh λg=>p (.inr g)) (by decide)
theorem HK:a<=60->1+300+2*a+4<1000:=λp=>N4 (PW (Ob (Sf 2 p) _) 4) (by decide)
theorem GQ:a<=60->4+100*a+300<9900:=λp=>N4 (PW (Ob (Sf 100 p) _) 300) (by decide)
theorem Hi:a<=50->a+1<=60:=λp=>vc (O6 p) (by decide)
theorem Ag{a:N3}{b:N7}:0<=a/\a<b->a.toNat<b:=λp=>tln p.1 p.2
theorem D9:a<=b+(a-b):=Rj.mp (Ow _)
theorem z9:¬b<=a->a<=b:=λp=>Oq (Rh p)
theorem tw:b<min d (c-a)->a+b<c:=λp=>QN (N2 p (WY _ _))
theorem EO:a<min b (c-d)->a<b:=λp=>N2 p (Py _ _)
theorem o6:b<c-a->a+b<c:=λp=>QN p
theorem FQ:b<=d->a+d<c->a+b<c:=λp q=>N4 (Ob p _) q
theorem FU:b<=a->d+a<c->a-b<c-(d+b):=λp q=>RZ (elt (by rw[Nat.add_left_comm,Rl p]) q)
theorem Eh:c<=b->a+b=a+c+(b-c):=λp=>by rw[PI,OG p]
theorem Ai:a<=c->c<b->a<b:=λp q=>N4 p q
theorem Af:a<=c->c<=b->a<=b:=λp q=>vc p q
theorem E0:a+1=b->a<b:=λp=>Tk (OH p)
theorem IQ:b+1=a->a<=b+1:=λp=>OH (UT p)
theorem Ht:a+1=c->c=b->a=b-1:=λp q=>by subst q; subst p; rfl
theorem AW:a<b->a+1≠b->a+1<b:=λp q=>OK (Qr p) q
theorem Ek:a<=b+c->a+1<=b+(c+1):=λp=>O6 p
theorem A3:a<=b+c->a+1<=b+1+c:=λp=>vc (O6 p) (OH (P6 b c 1))
theorem FC:a+1<b->a+1+1≠b->a+1+1<b:=λp q=>OK (Qr p) q
theorem JN:a+1<b->a+1+(b-(a+1))<=b:=λp=>OH (TG (Oq p))
theorem Gy:b+1<a->0<a-(b+1):=λp=>QJ p
theorem II:a+1+b+c<d->a+1+(b+c)<d:=λp=>elt (PI _ _ _).symm p
theorem Al:a<=a+b:=Os _ _
theorem Ja:d+1+a+b<e->e=c->a+b<c-(d+1):=λp q=>RZ (q▸elt (by rw[Tr,<- PI]) p)
theorem Ez:b<=c-(a+1)->b>0->a+1+b≠c->a+1+b<c:=λp q r=>OK (Vm (Oq (Tl (N2 q p))) p) r
theorem Fj:a<=b+c->a<=b+(c+1+d):=λp=>vc p (Ob (nxe (Os _ _)) _)
theorem Hf:a<=b+c->a<=b+(c+1):=λp=>vc p (Ob (Os _ _) _)
theorem EX:a+1<b->a+(b-a)<=b:=λp=>OH (OG (Oq (SQ p)))
theorem HG:b+1<a->0<a-b:=λp=>QJ (nxl p)
theorem HE:a+b+c<d->a+(b+c)<d:=λp=>elt (PI _ _ _).symm p
theorem GM:d+a+b<e->e=c->a+b<c-d:=λp q=>RZ (q▸elt (by rw[Tr,<- PI]) p)
theorem E2:b<=c-a->b>0->a+b+1≠c->a+b≠c->a+b+1<c:=λp q r s=>OK (OK (Vm (Oq (Tl (N2 q p))) p) s) r
theorem J7:a<=b+d->a<=b+c+d:=λp=>vc p (Sx (Os _ _) (Ow _))
theorem Ec:a+b<=c+1->d+1<a->e<b->c<=d+e->False:=λp q r s=>SH _ (N2 (Nat.add_lt_add q r) (vc p (vc (O6 s) (OH (P6 d e 1)))))
theorem Gc:a+b<=c+1+(a+b)+1:=OX (Pa _ _)
theorem AS:a+2<=a+1+b+1:=O6 (Os _ _)
theorem EG:a+b<=c+2+(a+b)+1:=OX (Pa _ _)
theorem zE:a+2<=a+2+b+1:=OX (Os _ _)
theorem tU:1<=a->a-1<a:=λp=>Uj (Tk p) (by decide)
theorem Ew:a+b<=1+(a+b)+1:=OX (Pa _ _)
theorem HO:a+b<=a+b+1+1:=OX (Os _ _)
theorem Fk:a<=a+1:=Os _ _
theorem Ar:a+1-a=1:=Pc _ _
theorem Iu:a<min c b->a<b:=λp=>N2 p (YN _ _)
theorem Je:a<min b c->a<b:=λp=>N2 p (Py _ _)
theorem FY:a<=f->f+b+c<=d+e->a+b+c<=d+e:=λp q=>vc (PW (PW p _) _) q
theorem HJ:a+b<=c->1<d->c+e+d<=a+b->False:=λp q r=>SH c (N2 (N4 (Os c e) (Qe (Rv one_pos q))) (vc r p))
theorem uE:a≠0->0<a:=λp=>Rk p
theorem JP:0<a->a≠1->1<a:=λp q=>OK p (PT q)
theorem uT:0<a->a<=b->a-1<b:=λp q=>N2 (Uj p (by decide)) q
theorem tI:1<a->a<=b->a-1<b:=λp q=>N2 (Uj (N4 (Pf _) p) (by decide)) q
theorem o9:a-1<b->a-1<=b:=λp=>Oq p
theorem zN:0<b->a+b+c<=d+e->a+1+(b-1)+c<=d+e:=λp q=>by rw[PI a 1,OG p]; exact q
theorem o4:1<a->0<a:=λp=>N4 (Pf _) p
theorem F4:1<a->0<a-1:=λp=>RZ p
theorem HP:1<c->a+b+c<=d+e->a+1+b+(c-1)<=d+e:=λp q=>by rw[P6 a 1 b,PI (a+b) 1,OG (Oq p)]; exact q
theorem Hs:a-1≠0->0<a-1:=λp=>Rk p
theorem Jd:1<a->a-1≠1->1<a-1:=λp q=>OK (Px p) (PT q)
theorem IN:a-1<b->0+(a-1)<=b:=λp=>by rw[PV]; exact Oq p
theorem IM:1<a-1->a-1-1<a-1:=λp=>Uj (N4 (Pf _) p) (by decide)
theorem Fc:a+b+c<=d+e->a+b+(c-1)<=d+e:=λp=>adE (TS _ _) p
theorem GG:b<c-1-a->a+b<c-1:=λp=>QN p
theorem Iy:a≠1->a≠0->1<a:=λp q=>OK (Rk q) (PT p)
theorem EQ:c-1<b->a<=c-1->a<=b:=λp q=>vc q (Oq p)
theorem Fe:a+b+f<=d+e->f-1-c>0->a+b+c<=d+e:=λp q=>vc (Ob (vc (Oq (Tl q)) (TS _ _)) _) p
theorem D8:a<=b-1->¬b-1-a>0->a=b-1:=λp q=>PK p (QO (Rm q))
theorem Jf:a<=b->0+a<=b:=λp=>by rw[PV]; exact p
theorem IL:0<a->a-1<a:=λp=>Uj p (by decide)
theorem EK:c<=b->a<=c->a<=b:=λp q=>vc q p
theorem FJ:a+f+c<=d+e->b<=f->a+b+c<=d+e:=λp q=>vc (Sx (Ob q _) (Ow _)) p
theorem Jo:a<=b->¬b-a>0->a=b:=λp q=>PK p (QO (Rm q))
theorem Hj:a+b<=c+1+(a+b):=Pa _ _
theorem IR:a+b<=c+2+(a+b):=Pa _ _
theorem JV:a+b<=1+(a+b):=Pa _ _
theorem Fu:a+b<=a+b+1:=Os _ _
theorem GK:a+b+(d+1)<=c->a+b<c:=λp=>N2 (Qe (SN _)) p
theorem Gx:a+b+(c+1)<=d->a+(b+1)+c<=d:=λp=>ele (by rw[<- PI,<- PI,P6]) p
theorem HH:a+(b+1)-(a+b)=1:=by rw[<- PI,Pc]
theorem Ev:min (a+b) c<=a+(b+1):=mnl (Ob (Os _ _) _)
theorem Jw:min (a+b) c<=a+(b+1)+d:=mnl (vc (Ob (TN _) _) (Os _ _))
theorem JH:a+(b+1)+c-(a+b)=c+1:=by rw[<- PI,PI (a+b) 1,Pc,Tr]
theorem Hk:a+b+1+c=a+b+(c+1):=P6 _ _ _
theorem Jc:b<min c (d-a)->a+b<a+c:=λp=>O9 (N2 p (Py _ _)) _
theorem zT:a<b->a<0+b:=λp=>N2 p (Pa _ _)
theorem E8:b+c=d->a<0+d->a<b+c:=λp q=>by rw[p]; rw[PV] at q; exact q
theorem Ih:0+a<=a:=by lia
theorem JZ:a+c=b->1<=c->a<b:=λp q=>N2 (Qe (Tk q)) (OH p)
theorem FW:a+c=b->0+a<=b:=λp=>by subst p; rw[PV]; exact Os _ _
theorem Jg:a<=b->b-a=0->a=b:=λp q=>PK p (QO q)
theorem uL:b+c=d->a<d->a<b+c:=λp q=>lte q p
theorem Ge:b-a≠0->a<b:=λp=>Nat.lt_of_sub_ne_zero p
theorem HM:b<c->a<b->0+a+(b-a)-1<c:=λp q=>N4 (TS _ _) (by rw[PV,OG (Oq q)]; exact p)
theorem Iz:a<b->0+a+(b-a)-1=b-1:=λp=>by rw[PV,OG (Oq p)]
theorem Eg:a+b=c->a+b<=c:=λp=>OH p
theorem zG:1<=a->a-1<0+a:=λp=>N2 (Uj (Tk p) (by decide)) (Pa _ _)
theorem z8:b+c=d->1<=c->a<d->a-b<c:=λp q r=>by subst p; exact (YO a b).elim (λg=>by rw[RH (Oq g)]; exact q) (λg=>Qj g r)
theorem Ep:a+d=b->min a b-c=a-c:=λp=>by subst p; rw[QV (Os _ _)]
theorem E1:a+d=c->b<=d->min (a+b) c-a=b:=λp q=>by subst p; rw[QV (Ob q _),Pc]
theorem FO:1<=b->0+c+(b-c)-1=b-1->a<c+(b-c)->a<0+b:=λp q r=>by rw[PV]; exact N2 r (OH (OG (wle p q)))
theorem G8:b+d=c->a<b->a+(b-a)<=c:=λp q=>by subst p; rw[OG (Oq q)]; exact Os _ _
theorem FH:d<=c->a<b+d->a<b+c:=λp q=>N2 q (Ob p _)
theorem HW:a+d=c->b<=d->a+b<=c:=λp q=>adE q (OH p)
theorem AA:0<b->a=b->0<a:=λp q=>lte p q
theorem AG:b<c->a=c-b->a-1<a:=λp q=>Uj (lte (QJ p) q) (by decide)
theorem Go:d+e=c->1<=d->1<=e->0+a+(d-a)-1=d-1->b=d-a->a+(b-1)<c:=λp q r s t=>by subst p; subst t; exact N4 (Ob (TS _ 1) _) (elt (OG (wle q s)) (Qe r))
theorem E6:a<c->b=c-a->a+(b-1)=c-1:=λp q=>by subst q; rw[<- Nat.add_sub_assoc (QJ p),OG (Oq p)]
theorem JY:1<=b->0+c+(b-c)-1=b-1->a<c+(b-c)->a<b:=λp q r=>N2 r (OH (OG (wle p q)))
theorem Gr:b<=a->a<b+c->a-b<c:=λp q=>Qj p q
theorem Jy:b+e=d->1<=b->0+a+(b-a)-1=b-1->c<=e->a+0+(b-a+c)<=d:=λp q r s=>by subst p; rw[Vw,<- PI,OG (wle q r)]; exact Ob s _
theorem AP:1<=b->0+a+(b-a)-1=b-1->a+(b-a+c)=b+c:=λp q=>by rw[<- PI,OG (wle p q)]
theorem F0:1<=b->0+a+(b-a)-1=b-1->a+(b-a)=b:=λp q=>OG (wle p q)
theorem Hm:1<=b->0+d+(b-d)-1=b-1->a<d+(b-d)->a<b+c:=λp q r=>N2 r (vc (OH (OG (wle p q))) (Os _ _))
theorem Hp:a<c->c<=b->a<=b:=λp q=>vc (Oq p) q
theorem Et:c+a<=b->a<=b-c:=λp=>Ql (ele (Tr _ _) p)
theorem JT:a+c<=b->a+(b-a)=b:=λp=>TG (nxe p)
theorem JQ:a<c+d->c+d<=b->a<=b:=λp q=>vc (Oq p) q
theorem Gp:c<b->a<0+c->a<0+b:=λp q=>N2 q (Oq (O9 p _))
theorem Fw:c+d=b->a<c->0+a<=b:=λp q=>by subst p; rw[PV]; exact vc (Oq q) (Os _ _)
theorem G1:c+d=b->e<=d->a<c+e->a<b:=λp q r=>N2 r (adE q (OH p))
theorem Ey:a+c<=b->a<=b:=λp=>nxe p
theorem EZ:d<=c->a<b+d+(c-d)->a<b+c:=λp q=>by rw[PI,OG p] at q; exact q
theorem IC:a+c=d->b<=c->a+b+(c-b)<=d:=λp q=>by subst p; rw[PI,OG q]; exact Ow _
theorem GU:b+d=a->a-(b+c)<=d-c:=λp=>by subst p; exact OH (Vv _ _ _)
theorem IF:a<c->c+d<=b->a<=b:=λp q=>vc (Oq p) (nxe q)
theorem Ju:b<a->1<=a-b:=λp=>Qr (QJ p)
theorem Az:0<a->1<=a:=λp=>Qr p
theorem F5:¬a-b<=c->1<=a-b:=λp=>vc (Pa _ _) (Qr (Rh p))
theorem GV{a b:N3}:0<=b->a.toNat<=b.toNat->a<=b:=λp q=>ON (WC a) (ON (PJ.mpr q) (US (Ph p)))
end
theorem aM (h0:p0 ) (h1:p1 ):p0/\p1:=⟨h0,h1⟩
theorem cF (h0:p0 ) (h1:p1 ) (h2:p2 ):p0/\p1/\p2:=⟨h0,h1,h2⟩
theorem db (h0:p0 ) (h1:p1 ) (h2:p2 ) (h3:p3 ):p0/\p1/\p2/\p3:=⟨h0,h1,h2,h3⟩
theorem cw (h0:p0 ) (h1:p1 ) (h2:p2 ) (h3:p3 ) (h4:p4 ):p0/\p1/\p2/\p3/\p4:=⟨h0,h1,h2,h3,h4⟩
theorem l8 (h0:p0 ) (h1:p1 ) (h2:p2 ) (h3:p3 ) (h4:p4 ) (h5:p5 ):p0/\p1/\p2/\p3/\p4/\p5:=⟨h0,h1,h2,h3,h4,h5⟩
theorem cE{A:Sort u0}{p:A->Prop}(a:A):p a->∃ a,p a:=λp=>⟨a,p⟩
theorem ah{A:Sort u0}{p q:A->Prop}(a:A):p a->q a->∃ a,p a/\q a:=λp q=>⟨a,p,q⟩
theorem aG{A:Sort u0}{p q r:A->Prop}(a:A):p a->q a->r a->∃ a,p a/\q a/\r a:=λp q r=>⟨a,p,q,r⟩
theorem cV{A:Sort u0}{p q r s:A->Prop}(a:A):p a->q a->r a->s a->∃ a,p a/\q a/\r a/\s a:=λp q r s=>⟨a,p,q,r,s⟩
theorem o7{A:Sort u0}{p q r s t:A->Prop}(a:A):p a->q a->r a->s a->t a->∃ a,p a/\q a/\r a/\s a/\t a:=λp q r s t=>⟨a,p,q,r,s,t⟩
theorem ke{A:Sort u0}{p q r s t u:A->Prop}(a:A):p a->q a->r a->s a->t a->u a->∃ a,p a/\q a/\r a/\s a/\t a/\u a:=λp q r s t u=>⟨a,p,q,r,s,t,u⟩
theorem tQ{A:Sort u0}{p q r s t u v:A->Prop}(a:A):p a->q a->r a->s a->t a->u a->v a->∃ a,p a/\q a/\r a/\s a/\t a/\u a/\v a:=λp q r s t u v=>⟨a,p,q,r,s,t,u,v⟩
theorem cf{A:Sort u0}{B:Sort u1}{p:A->B->Prop}(a:A)(b:B):p a b->∃ a b,p a b:=λp=>⟨a,b,p⟩
theorem aC{A:Sort u0}{B:Sort u1}{p q:A->B->Prop}(a:A)(b:B):p a b->q a b->∃ a b,p a b/\q a b:=λp q=>⟨a,b,p,q⟩
theorem aQ{A:Sort u0}{B:Sort u1}{p q r:A->B->Prop}(a:A)(b:B):p a b->q a b->r a b->∃ a b,p a b/\q a b/\r a b:=λp q r=>⟨a,b,p,q,r⟩
theorem bJ{A:Sort u0}{B:Sort u1}{p q r s:A->B->Prop}(a:A)(b:B):p a b->q a b->r a b->s a b->∃ a b,p a b/\q a b/\r a b/\s a b:=λp q r s=>⟨a,b,p,q,r,s⟩
theorem bK{A:Sort u0}{B:Sort u1}{p q r s t:A->B->Prop}(a:A)(b:B):p a b->q a b->r a b->s a b->t a b->∃ a b,p a b/\q a b/\r a b/\s a b/\t a b:=λp q r s t=>⟨a,b,p,q,r,s,t⟩
theorem pj{A:Sort u0}{B:Sort u1}{p q r s t u:A->B->Prop}(a:A)(b:B):p a b->q a b->r a b->s a b->t a b->u a b->∃ a b,p a b/\q a b/\r a b/\s a b/\t a b/\u a b:=λp q r s t u=>⟨a,b,p,q,r,s,t,u⟩
theorem mt{A:Sort u0}{B:Sort u1}{p q r s t u v:A->B->Prop}(a:A)(b:B):p a b->q a b->r a b->s a b->t a b->u a b->v a b->∃ a b,p a b/\q a b/\r a b/\s a b/\t a b/\u a b/\v a b:=λp q r s t u v=>⟨a,b,p,q,r,s,t,u,v⟩
theorem fh{A:Sort u0}{B:Sort u1}{C:Sort u2}{p q:A->B->C->Prop}(a:A)(b:B)(c:C):p a b c->q a b c->∃ a b c,p a b c/\q a b c:=λp q=>⟨a,b,c,p,q⟩
theorem dQ{A:Sort u0}{B:Sort u1}{C:Sort u2}{p q r:A->B->C->Prop}(a:A)(b:B)(c:C):p a b c->q a b c->r a b c->∃ a b c,p a b c/\q a b c/\r a b c:=λp q r=>⟨a,b,c,p,q,r⟩
theorem zR{A:Sort u0}{B:Sort u1}{C:Sort u2}{p q r s:A->B->C->Prop}(a:A)(b:B)(c:C):p a b c->q a b c->r a b c->s a b c->∃ a b c,p a b c/\q a b c/\r a b c/\s a b c:=λp q r s=>⟨a,b,c,p,q,r,s⟩
theorem zx{A:Sort u0}{B:Sort u1}{C:Sort u2}{p q r s t u:A->B->C->Prop}(a:A)(b:B)(c:C):p a b c->q a b c->r a b c->s a b c->t a b c->u a b c->∃ a b c,p a b c/\q a b c/\r a b c/\s a b c/\t a b c/\u a b c:=λp q r s t u=>⟨a,b,c,p,q,r,s,t,u⟩
theorem jJ{A:Sort u0}{B:Sort u1}{C:Sort u2}{p q r s t u v:A->B->C->Prop}(a:A)(b:B)(c:C):p a b c->q a b c->r a b c->s a b c->t a b c->u a b c->v a b c->∃ a b c,p a b c/\q a b c/\r a b c/\s a b c/\t a b c/\u a b c/\v a b c:=λp q r s t u v=>⟨a,b,c,p,q,r,s,t,u,v⟩
theorem fj{A:Sort u0}{B:Sort u1}{C:Sort u2}{D:Sort u3}{p q:A->B->C->D->Prop}(a:A)(b:B)(c:C)(d:D):p a b c d->q a b c d->∃ a b c d,p a b c d/\q a b c d:=λp q=>⟨a,b,c,d,p,q⟩
theorem me{A:Sort u0}{B:Sort u1}{C:Sort u2}{D:Sort u3}{p q r s:A->B->C->D->Prop}(a:A)(b:B)(c:C)(d:D):p a b c d->q a b c d->r a b c d->s a b c d->∃ a b c d,p a b c d/\q a b c d/\r a b c d/\s a b c d:=λp q r s=>⟨a,b,c,d,p,q,r,s⟩
theorem mq{A:Sort u0}{B:Sort u1}{C:Sort u2}{D:Sort u3}{p q r s t:A->B->C->D->Prop}(a:A)(b:B)(c:C)(d:D):p a b c d->q a b c d->r a b c d->s a b c d->t a b c d->∃ a b c d,p a b c d/\q a b c d/\r a b c d/\s a b c d/\t a b c d:=λp q r s t=>⟨a,b,c,d,p,q,r,s,t⟩
theorem tg{A:Sort u0}{B:Sort u1}{C:Sort u2}{D:Sort u3}{E:Sort u4}{p q:A->B->C->D->E->Prop}(a:A)(b:B)(c:C)(d:D)(e:E):p a b c d e->q a b c d e->∃ a b c d e,p a b c d e/\q a b c d e:=λp q=>⟨a,b,c,d,e,p,q⟩
theorem z6{A:Sort u0}{B:Sort u1}{C:Sort u2}{D:Sort u3}{E:Sort u4}{p q r s:A->B->C->D->E->Prop}(a:A)(b:B)(c:C)(d:D)(e:E):p a b c d e->q a b c d e->r a b c d e->s a b c d e->∃ a b c d e,p a b c d e/\q a b c d e/\r a b c d e/\s a b c d e:=λp q r s=>⟨a,b,c,d,e,p,q,r,s⟩
theorem z5{A:Sort u0}{B:Sort u1}{C:Sort u2}{D:Sort u3}{E:Sort u4}{F:Sort u5}{p q:A->B->C->D->E->F->Prop}(a:A)(b:B)(c:C)(d:D)(e:E)(f:F):p a b c d e f->q a b c d e f->∃ a b c d e f,p a b c d e f/\q a b c d e f:=λp q=>⟨a,b,c,d,e,f,p,q⟩
theorem jS{A:Sort u0}{B:Sort u1}{C:Sort u2}{D:Sort u3}{E:Sort u4}{F:Sort u5}{H:Sort u6}{p q:A->B->C->D->E->F->H->Prop}(a:A)(b:B)(c:C)(d:D)(e:E)(f:F)(g:H):p a b c d e f g->q a b c d e f g->∃ a b c d e f g,p a b c d e f g/\q a b c d e f g:=λp q=>⟨a,b,c,d,e,f,g,p,q⟩
theorem DV{A:Sort u0}{B:Sort u1}{C:Sort u2}{D:Sort u3}{E:Sort u4}{F:Sort u5}{H:Sort u6}{p q r s t u v:A->B->C->D->E->F->H->Prop}(a:A)(b:B)(c:C)(d:D)(e:E)(f:F)(g:H):p a b c d e f g->q a b c d e f g->r a b c d e f g->s a b c d e f g->t a b c d e f g->u a b c d e f g->v a b c d e f g->∃ a b c d e f g,p a b c d e f g/\q a b c d e f g/\r a b c d e f g/\s a b c d e f g/\t a b c d e f g/\u a b c d e f g/\v a b c d e f g:=λp q r s t u v=>⟨a,b,c,d,e,f,g,p,q,r,s,t,u,v⟩
section
variable {G:Prop}
theorem ae (h:p0/\p1) (k:p0->p1->G):G:=by
 obtain ⟨h0,h1⟩:=h
 exact k h0 h1
theorem al{A:Sort u0}{p:A->Prop}(h:∃ a,p a)(k:∀ a,p a->G):G:=by obtain ⟨a,p⟩:=h;exact k a p
theorem aK (h:p0/\p1/\p2) (k:p0->p1->p2->G):G:=by
 obtain ⟨h0,h1,h2⟩:=h
 exact k h0 h1 h2
theorem ag{A:Sort u0}{p q:A->Prop}(h:∃ a,p a/\q a)(k:∀ a,p a->q a->G):G:=by obtain ⟨a,p,q⟩:=h;exact k a p q
theorem bz{A:Sort u0}{B:Sort u1}{p:A->B->Prop}(h:∃ a b,p a b)(k:∀ a b,p a b->G):G:=by obtain ⟨a,b,p⟩:=h;exact k a b p
theorem dS (h:p0/\p1/\p2/\p3) (k:p0->p1->p2->p3->G):G:=by
 obtain ⟨h0,h1,h2,h3⟩:=h
 exact k h0 h1 h2 h3
theorem ar{A:Sort u0}{p q r:A->Prop}(h:∃ a,p a/\q a/\r a)(k:∀ a,p a->q a->r a->G):G:=by obtain ⟨a,p,q,r⟩:=h;exact k a p q r
theorem au{A:Sort u0}{B:Sort u1}{p q:A->B->Prop}(h:∃ a b,p a b/\q a b)(k:∀ a b,p a b->q a b->G):G:=by obtain ⟨a,b,p,q⟩:=h;exact k a b p q
theorem cg{A:Sort u0}{p q r s:A->Prop}(h:∃ a,p a/\q a/\r a/\s a)(k:∀ a,p a->q a->r a->s a->G):G:=by obtain ⟨a,p,q,r,s⟩:=h;exact k a p q r s
theorem aA{A:Sort u0}{B:Sort u1}{p q r:A->B->Prop}(h:∃ a b,p a b/\q a b/\r a b)(k:∀ a b,p a b->q a b->r a b->G):G:=by obtain ⟨a,b,p,q,r⟩:=h;exact k a b p q r
theorem cG{A:Sort u0}{B:Sort u1}{C:Sort u2}{p q:A->B->C->Prop}(h:∃ a b c,p a b c/\q a b c)(k:∀ a b c,p a b c->q a b c->G):G:=by obtain ⟨a,b,c,p,q⟩:=h;exact k a b c p q
theorem uR{A:Sort u0}{p q r s t:A->Prop}(h:∃ a,p a/\q a/\r a/\s a/\t a)(k:∀ a,p a->q a->r a->s a->t a->G):G:=by obtain ⟨a,p,q,r,s,t⟩:=h;exact k a p q r s t
theorem ce{A:Sort u0}{B:Sort u1}{p q r s:A->B->Prop}(h:∃ a b,p a b/\q a b/\r a b/\s a b)(k:∀ a b,p a b->q a b->r a b->s a b->G):G:=by obtain ⟨a,b,p,q,r,s⟩:=h;exact k a b p q r s
theorem aX{A:Sort u0}{B:Sort u1}{C:Sort u2}{p q r:A->B->C->Prop}(h:∃ a b c,p a b c/\q a b c/\r a b c)(k:∀ a b c,p a b c->q a b c->r a b c->G):G:=by obtain ⟨a,b,c,p,q,r⟩:=h;exact k a b c p q r
theorem cQ{A:Sort u0}{B:Sort u1}{C:Sort u2}{D:Sort u3}{p q:A->B->C->D->Prop}(h:∃ a b c d,p a b c d/\q a b c d)(k:∀ a b c d,p a b c d->q a b c d->G):G:=by obtain ⟨a,b,c,d,p,q⟩:=h;exact k a b c d p q
theorem gJ{A:Sort u0}{p q r s t u:A->Prop}(h:∃ a,p a/\q a/\r a/\s a/\t a/\u a)(k:∀ a,p a->q a->r a->s a->t a->u a->G):G:=by obtain ⟨a,p,q,r,s,t,u⟩:=h;exact k a p q r s t u
theorem GJ{A:Sort u0}{B:Sort u1}{p q r s t:A->B->Prop}(h:∃ a b,p a b/\q a b/\r a b/\s a b/\t a b)(k:∀ a b,p a b->q a b->r a b->s a b->t a b->G):G:=by obtain ⟨a,b,p,q,r,s,t⟩:=h;exact k a b p q r s t
theorem gw{A:Sort u0}{B:Sort u1}{C:Sort u2}{p q r s:A->B->C->Prop}(h:∃ a b c,p a b c/\q a b c/\r a b c/\s a b c)(k:∀ a b c,p a b c->q a b c->r a b c->s a b c->G):G:=by obtain ⟨a,b,c,p,q,r,s⟩:=h;exact k a b c p q r s
theorem lF{A:Sort u0}{B:Sort u1}{C:Sort u2}{D:Sort u3}{p q r:A->B->C->D->Prop}(h:∃ a b c d,p a b c d/\q a b c d/\r a b c d)(k:∀ a b c d,p a b c d->q a b c d->r a b c d->G):G:=by obtain ⟨a,b,c,d,p,q,r⟩:=h;exact k a b c d p q r
theorem lP{A:Sort u0}{B:Sort u1}{C:Sort u2}{D:Sort u3}{E:Sort u4}{p q:A->B->C->D->E->Prop}(h:∃ a b c d e,p a b c d e/\q a b c d e)(k:∀ a b c d e,p a b c d e->q a b c d e->G):G:=by obtain ⟨a,b,c,d,e,p,q⟩:=h;exact k a b c d e p q
theorem zS{A:Sort u0}{p q r s t u v:A->Prop}(h:∃ a,p a/\q a/\r a/\s a/\t a/\u a/\v a)(k:∀ a,p a->q a->r a->s a->t a->u a->v a->G):G:=by obtain ⟨a,p,q,r,s,t,u,v⟩:=h;exact k a p q r s t u v
theorem As{A:Sort u0}{B:Sort u1}{p q r s t u:A->B->Prop}(h:∃ a b,p a b/\q a b/\r a b/\s a b/\t a b/\u a b)(k:∀ a b,p a b->q a b->r a b->s a b->t a b->u a b->G):G:=by obtain ⟨a,b,p,q,r,s,t,u⟩:=h;exact k a b p q r s t u
theorem i7{A:Sort u0}{B:Sort u1}{C:Sort u2}{D:Sort u3}{p q r s:A->B->C->D->Prop}(h:∃ a b c d,p a b c d/\q a b c d/\r a b c d/\s a b c d)(k:∀ a b c d,p a b c d->q a b c d->r a b c d->s a b c d->G):G:=by obtain ⟨a,b,c,d,p,q,r,s⟩:=h;exact k a b c d p q r s
theorem I9{A:Sort u0}{B:Sort u1}{C:Sort u2}{D:Sort u3}{E:Sort u4}{p q r:A->B->C->D->E->Prop}(h:∃ a b c d e,p a b c d e/\q a b c d e/\r a b c d e)(k:∀ a b c d e,p a b c d e->q a b c d e->r a b c d e->G):G:=by obtain ⟨a,b,c,d,e,p,q,r⟩:=h;exact k a b c d e p q r
theorem uh{A:Sort u0}{B:Sort u1}{C:Sort u2}{D:Sort u3}{E:Sort u4}{F:Sort u5}{p q:A->B->C->D->E->F->Prop}(h:∃ a b c d e f,p a b c d e f/\q a b c d e f)(k:∀ a b c d e f,p a b c d e f->q a b c d e f->G):G:=by obtain ⟨a,b,c,d,e,f,p,q⟩:=h;exact k a b c d e f p q
theorem ut{A:Sort u0}{B:Sort u1}{p q r s t u v:A->B->Prop}(h:∃ a b,p a b/\q a b/\r a b/\s a b/\t a b/\u a b/\v a b)(k:∀ a b,p a b->q a b->r a b->s a b->t a b->u a b->v a b->G):G:=by obtain ⟨a,b,p,q,r,s,t,u,v⟩:=h;exact k a b p q r s t u v
theorem tp{A:Sort u0}{B:Sort u1}{C:Sort u2}{p q r s t u:A->B->C->Prop}(h:∃ a b c,p a b c/\q a b c/\r a b c/\s a b c/\t a b c/\u a b c)(k:∀ a b c,p a b c->q a b c->r a b c->s a b c->t a b c->u a b c->G):G:=by obtain ⟨a,b,c,p,q,r,s,t,u⟩:=h;exact k a b c p q r s t u
theorem AJ{A:Sort u0}{B:Sort u1}{C:Sort u2}{D:Sort u3}{p q r s t:A->B->C->D->Prop}(h:∃ a b c d,p a b c d/\q a b c d/\r a b c d/\s a b c d/\t a b c d)(k:∀ a b c d,p a b c d->q a b c d->r a b c d->s a b c d->t a b c d->G):G:=by obtain ⟨a,b,c,d,p,q,r,s,t⟩:=h;exact k a b c d p q r s t
theorem Hh{A:Sort u0}{B:Sort u1}{C:Sort u2}{D:Sort u3}{E:Sort u4}{p q r s:A->B->C->D->E->Prop}(h:∃ a b c d e,p a b c d e/\q a b c d e/\r a b c d e/\s a b c d e)(k:∀ a b c d e,p a b c d e->q a b c d e->r a b c d e->s a b c d e->G):G:=by obtain ⟨a,b,c,d,e,p,q,r,s⟩:=h;exact k a b c d e p q r s
theorem j6{A:Sort u0}{B:Sort u1}{C:Sort u2}{D:Sort u3}{E:Sort u4}{F:Sort u5}{H:Sort u6}{p q:A->B->C->D->E->F->H->Prop}(h:∃ a b c d e f g,p a b c d e f g/\q a b c d e f g)(k:∀ a b c d e f g,p a b c d e f g->q a b c d e f g->G):G:=by obtain ⟨a,b,c,d,e,f,g,p,q⟩:=h;exact k a b c d e f g p q
theorem wW{A:Sort u0}{B:Sort u1}{C:Sort u2}{p q r s t u v:A->B->C->Prop}(h:∃ a b c,p a b c/\q a b c/\r a b c/\s a b c/\t a b c/\u a b c/\v a b c)(k:∀ a b c,p a b c->q a b c->r a b c->s a b c->t a b c->u a b c->v a b c->G):G:=by obtain ⟨a,b,c,p,q,r,s,t,u,v⟩:=h;exact k a b c p q r s t u v
theorem Da{A:Sort u0}{B:Sort u1}{C:Sort u2}{D:Sort u3}{E:Sort u4}{p q r s t:A->B->C->D->E->Prop}(h:∃ a b c d e,p a b c d e/\q a b c d e/\r a b c d e/\s a b c d e/\t a b c d e)(k:∀ a b c d e,p a b c d e->q a b c d e->r a b c d e->s a b c d e->t a b c d e->G):G:=by obtain ⟨a,b,c,d,e,p,q,r,s,t⟩:=h;exact k a b c d e p q r s t
theorem fV{A:Sort u0}{B:Sort u1}{C:Sort u2}{D:Sort u3}{E:Sort u4}{F:Sort u5}{H:Sort u6}{I:Sort u7}{J:Sort u8}{K:Sort u9}{L:Sort u10}{M:Sort u11}{p:A->B->C->D->E->F->H->I->J->K->L->M->Prop}(h:∃ a b c d e f g i j l m n,p a b c d e f g i j l m n)(k:∀ a b c d e f g i j l m n,p a b c d e f g i j l m n->G):G:=by obtain ⟨a,b,c,d,e,f,g,i,j,l,m,n,p⟩:=h;exact k a b c d e f g i j l m n p
theorem wZ{A:Sort u0}{B:Sort u1}{C:Sort u2}{D:Sort u3}{p q r s t u v w x y:A->B->C->D->Prop}(h:∃ a b c d,p a b c d/\q a b c d/\r a b c d/\s a b c d/\t a b c d/\u a b c d/\v a b c d/\w a b c d/\x a b c d/\y a b c d)(k:∀ a b c d,p a b c d->q a b c d->r a b c d->s a b c d->t a b c d->u a b c d->v a b c d->w a b c d->x a b c d->y a b c d->G):G:=by obtain ⟨a,b,c,d,p,q,r,s,t,u,v,w,x,y⟩:=h;exact k a b c d p q r s t u v w x y
theorem bA {a b:OF}(h:(a&&b)=vj):a=vj/\b=true:=Qf.mp h
end
theorem aB {α β:Type}{f:α->β}{l:uq α}{b:β}{G:Prop}(h:b∈l.map f) (k:∀ a,a∈l->f a=b->G):G:=ag (Tm.mp h) k
theorem a7 {α β:Type}{o:NX α}{f:α->NX β}{b:β}{G:Prop}(h:o.bind f=ti b) (k:∀ a,o=ti a->f a=ti b->G):G:=ag (Uy.mp h) k
theorem b9 {α β:Type}{o:NX α}{f:α->β}{b:β}{G:Prop}(h:o.map f=ti b) (k:∀ a,o=ti a->f a=b->G):G:=ag (Rx.mp h) k
theorem bM {α:Type}{o:NX α}{G:Prop}(h:o.isSome=vj) (k:∀ a,o=ti a->G):G:=al (Sj.mp h) k
theorem yv {α:Type}{p:α->OF}{l:uq α}{a:α}{G:Prop}(h:a∈l.filter p) (k:a∈l->p a=vj->G):G:=ae (QB.mp h) k
theorem aW {a b:OF}{G:Prop}(h:(a&&b)=vj) (k:a=vj->b=vj->G):G:=ae (Qf.mp h) k
open PySem
inductive Mode where
 | sh | top | deep
 deriving DecidableEq
inductive V where
 | d (x:N9)
 | dic0
 | dicI (ks:uq N3)
 | dicT (ks:uq (uq N3))
 | rule (c:N3) (d:N9) (n:N3)
 | err (c:If)
set_option genInjectivity true in
inductive Out (α:Type) where
 | ok (a:α)
 | exc (c:If)
 | bad
namespace Out
noncomputable def bind:Out α->(α->Out β)->Out β
 | .ok a,f=>f a
 | .exc c,_=>.exc c
 | .bad,_=>.bad
@[simp] theorem ok_bind (a:α) (f:α->Out β):(Out.ok a).bind f=f a:=rfl
@[simp] theorem exc_bind (c:If) (f:α->Out β):(Out.exc c:Out α).bind f = .exc c:=rfl
@[simp] theorem Mc (f:α->Out β):(Out.bad:Out α).bind f = .bad:=rfl
noncomputable def calm:Out α->Out α
 | .ok a=>.ok a
 | _=>.bad
@[simp] theorem calm_ok (a:α):(Out.ok a).calm = .ok a:=rfl
theorem _root_.Internal.nB {α:Type}{a:α}{G:Prop}(h:(Out.bad:Out α) = .ok a):G:=by cases h
theorem _root_.Internal.nE {α:Type}{a:α}{c:If}{G:Prop}(h:(Out.exc c:Out α) = .ok a):G:=by cases h
theorem _root_.Internal.nN {α:Type}{a:α}{G:Prop}(h:(NI:NX α)=ti a):G:=by cases h
theorem _root_.Internal.nM {α:Type}{a:α}{G:Prop}(h:ti a=(NI:NX α)):G:=by cases h
theorem _root_.Internal.nF {G:Prop}(h:NY=vj):G:=by cases h
theorem _root_.Internal.nT {G:Prop}(h:vj=NY):G:=by cases h
theorem Bh {α β:Type}{o:Out α}{f:α->Out β}{b:β}(h:o.bind f = .ok b):∃ a,o = .ok a/\f a = .ok b:=by
 cases o with
 | ok a=>exact ⟨a,rfl,h⟩
 | exc c=>cases h
 | bad=>cases h
theorem bind_k {α β:Type}{o:Out α}{f:α->Out β}{b:β}{G:Prop}(h:o.bind f = .ok b) (k:∀ a,o = .ok a->f a = .ok b->G):G:=ag (Bh h) k
end Out
inductive BOp where
 | add | sub | mul | fdiv | mod | xor | cat
 deriving DecidableEq
inductive COp where
 | eq | ne | lt | gt | ge | isin | notin | is | isnot | snin | seq | sne
 deriving DecidableEq
inductive B1 where
 | len | list | tuple | sorted | max | slen | str | int | intB
 deriving DecidableEq
inductive TMe where
 | join | split | find | part
 deriving DecidableEq
inductive B2 where
mutual
inductive E where
 | name (x:If)
 | int (i:N3)
 | str (s:If)
 | bool (b:OF)
 | none
 | bin (o:BOp) (a b:E)
 | neg (a:E)
 | not (a:E)
 | cmp (o:COp) (a b:E)
 | and (a b:E)
 | or (a b:E)
 | list (es:Es)
 | tup (es:Es)
 | edic
 | comp (elt:E) (x:If) (it:It)
 | compif (elt:E) (x:If) (it:It) (c:E)
 | sub (a i:E)
 | shi (a hi:E)
 | rev (a:E)
 | attr (a:E) (n:If)
 | bi1 (f:B1) (a:E)
 | isi (a:E) (t:If)
 | call (f:If) (es:Es)
 | isE (x t:If)
 | sm (o:TMe) (a b:E)
 | fig
 | sat (a i:E)
 | ssl (lo:OF) (a i:E)
inductive Es where
 | nil
 | cons (e:E) (es:Es)
inductive It where
 | e (a:E)
 | s (a:E)
 | r1 (n:E)
 | r2 (a b:E)
end
abbrev St:=If->NX (V×Mode)
abbrev Calls:=If->NX (uq V->Out (V×Mode))
noncomputable def upd (σ:St) (x:If) (v:V×Mode):St:=λy=>if y=x then ti v else σ y
noncomputable def isI:N9->OF
 | .int _=>vj
 | _=>NY
noncomputable def sx:N9->OF
 | .none | .bool _ | .int _ | .str _=>vj
 | .tuple xs=>xs.all isI
 | .list _ | .dict _=>NY
noncomputable def nu:V->OF
 | .d x=>sx x
 | _=>NY
noncomputable def mk (v:V):V×Mode:=(v,if nu v then .deep else .sh)
noncomputable def fresh (xs:uq N9):Mode:=if xs.all sx then .deep else .top
noncomputable def lim:Nat:=1000000
noncomputable def okc (d:N9):Bool:=d.canLay0&&decide (d.depth<=64)
noncomputable def sI (i:N3):V×Mode:=(.d (.int i),.deep)
noncomputable def sB (b:OF):V×Mode:=(.d (.bool b),.deep)
noncomputable def cI:N9->NX N3
 | .int i=>ti i
 | _=>NI
noncomputable def aR:uq N9->NX (uq N3)
 | []=>ti []
 | .int i::r=>(aR r).map (i :: ·)
 | _::_=>NI
noncomputable def d6:N9->NX (uq N3)
 | .tuple xs=>aR xs
 | _=>NI
noncomputable def am (o:NX α) (f:α->Out β):Out β:=match o with
 | some a=>f a
 | none=>.bad
@[simp] theorem gK (a:α) (f:α->Out β):am (ti a) f=f a:=rfl
theorem aN (h:am o f = .ok r):∃ a,o=ti a/\f a = .ok r:=by
 cases o with
 | some a=>exact ⟨a,rfl,h⟩
 | none=>cases h
theorem aL {α β:Type}{o:NX α}{f:α->Out β}{r:β}{G:Prop}(h:am o f = .ok r) (k:∀ a,o=ti a->f a = .ok r->G):G:=ag (aN h) k
def NE (o:Out α):Prop:=∀ c,o≠.exc c
theorem NE.ok:NE (Out.ok a):=λuu h=>by cases h
theorem NE.bad:NE (Out.bad:Out α):=λuu h=>by cases h
theorem NE.calm {α:Type}{o:Out α}:NE o.calm:=λc h=>by cases o<;>cases h
theorem NE.opt (h:∀ a,NE (f a)):NE (am o f):=by
 cases o with
 | some a=>exact h a
 | none=>exact .bad
theorem NE.ite [VP c] (ha:NE a) (hb:NE b):NE (if c then a else b):=by
 by_cases h:c
 ·rw[NZ h]; exact ha
 ·rw[N0 h]; exact hb
theorem NE.bind (ho:NE o) (h:∀ a,NE (f a)):NE (o.bind f):=by
 cases o with
 | ok a=>exact h a
 | exc c=>exact N5 rfl (ho c)
 | bad=>exact .bad
noncomputable def asL:N9->NX (uq N9)
 | .list xs=>ti xs
 | _=>NI
noncomputable def asD:V->NX N9
 | .d x=>ti x
 | _=>NI
@[simp] theorem pd (x:N9):asD (.d x)=ti x:=rfl
noncomputable def isN:N9->OF
 | .none=>vj
 | _=>NY
noncomputable def asS:N9->NX Str
 | .str x=>ti x
 | _=>NI
theorem cM (h:asS x=ti i):x = .str i:=by cases x<;>cases h; rfl
theorem b0 (h:cI x=ti i):x = .int i:=by cases x<;>cases h; rfl
theorem cH (h:asL x=ti i):x = .list i:=by cases x<;>cases h; rfl
theorem ba (h:asD x=ti i):x = .d i:=by cases x<;>cases h; rfl
theorem ss (h:isN x=vj):x = .none:=by cases x<;>first | rfl | cases h
noncomputable def i2 (x y:N9) (f:N3->N3->Out β):Out β:=am (cI x) λa=>am (cI y) λb=>f a b
noncomputable def s2 (x y:N9) (f:Str->Str->Out β):Out β:=am (asS x) λa=>am (asS y) λb=>f a b
theorem Aq (h:s2 x y f = .ok r):∃ a b,x = .str a/\y = .str b/\f a b = .ok r:=by
 refine aL h λa i h=>?_
 refine aL h λb g h=>?_
 exact ⟨a,b,cM i,cM g,h⟩
noncomputable def sS (x:Str):V×Mode:=(.d (.str x),.deep)
theorem fH (h:i2 x y f = .ok r):∃ a b,x = .int a/\y = .int b/\f a b = .ok r:=by
 refine aL h λa i h=>?_
 refine aL h λb g h=>?_
 exact ⟨a,b,b0 i,b0 g,h⟩
noncomputable def d2 (x y:V) (f:N9->N9->Out β):Out β:=am (asD x) λa=>am (asD y) λb=>f a b
theorem eL (h:d2 x y f = .ok r):∃ a b,x = .d a/\y = .d b/\f a b = .ok r:=by
 refine aL h λa i h=>?_
 refine aL h λb g h=>?_
 exact ⟨a,b,ba i,ba g,h⟩
noncomputable def qr (x y:N9):Out (V×Mode):=match asL x with
 | some a=>am (asL y) λb=>if a.length+b.length<=lim then .ok (.d (.list (a++b)),fresh (a++b)) else .bad
 | none=>i2 x y λa b=>.ok (sI (a+b))
noncomputable def dK (o:BOp) (x y:N9):Out (V×Mode):=match o with
 | .add=>qr x y
 | .sub=>i2 x y λa b=>.ok (sI (a-b))
 | .mul=>i2 x y λa b=>if a.natAbs<2^63\/b.natAbs<2^63 then .ok (sI (a*b)) else .bad
 | .fdiv=>i2 x y λa b=>if b=0\/1000000000<=b.natAbs then .bad else .ok (sI (a.fdiv b))
 | .mod=>i2 x y λa b=>if b=0 then .bad else .ok (sI (a.fmod b))
 | .xor=>i2 x y λa b=>.ok (sI (TV a b))
 | .cat=>s2 x y λa b=>if a.length+b.length<=lim then .ok (sS (a++b)) else .bad
theorem Bn:NE (dK o x y):=by
 have h:∀ (f:N3->N3->Out (V×Mode)),(∀ a b,NE (f a b))->NE (i2 x y f):=λf hf=>.opt λa=>.opt λb=>hf a b
 cases o with
 | add=>
  show NE (qr x y)
  unfold qr
  cases asL x with
  | some a=>exact .opt λb=>.ite .ok .bad
  | none=>exact h _ λuu uu=>.ok
 | sub=>exact h _ λuu uu=>.ok
 | mul=>exact h _ λuu uu=>.ite .ok .bad
 | fdiv=>exact h _ λuu uu=>.ite .bad .ok
 | mod=>exact h _ λuu uu=>.ite .bad .ok
 | xor=>exact h _ λuu uu=>.ok
 | cat=>exact .opt λuu=>.opt λuu=>.ite .ok .bad
noncomputable def inV (k:N9) (c:V):Out Bool:=match c with
 | .d x=>am (asL x) λg=>if okc k&&okc (.list g) then .ok (g.any λy=>P7 y k) else .bad
 | .dicI ks=>am (cI k) λi=>.ok (decide (i∈ks))
 | .dicT ks=>am (d6 k) λi=>.ok (decide (i∈ks))
 | .dic0=>if (cI k).isSome||(d6 k).isSome then .ok NY else .bad
 | .rule _ _ _=>.bad
 | .err _=>.bad
theorem wb:NE (inV k c):=by
 cases c with
 | d x=>exact .opt λuu=>.ite .ok .bad
 | dicI ks=>exact .opt λuu=>.ok
 | dicT ks=>exact .opt λuu=>.ok
 | dic0=>exact .ite .ok .bad
 | rule _ _ _=>exact .bad
 | err _=>exact .bad
noncomputable def cq (o:COp) (x y:V):Out Bool:=match o with
 | .eq=>d2 x y λa b=>if okc a&&okc b then .ok (P7 a b) else .bad
 | .ne=>d2 x y λa b=>if okc a&&okc b then .ok (!PyData.eqv a b) else .bad
 | .lt=>d2 x y λa b=>i2 a b λa b=>.ok (decide (a<b))
 | .gt=>d2 x y λa b=>i2 a b λa b=>.ok (decide (b<a))
 | .ge=>d2 x y λa b=>i2 a b λa b=>.ok (decide (b<=a))
 | .isin=>am (asD x) λk=>inV k y
 | .notin=>d2 x y λk c=>(inV k (.d c)).bind λb=>.ok (!b)
 | .is=>d2 x y λa b=>if isN b then .ok (isN a) else .bad
 | .isnot=>d2 x y λa b=>if isN b then .ok (!isN a) else .bad
 | .snin=>d2 x y λk c=>s2 k c λk c=>.ok (Q8 c k 0 c.length 1).isEmpty
 | .seq=>d2 x y λa b=>s2 a b λa b=>.ok (a==b)
 | .sne=>d2 x y λa b=>s2 a b λa b=>.ok (!(a==b))
theorem Cu:NE (cq o x y):=by
 have h:∀ (f:N9->N9->Out OF),(∀ a b,NE (f a b))->NE (d2 x y f):=λf hf=>.opt λa=>.opt λb=>hf a b
 cases o with
 | eq=>exact h _ λuu uu=>.ite .ok .bad
 | ne=>exact h _ λuu uu=>.ite .ok .bad
 | isin=>exact .opt λuu=>wb
 | notin=>exact h _ λuu uu=>.bind wb λuu=>.ok
 | is=>exact h _ λuu uu=>.ite .ok .bad
 | isnot=>exact h _ λuu uu=>.ite .ok .bad
 | _=>exact h _ λuu uu=>.opt λuu=>.opt λuu=>.ok
noncomputable def bN (i:N3) (n:N7):NX Nat:=if 0<=i then (if i<n then ti i.toNat else NI) else (if -(n:N3)<=i then ti (i+n).toNat else NI)
noncomputable def asT:N9->NX (uq N9)
 | .tuple xs=>ti xs
 | _=>NI
theorem mI (h:asT x=ti i):x = .tuple i:=by cases x<;>cases h; rfl
noncomputable def elem (x:N9) (i:N3):NX PyData:=match asL x with
 | some xs=>(bN i xs.length).bind λk=>xs[k]?
 | none=>match asT x with
  | some xs=>(bN i xs.length).bind λk=>xs[k]?
  | none=>NI
noncomputable def fC (x y:N9):Out (V×Mode):=am (cI y) λi=>am (elem x i) λz=>.ok (mk (.d z))
theorem Co:NE (fC x y):=.opt λuu=>.opt λuu=>.ok
noncomputable def m0:N9->N9->Out (V×Mode)
 | .list xs,.int i=>if 0<=i/\i<2^62 then .ok (.d (.list (xs.take i.toNat)),fresh (xs.take i.toNat)) else .bad
 | _,_=>.bad
noncomputable def yl:N9->Out (V×Mode)
 | .list xs=>.ok (.d (.list xs.reverse),fresh xs.reverse)
 | _=>.bad
noncomputable def gq:uq N9->NX (uq (uq N3))
 | []=>ti []
 | .list xs::r=>(aR xs).bind λi=>(gq r).map (i :: ·)
 | _::_=>NI
noncomputable def aa (xs:uq N3):PyData:=.list (xs.map .int)
noncomputable def aP (xs:uq N3):PyData:=.tuple (xs.map .int)
noncomputable def af (t:uq (uq N3)):PyData:=.list (t.map aa)
noncomputable def ltL:uq N3->uq N3->OF
 | [],[]=>NY
 | [],_::_=>vj
 | _::_,[]=>NY
 | a::as,b::bs=>if a=b then ltL as bs else decide (a<b)
noncomputable def dO:uq N9->NX (uq (uq N3))
 | []=>ti []
 | x::r=>(d6 x).bind λk=>(dO r).map (k :: ·)
noncomputable def bl (ks:uq (uq N3)):uq (uq N3):=ks.mergeSort λa b=>!ltL b a
noncomputable def eY (xs:uq N9):Out (V×Mode):=match dO xs with
 | some g=>if g.length<2\/[]∉g then .ok (.d (.list ((bl g).map aP)),fresh ((bl g).map aP)) else .bad
 | none=>am (gq xs) λg=>.ok (.d (.list ((bl g).map aa)),fresh ((bl g).map aa))
theorem uK:NE (eY xs):=by
 unfold eY
 cases dO xs with
 | some ks=>exact .ite .ok .bad
 | none=>exact .opt λuu=>.ok
noncomputable def cZ (xs:uq N9):Out (V×Mode) :=
 if xs.length<64 then (match aR xs with
  | some g=>.ok (.d (aa (g.mergeSort (λa b=>decide (a<=b)))),.deep)
  | none=>eY xs)
 else if xs.length<128 then am (aR xs) λg=>if ∀ i∈g,0<=i then .ok (.d (aa (g.mergeSort (λa b=>decide (a<=b)))),.deep) else .bad
 else .bad
noncomputable def fQ (x y:Str):uq PyData:=[.str (RC x y).1,.str (RC x y).2.1,.str (RC x y).2.2]
noncomputable def bx (t:Str):NX Nat:=(Sz 100).find? λn=>oD (Uz (n:N3))==t
noncomputable def fy:uq N9->NX (uq Str)
 | []=>ti []
 | x::r=>(asS x).bind λi=>(fy r).map (i :: ·)
noncomputable def smV (o:TMe) (s:Str) (y:N9):Out (V×Mode):=match o with
 | .join=>am (asL y) λl=>am (fy l) λts=>if YQ s ts=vj/\(TY s ts).length<=lim then .ok (sS (TY s ts)) else .bad
 | .split=>am (asS y) λt=>if (t.length==0)=NY/\s.length<lim then .ok (.d (.list ((Txt.split s t).map .str)),.deep) else .bad
 | .find=>am (asS y) λt=>.ok (sI (SR s t))
 | .part=>am (asS y) λt=>if (t.length==0)=NY/\s.length<lim/\t.length<=lim then .ok (.d (.tuple (fQ s t)),.deep) else .bad
theorem DD:NE (smV o s y):=by
 cases o with
 | join=>exact .opt λuu=>.opt λuu=>.ite .ok .bad
 | find=>exact .opt λuu=>.ok
 | _=>exact .opt λuu=>.ite .ok .bad
noncomputable def qg (x y:N9):Out (V×Mode):=am (asS x) λt=>am (cI y) λi=>if 0<=i/\t.length<=lim then am (t.cps[i.toNat]?) λc=>.ok (sS ⟨#[c]⟩) else .bad
theorem A6:NE (qg x y):=.opt λuu=>.opt λuu=>.ite (.opt λuu=>.ok) .bad
noncomputable def tA (lo:OF) (x:Str) (i:N3):Str:=if lo=vj then R1 x (ti i) NI else R1 x NI (ti i)
noncomputable def qX (lo:OF) (x y:N9):Out (V×Mode):=am (asS x) λt=>am (cI y) λi=>if t.length<=lim then .ok (sS (tA lo t i)) else .bad
theorem BY:NE (qX lo x y):=.opt λuu=>.opt λuu=>.ite .ok .bad
noncomputable def figS:Str:=oD "0123456789"
noncomputable def jh:uq N3->NX N3
 | []=>NI
 | x::xs=>ti (xs.foldl (λa b=>if a<b then b else a) x)
noncomputable def b1D (f:B1) (v:V):Out (V×Mode):=am (asD v) λx=>match f with
 | .len=>(match asT x with
  | some g=>.ok (sI g.length)
  | none=>am (asL x) λg=>.ok (sI g.length))
 | .list=>(match asT x with
  | some g=>.ok (.d (.list g),fresh g)
  | none=>am (asL x) λg=>.ok (.d (.list g),fresh g))
 | .tuple=>am (asL x) λg=>.ok (.d (.tuple g),if g.all sx then .deep else .sh)
 | .sorted=>am (asL x) λg=>cZ g
 | .max=>am (asL x) λg=>am ((aR g).bind jh) λi=>.ok (sI i)
 | .slen=>am (asS x) λt=>.ok (sI t.length)
 | .str=>am (cI x) λi=>if i.natAbs<1000000/\(oD (Uz i)).length<=lim then .ok (sS (oD (Uz i))) else .bad
 | .int=>am (asS x) λt=>am (bx t) λi=>.ok (sI i)
 | .intB=>(match x with | .bool b=>.ok (sI (if b then 1 else 0)) | _=>.bad)
theorem Du:NE (b1D f v):=.opt λx=>by
 cases f with
 | len=>
  show NE (match asT x with | some g=>Out.ok (sI g.length) | none=>am (asL x) λg=>.ok (sI g.length))
  cases asT x with
  | some g=>exact .ok
  | none=>exact .opt λuu=>.ok
 | list=>
  show NE (match asT x with | some g=>Out.ok (V.d (.list g),fresh g) | none=>am (asL x) λg=>.ok (V.d (.list g),fresh g))
  cases asT x with
  | some g=>exact .ok
  | none=>exact .opt λuu=>.ok
 | tuple=>exact .opt λuu=>.ok
 | sorted=>
  refine .opt λg=>.ite ?_ (.ite (.opt λuu=>.ite .ok .bad) .bad)
  cases aR g with
  | some ns=>exact .ok
  | none=>exact uK
 | max=>exact .opt λuu=>.opt λuu=>.ok
 | slen=>exact .opt λuu=>.ok
 | str=>exact .opt λuu=>.ite .ok .bad
 | int=>exact .opt λuu=>.opt λuu=>.ok
 | intB=>cases x<;>first | exact .ok | exact .bad
noncomputable def tK:V->NX (uq (uq N3))
 | .dicT ks=>ti ks
 | _=>NI
theorem xj (h:tK v=ti ks):v = .dicT ks:=by
 cases v<;>cases h
 rfl
noncomputable def pi (f:B1) (ks:uq (uq N3)):Out (V×Mode):=if f = .list/\ks.length<=lim then .ok (.d (.list (ks.map aP)),fresh (ks.map aP)) else .bad
noncomputable def b1V (f:B1) (v:V):Out (V×Mode):=match tK v with
 | some ks=>pi f ks
 | none=>b1D f v
theorem CZ:NE (b1V f v):=by
 unfold b1V
 cases tK v with
 | some ks=>exact .ite .ok .bad
 | none=>exact Du
noncomputable def rx:N9->N7
 | .none=>0
 | .bool _=>1
 | .int _=>2
 | .str _=>3
 | .list _=>4
 | .tuple _=>5
 | .dict _=>6
noncomputable def nt (t:If) (k:N7):NX Bool :=
 if t = "int" then ti (k==2||k==1) else if t = "bool" then ti (k==1) else if t = "list" then ti (k==4) else if t = "tuple" then ti (k==5) else if t = "str" then ti (k==3) else NI
noncomputable def g7 (v:V) (t:If):Out Bool:=am (asD v) λx=>am (nt t (rx x)) .ok
theorem rp {t:If}{k:N7}{b:OF}{G:Prop}(h:nt t k=ti b) (c1:t = "int" -> (k==2||k==1)=b->G) (c2:t = "bool" -> (k==1)=b->G) (c3:t = "list" -> (k==4)=b->G) (c4:t = "tuple" -> (k==5)=b->G) (c5:t = "str" -> (k==3)=b->G):G:=by
 unfold nt at h
 by_cases q:t = "int"
 ·rw[NZ q] at h; exact c1 q (Gt h)
 rw[N0 q] at h
 by_cases q:t = "bool"
 ·rw[NZ q] at h; exact c2 q (Gt h)
 rw[N0 q] at h
 by_cases q:t = "list"
 ·rw[NZ q] at h; exact c3 q (Gt h)
 rw[N0 q] at h
 by_cases q:t = "tuple"
 ·rw[NZ q] at h; exact c4 q (Gt h)
 rw[N0 q] at h
 by_cases q:t = "str"
 ·rw[NZ q] at h; exact c5 q (Gt h)
 rw[N0 q] at h
 cases h
theorem xL (h:g7 v t = .ok b):∃ x,v = .d x/\nt t (rx x)=ti b:=by
 obtain ⟨x,i,h⟩:=aN h
 obtain ⟨c,g,h⟩:=aN h
 exact ⟨x,ba i,by rw[g,Out.ok.inj h]⟩
theorem B9:NE (g7 v t):=.opt λuu=>.opt λuu=>.ok
noncomputable def aq:V->Out OF
 | .d (.bool b)=>.ok b
 | _=>.bad
noncomputable def vA:V->NX (N3×N9×N3)
 | .rule c d n=>ti (c,d,n)
 | _=>NI
theorem uG (h:vA x=ti q):x = .rule q.1 q.2.1 q.2.2:=by cases x<;>cases h; rfl
noncomputable def pf:V->NX If
 | .err c=>ti c
 | _=>NI
theorem wI (h:pf x=ti c):x = .err c:=by cases x<;>cases h; rfl
noncomputable def kn (x:V) (n:If):Out (V×Mode):=am (vA x) λq=>if n = "count" then .ok (sI q.1) else if n = "full" then .ok (mk (.d q.2.1)) else if n = "size" then .ok (sI q.2.2) else .bad
theorem w5:NE (kn x n):=.opt λuu=>.ite .ok (.ite .ok (.ite .ok .bad))
noncomputable def excNames:uq String:=["PickError", "NoChoice", "NoThing", "NoExchange", "NoWeights", "NoRule"]
noncomputable def pZ (C:Calls) (c t:If):Out (V×Mode):=if t∈excNames then am (C t) λuu=>.ok (sB (decide (t=c\/t = "PickError"))) else .bad
noncomputable def fieldNames:uq String:=["count", "full", "size"]
noncomputable def dz (a b:N3):uq PyData:=(Sz (b-a).toNat).map λ(k:N7)=>.int (a+k)
noncomputable def cA (a b:N3):Out (uq N9×Mode) :=
 if (b-a).toNat<=lim/\-(2^60)<=a/\a<2^60/\-(2^60)<=b/\b<2^60 then .ok (dz a b,.deep) else .bad
noncomputable def bj (f:N9->Out (NX (V×Mode))):uq N9->Out (uq N9×OF)
 | []=>.ok ([],vj)
 | x::xs=>(f x).bind λr=>match r with
  | none=>bj f xs
  | some p=>am (asD p.1) λy=>(bj f xs).bind λq=>.ok (y::q.1,decide (p.2 = .deep)&&q.2)
noncomputable def bH:uq (V×Mode)->NX (uq N9)
 | []=>ti []
 | (.d x,_)::r=>(bH r).map (x :: ·)
 | _::_=>NI
noncomputable def allDeep (l:uq (V×Mode)):Bool:=l.all λp=>decide (p.2 = .deep)
noncomputable def i9:V->NX (uq N9)
 | .d (.list xs)=>ti xs
 | _=>NI
theorem jI (h:i9 v=ti xs):v = .d (.list xs):=by
 unfold i9 at h
 split at h
 ·cases h; rfl
 ·cases h
noncomputable def itV (r:V×Mode):Out (uq N9×Mode):=match i9 r.1 with
 | some xs=>.ok (xs,r.2)
 | none=>.bad
mutual
noncomputable def ev (C:Calls):E->St->Out (V×Mode)
 | .name x,σ=>match σ x with | some p=>.ok (mk p.1) | none=>.bad
 | .int i,_=>.ok (sI i)
 | .str s,_=>.ok (.d (.str (oD s)),.deep)
 | .bool b,_=>.ok (sB b)
 | .none,_=>.ok (.d .none,.deep)
 | .bin o a b,σ=>(ev C a σ).bind λx=>(ev C b σ).bind λy=>match x.1,y.1 with | .d x,.d y=>dK o x y | _,_=>.bad
 | .neg a,σ=>(ev C a σ).bind λx=>match x.1 with | .d (.int i)=>.ok (sI (-i)) | _=>.bad
 | .not a,σ=>(ev C a σ).bind λx=>(aq x.1).bind λb=>.ok (sB (!b))
 | .cmp o a b,σ=>(ev C a σ).bind λx=>(ev C b σ).bind λy=>(cq o x.1 y.1).bind λb=>.ok (sB b)
 | .and a b,σ=>(ev C a σ).bind λx=>(aq x.1).bind λt=>if t then (ev C b σ).bind λy=>(aq y.1).bind λu=>.ok (sB u) else .ok (sB NY)
 | .or a b,σ=>(ev C a σ).bind λx=>(aq x.1).bind λt=>if t then .ok (sB vj) else (ev C b σ).bind λy=>(aq y.1).bind λu=>.ok (sB u)
 | .list es,σ=>(evs C es σ).bind λl=>match bH l with
  | some xs=>.ok (.d (.list xs),if allDeep l then .deep else .top)
  | none=>.bad
 | .tup es,σ=>(evs C es σ).bind λl=>match bH l with
  | some xs=>.ok (.d (.tuple xs),if allDeep l then .deep else .sh)
  | none=>.bad
 | .edic,_=>.ok (.dic0,.deep)
 | .comp elt x it,σ=>(be C it σ).bind λq=>(bj (λy=>(ev C elt (upd σ x (mk (.d y)))).bind λr=>.ok (ti r)) q.1).bind λr=>.ok (.d (.list r.1),if r.2 then .deep else .top)
 | .compif elt x it c,σ=>(be C it σ).bind λq=>(bj (λy=>(ev C c (upd σ x (mk (.d y)))).bind λt=>(aq t.1).bind λb=>if b then (ev C elt (upd σ x (mk (.d y)))).bind λr=>.ok (ti r) else .ok NI) q.1).bind λr=>.ok (.d (.list r.1),if r.2 then .deep else .top)
 | .sub a i,σ=>(ev C a σ).bind λx=>(ev C i σ).bind λy=>match x.1,y.1 with | .d x,.d y=>fC x y | _,_=>.bad
 | .shi a i,σ=>(ev C a σ).bind λx=>(ev C i σ).bind λy=>match x.1,y.1 with | .d x,.d y=>m0 x y | _,_=>.bad
 | .rev a,σ=>(ev C a σ).bind λx=>match x.1 with | .d x=>yl x | _=>.bad
 | .attr a n,σ=>am (C "Rule") λuu=>(ev C a σ).bind λx=>kn x.1 n
 | .bi1 f a,σ=>(ev C a σ).bind λx=>b1V f x.1
 | .isi a t,σ=>(ev C a σ).bind λx=>(g7 x.1 t).bind λb=>.ok (sB b)
 | .call f es,σ=>match C f with
  | some g=>(evs C es σ).bind λl=>g (l.map (·.1))
  | none=>.bad
 | .isE x t,σ=>am (σ x) λp=>am (pf p.1) λc=>pZ C c t
 | .sm o a b,σ=>(ev C a σ).bind λx=>am ((asD x.1).bind asS) λs=>(ev C b σ).bind λy=>am (asD y.1) λy=>smV o s y
 | .fig,_=>.ok (sS figS)
 | .sat a i,σ=>(ev C a σ).bind λx=>(ev C i σ).bind λy=>d2 x.1 y.1 λx y=>qg x y
 | .ssl lo a i,σ=>(ev C a σ).bind λx=>(ev C i σ).bind λy=>d2 x.1 y.1 λx y=>qX lo x y
noncomputable def evs (C:Calls):Es->St->Out (uq (V×Mode))
 | .nil,_=>.ok []
 | .cons e es,σ=>(ev C e σ).bind λx=>(evs C es σ).bind λl=>.ok (x::l)
noncomputable def be (C:Calls):It->St->Out (uq N9×Mode)
 | .e a,σ=>(ev C a σ).bind itV
 | .s a,σ=>(ev C a σ).bind λx=>am (asD x.1) λd=>am (asS d) λt=>if t.length<=lim then .ok (t.cps.toList.map λc=>.str ⟨#[c]⟩,.deep) else .bad
 | .r1 n,σ=>(ev C n σ).bind λx=>match x.1 with | .d (.int n)=>cA 0 n | _=>.bad
 | .r2 a b,σ=>(ev C a σ).bind λx=>(ev C b σ).bind λy=>match x.1,y.1 with | .d (.int a),.d (.int b)=>cA a b | _,_=>.bad
end
theorem dB (C:Calls) (x:If) (σ:St):ev C (.name x) σ=(match σ x with | some p=>.ok (mk p.1) | none=>.bad):=rfl
theorem eN (C:Calls) (i:N3) (σ0:St):ev C (.int i) σ0=(.ok (sI i)):=rfl
theorem sP (C:Calls) (s:If) (σ0:St):ev C (.str s) σ0=(.ok (.d (.str (oD s)),.deep)):=rfl
theorem qq (C:Calls) (b:OF) (σ0:St):ev C (.bool b) σ0=(.ok (sB b)):=rfl
theorem rI (C:Calls) (σ0:St):ev C .none σ0=(.ok (.d .none,.deep)):=rfl
theorem mL (C:Calls) (o:BOp) (a:E) (b:E) (σ:St):ev C (.bin o a b) σ=((ev C a σ).bind λx=>(ev C b σ).bind λy=>match x.1,y.1 with | .d x,.d y=>dK o x y | _,_=>.bad):=rfl
theorem km (C:Calls) (a:E) (σ:St):ev C (.neg a) σ=((ev C a σ).bind λx=>match x.1 with | .d (.int i)=>.ok (sI (-i)) | _=>.bad):=rfl
theorem hW (C:Calls) (a:E) (σ:St):ev C (.not a) σ=((ev C a σ).bind λx=>(aq x.1).bind λb=>.ok (sB (!b))):=rfl
theorem jZ (C:Calls) (o:COp) (a:E) (b:E) (σ:St):ev C (.cmp o a b) σ=((ev C a σ).bind λx=>(ev C b σ).bind λy=>(cq o x.1 y.1).bind λb=>.ok (sB b)):=rfl
theorem il (C:Calls) (a:E) (b:E) (σ:St):ev C (.and a b) σ=((ev C a σ).bind λx=>(aq x.1).bind λt=>if t then (ev C b σ).bind λy=>(aq y.1).bind λu=>.ok (sB u) else .ok (sB NY)):=rfl
theorem jj (C:Calls) (a:E) (b:E) (σ:St):ev C (.or a b) σ=((ev C a σ).bind λx=>(aq x.1).bind λt=>if t then .ok (sB vj) else (ev C b σ).bind λy=>(aq y.1).bind λu=>.ok (sB u)):=rfl
theorem b8 (C:Calls) (es:Es) (σ:St):ev C (.list es) σ=((evs C es σ).bind λl=>match bH l with
  | some xs=>.ok (.d (.list xs),if allDeep l then .deep else .top)
  | none=>.bad):=rfl
theorem jP (C:Calls) (es:Es) (σ:St):ev C (.tup es) σ=((evs C es σ).bind λl=>match bH l with
  | some xs=>.ok (.d (.tuple xs),if allDeep l then .deep else .sh)
  | none=>.bad):=rfl
theorem qd (C:Calls) (σ0:St):ev C .edic σ0=(.ok (.dic0,.deep)):=rfl
theorem iP (C:Calls) (elt:E) (x:If) (it:It) (σ:St):ev C (.comp elt x it) σ=((be C it σ).bind λq=>(bj (λy=>(ev C elt (upd σ x (mk (.d y)))).bind λr=>.ok (ti r)) q.1).bind λr=>.ok (.d (.list r.1),if r.2 then .deep else .top)):=rfl
theorem iF (C:Calls) (elt:E) (x:If) (it:It) (c:E) (σ:St):ev C (.compif elt x it c) σ=((be C it σ).bind λq=>(bj (λy=>(ev C c (upd σ x (mk (.d y)))).bind λt=>(aq t.1).bind λb=>if b then (ev C elt (upd σ x (mk (.d y)))).bind λr=>.ok (ti r) else .ok NI) q.1).bind λr=>.ok (.d (.list r.1),if r.2 then .deep else .top)):=rfl
theorem jX (C:Calls) (a:E) (i:E) (σ:St):ev C (.sub a i) σ=((ev C a σ).bind λx=>(ev C i σ).bind λy=>match x.1,y.1 with | .d x,.d y=>fC x y | _,_=>.bad):=rfl
theorem nx (C:Calls) (a:E) (i:E) (σ:St):ev C (.shi a i) σ=((ev C a σ).bind λx=>(ev C i σ).bind λy=>match x.1,y.1 with | .d x,.d y=>m0 x y | _,_=>.bad):=rfl
theorem jU (C:Calls) (a:E) (σ:St):ev C (.rev a) σ=((ev C a σ).bind λx=>match x.1 with | .d x=>yl x | _=>.bad):=rfl
theorem lz (C:Calls) (a:E) (n:If) (σ:St):ev C (.attr a n) σ=(am (C "Rule") λuu=>(ev C a σ).bind λx=>kn x.1 n):=rfl
theorem j7 (C:Calls) (f:B1) (a:E) (σ:St):ev C (.bi1 f a) σ=((ev C a σ).bind λx=>b1V f x.1):=rfl
theorem nK (C:Calls) (a:E) (t:If) (σ:St):ev C (.isi a t) σ=((ev C a σ).bind λx=>(g7 x.1 t).bind λb=>.ok (sB b)):=rfl
theorem iM (C:Calls) (f:If) (es:Es) (σ:St):ev C (.call f es) σ=(match C f with
  | some g=>(evs C es σ).bind λl=>g (l.map (·.1))
  | none=>.bad):=rfl
theorem nr (C:Calls) (x:If) (t:If) (σ:St):ev C (.isE x t) σ=(am (σ x) λp=>am (pf p.1) λc=>pZ C c t):=rfl
theorem ip (C:Calls) (o:TMe) (a b:E) (σ:St):ev C (.sm o a b) σ=((ev C a σ).bind λx=>am ((asD x.1).bind asS) λs=>(ev C b σ).bind λy=>am (asD y.1) λy=>smV o s y):=rfl
theorem mY (C:Calls) (σ0:St):ev C .fig σ0 = .ok (sS figS):=rfl
theorem jL (C:Calls) (a i:E) (σ:St):ev C (.sat a i) σ=((ev C a σ).bind λx=>(ev C i σ).bind λy=>d2 x.1 y.1 λx y=>qg x y):=rfl
theorem fU (C:Calls) (lo:OF) (a i:E) (σ:St):ev C (.ssl lo a i) σ=((ev C a σ).bind λx=>(ev C i σ).bind λy=>d2 x.1 y.1 λx y=>qX lo x y):=rfl
theorem bF (C:Calls) (σ0:St):evs C .nil σ0=(.ok []):=rfl
theorem bw (C:Calls) (e:E) (es:Es) (σ:St):evs C (.cons e es) σ=((ev C e σ).bind λx=>(evs C es σ).bind λl=>.ok (x::l)):=rfl
theorem ic (C:Calls) (a:E) (σ:St):be C (.e a) σ=((ev C a σ).bind itV):=rfl
theorem nC (C:Calls) (a:E) (σ:St):be C (.s a) σ=((ev C a σ).bind λx=>am (asD x.1) λd=>am (asS d) λt=>if t.length<=lim then .ok (t.cps.toList.map λc=>.str ⟨#[c]⟩,.deep) else .bad):=rfl
theorem gh (C:Calls) (n:E) (σ:St):be C (.r1 n) σ=((ev C n σ).bind λx=>match x.1 with | .d (.int n)=>cA 0 n | _=>.bad):=rfl
theorem f8 (C:Calls) (a:E) (b:E) (σ:St):be C (.r2 a b) σ=((ev C a σ).bind λx=>(ev C b σ).bind λy=>match x.1,y.1 with | .d (.int a),.d (.int b)=>cA a b | _,_=>.bad):=rfl
mutual
noncomputable def fv:E->uq If
 | .name x=>[x]
 | .int _ | .str _ | .bool _ | .none | .edic | .fig=>[]
 | .sm _ a b | .sat a b | .ssl _ a b | .bin _ a b | .cmp _ a b | .and a b | .or a b | .sub a b | .shi a b=>fv a++fv b
 | .neg a | .not a | .rev a | .attr a _ | .bi1 _ a | .isi a _=>fv a
 | .list es | .tup es | .call _ es=>fvs es
 | .comp elt _ it=>bD it++fv elt
 | .compif elt _ it c=>bD it++(fv c++fv elt)
 | .isE x _=>[x]
noncomputable def fvs:Es->uq If
 | .nil=>[]
 | .cons e es=>fv e++fvs es
noncomputable def bD:It->uq If
 | .e a=>fv a
 | .s a=>fv a
 | .r1 n=>fv n
 | .r2 a b=>fv a++fv b
end
theorem eQ (x:If):fv (.name x)=([x]):=rfl
theorem sM (z0:N3):fv (.int z0)=([]):=rfl
theorem Mi (z0:If):fv (.str z0)=([]):=rfl
theorem L1 (z0:OF):fv (.bool z0)=([]):=rfl
theorem LU:fv .none=([]):=rfl
theorem Me:fv .edic=([]):=rfl
theorem Mj:fv .fig=([]):=rfl
theorem Dx (z0:TMe) (a:E) (b:E):fv (.sm z0 a b)=(fv a++fv b):=rfl
theorem Ct (a:E) (b:E):fv (.sat a b)=(fv a++fv b):=rfl
theorem Bb (z0:OF) (a:E) (b:E):fv (.ssl z0 a b)=(fv a++fv b):=rfl
theorem Cf (z0:BOp) (a:E) (b:E):fv (.bin z0 a b)=(fv a++fv b):=rfl
theorem Cr (z0:COp) (a:E) (b:E):fv (.cmp z0 a b)=(fv a++fv b):=rfl
theorem Bx (a:E) (b:E):fv (.and a b)=(fv a++fv b):=rfl
theorem C7 (a:E) (b:E):fv (.or a b)=(fv a++fv b):=rfl
theorem nG (a:E) (b:E):fv (.sub a b)=(fv a++fv b):=rfl
theorem BK (a:E) (b:E):fv (.shi a b)=(fv a++fv b):=rfl
theorem Cn (a:E):fv (.neg a)=(fv a):=rfl
theorem B8 (a:E):fv (.not a)=(fv a):=rfl
theorem Br (a:E):fv (.rev a)=(fv a):=rfl
theorem w8 (a:E) (z1:If):fv (.attr a z1)=(fv a):=rfl
theorem mZ (z0:B1) (a:E):fv (.bi1 z0 a)=(fv a):=rfl
theorem BS (a:E) (z1:If):fv (.isi a z1)=(fv a):=rfl
theorem zg (es:Es):fv (.list es)=(fvs es):=rfl
theorem Ck (es:Es):fv (.tup es)=(fvs es):=rfl
theorem zf (z0:If) (es:Es):fv (.call z0 es)=(fvs es):=rfl
theorem qa (elt:E) (z1:If) (it:It):fv (.comp elt z1 it)=(bD it++fv elt):=rfl
theorem t7 (elt:E) (z1:If) (it:It) (c:E):fv (.compif elt z1 it c)=(bD it++(fv c++fv elt)):=rfl
theorem BQ (x:If) (z1:If):fv (.isE x z1)=([x]):=rfl
theorem K9:fvs .nil=([]):=rfl
theorem wP (e:E) (es:Es):fvs (.cons e es)=(fv e++fvs es):=rfl
theorem fR (a:E):bD (.e a)=(fv a):=rfl
theorem A8 (a:E):bD (.s a)=(fv a):=rfl
theorem xn (n:E):bD (.r1 n)=(fv n):=rfl
theorem x6 (a:E) (b:E):bD (.r2 a b)=(fv a++fv b):=rfl
inductive H1 where
 | asg (x:If) (e:E)
 | ret (e:E)
inductive HB where
 | num (i:N3)
 | nam (x:If) (r:uq H1)
mutual
inductive S where
 | assign (x:If) (e:E)
 | setitem (x:If) (k:E)
 | append (x:If) (e:E)
 | pop (x:If) (i:E)
 | expr (e:E)
 | ret (e:E)
 | retn (x:If)
 | ite (c:E) (a b:Ss)
 | for1 (x:If) (it:It) (b:Ss)
 | raise (c:If)
 | tryS (b:S) (hs:uq (If×HB))
 | bad
inductive Ss where
 | nil
 | cons (s:S) (r:Ss)
end
mutual
noncomputable def asg:S->uq If
 | .assign x _ | .setitem x _ | .append x _ | .pop x _=>[x]
 | .expr _ | .ret _ | .retn _ | .raise _ | .bad=>[]
 | .ite _ a b=>asgs a++asgs b
 | .for1 x _ b=>x::asgs b
 | .tryS b _=>asg b
noncomputable def asgs:Ss->uq If
 | .nil=>[]
 | .cons s r=>asg s++asgs r
end
inductive Flw where
 | next
 | ret (v:V×Mode)
noncomputable def demote (σ:St) (ns:uq If):St:=λy=>if y∈ns then (σ y).map λp=>mk p.1 else σ y
noncomputable def consume (σ:St) (ns:uq If) (m:Mode):St:=if m = .deep then σ else demote σ ns
noncomputable def loopS (f:N9->St->Out (St×Flw)):uq N9->St->Out (St×Flw)
 | [],σ=>.ok (σ,.next)
 | x::xs,σ=>(f x σ).bind λr=>match r.2 with
  | .next=>loopS f xs r.1
  | .ret v=>.ok (r.1,.ret v)
noncomputable def lp (σ:St) (x:If) (ns:uq If) (mx:Mode) (xs:uq N9) (m:Mode):Out (St×Flw) :=
 if xs.length<=lim then
  if m = .deep then .ok (upd σ x (.d (.list xs),mx),.next)
  else if x∈ns then .bad else .ok (upd (demote σ ns) x (.d (.list xs),.top),.next)
 else .bad
noncomputable def g8 (σ:St) (x:If):V->N9->Out (St×Flw)
 | .dic0,k=>match cI k with
  | some i=>.ok (upd σ x (.dicI [i],.deep),.next)
  | none=>match d6 k with
   | some t=>.ok (upd σ x (.dicT [t],.deep),.next)
   | none=>.bad
 | .dicI ks,k=>match cI k with
  | some i=>if ks.length<=lim then .ok (upd σ x (.dicI (if i∈ks then ks else ks++[i]),.deep),.next) else .bad
  | none=>.bad
 | .dicT ks,k=>match d6 k with
  | some i=>if ks.length<=lim then .ok (upd σ x (.dicT (if i∈ks then ks else ks++[i]),.deep),.next) else .bad
  | none=>.bad
 | _,_=>.bad
noncomputable def xo:E->N7
 | .name _=>1
 | .int _=>2
 | .str _=>2
 | .bool _=>2
 | .none=>2
 | .bin _ _ _=>3
 | .neg _=>4
 | .not _=>15
 | .cmp _ _ _=>5
 | .and _ _=>6
 | .or _ _=>6
 | .list _=>7
 | .tup _=>8
 | .edic=>9
 | .comp _ _ _=>10
 | .compif _ _ _ _=>10
 | .sub _ _=>11
 | .shi _ _=>11
 | .rev _=>11
 | .attr _ _=>14
 | .bi1 _ _=>13
 | .isi _ _=>13
 | .call _ _=>13
 | .isE _ _=>13
 | .sm _ _ _=>13
 | .fig=>1
 | .sat _ _=>11
 | .ssl _ _ _=>11
noncomputable def fA (e:E):Bool:=decide (xo e=10)
noncomputable def evA (C:Calls) (e:E) (σ:St):Out (V×Mode):=if fA e then (ev C e σ).calm else ev C e σ
theorem lY (h:ev C e σ = .ok r):evA C e σ = .ok r:=by
 unfold evA; rw[h]; split<;>rfl
theorem DU (h:evA C e σ = .ok r):ev C e σ = .ok r:=by
 unfold evA at h
 split at h
 ·cases q:ev C e σ with
  | ok a=>rw[q] at h; exact h
  | exc c=>rw[q] at h; cases h
  | bad=>rw[q] at h; cases h
 ·exact h
theorem Cz (h:evA C e σ = .exc c):ev C e σ = .exc c/\fA e=false:=by
 unfold evA at h
 split at h
 ·cases q:ev C e σ<;>rw[q] at h<;>cases h
 ·rename_i q
  exact ⟨h,by cases hc:fA e with | true=>exact N5 hc q | false=>rfl⟩
noncomputable def hOk:E->OF
 | .name _ | .isE _ _ | .int _=>vj
 | .and a b | .or a b=>hOk a&&hOk b
 | .not a=>hOk a
 | _=>NY
noncomputable def gd (C:Calls):Calls:=λf=>if f∈excNames then C f else NI
noncomputable def exH (C:Calls):uq H1->St->Out (V×Mode)
 | [],_=>.bad
 | .asg x e::r,σ=>if hOk e then (ev (gd C) e σ).bind λq=>exH C r (upd (consume σ (fv e) q.2) x q) else .bad
 | .ret e::_,σ=>if hOk e then ev (gd C) e σ else .bad
noncomputable def DP (C:Calls) (c:If) (σ:St):HB->Out (V×Mode)
 | .num i=>.ok (sI i)
 | .nam x r=>(exH C r (upd σ x (.err c,.sh))).bind λq=>if nu q.1=vj then .ok q else .bad
noncomputable def jA (C:Calls) (c:If) (σ:St):uq (If×HB)->Out (V×Mode)
 | []=>.bad
 | p::r=>am (C p.1) λuu=>if p.1∈excNames then (if p.1=c\/p.1 = "PickError" then DP C c σ p.2 else jA C c σ r) else .bad
noncomputable def uz:S->OF
 | .expr _=>vj
 | _=>NY
noncomputable def orH (C:Calls) (b:S) (hs:uq (If×HB)) (σ:St):Out (St×Flw)->Out (St×Flw)
 | .ok o=>.ok o
 | .exc c=>if uz b then (jA C c σ hs).calm.bind λq=>.ok (σ,.ret q) else .bad
 | .bad=>.bad
mutual
noncomputable def ex (C:Calls):S->St->Out (St×Flw)
 | .assign x e,g=>(evA C e g).bind λr=>.ok (upd (consume g (fv e) r.2) x r,.next)
 | .setitem x k,g=>((ev C k g).bind λr=>am (asD r.1) λd=>am (g x) λp=>if p.2 = .deep then g8 g x p.1 d else .bad).calm
 | .append x e,g=>((ev C e g).bind λr=>am (asD r.1) λy=>am (g x) λp=>am (i9 p.1) λh=>if p.2 = .sh then .bad else lp g x (fv e) p.2 (h++[y]) r.2).calm
 | .pop x i,g=>((ev C i g).bind λq=>am (asD q.1) λd=>am (cI d) λi=>am (g x) λp=>am (i9 p.1) λh=>if p.2 = .sh\/i<0\/(h.length:N3)<=i then .bad else .ok (upd g x (.d (.list (h.eraseIdx i.toNat)),.top),.next)).calm
 | .expr e,g=>(ev C e g).bind λr=>.ok (consume g (fv e) r.2,.next)
 | .retn x,g=>match g x with
  | some r=>.ok (g,.ret r)
  | none=>.bad
 | .ret e,g=>(ev C e g).bind λr=>.ok (g,.ret r)
 | .ite c a b,g=>(ev C c g).bind λr=>(aq r.1).bind λt=>if t then exs C a g else exs C b g
 | .for1 x it b,g=>(be C it g).bind λq=>loopS (λy g=>exs C b (upd g x (mk (.d y)))) q.1 (consume g (bD it) q.2)
 | .raise c,_=>am (C c) λuu=>if c∈excNames then .exc c else .bad
 | .tryS b hs,g=>orH C b hs g (ex C b g)
 | .bad,_=>.bad
noncomputable def exs (C:Calls):Ss->St->Out (St×Flw)
 | .nil,σ=>.ok (σ,.next)
 | .cons s r,σ=>(ex C s σ).bind λq=>match q.2 with
  | .next=>exs C r q.1
  | .ret v=>.ok (q.1,.ret v)
end
theorem cS (C:Calls) (x:If) (e:E) (σ:St):ex C (.assign x e) σ=((evA C e σ).bind λr=>.ok (upd (consume σ (fv e) r.2) x r,.next)):=rfl
theorem c6 (C:Calls) (x:If) (k:E) (σ:St):ex C (.setitem x k) σ=((ev C k σ).bind λr=>am (asD r.1) λd=>am (σ x) λp=>if p.2 = .deep then g8 σ x p.1 d else .bad).calm:=rfl
theorem fN (C:Calls) (x:If) (e:E) (σ:St):ex C (.append x e) σ=((ev C e σ).bind λr=>am (asD r.1) λy=>am (σ x) λp=>am (i9 p.1) λxs=>if p.2 = .sh then .bad else lp σ x (fv e) p.2 (xs++[y]) r.2).calm:=rfl
theorem nj (C:Calls) (x:If) (i:E) (σ:St):ex C (.pop x i) σ=((ev C i σ).bind λq=>am (asD q.1) λd=>am (cI d) λi=>am (σ x) λp=>am (i9 p.1) λxs=>if p.2 = .sh\/i<0\/(xs.length:N3)<=i then .bad else .ok (upd σ x (.d (.list (xs.eraseIdx i.toNat)),.top),.next)).calm:=rfl
theorem dy (C:Calls) (e:E) (σ:St):ex C (.expr e) σ=((ev C e σ).bind λr=>.ok (consume σ (fv e) r.2,.next)):=rfl
theorem ln (C:Calls) (x:If) (σ:St):ex C (.retn x) σ=(match σ x with
  | some r=>.ok (σ,.ret r)
  | none=>.bad):=rfl
theorem iy (C:Calls) (e:E) (σ:St):ex C (.ret e) σ=((ev C e σ).bind λr=>.ok (σ,.ret r)):=rfl
theorem iu (C:Calls) (c:E) (a:Ss) (b:Ss) (σ:St):ex C (.ite c a b) σ=((ev C c σ).bind λr=>(aq r.1).bind λt=>if t then exs C a σ else exs C b σ):=rfl
theorem gp (C:Calls) (x:If) (it:It) (b:Ss) (σ:St):ex C (.for1 x it b) σ=((be C it σ).bind λq=>loopS (λy σ=>exs C b (upd σ x (mk (.d y)))) q.1 (consume σ (bD it) q.2)):=rfl
theorem ed (C:Calls) (c:If) (σ0:St):ex C (.raise c) σ0=(am (C c) λuu=>if c∈excNames then .exc c else .bad):=rfl
theorem fY (C:Calls) (b:S) (hs:uq (If×HB)) (σ:St):ex C (.tryS b hs) σ=(orH C b hs σ (ex C b σ)):=rfl
theorem Cv (C:Calls) (σ0:St):ex C .bad σ0=(.bad):=rfl
theorem dl (C:Calls) (σ:St):exs C .nil σ=(.ok (σ,.next)):=rfl
theorem aE (C:Calls) (s:S) (r:Ss) (σ:St):exs C (.cons s r) σ=((ex C s σ).bind λq=>match q.2 with
  | .next=>exs C r q.1
  | .ret v=>.ok (q.1,.ret v)):=rfl
structure Fn where
 params:uq If
 body:Ss
noncomputable def bV:uq If->uq V->NX St
 | [],[]=>ti λuu=>NI
 | p::ps,v::vs=>(bV ps vs).map λg=>upd g p (mk v)
 | _,_=>NI
noncomputable def ax (C:Calls) (f:Fn) (vs:uq V):Out (V×Mode):=match bV f.params vs with
 | some σ=>(exs C f.body σ).bind λr=>match r.2 with
  | .ret v=>.ok v
  | .next=>.ok (.d .none,.deep)
 | none=>.bad
noncomputable def eH (σ:St):Out (V×Mode):=am (σ "count") λp=>am (asD p.1) λc=>am (cI c) λc=>am (σ "full") λq=>am (asD q.1) λd=>am (asL d) λg=>am (g[0]?) λx=>am (asL x) λh=>
 if q.2 = .deep then .ok (.rule c (.list g) h.length,.deep) else .bad
noncomputable def ck (C:Calls) (f:Fn) (vs:uq V):Out (V×Mode):=match bV f.params vs with
 | some σ=>(exs C f.body σ).bind λr=>match r.2 with
  | .next=>eH r.1
  | .ret _=>.bad
 | none=>.bad
noncomputable def iZ (f:If) (C:Calls) (fn:Fn) (vs:uq V):Out (V×Mode):=if f = "Rule" then ck C fn vs else ax C fn vs
noncomputable def mkC (L:uq (If×Fn)):N7->Calls
 | 0=>λuu=>NI
 | n+1=>λf=>(L.lookup f).map λh g=>iZ f (mkC L n) h g
open PyProof.Rows
mutual
inductive R (h:O2):Lt->N9->uq Oo->Prop
 | none:R h .none .none []
 | bool (b:OF):R h (.bool b) (.bool b) []
 | int (i:N3) (t:Tok):R h (.int i t) (.int i) []
 | str (x:Str) (t:Tok):R h (.str x t) (.str x) []
 | list {a:Oo}{n:N7}{xs:uq N9}{as:uq Oo}{vs:uq Lt}:h.get? a=ti ⟨.type "list", Qv,.seq vs.toArray n,#[]⟩->RA h vs xs as->R h (.ref a) (.list xs) (a::as)
 | tuple {a:Oo}{n:N7}{xs:uq N9}{as:uq Oo}{vs:uq Lt}:h.get? a=ti ⟨.type "tuple", Qv,.seq vs.toArray n,#[]⟩->RA h vs xs as->R h (.ref a) (.tuple xs) as
inductive RA (h:O2):uq Lt->uq N9->uq Oo->Prop
 | nil:RA h [] [] []
 | cons {v:Lt}{vs:uq Lt}{d:N9}{ds:uq N9}{as bs:uq Oo}:R h v d as->RA h vs ds bs->RA h (v::vs) (d::ds) (as++bs)
end
theorem R.ind {h:O2}{M:Lt->N9->uq Oo->Prop}{N:uq Lt->uq N9->uq Oo->Prop}(h1:M .none .none []) (h2:∀ b,M (.bool b) (.bool b) []) (h3:∀ i t,M (.int i t) (.int i) []) (h4:∀ x t,M (.str x t) (.str x) [])
  (h5:∀ {a:Oo}{n:N7}{xs:uq N9}{as:uq Oo}{vs:uq Lt},h.get? a=ti ⟨.type "list", Qv,.seq vs.toArray n,#[]⟩->RA h vs xs as->N vs xs as->M (.ref a) (.list xs) (a::as))
  (h6:∀ {a:Oo}{n:N7}{xs:uq N9}{as:uq Oo}{vs:uq Lt},h.get? a=ti ⟨.type "tuple", Qv,.seq vs.toArray n,#[]⟩->RA h vs xs as->N vs xs as->M (.ref a) (.tuple xs) as)
  (h7:N [] [] []) (h8:∀ {v:Lt}{vs:uq Lt}{d:N9}{ds:uq N9}{as bs:uq Oo},R h v d as->RA h vs ds bs->M v d as->N vs ds bs->N (v::vs) (d::ds) (as++bs)) :
  (∀ {v:Lt}{d:N9}{as:uq Oo},R h v d as->M v d as)/\(∀ {vs:uq Lt}{ds:uq N9}{as:uq Oo},RA h vs ds as->N vs ds as) :=
 ⟨λr=>R.rec (motive_1:=λv d as _=>M v d as) (motive_2:=λvs ds as _=>N vs ds as) h1 h2 h3 h4 (λe r i=>h5 e r i) (λe r i=>h6 e r i) h7 (λx r i j=>h8 x r i j) r,
  λr=>RA.rec (motive_1:=λv d as _=>M v d as) (motive_2:=λvs ds as _=>N vs ds as) h1 h2 h3 h4 (λe r i=>h5 e r i) (λe r i=>h6 e r i) h7 (λx r i j=>h8 x r i j) r⟩
theorem RA.ind {h:O2}{N:uq Lt->uq N9->uq Oo->Prop}(h7:N [] [] []) (h8:∀ {v:Lt}{vs:uq Lt}{d:N9}{ds:uq N9}{as bs:uq Oo},R h v d as->RA h vs ds bs->N vs ds bs->N (v::vs) (d::ds) (as++bs))
  {vs:uq Lt}{ds:uq N9}{as:uq Oo}(r:RA h vs ds as):N vs ds as :=
 (R.ind (M:=λuu uu uu=>V1) (N:=N) trivial (λuu=>trivial) (λuu uu=>trivial) (λuu uu=>trivial) (λuu uu uu=>trivial) (λuu uu uu=>trivial) h7 λx r _ j=>h8 x r j).2 r
noncomputable def Kps (h h':O2) (as:uq Oo):Prop:=∀ b o,(b∈as\/o.cls = .type "tuple")->(∃ vs n,o.data = .seq vs n)->h.get? b=ti o->h'.get? b=ti o
theorem R.onB:(∀ {v:Lt}{d:N9}{as:uq Oo},R h v d as->Kps h h' as->R h' v d as)/\(∀ {vs:uq Lt}{ds:uq N9}{as:uq Oo},RA h vs ds as->Kps h h' as->RA h' vs ds as) :=
 R.ind (M:=λv d as=>Kps h h' as->R h' v d as) (N:=λvs ds as=>Kps h h' as->RA h' vs ds as) (λuu=>.none) (λb _=>.bool b) (λi t _=>.int i t) (λx t _=>.str x t)
  (λe _ l k=>.list (k _ _ (.inl (.head _)) (cf _ _ rfl) e) (l λb o g=>k b o (g.imp (.tail _) id))) (λe _ l k=>.tuple (k _ _ (.inr rfl) (cf _ _ rfl) e) (l k))
  (λuu=>.nil) (λuu uu i j k=>.cons (i λb o g=>k b o (g.imp (OV _) id)) (j λb o g=>k b o (g.imp (OU _) id)))
section
variable {h h':O2}{v:Lt}{d:N9}{as:uq Oo}{vs:uq Lt}{ds:uq N9}
theorem R.on2 (r:R h v d as) (k:∀ b o,(b∈as\/o.cls = .type "tuple")->(∃ vs n,o.data = .seq vs n)->h.get? b=ti o->h'.get? b=ti o):R h' v d as:=R.onB.1 r k
theorem RA.on2 (r:RA h vs ds as) (k:∀ b o,(b∈as\/o.cls = .type "tuple")->(∃ vs n,o.data = .seq vs n)->h.get? b=ti o->h'.get? b=ti o):RA h' vs ds as:=R.onB.2 r k
theorem R.on (r:R h v d as) (k:∀ b o,(b∈as\/o.cls = .type "tuple")->h.get? b=ti o->h'.get? b=ti o):R h' v d as:=r.on2 λb o q _=>k b o q
theorem RA.on (r:RA h vs ds as) (k:∀ b o,(b∈as\/o.cls = .type "tuple")->h.get? b=ti o->h'.get? b=ti o):RA h' vs ds as:=r.on2 λb o q _=>k b o q
end
noncomputable def Off (h:O2) (as wr:uq Oo):Prop:=∀ b∈wr,∀ o,h.get? b=ti o->(∀ vs n,o.data≠.seq vs n)\/(o.cls≠.type "tuple" /\ b∉as)
theorem R.off (r:R h v d as) (hw:Off h as wr) (kp:∀ b o,b∉wr->h.get? b=ti o->h'.get? b=ti o):R h' v d as :=
 r.on2 λb o k ⟨i,n,e⟩ g=>kp b o (λj=>(hw b j o g).elim (λq=>q i n e) λq=>k.elim q.2 q.1) g
theorem RA.off (r:RA h vs ds as) (hw:Off h as wr) (kp:∀ b o,b∉wr->h.get? b=ti o->h'.get? b=ti o):RA h' vs ds as :=
 r.on2 λb o j ⟨vs,n,e⟩ g=>kp b o (λi=>(hw b i o g).elim (λq=>q vs n e) λq=>j.elim q.2 q.1) g
section
variable {h h':O2}{v:Lt}{d:N9}{as:uq Oo}{vs:uq Lt}{ds:uq N9}
theorem R.keep (r:R h v d as) (k:∀ b o,h.get? b=ti o->h'.get? b=ti o):R h' v d as:=r.on λb o _=>k b o
theorem RA.keep (r:RA h vs ds as) (k:∀ b o,h.get? b=ti o->h'.get? b=ti o):RA h' vs ds as:=r.on λb o _=>k b o
end
theorem R.readsB:(∀ {v:Lt}{d:N9}{as:uq Oo},R h v d as->Reads h v d as)/\(∀ {vs:uq Lt}{ds:uq N9}{as:uq Oo},RA h vs ds as->ReadsAll h vs ds as) :=
 R.ind (M:=λv d as=>Reads h v d as) (N:=λvs ds as=>ReadsAll h vs ds as) .none (λb=>.bool b) (λi t=>.int i t) (λx t=>.str x t) (λe _ i=>.list e rfl rfl (by simpa using i)) (λe _ i=>.tuple e rfl rfl (by simpa using i)) .nil (λuu uu i j=>.cons i j)
theorem R.reads (r:R h v d as):Reads h v d as:=R.readsB.1 r
noncomputable def ph (h:O2) (as:uq Oo):Prop:=∀ a∈as,∃ vs n,h.get? a=ti ⟨.type "list", Qv,.seq vs n,#[]⟩
theorem R.thereB:(∀ {v:Lt}{d:N9}{as:uq Oo},R h v d as->ph h as)/\(∀ {vs:uq Lt}{ds:uq N9}{as:uq Oo},RA h vs ds as->ph h as) :=
 R.ind (M:=λuu uu as=>ph h as) (N:=λuu uu as=>ph h as) (λuu g=>nomatch g) (λuu uu g=>nomatch g) (λuu uu uu g=>nomatch g) (λuu uu uu g=>nomatch g)
  (λe _ i a g=>(Ou.mp g).elim (λq=>q▸(cf _ _ e)) (i a)) (λuu uu i=>i) (λuu g=>nomatch g) (λuu uu i j a g=>(Op.mp g).elim (i a) (j a))
theorem R.there (r:R h v d as):∀ a∈as,∃ vs n,h.get? a=ti ⟨.type "list", Qv,.seq vs n,#[]⟩:=R.thereB.1 r
theorem RA.there (r:RA h vs ds as):∀ a∈as,∃ vs n,h.get? a=ti ⟨.type "list", Qv,.seq vs n,#[]⟩:=R.thereB.2 r
theorem R.isInt (r:R h v (.int i) as):∃ t,v = .int i t/\as=[]:=by
 cases r; exact (ah _ rfl rfl)
theorem R.isStr (r:R h v (.str i) as):∃ t,v = .str i t/\as=[]:=by
 cases r; exact ⟨_,rfl,rfl⟩
theorem R.isInt_k {h:O2}{v:Lt}{i:N3}{as:uq Oo}{G:Prop}(r:R h v (.int i) as) (k:∀ t,v = .int i t->as=[]->G):G:=ag (R.isInt r) k
theorem R.isBool (r:R h v (.bool b) as):v = .bool b/\as=[]:=by
 cases r; exact ⟨rfl,rfl⟩
theorem R.isNone (r:R h v .none as):v = .none/\as=[]:=by
 cases r; exact ⟨rfl,rfl⟩
theorem R.isI_nil (r:R h v d as) (hs:isI d=vj):as=[]:=by
 cases d with
 | int i=>exact R.isInt_k r λ_ _ e=>e
 | _=>exact nF hs
theorem RA.isI_nil (r:RA h vs ds as):ds.all isI=vj->as=[] :=
 RA.ind (N:=λuu ds as=>ds.all isI=vj->as=[]) (λuu=>rfl) (λx _ i g=>by
  refine aW (show (isI _&&Jal _ isI)=vj from g) λk j=>?_
  rw[x.isI_nil k,i j]; rfl) r
theorem R.sx_nil (r:R h v d as) (hs:sx d=vj):as=[]:=by
 cases r with
 | tuple e ra=>exact ra.isI_nil hs
 | list=>exact nF hs
 | _=>rfl
theorem RA.length (r:RA h vs ds as):vs.length=ds.length :=
 RA.ind (N:=λvs ds _=>vs.length=ds.length) rfl (λuu uu i=>PG (· + 1) i) r
theorem RA.append (r:RA h vs ds as) (q:RA h ws es bs):RA h (vs++ws) (ds++es) (as++bs) :=
 RA.ind (N:=λvs ds as=>RA h (vs++ws) (ds++es) (as++bs)) q (λx _ i=>by rw[Pk]; exact .cons x i) r
theorem RA.sx_nil (r:RA h vs ds as):ds.all sx=vj->as=[] :=
 RA.ind (N:=λuu ds as=>ds.all sx=vj->as=[]) (λuu=>rfl) (λx _ i g=>by
  refine aW (show (sx _&&Jal _ sx)=vj from g) λk j=>?_
  rw[x.sx_nil k,i j]; rfl) r
theorem RA.get (r:RA h vs ds as):∀ {k:N7}{d:N9},ds[k]? = ti d->∃ v bs,vs[k]? = ti v/\R h v d bs/\∀ b∈bs,b∈as:=by
 have g:∀ (k:N7) (d:N9),ds[k]? = ti d->∃ v bs,vs[k]? = ti v/\R h v d bs/\∀ b∈bs,b∈as:=by
  refine RA.ind (N:=λvs ds as=>∀ (k:N7) (d:N9),ds[k]? = ti d->∃ v bs,vs[k]? = ti v/\R h v d bs/\∀ b∈bs,b∈as) (λk d hk=>by cases hk) (λx _ i k d hk=>?_) r
  cases k with
  | zero=>(have l:=Gt hk; clear hk; subst l); exact (aQ _ _ rfl x (λb j=>OV _ j))
  | succ k=>
   refine aA (i k d hk) λv bs o n m=>?_
   exact (aQ v bs o n (λb j=>OU _ (m b j)))
 exact λ{k d}=>g k d
theorem RA.get' {h:O2}{vs:uq Lt}{ds:uq N9}{as:uq Oo}(r:RA h vs ds as) {k:N7}{v:Lt}(hk:vs[k]? = ti v):∃ d bs,ds[k]? = ti d/\R h v d bs/\∀ b∈bs,b∈as:=by
 have i:k<ds.length:=by rw[<- r.length]; exact (O4.mp hk).1
 refine aA (r.get (Oh i)) λn bs g m l=>?_
 rw[hk] at g; (have j:=Gt g; clear g; subst j)
 exact (aQ _ bs (Oh i) m l)
theorem RA.take (n:N7) (r:RA h vs ds as):∃ bs,RA h (vs.take n) (ds.take n) bs/\(∀ b∈bs,b∈as):=by
 refine RA.ind (N:=λvs ds as=>∀ n,∃ bs,RA h (vs.take n) (ds.take n) bs/\(∀ b∈bs,b∈as)) (λn=>(ah ([]) (by rw[Yq,Yq]; exact .nil) (λuu g=>nomatch g))) (λx _ i n=>?_) r n
 cases n with
 | zero=>exact (ah ([]) .nil (λuu g=>nomatch g))
 | succ n=>
  refine ag (i n) λbs q j=>?_
  exact (ah _ (.cons x q) (λb g=>(Op.mp g).elim (OV _) λg=>OU _ (j b g)))
theorem RA.reverse (r:RA h vs ds as):∃ bs,RA h vs.reverse ds.reverse bs/\(∀ b∈bs,b∈as):=by
 refine RA.ind (N:=λvs ds as=>∃ bs,RA h vs.reverse ds.reverse bs/\(∀ b∈bs,b∈as)) (ah ([]) .nil (λuu hb=>nomatch hb)) (λ{v vs d ds as cs} x r i=>?_) r
 refine ag (i) λbs q g=>?_
 clear i
 refine (ah (bs++(as++[])) (by rw[WE,WE]; exact q.append (.cons x .nil)) (λb hb=>?_))
 rcases Op.mp hb with hb | hb
 ·exact OU _ (g b hb)
 ·exact OV _ (by rwa [PU] at hb)
theorem RA.ints (r:RA h vs ds as) (e:aR ds=ti ns):P2 vs ns/\as=[]/\ds=ns.map .int:=by
 refine RA.ind (N:=λvs ds as=>∀ ns,aR ds=ti ns->P2 vs ns/\as=[]/\ds=ns.map .int) (λns e=>?_) (λ{v vs d ds as cs} x r i ns e=>?_) r ns e
 ·(have m:=Gt e; clear e; subst m); exact ⟨.nil,rfl,rfl⟩
 ·cases x with
  | int j t=>
   refine b9 (show (aR ds).map (j :: ·)=ti ns from e) λn o l=>?_
   (clear e; subst l)
   refine aK (i n o) λa k g=>?_
   (clear i r; subst k)
   subst g
   exact ⟨.cons j t a,rfl,rfl⟩
  | _=>exact nN e
theorem RA.of_ints (r:P2 vs ns):RA h vs (ns.map .int) []:=by
 induction r with
 | nil=>exact .nil
 | cons i t r ih=>exact .cons (as:=[]) (.int i t) ih
mutual
noncomputable def sz:N9->OF
 | .none | .bool _ | .int _=>vj
 | .str x=>decide (x.length<=2^22)
 | .list xs | .tuple xs=>decide (xs.length<=2^22)&&szs xs
 | .dict _=>NY
noncomputable def szs:uq N9->OF
 | []=>vj
 | x::xs=>sz x&&szs xs
end
theorem sT:szs xs=vj↔∀ x∈xs,sz x=true:=by
 induction xs with
 | nil=>simp[szs]
 | cons x xs ih=>simp[szs,ih]
theorem sz_list:sz (.list xs)=vj↔xs.length<=2^22/\∀ x∈xs,sz x=true:=by simp[sz,sT]
theorem sz_tuple:sz (.tuple xs)=vj↔xs.length<=2^22/\∀ x∈xs,sz x=true:=by simp[sz,sT]
theorem i6 (ns:uq N3):∀ x∈ns.map Oz,sz x=true:=by
 intro x hx; obtain ⟨i,_,rfl⟩:=Tm.mp hx; rfl
noncomputable def varK (ns:uq (Str×OY)) (x:If):Bool:=!(oD x==oD ".0")&&(match ns.lookup (oD x) with
 | some .local | some .cell | some .free=>vj
 | _=>NY)
noncomputable def cj (ns:uq (Str×OY)) (x:If):Bool:=ns.lookup (oD x)==ti .globalImplicit
noncomputable def aV (x:If):Bool:=!(oD x==("__debug__" : Str)) && !(oD x==("__classdict__" : Str))
noncomputable def bOp:BOp->XV
 | .add=>.Add | .sub=>.Sub | .mul=>.Mult | .fdiv=>.FloorDiv | .mod=>.Mod | .xor=>.BitXor | .cat=>.Add
noncomputable def cOp:COp->CmpOp
 | .eq=>.Eq | .ne=>.NotEq | .lt=>.Lt | .gt=>.Gt | .ge=>.GtE | .isin=>.In | .notin=>.NotIn | .is=>.Is | .isnot=>.IsNot | .snin=>.NotIn | .seq=>.Eq | .sne=>.NotEq
noncomputable def opB (o:BOp) (p:XV):Bool:=decide (p=bOp o)
noncomputable def opC (o:COp) (p:CmpOp):Bool:=decide (p=cOp o)
noncomputable def smn:TMe->If
 | .join => "join" | .split => "split" | .find => "find" | .part => "partition"
noncomputable def b1n:B1->If
 | .len => "len" | .list => "list" | .tuple => "tuple" | .sorted => "sorted" | .max => "max" | .slen => "len" | .str => "str" | .int => "int" | .intB => "int"
noncomputable def fB (outer inner:uq (Str×OY)):uq (Str×OY) :=
 inner.map λ(n,k)=>if k == .free&&outer.lookup n==ti .cell then (n,.cell) else (n,k)
noncomputable def f9 (ns:uq (Str×OY)) (sc:Scope) (x:If):Bool :=
 sc.kind == .function&&decide ((sc.names.map (·.1)).Nodup)&&(sc.names.lookup (oD x)==ti .local||sc.names.lookup (oD x)==ti .cell) &&
 sc.names.all λp=>(p.2 == .local&&(p.1==oD x||p.1==oD ".0"))||p.2 == .globalImplicit||(p.2 == .cell&&p.1==oD x)||(p.2 == .free&&(ns.lookup p.1==ti .cell||ns.lookup p.1==ti .free))
noncomputable def ao (o:NX α) (f:α->OF):Bool:=match o with
 | some a=>f a
 | none=>NY
theorem iB (h:ao o f=vj):∃ a,o=ti a/\f a=true:=by
 cases o with
 | none=>exact nF h
 | some a=>exact (ah a rfl h)
theorem aj {α:Type}{o:NX α}{f:α->OF}{G:Prop}(h:ao o f=vj) (k:∀ a,o=ti a->f a=vj->G):G:=ag (iB h) k
structure Pt where
 tag:Nat:=0
 e1:Expr:=RK
 e2:Expr:=RK
 es:uq Expr:=[]
 st:Str:=RK
 co:Const:=RK
 n:Nat:=0
 op:Operator:=RK
 un:UnaryOp:=RK
 bo:BoolOp:=RK
 cs:uq CmpOp:=[]
 ks:uq (NX Expr):=[]
 gs:uq Comprehension:=[]
 sc:Scope:=RK
 o1:NX Expr:=NI
 o2:NX Expr:=NI
 o3:NX Expr:=NI
 kw:uq Keyword:=[]
 pos:Pos:=RK
noncomputable def pt:Expr->Pt
 | .Name x0 x1=>{tag:=1,st:=x0,pos:=x1 }
 | .Constant x0 x1 x2=>{tag:=2,co:=x0,n:=x1,pos:=x2 }
 | .BinOp x0 x1 x2 x3=>{tag:=3,e1:=x0,op:=x1,e2:=x2,pos:=x3 }
 | .UnaryOp x0 x1 x2=>{tag:=if x0 = .Not then 15 else 4,un:=x0,e1:=x1,pos:=x2 }
 | .Compare x0 x1 x2 x3=>{tag:=5,e1:=x0,cs:=x1,es:=x2,pos:=x3 }
 | .BoolOp x0 x1 x2=>{tag:=6,bo:=x0,es:=x1,pos:=x2 }
 | .List x0 x1=>{tag:=7,es:=x0,pos:=x1 }
 | .Tuple x0 x1 x2=>{tag:=8,es:=x0,n:=x1,pos:=x2 }
 | .Dict x0 x1 x2=>{tag:=9,ks:=x0,es:=x1,pos:=x2 }
 | .ListComp x0 x1 x2 x3=>{tag:=10,e1:=x0,gs:=x1,sc:=x2,pos:=x3 }
 | .Subscript x0 x1 x2=>{tag:=11,e1:=x0,e2:=x1,pos:=x2 }
 | .Slice x0 x1 x2 x3=>{tag:=12,o1:=x0,o2:=x1,o3:=x2,pos:=x3 }
 | .Call x0 x1 x2 x3=>{tag:=13,e1:=x0,es:=x1,kw:=x2,pos:=x3 }
 | .Attribute x0 x1 x2=>{tag:=14,e1:=x0,st:=x1,pos:=x2 }
 | _=>{}
noncomputable def ptB (n:N7) (p:Pt):Expr:=match n with
 | 1=>.Name p.st p.pos
 | 2=>.Constant p.co p.n p.pos
 | 3=>.BinOp p.e1 p.op p.e2 p.pos
 | 4=>.UnaryOp p.un p.e1 p.pos
 | 5=>.Compare p.e1 p.cs p.es p.pos
 | 6=>.BoolOp p.bo p.es p.pos
 | 7=>.List p.es p.pos
 | 8=>.Tuple p.es p.n p.pos
 | 9=>.Dict p.ks p.es p.pos
 | 10=>.ListComp p.e1 p.gs p.sc p.pos
 | 11=>.Subscript p.e1 p.e2 p.pos
 | 12=>.Slice p.o1 p.o2 p.o3 p.pos
 | 13=>.Call p.e1 p.es p.kw p.pos
 | 14=>.Attribute p.e1 p.st p.pos
 | 15=>.UnaryOp p.un p.e1 p.pos
 | _=>RK
theorem Cb (e:Expr):(pt e).tag=0\/ptB (pt e).tag (pt e)=e:=by
 cases e with
 | UnaryOp o _ _=>cases o<;>exact .inr rfl
 | _=>first | exact .inr rfl | exact .inl rfl
theorem cb (hn:n≠0) (h:(pt e).tag=n):e=ptB n (pt e):=by
 rcases Cb e with q | q
 ·exact N5 (h.symm.trans q) hn
 ·rw[h] at q; exact q.symm
noncomputable def ifN (m n:N7) (a:α):NX α:=if m=n then ti a else NI
theorem nD {α:Type}{m n:N7}{a b:α}(h:ifN m n a=ti b):m=n/\a=b:=by
 unfold ifN at h
 by_cases q:m=n
 ·rw[NZ q] at h; exact ⟨q,Gt h⟩
 ·rw[N0 q] at h; exact nN h
theorem bL {α:Type}{m n:N7}{a b:α}{G:Prop}(h:ifN m n a=ti b) (k:m=n->a=b->G):G:=ae (nD h) k
noncomputable def bS (e:Expr):NX (Str×Pos):=ifN (pt e).tag 1 ((pt e).st,(pt e).pos)
noncomputable def fq (e:Expr):NX (Zl×N7×Pos):=ifN (pt e).tag 2 ((pt e).co,(pt e).n,(pt e).pos)
noncomputable def CV (e:Expr):NX (Expr×XV×Expr×Pos):=ifN (pt e).tag 3 ((pt e).e1,(pt e).op,(pt e).e2,(pt e).pos)
noncomputable def dUn (e:Expr):NX (XT×Expr×Pos):=ifN (pt e).tag 4 ((pt e).un,(pt e).e1,(pt e).pos)
noncomputable def Dl (e:Expr):NX (XT×Expr×Pos):=ifN (pt e).tag 15 ((pt e).un,(pt e).e1,(pt e).pos)
noncomputable def Dj (e:Expr):NX (Expr×uq CmpOp×uq Expr×Pos):=ifN (pt e).tag 5 ((pt e).e1,(pt e).cs,(pt e).es,(pt e).pos)
noncomputable def tY (e:Expr):NX (BoolOp×uq Expr×Pos):=ifN (pt e).tag 6 ((pt e).bo,(pt e).es,(pt e).pos)
noncomputable def AB (e:Expr):NX (uq Expr×Pos):=ifN (pt e).tag 7 ((pt e).es,(pt e).pos)
noncomputable def DI (e:Expr):NX (uq Expr×N7×Pos):=ifN (pt e).tag 8 ((pt e).es,(pt e).n,(pt e).pos)
noncomputable def zK (e:Expr):NX (uq (NX Expr)×uq Expr×Pos):=ifN (pt e).tag 9 ((pt e).ks,(pt e).es,(pt e).pos)
noncomputable def dLC (e:Expr):NX (Expr×uq V9×Scope×Pos):=ifN (pt e).tag 10 ((pt e).e1,(pt e).gs,(pt e).sc,(pt e).pos)
noncomputable def qp (e:Expr):NX (Expr×Expr×Pos):=ifN (pt e).tag 11 ((pt e).e1,(pt e).e2,(pt e).pos)
noncomputable def wL (e:Expr):NX (NX Expr×NX Expr×NX Expr×Pos):=ifN (pt e).tag 12 ((pt e).o1,(pt e).o2,(pt e).o3,(pt e).pos)
noncomputable def fO (e:Expr):NX (Expr×uq Expr×uq Keyword×Pos):=ifN (pt e).tag 13 ((pt e).e1,(pt e).es,(pt e).kw,(pt e).pos)
noncomputable def l6 (e:Expr):NX (Expr×Str×Pos):=ifN (pt e).tag 14 ((pt e).e1,(pt e).st,(pt e).pos)
noncomputable def yI:Zl->NX N3
 | .int i=>ti i
 | _=>NI
noncomputable def yh:Zl->NX Str
 | .str i=>ti i
 | _=>NI
noncomputable def tT:Zl->NX OF
 | .bool i=>ti i
 | _=>NI
noncomputable def AI:Zl->NX T6
 | .none=>ti ()
 | _=>NI
noncomputable def bZ:uq α->NX α
 | [x]=>ti x
 | _=>NI
noncomputable def tH:uq α->NX (α×α)
 | [x,y]=>ti (x,y)
 | _=>NI
noncomputable def eE:uq α->NX T6
 | []=>ti ()
 | _=>NI
noncomputable def gN:uq α->NX (α×uq α)
 | x::y=>ti (x,y)
 | _=>NI
section
variable {e:Expr}
theorem a8 (h:bS e=ti q):e = .Name q.1 q.2:=by
 refine bL h λi g=>?_
 (clear h; subst g)
 exact cb (by decide) i
theorem cU (h:fq e=ti q):e = .Constant q.1 q.2.1 q.2.2:=by
 refine bL h λi g=>?_
 (clear h; subst g)
 exact cb (by decide) i
theorem xy (h:CV e=ti q):e = .BinOp q.1 q.2.1 q.2.2.1 q.2.2.2:=by
 refine bL h λi g=>?_
 (clear h; subst g)
 exact cb (by decide) i
theorem sN (h:dUn e=ti q):e = .UnaryOp q.1 q.2.1 q.2.2:=by
 refine bL h λi g=>?_
 (clear h; subst g)
 exact cb (by decide) i
theorem yK (h:Dl e=ti q):e = .UnaryOp q.1 q.2.1 q.2.2:=by
 refine bL h λi g=>?_
 (clear h; subst g)
 exact cb (by decide) i
theorem yr (h:Dj e=ti q):e = .Compare q.1 q.2.1 q.2.2.1 q.2.2.2:=by
 refine bL h λi g=>?_
 (clear h; subst g)
 exact cb (by decide) i
theorem oH (h:tY e=ti q):e = .BoolOp q.1 q.2.1 q.2.2:=by
 refine bL h λi g=>?_
 (clear h; subst g)
 exact cb (by decide) i
theorem vI (h:AB e=ti q):e = .List q.1 q.2:=by
 refine bL h λi g=>?_
 (clear h; subst g)
 exact cb (by decide) i
theorem zh (h:DI e=ti q):e = .Tuple q.1 q.2.1 q.2.2:=by
 refine bL h λi g=>?_
 (clear h; subst g)
 exact cb (by decide) i
theorem wt (h:zK e=ti q):e = .Dict q.1 q.2.1 q.2.2:=by
 refine bL h λi g=>?_
 (clear h; subst g)
 exact cb (by decide) i
theorem CA (h:dLC e=ti q):e = .ListComp q.1 q.2.1 q.2.2.1 q.2.2.2:=by
 refine bL h λi g=>?_
 (clear h; subst g)
 exact cb (by decide) i
theorem lq (h:qp e=ti q):e = .Subscript q.1 q.2.1 q.2.2:=by
 refine bL h λi g=>?_
 (clear h; subst g)
 exact cb (by decide) i
theorem uc (h:wL e=ti q):e = .Slice q.1 q.2.1 q.2.2.1 q.2.2.2:=by
 refine bL h λi g=>?_
 (clear h; subst g)
 exact cb (by decide) i
theorem eh (h:fO e=ti q):e = .Call q.1 q.2.1 q.2.2.1 q.2.2.2:=by
 refine bL h λi g=>?_
 (clear h; subst g)
 exact cb (by decide) i
theorem gI (h:l6 e=ti q):e = .Attribute q.1 q.2.1 q.2.2:=by
 refine bL h λi g=>?_
 (clear h; subst g)
 exact cb (by decide) i
theorem qD (h:yI c=ti q):c = .int q:=by cases c<;>cases h; rfl
theorem qU (h:yh c=ti q):c = .str q:=by cases c<;>cases h; rfl
theorem oE (h:tT c=ti q):c = .bool q:=by cases c<;>cases h; rfl
theorem vR (h:AI c=ti q):c = .none:=by cases c<;>cases h; rfl
variable {α:Type}{l:uq α}
theorem cD (h:eE l=ti q):l=[]:=by
 cases l with
 | nil=>rfl
 | cons=>exact nN h
theorem dD {q:α×uq α}(h:gN l=ti q):l=q.1::q.2:=by
 cases l with
 | nil=>exact nN h
 | cons=>(have oc:=Gt h; clear h; subst oc); rfl
theorem bp {q:α}(h:bZ l=ti q):l=[q]:=by
 cases l with
 | nil=>exact nN h
 | cons x l=>
  cases l with
  | nil=>(have oc:=Gt h; clear h; subst oc); rfl
  | cons=>exact nN h
theorem pG {q:α×α}(h:tH l=ti q):l=[q.1,q.2]:=by
 cases l with
 | nil=>exact nN h
 | cons x l=>
  cases l with
  | nil=>exact nN h
  | cons y l=>
   cases l with
   | nil=>(have oc:=Gt h; clear h; subst oc); rfl
   | cons=>exact nN h
end
noncomputable def dFn (e:Expr):NX (Str×Pos×uq Expr×Pos):=(fO e).bind λq=>(eE q.2.2.1).bind λuu=>(bS q.1).map λn=>(n.1,n.2,q.2.1,q.2.2.2)
theorem iv (h:dFn e=ti q):e = .Call (.Name q.1 q.2.1) q.2.2.1 [] q.2.2.2:=by
 refine a7 h λc j h=>?_
 refine a7 h λu i h=>?_
 refine b9 h λn g h=>?_
 subst h
 rw[eh j,cD i,a8 g]
noncomputable def sW (e:Expr):NX (Expr×Str×Pos×Expr×uq Expr×Scope×Pos):=(dLC e).bind λq=>(bZ q.2.1).bind λg=>(bS g.target).bind λn=>if g.is_async=0 then ti (q.1,n.1,n.2,g.iter,g.ifs,q.2.2.1,q.2.2.2) else NI
theorem ou (h:sW e=ti q):e = .ListComp q.1 [⟨.Name q.2.1 q.2.2.1,q.2.2.2.1,q.2.2.2.2.1,0⟩] q.2.2.2.2.2.1 q.2.2.2.2.2.2:=by
 refine a7 h λc m h=>?_
 refine a7 h λg l h=>?_
 obtain ⟨o,p,r,t⟩:=g
 refine a7 h λn i h=>?_
 dsimp only at h i
 split at h
 ·rename_i k
  (have j:=Gt h; clear h; subst j)
  rw[CA m,bp l,a8 i,k]
 ·exact nN h
noncomputable def dSl (e:Expr):NX (Expr×NX Expr×NX Expr×NX Expr×Pos×Pos):=(qp e).bind λq=>(wL q.2.1).map λs=>(q.1,s.1,s.2.1,s.2.2.1,s.2.2.2,q.2.2)
theorem mS (h:dSl e=ti q):e = .Subscript q.1 (.Slice q.2.1 q.2.2.1 q.2.2.2.1 q.2.2.2.2.1) q.2.2.2.2.2:=by
 refine a7 h λc i h=>?_
 refine b9 h λn g h=>?_
 subst h
 rw[lq i,uc g]
noncomputable def Lp (ns:uq (Str×OY)) (x:If) (ex:Expr):Bool:=ao (bS ex) λq=>q.1==oD x&&varK ns x&&aV x
noncomputable def tC:E->OF
 | .name _=>vj
 | .call _ _=>vj
 | _=>NY
mutual
noncomputable def okE (ns:uq (Str×OY)):E->Expr->OF
 | .name x,ex=>ao (bS ex) λq=>q.1==oD x&&varK ns x&&aV x
 | .int i,ex=>ao (fq ex) λq=>ao (yI q.1) λj=>i==j
 | .str s,ex=>ao (fq ex) λq=>ao (yh q.1) λt=>oD s==t&&decide (t.length<=2^22)
 | .bool b,ex=>ao (fq ex) λq=>ao (tT q.1) λc=>b==c
 | .none,ex=>ao (fq ex) λq=>(AI q.1).isSome
 | .bin o a b,ex=>ao (CV ex) λq=>opB o q.2.1&&okE ns a q.1&&okE ns b q.2.2.1
 | .neg a,ex=>ao (dUn ex) λq=>decide (q.1 = .USub)&&okE ns a q.2.1
 | .not a,ex=>ao (Dl ex) λq=>decide (q.1 = .Not)&&okE ns a q.2.1
 | .cmp o a b,ex=>ao (Dj ex) λq=>ao (bZ q.2.1) λg=>ao (bZ q.2.2.1) λr=>opC o g&&okE ns a q.1&&okE ns b r
 | .and a b,ex=>ao (tY ex) λq=>decide (q.1 = .And)&&ao (gN q.2.1) λv=>okE ns a v.1&&(match bZ v.2 with | some u=>okE ns b u | none=>okA ns b v.2)
 | .or a b,ex=>ao (tY ex) λq=>decide (q.1 = .Or)&&ao (gN q.2.1) λv=>okE ns a v.1&&(match bZ v.2 with | some u=>okE ns b u | none=>okO ns b v.2)
 | .list es,ex=>ao (AB ex) λq=>decide (q.1.length<1000)&&eF ns es q.1
 | .tup es,ex=>ao (DI ex) λq=>decide (q.1.length<1000)&&eF ns es q.1
 | .edic,ex=>ao (zK ex) λq=>(eE q.1).isSome&&(eE q.2.1).isSome
 | .comp elt x it,ex=>ao (sW ex) λq=>ao (eE q.2.2.2.2.1) λuu=>q.2.1==oD x&&f9 ns q.2.2.2.2.2.1 x&&fE ns it q.2.2.2.1&&okE (fB ns q.2.2.2.2.2.1.names) elt q.1
 | .compif elt x it c,ex=>ao (sW ex) λq=>ao (bZ q.2.2.2.2.1) λf=>q.2.1==oD x&&f9 ns q.2.2.2.2.2.1 x&&fE ns it q.2.2.2.1&&okE (fB ns q.2.2.2.2.2.1.names) c f&&okE (fB ns q.2.2.2.2.2.1.names) elt q.1
 | .sub a i,ex=>ao (qp ex) λq=>okE ns a q.1&&okE ns i q.2.1
 | .shi a i,ex=>ao (dSl ex) λq=>ao q.2.2.1 λl=>q.2.1.isNone&&q.2.2.2.1.isNone&&(okE ns a q.1&&okE ns i l)
 | .rev a,ex=>ao (dSl ex) λq=>ao q.2.2.2.1 λl=>q.2.1.isNone&&q.2.2.1.isNone&&(ao (dUn l) λu=>decide (u.1 = .USub)&&ao (fq u.2.1) λc=>ao (yI c.1) λi=>i==1&&okE ns a q.1)
 | .attr a n,ex=>ao (l6 ex) λq=>q.2.1==oD n&&decide (n∈fieldNames)&&tC a&&okE ns a q.1
 | .bi1 f a,ex=>ao (dFn ex) λq=>ao (bZ q.2.2.1) λx=>q.1==oD (b1n f)&&cj ns (b1n f)&&okE ns a x
 | .isi a t,ex=>ao (dFn ex) λq=>ao (tH q.2.2.1) λx=>ao (bS x.2) λc=>q.1==oD "isinstance" && cj ns "isinstance" && okE ns a x.1&&c.1==oD t&&cj ns t&&aV t
 | .isE x t,ex=>ao (dFn ex) λq=>ao (tH q.2.2.1) λy=>ao (bS y.2) λc=>q.1==oD "isinstance" && cj ns "isinstance" && Lp ns x y.1&&c.1==oD t&&cj ns t&&aV t
 | .call f es,ex=>ao (dFn ex) λq=>q.1==oD f&&cj ns f&&aV f && !decide (f∈excNames) && !q.2.2.1.isEmpty&&decide (q.2.2.1.length<20)&&eF ns es q.2.2.1
 | .sm o a b,ex=>ao (fO ex) λq=>ao (eE q.2.2.1) λuu=>ao (l6 q.1) λf=>ao (bZ q.2.1) λy=>(f.2.1==oD (smn o)&&(f.2.2.endLine==q.2.2.2.line))&&((fO f.1).isNone&&(okE ns a f.1&&okE ns b y))
 | .fig,ex=>ao (bS ex) λq=>q.1==oD "FIGURES" && cj ns "FIGURES"
 | .sat a i,ex=>ao (qp ex) λq=>okE ns a q.1&&okE ns i q.2.1
 | .ssl lo a i,ex=>ao (dSl ex) λq=>ao (if lo=vj then q.2.1 else q.2.2.1) λl=>(bS q.1).isSome&&((if lo=vj then q.2.2.1 else q.2.1).isNone&&q.2.2.2.1.isNone)&&(okE ns a q.1&&okE ns i l)
termination_by structural e=>e
noncomputable def okA (ns:uq (Str×OY)):E->uq Expr->OF
 | .and a b,ex=>ao (gN ex) λv=>okE ns a v.1&&(match bZ v.2 with | some u=>okE ns b u | none=>okA ns b v.2)
 | _,_=>NY
termination_by structural e=>e
noncomputable def okO (ns:uq (Str×OY)):E->uq Expr->OF
 | .or a b,ex=>ao (gN ex) λv=>okE ns a v.1&&(match bZ v.2 with | some u=>okE ns b u | none=>okO ns b v.2)
 | _,_=>NY
termination_by structural e=>e
noncomputable def eF (ns:uq (Str×OY)):Es->uq Expr->OF
 | .nil,ex=>(eE ex).isSome
 | .cons e es,ex=>ao (gN ex) λq=>okE ns e q.1&&eF ns es q.2
termination_by structural e=>e
noncomputable def fE (ns:uq (Str×OY)):It->Expr->OF
 | .e a,x=>okE ns a x
 | .s a,x=>okE ns a x
 | .r1 n,ex=>ao (dFn ex) λq=>ao (bZ q.2.2.1) λx=>q.1==oD "range" && cj ns "range" && okE ns n x
 | .r2 a b,ex=>ao (dFn ex) λq=>ao (tH q.2.2.1) λx=>q.1==oD "range" && cj ns "range" && okE ns a x.1&&okE ns b x.2
termination_by structural e=>e
end
section
variable {ns:uq (Str×OY)}{ex:Expr}{a b c:E}
theorem mQ (h:okE ns e ex=vj):(pt ex).tag=xo e:=by
 cases e<;>first | exact aj h λuu e uu=>(nD e).1 | exact aj h λuu e uu=>a7 e λuu e uu=>(nD e).1
theorem wy (h:okE ns (.name x) ex=vj):(∃ id p,ex = .Name id p/\(id==oD x&&varK ns x&&aV x)=vj)\/False:=by
 refine aj h λq e h=>?_
 exact .inl (aC q.1 q.2 (a8 e) h)
theorem Ft (h:okE ns (.int i) ex=vj):(∃ j k p,ex = .Constant (.int j) k p/\(i==j)=vj)\/False:=by
 refine aj h λq e h=>?_
 refine aj h λj g h=>?_
 exact .inl (fh j q.2.1 q.2.2 (by rw[cU e,qD g]) h)
theorem Jl (h:okE ns (.str s) ex=vj):(∃ t k p,ex = .Constant (.str t) k p/\(oD s==t&&decide (t.length<=2^22))=vj)\/False:=by
 refine aj h λq e h=>?_
 refine aj h λj g h=>?_
 exact .inl (fh j q.2.1 q.2.2 (by rw[cU e,qU g]) h)
theorem C1 (h:okE ns (.bool s) ex=vj):(∃ t k p,ex = .Constant (.bool t) k p/\(s==t)=vj)\/False:=by
 refine aj h λq e h=>?_
 refine aj h λj g h=>?_
 exact .inl (fh j q.2.1 q.2.2 (by rw[cU e,oE g]) h)
theorem DX (h:okE ns .none ex=vj):(∃ k p,ex = .Constant .none k p/\V1)\/False:=by
 refine aj h λq e h=>?_
 refine bM h λj g=>?_
 exact .inl (aC q.2.1 q.2.2 (by rw[cU e,vR g]) trivial)
theorem Jh (h:okE ns (.bin o a b) ex=vj):(∃ l op r p,ex = .BinOp l op r p/\(opB o op&&okE ns a l&&okE ns b r)=vj)\/False:=by
 refine aj h λq e h=>?_
 exact .inl (fj _ _ _ _ (xy e) h)
theorem Jp (h:okE ns (.neg a) ex=vj):(∃ x p,ex = .UnaryOp .USub x p/\okE ns a x=vj)\/False:=by
 refine aj h λq e h=>?_
 refine aW h λi g=>?_
 exact .inl (aC _ _ (by rw[sN e,Oy i]) g)
theorem FR (h:okE ns (.not a) ex=vj):(∃ x p,ex = .UnaryOp .Not x p/\okE ns a x=vj)\/False:=by
 refine aj h λq e h=>?_
 refine aW h λi g=>?_
 exact .inl (aC _ _ (by rw[yK e,Oy i]) g)
theorem Ho (h:okE ns (.cmp o a b) ex=vj):(∃ l op r p,ex = .Compare l [op] [r] p/\(opC o op&&okE ns a l&&okE ns b r)=vj)\/False:=by
 refine aj h λq e h=>?_
 refine aj h λop i h=>?_
 refine aj h λr g h=>?_
 exact .inl (fj _ op r _ (by rw[yr e,bp i,bp g]) h)
noncomputable def okA' (ns:uq (Str×OY)) (b:E) (vs:uq Expr):Bool:=match bZ vs with | some u=>okE ns b u | none=>okA ns b vs
noncomputable def okO' (ns:uq (Str×OY)) (b:E) (vs:uq Expr):Bool:=match bZ vs with | some u=>okE ns b u | none=>okO ns b vs
theorem Kh (h:okE ns (.and a b) ex=vj):(∃ v vs p,ex = .BoolOp .And (v::vs) p/\(okE ns a v&&okA' ns b vs)=vj)\/False:=by
 refine aj h λq e h=>?_
 refine aW h λi g=>?_
 refine aj g λv j h=>?_
 exact .inl (fh _ _ _ (by rw[oH e,Oy i,dD j]) h)
theorem LN (h:okE ns (.or a b) ex=vj):(∃ v vs p,ex = .BoolOp .Or (v::vs) p/\(okE ns a v&&okO' ns b vs)=vj)\/False:=by
 refine aj h λq e h=>?_
 refine aW h λi g=>?_
 refine aj g λv j h=>?_
 exact .inl (fh _ _ _ (by rw[oH e,Oy i,dD j]) h)
theorem i_A (h:okA ns (.and a b) xs=vj):(∃ v vs,xs=v::vs/\(okE ns a v&&okA' ns b vs)=vj)\/False:=by
 refine aj h λq e h=>?_
 exact .inl (aC _ _ (dD e) h)
theorem i_O (h:okO ns (.or a b) xs=vj):(∃ v vs,xs=v::vs/\(okE ns a v&&okO' ns b vs)=vj)\/False:=by
 refine aj h λq e h=>?_
 exact .inl (aC _ _ (dD e) h)
theorem Dk (h:okE ns (.list es) ex=vj):(∃ xs p,ex = .List xs p/\(decide (xs.length<1000)&&eF ns es xs)=vj)\/False:=by
 refine aj h λq e h=>?_
 exact .inl (aC _ _ (vI e) h)
theorem GP (h:okE ns (.tup es) ex=vj):(∃ xs k p,ex = .Tuple xs k p/\(decide (xs.length<1000)&&eF ns es xs)=vj)\/False:=by
 refine aj h λq e h=>?_
 exact .inl (fh _ _ _ (zh e) h)
theorem Dc (h:okE ns .edic ex=vj):(∃ p,ex = .Dict [] [] p/\V1)\/False:=by
 refine aj h λq e h=>?_
 refine aW h λi g=>?_
 refine bM i λuu k=>?_
 refine bM g λuu j=>?_
 exact .inl (ah _ (by rw[wt e,cD k,cD j]) trivial)
theorem DL (h:okE ns (.comp a x it) ex=vj):(∃ e t pt i sc p,ex = .ListComp e [⟨.Name t pt,i,[],0⟩] sc p/\(t==oD x&&f9 ns sc x&&fE ns it i&&okE (fB ns sc.names) a e)=vj)\/False:=by
 refine aj h λq e h=>?_
 refine aj h λuu g h=>?_
 exact .inl (z5 _ _ _ _ _ _ (by rw[ou e,cD g]) h)
theorem xp (h:okE ns (.compif a x it c) ex=vj):(∃ e t pt i f sc p,ex = .ListComp e [⟨.Name t pt,i,[f],0⟩] sc p/\(t==oD x&&f9 ns sc x&&fE ns it i&&okE (fB ns sc.names) c f&&okE (fB ns sc.names) a e)=vj)\/False:=by
 refine aj h λq e h=>?_
 refine aj h λuu g h=>?_
 exact .inl (jS _ _ _ _ _ _ _ (by rw[ou e,bp g]) h)
theorem AU (h:okE ns (.sub a b) ex=vj):(∃ v s p,ex = .Subscript v s p/\(okE ns a v&&okE ns b s)=vj)\/False:=by
 refine aj h λq e h=>?_
 exact .inl (fh _ _ _ (lq e) h)
theorem cv (h:o.isNone=vj):o=none:=by cases o with | none=>rfl | some=>exact nF h
theorem Ij (h:okE ns (.shi a b) ex=vj):(∃ v l p pos,ex = .Subscript v (.Slice NI (ti l) NI p) pos/\(okE ns a v&&okE ns b l)=vj)\/False:=by
 refine aj h λq e h=>?_
 refine aj h λl m h=>?_
 refine aW h λk j=>?_
 refine aW k λi g=>?_
 exact .inl (fj _ l _ _ (by rw[mS e,m,cv i,cv g]) j)
theorem GC (h:okE ns (.rev a) ex=vj):(∃ v i n1 p1 p2 p pos,ex = .Subscript v (.Slice NI NI (ti (.UnaryOp .USub (.Constant (.int i) n1 p1) p2)) p) pos/\(i==1&&okE ns a v)=vj)\/False:=by
 refine aj h λq e h=>?_
 refine aj h λl y h=>?_
 refine aW h λo n=>?_
 refine aW o λm k=>?_
 refine aj n λu x h=>?_
 refine aW h λj g=>?_
 refine aj g λc t h=>?_
 refine aj h λi r h=>?_
 exact .inl (jS _ i _ _ _ _ _ (by rw[mS e,y,cv m,cv k,sN x,Oy j,cU t,qD r]) h)
theorem zz (h:okE ns (.bi1 f a) ex=vj):(∃ id p x pos,ex = .Call (.Name id p) [x] [] pos/\(id==oD (b1n f)&&cj ns (b1n f)&&okE ns a x)=vj)\/False:=by
 refine aj h λq e h=>?_
 refine aj h λx g h=>?_
 exact .inl (fj _ _ x _ (by rw[iv e,bp g]) h)
theorem zU (h:okE ns (.isi a t) ex=vj):(∃ id p x c pc pos,ex = .Call (.Name id p) [x,.Name c pc] [] pos/\(id==oD "isinstance" && cj ns "isinstance" && okE ns a x&&c==oD t&&cj ns t&&aV t)=vj)\/False:=by
 refine aj h λq e h=>?_
 refine aj h λx i h=>?_
 refine aj h λc g h=>?_
 exact .inl (z5 _ _ x.1 c.1 c.2 _ (by rw[iv e,pG i,a8 g]) h)
theorem Ia (h:okE ns (.isE x t) ex=vj):okE ns (.isi (.name x) t) ex=true:=h
theorem vF (h:okE ns (.call f es) ex=vj):(∃ id p xs pos,ex = .Call (.Name id p) xs [] pos/\(id==oD f&&cj ns f&&aV f && !decide (f∈excNames) && !xs.isEmpty&&decide (xs.length<20)&&eF ns es xs)=vj)\/False:=by
 refine aj h λq e h=>?_
 exact .inl (fj _ _ _ _ (iv e) h)
theorem DF (h:okE ns (.attr a n) ex=vj):(∃ v p,ex = .Attribute v (oD n) p/\n∈fieldNames/\tC a=vj/\okE ns a v=vj)\/False:=by
 refine aj h λq e h=>?_
 simp only[Of,Oj,OT] at h
 exact .inl (bJ q.1 q.2.2 (by rw[gI e,h.1.1.1]) h.1.1.2 h.1.2 h.2)
theorem KB (h:okE ns (.sm o a b) ex=vj):∃ v p y pos,ex = .Call (.Attribute v (oD (smn o)) p) [y] [] pos/\(p.endLine==pos.line)=vj/\(fO v).isNone=vj/\okE ns a v=vj/\okE ns b y=true:=by
 refine aj h λq e h=>?_
 refine aj h λuu n h=>?_
 refine aj h λf m h=>?_
 refine aj h λy l h=>?_
 refine aW h λi g=>?_
 refine aW i λi k=>?_
 refine aW g λg j=>?_
 exact (mq f.1 f.2.2 y q.2.2.2 (by rw[eh e,cD n,gI m,bp l,Oj.mp i]) k g (bA j).1 (bA j).2)
theorem H0 {lo:OF}(h:okE ns (.ssl lo a b) ex=vj):∃ id p0 l p pos,ex = .Subscript (.Name id p0) (if lo=vj then .Slice (ti l) NI NI p else .Slice NI (ti l) NI p) pos/\okE ns a (.Name id p0)=vj/\okE ns b l=true:=by
 refine aj h λq e h=>?_
 refine aj h λl m h=>?_
 refine aW h λg t=>?_
 refine aW g λu g=>?_
 refine aW g λj r=>?_
 refine bM u λn k=>?_
 refine aW t λi o=>?_
 rw[a8 k] at i
 refine ⟨n.1,n.2,l,q.2.2.2.2.1,q.2.2.2.2.2,?_,i,o⟩
 rw[mS e,a8 k,cv r]
 cases lo with
 | true=>rw[show q.2.1=ti l from m,cv (show q.2.2.1.isNone=vj from j)]; rfl
 | false=>rw[show q.2.2.1=ti l from m,cv (show q.2.1.isNone=vj from j)]; rfl
theorem HF (h:okE ns .fig ex=vj):∃ p,ex = .Name (oD "FIGURES") p/\cj ns "FIGURES" = true:=by
 refine aj h λq e h=>?_
 refine aW h λi g=>?_
 exact ⟨q.2,by rw[a8 e,Oj.mp i],g⟩
theorem t9 (h:eF ns .nil xs=vj):(xs=[]/\V1)\/False:=by
 refine bM (show (eE xs).isSome=vj from h) λuu e=>?_
 exact .inl ⟨cD e,trivial⟩
theorem qT (h:eF ns (.cons a es) xs=vj):(∃ x ys,xs=x::ys/\(okE ns a x&&eF ns es ys)=vj)\/False:=by
 refine aj h λq e h=>?_
 exact .inl (aC _ _ (dD e) h)
theorem Kv (h:fE ns (.r1 a) ex=vj):(∃ id p x pos,ex = .Call (.Name id p) [x] [] pos/\(id==oD "range" && cj ns "range" && okE ns a x)=vj)\/False:=by
 refine aj h λq e h=>?_
 refine aj h λx g h=>?_
 exact .inl (fj _ _ x _ (by rw[iv e,bp g]) h)
theorem Lb (h:fE ns (.r2 a b) ex=vj):(∃ id p x y pos,ex = .Call (.Name id p) [x,y] [] pos/\(id==oD "range" && cj ns "range" && okE ns a x&&okE ns b y)=vj)\/False:=by
 refine aj h λq e h=>?_
 refine aj h λx g h=>?_
 exact .inl (tg _ _ x.1 x.2 _ (by rw[iv e,pG g]) h)
end
noncomputable def bnames:uq String:=["len", "list", "tuple", "sorted", "max", "min", "sum", "range", "isinstance", "int", "bool", "str", "ValueError"]
noncomputable def qn:uq Str:=["__getattribute__", "__getattr__", "__class__"]
noncomputable def bmV:uq Value:=[.type "ValueError", .type "Exception", .type "BaseException", .type "object"]
noncomputable def bE (ns:uq (Str×OY)) (x:If):Bool:=varK ns x&&aV x&&(ns.lookup (oD x)==ti .local||ns.lookup (oD x)==ti .cell)
structure Ps where
 tag:Nat:=0
 e1:Expr:=RK
 e2:Expr:=RK
 es:uq Expr:=[]
 o1:NX Expr:=NI
 o2:NX Expr:=NI
 s1:uq Stmt:=[]
 s2:uq Stmt:=[]
 s3:uq Stmt:=[]
 hs:uq ExceptHandler:=[]
 pos:Pos:=RK
noncomputable def ps:Q6->Ps
 | .Assign x0 x1 x2=>{tag:=1,es:=x0,e1:=x1,pos:=x2 }
 | .Expr x0 x1=>{tag:=2,e1:=x0,pos:=x1 }
 | .Return x0 x1=>{tag:=3,o1:=x0,pos:=x1 }
 | .If x0 x1 x2 x3=>{tag:=4,e1:=x0,s1:=x1,s2:=x2,pos:=x3 }
 | .For x0 x1 x2 x3 x4=>{tag:=5,e1:=x0,e2:=x1,s1:=x2,s2:=x3,pos:=x4 }
 | .While x0 x1 x2 x3=>{tag:=6,e1:=x0,s1:=x1,s2:=x2,pos:=x3 }
 | .Raise x0 x1 x2=>{tag:=7,o1:=x0,o2:=x1,pos:=x2 }
 | .Try x0 x1 x2 x3 x4=>{tag:=8,s1:=x0,hs:=x1,s2:=x2,s3:=x3,pos:=x4 }
 | _=>{}
noncomputable def psB (n:N7) (p:Ps):Stmt:=match n with
 | 1=>.Assign p.es p.e1 p.pos
 | 2=>.Expr p.e1 p.pos
 | 3=>.Return p.o1 p.pos
 | 4=>.If p.e1 p.s1 p.s2 p.pos
 | 5=>.For p.e1 p.e2 p.s1 p.s2 p.pos
 | 6=>.While p.e1 p.s1 p.s2 p.pos
 | 7=>.Raise p.o1 p.o2 p.pos
 | 8=>.Try p.s1 p.hs p.s2 p.s3 p.pos
 | _=>RK
theorem Ci (e:Q6):(ps e).tag=0\/psB (ps e).tag (ps e)=e:=by cases e<;>first | exact .inr rfl | exact .inl rfl
theorem fZ (hn:n≠0) (h:(ps e).tag=n):e=psB n (ps e):=by
 rcases Ci e with q | q
 ·exact N5 (h.symm.trans q) hn
 ·rw[h] at q; exact q.symm
noncomputable def gP:uq α->NX (α×uq α)
 | []=>NI
 | a::l=>ti (a,l)
theorem dv {α:Type}{l:uq α}{q:α×uq α}(h:gP l=ti q):l=q.1::q.2:=by
 cases l with
 | nil=>exact nN h
 | cons a l=>exact Gt h▸rfl
noncomputable def xb (s:Q6):NX Expr:=if (ps s).tag=7/\(ps s).o2.isNone=vj then (ps s).o1 else NI
theorem zj (h:xb s=ti e):∃ p,s = .Raise (ti e) NI p:=by
 unfold xb at h
 by_cases c:(ps s).tag=7/\(ps s).o2.isNone=vj
 ·rw[NZ c] at h
  refine ⟨(ps s).pos,(fZ (by decide) c.1).trans ?_⟩
  show Stmt.Raise _ _ _=_
  rw[h,Rn.mp c.2]
 ·rw[N0 c] at h; exact nN h
noncomputable def yR (s:Q6):NX (Q6×Q3×uq Q3):=if (ps s).tag=8/\(ps s).s2.isEmpty=vj/\(ps s).s3.isEmpty=vj then (gP (ps s).s1).bind λb=>if b.2.isEmpty=vj then (gP (ps s).hs).map λq=>(b.1,q.1,q.2) else NI else NI
theorem y2 (h:yR s=ti q):∃ p,s = .Try [q.1] (q.2.1::q.2.2) [] [] p:=by
 unfold yR at h
 by_cases c:(ps s).tag=8/\(ps s).s2.isEmpty=vj/\(ps s).s3.isEmpty=vj
 ·rw[NZ c] at h
  obtain ⟨b,i,h⟩:=Uy.mp h
  by_cases d:b.2.isEmpty=vj
  ·rw[NZ d] at h
   obtain ⟨r,g,e⟩:=Rx.mp h
   refine ⟨(ps s).pos,(fZ (by decide) c.1).trans ?_⟩
   show Stmt.Try _ _ _ _ _=_
   rw[dv i,dv g,Ts.mp d,Ts.mp c.2.1,Ts.mp c.2.2,<- e]
  ·rw[N0 d] at h; exact nN h
 ·rw[N0 c] at h; exact nN h
noncomputable def dH0:Q3->NX Expr×NX Str×uq Q6×Pos
 | .ExceptHandler a b c p=>(a,b,c,p)
noncomputable def DG (s:Q3):NX (Expr×Q6×uq Q6×NX Str):=(dH0 s).1.bind λt=>(gP (dH0 s).2.2.1).map λq=>(t,q.1,q.2,(dH0 s).2.1)
theorem yc (h:DG s=ti q):∃ p,s = .ExceptHandler (ti q.1) q.2.2.2 (q.2.1::q.2.2.1) p:=by
 refine a7 h λt i h=>?_
 refine b9 h λr j e=>?_
 have g:s = .ExceptHandler (dH0 s).1 (dH0 s).2.1 (dH0 s).2.2.1 (dH0 s).2.2.2:=by cases s; rfl
 exact ⟨(dH0 s).2.2.2,g.trans (by rw[i,dv j,<- e])⟩
noncomputable def nl (s:Q6):NX (uq Expr×Expr×Pos):=ifN (ps s).tag 1 ((ps s).es,(ps s).e1,(ps s).pos)
noncomputable def xO (s:Q6):NX (Expr×Pos):=ifN (ps s).tag 2 ((ps s).e1,(ps s).pos)
noncomputable def uv (s:Q6):NX (NX Expr×Pos):=ifN (ps s).tag 3 ((ps s).o1,(ps s).pos)
noncomputable def sIf (s:Q6):NX (Expr×uq Q6×uq Q6×Pos):=ifN (ps s).tag 4 ((ps s).e1,(ps s).s1,(ps s).s2,(ps s).pos)
noncomputable def DH (s:Q6):NX (Expr×Expr×uq Q6×uq Q6×Pos):=ifN (ps s).tag 5 ((ps s).e1,(ps s).e2,(ps s).s1,(ps s).s2,(ps s).pos)
theorem lw (h:nl s=ti q):s = .Assign q.1 q.2.1 q.2.2:=by
 refine bL h λi g=>?_
 (clear h; subst g)
 exact fZ (by decide) i
theorem rz (h:xO s=ti q):s = .Expr q.1 q.2:=by
 refine bL h λi g=>?_
 (clear h; subst g)
 exact fZ (by decide) i
theorem qb (h:uv s=ti q):s = .Return q.1 q.2:=by
 refine bL h λi g=>?_
 (clear h; subst g)
 exact fZ (by decide) i
theorem B7 (h:sIf s=ti q):s = .If q.1 q.2.1 q.2.2.1 q.2.2.2:=by
 refine bL h λi g=>?_
 (clear h; subst g)
 exact fZ (by decide) i
theorem xz (h:DH s=ti q):s = .For q.1 q.2.1 q.2.2.1 q.2.2.2.1 q.2.2.2.2:=by
 refine bL h λi g=>?_
 (clear h; subst g)
 exact fZ (by decide) i
noncomputable def xr (s:Q6):NX (Expr×Str×Pos×uq Expr×Pos×Pos):=(xO s).bind λq=>(fO q.1).bind λc=>(eE c.2.2.1).bind λuu=>(l6 c.1).map λa=>(a.1,a.2.1,a.2.2,c.2.1,c.2.2.2,q.2)
theorem pB (h:xr s=ti q):s = .Expr (.Call (.Attribute q.1 q.2.1 q.2.2.1) q.2.2.2.1 [] q.2.2.2.2.1) q.2.2.2.2.2:=by
 refine a7 h λc k h=>?_
 refine a7 h λu j h=>?_
 refine a7 h λuu i h=>?_
 refine b9 h λn g h=>?_
 subst h
 rw[rz k,eh j,cD i,gI g]
noncomputable def LW (ns:uq (Str×OY)):H1->Q6->OF
 | .asg x e,st=>ao (nl st) λq=>ao (bZ q.1) λt=>ao (bS t) λn=>n.1==oD x&&bE ns x&&okE ns e q.2.1
 | .ret e,st=>ao (uv st) λq=>ao q.1 λv=>okE ns e v
noncomputable def tn (ns:uq (Str×OY)):uq H1->uq Q6->OF
 | [],st=>(eE st).isSome
 | s::r,st=>ao (gN st) λq=>LW ns s q.1&&tn ns r q.2
noncomputable def Lx (ns:uq (Str×OY)) (st:uq Q6) (nm:NX Str):HB->OF
 | .num i=>nm.isNone&&tn ns [.ret (.int i)] st
 | .nam x r=>(nm==ti (oD x)&&(bE ns x&&ns.lookup (oD x)==ti .local))&&tn ns r st
noncomputable def KN (ns:uq (Str×OY)) (p:If×HB) (h:Q3):Bool:=ao (DG h) λq=>ao (bS q.1) λn=>(n.1==oD p.1&&(cj ns p.1&&aV p.1))&&Lx ns (q.2.1::q.2.2.1) q.2.2.2 p.2
noncomputable def uf (ns:uq (Str×OY)):uq (If×HB)->uq Q3->OF
 | [],hs=>hs.isEmpty
 | p::r,hs=>ao (gP hs) λq=>KN ns p q.1&&uf ns r q.2
mutual
noncomputable def okS (ns:uq (Str×OY)):S->Q6->OF
 | .assign x e,st=>ao (nl st) λq=>ao (bZ q.1) λt=>ao (bS t) λn=>n.1==oD x&&bE ns x&&okE ns e q.2.1
 | .setitem x e,st=>ao (nl st) λq=>ao (bZ q.1) λt=>ao (qp t) λu=>ao (bS u.1) λn=>ao (fq q.2.1) λc=>ao (tT c.1) λb=>b&&(n.1==oD x&&bE ns x&&okE ns e u.2.1)
 | .append x e,st=>ao (xr st) λq=>ao (bS q.1) λn=>ao (bZ q.2.2.2.1) λv=>q.2.1==oD "append" && (q.2.2.1.endLine==q.2.2.2.2.1.line)&&n.1==oD x&&bE ns x&&okE ns e v
 | .pop x i,st=>ao (xr st) λq=>ao (bS q.1) λn=>ao (bZ q.2.2.2.1) λv=>q.2.1==oD "pop" && (q.2.2.1.endLine==q.2.2.2.2.1.line)&&n.1==oD x&&bE ns x&&okE ns i v
 | .expr e,st=>ao (xO st) λq=>(fO q.1).isSome&&okE ns e q.1
 | .ret e,st=>ao (uv st) λq=>ao q.1 λv=>okE ns e v
 | .retn x,st=>ao (uv st) λq=>ao q.1 λv=>ao (bS v) λn=>n.1==oD x&&bE ns x
 | .ite c a b,st=>ao (sIf st) λq=>okE ns c q.1&&cK ns a q.2.1&&cK ns b q.2.2.1
 | .for1 x it b,st=>ao (DH st) λq=>ao (eE q.2.2.2.1) λuu=>ao (bS q.1) λn=>n.1==oD x&&bE ns x&&fE ns it q.2.1&&cK ns b q.2.2.1
 | .raise c,st=>ao (xb st) λq=>ao (fO q) λa=>ao (eE a.2.2.1) λuu=>ao (bS a.1) λn=>ao (bZ a.2.1) λm=>ao (fq m) λk=>ao (yh k.1) λt=>n.1==oD c&&cj ns c&&aV c&&decide (t.length<=1000)
 | .tryS b hs,st=>ao (yR st) λq=>okS ns b q.1&&uf ns hs (q.2.1::q.2.2)
 | .bad,_=>NY
termination_by structural s=>s
noncomputable def cK (ns:uq (Str×OY)):Ss->uq Q6->OF
 | .nil,st=>(eE st).isSome
 | .cons s r,st=>ao (gN st) λq=>okS ns s q.1&&cK ns r q.2
termination_by structural s=>s
end
section
variable {ns:uq (Str×OY)}{st:Q6}{x:If}{e i c:E}{a b:Ss}
theorem ol (h:okS ns (.assign x e) st=vj):(∃ t pt v p,st = .Assign [.Name t pt] v p/\(t==oD x&&bE ns x&&okE ns e v)=vj)\/False:=by
 refine aj h λq j h=>?_
 refine aj h λt i h=>?_
 refine aj h λn g h=>?_
 exact .inl (fj _ _ _ _ (by rw[lw j,bp i,a8 g]) h)
theorem uC (h:okS ns (.setitem x e) st=vj):(∃ t pt i p1 k p2 p,st = .Assign [.Subscript (.Name t pt) i p1] (.Constant (.bool vj) k p2) p/\(t==oD x&&bE ns x&&okE ns e i)=vj)\/False:=by
 refine aj h λq v h=>?_
 refine aj h λt r h=>?_
 refine aj h λu o h=>?_
 refine aj h λn m h=>?_
 refine aj h λc l h=>?_
 refine aj h λb j h=>?_
 refine aW h λg h=>?_
 subst g
 exact .inl (jS _ _ _ _ _ _ _ (by rw[lw v,bp r,lq o,a8 m,cU l,oE j]) h)
theorem vD (h:okS ns (.append x e) st=vj):(∃ t pt m ap v pos sp,st = .Expr (.Call (.Attribute (.Name t pt) m ap) [v] [] pos) sp/\(m==oD "append" && (ap.endLine==pos.line)&&t==oD x&&bE ns x&&okE ns e v)=vj)\/False:=by
 refine aj h λq j h=>?_
 refine aj h λn i h=>?_
 refine aj h λv g h=>?_
 exact .inl (jS _ _ _ _ v _ _ (by rw[pB j,a8 i,bp g]) h)
theorem De (h:okS ns (.pop x e) st=vj):(∃ t pt m ap v pos sp,st = .Expr (.Call (.Attribute (.Name t pt) m ap) [v] [] pos) sp/\(m==oD "pop" && (ap.endLine==pos.line)&&t==oD x&&bE ns x&&okE ns e v)=vj)\/False:=by
 refine aj h λq j h=>?_
 refine aj h λn i h=>?_
 refine aj h λv g h=>?_
 exact .inl (jS _ _ _ _ v _ _ (by rw[pB j,a8 i,bp g]) h)
theorem nk (h:okS ns (.expr e) st=vj):(∃ f xs ks p sp,st = .Expr (.Call f xs ks p) sp/\okE ns e (.Call f xs ks p)=vj)\/False:=by
 refine aj h λq k h=>?_
 refine aW h λj g=>?_
 refine bM j λc i=>?_
 rw[eh i] at g
 exact .inl (tg _ _ _ _ _ (by rw[rz k,eh i]) g)
theorem rA (h:okS ns (.ret e) st=vj):(∃ v p,st = .Return (ti v) p/\okE ns e v=vj)\/False:=by
 refine aj h λq i h=>?_
 refine aj h λv g h=>?_
 exact .inl (aC v _ (by rw[qb i,g]) h)
theorem Bs (h:okS ns (.retn x) st=vj):(∃ t pt p,st = .Return (ti (.Name t pt)) p/\(t==oD x&&bE ns x)=vj)\/False:=by
 refine aj h λq j h=>?_
 refine aj h λv i h=>?_
 refine aj h λn g h=>?_
 exact .inl (fh _ _ _ (by rw[qb j,i,a8 g]) h)
theorem wC (h:okS ns (.ite c a b) st=vj):(∃ t u v p,st = .If t u v p/\(okE ns c t&&cK ns a u&&cK ns b v)=vj)\/False:=by
 refine aj h λq g h=>?_
 exact .inl (fj _ _ _ _ (B7 g) h)
theorem By (h:okS ns (.for1 x it b) st=vj):(∃ t pt i u p,st = .For (.Name t pt) i u [] p/\(t==oD x&&bE ns x&&fE ns it i&&cK ns b u)=vj)\/False:=by
 refine aj h λq k h=>?_
 refine aj h λuu j h=>?_
 refine aj h λn g h=>?_
 exact .inl (tg _ _ _ _ _ (by rw[xz k,cD j,a8 g]) h)
theorem yg {c:If}(h:okS ns (.raise c) st=vj):(∃ n p t k p2 cp pos,st = .Raise (ti (.Call (.Name n p) [.Constant (.str t) k p2] [] cp)) NI pos/\(n==oD c&&cj ns c&&aV c&&decide (t.length<=1000))=vj)\/False:=by
 refine aj h λq u h=>?_
 refine aj h λa r h=>?_
 refine aj h λuu o h=>?_
 refine aj h λn l h=>?_
 refine aj h λm j h=>?_
 refine aj h λk i h=>?_
 refine aj h λt g h=>?_
 refine al (zj u) λp v=>?_
 exact .inl (jS n.1 n.2 t k.2.1 k.2.2 a.2.2.2 p (by rw[v,eh r,cD o,a8 l,bp j,cU i,qU g]) h)
theorem Dz {b:S}{hs:uq (If×HB)}(h:okS ns (.tryS b hs) st=vj):∃ t d ds p,st = .Try [t] (d::ds) [] [] p/\okS ns b t=vj/\uf ns hs (d::ds)=true:=by
 refine aj h λq i h=>?_
 refine al (y2 i) λp e=>?_
 have g:=Qf.mp h
 exact (fj _ _ _ p e g)
theorem C4 (h:cK ns .nil l=vj):(l=[]/\V1)\/False:=by
 refine bM (show (eE l).isSome=vj from h) λuu e=>?_
 exact .inl ⟨cD e,trivial⟩
theorem sk (h:cK ns (.cons s a) l=vj):(∃ t u,l=t::u/\(okS ns s t&&cK ns a u)=vj)\/False:=by
 refine aj h λq g h=>?_
 exact .inl (aC _ _ (dD g) h)
end
structure FnT where
 params:uq If
 body:uq Q6
 scope:Scope
noncomputable def okF (ft:FnT) (f:Fn):Bool:=decide (ft.params=f.params)&&f.params.all (bE ft.scope.names)&&decide f.params.Nodup&&cK ft.scope.names f.body ft.body&&ft.scope.names.all λp=>p.2 != .free
noncomputable def eW (ns:uq (Str×OY)) (n:If) (e:E) (st:Q6):Bool:=ao (nl st) λq=>ao (bZ q.1) λt=>ao (l6 t) λu=>ao (bS u.1) λm=>m.1==oD "self" && u.2.1==oD n&&okE ns e q.2.1
theorem lj {ns:uq (Str×OY)}{n:If}{e:E}{st:Q6}(h:eW ns n e st=vj):∃ p1 p2 v p,st = .Assign [.Attribute (.Name (oD "self") p1) (oD n) p2] v p/\okE ns e v=true:=by
 refine aj h λq k h=>?_
 refine aj h λt j h=>?_
 refine aj h λu i h=>?_
 refine aj h λm g h=>?_
 simp only[Of,Oj] at h
 refine (fj m.2 u.2.2 q.2.1 q.2.2 ?_ h.2)
 rw[lw k,bp j,gI i,a8 g,h.1.1,h.1.2]
noncomputable def eX:E:=.bi1 .len (.sub (.name "full") (.int 0))
noncomputable def ok3 (ns:uq (Str×OY)) (l:uq Q6):Bool:=ao (gP l) λp=>ao (gP p.2) λq=>ao (gP q.2) λr=>r.2.isEmpty&&(eW ns "count" (.name "count") p.1&&(eW ns "full" (.name "full") q.1&&eW ns "size" eX r.1))
theorem BW (h:ok3 ns l=vj):∃ a b c,l=[a,b,c]/\eW ns "count" (.name "count") a=vj/\eW ns "full" (.name "full") b=vj/\eW ns "size" eX c=true:=by
 obtain ⟨p,m,h⟩:=iB h
 obtain ⟨q,k,h⟩:=iB h
 obtain ⟨r,j,h⟩:=iB h
 have e:=bA h
 have i:=bA e.2
 have g:=bA i.2
 refine (zR p.1 q.1 r.1 ?_ i.1 g.1 g.2)
 rw[dv m,dv k,dv j,Ts.mp e.1]
noncomputable def okI (ft:FnT) (f:Fn):Bool:=decide (ft.params = "self" :: f.params)&&ft.params.all (bE ft.scope.names)&&decide ft.params.Nodup&&cK ft.scope.names f.body (ft.body.take (ft.body.length-3))&&ok3 ft.scope.names (ft.body.drop (ft.body.length-3))&&decide ("self" ∉ asgs f.body)&&(ft.scope.names.all λp=>p.2 != .free)
structure Soft where
 old:Oo->Prop
 rule:Oo
 exc:If->Oo
 excN:uq If
structure Gl where
 prog:SS
 w:World
 SF:Soft
noncomputable def kZ (h:O2) (c:If):Addr:=match h.clsAt PX (oD c) with
 | some x=>x.1
 | none=>0
noncomputable def CL (h:O2) (c:If):NX (uq Lt):=(h.clsAt PX (oD c)).map λx=>x.2.2.mro
noncomputable def IJ (h:O2) (c:If):uq Value:=if c = "PickError" then bmV else .ref (kZ h "PickError")::bmV
noncomputable def KH (h:O2) (c:If):Bool:=ao (h.clsAt PX (oD c)) λx=>h.isNs x.2.2.ns&&qn.all λn=>(h.nsMap x.2.2.ns n).isNone
noncomputable def rB (cs:uq If) (h:O2):Bool:=h.isNs PX&&(cs.all λc=>CL h c==ti (.ref (kZ h c)::IJ h c)&&KH h c)&&(cs.all λc=>cs.all λg=>kZ h c != kZ h g||c==g) &&
 match h.clsAt PX "Rule" with
 | some x=>h.isNs x.2.2.ns&&fieldNames.all λn=>(h.nsMap x.2.2.ns (oD n)).isNone
 | none=>NY
noncomputable def gv (cs:uq If) (h:O2):Prop:=∃ mg,h.Ns PX mg/\∃ ad:If->Oo,(∀ c∈cs,∃ o cd,mg (oD c)=ti (.ref (ad c))/\h.get? (ad c)=ti o/\o.data = .cls cd/\cd.mro = .ref (ad c)::(if c = "PickError" then bmV else .ref (ad "PickError")::bmV)/\∃ mN,h.Ns cd.ns mN/\∀ n∈qn,mN n=NI) /\
 (∀ c∈cs,∀ c'∈cs,ad c=ad c'->c=c')/\∃ C o cd mN,mg "Rule" = ti (.ref C)/\h.get? C=ti o/\o.data = .cls cd/\h.Ns cd.ns mN/\∀ n∈fieldNames,mN (oD n)=NI
set_option tactic.hygienic true in
theorem Bf {cs:uq If}(e:rB cs h=vj):gv cs h:=by
 unfold rB at e
 simp only[Of,Pm] at e
 refine ae (e) λi k=>?_
 clear e
 refine ae (i) λg h3=>?_
 clear i
 refine ae (g) λh1 h2=>?_
 clear g
 refine ⟨h.nsMap PX,.of_isNs h1,kZ h,λc l=>?_,λc l c' r q=>?_,?_⟩
 ·have:=Oj.mp (h2 c l).1
  refine aj (h2 c l).2 λy m p=>?_
  simp only[Of,Pm,Rn] at p
  unfold CL at this
  refine b9 this λx j hm=>?_
  obtain ⟨C,o,z⟩:=x
  refine aK (Xy j) λv u t=>?_
  have ea:kZ h c=C:=by unfold kZ; rw[j]
  rw[ea] at hm ⊢
  rw[j] at m; (have oc:=Gt m; clear m; subst oc)
  exact ⟨o,z,v,u,t,hm,_,.of_isNs p.1,p.2⟩
 ·have:=h3 c l c' r
  simp only[TZ,bne_iff_ne,Oj] at this
  exact this.resolve_left λn=>n q
 ·split at k
  ·rename_i x j
   obtain ⟨C,o,z⟩:=x
   refine aK (Xy j) λv u t=>?_
   simp only[Of,Pm,Rn] at k
   exact ⟨C,o,z,_,v,u,t,.of_isNs k.1,k.2⟩
  ·exact nF k
noncomputable def Km (cs:uq If):PySem.W.Hook:=⟨OF,λs=>rB cs s.heap,λuu=>vj,λuu h=>gv cs h,λuu uu e=>Bf e,λuu h h' x k=>ag (x) λn q y=>ar (y) λad a1 a2 z=>AJ (z) λC o i g b1 b2 b3 b4 v=>⟨n,q.keeps k,ad,λc p=>ce (a1 c p) λo i u t r j=>⟨o,i,u,k _ _ t,r,j.1,ag j.2 λg m l=>⟨g,m.keeps k,l⟩⟩,a2,C,o,i,g,b1,k _ _ b2,b3,b4.keeps k,v⟩⟩
noncomputable def zrw:PySem.W.RowW:=PySem.W.OpenRow.toRowW (Xv Rb)
noncomputable def zvw:PySem.Program:={zrw.prog with main:={zrw.prog.main with body:=zrw.prog.main.body.filter λs=>(nl s).isNone||(Jab (oD "FIGURES") s).isSome } }
noncomputable def zxw:PySem.Shared->Bool:=λs=>PySem.W.xlAt zvw [] s && PySem.W.recOk (PySem.W.RowW.records zrw) s
noncomputable def zhk:=Km excNames
set_option maxRecDepth 100000 in
theorem zt4:PySem.W.LeftO zrw.prog zvw [] zxw (PySem.W.Hook.obs zhk) (PySem.W.Hook.val zhk) 5000:=λw=>by kernel_rfl
noncomputable def g9 (a:Arguments) (ps:uq If):Bool:=a.posonlyargs.isEmpty&&(a.args.map (·.arg)==ps.map oD)&&a.vararg.isNone&&a.kwonlyargs.isEmpty&&a.kwarg.isNone
noncomputable def hV (sc:Scope):Bool:=!sc.isCoroutine && !sc.isGenerator&&sc.kind == .function
noncomputable def eM (p:SS) (loose:uq Str):NX ClsRec:=(plainsOf p loose).find? λc=>c.name==oD "Rule"
noncomputable def r7 (p:SS) (loose:uq Str) (m:If):NX MethRec:=(eM p loose).bind λc=>c.meths.find? λr=>r.name==oD m
noncomputable def jG (p:SS) (loose:uq Str) (f:If) (fn:Fn):Bool :=
 if f∈excNames then specOf p (oD f)==ti ("ValueError.__new__", bmV)
 else if f = "Rule" then ao (r7 p loose "__init__") λr=>okI ⟨"self" :: fn.params,r.body,r.scope⟩ fn&&g9 r.params ("self" :: fn.params)&&hV r.scope
 else ao ((W1 p).find? λd=>d.name==oD f) λd=>okF ⟨fn.params,d.body,d.scope⟩ fn&&g9 d.params fn.params&&hV d.scope
noncomputable def j8 (p:SS) (loose:uq Str) (L:uq (If×Fn)):Bool:=L.all λq=>jG p loose q.1 q.2
noncomputable def bB (L:uq (If×Fn)):uq String:=(L.map (·.1)).filter λf=>decide (f∈excNames)
noncomputable def tP (p:SS) (loose:uq Str):Bool:=((valOf p (oD "FIGURES")).bind asS==ti figS)&&bnames.all λx=>!startupNames.contains (oD x) && !loose.contains (oD x) && !((W1 p).map (·.name)).contains (oD x) && !((litsOf p).map (·.1)).contains (oD x) && !((clssOf p loose).map (·.name)).contains (oD x)
noncomputable def mJ (v:NX Lt):NX Addr:=match v with
 | some (.ref a)=>ti a
 | _=>NI
noncomputable def rD (mg:Str->NX Lt) (L:uq (If×Fn)) (h:O2):Soft:=⟨λb=>∃ o,h.get? b=ti o,(mJ (mg "Rule")).getD 0,λc=>(mJ (mg (oD c))).getD 0,bB L⟩
noncomputable def qy (g:Gl):Prop:=∀ {p:SS}{loose:uq Str}{mean:ExcName->NX Lt}{mg mb:Str->NX Lt}{L:uq (If×Fn)}{s:NU}{fn:Fn}{fa a:Oo}{n:N7}{ns:uq N3}{vs:uq Lt}{m:Mode}{Q:Lt->NU->Prop}{Er:Lt->NU->Prop},g.SF=rD mg L s.heap ->
  Top p loose mean mg mb s.heap->TopE p loose mg s.heap->gv (bB L) s.heap->j8 p loose L=vj->tP p loose=vj->(eM p loose).isSome=vj->(L.lookup "Rule").isSome=vj->(bB L=[] \/ "PickError" ∈ bB L) ->
  L.lookup "law" = ti fn->mg (oD "law")=ti (.ref fa)->n<=50->ax (mkC L n) fn [.d (aa ns)] = .ok (.d (.bool vj),m)->s.heap.get? a=ti {cls:=.type "list", data:=.seq vs.toArray }->P2 vs ns->ns.length<=2^22 ->
  (∀ h' tk,OldK s.heap h'->Q (.bool vj) {s with heap:=h',toks:=tk })->Og (Ok g.prog g.w) YR (Sy (.ref fa) [.ref a]) Q Er s
noncomputable def gl0:Gl:=⟨RK,⟨λ_ _=>0,{strHash:=λ_=>0,shareClass:=λ_=>0,mergeTok:=id,idOf:=λ_=>0,idOfShared:=λ_ _=>0,followText:=λ_=>NY,idOfImm:=λ_=>0 }⟩,⟨λ_=>V1,0,λ_=>0,[]⟩⟩
noncomputable def gl:Gl:=@WF Gl ⟨gl0⟩ λg=>¬ qy g
theorem DW (h:qy gl) (g:Gl):qy g:=by
 apply T7
 intro n
 exact @UW Gl (λg=>¬ qy g) ⟨g,n⟩ h
noncomputable def prog:Program:=gl.prog
noncomputable def w:World:=gl.w
noncomputable def SF:Soft:=gl.SF
noncomputable def Room (hb:OF) (k:N7) (A:OI):Prop:=(hb=NY->A.handled=NI)/\A.depth+2*k+(if hb then 1 else 4)<RO/\A.units+100*k+(if hb then 200 else 300)<TH
noncomputable def Stay (o:Obj):Prop:=o.cls = .type "tuple" /\ ∃ vs n,o.data = .seq vs n
section
noncomputable def Like (b:Oo) (o o':Obj):Prop:=o'.cls=o.cls/\o'.data=o.data/\(o' = o\/(¬ SF.old b/\o.cls = .type "frame" /\ ∃ es ep,o.data = .dict es ep))
theorem Like.same:Like b o o:=⟨rfl,rfl,.inl rfl⟩
noncomputable def KG (G:Oo->Prop) (h h':O2):Prop:=∀ b o,G b\/Stay o->h.get? b=ti o->∃ o',h'.get? b=ti o'/\Like b o o'
noncomputable def hardB (o:Obj):Bool:=match o.cls with | .type n=>n != "frame" | _=>vj
theorem Like.hard (l:Like b o o') (hh:hardB o=vj):o' = o:=l.2.2.elim id λx=>by unfold hardB at hh; rw[x.2.1] at hh; exact nF hh
theorem Like.exact (l:Like b o o') (h2:∀ es ep,o.data≠.dict es ep):o' = o:=l.2.2.elim id λx=>bz x.2.2 λes ep e=>N5 e (h2 es ep)
theorem Stay.hard (x:Stay o):hardB o=true:=by
 unfold hardB
 rw[x.1]; decide
section
theorem KG.of (k:∀ b o,G b\/Stay o->h.get? b=ti o->h'.get? b=ti o):KG G h h':=λb o g e=>(ah o (k b o g e) .same)
theorem KG.refl:KG G h h:=.of λuu uu uu e=>e
theorem KG.hard (k:KG G h h') (hb:G b\/Stay o) (e:h.get? b=ti o) (hh:hardB o=vj):h'.get? b=ti o:=by
 refine ag (k b o hb e) λi g l=>?_
 rw[g,l.hard hh]
theorem KG.stay (k:KG G h h') (e:h.get? b=ti o) (x:Stay o):h'.get? b=ti o:=k.hard (.inr x) e x.hard
theorem KG.trans (a:KG G h h') (b:KG G h' h''):KG G h h'':=λc o n e=>by
 refine ag (a c o n e) λm p l=>?_
 have j:G c\/Stay m:=n.imp id λx=>by rw[l.hard x.hard]; exact x
 refine ag (b c m j p) λg k i=>?_
 refine (ah g k ⟨i.1.trans l.1,i.2.1.trans l.2.1,l.2.2.elim (λq=>q▸i.2.2) λx=>.inr x⟩)
theorem KG.mono (k:KG G h h') (hg:∀ b,G' b->G b):KG G' h h':=λb o g e=>k b o (g.imp (hg b) id) e
end
theorem Stay.not_data (h2:∀ vs n,o.data≠.seq vs n):¬ Stay o:=λx=>bz x.2 h2
theorem Stay.not_list:¬ Stay ⟨.type "list", d,.seq vs n,x⟩:=λx=>N5 x.1 (by simp)
theorem Stay.not_dict (h:o.data = .dict es ep):¬ Stay o:=Stay.not_data λuu uu q=>by rw[h] at q; cases q
theorem Stay.not_cls (h2:o.cls≠.type "tuple"):¬ Stay o:=λx=>h2 x.1
theorem KG.ofW {wr:uq Oo}{h h':O2}(k:∀ b o,b∉wr->h.get? b=ti o->h'.get? b=ti o) (n:∀ b∈wr,∀ o,h.get? b=ti o->¬ Stay o):KG (λb=>b∉wr) h h' :=
 .of λb o i e=>k b o (λg=>i.elim (λx=>x g) (n b g o e)) e
theorem KG.same (hs:Pn a h h') (hz:¬ G a) (hn:∀ o,h.get? a=ti o->¬ Stay o):KG G h h' :=
 .of λb o g e=>hs.extBut b o (λq=>by (clear hs; subst q); exact g.elim hz (hn o e)) e
theorem Stay.not_fields (h:∃ fs,o.data = .fields fs):¬ Stay o:=al h λfs e=>Stay.not_data λuu uu q=>by rw[e] at q; cases q
noncomputable abbrev K (h h':O2):Prop:=KG (λuu=>V1) h h'
section
theorem K.of (k:∀ b o,h.get? b=ti o->h'.get? b=ti o):K h h':=KG.of λb o _ e=>k b o e
theorem K.get (k:K h h') (e:h.get? b=ti o) (hh:hardB o=vj):h'.get? b=ti o:=KG.hard k (.inl trivial) e hh
theorem K.step (a:K h h') (b:KG G h' h'') (hg:∀ b o,h.get? b=ti o->G b):K h h'':=λc o _ e=>
 (KG.trans (KG.mono (G':=λb=>∃ o,h.get? b=ti o) a λuu uu=>trivial) (KG.mono b λb ⟨o,e⟩=>hg b o e)) c o (.inl ⟨o,e⟩) e
theorem K.same (k:K h h') (hs:Pn a h' h'') (ha:h.get? a=NI) (hn:∀ o,h'.get? a=ti o->¬ Stay o):K h h'' :=
 K.step k (G:=λb=>b≠a) (KG.same hs (λq=>q rfl) hn) λb o e q=>by rw[q,ha] at e; exact nN e
theorem K.there (k:K h h') (e:h.get? b=ti o):∃ o',h'.get? b=ti o':=ag (k b o (.inl trivial) e) λo' g uu=>⟨o',g⟩
theorem KG.dataG (k:KG G h h') (g:G b\/Stay o) (e:h.get? b=ti o):∃ o',h'.get? b=ti o'/\o'.data=o.data/\o'.cls=o.cls :=
 ag (k b o g e) λo' i l=>(aG o' i l.2.1 l.1)
theorem K.data (k:K h h') (e:h.get? b=ti o):∃ o',h'.get? b=ti o'/\o'.data=o.data/\o'.cls=o.cls:=KG.dataG k (.inl trivial) e
theorem K.exact (k:K h h') (e:h.get? b=ti o) (h2:∀ es ep,o.data≠.dict es ep):h'.get? b=ti o :=
 ag (k b o (.inl trivial) e) λi g l=>(l.exact h2)▸g
theorem zo (k:KG G h h') (g:G a) (x:h.Ns a m):h'.Ns a m :=
 aX (x) λo n p e l r=>ar (k.dataG (.inl g) e) λj q i _=>(dQ j n p q (i.trans l) r)
theorem eO (x:h.Ns a m) (k:K h h'):h'.Ns a m:=zo k trivial x
theorem nA (k:KG G h h') (g:G c) (x:h.IsCell c v):h'.IsCell c v :=
 ag (x) λo e l=>ar (k.dataG (.inl g) e) λj m i _=>(ah j m (i.trans l))
theorem ro (x:h.IsCell c v) (k:K h h'):h'.IsCell c v:=nA k trivial x
theorem sG (x:h.NoLimit) (k:K h h'):h'.NoLimit:=ag (x) λg a b=>(ah g (eO a k) b)
theorem zQ (k:KG G h h'):(∀ {v:Lt}{d:N9}{as:uq Oo},R h v d as->(∀ a∈as,G a)->R h' v d as)/\(∀ {vs:uq Lt}{ds:uq N9}{as:uq Oo},RA h vs ds as->(∀ a∈as,G a)->RA h' vs ds as) :=
 R.ind (M:=λv d as=>(∀ a∈as,G a)->R h' v d as) (N:=λvs ds as=>(∀ a∈as,G a)->RA h' vs ds as) (λuu=>.none) (λb _=>.bool b) (λi t _=>.int i t) (λx t _=>.str x t)
  (λe _ m g=>.list (k.hard (.inl (g _ (.head _))) e rfl) (m λb l=>g b (.tail _ l))) (λe _ m g=>.tuple (k.stay e (aM rfl (cf _ _ rfl))) (m g))
  (λuu=>.nil) (λuu uu i j g=>.cons (i λb l=>g b (OV _ l)) (j λb l=>g b (OU _ l)))
theorem R.onG (r:R h v d as) (k:KG G h h') (g:∀ a∈as,G a):R h' v d as:=(zQ k).1 r g
theorem RA.onG (r:RA h vs ds as) (k:KG G h h') (g:∀ a∈as,G a):RA h' vs ds as:=(zQ k).2 r g
theorem R.k (r:R h v d as) (k:K h h'):R h' v d as:=r.onG k λuu uu=>trivial
theorem RA.k (r:RA h vs ds as) (k:K h h'):RA h' vs ds as:=r.onG k λuu uu=>trivial
end
end
noncomputable def bval (x:If):Value:=if x∈["list", "tuple", "range", "int", "bool", "str", "ValueError"] then .type x else .builtin x
structure Fns where
 fn:If->NX (Oo×FnT)
 init:Oo×FnT
 hand:OF
noncomputable def adr (fns:Fns) (f:If):NX Addr:=if f = "Rule" then ti SF.rule else (fns.fn f).map (·.1)
theorem ww (h1:f ≠ "Rule"):adr fns f=(fns.fn f).map (·.1):=N0 h1
inductive FnAt (h:O2) (ft:FnT) (a:Oo):Prop
 | mk (o:Obj) (fd:XW):h.get? a=ti o->o.data = .func fd->fd.body = .stmts ft.body->fd.scope=ft.scope->fd.globals=PX->fd.closure=[]->fd.builtins=T0->h.CodeRec fd.code fd.qualname ->
 (∀ vals,vals.length=ft.params.length->XX fd ⟨vals,[]⟩=Pu ((ft.params.map oD).zip vals))->fd.scope.isCoroutine=NY->fd.scope.isGenerator=NY->fd.scope.kind = .function->FnAt h ft a
theorem vW (x:h.CodeRec cd q) (k:K h h'):h'.CodeRec cd q :=
 i7 (x) λc o i t a e m l=>ar (K.data k e) λj n g _=>(me c j i t a n (g.trans m) l)
theorem FnAt.k (x:FnAt h ft a) (k:K h h'):FnAt h' ft a :=
 x.casesOn λo fd z y v u t r q p n j i g=>ar (K.data k z) λl e' m _=>.mk l fd e' (m.trans y) v u t r q (vW p k) n j i g
theorem sv (x:ClsAt h C N mN) (k:K h h'):ClsAt h' C N mN:=by
 obtain ⟨g,u⟩:=x
 refine fV (g) λm q y l i j v t r p o n e=>?_
 clear g
 exact ⟨⟨m,q,y,l,i,j,v,t,r,p,o,n,K.get k e rfl⟩,eO u k⟩
noncomputable def RuleAt (fns:Fns) (h:O2):Prop:=∃ N mN,ClsAt h SF.rule N mN/\(∀ n∈["__setattr__", "__getattribute__", "__getattr__", "count", "full", "size"],mN (oD n)=NI) /\
 FnAt h fns.init.2 fns.init.1/\∃ o,mN "__init__" = ti (.ref fns.init.1)/\h.get? fns.init.1=ti o/\o.cls = .type "function"
theorem RuleAt.k (x:RuleAt fns h) (k:K h h'):RuleAt fns h' :=
 ce (x) λN i p n m y=>ar y λo i2 l j=>ar (K.data k l) λg q _ r=>(bJ N i (sv p k) n (m.k k) (aG g i2 q (r.trans j)))
noncomputable def bY (c:If):uq Value:=if c = "PickError" then bmV else .ref (SF.exc "PickError")::bmV
theorem vG {bm tl:uq Lt}(T:YS h bm tl) (k:K h h'):YS h' bm tl:=by
 induction T with
 | base=>exact .base
 | own hA hN hq _ ih=>exact .own (K.exact k hA λuu uu q=>by cases q) (eO hN k) hq ih
noncomputable def ExcAt0 (h:O2) (c:If):Prop:=∃ N nm q bs hdct sn sub ab col dd k0 k1 k2 k3 k5 mN,h.get? (SF.exc c)=ti (PP nm q (SF.exc c) N bs (bY c) hdct sn sub ab col dd k0 k1 k2 k3 k5 "ValueError.__new__")/\h.Ns N mN/\mN "__init__" = NI/\YS h bmV (bY c)
theorem ExcAt0.use {h:O2}{c:If}{G:Prop}(x:ExcAt0 h c) (k:∀ {N:Oo}{nm q:Str}{bs:uq Lt}{hdct:OF}{sn:uq Str}{sub:uq Lt}{ab:OF}{col:NX OF}{dd:NX Oo}{k0 k1 k2 k3 k5:NX Lt}{mN:Str->NX Lt},h.get? (SF.exc c)=ti (PP nm q (SF.exc c) N bs (bY c) hdct sn sub ab col dd k0 k1 k2 k3 k5 "ValueError.__new__")->h.Ns N mN->mN "__init__" = NI->YS h bmV (bY c)->G):G:=by
 obtain ⟨N,nm,q,bs,hdct,sn,sub,ab,col,dd,k0,k1,k2,k3,k5,mN,l,j,i,g⟩:=x
 exact k l j i g
theorem ExcAt0.k (x:ExcAt0 h c) (k:K h h'):ExcAt0 h' c :=
 x.use λl j i g=>⟨_,_,_,_,_,_,_,_,_,_,_,_,_,_,_,_,K.exact k l (λuu uu q=>by cases q),eO j k,i,vG g k⟩
noncomputable def QtAt (h:O2) (c:If):Prop:=∃ o cd mN,h.get? (SF.exc c)=ti o/\o.data = .cls cd/\h.Ns cd.ns mN/\∀ n∈qn,mN n=NI
theorem QtAt.k (x:QtAt h c) (k:K h h'):QtAt h' c:=by
 obtain ⟨o,n,i,m,g,l,j⟩:=x
 exact ⟨o,n,i,K.exact k m (λuu uu q=>by rw[g] at q; cases q),g,eO l k,j⟩
noncomputable def ExcAt (h:O2) (c:If):Prop:=ExcAt0 h c/\QtAt h c/\QtAt h "PickError"
theorem ExcAt.k (x:ExcAt h c) (k:K h h'):ExcAt h' c:=⟨x.1.k k,x.2.1.k k,x.2.2.k k⟩
structure GE (fns:Fns) (h:O2):Prop where
 glob:∃ mg,h.Ns PX mg/\(∀ f a,adr fns f=ti a->mg (oD f)=ti (.ref a))/\∀ x∈bnames,mg (oD x)=NI
 funs:∀ f p,fns.fn f=ti p->FnAt h p.2 p.1
 cls:RuleAt fns h
 blt:∃ mb,h.Ns T0 mb/\∀ x∈bnames,mb (oD x)=ti (bval x)
 nolim:h.NoLimit
 old:∀ b,SF.old b->∃ o,h.get? b=ti o
 exc:∃ mg,h.Ns PX mg/\(∀ c∈SF.excN,mg (oD c)=ti (.ref (SF.exc c))/\ExcAt h c)/\∀ c∈SF.excN,∀ c' ∈ "PickError" :: SF.excN,SF.exc c=SF.exc c'->c=c'
 bm:∃ mg bm ob,h.Ns PX mg/\mg "__builtins__" = ti (.ref bm)/\bm≠T0/\h.get? bm=ti ob/\ob.cls = .type "module" /\ ob.dict=ti T0/\ob.data = .plain
 fig:∃ mg t,h.Ns PX mg/\mg (oD "FIGURES")=ti (.str figS t)
theorem GE.k {fns:Fns}{h h':O2}(G:GE fns h) (k:K h h'):GE fns h' where
 glob:=ag (G.glob) λi a b=>(ah i (eO a k) b)
 funs:=λf p e=>(G.funs f p e).k k
 cls:=G.cls.k k
 blt:=ag (G.blt) λm a b=>(ah m (eO a k) b)
 nolim:=sG G.nolim k
 old:=λb n=>al (G.old b n) λuu e=>K.there k e
 exc:=ar (G.exc) λi a b c=>(aG i (eO a k) (λc j=>⟨(b c j).1,(b c j).2.k k⟩) c)
 bm:=wW (G.bm) λi bm l a b c d e f g=>(jJ i bm l (eO a k) b c (K.get k d (by unfold hardB; rw[e]; decide)) e f g)
 fig:=au (G.fig) λi t a b=>(aC i t (eO a k) b)
theorem GE.flag (G:GE fns h) (b:OF):GE {fns with hand:=b } h:=⟨G.glob,G.funs,G.cls,G.blt,G.nolim,G.old,G.exc,G.bm,G.fig⟩
noncomputable def FrOk (h:O2) (l:uq Env):Prop:=∀ env∈l,env.scope.kind = .function/\∃ L o es ep,env.frame=ti L/\¬ SF.old L/\h.get? L=ti o/\o.cls = .type "frame" /\ o.data = .dict es ep
theorem FrOk.k (x:FrOk h l) (k:K h h'):FrOk h' l:=λg j=>by
 obtain ⟨t,L,o,u,v,r,q,p,n,m⟩:=x g j
 refine ag (k L o (.inl trivial) p) λi y l=>?_
 exact (aM t (mq L i u v r q y (l.1.trans n) (l.2.1.trans m)))
section
inductive RuleV (h:O2) (c:N3) (d:N9) (n:N3) (v:Lt) (as:uq Oo):Prop
 | mk (x D:Oo) (o:Obj) (vf:Lt) (bs:uq Oo) (t u:Tok) (mA:Str->NX Lt):v = .ref x->as=x::D::bs->h.get? x=ti o->o.cls = .ref SF.rule->(∀ c,o.data≠.cls c)->o.dict=ti D->D≠x->h.Ns1 D mA->mA "count" = ti (.int c t)->mA "full" = ti vf->mA "size" = ti (.int n u)->R h vf d bs->sz d=vj->RuleV h c d n v as
noncomputable def RV (h:O2) (v:Lt):V->uq Oo->Prop
 | .d x,as=>R h v x as/\sz x=vj
 | .dic0,as=>∃ a,v = .ref a/\as=[a]/\(a==T1)=NY/\h.DictOf (SU prog w) a []/\h.DictOfH (W2 (SU prog w)) a []
 | .dicI ks,as=>∃ a,v = .ref a/\as=[a]/\(a==T1)=NY/\h.DictOf (SU prog w) a (ks.map λk=>(k,.bool vj))
 | .dicT ks,as=>∃ a xs,v = .ref a/\as=[a]/\(a==T1)=NY/\h.DictOfH (W2 (SU prog w)) a xs/\xs.map (·.1)=ks/\(∀ k∈ks,k.length<=2^22)/\∀ x∈xs,R h (.ref x.2.1) (aP x.1) []
 | .rule c d n,as=>RuleV h c d n v as
 | .err c,as=>∃ x o,v = .ref x/\as=[x]/\h.get? x=ti o/\o.cls = .ref (SF.exc c)/\c∈SF.excN
inductive RVs (h:O2):uq V->uq Lt->uq Oo->Prop
 | nil:RVs h [] [] []
 | cons {x:V}{xs:uq V}{v:Lt}{vs:uq Lt}{as bs:uq Oo}:RV h v x as->RVs h xs vs bs->RVs h (x::xs) (v::vs) (as++bs)
end
inductive VarIs (h:O2) (env:Env) (x:Str) (v:Lt):Prop
 | loc (m:Str->NX Lt):env.kindOf x=ti .local->h.Ns env.locals m->m x=ti v->VarIs h env x v
 | cell (c:Oo):env.kindOf x=ti .cell\/env.kindOf x=ti .free->env.cells.lookup x=ti c->h.IsCell c (ti v)->VarIs h env x v
structure EnvOk (env:Env):Prop where
 kind:env.scope.kind = .function
 glob:env.globals=PX
 blt:env.builtins=T0
 cells:∀ n,env.kindOf n=ti .cell\/env.kindOf n=ti .free->∃ c,env.cells.lookup n=ti c
section
theorem L9 (x:XY (SU prog w) h ks a) (k:KG G h h'):XY (SU prog w) h' ks a :=
 aX (x) λo j n l i g=>(dQ o j n (k.stay l (aM i (cf _ _ g.1))) i g)
theorem iz (x:o.ExactDict):hardB o=true:=by unfold hardB; rw[x.1]; decide
theorem pN (x:h.DictOf (SU prog w) a kvs) (k:KG G h h') (g:G a):h'.DictOf (SU prog w) a kvs :=
 cG (x) λo i j l r=>(fh o i j (k.hard (.inl g) l (iz r.1)) r)
theorem nY (x:h.DictOfH (W2 (SU prog w)) a xs) (k:KG G h h') (g:G a):h'.DictOfH (W2 (SU prog w)) a xs :=
 tp (x) λo l m t i r q p n=>(zx o l m (k.hard (.inl g) t (iz i)) i r q (λy j=>L9 (p y j) k) n)
theorem RV.onG (r:RV h v x as) (k:KG G h h') (g:∀ a∈as,G a):RV h' v x as:=by
 cases x with
 | d x=>exact ⟨r.1.onG k g,r.2⟩
 | dic0=>obtain ⟨a,l,rfl,j,i,m⟩:=r; exact (o7 a l rfl j (pN i k (g a (.head _))) (nY m k (g a (.head _))))
 | dicI ks=>obtain ⟨a,l,rfl,j,i⟩:=r; exact (cV a l rfl j (pN i k (g a (.head _))))
 | dicT ks=>obtain ⟨a,xs,l,rfl,j,i,m,z,y⟩:=r; exact (mt a xs l rfl j (nY i k (g a (.head _))) m z (λx hx=>(y x hx).onG k λuu h=>nomatch h))
 | rule c d n=>
  obtain ⟨x,D,o,vf,bs,t,u,mA,l,h2,j,i,m,z,y,h8,h9,h10,h11,h13,h14⟩:=r
  subst h2
  exact cG h8 λoD es ep e hd=>ar (k.dataG (.inl (g D (.tail _ (.head _)))) e) λp eD q _=>.mk x D o vf bs t u mA l rfl (k.hard (.inl (g x (.head _))) j (by unfold hardB; rw[i])) i m z y (dQ p es ep eD (q.trans hd.1) hd.2) h9 h10 h11 (h13.onG k λa ha=>g a (.tail _ (.tail _ ha))) h14
 | err c=>obtain ⟨x,o,l,rfl,j,i,m⟩:=r; exact (bK x o l rfl (k.hard (.inl (g x (.head _))) j (by unfold hardB; rw[i])) i m)
theorem RV.k (r:RV h v x as) (k:K h h'):RV h' v x as:=r.onG k λuu uu=>trivial
theorem VarIs.k (r:VarIs h env x v) (k:K h h'):VarIs h' env x v:=by
 cases r with
 | loc m a b c=>exact .loc m a (eO b k) c
 | cell c a b d=>exact .cell c a b (ro d k)
theorem RV.keep (r:RV h v x as) (k:∀ b o,h.get? b=ti o->h'.get? b=ti o):RV h' v x as:=r.k (.of k)
noncomputable def Kp (s s':NU):Prop:=∃ h' tk,s' = {s with heap:=h',toks:=tk }/\K s.heap h'
theorem Kp.refl (s:NU):Kp s s:=(aC s.heap s.toks rfl KG.refl)
theorem Kp.trans (a:Kp s s₁) (b:Kp s₁ n):Kp s n:=by
 refine au (a) λh t i k=>?_
 clear a
 subst i
 refine au (b) λm j g l=>?_
 clear b
 subst g
 exact (aC m j rfl (KG.trans k l))
theorem Kp.k (a:Kp s s₁):K s.heap s₁.heap:=by
 obtain ⟨h,t,rfl,k⟩:=a; exact k
theorem Kp.of (k:∀ b o,s.heap.get? b=ti o->h'.get? b=ti o):Kp s {s with heap:=h',toks:=tk }:=(aC h' tk rfl (.of k))
theorem Kp.toks (s:NU) (t:N7):Kp s {s with toks:=t }:=.of (s:=s) λuu uu e=>e
theorem Kp.push (s:NU) (o:Obj) (t:N7):Kp s {s with heap:=s.heap.push o,toks:=t }:=.of λuu uu e=>Oi _ e
theorem Kp.none (a:Kp s s₁) (e:s₁.heap.get? b=NI):s.heap.get? b=none:=by
 cases q:s.heap.get? b with
 | none=>rfl
 | some o=>obtain ⟨h,g⟩:=a.k.there q; rw[g] at e; exact nM e
structure Cx (fns:Fns) (k:N7) (A:OI) (P:Oo->Prop) (h:O2) (env:Env) (σ:St):Prop where
 room:Room fns.hand k A
 eok:EnvOk env
 ge:GE fns h
 frm:fns.hand=NY->∃ e l,A.frames=ti (e::l)/\FrOk h (e::l)/\e.frame=env.frame
 vars:∀ x p,σ x=ti p->varK env.scope.names x=vj->∃ v as,VarIs h env (oD x) v/\RV h v p.1 as/\∀ a∈as,P a
inductive EP (P:Oo->Prop) (s:NU) (r:V×Mode) (v:Lt) (s':NU):Prop
 | mk (kp:Kp s s') (as:uq Oo) (rv:RV s'.heap v r.1 as) (own:∀ a∈as,P a\/s.heap.get? a=NI) (top:r.2 = .top->∃ a bs,as=a::bs/\s.heap.get? a=NI/\a∉bs) (deep:r.2 = .deep->(∀ a∈as,s.heap.get? a=NI)/\as.Nodup):EP P s r v s'
inductive EPs (P:Oo->Prop) (s:NU) (l:uq (V×Mode)) (vs:uq Lt) (s':NU):Prop
 | mk (kp:Kp s s') (as:uq Oo) (rv:RVs s'.heap (l.map (·.1)) vs as) (own:∀ a∈as,P a\/s.heap.get? a=NI) (deep:allDeep l=vj->(∀ a∈as,s.heap.get? a=NI)/\as.Nodup):EPs P s l vs s'
theorem EP.keeps (e:EP P s r v s'):Kp s s':=by cases e; assumption
theorem EPs.keeps (e:EPs P s l vs s'):Kp s s':=by cases e; assumption
theorem Cx.k {fns:Fns}{k:N7}{A:OI}{P:Oo->Prop}{h h':O2}{env:Env}{σ:St}(X:Cx fns k A P h env σ) (kp:K h h'):Cx fns k A P h' env σ where
 room:=X.room
 eok:=X.eok
 ge:=X.ge.k kp
 frm:=λq=>aA (X.frm q) λe l a b c=>(aQ e l a (b.k kp) c)
 vars:=λx p i g=>aA (X.vars x p i g) λv as a b c=>(aQ v as (a.k kp) (b.k kp) c)
theorem EP.scalar (k:Kp s s') (r:R s'.heap v x []) (z:sz x=vj) (hm:m≠.top):EP P s (.d x,m) v s' :=
 ⟨k,[],⟨r,z⟩,λuu h=>(nomatch h),λh=>N5 h hm,λuu=>⟨λuu h=>(nomatch h),.nil⟩⟩
theorem EP.int (k:Kp s s'):EP P s (sI i) (.int i t) s':=.scalar k (.int i t) rfl (by simp)
theorem EP.str (k:Kp s s') (h:x.length<=lim):EP P s (sS x) (.str x t) s':=.scalar k (.str x t) (OA (vc h (by decide))) (by simp)
theorem EP.bool (k:Kp s s'):EP P s (sB b) (.bool b) s':=.scalar k (.bool b) rfl (by simp)
theorem EP.after (k:Kp s s₁) (e:EP P s₁ r v s'):EP P s r v s':=by
 obtain ⟨i,as,a,b,c,d⟩:=e
 exact ⟨k.trans i,as,a,λx h=>(b x h).imp id k.none,λg=>aA (c g) λa n m l j=>(aQ a n m (k.none l) j),λg=>⟨λx h=>k.none ((d g).1 x h),(d g).2⟩⟩
end
set_option maxRecDepth 100000
open PySem PyProof.Rows
section
variable {prog:SS}{w:World}{A:OI}{E:Lt->NU->Prop}{h:O2}{g:Oe Vz}{d:Zm}{t:N7}{os:WG}{a:Oo}{o:Obj}
 {nm q:Str}{C N:Oo}{bs bm:uq Lt}{hdct:OF}{sn:uq Str}{sub:uq Lt}{ab:OF}{col:NX OF}{dd:NX Oo}{k0 k1 k2 k3 k5:NX Lt}{newId:If}
noncomputable def Quiet (h:O2) (C:Oo):Prop:=∀ ⦃M:VA⦄ ⦃A:OI⦄ ⦃E:Lt->NU->Prop⦄ ⦃g:Oe Vz⦄ ⦃d:Zm⦄ ⦃t:N7⦄ ⦃os:WG⦄ ⦃n:Str⦄ ⦃y:NX Lt⦄ ⦃Q:NX Lt->NU->Prop⦄,n∈qn->RP (.type "ValueError") n=Pu y->Q y ⟨h,g,d,t,os⟩->Og M A (RP (.ref C) n) Q E ⟨h,g,d,t,os⟩
theorem Quiet.lk (hL:Quiet h C) (hn:n∈qn) (hy:RP (.type "ValueError") n=Pu y) (hq:Q y ⟨h,g,d,t,os⟩):Og M A (RP (.ref C) n) Q E ⟨h,g,d,t,os⟩:=hL hn hy hq
theorem qA:RP (.type "ValueError") "__class__" = Pu (ti (.builtin "object.__class__")):=by rw[TC,RI]; kernel_rfl
theorem oW {R:W3->NU->Prop}(hC:h.get? C=ti (PP nm q C N bs bm hdct sn sub ab col dd k0 k1 k2 k3 k5 newId)) (hO:(OR C::bm).contains (.type "object")=vj)
  (hx:h.get? a=ti o) (hc:o.cls = .ref C) (hq:R (.ok (.ret (.ref C))) ⟨h,g,d,t,os⟩) :
  VQ (Ok prog w) A (.call (.builtin "getset_descriptor.__get__") ⟨[.builtin "object.__class__", .ref a,.ref C],[]⟩) R ⟨h,g,d,t,os⟩:=by
 have j:(⟨h,g,d,t,os⟩:NU).TypeIs (.builtin "object.__class__") "getset_descriptor" := Td
 have i:(OR C::bm).contains (.type (".".intercalate ("object.__class__".cutAt '.').dropLast))=true:=by rw[F.owner_object_class]; exact hO
 refine VB Wa.plain F.entry_gs_get (Wa.check _ _ _ _ _ _ _ _ j (F.args_gs_get _ _ _) ?_)
 repeat (any_goals (first | assumption | (with_reducible refine O3 hx ?_; rw[hc]) | (with_reducible refine QE hC ?_; rw[i]) | wp_step))
 refine ⟨Code.quiet_builtin _ (by decide +kernel),Ve F.entry_object_class ?_⟩
 repeat (any_goals (first | assumption | (with_reducible refine O3 hx ?_; rw[hc]) | wp_step))
theorem mE (hC:h.get? C=ti (PP nm q C N bs bm hdct sn sub ab col dd k0 k1 k2 k3 k5 newId)) (hO:(OR C::bm).contains (.type "object")=vj) (hL:Quiet h C)
  (hx:h.get? a=ti o) (hc:o.cls = .ref C) (hq:Q (.done (.ret (.ref C))) ⟨h,g,d,t,os⟩) :
  Og (Ok prog w) A (Ub.«object.__getattribute__» ⟨[.ref a,.str "__class__" tk],[]⟩) Q E ⟨h,g,d,t,os⟩:=by
 have j:(⟨h,g,d,t,os⟩:NU).TypeIs (.builtin "object.__class__") "getset_descriptor" := Td
 have m:=Td
 have l:=Wa.lookup
 have k:=F.slot_gs_set.lookup
 have i:("__class__" : Str)∈qn:=.tail _ (.tail _ (.head _))
 repeat (any_goals (first | assumption | (with_reducible refine O3 hx ?_; rw[hc]) | with_reducible refine Quiet.lk hL i qA ?_ | wp_step))
 refine oW hC hO hx hc ?_
 repeat (any_goals (first | assumption | wp_step))
theorem pX (hC:h.get? C=ti (PP nm q C N bs bm hdct sn sub ab col dd k0 k1 k2 k3 k5 newId)) (hcB:(OR C::bm).contains (.type "BaseException")=vj)
  (hx:h.get? a=ti o) (hc:o.cls = .ref C) (hq:Q () ⟨h,g,d,t,os⟩):Og M A (W4 "BaseException.__getattribute__" ⟨[.ref a,nameV],[]⟩) Q E ⟨h,g,d,t,os⟩:=by
 have hk:builtinKind "BaseException.__getattribute__" = ti .slot:=by decide +kernel
 have i:splitId "BaseException.__getattribute__" = ti ("BaseException", "__getattribute__"):=by decide +kernel
 have j:=F.args_bexc_ga (.ref a) nameV
 simp only[W4,hk,i]
 refine Is ?_
 ·unfold isInstance
  repeat (first | (with_reducible refine O3 hx ?_; rw[hc]) | (with_reducible refine QE hC ?_; rw[hcB]) | wp_step)
  exact hq
theorem re (hC:h.get? C=ti (PP nm q C N bs bm hdct sn sub ab col dd k0 k1 k2 k3 k5 newId)) (hO:(OR C::bm).contains (.type "object")=vj) (hcB:(OR C::bm).contains (.type "BaseException")=vj) (hL:Quiet h C)
  (hx:h.get? a=ti o) (hc:o.cls = .ref C) (hq:Q (.ref C) ⟨h,g,d,t,os⟩):Og (Ok prog w) A (getAttrBy (.ref a) (.str "__class__" tk) NY) Q E ⟨h,g,d,t,os⟩:=by
 have FB:=Vn
 have m:=FB.ga.bind (.ref a)
 have i:(Uk "BaseException.__getattribute__" == Uk "object.__getattribute__")=false:=by decide +kernel
 have l:(onTheHeap (OR C)&&Uk "BaseException.__getattribute__" == Uk "object.__getattribute__")=false:=by rw[i]; rfl
 have k:("__getattribute__" : Str)∈qn:=.head _
 have j:("__getattr__" : Str)∈qn:=.tail _ (.head _)
 repeat (any_goals (first | assumption | (with_reducible refine O3 hx ?_; rw[hc]) | with_reducible refine Quiet.lk hL k FB.ga.lookup ?_ | with_reducible refine Quiet.lk hL j FB.noGetattr ?_ | wp_step))
 refine VB FB.ga.plain F.entry_bexc_ga (pX hC hcB hx hc (mE hC hO hL hx hc ?_))
 repeat (any_goals (first | assumption | wp_step))
theorem mW (hC:h.get? C=ti (PP nm q C N bs bm hdct sn sub ab col dd k0 k1 k2 k3 k5 newId)) (hO:(OR C::bm).contains (.type "object")=vj) (hcB:(OR C::bm).contains (.type "BaseException")=vj) (hL:Quiet h C)
  (hx:h.get? a=ti o) (hc:o.cls = .ref C) (hq:Q (ti (.ref C)) ⟨h,g,d,t+1,os⟩):Og (Ok prog w) A (getAttr? (.ref a) "__class__") Q E ⟨h,g,d,t,os⟩:=by
 unfold getAttr? getAttrBy?
 repeat (any_goals (first | assumption | with_reducible apply re hC hO hcB hL hx hc | wp_step))
theorem mR
  (hC:h.get? C=ti (PP nm q C N bs bm hdct sn sub ab col dd k0 k1 k2 k3 k5 newId)) (hO:(OR C::bm).contains (.type "object")=vj) (hcB:(OR C::bm).contains (.type "BaseException")=vj) (hL:Quiet h C)
  (hD:h.get? D=ti (PP nm' q' D N' bs' bm' hdct' sn' sub' ab' col' dd' j0 j1 j2 j3 j5 newId')) (hx:h.get? a=ti o) (hc:o.cls = .ref C) (hq:∀ t',Q (.done (.ret (.bool ((OR C::bm).contains (.ref D))))) ⟨h,g,d,t',os⟩) :
  Og (Ok prog w) A (Ub.«isinstance.nested» ⟨[.ref a,.ref D,.int dep tk],[]⟩) Q E ⟨h,g,d,t,os⟩:=by
 have i:=hq t
 have j:=hq (t+1)
 by_cases he:C=D
 ·subst he
  rw[show (OR C::bm).contains (.ref C)=vj by simp] at i
  repeat (any_goals (first | assumption | (with_reducible refine O3 hx ?_; rw[hc]) | wp_step))
 ·have k:(OR C==OR D)=false:=by simpa using he
  cases hb:(OR C::bm).contains (.ref D) with
  | true=>
   rw[hb] at i
   repeat (any_goals (first | assumption | (with_reducible refine O3 hx ?_; rw[hc]) | with_reducible refine O3 hD ?_ | (with_reducible refine QE hC ?_; rw[hb]) | wp_step))
  | false=>
   rw[hb] at j
   repeat (any_goals (first | assumption | (with_reducible refine O3 hx ?_; rw[hc]) | with_reducible refine O3 hD ?_ | with_reducible refine O3 hC ?_ | (with_reducible refine QE hC ?_; rw[hb]) | with_reducible apply mW hC hO hcB hL hx hc | wp_step))
theorem BL
  (hC:h.get? C=ti (PP nm q C N bs bm hdct sn sub ab col dd k0 k1 k2 k3 k5 newId)) (hO:(OR C::bm).contains (.type "object")=vj) (hcB:(OR C::bm).contains (.type "BaseException")=vj) (hL:Quiet h C)
  (hD:h.get? D=ti (PP nm' q' D N' bs' bm' hdct' sn' sub' ab' col' dd' j0 j1 j2 j3 j5 newId')) (hx:h.get? a=ti o) (hc:o.cls = .ref C) (hq:∀ t',Q (.bool ((OR C::bm).contains (.ref D))) ⟨h,g,d,t',os⟩) :
  Og (Ok prog w) A (Sy (.builtin "isinstance") [.ref a,.ref D]) Q E ⟨h,g,d,t,os⟩:=by
 refine call_isinstance (S:=λA R s=>s.heap=h/\∀ t',R (.ok (.ret (.bool ((OR C::bm).contains (.ref D))))) {s with toks:=t' }) (λprog w A R s hs=>?_) ⟨rfl,hq⟩
 obtain ⟨h',g,d,t,os⟩:=s
 obtain ⟨e,hR⟩:=hs
 cases e
 exact isinstance_outer (mR hC hO hcB hL hD hx hc hR) (by intro e; cases e)
theorem rZ:mroOf (.type "ValueError")=Pu bmV:=Vn.mro
theorem vg (hC:h.get? C=ti (PP nm q C N bs bmV hdct sn sub ab col dd k0 k1 k2 k3 k5 newId)) (hN:h.Ns N mN) (hm:∀ n∈qn,mN n=NI):Quiet h C:=by
 intro M A E g d t m n y Q l j k
 have i:VC bmV n=Pu y:=by rw[Ul,rZ] at j; exact j
 rw[Ul]
 refine Is (Xz hC ?_)
 rw[UA]
 refine Is (Wg hC hN ?_)
 rw[hm n l]
 rw[i]
 exact Od k
theorem v9 {sl:Oe (NX Lt)}(hC:h.get? C=ti (PP nm q C N bs (.ref D::bmV) hdct sn sub ab col dd k0 k1 k2 k3 k5 newId)) (hN:h.Ns N mN) (hm:∀ n∈qn,mN n=NI)
  (hD:h.get? D=ti {cls:=c0,dict:=dd',data:=.cls cd,slots:=sl }) (hDN:h.Ns cd.ns mD) (hmD:∀ n∈qn,mD n=NI):Quiet h C:=by
 intro M A E g d t m n y Q j k l
 have i:VC bmV n=Pu y:=by rw[Ul,rZ] at k; exact k
 rw[Ul]
 refine Is (Xz hC ?_)
 rw[UA]
 refine Is (Wg hC hN ?_)
 rw[hm n j]
 show Og M A (VC (.ref D::bmV) n) Q E _
 rw[UA]
 refine Is (wpAny_classOwn_cls hD hDN ?_)
 rw[hmD n j]
 show Og M A (VC bmV n) Q E _
 rw[i]
 exact Od l
end
section
variable (fns:Fns) (k:N7) (C:Calls) (XP:If->NU->Lt->NU->Prop)
noncomputable def SimE (e:E):Prop:=∀ {ex:Expr}{A:OI}{env:Env}{σ:St}{P:Oo->Prop}{s:NU}{Q:Lt->NU->Prop}{Er:Lt->NU->Prop},
 okE env.scope.names e ex=vj->Cx fns k A P s.heap env σ->ev C e σ≠.bad ->
 (∀ r,ev C e σ = .ok r->∀ v s',EP P s r v s'->Q v s')->(∀ c,ev C e σ = .exc c->∀ x s',XP c s x s'->Er x s') ->
 Og (Ok prog w) A (eval ex env) Q Er s
noncomputable def SimT (e:E):Prop:=∀ {ex:Expr}{A:OI}{env:Env}{σ:St}{P:Oo->Prop}{s:NU}{Q:OF->NU->Prop}{Er:Lt->NU->Prop},
 okE env.scope.names e ex=vj->Cx fns k A P s.heap env σ->((ev C e σ).bind λr=>aq r.1)≠.bad ->
 (∀ b,((ev C e σ).bind λr=>aq r.1) = .ok b->∀ s',Kp s s'->Q b s')->(∀ c,ev C e σ = .exc c->∀ x s',XP c s x s'->Er x s') ->
 Og (Ok prog w) A (isTrue ex env (eval ex env)) Q Er s
end
theorem bk {α β:Type}{o:Out α}{f:α->Out β}(h:o.bind f≠.bad):o≠.bad/\∀ a,o = .ok a->f a≠.bad:=by
 cases o with
 | ok a=>exact ⟨λe=>(by cases e),λuu e=>by (have g:=Out.ok.inj e; clear e; subst g); exact h⟩
 | exc c=>exact ⟨λe=>(by cases e),λuu e=>by cases e⟩
 | bad=>exact N5 rfl h
theorem aJ {α β:Type}{o:Out α}{f:α->Out β}{G:Prop}(h:o.bind f≠.bad) (k:o≠.bad->(∀ a,o = .ok a->f a≠.bad)->G):G:=ae (bk h) k
theorem mU {α:Type}{o:Out α}{b:α}(h:o.calm = .ok b):o = .ok b:=by
 cases o with
 | ok a=>exact h
 | exc c=>exact nB h
 | bad=>exact nB h
theorem pJ {α β:Type}{o:Out α}{f:α->Out β}{b:β}(h:o.calm.bind f = .ok b):∃ a,o = .ok a/\f a = .ok b:=by
 cases o with
 | ok a=>exact (ah a rfl h)
 | exc c=>exact nB h
 | bad=>exact nB h
theorem CU {α β:Type}{o:Out α}{f:α->Out β}{b:β}{G:Prop}(h:o.calm.bind f = .ok b) (k:∀ a,o = .ok a->f a = .ok b->G):G:=ag (pJ h) k
theorem ca {α β:Type}{o:Out α}{f:α->Out β}{c:If}(h:o.bind f = .exc c):o = .exc c\/∃ a,o = .ok a/\f a = .exc c:=by
 cases o with
 | ok a=>exact .inr (ah a rfl h)
 | exc c=>cases h; exact .inl rfl
 | bad=>cases h
section
theorem LZ (hXP:∀ c s s₁ x s',Kp s s₁->XP c s₁ x s'->XP c s x s') {a b:E}(Sa:SimE fns k C XP a) (Sb:SimE fns k C XP b)
  {ea eb:Expr}{A:OI}{env:Env}{σ:St}{P:Oo->Prop}{s:NU}{G:Lt->Lt->NU->Prop}{Er:Lt->NU->Prop}
  (oa:okE env.scope.names a ea=vj) (ob:okE env.scope.names b eb=vj) (X:Cx fns k A P s.heap env σ)
  (na:ev C a σ≠.bad) (nb:∀ x,ev C a σ = .ok x->ev C b σ≠.bad)
  (hE:∀ c,(ev C a σ = .exc c\/∃ x,ev C a σ = .ok x/\ev C b σ = .exc c)->∀ x s',XP c s x s'->Er x s')
  (hG:∀ x y,ev C a σ = .ok x->ev C b σ = .ok y->∀ va vb s₁ l,EP P s x va s₁->EP P s₁ y vb l->G va vb l) :
  Og (Ok prog w) A (eval ea env) (λva s₁=>Og (Ok prog w) A (eval eb env) (λvb l=>G va vb l) Er s₁) Er s :=
 Sa oa X na (λx g va s₁ Ea=>Sb ob (X.k Ea.keeps.k) (nb x g) (λy j vb l Eb=>hG x y g j va vb s₁ l Ea Eb)
  λc h z s' i=>hE c (.inr (ah x g h)) z s' (hXP c s s₁ z s' Ea.keeps i)) λc h=>hE c (.inl h)
theorem qB {env:Env}{x:If}(h:varK env.scope.names x=vj):env.kindOf (oD x)=ti .local\/env.kindOf (oD x)=ti .cell\/env.kindOf (oD x)=ti .free:=by
 unfold varK at h
 unfold XZ
 replace h:=(Qf.mp h).2
 split at h<;>first | (rename_i e; exact .inl e) | (rename_i e; exact .inr (.inl e)) | (rename_i e; exact .inr (.inr e)) | exact nF h
theorem dN (hk:env.scope.kind = .function) (hd:aV x=vj)
  (hv:VarIs s.heap env (oD x) v) (h:Q v s):Og (Ok prog w) A (eval (.Name (oD x) pos) env) Q Er s:=by
 unfold aV at hd
 simp only[Of,P8] at hd
 cases hv with
 | loc m a b c=>exact X0 (wpAny_loadName_local hk a b c h) hd.1
 | cell c a b d=>
  rcases a with a | a
  ·exact X0 (wpAny_loadName_cell hk a b d h) hd.1
  ·exact X0 (wpAny_loadName_free hk a b d h hd.2) hd.1
theorem tq (r:RV s.heap v x as) (h:∀ a∈as,P a):EP P s (mk x) v s:=by
 refine ⟨.refl s,as,r,λa j=>.inl (h a j),λg=>?_,λg=>?_⟩
 ·unfold mk at g; dsimp only at g; split at g<;>cases g
 ·cases x with
  | d x=>
   unfold mk at g; dsimp only at g
   split at g
   ·rename_i i
    have:as=[]:=r.1.sx_nil i
    (clear h r; subst this)
    exact ⟨λuu h=>(nomatch h),.nil⟩
   ·cases g
  | _=>simp[mk,nu] at g
theorem k6 {ex:Expr}(h:okE ns (.name x) ex=vj):∃ p,ex = .Name (oD x) p/\varK ns x=vj/\aV x=true:=by
 replace h:=wy h
 revert h; refine λg=>OE g (λi=>?_) (λh=>?_)
 ·clear g
  refine au (i) λm l j h=>?_
  clear i
  subst j
  simp only[Of,Oj] at h
  refine ae (h) λk o=>?_
  clear h
  refine ae (k) λn q=>?_
  clear k
  subst n
  exact (aG _ rfl q o)
 ·cases h
theorem iA (x:If):SimE fns k C XP (.name x):=by
 intro ex A u i P s Q Er h X j n y
 refine ar (k6 h) λp g l m=>?_
 (clear h; subst g)
 cases hσ:i x with
 | none=>exact N5 (by simp[dB,hσ]) j
 | some q=>
  refine aA (X.vars x q hσ l) λv as t r o=>?_
  exact dN X.eok.kind m t (n (mk q.1) (by simp[dB,hσ]) v s (tq r o))
theorem nv (i:N3):SimE fns k C XP (.int i):=by
 intro ex A q r P s Q Er j X t p u
 replace j:=Ft j
 revert j; refine λg=>OE g (λh=>?_) (λj=>?_)
 ·clear g
  refine cG (h) λo n m l j=>?_
  clear h
  subst l
  simp only[Oj] at j
  subst j
  exact Wh (p (sI i) rfl _ _ (.int (.toks s _)))
 ·cases j
theorem CG (x:If):SimE fns k C XP (.str x):=by
 intro ex A r t P s Q Er g X u q v
 replace g:=Jl g
 revert g; refine λh=>OE h (λi=>?_) (λg=>?_)
 ·clear h
  refine cG (i) λn m l j g=>?_
  clear i
  subst j
  simp only[Of,Oj,OT] at g
  refine ae (g) λo p=>?_
  clear g
  subst o
  exact Wi (q (.d (.str (oD x)),.deep) rfl _ _ (.scalar (.toks s _) (.str _ _) (by simpa [sz] using p) (by simp)))
 ·cases g
theorem yJ (b:OF):SimE fns k C XP (.bool b):=by
 intro ex A p q P s Q Er i X r o t
 replace i:=C1 i
 revert i; refine λg=>OE g (λh=>?_) (λi=>?_)
 ·clear g
  refine cG (h) λn m l j i=>?_
  clear h
  subst j
  simp only[Oj] at i
  subst i
  exact V2 (o (sB b) rfl _ _ (.bool (.refl s)))
 ·cases i
theorem xt:SimE fns k C XP .none:=by
 intro ex A o p P s Q Er j X q n r
 replace j:=DX j
 revert j; refine λg=>OE g (λh=>?_) (λj=>?_)
 ·clear g
  refine au (h) λm l i j=>?_
  clear h
  subst i
  exact wpAny_Constant_none (n (.d .none,.deep) rfl _ _ (.scalar (.refl s) .none rfl (by simp)))
 ·cases j
theorem bh (h:O2):h.get? h.objs.size=none:=PY (Ow _)
theorem eU {h:O2}{a:Oo}{o:Obj}(e:h.get? a=ti o):a≠h.objs.size:=PL (QW e)
theorem EP.newList (r:RA s.heap vs xs as) (hl:xs.length<=2^22) (hz:∀ x∈xs,sz x=vj) (ha:∀ a∈as,P a) :
  EP P s (.d (.list xs),fresh xs) (.ref s.heap.objs.size) {s with heap:=s.heap.push {cls:=.type "list", data:=.seq vs.toArray },toks:=t }:=by
 refine ⟨.push s _ _,s.heap.objs.size::as,⟨.list (Ov _ rfl) (r.keep λuu uu e=>Oi _ e),sz_list.mpr ⟨hl,hz⟩⟩,?_,?_,?_⟩
 ·intro a h
  rcases Ou.mp h with rfl | h
  ·exact .inr (bh _)
  ·exact .inl (ha a h)
 ·intro _
  exact (aQ _ _ rfl (bh _) (λh=>bz (r.there _ h) λuu uu e=>eU e rfl))
 ·intro i
  have g:xs.all sx=true:=by
   unfold fresh at i; dsimp only at i; split at i
   ·assumption
   ·cases i
  rw[r.sx_nil g]
  refine ⟨λa h=>?_,by simp⟩
  rcases Ou.mp h with rfl | h
  ·exact bh _
  ·cases h
section
theorem yn (ra:R s.heap va (.list xs) as) (za:sz (.list xs)=vj) (rb:R s.heap vb (.list ys) bs) (zb:sz (.list ys)=vj) (ha:∀ a∈as,P a) (hb:∀ a∈bs,P a) (hl:xs.length+ys.length<=lim)
  (hQ:∀ v s',EP P s (.d (.list (xs++ys)),fresh (xs++ys)) v s'->Q v s'):Og (Ok prog w) A (X1 .Add va vb) Q Er s:=by
 cases ra with
 | list ea ra=>
 cases rb with
 | list eb rb=>
 unfold lim at hl
 rw[sz_list] at za zb
 have j:=ra.length
 have i:=rb.length
 refine PySem.P.add_list ea eb ?_ ?_
 ·have:=EP.newList (P:=P) (t:=s.toks) (ra.append rb) (by rw[Ox]; exact F1 hl) (λz g=>(Op.mp g).elim (za.2 z) (zb.2 z)) λa h=>(Op.mp h).elim (λh=>ha a (.tail _ h)) λh=>hb a (.tail _ h)
  exact hQ _ _ (by simpa using this)
 ·rw[OJ,OJ,j,i]
  unfold Qw; exact Fh hl
theorem Bi (h:a.natAbs<2^63\/b.natAbs<2^63) (hQ:∀ v s',EP P s (sI (a*b)) v s'->Q v s'):Og (Ok prog w) A (X1 .Mult (.int a t) (.int b u)) Q Er s:=by
 refine mul_int (hQ _ _ (.int (.toks s _))) ?_
 rcases h with hl | hl
 ·exact IntMulOk.of_left (Yr (by exact na1 ‹_›) (by exact na2 ‹_›))
 ·exact IntMulOk.of_right (Yr (by exact na1 ‹_›) (by exact na2 ‹_›))
theorem yS (h:¬ (b=0\/1000000000<=b.natAbs)) (hQ:∀ v s',EP P s (sI (a.fdiv b)) v s'->Q v s'):Og (Ok prog w) A (X1 .FloorDiv (.int a t) (.int b u)) Q Er s :=
 floordiv_int (λe=>h (.inl e)) (hQ _ _ (.int (.toks s _))) (.inl (YT (ES h)))
theorem yo
  (ho:opB o op=vj) (he:dK o x y = .ok r) (ra:R s.heap va x as) (za:sz x=vj) (rb:R s.heap vb y bs) (zb:sz y=vj) (ha:∀ a∈as,P a) (hb:∀ a∈bs,P a)
  (hQ:∀ v s',EP P s r v s'->Q v s'):Og (Ok prog w) A (X1 op va vb) Q Er s:=by
 cases Oy ho
 cases o with
 | add=>
  replace he:qr x y = .ok r:=he
  unfold qr at he
  cases hx:asL x with
  | some xs=>
   rw[hx] at he
   replace he:=aN he
   revert he; intro n
   refine ag (n) λys hy he=>?_
   clear n
   cases cH hx
   cases cH hy
   clear hx hy
   split at he<;>cases he
   exact yn ra za rb zb ha hb ‹_› hQ
  | none=>
   rw[hx] at he
   replace he:=fH he
   revert he; intro m
   refine aA (m) λa b Mz Mv he=>?_
   clear m
   (clear hx za; subst Mz)
   (clear zb; subst Mv)
   (have j:=Out.ok.inj he; clear he; subst j); obtain ⟨_,rfl,rfl⟩:=ra.isInt; obtain ⟨_,rfl,rfl⟩:=rb.isInt
   exact add_int (hQ _ _ (.int (.toks s _)))
 | cat=>
  replace he:=Aq he
  revert he; intro p
  refine aA (p) λa b MC Mw he=>?_
  clear p
  subst MC
  subst Mw
  by_cases hl:a.length+b.length<=lim
  ·rw[NZ hl] at he
   (have j:=Out.ok.inj he; clear he; subst j); obtain ⟨_,rfl,rfl⟩:=ra.isStr; obtain ⟨_,rfl,rfl⟩:=rb.isStr
   exact add_str (λt' tk=>hQ _ _ (.str (.toks s _) (by rw[PH]; exact hl))) (by rw[Pz]; exact vc hl (by decide))
  ·rw[N0 hl] at he; exact nB he
 | sub=>
  replace he:=fH he
  revert he; intro l
  refine aA (l) λa b My MB he=>?_
  clear l
  (clear za; subst My)
  (clear zb; subst MB)
  (have j:=Out.ok.inj he; clear he; subst j); obtain ⟨_,rfl,rfl⟩:=ra.isInt; obtain ⟨_,rfl,rfl⟩:=rb.isInt
  exact sub_int (hQ _ _ (.int (.toks s _)))
 | mul=>
  replace he:=fH he
  revert he; intro k
  refine aA (k) λa b Mx ME he=>?_
  clear k
  (clear za; subst Mx)
  (clear zb; subst ME)
  split at he<;>cases he
  obtain ⟨_,rfl,rfl⟩:=ra.isInt; obtain ⟨_,rfl,rfl⟩:=rb.isInt
  exact Bi ‹_› hQ
 | fdiv=>
  replace he:=fH he
  revert he; intro i
  refine aA (i) λa b MD ML he=>?_
  clear i
  (clear za; subst MD)
  (clear zb; subst ML)
  split at he<;>cases he
  obtain ⟨_,rfl,rfl⟩:=ra.isInt; obtain ⟨_,rfl,rfl⟩:=rb.isInt
  exact yS ‹_› hQ
 | mod=>
  replace he:=fH he
  revert he; intro h
  refine aA (h) λa b z u he=>?_
  clear h
  (clear za; subst z)
  (clear zb; subst u)
  split at he<;>cases he
  obtain ⟨_,rfl,rfl⟩:=ra.isInt; obtain ⟨_,rfl,rfl⟩:=rb.isInt
  exact mod_int' ‹_› (hQ _ _ (.int (.toks s _)))
 | xor=>
  replace he:=fH he
  revert he; intro g
  refine aA (g) λa b t q he=>?_
  clear g
  (clear za; subst t)
  (clear zb; subst q)
  (have j:=Out.ok.inj he; clear he; subst j); obtain ⟨_,rfl,rfl⟩:=ra.isInt; obtain ⟨_,rfl,rfl⟩:=rb.isInt
  exact xor_int (hQ _ _ (.int (.toks s _)))
end
end
section
variable {fns:Fns}{k:N7}{C:Calls}{XP:If->NU->Lt->NU->Prop}
variable {va vb:Lt}{as bs:uq Oo}{A:OI}{P:Oo->Prop}{s:NU}{Q:Lt->NU->Prop}{Er:Lt->NU->Prop}
theorem Room.units (h:Room hb k A):A.units+200<cLine:=by
 revert h; intro g
 refine aK (g) λuu uu h=>?_
 clear g
 cases hb with
 | true=>rw[NZ rfl] at h; exact J1 h
 | false=>rw[N0 (by decide)] at h; exact G9 h
theorem Room.at (h:Room hb k A) (hf:hb=NY):A.depth+2*k+4<RO/\A.units+100*k+300<cLine:=by
 subst hf; exact h.2
theorem kD:okc d=vj↔d.canLay0=vj/\d.depth<=64:=by simp[okc]
theorem oZ (h:P2 vs ns):ItemsAre (SU prog w) ns vs:=by
 induction h with
 | nil=>exact .nil
 | cons n t _ ih=>exact .cons (UX prog w n t) ih
theorem fc (r:R h v x as) (e:d6 x=ti ks):∃ a,v = .ref a/\XY (SU prog w) h ks a:=by
 cases r with
 | tuple ea ra=>
  refine aK (ra.ints e) λg _ _=>?_
  exact (ah _ rfl (zR _ _ _ ea rfl rfl (by simpa using oZ g)))
 | _=>exact nN e
theorem sq (r:R h v x as) (e:d6 x=ti ks):R h v (aP ks) []:=by
 cases r with
 | tuple ea ra=>
  refine aK (ra.ints e) λuu i g=>?_
  subst i
  (clear e; subst g)
  exact .tuple ea ra
 | _=>exact nN e
theorem jq {K:Type} [DecidableEq K] (xs:uq (K×Oo×Lt)) (k:K):(atKey xs k).isSome=decide (k∈xs.map (·.1)):=by
 unfold atKey
 rw[WH]
 induction xs with
 | nil=>rfl
 | cons x xs ih=>
  by_cases hk:x.1=k
  ·simp[hk]
  ·rw[XA,show decide (x.1=k)=NY from OC hk]
   dsimp only
   rw[ih,Pe]
   simp[Ou,PT hk]
theorem nI (ks:uq N3) (k:N3):(valueAt (ks.map λk=>(k,ZO vj)) k).isSome=decide (k∈ks):=by
 unfold valueAt
 rw[WH]
 induction ks with
 | nil=>rfl
 | cons x xs ih=>
  by_cases hk:x=k
  ·simp[hk]
  ·rw[Pe,XA]
   simp only[hk,decide_false,Ou,PT hk,false_or]
   exact ih
theorem BU (hu:A.units+200<TH) (he:inV x c = .ok b) (ra:R s.heap va x as) (rb:RV s.heap vb c bs)
  (hQ:∀ s',Kp s s'->Q (.bool b) s'):Og (Ok prog w) A (compareOp .In va vb) Q Er s:=by
 cases c with
 | d y=>
  replace he:=aN he
  revert he; intro l
  refine ag (l) λxs hy he=>?_
  clear l
  cases cH hy
  split at he<;>cases he
  rename_i j
  simp only[Of,kD] at j
  refine aK (j) λm b1 b2=>?_
  clear j
  refine ae (m) λa1 a2=>?_
  clear m
  simp only[VD,UY] at b1 b2
  exact SeqAt.in_list_reads rb.1.reads ra.reads b1 a1 (by have:=Py (Sq ‹_›) x.depth; exact AK hu b2) (hQ s (.refl s))
 | dicI ks=>
  replace he:=aN he
  revert he; intro k
  refine ag (k) λi r he=>?_
  clear k
  (have oc:=Out.ok.inj he; clear he; subst oc)
  refine cg (rb) λa MG _ h t=>?_
  clear rb
  subst MG
  cases b0 r
  refine ra.isInt_k λuu Mz Mv=>?_
  (clear ra; subst Mz)
  subst Mv
  refine Zn (UX prog w _ _) h t.mapOf ?_
  rw[nI]
  exact hQ _ (.toks s _)
 | dicT ks=>
  replace he:=aN he
  revert he; intro g
  refine ag (g) λi r he=>?_
  clear g
  (have oc:=Out.ok.inj he; clear he; subst oc)
  refine As (rb) λa xs z _ h t v _=>?_
  clear rb
  subst z
  subst v
  refine ag (fc ra r) λa' u hk=>?_
  (clear ra; subst u)
  refine Ys (SA (zA hu)) hk h t ?_
  rw[jq]
  exact Eq.mp (PG (λb=>Q (.bool b) _) (R2.mpr Iff.rfl)) (hQ _ (.toks s _))
 | dic0=>
  replace he:(if (cI x).isSome||(d6 x).isSome then Out.ok NY else .bad) = .ok b:=he
  split at he<;>cases he
  rename_i j
  refine uR (rb) λa q _ h t hd'=>?_
  clear rb
  subst q
  cases h2:cI x with
  | some i=>
   cases b0 h2
   refine ra.isInt_k λuu p o=>?_
   (clear ra; subst p)
   subst o
   exact Zn (UX prog w _ _) h t.mapOf (hQ _ (.toks s _))
  | none=>
   rw[h2] at j
   refine bM (by simpa using j) λi r=>?_
   refine ag (fc ra r) λa' n hk=>?_
   (clear ra; subst n)
   exact Ys (SA (zA hu)) hk h hd' (hQ _ (.toks s _))
 | rule _ _ _=>exact nB he
 | err _=>exact nB he
theorem pS {x y:V}{f:Str->Str->Out OF}{b:OF}{G:Prop}(he:(d2 x y λk c=>s2 k c f) = .ok b) (ra:RV s.heap va x as) (rb:RV s.heap vb y bs) (k:∀ (a c:Str) (t u:Tok),va = .str a t->vb = .str c u->f a c = .ok b->G):G:=by
 refine aA (eL he) λn m j i he=>?_
 refine aA (Aq he) λa c h g he=>?_
 rw[j,h] at ra
 rw[i,g] at rb
 exact ag ra.1.isStr λt e _=>ag rb.1.isStr λu l _=>k a c t u e l he
theorem qx (hu:A.units+200<TH) (ho:opC o op=vj) (he:cq o x y = .ok b) (ra:RV s.heap va x as) (rb:RV s.heap vb y bs)
  (hQ:∀ s',Kp s s'->Q (.bool b) s'):Og (Ok prog w) A (compareOp op va vb) Q Er s:=by
 cases Oy ho
 cases o with
 | eq=>
  replace he:=eL he
  revert he; intro Ni
  refine aA (Ni) λx y MF MM he=>?_
  clear Ni
  subst MF
  subst MM
  split at he<;>cases he
  rename_i g
  simp only[Of,kD] at g
  refine aK (g) λMK b1 b2=>?_
  clear g
  refine ae (MK) λa1 a2=>?_
  clear MK
  exact SeqAt.compareEq_reads ra.1.reads rb.1.reads a1 b1 (by have:=Py x.depth y.depth; exact zL hu a2) (hQ s (.refl s))
 | ne=>
  replace he:=eL he
  revert he; intro Nl
  refine aA (Nl) λx y MQ MS he=>?_
  clear Nl
  subst MQ
  subst MS
  split at he<;>cases he
  rename_i g
  simp only[Of,kD] at g
  refine aK (g) λMT b1 b2=>?_
  clear g
  refine ae (MT) λa1 a2=>?_
  clear MT
  exact SeqAt.compareNe_reads ra.1.reads rb.1.reads a1 b1 (by have:=Py x.depth y.depth; exact zL hu a2) (hQ s (.refl s))
 | snin=>
  refine pS he ra rb λa b t u l k he=>?_
  rw[l,k]
  (have h:=Out.ok.inj he; clear he; subst h)
  refine notIn_str ?_
  rw[WI]
  exact hQ s (.refl s)
 | seq=>
  refine pS he ra rb λa b t u l k he=>?_
  rw[l,k]
  (have h:=Out.ok.inj he; clear he; subst h)
  exact eq_str (hQ s (.refl s))
 | sne=>
  refine pS he ra rb λa b t u l k he=>?_
  rw[l,k]
  (have h:=Out.ok.inj he; clear he; subst h)
  exact ne_str (hQ s (.refl s))
 | lt=>
  replace he:=eL he
  revert he; intro No
  refine aA (No) λx y M2 M1 he=>?_
  clear No
  subst M2
  subst M1
  replace he:=fH he
  revert he; intro Nt
  refine aA (Nt) λi j MX MZ he=>?_
  clear Nt
  subst MX
  subst MZ
  (have h:=Out.ok.inj he; clear he; subst h); obtain ⟨_,rfl,rfl⟩:=ra.1.isInt; obtain ⟨_,rfl,rfl⟩:=rb.1.isInt
  exact lt_int (hQ s (.refl s))
 | gt=>
  replace he:=eL he
  revert he; intro MW
  refine aA (MW) λx y MY Nc he=>?_
  clear MW
  subst MY
  subst Nc
  replace he:=fH he
  revert he; intro Nz
  refine aA (Nz) λi j M9 M3 he=>?_
  clear Nz
  subst M9
  subst M3
  (have h:=Out.ok.inj he; clear he; subst h); obtain ⟨_,rfl,rfl⟩:=ra.1.isInt; obtain ⟨_,rfl,rfl⟩:=rb.1.isInt
  exact gt_int (hQ s (.refl s))
 | ge=>
  replace he:=eL he
  revert he; intro z
  refine aA (z) λx y M8 M0 he=>?_
  clear z
  subst M8
  subst M0
  replace he:=fH he
  revert he; intro v
  refine aA (v) λi j M6 Nb he=>?_
  clear v
  subst M6
  subst Nb
  (have h:=Out.ok.inj he; clear he; subst h); obtain ⟨_,rfl,rfl⟩:=ra.1.isInt; obtain ⟨_,rfl,rfl⟩:=rb.1.isInt
  exact ge_int (hQ s (.refl s))
 | isin=>
  replace he:=aN he
  revert he; intro r
  refine ag (r) λx hx he=>?_
  clear r
  cases ba hx
  exact BU hu he ra.1 rb hQ
 | notin=>
  replace he:=eL he
  revert he; intro q
  refine aA (q) λkx y MR MU he=>?_
  clear q
  subst MR
  subst MU
  refine Out.bind_k he λb' g h2=>?_
  (have h:=Out.ok.inj h2; clear h2; (clear he; subst h))
  replace g:=aN g
  revert g; intro p
  refine ag (p) λxs hy g=>?_
  clear p
  cases cH hy
  split at g<;>cases g
  rename_i g
  simp only[Of,kD] at g
  refine aK (g) λMN b1 b2=>?_
  clear g
  refine ae (MN) λa1 a2=>?_
  clear MN
  simp only[VD,UY] at b1 b2
  exact SeqAt.notIn_list_reads rb.1.reads ra.1.reads b1 a1 (by have:=Py (Sq xs) kx.depth; exact AK hu b2) (hQ s (.refl s))
 | is=>
  replace he:=eL he
  revert he; intro n
  refine aA (n) λx y MV NJ he=>?_
  clear n
  subst MV
  subst NJ
  split at he<;>cases he
  cases ss ‹_›
  obtain ⟨ra,_⟩:=ra; obtain ⟨rfl,rfl⟩:=rb.1.isNone
  refine is_none ?_
  cases ra<;>exact hQ s (.refl s)
 | isnot=>
  replace he:=eL he
  revert he; intro m
  refine aA (m) λx y NC Na he=>?_
  clear m
  subst NC
  subst Na
  split at he<;>cases he
  cases ss ‹_›
  obtain ⟨ra,_⟩:=ra; obtain ⟨rfl,rfl⟩:=rb.1.isNone
  refine isNot_none ?_
  cases ra<;>exact hQ s (.refl s)
end
section
theorem EP.shift (kp:Kp s o) (e:EP (λa=>P a\/s.heap.get? a=NI) o r v sc):EP P s r v sc:=by
 obtain ⟨j,as,a,b,c,d⟩:=e
 refine ⟨kp.trans j,as,a,λx i=>?_,λg=>aA (c g) λa n m l k=>(aQ a n m (kp.none l) k),λg=>⟨λx i=>kp.none ((d g).1 x i),(d g).2⟩⟩
 rcases b x i with h | h
 ·exact h
 ·exact .inr (kp.none h)
theorem iW (hXP:∀ c s s₁ x s',Kp s s₁->XP c s₁ x s'->XP c s x s') {a b:E}(Sa:SimE fns k C XP a) (Sb:SimE fns k C XP b)
  {ea eb:Expr}{A:OI}{env:Env}{σ:St}{P:Oo->Prop}{s:NU}{Er:Lt->NU->Prop}{G:Lt->Lt->NU->Prop}{f:V->V->Out (V×Mode)}
  (oa:okE env.scope.names a ea=vj) (ob:okE env.scope.names b eb=vj) (X:Cx fns k A P s.heap env σ)
  (nb:((ev C a σ).bind λx=>(ev C b σ).bind λy=>f x.1 y.1)≠.bad)
  (hE:∀ c,((ev C a σ).bind λx=>(ev C b σ).bind λy=>f x.1 y.1) = .exc c->∀ x s',XP c s x s'->Er x s') (hf:∀ x y c,f x y≠.exc c)
  (hG:∀ x y r,((ev C a σ).bind λx=>(ev C b σ).bind λy=>f x.1 y.1) = .ok r->f x y = .ok r->∀ va vb s₂ as bs,Kp s s₂->RV s₂.heap va x as->RV s₂.heap vb y bs ->
   (∀ a∈as,P a\/s.heap.get? a=NI)->(∀ a∈bs,P a\/s.heap.get? a=NI)->G va vb s₂) :
  Og (Ok prog w) A (eval ea env) (λva s₁=>Og (Ok prog w) A (eval eb env) (λvb s₂=>G va vb s₂) Er s₁) Er s:=by
 refine aJ nb λp i=>?_
 refine LZ hXP Sa Sb oa ob X p (λx g=>(bk (i x g)).1) (λc h=>hE c ?_) λx y g m va vb s₁ s₂ Ea Eb=>?_
 ·rcases h with h | ⟨x,g,h⟩
  ·rw[h]; rfl
  ·rw[g,Out.ok_bind,h]; rfl
 ·have v:=(bk (i x g)).2 y m
  cases hr:f x.1 y.1 with
  | bad=>exact N5 hr v
  | exc c=>exact N5 hr (hf _ _ _)
  | ok r=>
   obtain ⟨l,as,o,u,_⟩:=Ea
   obtain ⟨j,bs,n,t,_⟩:=Eb
   exact hG x.1 y.1 r (by rw[g,Out.ok_bind,m,Out.ok_bind]; exact hr) hr va vb s₂ as bs (l.trans j) (o.k j.k) n u λz q=>(t z q).imp id l.none
theorem y6:dK o x y≠.exc c:=Bn c
theorem qe:cq o x y≠.exc c:=Cu c
theorem BC {ex:Expr}(h:okE ns (.bin o a b) ex=vj):∃ l op r p,ex = .BinOp l op r p/\opB o op=vj/\okE ns a l=vj/\okE ns b r=true:=by
 replace h:=Jh h
 revert h; refine λg=>OE g (λi=>?_) (λh=>?_)
 ·clear g
  refine cQ (i) λq n m k j h=>?_
  clear i
  subst j
  simp only[Of] at h
  exact (me _ _ _ _ rfl h.1.1 h.1.2 h.2)
 ·cases h
theorem BB (hXP:∀ c s s₁ x s',Kp s s₁->XP c s₁ x s'->XP c s x s') {o:BOp}{a b:E}(Sa:SimE fns k C XP a) (Sb:SimE fns k C XP b):SimE fns k C XP (.bin o a b):=by
 intro ex A env σ P s Q Er m X n q t
 refine i7 (BC m) λl op r p g ho z u=>?_
 (clear m; subst g)
 simp only[mL] at n q t
 refine wpAny_BinOp (iW hXP Sa Sb (f:=λx y=>match x,y with | .d x,.d y=>dK o x y | _,_=>.bad) z u X n t (λx y c=>?_) λx y r hr hf va vb h as bs kp j i ha hb=>?_)
 ·split
  ·exact y6
  ·simp
 ·split at hf
  ·exact yo ho hf j.1 j.2 i.1 i.2 ha hb λv s' e=>q r hr v s' (.shift kp e)
  ·exact nB hf
theorem sO {ex:Expr}(h:okE ns (.cmp o a b) ex=vj):∃ l op r p,ex = .Compare l [op] [r] p/\opC o op=vj/\okE ns a l=vj/\okE ns b r=true:=by
 replace h:=Ho h
 revert h; refine λg=>OE g (λi=>?_) (λh=>?_)
 ·clear g
  refine cQ (i) λq n m k j h=>?_
  clear i
  subst j
  simp only[Of] at h
  exact (me _ _ _ _ rfl h.1.1 h.1.2 h.2)
 ·cases h
theorem Cc:okE ns e (.Set es n p)=false:=by cases e<;>rfl
theorem qN (h:okE ns e x=vj):behindInMarks op x=false:=by
 cases x<;>first | rfl | (rw[Cc] at h; cases h)
theorem Cs (hXP:∀ c s s₁ x s',Kp s s₁->XP c s₁ x s'->XP c s x s') {o:COp}{a b:E}(Sa:SimE fns k C XP a) (Sb:SimE fns k C XP b):SimE fns k C XP (.cmp o a b):=by
 intro ex A env σ P s Q Er ok X m n q
 refine i7 (sO ok) λl op r p g ho oa j=>?_
 (clear ok; subst g)
 simp only[jZ] at m n q
 refine wpAny_Compare1 (iW hXP Sa Sb (f:=λx y=>(cq o x y).bind λb=>.ok (sB b)) oa j X m q (λx y c h=>?_) λx y r hr hf va vb i as bs kp z v ha hb=>?_) (qN j)
 ·rcases ca h with h | ⟨_,_,h⟩
  ·exact qe h
  ·cases h
 ·refine Out.bind_k hf λt h1 u=>?_
  (have oc:=Out.ok.inj u; clear u; (clear hf; subst oc))
  exact qx X.room.units ho h1 z v λs' e=>n _ hr _ s' (.bool (kp.trans e))
theorem yp (hXP:∀ c s s₁ x s',Kp s s₁->XP c s₁ x s'->XP c s x s') {o:COp}{a b:E}(Sa:SimE fns k C XP a) (Sb:SimE fns k C XP b):SimT fns k C XP (.cmp o a b):=by
 intro ex A env z P s Q Er ok X nb hQ u
 refine i7 (sO ok) λl op r p j ho oa q=>?_
 (clear ok; subst j)
 have g:=(bk nb).1
 have i:∀ r,ev C (.cmp o a b) z = .ok r->∀ b,aq r.1 = .ok b->∀ s',Kp s s'->Q b s':=λr m t ht=>hQ t (by rw[m]; exact ht)
 simp only[jZ] at g i u
 refine wpAny_isTrue_Compare1 (iW hXP Sa Sb (f:=λx y=>(cq o x y).bind λb=>.ok (sB b)) oa q X g u (λx y c h=>?_) λx y r m hf va vb n as bs kp ra rb ha hb=>?_) (qN q)
 ·rcases ca h with h | ⟨_,_,h⟩
  ·exact qe h
  ·cases h
 ·refine Out.bind_k hf λt h1 v=>?_
  (have oc:=Out.ok.inj v; clear v; (clear hf; subst oc))
  exact qx X.room.units ho h1 ra rb λs' e=>Qy (i _ m _ rfl s' (kp.trans e))
theorem Bo (Sa:SimE fns k C XP a):SimE fns k C XP (.neg a):=by
 intro ex A env σ P s Q Er j X u y z
 replace j:=Jp j
 revert j; refine λg=>OE g (λh=>?_) (λj=>?_)
 ·clear g
  refine au (h) λo n i j=>?_
  clear h
  subst i
  simp only[km] at u y z
  refine aJ u λn1 n2=>?_
  refine Wb (Sa j X n1 (λx v va l Ea=>?_) λc hc=>z c (by rw[hc]; rfl))
  have t:=n2 x v
  obtain ⟨ka,as,p,_⟩:=Ea
  obtain ⟨x,m⟩:=x
  dsimp only at t p
  split at t
  ·refine p.1.isInt_k λuu r q=>?_
   (clear p; subst r)
   subst q
   exact neg_int (y _ (by rw[v]; rfl) _ _ (.int (ka.trans (.toks l _))))
  ·exact N5 rfl t
 ·cases j
theorem ur (S:SimE fns k C XP e) (hp:∀ ns ex env (t:Sem Lt),okE ns e ex=vj->isTrue ex env t=(do let v <- t; standAt ex.pos; holding [v] (ZP v))):SimT fns k C XP e:=by
 intro ex A env z P s Q Er n X o u y
 refine wpAny_isTrue_value (S n X (bk o).1 (λr p v s' E=>?_) y) (hp _ _ _ _ n)
 have h:=(bk o).2 r p
 obtain ⟨x,m⟩:=r
 dsimp only at h
 unfold aq at h
 split at h
 ·obtain ⟨q,as,g,_⟩:=E
  refine ae (g) λl _=>?_
  clear g
  refine ae (l.isBool) λj i=>?_
  (clear l; subst j)
  subst i
  exact Qy (u _ (by rw[p]; rfl) _ q)
 ·exact N5 rfl h
theorem sE {ex:Expr}(h:okE ns (.not a) ex=vj):∃ x p,ex = .UnaryOp .Not x p/\okE ns a x=true:=by
 replace h:=FR h
 revert h; refine λg=>OE g (λi=>?_) (λh=>?_)
 ·clear g
  refine au (i) λl k j h=>?_
  clear i
  subst j
  exact (aC _ _ rfl h)
 ·cases h
theorem sd (Sa:SimE fns k C XP a):SimE fns k C XP (.not a):=by
 intro ex A env σ P s Q Er o X q t u
 refine au (sE o) λx p l v=>?_
 (clear o; subst l)
 simp only[hW] at q t u
 refine aJ q λz y=>?_
 refine Wb (Sa v X z (λx r va n Ea=>?_) λc hc=>u c (by rw[hc]; rfl))
 have i:=(bk (y x r)).1
 obtain ⟨ka,as,j,_⟩:=Ea
 obtain ⟨x,m⟩:=x
 dsimp only at i j
 unfold aq at i
 split at i
 ·refine ae (j.1.isBool) λh g=>?_
  (clear j; subst h)
  subst g
  exact not_value (Qy (t _ (by rw[r]; rfl) _ _ (.bool ka)))
 ·exact N5 rfl i
theorem qj (Sa:SimT fns k C XP a):SimT fns k C XP (.not a):=by
 intro ex A u h P s Q Er ok X i j t
 refine au (sE ok) λx p g m=>?_
 (clear ok; subst g)
 have e:((ev C (.not a) h).bind λr=>aq r.1)=((ev C a h).bind λr=>aq r.1).bind λb=>.ok (!b):=by
  simp only[hW]
  cases ev C a h with
  | ok r=>simp only[Out.ok_bind]; cases aq r.1<;>rfl
  | exc c=>rfl
  | bad=>rfl
 rw[e] at i j
 refine wpAny_isTrue_Not (Sa m X (bk i).1 (λb q l n=>j (!b) (by rw[q]; rfl) l n) λc o=>t c (by simp only[hW]; rw[o]; rfl))
end
section
variable (fns:Fns) (k:N7) (C:Calls) (XP:If->NU->Lt->NU->Prop)
noncomputable def SimA (e:E):Prop:=∀ {vs:uq Expr}{pos:Pos}{A:OI}{env:Env}{σ:St}{P:Oo->Prop}{s:NU}{Q:Lt->NU->Prop}{Er:Lt->NU->Prop},
 okA' env.scope.names e vs=vj->Cx fns k A P s.heap env σ->((ev C e σ).bind λr=>aq r.1)≠.bad ->
 (∀ b,((ev C e σ).bind λr=>aq r.1) = .ok b->∀ s',Kp s s'->Q (.bool b) s')->(∀ c,ev C e σ = .exc c->∀ x s',XP c s x s'->Er x s') ->
 Og (Ok prog w) A (TD pos .And (VE vs env)) Q Er s
noncomputable def SimTA (e:E):Prop:=∀ {vs:uq Expr}{A:OI}{env:Env}{σ:St}{P:Oo->Prop}{s:NU}{Q:OF->NU->Prop}{Er:Lt->NU->Prop},
 okA' env.scope.names e vs=vj->Cx fns k A P s.heap env σ->((ev C e σ).bind λr=>aq r.1)≠.bad ->
 (∀ b,((ev C e σ).bind λr=>aq r.1) = .ok b->∀ s',Kp s s'->Q b s')->(∀ c,ev C e σ = .exc c->∀ x s',XP c s x s'->Er x s') ->
 Og (Ok prog w) A (WJ .And vs env) Q Er s
noncomputable def SimO (e:E):Prop:=∀ {vs:uq Expr}{pos:Pos}{A:OI}{env:Env}{σ:St}{P:Oo->Prop}{s:NU}{Q:Lt->NU->Prop}{Er:Lt->NU->Prop},
 okO' env.scope.names e vs=vj->Cx fns k A P s.heap env σ->((ev C e σ).bind λr=>aq r.1)≠.bad ->
 (∀ b,((ev C e σ).bind λr=>aq r.1) = .ok b->∀ s',Kp s s'->Q (.bool b) s')->(∀ c,ev C e σ = .exc c->∀ x s',XP c s x s'->Er x s') ->
 Og (Ok prog w) A (TD pos .Or (VE vs env)) Q Er s
noncomputable def SimTO (e:E):Prop:=∀ {vs:uq Expr}{A:OI}{env:Env}{σ:St}{P:Oo->Prop}{s:NU}{Q:OF->NU->Prop}{Er:Lt->NU->Prop},
 okO' env.scope.names e vs=vj->Cx fns k A P s.heap env σ->((ev C e σ).bind λr=>aq r.1)≠.bad ->
 (∀ b,((ev C e σ).bind λr=>aq r.1) = .ok b->∀ s',Kp s s'->Q b s')->(∀ c,ev C e σ = .exc c->∀ x s',XP c s x s'->Er x s') ->
 Og (Ok prog w) A (WJ .Or vs env) Q Er s
end
section
variable {fns:Fns}{k:N7}{C:Calls}{XP:If->NU->Lt->NU->Prop}
theorem yA (E:EP P s r v s') (h:aq r.1 = .ok t):v = .bool t/\Kp s s':=by
 obtain ⟨x,m⟩:=r
 dsimp only at h
 unfold aq at h
 split at h
 ·(have j:=Out.ok.inj h; clear h; subst j)
  obtain ⟨k,as,g,_⟩:=E
  refine ae (g) λi _=>?_
  clear g
  cases i
  exact ⟨rfl,k⟩
 ·exact nB h
theorem nU:aq v≠.exc c:=by unfold aq; split<;>simp
theorem uj (S:SimE fns k C XP e) {ex:Expr}
  (ok:okE env.scope.names e ex=vj) (X:Cx fns k A P s.heap env σ) (nb:((ev C e σ).bind λr=>aq r.1)≠.bad)
  (hQ:∀ b,((ev C e σ).bind λr=>aq r.1) = .ok b->∀ s',Kp s s'->Q (.bool b) s') (hE:∀ c,ev C e σ = .exc c->∀ x s',XP c s x s'->Er x s'):Og (Ok prog w) A (eval ex env) Q Er s:=by
 refine aJ nb λj i=>?_
 refine S ok X j (λr h v s' E=>?_) hE
 cases ht:aq r.1 with
 | bad=>exact N5 ht (i r h)
 | exc c=>exact N5 ht nU
 | ok t=>
  refine ae (yA E ht) λg l=>?_
  (clear E; subst g)
  exact hQ t (by rw[h]; exact ht) s' l
theorem ml {M:VA}{A:OI}{pos:Pos}{op:BoolOp}{x:Sem Lt}{Q:Lt->NU->Prop}{E:Lt->NU->Prop}{s:NU}(h:Og M A x Q E s):Og M A (TD pos op [x]) Q E s:=h
theorem tu {M:VA}{A:OI}{pos:Pos}{x y:Sem Lt}{r:uq (Sem Lt)}{Q:Lt->NU->Prop}{E:Lt->NU->Prop}{s:NU}
  (h:Og M A x (λv s₁=>Og M A (ZP v) (λt j=>if t then Og M A (TD pos .And (y::r)) Q E j else Q v j) E s₁) E s):Og M A (TD pos .And (x::y::r)) Q E s:=by
 rw[TD]
 ·refine Is (Pg h (λv s₁ i=>Is (Tn (Is (P4 (Pg i (λt j g=>?_) λuu uu e=>e))))) λuu uu e=>e)
  cases t with
  | false=>exact Od g
  | true=>exact g
 ·simp
theorem v6 {M:VA}{A:OI}{pos:Pos}{x y:Sem Lt}{r:uq (Sem Lt)}{Q:Lt->NU->Prop}{E:Lt->NU->Prop}{s:NU}
  (h:Og M A x (λv s₁=>Og M A (ZP v) (λt j=>if t then Q v j else Og M A (TD pos .Or (y::r)) Q E j) E s₁) E s):Og M A (TD pos .Or (x::y::r)) Q E s:=by
 rw[TD]
 ·refine Is (Pg h (λv s₁ i=>Is (Tn (Is (P4 (Pg i (λt j g=>?_) λuu uu e=>e))))) λuu uu e=>e)
  cases t with
  | false=>exact g
  | true=>exact Od g
 ·simp
theorem okA'_inv (h:okA' ns b vs=vj):(∃ u,vs=[u]/\okE ns b u=vj)\/okA ns b vs=true:=by
 unfold okA' at h
 cases e:bZ vs with
 | some u=>rw[e] at h; exact .inl (ah u (bp e) h)
 | none=>rw[e] at h; exact .inr h
theorem okA'_ne (h:okA' ns b vs=vj):∃ y r,vs=y::r:=by
 cases vs with
 | nil=>cases b<;>exact PZ (show NY=vj from h)
 | cons y r=>exact (cf y r rfl)
theorem okO'_inv (h:okO' ns b vs=vj):(∃ u,vs=[u]/\okE ns b u=vj)\/okO ns b vs=true:=by
 unfold okO' at h
 cases e:bZ vs with
 | some u=>rw[e] at h; exact .inl (ah u (bp e) h)
 | none=>rw[e] at h; exact .inr h
theorem okO'_ne (h:okO' ns b vs=vj):∃ y r,vs=y::r:=by
 cases vs with
 | nil=>cases b<;>exact PZ (show NY=vj from h)
 | cons y r=>exact (cf y r rfl)
theorem ot (a b:E) (σ:St):((ev C (.and a b) σ).bind λr=>aq r.1)=((ev C a σ).bind λr=>aq r.1).bind λt=>if t then (ev C b σ).bind λr=>aq r.1 else .ok false:=by
 simp only[il]
 cases ev C a σ with
 | ok r=>
  simp only[Out.ok_bind]
  cases aq r.1 with
  | ok t=>
   cases t with
   | false=>rfl
   | true=>
    simp only[Out.ok_bind,Qz]
    cases ev C b σ with
    | ok q=>simp only[Out.ok_bind]; cases aq q.1<;>rfl
    | exc c=>rfl
    | bad=>rfl
  | exc c=>rfl
  | bad=>rfl
 | exc c=>rfl
 | bad=>rfl
theorem qm (a b:E) (σ:St):((ev C (.or a b) σ).bind λr=>aq r.1)=((ev C a σ).bind λr=>aq r.1).bind λt=>if t then .ok vj else (ev C b σ).bind λr=>aq r.1:=by
 simp only[jj]
 cases ev C a σ with
 | ok r=>
  simp only[Out.ok_bind]
  cases aq r.1 with
  | ok t=>
   cases t with
   | true=>rfl
   | false=>
    simp only[Out.ok_bind,OL,PA]
    cases ev C b σ with
    | ok q=>simp only[Out.ok_bind]; cases aq q.1<;>rfl
    | exc c=>rfl
    | bad=>rfl
  | exc c=>rfl
  | bad=>rfl
 | exc c=>rfl
 | bad=>rfl
theorem sQ (h:ev C (.and a b) σ = .ok r):∃ t,r=sB t:=by
 simp only[il] at h
 refine Out.bind_k h λx _ h=>?_
 refine Out.bind_k h λt _ h=>?_
 cases t with
 | false=>exact ⟨NY,by simpa using h.symm⟩
 | true=>
  simp only[Qz] at h
  refine Out.bind_k h λy _ h=>?_
  refine Out.bind_k h λu _ h=>?_
  (have g:=Out.ok.inj h; clear h; subst g); exact ⟨u,rfl⟩
theorem wS (h:ev C (.or a b) σ = .ok r):∃ t,r=sB t:=by
 simp only[jj] at h
 refine Out.bind_k h λx _ h=>?_
 refine Out.bind_k h λt _ h=>?_
 cases t with
 | true=>exact ⟨vj,by simpa using h.symm⟩
 | false=>
  simp only[OL,PA] at h
  refine Out.bind_k h λy _ h=>?_
  refine Out.bind_k h λu _ h=>?_
  (have g:=Out.ok.inj h; clear h; subst g); exact ⟨u,rfl⟩
theorem dF {o:Out (V×Mode)}{c:If}(h:(o.bind λr=>aq r.1) = .exc c):o = .exc c:=by
 rcases ca h with h | ⟨_,_,h⟩
 ·exact h
 ·exact N5 h nU
section
variable (hXP:∀ c s s₁ x s',Kp s s₁->XP c s₁ x s'->XP c s x s')
include hXP
theorem C3 (Sa:SimE fns k C XP a) (Ab:SimA fns k C XP b)
  (oa:okE env.scope.names a v=vj) (ob:okA' env.scope.names b vs=vj) (X:Cx fns k A P s.heap env σ) (nb:((ev C (.and a b) σ).bind λr=>aq r.1)≠.bad)
  (hQ:∀ t,((ev C (.and a b) σ).bind λr=>aq r.1) = .ok t->∀ s',Kp s s'->Q (.bool t) s') (hE:∀ c,ev C (.and a b) σ = .exc c->∀ x s',XP c s x s'->Er x s') :
  Og (Ok prog w) A (TD pos .And (VE (v::vs) env)) Q Er s:=by
 refine bz (okA'_ne ob) λy r o=>?_
 subst o
 have j:∀ c,((ev C (.and a b) σ).bind λr=>aq r.1) = .exc c->∀ x s',XP c s x s'->Er x s':=λc h=>hE c (dF h)
 rw[ot] at nb hQ j
 refine aJ nb λn1 z=>?_
 refine tu (uj Sa oa X n1 (λt n i g=>Qy ?_) λc q=>j c (by rw[q]; rfl))
 cases t with
 | false=>exact hQ NY (by rw[n]; rfl) i g
 | true=>
  have u:=z vj n
  simp only[Qz] at u ⊢
  refine Ab ob (X.k g.k) u (λt p l m=>hQ t (by rw[n]; simpa using p) l (g.trans m)) λc q x s' hx=>j c (by rw[n]; simp[q]) x s' (hXP c s i x s' g hx)
theorem orL (Sa:SimE fns k C XP a) (Ab:SimO fns k C XP b)
  (oa:okE env.scope.names a v=vj) (ob:okO' env.scope.names b vs=vj) (X:Cx fns k A P s.heap env σ) (nb:((ev C (.or a b) σ).bind λr=>aq r.1)≠.bad)
  (hQ:∀ t,((ev C (.or a b) σ).bind λr=>aq r.1) = .ok t->∀ s',Kp s s'->Q (.bool t) s') (hE:∀ c,ev C (.or a b) σ = .exc c->∀ x s',XP c s x s'->Er x s') :
  Og (Ok prog w) A (TD pos .Or (VE (v::vs) env)) Q Er s:=by
 refine bz (okO'_ne ob) λy r o=>?_
 subst o
 have j:∀ c,((ev C (.or a b) σ).bind λr=>aq r.1) = .exc c->∀ x s',XP c s x s'->Er x s':=λc h=>hE c (dF h)
 rw[qm] at nb hQ j
 refine aJ nb λn1 z=>?_
 refine v6 (uj Sa oa X n1 (λt n i g=>Qy ?_) λc q=>j c (by rw[q]; rfl))
 cases t with
 | true=>exact hQ vj (by rw[n]; rfl) i g
 | false=>
  have u:=z NY n
  simp only[OL,PA] at u ⊢
  refine Ab ob (X.k g.k) u (λt p l m=>hQ t (by rw[n]; simpa using p) l (g.trans m)) λc q x s' hx=>j c (by rw[n]; simp[q]) x s' (hXP c s i x s' g hx)
theorem zq (Sa:SimT fns k C XP a) (Ab:SimTA fns k C XP b)
  (oa:okE env.scope.names a v=vj) (ob:okA' env.scope.names b vs=vj) (X:Cx fns k A P s.heap env σ) (nb:((ev C (.and a b) σ).bind λr=>aq r.1)≠.bad)
  (hQ:∀ t,((ev C (.and a b) σ).bind λr=>aq r.1) = .ok t->∀ s',Kp s s'->Q t s') (hE:∀ c,ev C (.and a b) σ = .exc c->∀ x s',XP c s x s'->Er x s') :
  Og (Ok prog w) A (WJ .And (v::vs) env) Q Er s:=by
 have j:∀ c,((ev C (.and a b) σ).bind λr=>aq r.1) = .exc c->∀ x s',XP c s x s'->Er x s':=λc h=>hE c (dF h)
 rw[ot] at nb hQ j
 refine aJ nb λy u=>?_
 refine UZ (Sa oa X y (λt n i g=>?_) λc p=>j c (by rw[p]; rfl))
 cases t with
 | false=>exact hQ NY (by rw[n]; rfl) i g
 | true=>
  have q:=u vj n
  simp only[Qz] at q ⊢
  refine Ab ob (X.k g.k) q (λt o l m=>hQ t (by rw[n]; simpa using o) l (g.trans m)) λc p x s' z=>j c (by rw[n]; simp[p]) x s' (hXP c s i x s' g z)
theorem DK (Sa:SimT fns k C XP a) (Ab:SimTO fns k C XP b)
  (oa:okE env.scope.names a v=vj) (ob:okO' env.scope.names b vs=vj) (X:Cx fns k A P s.heap env σ) (nb:((ev C (.or a b) σ).bind λr=>aq r.1)≠.bad)
  (hQ:∀ t,((ev C (.or a b) σ).bind λr=>aq r.1) = .ok t->∀ s',Kp s s'->Q t s') (hE:∀ c,ev C (.or a b) σ = .exc c->∀ x s',XP c s x s'->Er x s') :
  Og (Ok prog w) A (WJ .Or (v::vs) env) Q Er s:=by
 have j:∀ c,((ev C (.or a b) σ).bind λr=>aq r.1) = .exc c->∀ x s',XP c s x s'->Er x s':=λc h=>hE c (dF h)
 rw[qm] at nb hQ j
 refine aJ nb λy u=>?_
 refine Vo (Sa oa X y (λt n i g=>?_) λc p=>j c (by rw[p]; rfl))
 cases t with
 | true=>exact hQ vj (by rw[n]; rfl) i g
 | false=>
  have q:=u NY n
  simp only[OL,PA] at q ⊢
  refine Ab ob (X.k g.k) q (λt o l m=>hQ t (by rw[n]; simpa using o) l (g.trans m)) λc p x s' z=>j c (by rw[n]; simp[p]) x s' (hXP c s i x s' g z)
theorem sU {ex:Expr}(h:okE ns (.and a b) ex=vj):∃ v vs p,ex = .BoolOp .And (v::vs) p/\okE ns a v=vj/\okA' ns b vs=true:=by
 replace h:=Kh h
 revert h; refine λg=>OE g (λi=>?_) (λh=>?_)
 ·clear g
  refine cG (i) λm l k j h=>?_
  clear i
  subst j
  simp only[Of] at h
  exact (dQ _ _ _ rfl h.1 h.2)
 ·cases h
theorem wQ {ex:Expr}(h:okE ns (.or a b) ex=vj):∃ v vs p,ex = .BoolOp .Or (v::vs) p/\okE ns a v=vj/\okO' ns b vs=true:=by
 replace h:=LN h
 revert h; refine λg=>OE g (λi=>?_) (λh=>?_)
 ·clear g
  refine cG (i) λm l k j h=>?_
  clear i
  subst j
  simp only[Of] at h
  exact (dQ _ _ _ rfl h.1 h.2)
 ·cases h
theorem Bc (Sa:SimE fns k C XP a) (Ab:SimA fns k C XP b):SimE fns k C XP (.and a b):=by
 intro ex A env m P s Q Er ok X y hQ hE
 refine aX (sU hXP ok) λv vs p j x q=>?_
 (clear ok; subst j)
 rw[XB]
 refine C3 hXP Sa Ab x q X (λh=>?_) (λt g n z=>?_) hE
 ·cases e:ev C (.and a b) m with
  | ok r=>rw[e] at h; obtain ⟨t,rfl⟩:=sQ e; cases h
  | exc c=>rw[e] at h; cases h
  | bad=>exact y e
 ·refine Out.bind_k g λr l g=>?_
  refine al (sQ l) λu i=>?_
  subst i
  (have o:=Out.ok.inj g; clear g; subst o)
  exact hQ _ l _ n (.bool z)
theorem C8 (Sa:SimE fns k C XP a) (Ab:SimO fns k C XP b):SimE fns k C XP (.or a b):=by
 intro ex A env m P s Q Er ok X y hQ hE
 refine aX (wQ hXP ok) λv vs p j x q=>?_
 (clear ok; subst j)
 rw[XB]
 refine orL hXP Sa Ab x q X (λh=>?_) (λt g n z=>?_) hE
 ·cases e:ev C (.or a b) m with
  | ok r=>rw[e] at h; obtain ⟨t,rfl⟩:=wS e; cases h
  | exc c=>rw[e] at h; cases h
  | bad=>exact y e
 ·refine Out.bind_k g λr l g=>?_
  refine al (wS l) λu i=>?_
  subst i
  (have o:=Out.ok.inj g; clear g; subst o)
  exact hQ _ l _ n (.bool z)
theorem yu (Sa:SimT fns k C XP a) (Ab:SimTA fns k C XP b):SimT fns k C XP (.and a b):=by
 intro ex A o q P s Q Er h X l m n
 refine aX (sU hXP h) λv r p g j i=>?_
 (clear h; subst g)
 exact V3 (zq hXP Sa Ab j i X l m n)
theorem BA (Sa:SimT fns k C XP a) (Ab:SimTO fns k C XP b):SimT fns k C XP (.or a b):=by
 intro ex A o q P s Q Er h X l m n
 refine aX (wQ hXP h) λv r p g j i=>?_
 (clear h; subst g)
 exact V3 (DK hXP Sa Ab j i X l m n)
end
theorem kY (S:SimE fns k C XP e) (h:∀ {vs:uq Expr}{pos:Pos}{A:OI}{env:Env}{σ:St}{P:Oo->Prop}{s:NU}{Q:Lt->NU->Prop}{Er:Lt->NU->Prop},
  okA env.scope.names e vs=vj->Cx fns k A P s.heap env σ->((ev C e σ).bind λr=>aq r.1)≠.bad ->
  (∀ b,((ev C e σ).bind λr=>aq r.1) = .ok b->∀ s',Kp s s'->Q (.bool b) s')->(∀ c,ev C e σ = .exc c->∀ x s',XP c s x s'->Er x s')->Og (Ok prog w) A (TD pos .And (VE vs env)) Q Er s):SimA fns k C XP e:=by
 intro vs pos A env σ P s Q Er ok X m n o
 replace ok:=okA'_inv ok
 revert ok; refine λg=>OE g (λi=>?_) (λok=>?_)
 ·clear g
  refine ag (i) λl j ok=>?_
  clear i
  subst j
  exact ml (uj S ok X m n o)
 ·exact h ok X m n o
theorem lA (S:SimE fns k C XP e) (h:∀ {vs:uq Expr}{pos:Pos}{A:OI}{env:Env}{σ:St}{P:Oo->Prop}{s:NU}{Q:Lt->NU->Prop}{Er:Lt->NU->Prop},
  okO env.scope.names e vs=vj->Cx fns k A P s.heap env σ->((ev C e σ).bind λr=>aq r.1)≠.bad ->
  (∀ b,((ev C e σ).bind λr=>aq r.1) = .ok b->∀ s',Kp s s'->Q (.bool b) s')->(∀ c,ev C e σ = .exc c->∀ x s',XP c s x s'->Er x s')->Og (Ok prog w) A (TD pos .Or (VE vs env)) Q Er s):SimO fns k C XP e:=by
 intro vs pos A env σ P s Q Er ok X m n o
 replace ok:=okO'_inv ok
 revert ok; refine λg=>OE g (λi=>?_) (λok=>?_)
 ·clear g
  refine ag (i) λl j ok=>?_
  clear i
  subst j
  exact ml (uj S ok X m n o)
 ·exact h ok X m n o
theorem ju (S:SimT fns k C XP e) (h:∀ {vs:uq Expr}{A:OI}{env:Env}{σ:St}{P:Oo->Prop}{s:NU}{Q:OF->NU->Prop}{Er:Lt->NU->Prop},
  okA env.scope.names e vs=vj->Cx fns k A P s.heap env σ->((ev C e σ).bind λr=>aq r.1)≠.bad ->
  (∀ b,((ev C e σ).bind λr=>aq r.1) = .ok b->∀ s',Kp s s'->Q b s')->(∀ c,ev C e σ = .exc c->∀ x s',XP c s x s'->Er x s')->Og (Ok prog w) A (WJ .And vs env) Q Er s):SimTA fns k C XP e:=by
 intro vs A env σ P s Q Er ok X n m q
 replace ok:=okA'_inv ok
 revert ok; refine λg=>OE g (λi=>?_) (λok=>?_)
 ·clear g
  refine ag (i) λl j ok=>?_
  clear i
  subst j
  refine UZ (S ok X n (λt p s' o=>?_) q)
  cases t with
  | false=>exact m _ p s' o
  | true=>exact wpAny_allTrue_And_nil (m _ p s' o)
 ·exact h ok X n m q
theorem jK (S:SimT fns k C XP e) (h:∀ {vs:uq Expr}{A:OI}{env:Env}{σ:St}{P:Oo->Prop}{s:NU}{Q:OF->NU->Prop}{Er:Lt->NU->Prop},
  okO env.scope.names e vs=vj->Cx fns k A P s.heap env σ->((ev C e σ).bind λr=>aq r.1)≠.bad ->
  (∀ b,((ev C e σ).bind λr=>aq r.1) = .ok b->∀ s',Kp s s'->Q b s')->(∀ c,ev C e σ = .exc c->∀ x s',XP c s x s'->Er x s')->Og (Ok prog w) A (WJ .Or vs env) Q Er s):SimTO fns k C XP e:=by
 intro vs A env σ P s Q Er ok X n m q
 replace ok:=okO'_inv ok
 revert ok; refine λg=>OE g (λi=>?_) (λok=>?_)
 ·clear g
  refine ag (i) λl j ok=>?_
  clear i
  subst j
  refine Vo (S ok X n (λt p s' o=>?_) q)
  cases t with
  | false=>exact wpAny_allTrue_Or_nil (m _ p s' o)
  | true=>exact m _ p s' o
 ·exact h ok X n m q
end
section
theorem EP.aList (kp:Kp s s') (hn:s.heap.get? a=NI)
  (ha:s'.heap.get? a=ti ⟨.type "list", NI,.seq vs.toArray n,#[]⟩) (r:RA s'.heap vs xs as) (hl:xs.length<=2^22) (hz:∀ x∈xs,sz x=vj) (hP:∀ b∈as,P b/\b≠a) :
  EP P s (.d (.list xs),fresh xs) (.ref a) s':=by
 refine ⟨kp,a::as,⟨.list ha r,sz_list.mpr ⟨hl,hz⟩⟩,?_,?_,?_⟩
 ·intro b h
  rcases Ou.mp h with rfl | h
  ·exact .inr hn
  ·exact .inl (hP b h).1
 ·intro _
  exact (aQ _ _ rfl hn (λh=>(hP a h).2 rfl))
 ·intro i
  have g:xs.all sx=true:=by
   unfold fresh at i; dsimp only at i; split at i
   ·assumption
   ·cases i
  rw[r.sx_nil g]
  refine ⟨λb h=>?_,by simp⟩
  rcases Ou.mp h with rfl | h
  ·exact hn
  ·cases h
theorem R.isList (r:R h v (.list xs) as):∃ a vs n bs,v = .ref a/\h.get? a=ti ⟨.type "list", Qv,.seq vs.toArray n,#[]⟩/\RA h vs xs bs/\as=a::bs:=by
 cases r with
 | list e r=>exact (me _ _ _ _ rfl e r rfl)
theorem R.isList_k {h:O2}{v:Lt}{xs:uq N9}{as:uq Oo}{G:Prop}(r:R h v (.list xs) as) (k:∀ a vs n bs,v = .ref a->h.get? a=ti ⟨.type "list", Qv,.seq vs.toArray n,#[]⟩->RA h vs xs bs->as=a::bs->G):G:=i7 (R.isList r) k
theorem R.isTup (r:R h v (.tuple xs) as):∃ a vs n,v = .ref a/\h.get? a=ti ⟨.type "tuple", Qv,.seq vs.toArray n,#[]⟩/\RA h vs xs as:=by
 cases r with
 | tuple e r=>exact (dQ _ _ _ rfl e r)
theorem isL {h:O2}{a:Oo}{vs:uq Lt}{n:N7}(e:h.get? a=ti ⟨.type "list", NI,.seq vs.toArray n,#[]⟩):h.IsList a vs.toArray:=(aG _ e rfl (cE n rfl))
noncomputable def Dd (x:Expr):Bool:=decide ((pt x).tag∈[0,12])
theorem pp (h:okE ns e x=vj):Dd x=false:=by
 unfold Dd
 rw[mQ h]
 cases e<;>rfl
theorem fG (h:okE ns e x=vj) (o i:Lt):SI x NY o i=VR [o,i] (U0 o i):=by
 replace h:=pp h
 cases x<;>first | rfl | exact nT h
theorem aT (h:okE ns e x=vj) (rest:uq Expr) (env:Env):PE (x::rest) env=(NY,eval x env)::PE rest env:=by
 replace h:=pp h
 cases x<;>first | rfl | exact nT h
section
variable {va vb:Lt}{as bs:uq Oo}{A:OI}{P:Oo->Prop}{s:NU}{Q:Lt->NU->Prop}{Er:Lt->NU->Prop}
theorem FF (r:R s.heap v y bs) (z:sz y=vj) (h:∀ b∈bs,P b):EP P s (mk (.d y)) v s:=tq (x:=.d y) ⟨r,z⟩ h
def HU (h:O2) (v:Lt) (i:N3) (u:Lt):Prop:=∃ (a:Oo) (T:If) (vs:uq Lt) (n k:N7),v = .ref a/\h.get? a=ti ⟨.type T,NI,.seq vs.toArray n,#[]⟩/\bN i vs.length=ti k/\vs[k]? = ti u
theorem fW (h:bN i n=ti k):(0<=i/\i<n/\k=i.toNat)\/(i<0/\-(n:N3)<=i/\k=(i+n).toNat):=by
 unfold bN at h
 by_cases h0:0<=i
 ·rw[NZ h0] at h
  by_cases h1:i<n
  ·rw[NZ h1] at h; exact .inl ⟨h0,h1,(Gt h).symm⟩
  ·rw[N0 h1] at h; exact nN h
 ·rw[N0 h0] at h
  by_cases h1:-(n:N3)<=i
  ·rw[NZ h1] at h; exact .inr ⟨by exact Kf h0,h1,(Gt h).symm⟩
  ·rw[N0 h1] at h; exact nN h
theorem yO {value slice:Expr}{a:Oo}{vs:uq Lt}{n k:N7}{i:N3}{t:Tok}{v:Lt}(hs:∀ o i,SI slice NY o i=VR [o,i] (U0 o i)) (ea:s.heap.get? a=ti ⟨.type "list", NI,.seq vs.toArray n,#[]⟩) (hl:vs.length<=2^22)
  (hk:bN i vs.length=ti k) (hv:vs[k]? = ti v) (hQ:Q v s):Og (Ok prog w) A (RD value slice (.ref a) (.int i t)) Q Er s:=by
 rcases fW hk with ⟨h0,h1,rfl⟩ | ⟨h0,h1,rfl⟩
 ·exact WK (isL ea).typeIs Uc.lookup (wpAny_getItem_list (isL ea) h0 (Ff hl h1) (by simpa using hv) hQ) (hs _ _)
 ·refine WK (isL ea).typeIs Uc.lookup (wpAny_getItem_list_neg (isL ea) h0 (by rw[OJ]; exact h1) (G4 hl h1) ?_ hQ) (hs _ _)
  rw[OJ]
  simpa using hv
theorem BJ {value slice:Expr}{a:Oo}{vs:uq Lt}{n k:N7}{i:N3}{t:Tok}{v:Lt}(hs:∀ o i,SI slice NY o i=VR [o,i] (U0 o i)) (ea:s.heap.get? a=ti ⟨.type "tuple", NI,.seq vs.toArray n,#[]⟩) (hl:vs.length<=2^22)
  (hk:bN i vs.length=ti k) (hv:vs[k]? = ti v) (hQ:Q v s):Og (Ok prog w) A (RD value slice (.ref a) (.int i t)) Q Er s:=by
 have h:VS i (vs.toArray).size=ti k:=by
  rw[OJ]
  rcases fW hk with ⟨h0,h1,rfl⟩ | ⟨h0,h1,rfl⟩
  ·have j:¬ i<0:=by exact Jx h0
   simp[VS,j,h0,h1]
  ·exact seqIndex_neg h0 h1
 have g:-(2^22)<=i/\i<2^22:=by rcases fW hk with ⟨h0,h1,_⟩ | ⟨h0,h1,_⟩<;>lia
 exact WK (ah _ ea rfl) slot_tuple_getitem.lookup (Za ea (IY g) (IU g) h (by simpa using hv) hQ) (hs _ _)
theorem yQ (hs:∀ o i,SI slice NY o i=VR [o,i] (U0 o i)) (he:elem x i=ti y) (ra:R s.heap va x as) (za:sz x=vj)
  (hQ:∀ v ds,HU s.heap va i v->R s.heap v y ds->sz y=vj->(∀ b∈ds,b∈as)->Q v s):Og (Ok prog w) A (RD value slice va (.int i t)) Q Er s:=by
 unfold elem at he
 cases hx:asL x with
 | some xs=>
  rw[hx] at he
  cases cH hx
  refine a7 he λk hk j=>?_
  refine ra.isList_k λa p n cs z m g u=>?_
  (clear ra; subst z)
  subst u
  refine aA (g.get j) λv ds l q hd=>?_
  have h:=sz_list.mp za
  have hl:=g.length
  rw[<- hl] at hk h
  exact yO hs m h.1 hk l (hQ v ds (z6 a _ p n k rfl m hk l) q (h.2 y (PF j)) λb hb=>.tail _ (hd b hb))
 | none=>
  rw[hx] at he
  cases ht:asT x with
  | none=>rw[ht] at he; exact nN he
  | some xs=>
   rw[ht] at he
   cases mI ht
   refine a7 he λk hk j=>?_
   refine aX (ra.isTup) λa p n r m g=>?_
   (clear ra; subst r)
   refine aA (g.get j) λv ds l q hd=>?_
   have h:=sz_tuple.mp za
   have hl:=g.length
   rw[<- hl] at hk h
   exact BJ hs m h.1 hk l (hQ v ds (z6 a _ p n k rfl m hk l) q (h.2 y (PF j)) hd)
theorem xB (hs:∀ o i,SI slice NY o i=VR [o,i] (U0 o i)) (he:fC x i = .ok r) (ra:R s.heap va x as) (za:sz x=vj) (rb:R s.heap vb i bs) (ha:∀ a∈as,P a)
  (hQ:∀ v s',EP P s r v s'->Q v s'):Og (Ok prog w) A (RD value slice va vb) Q Er s:=by
 refine aL he λk hk he=>?_
 refine aL he λy m he=>?_
 (have l:=Out.ok.inj he; clear he; subst l)
 cases b0 hk
 refine rb.isInt_k λuu h g=>?_
 (clear rb; subst h)
 subst g
 exact yQ hs m ra za λv q _ j z n=>hQ v s (FF j z λb p=>ha b (n b p))
end
theorem y3:fC x y≠.exc c:=Co c
theorem si (hXP:∀ c s s₁ x s',Kp s s₁->XP c s₁ x s'->XP c s x s') {a b:E}(Sa:SimE fns k C XP a) (Sb:SimE fns k C XP b):SimE fns k C XP (.sub a b):=by
 intro ex A env σ P s Q Er g X q t u
 replace g:=AU g
 revert g; refine λh=>OE h (λi=>?_) (λg=>?_)
 ·clear h
  refine cG (i) λn m l j g=>?_
  clear i
  subst j
  simp only[Of] at g
  simp only[jX] at q t u
  refine Wj (iW hXP Sa Sb (f:=λx y=>match x,y with | .d x,.d y=>fC x y | _,_=>.bad) g.1 g.2 X q u (λx y c=>?_) λx y r hr hf va vb o as bs kp p z ha hb=>?_)
  ·split
   ·exact y3
   ·simp
  ·split at hf
   ·exact xB (fG g.2) hf p.1 p.2 z.1 ha λv s' e=>t r hr v s' (.shift kp e)
   ·exact nB hf
 ·cases g
theorem dG {M:VA}{A:OI}{env:Env}{e:Expr}{Q:Lt->NU->Prop}{E:Lt->NU->Prop}{s:NU}(h:Og M A (eval e env) Q E s):Og M A (evalPart (ti e) env) Q E s:=by rw[evalPart_some]; exact h
theorem bv {M:VA}{A:OI}{env:Env}{Q:Lt->NU->Prop}{E:Lt->NU->Prop}{s:NU}(h:Q .none s):Og M A (evalPart NI env) Q E s:=by rw[evalPart_none]; exact Od h
section
theorem l7 {value slice:Expr}{xs ys:uq N9}{lo hi st:NX N3}(hs:∃ ops:Lt->Lt->uq Lt,∀ o i,SI slice NY o i=VR (ops o i) (U0 o i)) (ra:R s.heap va (.list xs) as) (za:sz (.list xs)=vj) (ha:∀ a∈as,P a)
  (pl:IsPart vl lo) (pu:IsPart vu hi) (pt:IsPart vt st) (h0:st≠ti 0) (hy:∀ vs cs,RA s.heap vs xs cs->∃ ws ds,YF vs.toArray lo hi st=ws.toArray/\RA s.heap ws ys ds/\∀ b∈ds,b∈cs) (hz:∀ y∈ys,sz y=vj) (hl:ys.length<=2^22)
  (hQ:∀ v s',EP P s (.d (.list ys),fresh ys) v s'->Q v s') :
  Og (Ok prog w) A (RD value slice va (.ref s.heap.objs.size)) Q Er {s with heap:=s.heap.push {cls:=.type "slice", data:=.fields #[vl,vu,vt] } }:=by
 refine ra.isList_k λa vs n cs m t j l=>?_
 (clear ra; subst m)
 subst l
 refine aA (hy vs cs j) λws ds e1 h u=>?_
 revert hs; intro g
 refine al (g) λops hs=>?_
 clear g
 have k:=(sz_list.mp za).1
 have z:=j.length
 refine WK ((isL t).push _).typeIs Uc.lookup (wpAny_getItem_list_slice ((isL t).push _) (ZQ ..) pl pu pt h0 ?_ (by rw[OJ]; unfold Qw; exact AE k z)) (hs _ _)
 rw[e1]
 refine hQ _ _ (EP.aList (n:=0) (as:=ds) ((Kp.push s _ s.toks).trans (Kp.push _ _ s.toks)) ?_ (Ov _ rfl) ((h.keep λuu uu e=>Oi _ e).keep λuu uu e=>Oi _ e) hl hz λb p=>⟨ha b (.tail _ (u b p)),?_⟩)
 ·exact PY (by simp)
 ·refine bz (h.there b p) λuu uu e=>?_
  have r:=QW e
  intro q
  have x:b=s.heap.objs.size+1:=q.trans (SJ ..)
  rw[x] at r
  exact Wk.mpr (TN _) r
end
theorem xx:m0 x y≠.exc c:=by unfold m0; split<;>(try split)<;>simp
set_option tactic.hygienic true in
theorem A7 (hXP:∀ c s s₁ x s',Kp s s₁->XP c s₁ x s'->XP c s x s') {a b:E}(Sa:SimE fns k C XP a) (Sb:SimE fns k C XP b):SimE fns k C XP (.shi a b):=by
 intro ex A env σ P s Q Er h X nb hQ hE
 replace h:=Ij h
 revert h; refine λm=>OE m (λn=>?_) (λh=>?_)
 ·clear m
  refine cQ (n) λv l p pos q h=>?_
  clear n
  subst q
  simp only[Of] at h
  simp only[nx] at nb hQ hE
  have z:=iW hXP Sa Sb (f:=λx y=>match x,y with | .d x,.d y=>m0 x y | _,_=>.bad) (G:=λva vb g=>Og (Ok prog w) A (RD v (.Slice NI (ti l) NI p) va (.ref g.heap.objs.size)) Q Er
    {g with heap:=g.heap.push {cls:=.type "slice", data:=.fields #[.none,vb,.none] } }) h.1 h.2 X nb hE (λx y c=>by split; exact xx; simp) λx y r hr hf va vb g as bs kp ra rb ha hb=>by
   split at hf
   ·unfold m0 at hf
    split at hf
    ·split at hf<;>cases hf
     rename_i xs i hi
     revert rb; intro j
     refine ae (j) λrb _=>?_
     clear j
     refine rb.isInt_k λuu u t=>?_
     (clear rb; subst u)
     subst t
     refine l7 (lo:=NI) (hi:=ti i) (st:=NI) ⟨λo i=>[i,o],λuu uu=>rfl⟩ ra.1 ra.2 ha .none (.int _ _) .none (by simp) (λvs cs r=>?_) (λy hy=>(sz_list.mp ra.2).2 y (Qg hy)) (by have:=(sz_list.mp ra.2).1; rw[QX]; exact F8 this) λv s' e=>hQ _ hr v s' (.shift kp e)
     refine ag (r.take i.toNat) λds rd hd=>?_
     refine (aQ _ ds ?_ rd hd)
     have:=slicePick_upto' vs.toArray i.toNat
     rw[Ph hi.1] at this
     exact this
    ·exact nB hf
   ·exact nB hf
  exact Wj (Pg z (λo s₁ h₁=>VF (bv (dG (Pg h₁ (λvb g h₂=>bv h₂) λuu uu e=>e)))) λuu uu e=>e)
 ·cases h
theorem qh:∀ l:uq Lt,(Sz l.length).filterMap (l[·]?)=l
 | []=>rfl
 | x::l=>by
  rw[OS,List.range_succ_eq_map,RQ,Wl]
  exact PG (x :: ·) (qh l)
theorem rl {α β:Type}{f g:α->NX β}:∀ {l:uq α},(∀ x∈l,f x=g x)->l.filterMap f=l.filterMap g
 | [],_=>rfl
 | x::l,h=>by rw[RQ,RQ,h x (.head _),rl λy i=>h y (.tail _ i)]
theorem yf (l:uq Lt):YF l.toArray NI NI (ti (-1))=l.reverse.toArray:=by
 have j:X2 ((l.length:N3)-1) (-1) (-1)=(Sz l.length).map λ(k:N7)=>((l.length:N3)-1 + -1*(k:N3)).toNat:=by
  unfold X2
  dsimp only
  congr 2
  rw[N0 (by decide)]
  by_cases h:(l.length:N3)-1 > -1
  ·rw[NZ h,show (- -1:N3)=1 by decide,Int.ediv_one]; exact G2
  ·rw[N0 h]; exact JC h
 have i:YF l.toArray NI NI (ti (-1))=((X2 ((l.length:N3)-1) (-1) (-1)).filterMap (l.toArray[·]?)).toArray:=rfl
 rw[i,j,Wl]
 congr 1
 have g:=qh l.reverse
 rw[TI] at g
 rw[<- g]
 refine rl λk hk=>?_
 have hk:=VT.mp hk
 show l.toArray[((l.length:N3)-1 + -1*(k:N3)).toNat]? = _
 rw[List.getElem?_toArray,List.getElem?_reverse hk]
 congr 1
 exact EA
theorem Ca (Sa:SimE fns k C XP a):SimE fns k C XP (.rev a):=by
 intro ex A env σ P s Q Er h X nb hQ hE
 replace h:=GC h
 revert h; refine λj=>OE j (λl=>?_) (λh=>?_)
 ·clear j
  refine j6 (l) λv i n1 p1 p2 p pos n h=>?_
  clear l
  subst n
  simp only[Of,Oj] at h
  refine ae (h) λu oa=>?_
  clear h
  subst u
  simp only[jU] at nb hQ hE
  refine aJ nb λn1 n2=>?_
  refine Wj (Sa oa X n1 (λx hx va g Ea=>?_) λc hc=>hE c (by rw[hc]; rfl))
  have q:=n2 x hx
  obtain ⟨ka,as,t,ha,ht,z⟩:=Ea
  clear ht z
  obtain ⟨x,m⟩:=x
  dsimp only at q t
  split at q
  ·unfold yl at q
   split at q
   ·rename_i xs
    refine VF (bv (bv (dG (Wb (Wh (neg_int ?_))))))
    refine l7 (s:={g with toks:=g.toks+1+1 }) (P:=λa=>P a\/s.heap.get? a=NI) (ys:=xs.reverse) (lo:=NI) (hi:=NI) (st:=ti (-1)) ⟨λo i=>[o,i],λuu uu=>rfl⟩ t.1 t.2 ha .none .none (.int _ _) (by simp) (λvs cs r=>?_) (λy hy=>(sz_list.mp t.2).2 y (by simpa using hy)) (by simpa using (sz_list.mp t.2).1) λv s' e=>hQ _ (by rw[hx]; rfl) v s' (.shift (ka.trans (.toks g _)) e)
    refine ag (r.reverse) λds rd hd=>?_
    exact (aQ _ ds (yf vs) rd hd)
   ·exact N5 rfl q
  ·exact N5 rfl q
 ·cases h
end
section
variable (fns:Fns) (k:N7) (C:Calls) (XP:If->NU->Lt->NU->Prop)
noncomputable def iD (es:Es):Prop:=∀ {xs:uq Expr}{pos:Pos}{A:OI}{env:Env}{σ:St}{P:Oo->Prop}{s:NU}{Q:uq Lt->NU->Prop}{Er:Lt->NU->Prop},
 eF env.scope.names es xs=vj->Cx fns k A P s.heap env σ->evs C es σ≠.bad ->
 (∀ l,evs C es σ = .ok l->∀ vs s',EPs P s l vs s'->Q vs s')->(∀ c,evs C es σ = .exc c->∀ x s',XP c s x s'->Er x s') ->
 Og (Ok prog w) A (VU (Ro pos (PE xs env))) Q Er s
end
section
theorem wc:iD fns k C XP .nil:=by
 intro q m A o p P s Q Er l X r n t
 replace l:=t9 l
 revert l; refine λg=>OE g (λi=>?_) (λl=>?_)
 ·clear g
  refine ae (i) λj l=>?_
  clear i
  subst j
  exact Sr (n [] rfl [] s ⟨.refl s,[],.nil,λuu h=>(nomatch h),λuu=>⟨λuu h=>(nomatch h),.nil⟩⟩)
 ·cases l
theorem RV.there (r:RV h v x as):∀ a∈as,∃ o,h.get? a=ti o:=by
 intro a ha
 cases x with
 | d x=>obtain ⟨_,_,e⟩:=r.1.there a ha; exact ⟨_,e⟩
 | dic0=>obtain ⟨b,_,rfl,_,⟨o,_,_,e,_⟩,_⟩:=r; rw[N1.mp ha]; exact ⟨o,e⟩
 | dicI ks=>obtain ⟨b,_,rfl,_,⟨o,_,_,e,_⟩⟩:=r; rw[N1.mp ha]; exact ⟨o,e⟩
 | dicT ks=>obtain ⟨b,_,_,rfl,_,⟨o,_,_,e,_⟩,_⟩:=r; rw[N1.mp ha]; exact ⟨o,e⟩
 | rule c d n=>
  obtain ⟨x,D,o,m,bs,t,u,p,h1,i,l,h4,h5,z,y,g,_,_,_,k,_⟩:=r
  subst i
  refine cG (g) λj es ep e q=>?_
  clear g
  rcases Ou.mp ha with rfl | ha
  ·exact ⟨o,l⟩
  ·rcases Ou.mp ha with rfl | ha
   ·exact ⟨j,e⟩
   ·obtain ⟨_,_,e⟩:=k.there a ha; exact ⟨_,e⟩
 | err c=>obtain ⟨b,o,_,rfl,e,_⟩:=r; rw[N1.mp ha]; exact ⟨o,e⟩
theorem RVs.length (r:RVs h xs vs as):vs.length=xs.length:=by
 induction r with
 | nil=>rfl
 | cons a q ih=>exact PG (· + 1) ih
theorem tS (hXP:∀ c s s₁ x s',Kp s s₁->XP c s₁ x s'->XP c s x s') {e:E}{es:Es}(S:SimE fns k C XP e) (Ss:iD fns k C XP es):iD fns k C XP (.cons e es):=by
 intro xs pos A env σ P s Q Er g X nb hQ hE
 replace g:=qT g
 revert g; refine λi=>OE i (λj=>?_) (λg=>?_)
 ·clear i
  refine au (j) λx xs m g=>?_
  clear j
  subst m
  simp only[Of] at g
  simp only[bw] at nb hQ hE
  refine aJ nb λn1 n2=>?_
  refine Qn (S g.1 X n1 (λr q v s₁ Ea=>?_) λc y=>hE c (by rw[y]; rfl)) (aT g.1 xs env)
  refine aJ (n2 r q) λn3 _=>?_
  refine Ss g.2 (X.k Ea.keeps.k) n3 (λl hl vs n Eb=>?_) λc y z s' hz=>hE c (by rw[q,Out.ok_bind,y]; rfl) z s' (hXP c s s₁ z s' Ea.keeps hz)
  obtain ⟨p,as,ra,ha,_,hd⟩:=Ea
  obtain ⟨kb,bs,rb,hb,u⟩:=Eb
  refine hQ (r::l) (by rw[q,Out.ok_bind,hl]; rfl) (v::vs) n ⟨p.trans kb,as++bs,.cons (ra.k kb.k) rb,λa h=>(Op.mp h).elim (ha a) λh=>(hb a h).imp id p.none,λt=>?_⟩
  simp only[allDeep,Yt,Of,OT] at t
  have d1:=hd t.1
  have d2:=u t.2
  refine ⟨λa h=>(Op.mp h).elim (d1.1 a) λh=>p.none (d2.1 a h),R3.mpr ⟨d1.2,d2.2,λa h1 b h2 e=>?_⟩⟩
  subst e
  refine al (ra.there a h1) λo ho=>?_
  rw[d2.1 a h2] at ho; exact nN ho
 ·cases g
theorem rH:∀ {l:uq (V×Mode)}{ds:uq N9}{vs:uq Lt}{as:uq Oo},bH l=ti ds->RVs h (l.map (·.1)) vs as->RA h vs ds as/\∀ x∈ds,sz x=vj
 | [],ds,_,_,e,r=>by
  cases r; simp[bH] at e; subst e
  exact ⟨.nil,λuu h=>nomatch h⟩
 | (.d x,m)::l,ds,_,_,e,r=>by
  simp only[bH,Rx] at e
  revert e; intro g
  refine ag (g) λk e i=>?_
  clear g
  subst i
  cases r with
  | cons r q=>
   refine ae (rH e q) λa b=>?_
   exact ⟨.cons r.1 a,λy j=>(Ou.mp j).elim (λq=>q▸r.2) (b y)⟩
 | (.dic0,m)::l,ds,_,_,e,r=>by simp[bH] at e
 | (.dicI _,m)::l,ds,_,_,e,r=>by simp[bH] at e
 | (.dicT _,m)::l,ds,_,_,e,r=>by simp[bH] at e
 | (.rule _ _ _,m)::l,ds,_,_,e,r=>by simp[bH] at e
theorem gW:∀ {l:uq (V×Mode)}{ds:uq N9},bH l=ti ds->ds.length=l.length
 | [],ds,e=>by simp[bH] at e; subst e; rfl
 | (.d x,m)::l,ds,e=>by
  simp only[bH,Rx] at e
  revert e; intro g
  refine ag (g) λi e h=>?_
  clear g
  subst h
  rw[OS,OS,gW e]
 | (.dic0,m)::l,ds,e=>by simp[bH] at e
 | (.dicI _,m)::l,ds,e=>by simp[bH] at e
 | (.dicT _,m)::l,ds,e=>by simp[bH] at e
 | (.rule _ _ _,m)::l,ds,e=>by simp[bH] at e
theorem iG:∀ {es:Es}{ns:uq (Str×OY)}{xs:uq Expr}{σ:St}{l:uq (V×Mode)},eF ns es xs=vj->evs C es σ = .ok l->l.length=xs.length
 | .nil,ns,xs,σ,l,ok,e=>by
  replace ok:=t9 ok
  revert ok; refine λh=>OE h (λj=>?_) (λok=>?_)
  ·clear h
   refine ae (j) λm ok=>?_
   clear j
   subst m
   simp only[bF] at e; (have p:=Out.ok.inj e; clear e; subst p); rfl
  ·cases ok
 | .cons a es,ns,xs,σ,l,ok,e=>by
  replace ok:=qT ok
  revert ok; refine λg=>OE g (λi=>?_) (λok=>?_)
  ·clear g
   refine au (i) λo n k ok=>?_
   clear i
   subst k
   simp only[Of] at ok
   simp only[bw] at e
   refine Out.bind_k e λx _ e=>?_
   refine Out.bind_k e λr q e=>?_
   (have p:=Out.ok.inj e; clear e; subst p)
   rw[OS,OS,iG ok.2 q]
  ·cases ok
set_option tactic.hygienic true in
theorem y5 {es:Es}(Ss:iD fns k C XP es):SimE fns k C XP (.list es):=by
 intro ex A env σ P s Q Er g X nb hQ hE
 replace g:=Dk g
 revert g; refine λj=>OE j (λm=>?_) (λg=>?_)
 ·clear j
  refine au (m) λu t o g=>?_
  clear m
  subst o
  simp only[Of,OT] at g
  simp only[b8] at nb hQ hE
  refine aJ nb λn1 n2=>?_
  refine wpAny_List (Ss g.2 X n1 (λl x vs i Ea=>?_) λc hc=>hE c (by rw[hc]; rfl))
  have n3:=n2 l x
  split at n3
  ·rename_i ds p
   obtain ⟨q,as,y,ha,hd⟩:=Ea
   refine ae (rH p y) λr z=>?_
   have e1:=y.length
   rw[Oc] at e1
   have e2:=iG g.2 x
   have e3:=gW p
   refine ⟨by unfold Qw; exact zP g e1 e2,hQ (.d (.list ds),if allDeep l then .deep else .top) (by rw[x,Out.ok_bind,p]) _ _ ⟨q.trans (.push i _ _),i.heap.objs.size::as,⟨.list (Ov _ rfl) (r.keep λuu uu e=>Oi _ e),sz_list.mpr ⟨by exact Ap g e2 e3,z⟩⟩,?_,?_,?_⟩⟩
   ·intro a h
    rcases Ou.mp h with rfl | h
    ·exact .inr (q.none (bh _))
    ·exact ha a h
   ·intro _
    exact (aQ _ _ rfl (q.none (bh _)) (λh=>bz (r.there _ h) λuu uu e=>eU e rfl))
   ·intro v
    have n:allDeep l=true:=by
     dsimp only at v
     split at v
     ·assumption
     ·cases v
    refine ⟨λa h=>?_,QC.mpr ⟨λh=>bz (r.there _ h) λuu uu e=>eU e rfl,(hd n).2⟩⟩
    rcases Ou.mp h with rfl | h
    ·exact q.none (bh _)
    ·exact (hd n).1 a h
  ·exact N5 rfl n3
 ·cases g
set_option tactic.hygienic true in
theorem BF (Ss:iD fns k C XP es):SimE fns k C XP (.tup es):=by
 intro ex A env σ P s Q Er g X y hQ hE
 replace g:=GP g
 revert g; refine λh=>OE h (λi=>?_) (λg=>?_)
 ·clear h
  refine cG (i) λu t q j g=>?_
  clear i
  subst j
  simp only[Of,OT] at g
  simp only[jP] at y hQ hE
  refine aJ y λn1 n2=>?_
  refine wpAny_Tuple (Ss g.2 X n1 (λl v vs o Ea=>?_) λc hc=>hE c (by rw[hc]; rfl))
  have n3:=n2 l v
  split at n3
  ·rename_i ds n
   obtain ⟨ka,as,x,ha,hd⟩:=Ea
   refine ae (rH n x) λr z=>?_
   have e1:=x.length
   rw[Oc] at e1
   have e2:=iG g.2 v
   have e3:=gW n
   refine ⟨by unfold Qw; exact zP g e1 e2,hQ (.d (.tuple ds),if allDeep l then .deep else .sh) (by rw[v,Out.ok_bind,n]) _ _ ⟨ka.trans (.push o _ _),as,⟨.tuple (Ov _ rfl) (r.keep λuu uu e=>Oi _ e),sz_tuple.mpr ⟨by exact Ap g e2 e3,z⟩⟩,ha,?_,?_⟩⟩
   ·intro m
    dsimp only at m
    split at m<;>cases m
   ·intro m
    have p:allDeep l=true:=by
     dsimp only at m
     split at m
     ·assumption
     ·cases m
    exact hd p
  ·exact N5 rfl n3
 ·cases g
theorem yw:SimE fns k C XP .edic:=by
 intro ex A p q P s Q Er l X r o t
 replace l:=Dc l
 revert l; refine λg=>OE g (λi=>?_) (λl=>?_)
 ·clear g
  refine ag (i) λm j l=>?_
  clear i
  subst j
  have n:=modules_low X.ge.nolim
  refine wpAny_Dict_empty (o (.dic0,.deep) rfl _ _ ⟨.push s _ _,[s.heap.objs.size],(o7 _ rfl rfl (Pd.mpr (Ux n)) (Jah _) ?_),λa h=>.inr ?_,λh=>(by cases h),λuu=>⟨λa h=>?_,by simp⟩⟩)
  ·exact (zx _ (#[]) 0 (Ov _ rfl) ⟨rfl,rfl,rfl⟩ rfl rfl (λuu h=>(nomatch h)) .nil)
  ·rw[N1.mp h]; exact bh _
  ·rw[N1.mp h]; exact bh _
 ·cases l
end
theorem gg {α:Type}{r:α->α->Prop}(anti:∀ a b,r a b->r b a->a=b):∀ {l l':uq α},l.Perm l'->l.Pairwise r->l'.Pairwise r->l=l'
 | [],l',p,_,_=>by rw[p.nil_eq]
 | a::l,[],p,_,_=>by cases p.eq_nil
 | a::l,b::l',p,h,h'=>by
  refine ae (Sl.mp h) λk j=>?_
  refine ae (Sl.mp h') λg i=>?_
  have e:a=b:=by
   rcases Ou.mp (p.mem_iff.mp (Q4 (a:=a) (l:=l))) with e | e
   ·exact e
   ·rcases Ou.mp (p.mem_iff.mpr (Q4 (a:=b) (l:=l'))) with e' | e'
    ·exact e'.symm
    ·exact anti a b (k b e') (g a e)
  (clear h' g; subst e)
  rw[gg anti ((VG a).mp p) j i]
theorem hH (ns:uq N3):(ns.mergeSort (λa b=>decide (a<=b))).Pairwise (·<=·):=by
 have:=SK (le:=λa b:N3=>decide (a<=b)) (λa b c h1 h2=>by simp at *; exact AO h1 h2) (λa b=>by simp; exact z7) ns
 exact this.imp (by intro a b h; simpa using h)
theorem om:∀ {xs:uq N3}{m:N3},jh xs=ti m->m∈xs/\∀ x∈xs,x<=m
 | [],_,h=>by simp[jh] at h
 | x::xs,m,h=>by
  simp only[jh,WL] at h
  have key:∀ (l:uq N3) (a:N3),(l.foldl (λa b=>if a<b then b else a) a=a\/l.foldl (λa b=>if a<b then b else a) a∈l)/\a<=l.foldl (λa b=>if a<b then b else a) a/\∀ y∈l,y<=l.foldl (λa b=>if a<b then b else a) a:=by
   intro l
   induction l with
   | nil=>intro a; simp
   | cons b l ih=>
    intro a
    rw[Vf]
    refine aK (ih (if a<b then b else a)) λh1 h2 h3=>?_
    refine ⟨?_,?_,λy hy=>?_⟩
    ·rcases h1 with h1 | h1
     ·rw[h1]; split<;>simp
     ·exact .inr (.tail _ h1)
    ·split at h2<;>rename_i hc<;>simp only[hc,Qz,PA]<;>lia
    ·rcases Ou.mp hy with rfl | hy
     ·split at h2<;>rename_i hc<;>simp only[hc,Qz,PA]<;>lia
     ·exact h3 y hy
  refine aK (key xs x) λh1 h2 h3=>?_
  rw[h] at h1 h2 h3
  exact ⟨h1.elim (λe=>e▸.head _) (.tail _),λy hy=>(Ou.mp hy).elim (λe=>e▸h2) (h3 y)⟩
section
theorem dX {env:Env}{x:If}(h:cj env.scope.names x=vj):env.kindOf (oD x)=ti .globalImplicit:=by
 unfold cj at h
 exact Oj.mp h
theorem nd (h:aV x=vj):(oD x==("__debug__" : Str))=false:=by
 unfold aV at h
 simp only[Of,P8] at h
 exact h.1
section
theorem f6 {id:If}{args:uq Expr}(eok:EnvOk env) (ge:GE fns s.heap) (hm:id∈bnames) (hg:cj env.scope.names id=vj) (hd:(oD id==("__debug__" : Str))=NY)
  (h:Og (Ok prog w) A (WM pos (bval id) [] (Ro pos (PE args env)) []) Q Er s):Og (Ok prog w) A (eval (.Call (.Name (oD id) p) args [] pos) env) Q Er s:=by
 refine ar (ge.glob) λl i _ g=>?_
 refine ag (ge.blt) λm k j=>?_
 exact W5 (Calls.Name_function_global eok.kind (dX hg) (Calls.loadGlobal_builtin (eok.glob▸i) (g id hm) (eok.blt▸k) (j id hm) h) hd)
theorem k8 {id:If}{x:Expr}{xs:uq Expr}{e:E}(ns:uq (Str×OY)) (hx:okE ns e x=vj) (ha:(Ro pos (PE xs env)).any (·.1)=NY)
  (h:Og (Ok prog w) A (VU (Ro pos (PE (x::xs) env))) (λvs s₁=>Og (Ok prog w) A (Sy (.builtin id) vs) Q Er s₁) Er s):Og (Ok prog w) A (WM pos (.builtin id) [] (Ro pos (PE (x::xs) env)) []) Q Er s:=by
 rw[aT hx] at h ⊢
 exact Calls.callWith_builtin ha (Calls.evalArgs_plain (Pg h (λvs s₁ g=>g) λuu uu e=>e))
theorem d0 (ns:uq (Str×OY)) (hx:okE ns e x=vj) (ha:(Ro pos (PE xs env)).any (·.1)=NY)
  (h:Og (Ok prog w) A (VU (Ro pos (PE (x::xs) env))) (λvs s₁=>Og (Ok prog w) A (Sy (.type T) vs) Q Er s₁) Er s):Og (Ok prog w) A (WM pos (.type T) [] (Ro pos (PE (x::xs) env)) []) Q Er s:=by
 rw[aT hx] at h ⊢
 exact PySem.callWith_type ha (Calls.evalArgs_plain (Pg h (λvs s₁ g=>g) λuu uu e=>e))
theorem lH (ns:uq (Str×OY)) (hx:okE ns e x=vj) (h:Og (Ok prog w) A (eval x env) (λv s₁=>G [v] s₁) Er s):Og (Ok prog w) A (VU (Ro pos (PE [x] env))) G Er s :=
 Qn (Pg h (λuu uu g=>Sr g) λuu uu e=>e) (aT hx [] env)
end
section
theorem yb (he:b1D .len x = .ok r) (ra:RV s.heap va x as) (hQ:∀ v s',EP P s r v s'->Q v s'):Og (Ok prog w) A (Sy (.builtin "len") [va]) Q Er s:=by
 replace he:=aN he
 revert he; intro i
 refine ag (i) λy z he=>?_
 clear i
 cases ba z
 cases ht:asT y with
 | none=>
  simp only[ht] at he
  replace he:=aN he
  revert he; intro h
  refine ag (h) λt hx he=>?_
  clear h
  cases cH hx
  (have o:=Out.ok.inj he; clear he; subst o)
  refine ra.1.isList_k λa u n cs m q g l=>?_
  subst m
  subst l
  have j:=g.length
  have p:=(sz_list.mp ra.2).1
  refine Calls.call_len_list (isL q) (by rw[OJ]; exact Jn j p) (hQ _ _ ?_)
  rw[OJ,j]
  exact .int (.toks s _)
 | some t=>
  simp only[ht] at he
  (have o:=Out.ok.inj he; clear he; subst o)
  cases mI ht
  refine aX (ra.1.isTup) λa u n k q g=>?_
  subst k
  have j:=g.length
  have p:=(sz_tuple.mp ra.2).1
  refine PySem.P.len_tuple q (by rw[OJ]; exact Jq j p) (hQ _ _ ?_)
  rw[OJ,j]
  exact .int (.toks s _)
theorem oA {cs:uq Oo}(hT:T = "list" \/ T = "tuple") (ea:s.heap.get? a=ti ⟨.type T,NI,.seq vs.toArray n,#[]⟩) (ra:RA s.heap vs xs cs) (hl:xs.length<=2^22)
  (hz:∀ x∈xs,sz x=vj) (ha:∀ b∈cs,P b) (hQ:∀ v s',EP P s (.d (.list xs),fresh xs) v s'->Q v s'):Og (Ok prog w) A (Sy (.type "list") [.ref a]) Q Er s:=by
 have e:=ra.length
 refine call_list_seq a hT ea rfl rfl (λj l h k=>hQ _ _ ?_) (by rw[OJ]; unfold Qw; exact AE hl e)
 have g:Kp s {s with heap:=j }:=(aC j s.toks rfl (.of h))
 refine EP.aList g (bh _) k (ra.keep h) hl hz λb i=>⟨ha b i,?_⟩
 refine bz (ra.there b i) λuu uu e=>?_
 exact eU e
theorem xS (ra:R s.heap va (.list xs) as) (za:sz (.list xs)=vj) (ha:∀ b∈as,P b) (hQ:∀ v s',EP P s (.d (.tuple xs),if xs.all sx then .deep else .sh) v s'->Q v s'):Og (Ok prog w) A (Sy (.type "tuple") [va]) Q Er s:=by
 refine ra.isList_k λa t n cs l y g k=>?_
 (clear ra; subst l)
 subst k
 have e:=g.length
 have r:=sz_list.mp za
 refine call_tuple_list (isL y) (λx p=>hQ _ _ ?_) (by rw[OJ]; unfold Qw; exact GD e r)
 have m:Kp s {s with heap:=x.push {cls:=.type "tuple", data:=.seq t.toArray } }:=(aC _ s.toks rfl (.of λb o q=>Oi _ (p b o q)))
 refine ⟨m,cs,⟨.tuple (Ov _ rfl) ((g.keep p).keep λuu uu e=>Oi _ e),sz_tuple.mpr r⟩,λb u=>.inl (ha b (.tail _ u)),λi=>?_,λi=>?_⟩
 ·dsimp only at i; split at i<;>cases i
 ·have j:xs.all sx=true:=by
   dsimp only at i
   split at i
   ·assumption
   ·cases i
  rw[g.sx_nil j]
  exact ⟨λuu h=>(nomatch h),.nil⟩
theorem tf (ra:R s.heap va (.list xs) as) (hi:aR xs=ti ns) (h64:xs.length<64) (hQ:∀ v s',EP P s (.d (aa (ns.mergeSort (λa b=>decide (a<=b)))),.deep) v s'->Q v s') :
  Og (Ok prog w) A (Sy (.builtin "sorted") [va]) Q Er s:=by
 refine ra.isList_k λa vs n cs m ea i l=>?_
 (clear ra; subst m)
 subst l
 have e:=i.length
 refine aK (i.ints hi) λy k j=>?_
 subst k
 subst j
 rw[Oc] at e h64
 refine sorted_ints (isL ea) y (A4 h64 e) λg o z r p=>hQ _ _ ?_
 have e':o=ns.mergeSort (λa b=>decide (a<=b)):=gg (λa b h h'=>TB h h') (r.trans (P9 ns _).symm) p (hH ns)
 (clear r p; subst e')
 refine al (sortedAll_at s.heap vs g) λe x=>?_
 have u:=List.length_mergeSort (le:=λa b:N3=>decide (a<=b)) ns
 have t:EP P s (.d (.list ((ns.mergeSort (λa b=>decide (a<=b))).map .int)),fresh ((ns.mergeSort (λa b=>decide (a<=b))).map .int)) (.ref (s.heap.objs.size+1)) {s with heap:=sortedAll s.heap vs g } :=
  EP.aList (vs:=g.toList) (n:=e) (as:=[]) (aC _ s.toks rfl (.of λuu uu q=>sortedAll_old q)) (PY (TN _)) (by simpa [O7] using x) (RA.of_ints z) (by rw[Oc,u]; exact Ah h64) (i6 _) λuu h=>(nomatch h)
 have ef:fresh ((ns.mergeSort (λa b=>decide (a<=b))).map .int) = .deep:=by
  unfold fresh
  rw[NZ]
  rw[VV,Pm]
  intro _ _; rfl
 rw[ef] at t
 exact t
end
end
section
inductive ItP (A:OI) (P:Oo->Prop) (s:NU) (ds:uq N9) (m:Mode) (it:Lt) (s':NU):Prop
 | mk:Kp s s'->∀ (I:Oo) (fp wr:uq Oo) (Pw:N7->Lt->Prop) (St:N7->O2->Prop) (F:uq Oo),it = .ref I->Walks prog w A I fp wr ds.length Pw St->St 0 s'.heap ->
  (∀ b∈wr,s.heap.get? b=NI/\b∉F/\∀ i h,St i h->∃ o,h.get? b=ti o/\hardB o=vj/\∃ fs,o.data = .fields fs)->(∀ b∈fp,b∈wr\/b∈F)->(∀ i v,Pw i v->∀ d,ds[i]? = ti d->∃ bs,R s'.heap v d bs/\∀ b∈bs,b∈F) ->
  (∀ b∈F,∃ vs n,s'.heap.get? b=ti ⟨.type "list", NI,.seq vs n,#[]⟩)->(∀ a∈F,P a\/s.heap.get? a=NI)->(m = .deep->∀ a∈F,s.heap.get? a=NI)->ds.length<=2^22/\(∀ d∈ds,sz d=vj)->ItP A P s ds m it s'
variable (fns:Fns) (k:N7) (C:Calls) (XP:If->NU->Lt->NU->Prop)
noncomputable def fe (it:It):Prop:=∀ {ex:Expr}{A:OI}{env:Env}{σ:St}{P:Oo->Prop}{s:NU}{Q:Lt->NU->Prop}{Er:Lt->NU->Prop},
 fE env.scope.names it ex=vj->Cx fns k A P s.heap env σ->be C it σ≠.bad ->
 (∀ q,be C it σ = .ok q->∀ i s',ItP A P s q.1 q.2 i s'->Q i s')->(∀ c,be C it σ = .exc c->∀ x s',XP c s x s'->Er x s') ->
 Og (Ok prog w) A (eval ex env) (λx g=>Og (Ok prog w) A (W6 x) Q Er g) Er s
end
section
theorem vY (k₀:Kp s₀ s) (hh:A.handled=NI) (ra:R s.heap va (.list xs) as) (za:sz (.list xs)=vj)
  (ha:∀ a∈as,P a\/s₀.heap.get? a=NI) (hm:m = .deep->∀ a∈as,s₀.heap.get? a=NI) (hQ:∀ it s',ItP A P s₀ xs m it s'->Q it s'):Og (Ok prog w) A (W6 va) Q Er s:=by
 refine ra.isList_k λa j n cs p t g l=>?_
 subst p
 subst l
 refine WN (isL t) (hQ _ _ ⟨k₀.trans (.push s _ _),s.heap.objs.size,[s.heap.objs.size,a],[s.heap.objs.size],(λi v=>j.toArray[i]? = ti v),(λi h=>h.IsListIter s.heap.objs.size a i/\h.IsList a j.toArray),a::cs,rfl,?_,⟨(aG _ (Ov _ rfl) rfl rfl),(isL t).push _⟩,?_,?_,?_,?_,ha,hm,sz_list.mp za⟩)
 ·have:=ZR (prog:=prog) (w:=w) (A:=A) hh s.heap.objs.size a (eU t) j.toArray
  have e:j.toArray.size=xs.length:=by rw[OJ,g.length]
  rw[e] at this
  exact this
 ·intro b hb
  rw[N1.mp hb]
  refine ⟨k₀.none (bh _),λh=>?_,λi h q=>?_⟩
  ·refine bz (ra.there _ h) λuu uu e=>?_
   exact eU e rfl
  ·refine ar (q.1) λo e1 ec e2=>?_
   exact (aG o e1 (by unfold hardB; rw[ec]; decide) (cE _ e2))
 ·intro b hb
  rcases Ou.mp hb with rfl | hb
  ·exact .inl (.head _)
  ·rw[N1.mp hb]; exact .inr (.head _)
 ·intro i v y d z
  refine aA (g.get' (by simpa using y)) λd' bs r h2 h3=>?_
  rw[z] at r; (have u:=Gt r; clear r; subst u)
  exact (ah bs (h2.keep λuu uu e=>Oi _ e) (λb hb=>.tail _ (h3 b hb)))
 ·intro b hb
  refine bz (ra.there b hb) λk x e=>?_
  exact (cf k x (Oi _ e))
theorem tD {a b:N3}{i:N7}{d:N9}(h:(dz a b)[i]? = ti d):d = .int (a+i):=by
 unfold dz at h
 rw[Pp] at h
 refine b9 h λj m g=>?_
 subst g
 have:j=i:=by
  have l:=(O4.mp m)
  refine al (l) λn k=>?_
  clear l
  rw[List.getElem_range] at k
  exact k.symm
 rw[this]
theorem jb (a b:N3):(dz a b).length=(b-a).toNat:=by simp[dz]
theorem vE (a b:N3):∀ d∈dz a b,sz d=true:=by
 intro d h
 unfold dz at h
 refine aB h λj _ g=>?_
 (clear h; subst g)
 rfl
theorem mn (o:Kp s₀ s) (hh:A.handled=NI) (hr:IsRange s.heap r a b 1 t u v)
  (hn:(b-a).toNat<=lim) (ha:-(2^60)<=a/\a<2^60/\-(2^60)<=b/\b<2^60) (hQ:∀ it s',ItP A P s₀ (dz a b) .deep it s'->Q it s'):Og (Ok prog w) A (W6 (.ref r)) Q Er s:=by
 have g:UB a b 1=((b-a).toNat:N3):=by rw[rangeSize_one]; split<;>lia
 refine wpAny_pyIter_range hr (small_one (EI ha) (Id ha) (Eo ha) (HD ha)) (hQ _ _ ⟨o.trans (.push s _ _),s.heap.objs.size,[s.heap.objs.size],[s.heap.objs.size],(λi v=>∃ t,v = .int (a+i*1) t),(λi h=>Zo h s.heap.objs.size (a+(i:N7)*1) (((b-a).toNat:N3)-(i:N7)) 1),[],rfl,?_,?_,?_,λb k=>.inl k,?_,λuu h=>(nomatch h),λuu h=>(nomatch h),λuu uu h=>(nomatch h),⟨by rw[jb]; unfold lim at hn; exact Hq hn,vE a b⟩⟩)
 ·have:=Walks.range (prog:=prog) (w:=w) (A:=A) hh s.heap.objs.size a 1 (b-a).toNat
  rw[jb]
  exact this
 ·have n:(a+((0:N7):N3)*1)=a:=by simp
  have m:(((b-a).toNat:N3)-((0:N7):N3))=UB a b 1:=by rw[g]; simp
  show Zo _ _ (a+((0:N7):N3)*1) (((b-a).toNat:N3)-((0:N7):N3)) 1
  rw[n,m]
  exact Ov _ rfl
 ·intro b k
  rw[N1.mp k]
  exact ⟨o.none (bh _),λh=>(nomatch h),λi h j=>(aG _ j rfl (cE _ rfl))⟩
 ·rintro i v ⟨t,rfl⟩ d l
  rw[tD l]
  exact (ah ([]) (by simpa using R.int (a+i) t) (λuu h=>(nomatch h)))
set_option tactic.hygienic true in
theorem Bp (hf:fns.hand=NY) (Sa:SimE fns k C XP a):fe fns k C XP (.e a):=by
 intro ex A j σ P s Q Er i X n q t
 replace i:okE j.scope.names a ex=true:=i
 simp only[ic,gh,f8] at n q t
 refine aJ n λn1 z=>?_
 refine Sa i X n1 (λr o v l Ea=>?_) λc hc=>t c (by rw[hc]; rfl)
 have g:=z r o
 obtain ⟨x,m⟩:=r
 obtain ⟨ka,as,h,ha,ht,p⟩:=Ea
 unfold itV at g
 dsimp only at g h p
 split at g
 ·rename_i u hx
  cases jI hx
  exact vY (m:=m) ka (X.room.1 hf) h.1 h.2 ha (λhm=>(p hm).1) λit y I=>q (u,m) (by rw[o]; rfl) it y I
 ·exact N5 rfl g
theorem x5 (y:Kp s₀ s) (hh:A.handled=NI) (hl:x.length<=lim) (hQ:∀ it s',ItP A P s₀ (x.cps.toList.map λc=>.str ⟨#[c]⟩) .deep it s'->Q it s'):Og (Ok prog w) A (W6 (.str x t)) Q Er s:=by
 have fin:∀ j:If,hardB ⟨.type j,NI,.fields #[],#[]⟩=vj->Walks prog w A s.heap.objs.size [s.heap.objs.size] [s.heap.objs.size] x.cps.size (SignAt x) (λi h=>h.IsStrIter s.heap.objs.size j x t i)->Q (.ref s.heap.objs.size) {s with heap:=s.heap.push {cls:=.type j,data:=.fields #[.str x t,.int 0 0] } }:=λj m W=>by
  refine hQ _ _ ⟨y.trans (.push s _ _),s.heap.objs.size,[s.heap.objs.size],[s.heap.objs.size],SignAt x,(λi h=>h.IsStrIter s.heap.objs.size j x t i),[],rfl,?_,⟨_,Ov _ rfl,rfl,rfl⟩,?_,λb g=>.inl g,?_,λb g=>(nomatch g),λb g=>(nomatch g),λ_ b g=>(nomatch g),?_,?_⟩
  ·rw[Oc,Om]; exact W
  ·intro b g
   rw[N1.mp g]
   refine ⟨y.none (bh _),λh=>(nomatch h),λi h l=>?_⟩
   exact ar l λo p r n=>(aG o p (by unfold hardB; rw[r]; exact m) (cE _ n))
  ·intro i v q d k
   refine au q λc u p n=>?_
   rw[Pp,RJ,p] at k
   rw[n,<- Gt k]
   exact ⟨[],.str _ u,λb g=>nomatch g⟩
  ·rw[Oc,Om]; exact vc hl (by decide)
  ·intro d k
   refine aB k λc _ e=>?_
   rw[<- e]; exact OA (show 1<=2^22 by decide)
 cases ha:x.cps.all (· < 128) with
 | false=>exact wpAny_pyIter_wide ha (fin _ (by decide) (Walks.strWide hh _ x t))
 | true=>exact wpAny_pyIter_ascii ha (fin _ (by decide) (Walks.strAscii hh _ x t))
theorem Bj (hf:fns.hand=NY) (Sa:SimE fns k C XP a):fe fns k C XP (.s a):=by
 intro ex A j σ P s Q Er i X n h p
 replace i:okE j.scope.names a ex=true:=i
 simp only[nC] at n h p
 refine aJ n λx g=>?_
 refine Sa i X x (λr o v l Ea=>?_) λc hc=>p c (by rw[hc]; rfl)
 replace g:=g r o
 rw[o] at h
 simp only[Out.ok_bind] at h
 obtain ⟨y,as,m,_,_,_⟩:=Ea
 cases hd:asD r.1 with
 | none=>rw[hd] at g; exact N5 rfl g
 | some d=>
 cases ht:asS d with
 | none=>rw[hd] at g; simp only[am,ht] at g; exact N5 rfl g
 | some t=>
 rw[hd] at g h
 simp only[am,ht] at g h
 rw[ba hd,cM ht] at m
 by_cases hl:t.length<=lim
 ·rw[NZ hl] at h
  refine ag m.1.isStr λu e _=>?_
  rw[e]
  exact x5 y (X.room.1 hf) hl λz q I=>h _ rfl z q I
 ·rw[N0 hl] at g; exact N5 rfl g
theorem oQ (h:cA a b = .ok q):q=(dz a b,.deep)/\(b-a).toNat<=lim/\-(2^60)<=a/\a<2^60/\-(2^60)<=b/\b<2^60:=by
 unfold cA at h
 split at h
 ·rename_i i; (have g:=Out.ok.inj h; clear h; subst g); exact ⟨rfl,i⟩
 ·exact nB h
theorem lD:cA a b≠.exc c:=by unfold cA; split<;>simp
set_option tactic.hygienic true in
theorem xh (hf:fns.hand=NY) (Sn:SimE fns k C XP n):fe fns k C XP (.r1 n):=by
 intro ex A env σ P s Q Er ok X nb hQ hE
 replace ok:=Kv ok
 revert ok; refine λg=>OE g (λh=>?_) (λok=>?_)
 ·clear g
  refine cQ (h) λz y u t j ok=>?_
  clear h
  subst j
  simp only[Of,Oj] at ok
  refine ae (ok) λo on=>?_
  clear ok
  refine ae (o) λMv hg=>?_
  clear o
  subst Mv
  simp only[ic,gh,f8] at nb hQ hE
  refine aJ nb λn1 n2=>?_
  refine f6 X.eok X.ge (by decide) hg (by decide) (d0 (T:="range") _ on rfl (lH _ on (Sn on X n1 (λr hr v l Ea=>?_) λc hc=>hE c (by rw[hc]; rfl))))
  have p:=n2 r hr
  obtain ⟨x,m⟩:=r
  obtain ⟨ka,as,ra,hx1,hx2,hx3⟩:=Ea
  clear hx1 hx2 hx3
  dsimp only at p ra
  split at p
  ·rename_i i
   cases hq:cA 0 i with
   | bad=>exact N5 hq p
   | exc c=>exact N5 hq lD
   | ok q=>
    refine aK (oQ hq) λMy h1 h2=>?_
    subst My
    refine ra.1.isInt_k λuu MB Mx=>?_
    (clear ra; subst MB)
    subst Mx
    exact call_range_1 (mn (ka.trans (.push l _ _)) (X.room.1 hf) (Zp ..) h1 h2 λit s' I=>hQ _ (by rw[hr]; exact hq) it s' I)
  ·exact N5 rfl p
 ·cases ok
set_option tactic.hygienic true in
theorem yY (hf:fns.hand=NY) (hXP:∀ c s s₁ x s',Kp s s₁->XP c s₁ x s'->XP c s x s') {a b:E}(Sa:SimE fns k C XP a) (Sb:SimE fns k C XP b):fe fns k C XP (.r2 a b):=by
 intro ex A env σ P s Q Er ok X nb hQ hE
 replace ok:=Lb ok
 revert ok; refine λl=>OE l (λm=>?_) (λok=>?_)
 ·clear l
  refine lP (m) λNK NT ND NR NW p ok=>?_
  clear m
  subst p
  simp only[Of,Oj] at ok
  refine ae (ok) λo ob=>?_
  clear ok
  refine ae (o) λn oa=>?_
  clear o
  refine ae (n) λu hg=>?_
  clear n
  subst u
  simp only[ic,gh,f8] at nb hQ hE
  refine aJ nb λn1 n2=>?_
  refine f6 X.eok X.ge (by decide) hg (by decide) (d0 (T:="range") _ oa (by rw[aT ob]; rfl) (Qn ?_ (aT oa _ env)))
  refine Sa oa X n1 (λx hx va s₁ Ea=>?_) λc hc=>hE c (by rw[hc]; rfl)
  refine aJ (n2 x hx) λn3 n4=>?_
  refine lH _ ob (Sb ob (X.k Ea.keeps.k) n3 (λy hy vb r Eb=>?_) λc hc z s' hz=>hE c (by rw[hx,Out.ok_bind,hc]; rfl) z s' (hXP c s s₁ z s' Ea.keeps hz))
  have n5:=n4 y hy
  obtain ⟨x,mx⟩:=x
  obtain ⟨y,my⟩:=y
  obtain ⟨ka,as,ra,hx1,hx2,hx3⟩:=Ea
  obtain ⟨kb,bs,v,hx4,hx5,hx6⟩:=Eb
  clear hx1 hx2 hx3 hx4 hx5 hx6
  dsimp only at n5 ra v
  split at n5
  ·rename_i i j
   cases hq:cA i j with
   | bad=>exact N5 hq n5
   | exc c=>exact N5 hq lD
   | ok q=>
    refine aK (oQ hq) λt h1 h2=>?_
    subst t
    revert ra; intro h
    refine ae (h) λra _=>?_
    clear h
    revert v; intro g
    refine ae (g) λv _=>?_
    clear g
    cases ra; cases v
    exact call_range_2 (mn ((ka.trans kb).trans (.push r _ _)) (X.room.1 hf) (Zp ..) h1 h2 λit s' I=>hQ _ (by rw[hx,Out.ok_bind,hy]; exact hq) it s' I)
  ·exact N5 rfl n5
 ·cases ok
end
theorem dt (h:oD x=oD y):x=y:=by
 rw[U1,U1] at h
 have k:(x.toList.map Wm).toArray=(y.toList.map Wm).toArray:=by injection h
 have g:x.toList.map Wm=y.toList.map Char.toNat:=by simpa using k
 have j:x.toList=y.toList:=by
  have i:∀ a b:Char,a.toNat=b.toNat->a=b:=λa b e=>Char.ext (UInt32.toNat_inj.mp e)
  generalize x.toList=l at g
  generalize y.toList=m at g
  induction l generalizing m with
  | nil=>cases m with
   | nil=>rfl
   | cons b m=>simp at g
  | cons a l ih=>cases m with
   | nil=>simp at g
   | cons b m=>
    simp only[Pe,Jai] at g
    rw[i a b g.1,ih m g.2]
 exact String.toList_inj.mp j
section
theorem t5 (hf:∀ p∈scope.names,p.2 = .free->∃ c,env.cells.lookup p.1=ti c) :
  ∃ cl,X3 scope env=Pu cl/\∀ n,(n,PR)∈scope.names->cl.lookup n=env.cells.lookup n:=by
 suffices H:∀ (names:uq (Str×OY)) (g:uq (Str×Oo)),(∀ p∈names,p.2 = .free->∃ c,env.cells.lookup p.1=ti c)->(∀ n c,g.lookup n=ti c->env.cells.lookup n=ti c) ->
   ∃ cl,(Ud names g (λ(x:Str×OY) (cs:uq (Str×Oo))=>(if (x.2==PR)=vj then (do let c <- cellOf env x.1; Pu (QD ((x.1,c)::cs))) else Pu (QD cs):Sem (OB (uq (Str×Oo))))))=Pu cl /\
    (∀ n c,cl.lookup n=ti c->env.cells.lookup n=ti c)/\(∀ n,(n,PR)∈names\/(g.lookup n).isSome->(cl.lookup n).isSome) by
  refine ar (H scope.names [] hf (λn c h=>by simp at h)) λcl l k j=>?_
  refine (ah cl ?_ (λn v=>?_))
  ·unfold X3
   have e:(Ud scope.names ([]:uq (Str×Oo)) λ(x:Str×OY) (r:uq (Str×Oo))=>match x with
     | (name,kind)=>if (kind==PR)=vj then (do let c <- cellOf env name; Pu (QD ((name,c)::r))) else (Pu (QD r):Sem (OB (uq (Str×Oo)))))=Pu cl:=l
   exact PG (λt:Sem (uq (Str×Oo))=>t>>=λq=>Pu q) e
  ·refine bM (j n (.inl v)) λc i=>?_
   rw[i,k n c i]
 intro names
 induction names with
 | nil=>intro g _ o; exact (aG g rfl o (λn v=>v.elim (λh=>nomatch h) id))
 | cons p r ih=>
  intro g hf o
  obtain ⟨n,y⟩:=p
  by_cases hk:y = .free
  ·subst hk
   refine al (hf (n,.free) (.head _) rfl) λc i=>?_
   obtain ⟨cl,l,k,j⟩:=ih ((n,c)::g) (λp u=>hf p (.tail _ u)) (λm d h=>by
    rw[Pb] at h
    split at h
    ·rename_i e; (have z:=Gt h; clear h; subst z); rw[Oj.mp e]; exact i
    ·exact o m d h)
   refine (aG cl ?_ k (λm hm=>j m ?_))
   ·rw[Wo,<- l]
    simp only[Pi,Qz,cellOf,i]
    rfl
   ·rcases hm with hm | hm
    ·rcases Ou.mp hm with e | hm
     ·cases e; right; simp
     ·exact .inl hm
    ·right
     rw[Pb]
     split
     ·rfl
     ·exact hm
  ·refine ar (ih g (λp u=>hf p (.tail _ u)) o) λcl l k j=>?_
   refine (aG cl ?_ k (λm hm=>j m (hm.imp (λhm=>?_) id)))
   ·rw[Wo,<- l]
    have:(y==PR)=false:=by simpa using hk
    simp only[this,OL,PA]
    rfl
   ·rcases Ou.mp hm with e | hm
    ·cases e; exact N5 rfl hk
    ·exact hm
theorem jF:∀ (names:uq (Str×OY)) (h:O2) (acc:uq (Str×Oo)),(∀ p∈names,p.2 = .cell->p.1=X)->(names.map (·.1)).Nodup ->
  (∀ m,m≠X->(QS h.objs.size names acc).lookup m=acc.lookup m) /\
  (names.lookup X=ti .cell->∃ c,(QS h.objs.size names acc).lookup X=ti c/\(YG h names).IsCell c NI/\h.objs.size<=c)/\(names.lookup X≠ti .cell->QS h.objs.size names acc=acc)
 | [],h,acc,_,_=>⟨λuu uu=>rfl,λe=>(by cases e),λuu=>rfl⟩
 | (n,kd)::r,h,acc,hc,hn=>by
  rw[Pe,QC] at hn
  unfold QS YG
  by_cases hk:kd = .cell
  ·subst hk
   have e:n=X:=hc (n,.cell) (.head _) rfl
   subst e
   have hr:∀ p∈r,p.2≠.cell:=λp hp e=>hn.1 (Tm.mpr (ah p hp (hc p (.tail _ hp) e)))
   have hl:r.lookup n≠ti .cell:=λe=>hr _ (mem_of_lookup e) rfl
   simp only[Pi,Qz]
   have ih:=jF (X:=n) r (h.push {cls:=.type "cell", data:=.cell NI }) ((n,h.objs.size)::acc) (λp hp e=>N5 e (hr p hp)) hn.2
   rw[SJ] at ih
   rw[ih.2.2 hl]
   refine ⟨λm hm=>?_,λuu=>(aG h.objs.size (by simp) (ah _ (QT r _ _ _ (Ov _ rfl)) rfl) (Ow _)),λhh=>?_⟩
   ·rw[Pb]
    have:(m==n)=false:=by simpa using hm
    rw[this]
   ·exact N5 (by simp) hh
  ·have hb:(kd==To)=false:=by simpa using hk
   simp only[hb,OL,PA]
   refine aK (jF r h acc (λp hp=>hc p (.tail _ hp)) hn.2) λh1 h2 h3=>?_
   have e:((n,kd)::r).lookup X=ti .cell↔r.lookup X=ti .cell:=by
    rw[Pb]
    by_cases hx:X=n
    ·(clear hc; subst hx)
     simp only[Pi]
     constructor
     ·intro e; (have oc:=Gt e; clear e; subst oc); exact N5 rfl hk
     ·intro e; exact N5 (Tm.mpr (ah _ (mem_of_lookup e) rfl)) hn.1
    ·have:(X==n)=false:=by simpa using hx
     rw[this]
   exact ⟨h1,λq=>h2 (e.mp q),λq=>h3 λz=>q (e.mpr z)⟩
theorem Cy
  (h:∀ h',h' = YG (s.heap.push {cls:=.type "dict", data:=.dict #[] }) scope.names->Q {scope,locals:=s.heap.objs.size,globals:=env.globals,cells:=QS (s.heap.objs.size+1) scope.names cl,qual:=env.qual,func:=NI,code:=env.code,frame:=env.frame,builtins:=env.builtins } {s with heap:=h' }) :
  Og (Ok prog w) A (SV scope env.globals cl [] env.qual NI .none (ti env)) Q Er s:=by
 simp only[SV,Option.isSome_some,Qz]
 refine Is (Zq ?_)
 refine Is (X4 _ (λi g cells=>by cases hkc:g==To<;>simp) _ _ _ _ ?_)
 rw[show ({s with heap:=s.heap.push {cls:=.type "dict", data:=.dict #[] } }:NU).heap.objs.size=s.heap.objs.size+1 from SJ ..]
 exact Is (Od (Od (h _ rfl)))
end
section
variable {fns:Fns}{k:N7}{C:Calls}{XP:If->NU->Lt->NU->Prop}
theorem k7 (h:f9 ns sc x=vj):sc.kind = .function/\(sc.names.map (·.1)).Nodup/\(sc.names.lookup (oD x)=ti .local\/sc.names.lookup (oD x)=ti .cell) /\
  ∀ p∈sc.names,(p.2 = .local/\(p.1=oD x\/p.1=oD ".0"))\/p.2 = .globalImplicit\/(p.2 = .cell/\p.1=oD x)\/(p.2 = .free/\(ns.lookup p.1=ti .cell\/ns.lookup p.1=ti .free)):=by
 unfold f9 at h
 simp only[Of,Oj,OT,TZ,Pm] at h
 refine ae (h) λi k=>?_
 clear h
 refine ae (i) λg l=>?_
 clear i
 refine ae (g) λn m=>?_
 clear g
 refine (db n m l (λp j=>?_))
 rcases k p j with ((h | h) | h) | h
 ·exact .inl h
 ·exact .inr (.inl h)
 ·exact .inr (.inr (.inl h))
 ·exact .inr (.inr (.inr h))
theorem lO {α:Type}{l:uq (Str×α)}{n:Str}{c:α}(hn:(l.map (·.1)).Nodup) (h:(n,c)∈l):l.lookup n=ti c:=by
 induction l with
 | nil=>cases h
 | cons p r ih=>
  rw[Pe,QC] at hn
  rw[Pb]
  rcases Ou.mp h with e | h
  ·(clear h; subst e); simp
  ·have:(n==p.1)=false:=Pd.mpr λe=>hn.1 (e▸Tm.mpr (ah _ h rfl))
   rw[this]
   exact ih hn.2 h
theorem g6:∀ {inner:uq (Str×OY)}{n:Str},(fB outer inner).lookup n=(inner.lookup n).map λkd=>if kd == .free&&outer.lookup n==ti .cell then .cell else kd
 | [],n=>rfl
 | (m,kd)::r,n=>by
  have h:=@g6 outer r n
  unfold fB at h ⊢
  rw[Pe,Pb,Pb]
  by_cases e:n=m
  ·subst e
   by_cases hc:(kd==PR&&outer.lookup n==ti .cell)=vj
   ·rw[NZ hc]; simp only[Pi,UC]; rw[NZ hc]
   ·rw[N0 hc]; simp only[Pi,UC]; rw[N0 hc]
  ·have i:(n==m)=false:=by simpa using e
   have g:(n==(if (kd==PR&&outer.lookup m==ti .cell)=vj then (m,To) else (m,kd)).1)=false:=by split<;>exact i
   simp only[i,g]
   exact h
theorem fF (hk:env.scope.kind = .function):(U2 scope env).names=fB env.scope.names scope.names:=by
 unfold U2 fB XZ
 simp[hk]
noncomputable def restC (f:N9->Out (NX (V×Mode))) (ds:uq N9) (ys:uq N9) (dp:OF):Out (uq N9×OF):=(bj f ds).bind λr=>.ok (ys++r.1,dp&&r.2)
theorem tW (h:f d = .ok NI):restC f (d::ds) ys dp=restC f ds ys dp:=by
 unfold restC
 rw[bj,h]; rfl
theorem ue (h:f d = .ok (ti p)) (nb:restC f (d::ds) ys dp≠.bad):∃ y,p.1 = .d y/\restC f (d::ds) ys dp=restC f ds (ys++[y]) (dp&&decide (p.2 = .deep)):=by
 unfold restC at nb ⊢
 rw[bj,h] at nb ⊢
 cases e:asD p.1 with
 | none=>exact N5 (by rw[Out.ok_bind]; show ((am (asD p.1) _).bind _)=_; rw[e]; rfl) nb
 | some y=>
  refine ⟨y,ba e,?_⟩
  show (am (asD p.1) _).bind _=_
  rw[e]
  cases bj f ds with
  | ok q=>show Out.ok (ys++y::q.1,dp&&(decide (p.2 = .deep)&&q.2)) = .ok (ys++[y]++q.1,dp&&decide (p.2 = .deep)&&q.2); rw[Pk,Bool.and_assoc]; rfl
  | exc c=>rfl
  | bad=>rfl
theorem Bk
  (hsc:f9 env.scope.names sc x=vj) (hN:cenv.scope.names=fB env.scope.names sc.names) (hk:cenv.scope.kind = .function) (hg:cenv.globals=env.globals) (hb:cenv.builtins=env.builtins)
  (hc:∀ n,(n,PR)∈sc.names->cenv.cells.lookup n=env.cells.lookup n) (hx:sc.names.lookup (oD x)=ti .cell->∃ c,cenv.cells.lookup (oD x)=ti c)
  (hfr:cenv.frame=env.frame) (X:Cx fns k A P h env σ) (kp:K h h') (hv:VarIs h' cenv (oD x) v) (hr:R h' v d as) (hz:sz d=vj) (has:∀ a∈as,P' a) (hP:∀ a,P a->(∃ o,h.get? a=ti o)->P' a) :
  Cx fns k A P' h' cenv (upd σ x (mk (.d d))):=by
 refine dS (k7 hsc) λuu hnd htg g=>?_
 have z:∀ n,cenv.kindOf n=(sc.names.lookup n).map λkd=>if kd == .free&&env.scope.names.lookup n==ti .cell then .cell else kd:=λn=>by
  show cenv.scope.names.lookup n=_
  rw[hN]; exact g6
 refine ⟨X.room,⟨hk,hg.trans X.eok.glob,hb.trans X.eok.blt,λn u=>?_⟩,X.ge.k kp,(λq=>aA (X.frm q) λe l a b c=>(aQ e l a (b.k kp) (c.trans hfr.symm))),λy p hp j=>?_⟩
 ·rw[z] at u
  cases e:sc.names.lookup n with
  | none=>rw[e] at u; simp at u
  | some kd=>
   have hm:=mem_of_lookup e
   rcases g _ hm with h1 | h1 | h1 | h1
   ·rw[e,show kd=_ from h1.1] at u; simp at u
   ·dsimp only at h1; rw[e,h1] at u; simp at u
   ·revert h1; intro Nf
    refine ae (Nf) λh1 h2=>?_
    clear Nf
    dsimp only at h1 h2
    (clear hm; subst h2)
    exact hx (by rw[e,h1])
   ·revert h1; intro MO
    refine ae (MO) λh1 h2=>?_
    clear MO
    dsimp only at h1 h2
    (clear e; subst h1)
    refine al (X.eok.cells n h2) λc hcc=>?_
    exact ⟨c,by rw[hc n hm,hcc]⟩
 ·unfold upd at hp
  by_cases hy:y=x
  ·(clear g hsc htg hx; subst hy)
   rw[NZ rfl] at hp
   (have oc:=Gt hp; clear hp; subst oc)
   exact (aQ v as hv ⟨hr,hz⟩ has)
  ·rw[N0 hy] at hp
   have i:=qB j
   rw[z] at i
   have t:oD y≠oD ".0" := by
    unfold varK at j
    intro e
    rw[e] at j
    simp at j
   cases e:sc.names.lookup (oD y) with
   | none=>rw[e] at i; simp at i
   | some kd=>
    have hm:=mem_of_lookup e
    rcases g _ hm with h1 | h1 | h1 | h1
    ·exact N5 h1.2 (by
      rintro (h2 | h2)
      ·exact hy (dt h2)
      ·exact t h2)
    ·dsimp only at h1; rw[e,h1] at i; simp at i
    ·exact N5 (dt h1.2) hy
    ·revert h1; intro r
     refine ae (r) λh1 h2=>?_
     clear r
     dsimp only at h1 h2
     subst h1
     have hvo:varK env.scope.names y=true:=by
      unfold varK
      rw[Of]
      refine ⟨by simpa using t,?_⟩
      rcases h2 with h2 | h2<;>rw[h2]
     refine aA (X.vars y p hp hvo) λv' as' a1 a2 a3=>?_
     refine (aQ v' as' ?_ (a2.k kp) (λa ha=>hP a (a3 a ha) (a2.there a ha)))
     cases a1 with
     | loc m b1 b2 b3=>exact N5 b1 (by unfold XZ; rcases h2 with h2 | h2<;>rw[h2]<;>simp)
     | cell c b1 b2 b3=>
      refine .cell c ?_ (by rw[hc _ hm,b2]) (ro b3 kp)
      rw[z,e]
      rcases h2 with h2 | h2<;>rw[h2]<;>simp
noncomputable def Tgt (cenv:Env) (X:Str) (T:Oo) (h:O2):Prop :=
 (∃ m,h.Ns cenv.locals m)/\((cenv.kindOf X=ti .local/\T=cenv.locals)\/(cenv.kindOf X=ti .cell/\cenv.cells.lookup X=ti T/\T≠cenv.locals/\∃ g,h.IsCell T g))
theorem Tgt.at (t:Tgt cenv X T h) (k1:∀ o,h.get? T=ti o->h'.get? T=ti o) (k2:∀ o,h.get? cenv.locals=ti o->h'.get? cenv.locals=ti o):Tgt cenv X T h':=by
 revert t; intro i
 refine ae (i) λk t=>?_
 clear i
 refine al (k) λm l=>?_
 clear k
 refine ⟨⟨m,l.at' k2⟩,t.imp id λt=>?_⟩
 refine dS (t) λa b c g=>?_
 clear t
 refine au (g) λj o e d=>?_
 clear g
 exact (db a b c (aC j o (k1 _ e) d))
theorem Tgt.onK (t:Tgt cenv X T h) (k:K h h'):Tgt cenv X T h':=by
 revert t; intro i
 refine ae (i) λl t=>?_
 clear i
 refine al (l) λm n=>?_
 clear l
 refine ⟨⟨m,eO n k⟩,t.imp id λt=>?_⟩
 refine dS (t) λa b c g=>?_
 clear t
 refine al (g) λj d=>?_
 clear g
 exact (db a b c (cE j (ro d k)))
theorem Tgt.nostay (t:Tgt cenv X T h) (o:Obj) (e:h.get? T=ti o):¬ Stay o:=by
 revert t; intro i
 refine ae (i) λj t=>?_
 clear i
 refine lF (j) λm x y z v u _=>?_
 clear j
 rcases t with t | t
 ·rw[t.2,v] at e; (have k:=Gt e; clear e; subst k); exact Stay.not_data λuu uu q=>by rw[u] at q; cases q
 ·refine dS (t) λuu uu uu g=>?_
  clear t
  refine au (g) λp r n l=>?_
  clear g
  rw[n] at e; (have k:=Gt e; clear e; subst k); exact Stay.not_data λuu uu q=>by rw[l] at q; cases q
theorem Tgt.noseq (t:Tgt cenv X T h) (o:Obj) (e:h.get? T=ti o) (vs:Oe Lt) (n:N7):o.data≠.seq vs n:=by
 revert t; intro i
 refine ae (i) λj t=>?_
 clear i
 refine lF (j) λm y z ep x v _=>?_
 clear j
 intro q
 rcases t with t | t
 ·rw[t.2,x] at e; (have k:=Gt e; clear e; subst k); rw[v] at q; cases q
 ·refine dS (t) λuu uu uu g=>?_
  clear t
  refine au (g) λr u p l=>?_
  clear g
  rw[p] at e; (have k:=Gt e; clear e; subst k); rw[l] at q; cases q
theorem wM (hk:cenv.scope.kind = .function) (t:Tgt cenv X T s.heap)
  (h:∀ h' tk,Pn T s.heap h'->Tgt cenv X T h'->VarIs h' cenv X v->Q () {s with heap:=h',toks:=tk }):Og (Ok prog w) A (W0 (.Name X px) cenv v) Q Er s:=by
 revert t; intro g
 refine ae (g) λi t=>?_
 clear g
 refine al (i) λm l=>?_
 clear i
 rcases t with ⟨t1,rfl⟩ | ⟨t1,t2,t3,n,t4⟩
 ·exact SW (wpAny_storeName_local t1 l (λh' j k=>h h' _ k ⟨⟨_,j⟩,.inl ⟨t1,rfl⟩⟩ (.loc _ t1 j (by simp))) (by rw[hk]; rfl))
 ·exact SW (Tt hk t1 t2 t4 λh' j k=>h h' s.toks k ⟨⟨m,l.sameBut k (PT t3)⟩,.inr (db t1 t2 t3 (cE _ j))⟩ (.cell T (.inl t1) t2 j))
inductive CI (f:N9->Out (NX (V×Mode))) (x:If) (cenv:Env) (P:Oo->Prop) (s s₃:NU) (ds:uq N9) (o:Out (uq N9×OF)) (D T:Oo) (wr:uq Oo) (St:N7->O2->Prop) (n:N7) (s':NU):Prop
 | mk (h:O2) (tk j:N7) (vs:uq Lt) (ys:uq N9) (as:uq Oo) (dp:OF) (es:s' = {s₃ with heap:=h,toks:=tk }) (hst:St j h) (hj:j<=ds.length) (en:n=ds.length+1-j) (hD:h.PlainList D vs.toArray) (hra:RA h vs ys as) (hys:∀ y∈ys,sz y=vj) (hyl:ys.length<=j)
   (has:∀ a∈as,a≠D/\(P a\/s.heap.get? a=NI)) (hdp:dp=vj->(∀ a∈as,s.heap.get? a=NI)/\as.Nodup) (hT:Tgt cenv (oD x) T h) (hkp:KG (λb=>b∉D::T::wr) s₃.heap h) (hrs:restC f (ds.drop j) ys dp=o)
noncomputable def XN (XP:If->NU->Lt->NU->Prop):Prop:=∀ {A:OI}{eo env:Env}{l:uq Env}{c:If}{s s₁ s':NU}{x acc:Lt}{m:Str->NX Lt}{Q Er:Lt->NU->Prop},A.frames=ti (eo::l)->FrOk s.heap (eo::l)->eo.frame=env.frame->Kp s s₁->XP c s₁ x s'->s.heap.get? env.locals=NI->s₁.heap.Ns env.locals m->(∀ x s',XP c s x s'->Er x s') ->
 XU (Ok prog w) A env (λe g=>X5 (Ok prog w) A Er NI Q acc env.locals (.error e) g) x s'
set_option maxHeartbeats 2000000 in
theorem vU {f:N9->Out (NX (V×Mode))}{x:If}{px:Pos}{elt iter:Expr}{ifs:uq Expr}{sc:Scope}{pos:Pos}{A:OI}{cenv:Env}{P:Oo->Prop}{s s₃:NU}{Rr:W3->NU->Prop}
  {ds:uq N9}{o:Out (uq N9×OF)}{I D T:Oo}{fp wr F:uq Oo}{Pw:N7->Lt->Prop}{St:N7->O2->Prop}
  (W:Walks prog w A I fp wr ds.length Pw St) (hst:St 0 s₃.heap) (hk:cenv.scope.kind = .function) (ks:K s.heap s₃.heap)
  (hwr:∀ b∈wr,s.heap.get? b=NI/\b∉F/\∀ i h,St i h->∃ o,h.get? b=ti o/\hardB o=vj/\∃ fs,o.data = .fields fs) (hFl:∀ b∈F,∃ vs n,s₃.heap.get? b=ti ⟨.type "list", NI,.seq vs n,#[]⟩) (hfp:∀ b∈fp,b∈wr\/b∈F)
  (hPw:∀ i v,Pw i v->∀ d,ds[i]? = ti d->∃ bs,R s₃.heap v d bs/\∀ b∈bs,b∈F) (hFP:∀ a∈F,P a\/s.heap.get? a=NI)
  (hFo:∀ b∈F,b≠D/\b≠T/\b≠cenv.locals) (hwo:∀ b∈wr,b≠D/\b≠T/\b≠cenv.locals) (hDT:D≠T) (hDL:D≠cenv.locals) (fD:s.heap.get? D=NI) (fT:s.heap.get? T=NI)
  (hsm:ds.length<=2^22/\∀ d∈ds,sz d=vj) (hres:restC f ds [] vj=o) (nb:o≠.bad) (hD:s₃.heap.PlainList D #[]) (hT:Tgt cenv (oD x) T s₃.heap)
  (Zr:∀ d,f d≠.bad->sz d=vj->∀ {s₄:NU}{Q₁:NU->Prop}{Qb:Lt->NU->Prop}{Er':Lt->NU->Prop}(v:Lt) (bs:uq Oo),VarIs s₄.heap cenv (oD x) v->R s₄.heap v d bs->(∀ b∈bs,(P b\/s.heap.get? b=NI)/\b≠D)->K s.heap s₄.heap ->
   (f d = .ok NI->∀ s₅,Kp s₄ s₅->Q₁ s₅)->(∀ y,f d = .ok (ti y)->∀ u s₅,EP (λb=>(P b\/s.heap.get? b=NI)/\b≠D) s₄ y u s₅->Qb u s₅)->(∀ c,f d = .exc c->∀ z s₅,XP c s₄ z s₅->Er' z s₅) ->
   Og (Ok prog w) A (Ud ifs vj λc r=>if r=vj then do let ok <- isTrue c cenv (eval c cenv); Pu (QD ok) else Pu (QD r)) (λok s₅=>if ok=vj then Og (Ok prog w) A (eval elt cenv) Qb Er' s₅ else Q₁ s₅) Er' s₄)
  (hX:∀ c,o = .exc c->∀ h tk z s',K s.heap h->(∃ m,h.Ns cenv.locals m)->XP c {s₃ with heap:=h,toks:=tk } z s'->XU (Ok prog w) A cenv (λe s''=>Rr (.error e) s'') z s')
  (hR:∀ res,o = .ok res->∀ h tk vs as,h.PlainList D vs.toArray->RA h vs res.1 as->(∀ y∈res.1,sz y=vj)->res.1.length<=2^22->(∀ a∈as,a≠D/\(P a\/s.heap.get? a=NI))->(res.2=vj->(∀ a∈as,s.heap.get? a=NI)/\as.Nodup)->(∃ m,h.Ns cenv.locals m) ->
   K s.heap h->Rr (.ok .next) {s₃ with heap:=h,toks:=tk }) :
  VQ (Ok prog w) A (.compLoop (.ListComp elt [⟨.Name (oD x) px,iter,ifs,0⟩] sc pos) 0 (.ref I) (.ref D) cenv) Rr s₃:=by
 have offw:∀ i h as,St i h->Off h as wr:=λi h as hs b hb o e=>by
  refine ar ((hwr b hb).2.2 i h hs) λo' e' _ MP=>?_
  refine al (MP) λfs q=>?_
  clear MP
  rw[e] at e'; (have oc:=Gt e'; clear e'; subst oc); exact .inl λvs n q'=>by rw[q] at q'; cases q'
 have offT:∀ h as,Tgt cenv (oD x) T h->Off h as [T]:=λh as t b hb o e=>by
  rw[N1.mp hb] at e
  exact .inl (t.noseq o e)
 have offD:∀ h as vs,Heap.PlainList h D vs->(∀ a∈as,a≠D)->Off h as [D]:=λh as vs t hn b hb o e=>by
  rw[N1.mp hb] at e ⊢
  revert t; intro MW
  refine al (MW) λn t=>?_
  clear MW
  rw[t] at e; (have oc:=Gt e; clear e; subst oc)
  exact .inr ⟨by simp,λhm=>hn D hm rfl⟩
 have notw:∀ i h,St i h->∀ b∈wr,∀ o,h.get? b=ti o->¬ Stay o:=λi h hs b hb o e=>by
  refine ar ((hwr b hb).2.2 i h hs) λo' e' _ q=>?_
  rw[e] at e'
  exact Stay.not_fields (Gt e'▸q)
 have outs:∀ b o,s.heap.get? b=ti o->b∉D::T::wr:=λb o e hb=>by
  rcases Ou.mp hb with rfl | hb
  ·rw[fD] at e; exact nN e
  rcases Ou.mp hb with rfl | hb
  ·rw[fT] at e; exact nN e
  ·rw[(hwr b hb).1] at e; exact nN e
 have outF:∀ b∈F,b∉D::T::wr:=λb hF hb=>by
  rcases Ou.mp hb with rfl | hb
  ·exact (hFo _ hF).1 rfl
  rcases Ou.mp hb with rfl | hb
  ·exact (hFo _ hF).2.1 rfl
  ·exact (hwr b hb).2.1 hF
 refine codeAny_compLoop_tests
  (CI f x cenv P s s₃ ds o D T wr St) ?_ (ds.length+1)
  (.mk s₃.heap s₃.toks 0 [] [] [] vj rfl hst (Pf _) rfl hD .nil (λuu h=>(nomatch h)) (Ow _) (λuu h=>(nomatch h)) (λuu=>⟨λuu h=>(nomatch h),.nil⟩) hT KG.refl hres)
 intro n s' Mx
 refine CI.casesOn Mx λh tk j vs ys as dp ME hst' hj MD hD' hra hys hyl has hdp hT' hkp hrs=>?_
 clear Mx hres
 subst ME
 subst MD
 have hDw:D∉wr:=λh=>(hwo D h).1 rfl
 have hTw:T∉wr:=λh=>(hwo T h).2.1 rfl
 have hLw:cenv.locals∉wr:=λh=>(hwo _ h).2.2 rfl
 have kps:K s.heap h:=ks.step hkp outs
 by_cases hlt:j<ds.length
 ·obtain ⟨d,hd⟩:∃ d,ds[j]? = ti d:=⟨_,Oh hlt⟩
  have hdd:ds.drop j=d::ds.drop (j+1):=by
   rw[PM hlt]
   rw[Oh hlt] at hd
   (have oc:=Gt hd; clear hd; subst oc); rfl
  rw[hdd] at hrs
  have nb':restC f (d::ds.drop (j+1)) ys dp≠.bad:=by rw[hrs]; exact nb
  have nf:f d≠.bad:=λq=>nb' (by unfold restC; rw[bj,q]; rfl)
  refine W.item j _ _ _ hlt hst' λv h₁ tka hPv hsta hka=>?_
  have g:∀ b o,b∉wr->h.get? b=ti o->h₁.get? b=ti o:=hka
  refine wM hk (hT'.at (λo e=>g _ o hTw e) λo e=>g _ o hLw e) λp tkb hsb hTb hvb=>?_
  have hsb':∀ b o,b∉[T]->h₁.get? b=ti o->p.get? b=ti o:=λb o hb e=>hsb.extBut b o (λq=>hb (by simp[q])) e
  have hstb:St (j+1) p:=W.frame _ _ _ hsta λb hb o e=>hsb' b o (λq=>by
   rw[N1.mp q] at hb
   rcases hfp _ hb with hb | hb
   ·exact hTw hb
   ·exact (hFo _ hb).2.1 rfl) e
  have hrab:RA p vs ys as:=(hra.off (offw j h as hst') g).off (offT h₁ as (hT'.at (λo e=>g _ o hTw e) λo e=>g _ o hLw e)) hsb'
  have kT:KG (λb=>b∉[T]) h₁ p:=.ofW hsb' λb hb o e=>by
   rw[N1.mp hb] at e
   exact (hT'.at (λo e=>g _ o hTw e) λo e=>g _ o hLw e).nostay o e
  have hkpb:KG (λb=>b∉D::T::wr) s₃.heap p:=(hkp.trans ((KG.ofW g (notw j h hst')).mono λb hb q=>hb (by simp[q]))).trans (kT.mono λb hb q=>hb (by rw[N1.mp q]; simp))
  refine ag (hPw j v hPv d hd) λbs hrv hbs=>?_
  have hrvb:R p v d bs:=hrv.onG hkpb λb hb=>outF b (hbs b hb)
  have kpsb:K s.heap p:=ks.step hkpb outs
  have hfpH:∀ b∈fp,∀ o,p.get? b=ti o->hardB o=true:=λb hb o e=>by
   rcases hfp b hb with hb | hb
   ·refine ar ((hwr b hb).2.2 _ _ hstb) λo' e' hh _=>?_
    exact Gt (e'.symm.trans e)▸hh
   ·refine bz (hFl b hb) λvs' n' e'=>?_
    rw[hkpb.hard (.inl (outF b hb)) e' rfl] at e
    (have oc:=Gt e; clear e; subst oc); rfl
  have hDb:p.PlainList D vs.toArray:=(hD'.at λo e=>g _ o hDw e).at λo e=>hsb' _ o (by simpa using hDT) e
  have hzd:sz d=true:=hsm.2 d (PF hd)
  refine Zr d nf hzd (s₄:={s₃ with heap:=p,toks:=tkb }) v bs hvb hrvb (λb hb=>⟨hFP b (hbs b hb),(hFo b (hbs b hb)).1⟩) kpsb (λhr s₅ k₅=>?_) (λy hy u s₅ E₅=>?_) λc hc z s₅ hz=>hX c (by rw[<- hrs]; unfold restC; rw[bj,hc]; rfl) p tkb z s₅ kpsb hTb.1 hz
  ·refine au (k₅) λhe tke MJ l=>?_
   clear k₅
   subst MJ
   rw[tW hr] at hrs
   refine (ah (ds.length+1-(j+1)) (tv hlt) (.mk he tke (j+1) vs ys as dp rfl (W.frame _ _ _ hstb λb hb o e=>l.get e (hfpH b hb o e)) hlt rfl (al (hDb) λn e=>⟨n,l.get e rfl⟩) (hrab.k l) hys (by exact OX ‹_›) has hdp (hTb.onK l) (hkpb.trans (l.mono λuu uu=>trivial)) hrs))
  ·obtain ⟨MF,bs',hrve,hb1,hb2,hb3⟩:=E₅
   refine au (MF) λhe tke MM l=>?_
   clear MF
   subst MM
   dsimp only at l hrve hb1 hb2 hb3
   refine ag (ue hy nb') λz ez hz=>?_
   ·rw[hz] at hrs
    rw[ez] at hrve
    clear hb2 hy nb' hz
    revert hrve; intro Nn
    refine ae (Nn) λhrve hze=>?_
    clear Nn
    have hDe:he.PlainList D vs.toArray:=al (hDb) λn e=>⟨n,l.get e rfl⟩
    have hbD:∀ a∈bs',a≠D:=λa ha q=>by
     rcases hb1 a ha with h | h
     ·exact h.2 q
     ·refine al (hDb) λn e=>?_
      clear hDb
      rw[q,e] at h; exact nM h
    have hrae:=(hrab.k l).append (.cons hrve .nil)
    have hl:vs.length=ys.length:=hra.length
    refine UD (hsz:=by rw[OJ,hl]; unfold Qw; exact I0 hsm hyl hlt) hDe λh₆ hlf hsf=>?_
    have hsf':∀ b o,b∉[D]->he.get? b=ti o->h₆.get? b=ti o:=λb o hb e=>hsf.extBut b o (λq=>hb (by simp[q])) e
    have hne:∀ a∈as++(bs'++[]),a≠D:=λa ha=>by
     rcases Op.mp ha with ha | ha
     ·exact (has a ha).1
     ·exact hbD a (by simpa using ha)
    refine (ah (ds.length+1-(j+1)) (tv hlt) (.mk h₆ tke (j+1) (vs++[u]) (ys++[z]) (as++(bs'++[])) (dp&&decide (y.2 = .deep)) rfl ?_ hlt rfl ?_ (hrae.off (offD he _ _ hDe hne) hsf') ?_ ?_ ?_ ?_ ?_ ?_ hrs))
    ·refine W.frame _ _ _ hstb λb hb o e=>hsf' b o (λq=>?_) (l.get e (hfpH b hb o e))
     rw[N1.mp q] at hb
     rcases hfp _ hb with hb | hb
     ·exact hDw hb
     ·exact (hFo _ hb).1 rfl
    ·simpa using hlf
    ·intro y hy'
     rcases Op.mp hy' with h | h
     ·exact hys y h
     ·rw[N1.mp h]; exact hze
    ·rw[Ox,OD]; exact o8 hyl
    ·intro a ha
     refine ⟨hne a ha,?_⟩
     rcases Op.mp ha with ha | ha
     ·exact (has a ha).2
     ·rcases hb1 a (by simpa using ha) with h | h
      ·exact h.1
      ·right
       cases e:s.heap.get? a with
       | none=>rfl
       | some o=>obtain ⟨_,e'⟩:=kpsb.there e; rw[e'] at h; exact nM h
    ·intro hdm
     simp only[Of,OT] at hdm
     refine ae (hdm) λhd1 hd2=>?_
     clear hdm
     refine ae (hdp hd1) λg1 g2=>?_
     refine ae (hb3 hd2) λg3 g4=>?_
     refine ⟨λa ha=>?_,?_⟩
     ·rcases Op.mp ha with ha | ha
      ·exact g1 a ha
      ·have h:=g3 a (by simpa using ha)
       cases e:s.heap.get? a with
       | none=>rfl
       | some o=>obtain ⟨_,e'⟩:=kpsb.there e; rw[e'] at h; exact nM h
     ·rw[PU,R3]
      refine ⟨g2,g4,λa ha b hb q=>?_⟩
      subst q
      refine bz (hrab.there a ha) λuu uu e=>?_
      rw[g3 a hb] at e; exact nN e
    ·exact (hTb.onK l).at (λo e=>hsf' _ o (by simpa using Ne.symm hDT) e) λo e=>hsf' _ o (by simpa using Ne.symm hDL) e
    ·refine (hkpb.trans (l.mono λuu uu=>trivial)).trans ((KG.ofW hsf' λb hb o e=>?_).mono λb hb q=>hb (by rw[N1.mp q]; simp))
     refine al (hDe) λn ee=>?_
     clear hDe
     rw[N1.mp hb,ee] at e
     (have oc:=Gt e; clear e; subst oc)
     exact Stay.not_cls (by simp)
 ·have hjl:j=ds.length:=by exact An hj hlt
  (clear hj hlt; subst hjl)
  rw[QY] at hrs
  refine W.done _ _ _ hst' λh₁ tka hka=>?_
  have g:∀ b o,b∉wr->h.get? b=ti o->h₁.get? b=ti o:=hka
  have e1:o = .ok (ys,dp):=by rw[<- hrs]; show Out.ok (ys++[],dp&&vj)=_; rw[PU,Bool.and_true]
  refine hR _ e1 h₁ tka vs as (hD'.at λo e=>g _ o hDw e) (hra.off (offw _ h as hst') g) hys (vc hyl hsm.1) has hdp ((hT'.at (λo e=>g _ o hTw e) λo e=>g _ o hLw e).1) (kps.step (KG.ofW g (notw _ h hst')) λb o e q=>by rw[(hwr b q).1] at e; cases e)
end
section
variable {fns:Fns}{k:N7}{C:Calls}{XP:If->NU->Lt->NU->Prop}
theorem tJ {ex:Expr}(ok:fE ns it ex=vj) (env:Env) (v:Lt):Ue ex env v=Pu v:=by
 cases ex with
 | Set es p=>
  cases it with
  | e a=>exfalso; cases a<;>exact PZ (show NY=vj from ok)
  | s a=>exfalso; cases a<;>exact PZ (show NY=vj from ok)
  | r1 n=>exact PZ (show NY=vj from ok)
  | r2 a b=>exact PZ (show NY=vj from ok)
 | _=>rfl
set_option maxHeartbeats 1000000 in
theorem mh {RR:Lt->Oo->W3->NU->Prop}{f:N9->Out (NX (V×Mode))}{x:If}{px:Pos}{elt iter:Expr}{ifs:uq Expr}{sc:Scope}{pos:Pos}{A:OI}{env:Env}{σ:St}{P:Oo->Prop}{s:NU}{Er:Lt->NU->Prop}
  {ds:uq N9}{o:Out (uq N9×OF)}(hsc:f9 env.scope.names sc x=vj) (X:Cx fns k A P s.heap env σ) (hres:restC f ds [] vj=o) (nb:o≠.bad)
  (Zr:∀ d,f d≠.bad->∀ {cenv:Env}{s₃:NU}{P':Oo->Prop}{Q₁:NU->Prop}{Qb:Lt->NU->Prop}{Er':Lt->NU->Prop},cenv.scope.names=fB env.scope.names sc.names->Cx fns k A P' s₃.heap cenv (upd σ x (mk (.d d))) ->
   (f d = .ok NI->∀ s₄,Kp s₃ s₄->Q₁ s₄)->(∀ y,f d = .ok (ti y)->∀ v s₄,EP P' s₃ y v s₄->Qb v s₄)->(∀ c,f d = .exc c->∀ z s₄,XP c s₃ z s₄->Er' z s₄) ->
   Og (Ok prog w) A (Ud ifs vj λc r=>if r=vj then do let ok <- isTrue c cenv (eval c cenv); Pu (QD ok) else Pu (QD r)) (λok s₄=>if ok=vj then Og (Ok prog w) A (eval elt cenv) Qb Er' s₄ else Q₁ s₄) Er' s₃)
  {m:Mode}{i:Lt}{s₂:NU}(I:ItP A P s ds m i s₂)
  (hX:∀ c,o = .exc c->∀ {acc:Lt}{cenv:Env}{s₁ s':NU}{z:Lt}{m:Str->NX Lt},env.frame=cenv.frame->s.heap.get? cenv.locals=NI->Kp s s₁->s₁.heap.Ns cenv.locals m->XP c s₁ z s'->XU (Ok prog w) A cenv (λe s''=>RR acc cenv.locals (.error e) s'') z s')
  (hR:∀ res,o = .ok res->∀ D C h tk m,EP P s (.d (.list res.1),if res.2 then .deep else .top) (.ref D) {s₂ with heap:=h,toks:=tk }->h.Ns C m->s.heap.get? C=NI->RR (.ref D) C (.ok .next) {s₂ with heap:=h,toks:=tk }) {cl:uq (Str×Oo)}(hcl:∀ n,(n,PR)∈sc.names->cl.lookup n=env.cells.lookup n) :
  Og (Ok prog w) A (newObj (.type "list") (.seq #[]) NI) (λacc s₃=>
   Og (Ok prog w) A (SV sc env.globals cl [] env.qual NI .none (ti env)) (λcenv s₄=>
    VQ (Ok prog w) A (.compStart (.ListComp elt [⟨.Name (oD x) px,iter,ifs,0⟩] sc pos) 0 i acc {cenv with scope:=U2 sc env }) (RR acc cenv.locals) s₄) Er s₃) Er s₂:=by
 refine dS (k7 hsc) λhk hnd htg hnames=>?_
 obtain ⟨l,I,fp,wr,Pw,St,F,Mw,W,hst,hwr,hfp,hPw,hF,hFP,_,hsm⟩:=I
 subst Mw
 refine RL (Cy λu j=>?_)
 have hsz:(s₂.heap.push {cls:=.type "list", data:=.seq #[] }).objs.size=s₂.heap.objs.size+1:=SJ ..
 dsimp only at j ⊢
 rw[hsz]
 generalize hD:s₂.heap.objs.size=D at *
 obtain ⟨c1,c2,c3⟩:=jF (X:=oD x) sc.names ((s₂.heap.push {cls:=.type "list", data:=.seq #[] }).push {cls:=.type "dict", data:=.dict #[] }) cl (λp hp e=>by
  rcases hnames p hp with h | h | h | h
  ·rw[h.1] at e; cases e
  ·rw[h] at e; cases e
  ·exact h.2
  ·rw[h.1] at e; cases e) hnd
 rw[SJ,hsz] at c1 c2 c3
 rw[<- j] at c2
 have t:∀ b o,s₂.heap.get? b=ti o->u.get? b=ti o:=λb o e=>by
  rw[j]; exact QT _ _ _ _ (Oi _ (Oi _ e))
 have hDc:u.PlainList D #[]:=⟨0,by rw[j]; exact QT _ _ _ _ (Oi _ (hD▸Ov _ rfl))⟩
 have hLc:u.Ns (D+1) (λuu=>NI):=by
  have:=Zs (s₂.heap.push {cls:=.type "list", data:=.seq #[] }) (.type "dict")
  rw[hsz] at this
  rw[j]
  exact this.keeps (QT _ _)
 have old:∀ b,(∃ o,s₂.heap.get? b=ti o)->b<D:=λb ⟨o,e⟩=>hD▸QW e
 have g:∀ b,D<=b->s.heap.get? b=none:=λb hb=>by
  cases e:s.heap.get? b with
  | none=>rfl
  | some o=>exact N5 (old b (l.k.there e)) (Wk.mpr hb)
 obtain ⟨T,hT,hTD,hkc⟩:∃ T,Tgt {scope:=U2 sc env,locals:=D+1,globals:=env.globals,cells:=QS (D+1+1) sc.names cl,qual:=env.qual,func:=NI,code:=env.code,frame:=env.frame,builtins:=env.builtins } (oD x) T u/\D+1<=T /\
   (sc.names.lookup (oD x)=ti .cell->(QS (D+1+1) sc.names cl).lookup (oD x)=ti T):=by
  have hkd:(U2 sc env).names.lookup (oD x)=(sc.names.lookup (oD x)).map λkd=>if kd == .free&&env.scope.names.lookup (oD x)==ti .cell then .cell else kd:=by
   rw[fF X.eok.kind]; exact g6
  rcases htg with ht | ht
  ·refine (aG (D+1) ⟨⟨_,hLc⟩,.inl ⟨?_,rfl⟩⟩ (Ow _) (λq=>?_))
   ·show (U2 sc env).names.lookup _=_
    rw[hkd,ht]; rfl
   ·rw[ht] at q; cases q
  ·refine ar (c2 ht) λc g1 g2 g3=>?_
   refine (aG c ⟨⟨_,hLc⟩,.inr (db ?_ g1 ?_ (cE _ g2))⟩ (P3 g3) (λuu=>g1))
   ·show (U2 sc env).names.lookup _=_
    rw[hkd,ht]; rfl
   ·exact Ux g3
 have hstc:St 0 u:=W.frame _ _ _ hst λb _ o e=>t b o e
 refine codeAny_compStart_list ?_ ?_
 all_goals
  first
  | (refine W.self 0 _ _ _ hstc ?_)
  | skip
 all_goals
  refine vU (XP:=XP) (s:=s) (P:=P) (T:=T) W hstc hk (KG.trans l.k (K.of t)) hwr (λb hb=>bz (hF b hb) λvs n e=>(cf vs n (t _ _ e))) hfp (λi v hv d hd=>ag (hPw i v hv d hd) λbs h1 h2=>(ah bs (h1.keep t) h2)) hFP (λb hb=>?_) (λb hb=>?_) (PL hTD) (PL (Tf D)) (g D (Ow _)) (g T (P3 hTD)) hsm hres nb hDc hT ?_ ?_ ?_
  ·refine bz (hF b hb) λuu uu e=>?_
   have:=old b ⟨_,e⟩
   exact ⟨PL this,PL (N2 this (P3 hTD)),PL (Q2 this)⟩
  ·refine ag ((hwr b hb).2.2 0 _ hst) λo e _=>?_
   have:=old b ⟨_,e⟩
   exact ⟨PL this,PL (N2 this (P3 hTD)),PL (Q2 this)⟩
  ·intro d hf hz s₄ Q₁ Qb Er' v bs hv hr hbs kps h1 h2 h3
   refine Zr d hf (fF X.eok.kind) (Bk hsc (fF X.eok.kind) hk rfl rfl (λn hn=>?_) (λq=>⟨T,hkc q⟩) rfl X kps hv hr hz hbs λa ha hex=>⟨.inl ha,λq=>?_⟩) h1 h2 h3
   ·show (QS (D+1+1) sc.names cl).lookup n=_
    rw[c1 n λq=>?_,hcl n hn]
    subst q
    have:=lO hnd hn
    rw[this] at htg
    rcases htg with q | q<;>cases q
   ·(clear h2 h3 hX hR hDc hLc hT hTD hbs hkc hsz hv old; subst q)
    refine al (hex) λo e=>?_
    clear hex
    rw[g _ (Ow _)] at e; exact nN e
  ·intro c hc h tk z s' hkp hm hz
   refine al hm λm' hm=>?_
   refine au (l) λhhb tkb MA hkkb=>?_
   rw[MA] at hz
   exact hX c hc rfl (g _ (TN D)) (aC h tk rfl hkp) hm hz
  ·intro res ho h tk vs as hp hra hys hyl has hdp hm hkp
   revert hm; intro MO
   refine al (MO) λm' hm=>?_
   clear MO
   refine al (hp) λn hpl=>?_
   clear hp
   refine hR res ho D (D+1) h tk m' ?_ hm (g _ (TN D))
   refine au (l) λhhb tkb MA hkkb=>?_
   clear l
   (clear j hF hPw hR t hst hsz old; subst MA)
   refine ⟨(aC h tk rfl hkp),D::as,⟨.list hpl hra,sz_list.mpr ⟨hyl,hys⟩⟩,?_,?_,?_⟩
   ·intro a ha
    rcases Ou.mp ha with rfl | ha
    ·exact .inr (g _ (Ow _))
    ·exact (has a ha).2
   ·exact λuu=>(aQ D as rfl (g _ (Ow _)) (λq=>(has D q).1 rfl))
   ·intro hm'
    dsimp only at hm'
    have hb:res.2=true:=by
     cases e:res.2 with
     | true=>rfl
     | false=>rw[e] at hm'; cases hm'
    refine ⟨λa ha=>?_,QC.mpr ⟨λq=>(has D q).1 rfl,(hdp hb).2⟩⟩
    rcases Ou.mp ha with rfl | ha
    ·exact g _ (Ow _)
    ·exact (hdp hb).1 a ha
theorem R.sameBut {h h':O2}{C:Oo}{m:Str->NX Lt}{v:Lt}{d:N9}{as:uq Oo}(r:R h v d as) (hm:h.Ns C m) (hs:Pn C h h'):R h' v d as:=by
 refine r.off (wr:=[C]) (λb g o e=>?_) λb o g e=>hs.extBut b o (λq=>g (by simp[q])) e
 rw[N1.mp g] at e
 refine aX (hm) λp t u k j _=>?_
 clear hm
 rw[k] at e; (have i:=Gt e; clear e; subst i)
 exact .inl λl n q=>by rw[j] at q; cases q
theorem K.sameBut {ho h h':O2}{C:Oo}{m:Str->NX Lt}(k:K ho h) (hm:h.Ns C m) (hC:ho.get? C=NI) (hs:Pn C h h'):K ho h':=by
 refine aX hm λn p r l j _=>?_
 refine K.step k (KG.ofW (wr:=[C]) (λb o g e=>hs.extBut b o (λq=>g (by simp[q])) e) λb g o e=>?_) λb o e q=>?_
 ·rw[N1.mp g,l] at e; (have i:=Gt e; clear e; subst i)
  exact Stay.not_data λuu uu q=>by rw[j] at q; cases q
 ·rw[N1.mp q,hC] at e; exact nN e
theorem EP.sameBut {P:Oo->Prop}{s p:NU}{h':O2}{C:Oo}{m:Str->NX Lt}{d:N9}{md:Mode}{v:Lt}(E:EP P s (.d d,md) v p) (hm:p.heap.Ns C m) (hC:s.heap.get? C=NI) (hs:Pn C p.heap h') :
  EP P s (.d d,md) v {p with heap:=h' }:=by
 refine EP.casesOn E λh as g l k j=>?_
 refine au (h) λo i e n=>?_
 (clear h E; subst e)
 exact ⟨(aC h' i rfl (n.sameBut hm hC hs)),as,⟨R.sameBut g.1 hm hs,g.2⟩,l,k,j⟩
noncomputable def zX (A:OI) (env:Env) (x:If) (px:Pos) (elt iter:Expr) (ifs:uq Expr) (sc:Scope) (pos:Pos) (cl:uq (Str×Oo)) (RR:Lt->Oo->W3->NU->Prop) (Er:Lt->NU->Prop) (s:NU):Prop :=
 Og (Ok prog w) A (eval iter env) (λv l=>Og (Ok prog w) A (W6 v) (λi k=>Og (Ok prog w) A (newObj (.type "list") (.seq #[]) NI) (λm j=>
   Og (Ok prog w) A (SV sc env.globals cl [] env.qual NI .none (ti env)) (λg h=>
    VQ (Ok prog w) A (.compStart (.ListComp elt [⟨.Name (oD x) px,iter,ifs,0⟩] sc pos) 0 i m {g with scope:=U2 sc env }) (RR m g.locals) h) Er j) Er k) Er l) Er s
theorem vh {x:If}{sc:Scope}{A:OI}{env:Env}{σ:St}{P:Oo->Prop}{h:O2}{G:Prop}(hsc:f9 env.scope.names sc x=vj) (X:Cx fns k A P h env σ)
  (g:∀ cl:uq (Str×Oo),X3 sc env=Pu cl->(∀ n,(n,PR)∈sc.names->cl.lookup n=env.cells.lookup n)->sc.kind = .function->(∀ y∈sc.names,y.2 = .local->sc.names.lookup y.1=ti .local)->G):G:=by
 refine dS (k7 hsc) λhk l q i=>?_
 refine ag (t5 (scope:=sc) (env:=env) (λp r e=>by
  rcases i p r with h | h | h | h
  ·rw[h.1] at e; cases e
  ·rw[h] at e; cases e
  ·rw[h.1] at e; cases e
  ·exact X.eok.cells p.1 h.2)) λcl m j=>?_
 exact g cl m j hk λy o e=>by rw[<- e]; exact lO l o
variable (fns k C XP) in
noncomputable def SimC (e:E):Prop:=∀ {ex:Expr}{A:OI}{env:Env}{σ:St}{P:Oo->Prop}{s:NU}{Er:Lt->NU->Prop}{G:Prop},okE env.scope.names e ex=vj->Cx fns k A P s.heap env σ->ev C e σ≠.bad->(∀ c,ev C e σ = .exc c->∀ x s',XP c s x s'->Er x s') ->
 (∀ (x:If) (px:Pos) (elt iter:Expr) (ifs:uq Expr) (sc:Scope) (pos:Pos),ex = .ListComp elt [⟨.Name (oD x) px,iter,ifs,0⟩] sc pos->f9 env.scope.names sc x=vj->(∀ v,Ue iter env v=Pu v) ->
  (∀ {RR:Lt->Oo->W3->NU->Prop}{cl:uq (Str×Oo)},(∀ n,(n,PR)∈sc.names->cl.lookup n=env.cells.lookup n) ->
   (∀ c,ev C e σ = .exc c->∀ {acc:Lt}{cenv:Env}{s₁ s':NU}{z:Lt}{m:Str->NX Lt},env.frame=cenv.frame->s.heap.get? cenv.locals=NI->Kp s s₁->s₁.heap.Ns cenv.locals m->XP c s₁ z s'->XU (Ok prog w) A cenv (λe g=>RR acc cenv.locals (.error e) g) z s') ->
   (∀ d md,ev C e σ = .ok (.d d,md)->∀ D C s' m,EP P s (.d d,md) (.ref D) s'->s'.heap.Ns C m->s.heap.get? C=NI->RR (.ref D) C (.ok .next) s')->zX A env x px elt iter ifs sc pos cl RR Er s)->G)->G
theorem n0 (f:N9->Out (NX (V×Mode))) (ds:uq N9):restC f ds [] vj=bj f ds:=by
 unfold restC
 cases bj f ds<;>rfl
theorem qS {elt:E}(Si:fe fns k C XP it) (Se:SimE fns k C XP elt):SimC fns k C XP (.comp elt x it):=by
 intro ex A env σ P s Er G ok X nb hE g
 refine OE (DL ok) (λl=>?_) (λq=>q.elim)
 refine uh (l) λu NA t p o n j ok=>?_
 simp only[Of,Oj] at ok
 refine ae (ok) λMv oe=>?_
 refine ae (Mv) λy oi=>?_
 refine ae (y) λMB hsc=>?_
 rw[MB] at j
 refine g x t u p [] o n j hsc (tJ oi env) λ{RR cl} hcl hX hR=>?_
 clear g j l Mv y
 simp only[iP] at nb hR hX hE
 refine aJ nb λn1 n2=>?_
 refine Si oi X n1 (λq hq i s₂ I=>?_) λc hc=>hE c (by rw[hc]; rfl)
 refine aJ (n2 q hq) λn3 _=>?_
 refine mh (XP:=XP) (RR:=RR) (ds:=q.1) hsc X (n0 _ _) n3 (λd nf cenv sc P' Q₁ Qb Er' hN X' h1 h2 h3=>wpAny_tests_nil ?_) I (λc hc=>hX c (by rw[hq,Out.ok_bind,hc]; rfl)) (λres ho D C h tk m E hm hC=>hR _ _ (by rw[hq,Out.ok_bind,ho]; rfl) D C _ m E hm hC) hcl
 rw[NZ rfl]
 exact Se (hN▸oe) X' (bk nf).1 (λr hr v s' E=>h2 r (by rw[hr]; rfl) v s' E) λc hc z s' hz=>h3 c (by rw[hc]; rfl) z s' hz
theorem Ha (o:Out α) (f:α->Out β) (g:β->Out γ):(o.bind f).bind g=o.bind λa=>(f a).bind g:=by cases o<;>rfl
theorem lX (hXP:∀ c s s₁ x s',Kp s s₁->XP c s₁ x s'->XP c s x s') {elt c:E}{x:If}{it:It}(Si:fe fns k C XP it) (Se:SimE fns k C XP elt) (Sc:SimT fns k C XP c):SimC fns k C XP (.compif elt x it c):=by
 intro ex A env σ P s Er G ok X nb hE g
 refine OE (xp ok) (λo=>?_) (λq=>q.elim)
 refine j6 (o) λM7 NA Nj y p u t j ok=>?_
 simp only[Of,Oj] at ok
 refine ae (ok) λMz oe=>?_
 refine ae (Mz) λMv oc=>?_
 refine ae (Mv) λMy oi=>?_
 refine ae (My) λMB hsc=>?_
 rw[MB] at j
 refine g x Nj M7 y [p] u t j hsc (tJ oi env) λ{RR cl} hcl hX hR=>?_
 clear g j o Mv My Mz
 simp only[iF] at nb hR hX hE
 refine aJ nb λn1 n2=>?_
 refine Si oi X n1 (λq hq i s₂ I=>?_) λc hc=>hE c (by rw[hc]; rfl)
 refine aJ (n2 q hq) λn3 _=>?_
 refine mh (XP:=XP) (RR:=RR) (ds:=q.1) hsc X (n0 _ _) n3 (λd nf cenv sc P' Q₁ Qb Er' hN X' h1 h2 h3=>wpAny_tests_one ?_) I (λc hc=>hX c (by rw[hq,Out.ok_bind,hc]; rfl)) (λres ho D C h tk m E hm hC=>hR _ _ (by rw[hq,Out.ok_bind,ho]; rfl) D C _ m E hm hC) hcl
 clear hX hR hE n1 n2 n3 I hcl
 simp only[<- Ha] at nf h1 h2 h3
 refine aJ nf λn4 n5=>?_
 refine Sc (hN▸oc) X' n4 (λb hb n l=>?_) λc hc z s' hz=>h3 c (by rw[hc]; rfl) z s' hz
 replace n5:=n5 b hb
 rw[hb,Out.ok_bind] at h1 h2 h3
 cases b with
 | false=>simpa using h1 rfl n l
 | true=>
  rw[NZ rfl] at n5 h1 h2 h3 ⊢
  exact Se (hN▸oe) (X'.k l.k) (bk n5).1 (λr hr v s' E=>h2 r (by rw[hr]; rfl) v s' (E.after l)) λc hc z s' hz=>h3 c (by rw[hc]; rfl) z s' (hXP c sc n z s' l hz)
theorem SimC.e (hf:fns.hand=NY) (hXN:XN XP) {e:E}(S:SimC fns k C XP e):SimE fns k C XP e:=by
 intro ex A env σ P s Q Er ok X nb hQ t
 refine S ok X nb t λx px elt r ifs sc pos ex o g n=>?_
 rw[ex]
 refine vh o X λcl p h hk hn=>?_
 rw[eval_ListComp]
 refine Um (use:=NI) rfl g p hk hn (n (RR:=λi C=>X5 (Ok prog w) A Er NI Q i C) h (λc hc i v q y z m e1 e2 kp j hz=>?_) λd md he D C y m E j hC=>(ah m j λh' hs=>hQ _ he _ _ (E.sameBut j hC hs)))
 refine aA (X.frm hf) λu l f1 f2 f3=>?_
 exact hXN f1 f2 (f3.trans e1) kp hz e2 j (t c hc)
end
theorem jd (val:N7->N3):∀ k,WO (λi j=>decide (val i>val j)) k<=k/\∀ j,j<=k->val j<=val (WO (λi j=>decide (val i>val j)) k)
 | 0=>⟨Ow _,λj g=>by
  have:j=0:=by exact GO g
  (clear g; subst this)
  exact Vy _⟩
 | k+1=>by
  refine ae (jd val k) λl h=>?_
  unfold WO
  by_cases hc:val (k+1)>val (WO (λi j=>decide (val i>val j)) k)
  ·rw[NZ (by simpa using hc)]
   refine ⟨Ow _,λj g=>?_⟩
   by_cases e:j=k+1
   ·(clear g; subst e); exact Vy _
   ·have:=h j (zY g e); exact Iw hc this
  ·rw[N0 (by simpa using hc)]
   refine ⟨by exact OX ‹_›,λj g=>?_⟩
   by_cases e:j=k+1
   ·(clear g; subst e); exact Fg hc
   ·exact h j (zY g e)
theorem qs (h:jh ns=ti m):ns[WO (λi j=>decide (ns[i]?.getD 0>ns[j]?.getD 0)) (ns.length-1)]?.getD 0=m:=by
 refine ae (jd (λi=>ns[i]?.getD 0) (ns.length-1)) λu t=>?_
 refine ae (om h) λl o=>?_
 have r:0<ns.length:=SX l
 generalize WO (λi j=>decide (ns[i]?.getD 0>ns[j]?.getD 0)) (ns.length-1)=b at *
 have q:ns[b]? = ti ns[b]:=Oh (Im r u)
 rw[q]
 dsimp only [UE]
 have n:=o ns[b] (R4 _)
 refine al (Q9 l) λj g=>?_
 refine al (g) λp e=>?_
 clear g
 have k:=t j (uD p)
 rw[q,Oh p,e] at k
 simp only[UE] at k
 exact AH n k
section
theorem BM (h:P2 vs ns):∀ {i:N7}{v:Lt},vs[i]? = ti v->∃ t,v = .int (ns[i]?.getD 0) t:=by
 induction h with
 | nil=>intro i v h; simp at h
 | cons n t _ ih=>
  intro i v h
  cases i with
  | zero=>simp at h; exact ⟨t,by simp[<- h]⟩
  | succ i=>simpa using ih (by simpa using h)
theorem uW (hh:A.handled=NI) (ra:R s.heap va (.list xs) as) (hi:aR xs=ti ns)
  (hG:∀ I fp wr Pw St x,Walks prog w A I fp wr ns.length Pw St->St 0 x.heap->(∀ b∈fp,b<x.heap.objs.size)->(∀ i v,Pw i v->∃ t,v = .int (ns[i]?.getD 0) t)->(∀ b∈wr,s.heap.get? b=NI/\∀ o,x.heap.get? b=ti o->¬ Stay o)->Kp s x->G (.ref I) x) :
  Og (Ok prog w) A (W6 va) G Er s:=by
 refine ra.isList_k λa p n cs m h g l=>?_
 (clear ra; subst m)
 subst l
 refine aK (g.ints hi) λu k j=>?_
 subst k
 subst j
 have e:p.toArray.size=ns.length:=by rw[OJ,g.length,Oc]
 have W:=ZR (prog:=prog) (w:=w) (A:=A) hh s.heap.objs.size a (eU h) p.toArray
 rw[e] at W
 refine WN (isL h) (hG _ _ _ _ _ _ W ⟨(aG _ (Ov _ rfl) rfl rfl),(isL h).push _⟩ ?_ ?_ ?_ (.push s _ _))
 ·intro b hb
  rw[show _=s.heap.objs.size+1 from SJ ..]
  rcases Ou.mp hb with rfl | hb
  ·exact Tf _
  ·rw[N1.mp hb]; exact Q2 (QW h)
 ·intro i v r
  exact BM u (by simpa using r)
 ·intro b hb
  rw[N1.mp hb]
  refine ⟨bh _,λo e=>?_⟩
  rw[show _=ti _ from Ov _ rfl] at e
  (have q:=Gt e; clear e; subst q)
  exact Stay.not_cls (by simp)
theorem Kp.after {s j:NU}{h':O2}{tk:N7}{wr:uq Oo}(kp:Kp s j) (hwr:∀ b∈wr,s.heap.get? b=Qv/\∀ o,j.heap.get? b=ti o->¬ Stay o) (hk:∀ b o,b∉wr->j.heap.get? b=ti o->h'.get? b=ti o):Kp s {j with heap:=h',toks:=tk }:=by
 refine au (kp) λh t g k=>?_
 clear kp
 subst g
 exact (aC h' tk rfl (K.step k (KG.ofW hk λb i=>(hwr b i).2) λb o e i=>by rw[(hwr b i).1] at e; cases e))
theorem xZ (hh:A.handled=NI) (ra:R s.heap va (.list xs) as) (hi:aR xs=ti ns) (hm:jh ns=ti m) (hQ:∀ v s',EP P s (sI m) v s'->Q v s'):Og (Ok prog w) A (Sy (.builtin "max") [va]) Q Er s:=by
 refine call_max_walk (uW (A:=A.in1) hh ra hi λI q o Pw St l W j k g i p=>(DV I q o _ Pw St _ rfl W j k (SX (om hm).1) (CmpOf.ints_gt _ g) (λv u r n hk=>?_)))
 refine al (g _ _ n) λt h=>?_
 (clear n; subst h)
 rw[qs hm]
 exact hQ _ _ (.int (p.after i hk))
noncomputable def Isi (s:NU) (t:If) (v:Lt) (b:OF):Prop:=∀ (A:OI) (Q:Lt->NU->Prop) (Er:Lt->NU->Prop),(∀ s',Kp s s'->Q (.bool b) s')->Og (Ok prog w) A (Sy (.builtin "isinstance") [v,.type t]) Q Er s
theorem jB {t:If}{f:N7->OF}(h0:Isi s t .none (f 0)) (h1:∀ b,Isi s t (.bool b) (f 1)) (h2:∀ i u,Isi s t (.int i u) (f 2)) (h3:∀ x u,Isi s t (.str x u) (f 3))
  (h4:∀ {a:Oo}{n:N7}{vs:uq Lt},s.heap.get? a=ti ⟨.type "list", NI,.seq vs.toArray n,#[]⟩->Isi s t (.ref a) (f 4)) (h5:∀ {a:Oo}{n:N7}{vs:uq Lt},s.heap.get? a=ti ⟨.type "tuple", NI,.seq vs.toArray n,#[]⟩->Isi s t (.ref a) (f 5))
  {x:N9}(ra:R s.heap va x as):Isi s t va (f (rx x)) :=
 (R.ind (M:=λv d _=>Isi s t v (f (rx d))) (N:=λuu uu uu=>V1) h0 h1 h2 h3 (λe _ _=>h4 e) (λe _ _=>h5 e) trivial λuu uu uu uu=>trivial).1 ra
theorem yy (he:nt t (rx x)=ti b) (ra:R s.heap va x as) (hQ:∀ s',Kp s s'->Q (.bool b) s'):Og (Ok prog w) A (Sy (.builtin "isinstance") [va,.type t]) Q Er s :=
 have l:=Kp.refl s
 have g:=Kp.toks s (s.toks+1)
 rp he (λq j=>q▸(jB (t:="int") (f:=λk=>(k==2||k==1)) (λA Q Er h=>Zt (h _ g)) (λuu A Q Er h=>IsiPair.bool_int (h _ l)) (λuu i A Q Er h=>IsiPair.int_int (h _ l)) (λuu i A Q Er h=>IsiPair.str_int (h _ g)) (λe A Q Er h=>IsiPair.list_int e rfl (h _ g)) (λe A Q Er h=>IsiPair.tuple_int e rfl (h _ g)) ra) _ _ _ (j▸hQ))
  (λq j=>q▸(jB (t:="bool") (f:=λk=>(k==1)) (λA Q Er h=>Zb (h _ g)) (λuu A Q Er h=>IsiPair.bool_bool (h _ l)) (λuu i A Q Er h=>IsiPair.int_bool (h _ g)) (λuu i A Q Er h=>IsiPair.str_bool (h _ g)) (λe A Q Er h=>IsiPair.list_bool e rfl (h _ g)) (λe A Q Er h=>ZS e rfl (h _ g)) ra) _ _ _ (j▸hQ))
  (λq j=>q▸(jB (t:="list") (f:=λk=>(k==4)) (λA Q Er h=>Zc (h _ g)) (λuu A Q Er h=>IsiPair.bool_list (h _ g)) (λuu i A Q Er h=>IsiPair.int_list (h _ g)) (λuu i A Q Er h=>IsiPair.str_list (h _ g)) (λe A Q Er h=>IsiPair.list_list e rfl (h _ l)) (λe A Q Er h=>ZT e rfl (h _ g)) ra) _ _ _ (j▸hQ))
  (λq j=>q▸(jB (t:="tuple") (f:=λk=>(k==5)) (λA Q Er h=>YU (h _ g)) (λuu A Q Er h=>ZU (h _ g)) (λuu i A Q Er h=>IsiPair.int_tuple (h _ g)) (λuu i A Q Er h=>IsiPair.str_tuple (h _ g)) (λe A Q Er h=>ZV e rfl (h _ g)) (λe A Q Er h=>ZL e rfl (h _ l)) ra) _ _ _ (j▸hQ))
  (λq j=>q▸(jB (t:="str") (f:=λk=>(k==3)) (λA Q Er h=>Zu (h _ g)) (λuu A Q Er h=>IsiPair.bool_str (h _ g)) (λuu i A Q Er h=>IsiPair.int_str (h _ g)) (λuu i A Q Er h=>IsiPair.str_str (h _ l)) (λe A Q Er h=>IsiPair.list_str e rfl (h _ g)) (λe A Q Er h=>IsiPair.tuple_str e rfl (h _ g)) ra) _ _ _ (j▸hQ))
end
section
theorem pI (inj:∀ c∈SF.excN,∀ c' ∈ "PickError" :: SF.excN,SF.exc c=SF.exc c'->c=c') (hc:c∈SF.excN) (hd:d∈SF.excN):(OR (SF.exc c)::bY c).contains (.ref (SF.exc d))=decide (d=c\/d = "PickError"):=by
 have g:bmV.contains (.ref (SF.exc d))=false:=by unfold bmV; simp
 by_cases h1:d=c
 ·(clear hc; subst h1); simp
 ·have h:SF.exc d≠SF.exc c:=λq=>h1 (inj d hd c (.tail _ hc) q)
  rw[Tp]
  have i:(OR (SF.exc d)==OR (SF.exc c))=false:=by simpa using h
  rw[i,Wc]
  unfold bY
  by_cases h2:d = "PickError"
  ·(clear i g hd h; subst h2)
   have:c ≠ "PickError" := λq=>h1 q.symm
   rw[N0 this]
   simp
  ·have j:SF.exc d≠SF.exc "PickError" := λq=>h2 (inj d hd _ (.head _) q)
   have:decide (d=c\/d = "PickError")=false:=by simp[h1,h2]
   rw[this]
   split
   ·exact g
   ·rw[Tp,g,Yu]
    simpa using j
theorem r6 (h:bmV.contains v=vj):(OR (SF.exc c)::bY c).contains v=true:=by
 rw[Tp]
 have:(bY c).contains v=true:=by
  unfold bY
  split
  ·exact h
  ·rw[Tp,h,U3]
 rw[this,U3]
theorem yD (X:ExcAt h c):Quiet h (SF.exc c):=by
 obtain ⟨⟨N,nm,q,bs,x,sn,y,ab,col,dd,k0,k1,k2,k3,k5,u,g,m,h3,h4⟩,j,i⟩:=X
 refine gw (j) λo cd l k q2 q3 q4=>?_
 clear j
 refine gw (i) λo' cd' mN2 r1 p r3 z=>?_
 clear i
 have v:∀ n∈qn,u n=none:=by
  rw[g] at k; (have t:=Gt k; clear k; subst t)
  cases q2
  have hN:l=u:=q3.eq_nsMap.trans m.eq_nsMap.symm
  rw[<- hN]; exact q4
 unfold bY at g
 by_cases hc:c = "PickError"
 ·rw[NZ hc] at g
  exact vg g m v
 ·rw[N0 hc] at g
  obtain ⟨t,od,r,os⟩:=o'
  dsimp only at p
  subst p
  exact v9 g m v r1 r3 z
theorem xD (inj:∀ c∈SF.excN,∀ c' ∈ "PickError" :: SF.excN,SF.exc c=SF.exc c'->c=c') (X:∀ c∈SF.excN,ExcAt s.heap c) (ht:t∈SF.excN) (ra:RV s.heap va (.err c) as)
  (hQ:∀ s',Kp s s'->Q (.bool (decide (t=c\/t = "PickError"))) s'):Og (Ok prog w) A (Sy (.builtin "isinstance") [va,.ref (SF.exc t)]) Q Er s:=by
 refine GJ (ra) λa o x _ v u h=>?_
 clear ra
 subst x
 have Qc:=yD (X c h)
 obtain ⟨⟨N,nm,q,bs,j,sn,l,ab,col,dd,k0,k1,k2,k3,k5,mN,r,h2,_⟩,_⟩:=X c h
 obtain ⟨⟨N',n,q',bs',g,m,i,ab',k,y,j0,j1,j2,j3,j5,p,z,_⟩,_⟩:=X t ht
 refine BL r (r6 (by unfold bmV; simp)) (r6 (by unfold bmV; simp)) Qc z v u λt'=>?_
 rw[pI inj h ht]
 exact hQ _ (.toks s _)
end
noncomputable def rkA (rk:N8->N7) (arr:Oe N8) (i:N7):Nat:=match arr[i]? with
 | some p=>rk p
 | none=>0
noncomputable def bC (M:VA) (A:OI) (E:Lt->NU->Prop) (s:NU) (rk:N8->N7) (ok:N8->Prop) (κ:SY):Prop :=
 ∀ {x y:N8}{st:On}{Q:NX OF->On->Prop},ok x->ok y->kindOf st=κ->Q (ti (decide (rk x<rk y))) st->wpS M A E s (lt' x y) Q st
noncomputable def Up (rk:N8->N7) (l:uq N8):Prop:=l.Pairwise λx y=>rk x<=rk y
structure Gd (rk:N8->N7) (ok:N8->Prop) (κ:SY) (st:On):Prop where
 ok:∀ p∈N6 st,ok p
 kind:kindOf st=κ
noncomputable def SegUp (rk:N8->N7) (arr:Oe N8) (lo n:N7):Prop:=∀ i j,lo<=i->i<=j->j<lo+n->rkA rk arr i<=rkA rk arr j
structure SG where
 A:OI
 E:Lt->NU->Prop
 s:NU
 rk:N8->N7
 ok:N8->Prop
 κ:SY
noncomputable def gM:Model:=Ok prog w
noncomputable def SP3 (x:SG):Prop:=bC gM x.A x.E x.s x.rk x.ok x.κ->∀ {st:On}{Q:T6->On->Prop},Gd x.rk x.ok x.κ st->2<=(N6 st).size->(N6 st).size<128->OP st = #[]->Pq st=NI->(∀ st',(N6 st').Perm (N6 st)->Up x.rk (N6 st').toList->Pq st' = NI->Q () st')->wpS gM x.A x.E x.s W7 Q st
noncomputable def lK (x:SG):Prop:=SP3 x
noncomputable def sg:SG:=@WF SG ⟨⟨{},λ_ _=>V1,{},λ_=>0,λ_=>V1,UF⟩⟩ λx=>¬ lK x
theorem wo (h:lK sg):∀ x,lK x:=λx=>T7 λn=>@UW SG (λx=>¬ lK x) ⟨x,n⟩ h
noncomputable def gA:Around:=sg.A
noncomputable def gE:Lt->NU->Prop:=sg.E
noncomputable def gs:Shared:=sg.s
noncomputable def gr:N8->Nat:=sg.rk
noncomputable def go:N8->Prop:=sg.ok
noncomputable def gk:SortKind:=sg.κ
noncomputable def gallop':OF->N8->Oe N8->N7->N7->N7->SC On Sem (NX N7):=sortPriv% PySem.Builtin.gallop
section
theorem aO {arr:Oe N8}{i:N7}{st:On}{Q:N8->On->Prop}(hi:i<arr.size) (h:Q arr[i] st):wpS gM gA gE gs (elem' arr i) Q st:=by
 rw[elem'_eq,QR hi]
 exact Ol h
theorem eV (hi:i<arr.size):rkA gr arr i=gr arr[i]:=by unfold rkA; rw[QR hi]
theorem BP (hlt:bC gM gA gE gs gr go gk) {left:OF}{key:N8}{arr:Oe N8}{i:N7}{st:On}{Q:NX OF->On->Prop}(hi:i<arr.size) (hok:∀ p∈arr,go p) (hkey:go key) (hk:kindOf st=gk)
  (h:Q (ti (if left then decide (rkA gr arr i<gr key) else !decide (gr key<rkA gr arr i))) st):wpS gM gA gE gs (do let x <- elem' arr i; if left=vj then lt' x key else do let r <- lt' key x; Pu (r.map λb=>!b)) Q st:=by
 refine Oa (aO hi ?_)
 rw[eV hi] at h
 have g:=hok arr[i] (Qh hi)
 cases left with
 | true=>rw[NZ rfl] at h ⊢; exact hlt g hkey hk h
 | false=>
  rw[N0 (by decide)] at h ⊢
  exact Oa (hlt hkey g hk (Ol h))
theorem lV (hlt:bC gM gA gE gs gr go gk) {left:OF}{key:N8}{arr:Oe N8}{base n hint:N7}{st:On}{Q:NX N7->On->Prop}(hn:base+n<=arr.size) (hh:hint<n) (hok:∀ p∈arr,go p) (hkey:go key) (hk:kindOf st=gk)
  (bey:N7->OF) (hb:∀ i,bey i=if left then decide (rkA gr arr (base+i)<gr key) else !decide (gr key<rkA gr arr (base+i))) (hm:∀ i j,i<=j->j<n->bey j=vj->bey i=vj)
  (h:∀ k,k<=n->(∀ i,i<k->bey i=vj)->(∀ i,k<=i->i<n->bey i=NY)->Q (ti k) st):wpS gM gA gE gs (gallop' left key arr base n hint) Q st:=by
 unfold gallop'
 have look:∀ {i:N7}{st:On}{Q:NX OF->On->Prop},i<n->kindOf st=gk->Q (ti (bey i)) st->wpS gM gA gE gs (do let x <- elem' arr (base+i); if left=vj then lt' x key else do let r <- lt' key x; Pu (r.map λb=>!b)) Q st:=λ{i st Q} m hk h=>BP hlt (zv hn m) hok hkey hk (by rw[<- hb]; exact h)
 have hm':∀ i j,i<=j->j<n->bey i=NY->bey j=false:=λi j z y h3=>by
  cases q:bey j with
  | false=>rfl
  | true=>rw[hm i j z y q] at h3; cases h3
 have fin:∀ (g m:N7) {R:NX (NX N7)×N7×N7->On->Prop}{f:N7->NX (NX N7)×N7×N7->SC On Sem (OB (NX (NX N7)×N7×N7))},g<=m->m<=n->(∀ i,i<g->bey i=vj)->(∀ i,m<=i->i<n->bey i=NY) ->
   (∀ x g m {Q:OB (NX (NX N7)×N7×N7)->On->Prop} , g<m->m<=n->Q (.yield (NI,if bey (g+(m-g)/2) then g+(m-g)/2+1 else g,if bey (g+(m-g)/2) then m else g+(m-g)/2)) st->wpS gM gA gE gs (f x (NI,g,m)) Q st) ->
   (∀ x g {Q:OB (NX (NX N7)×N7×N7)->On->Prop},Q (.done (NI,g,g)) st->wpS gM gA gE gs (f x (NI,g,g)) Q st) ->
   (∀ k,k<=n->(∀ i,i<k->bey i=vj)->(∀ i,k<=i->i<n->bey i=NY)->R (NI,k,k) st)->wpS gM gA gE gs (Ud [0:n] (NI,g,m) f) R st:=by
  intro g m R f z y h3 h4 hs hd hR
  refine Qa (I:=λx c o=>o=st/\∃ g m,c=(NI,g,m)/\g<=m/\m<=n/\m-g<=n-x/\(∀ i,i<g->bey i=vj)/\(∀ i,m<=i->i<n->bey i=NY)) ?_ ?_ (aM rfl (pj g m rfl z y (Ef y) h3 h4))
  ·rintro x c o _ hx ⟨rfl,g,m,rfl,u,v,g3,g4,g5⟩
   by_cases e:g=m
   ·(clear u g3; subst e)
    exact hd x g (hR g v g4 g5)
   ·refine hs x g m (JK u e) v (aM rfl (aC _ _ rfl ?_))
    cases q:bey (g+(m-g)/2) with
    | true=>
     simp only[Qz]
     exact (cw (Fv u e) v (J6 g3) (λi hi'=>hm i _ (HL hi') (Jj u v e) q) g5)
    | false=>
     simp only[OL,PA]
     exact (cw JJ (Hv u v) (I8 g3) g4 (λi z y=>hm' _ i z y q))
  ·rintro c o ⟨rfl,g,m,rfl,u,v,g3,g4,g5⟩
   have:g=m:=by exact Gi u g3
   (clear u g3; subst this)
   exact hR g v g4 g5
 refine Oa (look hh hk ?_)
 dsimp only
 cases hr:bey hint with
 | true=>
  rw[NZ rfl]
  refine Oa (QF (Qa (I:=λx c o=>o=st/\∃ t l,c=(NI,t,l)/\t<l/\hint+t<n/\bey (hint+t)=vj/\x+1<=l)
   (Q:=λc o=>o=st/\∃ t l,c=(NI,t,l)/\t<l/\hint+t<n/\bey (hint+t)=vj/\(n-hint<=l\/bey (hint+l)=NY)) ?_ ?_ (aM rfl (bK 0 1 rfl z3 (IW hh) hr A2))) ?_)
  ·rintro x c o _ hx ⟨rfl,t,l,rfl,u,v,g3,g4⟩
   dsimp only
   by_cases e:l≥n-hint
   ·rw[NZ e]; exact Ol (aM rfl (bK t l rfl u v g3 (.inl e)))
   ·rw[N0 e]
    refine Oa (look (AD e) hk ?_)
    dsimp only
    cases q:bey (hint+l) with
    | false=>exact Ol (aM rfl (bK t l rfl u v g3 (.inr q)))
    | true=>exact Ol (aM rfl (bK l (2*l+1) rfl zM (AD e) q (A5 g4)))
  ·rintro c o ⟨rfl,t,l,rfl,u,v,g3,g4⟩
   exact (aM rfl (bK t l rfl u v g3 (.inl (Gv g4))))
  ·rintro c o ⟨rfl,t,l,rfl,u,v,g3,g4⟩
   dsimp only
   refine Oa (fin _ _ (FZ u v) (Hr hh) (λi m=>hm i _ (Fq m) v g3) (λi z y=>?_) (λx g m Q z y hQ=>?_) (λx g Q hQ=>?_) λk z y h3=>Ol (h k z y h3))
   ·rcases g4 with g4 | g4
    ·exact F3 z y g4
    ·exact hm' _ i (Gu z y) y g4
   ·dsimp only
    rw[N0 (zp z)]
    refine Oa (look (zI z y) hk ?_)
    dsimp only
    cases q:bey (g+(m-g)/2) with
    | true=>rw[q] at hQ; exact Ol hQ
    | false=>rw[q] at hQ; exact Ol hQ
   ·dsimp only
    rw[NZ (Ow _)]
    exact Ol hQ
 | false=>
  rw[N0 (by decide)]
  refine Oa (QF (Qa (I:=λx c o=>o=st/\∃ t l,c=(NI,t,l)/\t<l/\t<=hint/\bey (hint-t)=NY/\x+1<=l)
   (Q:=λc o=>o=st/\∃ t l,c=(NI,t,l)/\t<l/\t<=hint/\bey (hint-t)=NY/\(hint+1<=l\/(l<=hint/\bey (hint-l)=vj))) ?_ ?_ (aM rfl (bK 0 1 rfl z3 GH hr A2))) ?_)
  ·rintro x c o _ hx ⟨rfl,t,l,rfl,u,v,g3,g4⟩
   dsimp only
   by_cases e:l≥hint+1
   ·rw[NZ e]; exact Ol (aM rfl (bK t l rfl u v g3 (.inl e)))
   ·rw[N0 e]
    refine Oa (look (zO hh) hk ?_)
    dsimp only
    cases q:bey (hint-l) with
    | true=>exact Ol (aM rfl (bK t l rfl u v g3 (.inr ⟨by exact zV e,q⟩)))
    | false=>exact Ol (aM rfl (bK l (2*l+1) rfl zM (zV e) q (A5 g4)))
  ·rintro c o ⟨rfl,t,l,rfl,u,v,g3,g4⟩
   exact (aM rfl (bK t l rfl u v g3 (.inl (F9 hh g4))))
  ·rintro c o ⟨rfl,t,l,rfl,u,v,g3,g4⟩
   dsimp only
   refine Oa (fin _ _ ?_ (HT hh) (λi m=>?_) (λi z y=>hm' _ i z y g3) (λx g m Q z y hQ=>?_) (λx g Q hQ=>?_) λk z y h3=>Ol (h k z y h3))
   ·rcases g4 with g4 | ⟨g4,g5⟩
    ·exact Jz g4
    ·exact GN u
   ·rcases g4 with g4 | ⟨g4,g5⟩
    ·exact JS m g4
    ·exact hm i (hint-l) (F2 m) (zO hh) g5
   ·dsimp only
    rw[N0 (zp z)]
    refine Oa (look (zI z y) hk ?_)
    dsimp only
    cases q:bey (g+(m-g)/2) with
    | true=>rw[q] at hQ; exact Ol hQ
    | false=>rw[q] at hQ; exact Ol hQ
   ·dsimp only
    rw[NZ (Ow _)]
    exact Ol hQ
end
noncomputable def mergeLo':Oe N8->Oe N8->SC On Sem (Oe N8):=sortPriv% PySem.Builtin.mergeLo
theorem Up.le {gr:N8->N7}(h:Up gr l) (hi:i<l.length):∀ y∈l.drop i,gr l[i]<=gr y:=by
 intro y hy
 rw[PM hi] at hy
 rcases Ou.mp hy with rfl | hy
 ·exact Ow _
 ·have:=Qi.mp (show (l.take (i+1)++l.drop (i+1)).Pairwise _ by rw[Pj]; exact h)
  exact this.2.2 l[i] (by rw[SZ hi]; exact OU _ (.head _)) y hy
structure MI (gr:N8->N7) (a b o:uq N8) (i j:N7):Prop where
 perm:o.Perm (a.take i++b.take j)
 sorted:Up gr o
 la:∀ x∈o,∀ y∈a.drop i,gr x<=gr y
 lb:∀ x∈o,∀ y∈b.drop j,gr x<=gr y
section
theorem take_add' (l:uq α) (i k:N7):l.take (i+k)=l.take i++(l.drop i).take k:=List.take_add ..
theorem MI.swap (h:MI gr a b o i j):MI gr b a o j i:=⟨h.perm.trans QP,h.sorted,h.lb,h.la⟩
theorem MI.blockB (h:MI gr a b o i j) (ub:Up gr b) (k:N7) (hlt:∀ x∈(b.drop j).take k,∀ y∈a.drop i,gr x<=gr y):MI gr a b (o++(b.drop j).take k) i (j+k) where
 perm:=by
  rw[take_add',<- Pk]
  exact h.perm.append_right _
 sorted:=Qi.mpr ⟨h.sorted,(ub.sublist (S0 j b)).sublist (WP ..),λx l y g=>h.lb x l y (Qg g)⟩
 la:=λx l y g=>(Op.mp l).elim (λq=>h.la x q y g) λq=>hlt x q y g
 lb:=λx l y g=>(Op.mp l).elim (λq=>h.lb x q y (by rw[<- R5] at g; exact Ry g)) λq=>by
  have:=Qi.mp (show ((b.drop j).take k++(b.drop j).drop k).Pairwise _ by rw[Pj]; exact ub.sublist (S0 j b))
  exact this.2.2 x q y (by rw[R5]; exact g)
theorem MI.blockA (h:MI gr a b o i j) (ua:Up gr a) (k:N7) (hlt:∀ x∈(a.drop i).take k,∀ y∈b.drop j,gr x<=gr y):MI gr a b (o++(a.drop i).take k) (i+k) j:=(h.swap.blockB ua k hlt).swap
theorem f0 {α:Type}{l:uq α}{i:N7}(hi:i<l.length):(l.drop i).take 1=[l[i]]:=by rw[PM hi]; rfl
theorem MI.pushB (h:MI gr a b o i j) (ub:Up gr b) (hj:j<b.length) (hlt:∀ y∈a.drop i,gr b[j]<=gr y):MI gr a b (o++[b[j]]) i (j+1):=by
 have:=h.blockB ub 1 (by rw[f0 hj]; intro x g; rw[N1.mp g]; exact hlt)
 rwa [f0 hj] at this
theorem MI.pushA (h:MI gr a b o i j) (ua:Up gr a) (hi:i<a.length) (hlt:∀ y∈b.drop j,gr a[i]<=gr y):MI gr a b (o++[a[i]]) (i+1) j:=(h.swap.pushB ua hi hlt).swap
def Mgd (gr:N8->N7) (a b:uq N8) (r:Oe N8):Prop:=r.toList.Perm (a++b)/\Up gr r.toList
theorem MI.doneB (h:MI gr a b o i b.length) (ua:Up gr a):(o++a.drop i).Perm (a++b)/\Up gr (o++a.drop i):=by
 have:=h.blockA ua (a.length-i) (λx _ y g=>by rw[QY] at g; cases g)
 rw[Pr (by rw[PN]; exact Ow _)] at this
 refine ⟨this.perm.trans ?_,this.sorted⟩
 rw[UG,Pr (show a.length<=i+(a.length-i) by exact D9)]
theorem MI.doneA (h:MI gr a b o a.length j) (ub:Up gr b):(o++b.drop j).Perm (a++b)/\Up gr (o++b.drop j):=by
 obtain ⟨i,g⟩:=h.swap.doneB ub
 exact ⟨i.trans QP,g⟩
theorem MI.last (h:MI gr a b o i j) (ua:Up gr a) (ub:Up gr b) (hi:i+1=a.length) (ht:∀ x∈b,∀ y∈a.drop i,gr x<=gr y):(o++b.drop j++a.drop i).Perm (a++b)/\Up gr (o++b.drop j++a.drop i):=by
 have:=h.blockB ub (b.length-j) (λx k y g=>ht x (Ry (Qg k)) y g)
 rw[Pr (show (b.drop j).length<=b.length-j by rw[PN]; exact Ow _)] at this
 by_cases hj:j<=b.length
 ·rw[show j+(b.length-j)=b.length by exact j9 hj] at this
  exact this.doneB ua
 ·have e:b.drop j=[]:=Tu.mpr (z9 hj)
  have l:MI gr a b o i b.length:=⟨h.perm.trans (by rw[Pr (show b.length<=j by exact z9 hj),UG]),h.sorted,h.la,λx _ y g=>by rw[QY] at g; cases g⟩
  rw[e,PU]
  exact l.doneB ua
end
section
def Sm (st st':On):Prop:=kindOf st' = kindOf st/\N6 st' = N6 st/\OP st' = OP st/\Pq st' = Pq st
theorem Sm.refl (st:On):Sm st st:=⟨rfl,rfl,rfl,rfl⟩
theorem Sm.trans (h:Sm x y) (g:Sm y z):Sm x z:=⟨g.1.trans h.1,g.2.1.trans h.2.1,g.2.2.1.trans h.2.2.1,g.2.2.2.trans h.2.2.2⟩
theorem d7 {x:If}{st:On}{Q:T6->On->Prop}(h:Q () st):wpS gM gA gE gs (Zv (rule x):SC On Sem T6) Q st:=Ol (M:=gM) (E:=gE) h
noncomputable def setMin':N7->SC On Sem Unit:=sortPriv% PySem.Builtin.setMinGallop
theorem fJ {g:N7}{st:On}{Q:T6->On->Prop}(h:∀ st',Sm st st'->Q () st'):wpS gM gA gE gs (setMin' g) Q st:=SD (h _ ⟨rfl,rfl,rfl,rfl⟩)
theorem fX {l:uq N8}{i n:N7}{P:N8->Prop}(h:∀ q (hq:i+q<l.length),q<n->P l[i+q]):∀ x∈(l.drop i).take n,P x:=by
 intro x g
 obtain ⟨q,hq,rfl⟩:=Q9 g
 rw[QX,PN] at hq
 rw[TO,R7]
 exact h q (tw hq) (EO hq)
theorem drop_mem' {l:uq N8}{i:N7}{P:N8->Prop}(h:∀ q (hq:i+q<l.length),P l[i+q]):∀ x∈l.drop i,P x:=by
 intro x g
 obtain ⟨q,hq,rfl⟩:=Q9 g
 rw[PN] at hq
 rw[R7]
 exact h q (o6 hq)
theorem cz (hi:i<arr.toList.length):rkA gr arr i=gr arr.toList[i]:=by rw[Om] at hi; rw[eV hi]; rfl
theorem bT (a:Oe N8) (i j:N7):(a.extract i j).toList=(a.toList.drop i).take (j-i):=by
 rw[Array.toList_extract,List.extract_eq_take_drop]
theorem eZ (a:Oe N8) (i:N7):(a.extract i a.size).toList=a.toList.drop i:=by
 rw[bT,Pr (by rw[PN,Om]; exact Ow _)]
theorem dR (hlt:bC gM gA gE gs gr go gk) {left:OF}{key:N8}{arr:Oe N8}{base n hint:N7}{st:On}{Q:NX N7->On->Prop}(hn:base+n<=arr.size) (hh:hint<n) (hok:∀ p∈arr,go p) (hkey:go key) (hk:kindOf st=gk) (up:Up gr arr.toList)
  (h:∀ k,k<=n->(∀ q (hq:base+q<arr.toList.length),q<k->if left then gr arr.toList[base+q]<gr key else gr arr.toList[base+q]<=gr key)->(∀ q (hq:base+q<arr.toList.length),k<=q->q<n->if left then gr key<=gr arr.toList[base+q] else gr key<gr arr.toList[base+q])->Q (ti k) st) :
  wpS gM gA gE gs (gallop' left key arr base n hint) Q st:=by
 refine lV hlt hn hh hok hkey hk (λi=>if left then decide (rkA gr arr (base+i)<gr key) else !decide (gr key<rkA gr arr (base+i))) (λ_=>rfl) (λi j o u l=>?_) λk o u l=>h k o (λq hq g=>?_) λq hq g r=>?_
 ·have t:base+j<arr.toList.length:=by rw[Om]; exact zv hn u
  have v:base+i<arr.toList.length:=by exact FQ o t
  have m:rkA gr arr (base+i)<=rkA gr arr (base+j):=by
   rw[cz v,cz t]
   exact up.le v _ (by
    have e:arr.toList[base+j]=(arr.toList.drop (base+i))[j-i]'(by rw[PN]; exact FU o t):=by
     rw[R7]; congr 1; exact Eh o
    rw[e]; exact R4 _)
  cases left with
  | true=>simp at l ⊢; exact Ai m l
  | false=>simp at l ⊢; exact Af m l
 ·have:=u q g
  rw[cz hq] at this
  cases left with
  | true=>simpa using this
  | false=>simpa using this
 ·have:=l q g r
  rw[cz hq] at this
  cases left with
  | true=>simpa using this
  | false=>simpa using this
end
noncomputable def elem':Oe N8->N7->SC On Sem Keyed:=sortPriv% PySem.Builtin.elem
noncomputable def lt':N8->N8->SC On Sem (NX OF):=sortPriv% PySem.Builtin.lt
abbrev G5:Type:=NX (Oe N8)×Oe N8×N7×N7×N7
abbrev G6:Type:=NX (Oe N8)×Oe N8×N7×N7×N7×N7
abbrev G7:Type:=NX (Oe N8)×Oe N8×N7×N7×N7×N7×N7
abbrev SM (α:Type):Type:=SC On Sem α
noncomputable def loD (a b out:Oe N8) (ia ib:N7):Oe Keyed:=out++a.extract ia a.size++b.extract ib b.size
noncomputable def loL (a b out:Oe N8) (ia ib:N7):Oe Keyed:=out++b.extract ib b.size++a.extract ia a.size
noncomputable def zy (a b:Oe N8) (mg:N7) (out:Oe N8) (ia ib bc:N7):SM (OB G6) :=
 if (ib==b.size)=vj then Pu (.done (ti (loD a b out ia ib),out,ia,ib,0,bc)) else if bc≥mg then Pu (.done (NI,out,ia,ib,0,bc)) else Pu (.yield (NI,out,ia,ib,0,bc))
noncomputable def Ao (a b:Oe N8) (mg:N7) (out:Oe N8) (ia ib ac:N7):SM (OB G6) :=
 if (ia+1==a.size)=vj then Pu (.done (ti (loL a b out ia ib),out,ia,ib,ac,0)) else if ac≥mg then Pu (.done (NI,out,ia,ib,ac,0)) else Pu (.yield (NI,out,ia,ib,ac,0))
noncomputable def CM (a b:Oe N8) (mg:N7) (out:Oe N8) (ia ib ac bc:N7) (w:OF):SM (OB G6) :=
 if w=vj then elem' b ib>>=λx=>zy a b mg (out.push x) ia (ib+1) (bc+1) else elem' a ia>>=λx=>Ao a b mg (out.push x) (ia+1) ib (ac+1)
noncomputable def K0 (a b:Oe N8) (mg:N7) (out:Oe N8) (ia ib ac bc:N7):NX OF->SM (OB G6)
 | some w=>CM a b mg out ia ib ac bc w
 | _=>Pu (.done (ti (loD a b out ia ib),out,ia,ib,ac,bc))
noncomputable def loW (a b:Oe N8) (mg:N7) (c:G6):SM (OB G6) :=
 elem' b c.2.2.2.1>>=λp=>elem' a c.2.2.1>>=λq=>lt' p q>>=K0 a b mg c.2.1 c.2.2.1 c.2.2.2.1 c.2.2.2.2.1 c.2.2.2.2.2
noncomputable def loT4' (a b:Oe N8) (mg k l:N7) (out:Oe N8) (ia ib:N7):SM (OB G7) :=
 if (ia+1==a.size)=vj then Pu (.done (ti (loL a b out ia ib),out,ia,ib,mg,k,l))
 else if (decide (k<7)&&decide (l<7))=vj then Pu (.done (NI,out,ia,ib,mg,k,l)) else Pu (.yield (NI,out,ia,ib,mg,k,l))
noncomputable def yt (a b:Oe N8) (mg k l:N7) (out:Oe N8) (ia ib:N7):SM (OB G7):=elem' a ia>>=λx=>loT4' a b mg k l (out.push x) (ia+1) ib
noncomputable def loT3' (a b:Oe N8) (mg k l:N7) (out:Oe N8) (ia ib:N7):SM (OB G7) :=
 if (ib==b.size)=vj then Pu (.done (ti (loD a b out ia ib),out,ia,ib,mg,k,l)) else yt a b mg k l out ia ib
noncomputable def Df (a b:Oe N8) (mg k l:N7) (out:Oe N8) (ia ib:N7):SM (OB G7) :=
 if l>0 then loT3' a b mg k l (out++b.extract ib (ib+l)) ia (ib+l) else yt a b mg k l out ia ib
noncomputable def HR (a b:Oe N8) (mg k bc:N7) (out:Oe N8) (ia ib:N7):NX N7->SM (OB G7)
 | some l=>Df a b mg k l out ia ib
 | _=>Pu (.done (ti (loD a b out ia ib),out,ia,ib,mg,k,bc))
noncomputable def loT2' (a b:Oe N8) (mg k bc:N7) (out:Oe N8) (ia ib:N7):SM (OB G7) :=
 if (ib==b.size)=vj then Pu (.done (ti (loD a b out ia ib),out,ia,ib,mg,k,bc)) else elem' a ia>>=λy=>gallop' vj y b ib (b.size-ib) 0>>=HR a b mg k bc out ia ib
noncomputable def ul (a b:Oe N8) (mg k bc:N7) (out:Oe N8) (ia ib:N7):SM (OB G7):=elem' b ib>>=λx=>loT2' a b mg k bc (out.push x) ia (ib+1)
noncomputable def loT1' (a b:Oe N8) (mg k bc:N7) (out:Oe N8) (ia ib:N7):SM (OB G7) :=
 if (ia+1==a.size)=vj then Pu (.done (ti (loL a b out ia ib),out,ia,ib,mg,k,bc))
 else if (ia==a.size)=vj then Pu (.done (ti (loD a b out ia ib),out,ia,ib,mg,k,bc)) else ul a b mg k bc out ia ib
noncomputable def H8 (a b:Oe N8) (mg ac bc:N7) (out:Oe N8) (ia ib:N7):NX N7->SM (OB G7)
 | some k=>if k>0 then loT1' a b mg k bc (out++a.extract ia (ia+k)) (ia+k) ib else ul a b mg k bc out ia ib
 | _=>Pu (.done (ti (loD a b out ia ib),out,ia,ib,mg,ac,bc))
noncomputable def yj (a b:Oe N8) (ac bc:N7) (out:Oe N8) (ia ib mg:N7):SM (OB G7) :=
 setMin' mg>>=λ_=>elem' b ib>>=λx=>gallop' NY x a ia (a.size-ia) 0>>=H8 a b mg ac bc out ia ib
noncomputable def loG (a b:Oe N8) (c:G7):SM (OB G7) :=
 if c.2.2.2.2.1>1 then yj a b c.2.2.2.2.2.1 c.2.2.2.2.2.2 c.2.1 c.2.2.1 c.2.2.2.1 (c.2.2.2.2.1-1) else yj a b c.2.2.2.2.2.1 c.2.2.2.2.2.2 c.2.1 c.2.2.1 c.2.2.2.1 c.2.2.2.2.1
noncomputable def Ll (c:G7):NX (Oe N8)->SM (OB G5)
 | some r=>Pu (.done (ti r,c.2.1,c.2.2.1,c.2.2.2.1,c.2.2.2.2.1))
 | none=>setMin' (c.2.2.2.2.1+1)>>=λ_=>Pu (.yield (NI,c.2.1,c.2.2.1,c.2.2.2.1,c.2.2.2.2.1+1))
noncomputable def Lm (a b:Oe N8) (mg:N7) (c:G6):NX (Oe N8)->SM (OB G5)
 | some r=>Pu (.done (ti r,c.2.1,c.2.2.1,c.2.2.2.1,mg))
 | none=>(Zv (rule "list.sort.gallop"):SM T6)>>=λ_=>Ud [:a.size+b.size] ((NI,c.2.1,c.2.2.1,c.2.2.2.1,mg+1,c.2.2.2.2.1,c.2.2.2.2.2):G7) (λ_ c=>loG a b c)>>=λd=>Ll d d.1
noncomputable def loB (a b:Oe N8) (c:G5):SM (OB G5) :=
 Ud [:a.size+b.size] ((NI,c.2.1,c.2.2.1,c.2.2.2.1,0,0):G6) (λ_ d=>loW a b c.2.2.2.2 d)>>=λd=>Lm a b c.2.2.2.2 d d.1
noncomputable def loE (c:NX (Oe N8)):SM (Oe N8):=match c with
 | some r=>Pu r
 | none=>Zv (unsupported "internal:list.sort.merge-bound" : Sem (Oe N8))
noncomputable def DS:On->Nat:=sortPriv% PySem.Builtin.SortState.minGallop
noncomputable def loM (a b:Oe N8) (x:N8):SM (Oe N8) :=
 if (1==b.size)=vj then Pu (loD a b #[x] 0 1) else if (0+1==a.size)=vj then Pu (loL a b #[x] 0 1) else (get:SM On)>>=λg=>Ud [:a.size+b.size] ((NI,#[x],0,1,DS g):G5) (λ_ c=>loB a b c)>>=λc=>loE c.1
noncomputable def F6 (a b:Oe N8):SM (Oe N8):=(Zv (rule "list.sort.merge-lo"):SM T6)>>=λ_=>elem' b 0>>=loM a b
theorem uw (a b:Oe N8):mergeLo' a b=F6 a b:=by kernel_rfl
section
theorem aF {σ α:Type}{c:Prop} [VP c] {x y:SC σ Sem α}{Q:α->σ->Prop}{st:σ}(h1:c->wpS gM gA gE gs x Q st) (h2:¬ c->wpS gM gA gE gs y Q st):wpS gM gA gE gs (if c then x else y) Q st:=by
 by_cases h:c
 ·rw[NZ h]; exact h1 h
 ·rw[N0 h]; exact h2 h
structure Two (gr:N8->N7) (go:N8->Prop) (a b:Oe N8):Prop where
 ha:1<=a.size
 hb:1<=b.size
 oa:∀ p∈a,go p
 ob:∀ p∈b,go p
 ua:Up gr a.toList
 ub:Up gr b.toList
 h0:∀ y∈a.toList,gr (b[0]'hb)<=gr y
 h1:∀ x∈b.toList,gr x<=gr (a[a.size-1]'(Tv ha))
structure LoS (gr:N8->N7) (a b:Oe N8) (st:On) (n:N7) (out:Oe N8) (ia ib:N7) (st':On):Prop where
 sm:Sm st st'
 mi:MI gr a.toList b.toList out.toList ia ib
 ga:ia+1<a.size
 gb:ib<b.size
 gn:n<=ia+ib
def LoR (gr:N8->N7) (a b:Oe N8) (st:On) (r:Oe N8) (st':On):Prop:=Sm st st'/\Mgd gr a.toList b.toList r
def Lo6 (gr:N8->N7) (a b:Oe N8) (st:On) (n:N7) (c:G6) (st':On):Prop:=c.1=NI/\LoS gr a b st n c.2.1 c.2.2.1 c.2.2.2.1 st'
def Lo7 (gr:N8->N7) (a b:Oe N8) (st:On) (n:N7) (c:G7) (st':On):Prop:=c.1=NI/\LoS gr a b st n c.2.1 c.2.2.1 c.2.2.2.1 st'
def En (I:N7->NX (Oe N8)×α->On->Prop) (n:N7) (R:Oe N8->On->Prop) (c:NX (Oe N8)×α) (st':On):Prop:=(∃ r,c.1=ti r/\R r st')\/I n c st'
def Po (I:N7->NX (Oe N8)×α->On->Prop) (n m:N7) (R:Oe N8->On->Prop) (r:OB (NX (Oe N8)×α)) (st':On):Prop:=match r with
 | .done c=>En I n R c st'
 | .yield c=>I m c st'
theorem LoS.less {a b out:Oe N8}{st st':On}{n m ia ib:N7}(h:LoS gr a b st n out ia ib st') (hm:m<=n):LoS gr a b st m out ia ib st':=⟨h.sm,h.mi,h.ga,h.gb,vc hm h.gn⟩
section
variable {a b:Oe N8}{st st':On}{out:Oe N8}{ia ib n m x mg k l ac bc:N7}
theorem jT (T:Two gr go a b) (sm:Sm st st') (mi:MI gr a.toList b.toList out.toList ia ib) (e:(ib==b.size)=vj):LoR gr a b st (loD a b out ia ib) st':=by
 have e:ib=b.toList.length:=by rw[Om]; exact Oj.mp e
 subst e
 have:=mi.doneB T.ua
 refine ⟨sm,?_⟩
 unfold Mgd loD
 rw[O8,O8,eZ,eZ,QY,PU]
 exact this
theorem BD (T:Two gr go a b) (sm:Sm st st') (mi:MI gr a.toList b.toList out.toList ia ib) (e:(ia==a.size)=vj):LoR gr a b st (loD a b out ia ib) st':=by
 have e:ia=a.toList.length:=by rw[Om]; exact Oj.mp e
 subst e
 have:=mi.doneA T.ub
 refine ⟨sm,?_⟩
 unfold Mgd loD
 rw[O8,O8,eZ,eZ,QY,PU]
 exact this
theorem jY (T:Two gr go a b) (sm:Sm st st') (mi:MI gr a.toList b.toList out.toList ia ib) (e:(ia+1==a.size)=vj):LoR gr a b st (loL a b out ia ib) st':=by
 have e:ia+1=a.toList.length:=by rw[Om]; exact Oj.mp e
 have h:a.toList.length=a.size:=Om ..
 have:=mi.last T.ua T.ub e (λx i y g=>by
  have j:a.toList.drop ia=[a[a.size-1]'(Tv T.ha)]:=by
   rw[PM (E0 e),Tu.mpr (IQ e)]
   congr 1
   rw[Array.getElem_toList]; congr 1; exact Ht e h
  rw[j] at g
  rw[N1.mp g]
  exact T.h1 x i)
 refine ⟨sm,?_⟩
 unfold Mgd loL
 rw[O8,O8,eZ,eZ]
 exact this
theorem aS (h:¬ (x==y)=vj):x≠y:=λe=>h (Oj.mpr e)
theorem wi (T:Two gr go a b) (hn:x<=m) (sm:Sm st st') (mi:MI gr a.toList b.toList out.toList ia ib) (ga:ia+1<a.size) (gb:ib<=b.size) (gn:m<=ia+ib):wpS gM gA gE gs (zy a b mg out ia ib bc) (Po (Lo6 gr a b st) x m (LoR gr a b st)) st' :=
 aF (λc=>Ol (.inl ⟨_,rfl,jT T sm mi c⟩)) λc=>by
  have S:LoS gr a b st m out ia ib st':=⟨sm,mi,ga,by have:=aS c; exact Ay gb this,gn⟩
  exact aF (λ_=>Ol (.inr ⟨rfl,S.less hn⟩)) λ_=>Ol ⟨rfl,S⟩
theorem wG (T:Two gr go a b) (hn:x<=m) (sm:Sm st st') (mi:MI gr a.toList b.toList out.toList ia ib) (ga:ia<a.size) (gb:ib<b.size) (gn:m<=ia+ib):wpS gM gA gE gs (Ao a b mg out ia ib ac) (Po (Lo6 gr a b st) x m (LoR gr a b st)) st' :=
 aF (λc=>Ol (.inl ⟨_,rfl,jY T sm mi c⟩)) λc=>by
  have S:LoS gr a b st m out ia ib st':=⟨sm,mi,by have:=aS c; exact AW ga this,gb,gn⟩
  exact aF (λ_=>Ol (.inr ⟨rfl,S.less hn⟩)) λ_=>Ol ⟨rfl,S⟩
theorem Bq (hlt:bC gM gA gE gs gr go gk) (T:Two gr go a b) (hk:kindOf st=gk) (hn:x<=n+1) (S:Lo6 gr a b st n c st'):wpS gM gA gE gs (loW a b mg c) (Po (Lo6 gr a b st) x (n+1) (LoR gr a b st)) st':=by
 obtain ⟨z,l,i,o,v,u⟩:=c
 obtain ⟨t,k,m,j,h,r⟩:=S
 dsimp only at t m j h r
 have g:i<a.size:=SQ j
 refine Oa (aO h (Oa (aO g (Oa (hlt (T.ob _ (Qh _)) (T.oa _ (Qh _)) (k.1.trans hk) ?_)))))
 show wpS gM gA gE gs (CM a b mg l i o v u (decide (gr b[o]<gr a[i]))) _ st'
 refine aF (λw=>Oa (aO h ?_)) λw=>Oa (aO g ?_)
 ·replace w:=Oy w
  refine wi T hn k ?_ j h (Ek r)
  rw[Rc]
  exact m.pushB T.ub (by rw[Om]; exact h) (λy p=>vc (Oq w) (T.ua.le (by rw[Om]; exact g) y p))
 ·replace w:¬ gr b[o]<gr a[i]:=λq=>w (OA q)
  refine wG T hn k ?_ j h (A3 r)
  rw[Rc]
  exact m.pushA T.ua (by rw[Om]; exact g) (λy p=>vc (OO w) (T.ub.le (by rw[Om]; exact h) y p))
theorem rJ (T:Two gr go a b) (hn:x<=n+1) (S:LoS gr a b st n out ia ib st') (kA:∀ y∈b.toList.drop ib,∀ h:ia<a.size,gr a[ia]<=gr y):wpS gM gA gE gs (yt a b mg k l out ia ib) (Po (Lo7 gr a b st) x (n+1) (LoR gr a b st)) st':=by
 obtain ⟨j,o,m,r,q⟩:=S
 have g:ia<a.size:=SQ m
 refine Oa (aO g ?_)
 have i:MI gr a.toList b.toList (out.push a[ia]).toList (ia+1) ib:=by
  rw[Rc]
  exact o.pushA T.ua (by rw[Om]; exact g) λy p=>kA y p g
 refine aF (λc=>Ol (.inl ⟨_,rfl,jY T j i c⟩)) λc=>?_
 have S:LoS gr a b st (n+1) (out.push a[ia]) (ia+1) ib st':=⟨j,i,by have:=aS c; exact FC m this,r,by exact A3 q⟩
 exact aF (λ_=>Ol (.inr ⟨rfl,S.less hn⟩)) λ_=>Ol ⟨rfl,S⟩
theorem qH (hlt:bC gM gA gE gs gr go gk) (T:Two gr go a b) (hk:kindOf st=gk) (hn:x<=n+1) (S:LoS gr a b st n out ia ib st') (kB:∀ y∈a.toList.drop ia,∀ h:ib<b.size,gr b[ib]<=gr y):wpS gM gA gE gs (ul a b mg k bc out ia ib) (Po (Lo7 gr a b st) x (n+1) (LoR gr a b st)) st':=by
 obtain ⟨r,mi,ga,t,gn⟩:=S
 have o:ia<a.size:=SQ ga
 refine Oa (aO t ?_)
 have g:MI gr a.toList b.toList (out.push b[ib]).toList ia (ib+1):=by
  rw[Rc]
  exact mi.pushB T.ub (by rw[Om]; exact t) λy i=>kB y i t
 generalize out.push b[ib]=out2 at g ⊢
 refine aF (λc=>Ol (.inl ⟨_,rfl,jT T r g c⟩)) λc=>?_
 have m:ib+1<b.size:=by have:=aS c; exact AW t this
 clear c mi
 refine Oa (aO o (Oa (dR hlt (JN m) (Gy m) T.ob (T.oa _ (Qh _)) (r.1.trans hk) T.ub λl l1 v l3=>?_)))
 simp only[Qz] at v l3
 have z:∀ y∈b.toList.drop (ib+1+l),∀ h:ia<a.size,gr a[ia]<=gr y:=λy i _=>drop_mem' (P:=λy=>gr a[ia]<=gr y) (λq p=>by
  have lb:b.toList.length=b.size:=Om ..
  have:=l3 (l+q) (II p) Al (Ja p lb)
  simp only[<- PI] at this
  exact this) y i
 show wpS gM gA gE gs (Df a b mg k l out2 ia (ib+1)) _ st'
 refine aF (λu=>aF (λc=>Ol (.inl ⟨_,rfl,jT T r ?_ c⟩)) λc=>rJ T hn ⟨r,?_,ga,by have:=aS c; exact Ez l1 u this,by exact Fj gn⟩ z) λu=>rJ T hn ⟨r,g,ga,m,by exact Hf gn⟩ ?_
 ·rw[O8,bT,Pc]
  exact g.blockB T.ub l (fX λq p j y i=>vc (Oq (v q p j)) (T.ua.le (by rw[Om]; exact o) y i))
 ·rw[O8,bT,Pc]
  exact g.blockB T.ub l (fX λq p j y i=>vc (Oq (v q p j)) (T.ua.le (by rw[Om]; exact o) y i))
 ·have e0:l=0:=Rm u
  rw[e0,Vw] at z
  exact z
theorem qc (hlt:bC gM gA gE gs gr go gk) (T:Two gr go a b) (hk:kindOf st=gk) (hn:x<=n+1) (S:LoS gr a b st n out ia ib st'):wpS gM gA gE gs (yj a b ac bc out ia ib mg) (Po (Lo7 gr a b st) x (n+1) (LoR gr a b st)) st':=by
 obtain ⟨i,mi,v,m,gn⟩:=S
 refine Oa (fJ λg o=>?_)
 replace i:=i.trans o
 refine Oa (aO m (Oa (dR hlt (EX v) (HG v) T.oa (T.ob _ (Qh _)) (i.1.trans hk) T.ua λk k1 k2 k3=>?_)))
 simp only[OL,PA] at k2 k3
 have p:∀ y∈a.toList.drop (ia+k),∀ h:ib<b.size,gr b[ib]<=gr y:=λy t _=>drop_mem' (P:=λy=>gr b[ib]<=gr y) (λq l=>by
  have la:a.toList.length=a.size:=Om ..
  have:=k3 (k+q) (HE l) Al (GM l la)
  simp only[<- PI] at this
  exact Oq this) y t
 show wpS gM gA gE gs (if k>0 then loT1' a b mg k bc (out++a.extract ia (ia+k)) (ia+k) ib else ul a b mg k bc out ia ib) _ g
 refine aF (λr=>?_) λr=>qH hlt T hk hn ⟨i,mi,v,m,gn⟩ ?_
 ·have j:MI gr a.toList b.toList (out++a.extract ia (ia+k)).toList (ia+k) ib:=by
   rw[O8,bT,Pc]
   exact mi.blockA T.ua k (fX λq l u y t=>vc (k2 q l u) (T.ub.le (by rw[Om]; exact m) y t))
  exact aF (λc=>Ol (.inl ⟨_,rfl,jY T i j c⟩)) λc=>aF (λz=>Ol (.inl ⟨_,rfl,BD T i j z⟩)) λz=>qH hlt T hk hn ⟨i,j,by have:=aS c; have:=aS z; exact E2 k1 r ‹_› this,m,by exact J7 gn⟩ p
 ·have e0:k=0:=Rm r
  rw[e0,Vw] at p
  exact p
theorem Cq (hlt:bC gM gA gE gs gr go gk) (T:Two gr go a b) (hk:kindOf st=gk) (hn:x<=n+1) (S:Lo7 gr a b st n c st'):wpS gM gA gE gs (loG a b c) (Po (Lo7 gr a b st) x (n+1) (LoR gr a b st)) st' :=
 aF (λ_=>qc hlt T hk hn S.2) λ_=>qc hlt T hk hn S.2
theorem d8 {α:Type}{I:N7->NX (Oe N8)×α->On->Prop}{R:Oe N8->On->Prop}{t n z:N7}{f:NX (Oe N8)×α->SM (OB (NX (Oe N8)×α))}{c:NX (Oe N8)×α}(h0:I n c st') (hend:∀ c st',¬ I (n+t) c st')
  (hs:∀ y c st',y<t->I (n+y) c st'->wpS gM gA gE gs (f c) (Po I z (n+y+1) R) st'):wpS gM gA gE gs (Ud [:t] c λ_ c=>f c) (En I z R) st' :=
 Qa (λy c st'=>I (n+y) c st') (λy c st' _ g i=>QF (hs y c st' g i) λr st' h=>by cases r<;>exact h) (λc st' h=>N5 (by rwa [Nat.max_eq_right (Pf t)] at h) (hend c st')) h0
def Lo5 (gr:N8->N7) (a b:Oe N8) (st:On) (n:N7) (c:G5) (st':On):Prop:=c.1=NI/\LoS gr a b st n c.2.1 c.2.2.1 c.2.2.2.1 st'
theorem LoS.over (S:LoS gr a b st n out ia ib st') (h:a.size+b.size<=n+1):False:=by have:=S.ga; have:=S.gb; have:=S.gn; exact Ec h ‹_› ‹_› this
theorem B4 (hlt:bC gM gA gE gs gr go gk) (T:Two gr go a b) (hk:kindOf st=gk) (z:N7) (S:Lo5 gr a b st (n+1) c st'):wpS gM gA gE gs (loB a b c) (Po (Lo5 gr a b st) z (n+2) (LoR gr a b st)) st':=by
 refine Oa (QF (d8 (I:=Lo6 gr a b st) (n:=n+1) (z:=n+2) (R:=LoR gr a b st) ⟨rfl,S.2⟩ (λc st' h=>h.2.over Gc) λy c st' k h=>Bq hlt T hk AS h) λd g h=>?_)
 rcases h with ⟨r,e,h⟩ | ⟨e,S⟩
 ·rw[e]; exact Ol (.inl ⟨r,rfl,h⟩)
 ·rw[e]
  refine Oa (d7 (Oa (QF (d8 (I:=Lo7 gr a b st) (n:=n+2) (z:=n+2) (R:=LoR gr a b st) ⟨rfl,S⟩ (λc st' h=>h.2.over EG) λy c st' k h=>Cq hlt T hk zE h) λd g h=>?_)))
  rcases h with ⟨r,e,h⟩ | ⟨e,S⟩
  ·rw[e]; exact Ol (.inl ⟨r,rfl,h⟩)
  ·rw[e]
   exact Oa (fJ λi j=>Ol ⟨rfl,S.sm.trans j,S.mi,S.ga,S.gb,S.gn⟩)
end
theorem rO (hlt:bC gM gA gE gs gr go gk) {a b:Oe N8}{st:On}{Q:Oe N8->On->Prop}(ha:1<=a.size) (hb:1<=b.size) (oa:∀ p∈a,go p) (ob:∀ p∈b,go p) (hk:kindOf st=gk) (ua:Up gr a.toList) (ub:Up gr b.toList)
  (h0:∀ y∈a.toList,gr (b[0]'hb)<=gr y) (h1:∀ x∈b.toList,gr x<=gr (a[a.size-1]'(by exact tU ha))) (h:∀ r st',Sm st st'->Mgd gr a.toList b.toList r->Q r st'):wpS gM gA gE gs (mergeLo' a b) Q st:=by
 have T:Two gr go a b:=⟨ha,hb,oa,ob,ua,ub,h0,h1⟩
 rw[uw]
 refine Oa (d7 (Oa (aO hb ?_)))
 have i:MI gr a.toList b.toList (#[b[0]'hb]:Oe N8).toList 0 1:=by
  have k:MI gr a.toList b.toList [] 0 0:=⟨.nil,.nil,λ_ h=>(nomatch h),λ_ h=>(nomatch h)⟩
  exact k.pushB ub (by rw[Om]; exact hb) (by rw[RF]; exact h0)
 have fin:∀ r st',LoR gr a b st r st'->Q r st':=λr st' q=>h r st' q.1 q.2
 refine aF (λc=>Ol (fin _ _ (jT T (.refl st) i c))) λc=>aF (λj=>Ol (fin _ _ (jY T (.refl st) i j))) λj=>?_
 refine Oa (Su (Oa (QF (d8 (I:=Lo5 gr a b st) (n:=1) (z:=a.size+b.size+1) (R:=LoR gr a b st) ⟨rfl,.refl st,i,by have:=aS j; lia,by have:=aS c; lia,Ow _⟩ (λc st' h=>h.2.over Ew) λy c st' l h=>?_) λd g h=>?_)))
 ·rw[Tr 1 y] at h ⊢
  exact B4 hlt T hk _ h
 ·rcases h with ⟨r,e,h⟩ | ⟨e,S⟩
  ·rw[e]; exact Ol (fin _ _ h)
  ·exact (S.over HO).elim
end
noncomputable def mergeHi':Oe N8->Oe N8->SC On Sem (Oe N8):=sortPriv% PySem.Builtin.mergeHi
theorem Up.ge {gr:N8->N7}(h:Up gr l) (hi:i<l.length):∀ y∈l.take (i+1),gr y<=gr l[i]:=by
 intro y hy
 rw[SZ hi] at hy
 rcases Op.mp hy with hy | hy
 ·have:=Qi.mp (show (l.take i++l.drop i).Pairwise _ by rw[Pj]; exact h)
  exact this.2.2 y hy l[i] (by rw[PM hi]; exact .head _)
 ·rw[N1.mp hy]; exact Ow _
structure MH (gr:N8->N7) (a b o:uq N8) (i j:N7):Prop where
 perm:o.Perm (a.drop i++b.drop j)
 sorted:Up gr o.reverse
 la:∀ x∈a.take i,∀ y∈o,gr x<=gr y
 lb:∀ x∈b.take j,∀ y∈o,gr x<=gr y
section
theorem MH.swap (h:MH gr a b o i j):MH gr b a o j i:=⟨h.perm.trans QP,h.sorted,h.lb,h.la⟩
theorem rh {α:Type}{l:uq α}{c i:N7}(hc:c<=i):l.take i=l.take c++(l.drop c).take (i-c):=by
 have:=take_add' l c (i-c)
 rwa [show c+(i-c)=i by exact j9 hc] at this
theorem xR {α:Type}{l:uq α}{c i:N7}(hc:c<=i):l.drop c=(l.drop c).take (i-c)++l.drop i:=by
 have:=(Pj (i-c) (l.drop c)).symm
 rwa [R5,show c+(i-c)=i by exact j9 hc] at this
theorem MH.blockA (h:MH gr a b o i j) (ua:Up gr a) (c:N7) (hc:c<=i) (hlt:∀ x∈(a.drop c).take (i-c),∀ y∈b.take j,gr y<=gr x):MH gr a b (o++((a.drop c).take (i-c)).reverse) c j where
 perm:=by
  have e:a.drop c++b.drop j=(a.drop c).take (i-c)++(a.drop i++b.drop j):=by
   rw[<- Pk]
   exact PG (· ++ b.drop j) (xR hc)
  rw[e]
  exact (h.perm.append (Uf _)).trans QP
 sorted:=by
  rw[TJ,Tw]
  refine Qi.mpr ⟨(ua.sublist (S0 c a)).sublist (WP ..),h.sorted,λx hx y hy=>h.la x ?_ y (Tg.mp hy)⟩
  rw[rh hc]; exact OU _ hx
 la:=λx hx y hy=>(Op.mp hy).elim (λq=>h.la x (by rw[rh hc]; exact OV _ hx) y q) λq=>by
  have:=Qi.mp (show (a.take c++a.drop c).Pairwise _ by rw[Pj]; exact ua)
  exact this.2.2 x hx y (Qg (Tg.mp q))
 lb:=λx hx y hy=>(Op.mp hy).elim (λq=>h.lb x hx y q) λq=>hlt y (Tg.mp q) x hx
theorem MH.blockB (h:MH gr a b o i j) (ub:Up gr b) (c:N7) (hc:c<=j) (hlt:∀ x∈(b.drop c).take (j-c),∀ y∈a.take i,gr y<=gr x):MH gr a b (o++((b.drop c).take (j-c)).reverse) i c:=(h.swap.blockA ub c hc hlt).swap
theorem MH.pushA (h:MH gr a b o (i+1) j) (ua:Up gr a) (hi:i<a.length) (hlt:∀ y∈b.take j,gr y<=gr a[i]):MH gr a b (o++[a[i]]) i j:=by
 have:=h.blockA ua i Fk (by rw[show i+1-i=1 by exact Ar,f0 hi]; intro x g; rw[N1.mp g]; exact hlt)
 rwa [show i+1-i=1 by exact Ar,f0 hi] at this
theorem MH.pushA' (h:MH gr a b o i j) (ua:Up gr a) (h0:0<i) (hi:i-1<a.length) (hlt:∀ y∈b.take j,gr y<=gr a[i-1]):MH gr a b (o++[a[i-1]]) (i-1) j :=
 MH.pushA (by rw[Rl h0]; exact h) ua hi hlt
theorem MH.pushB' (h:MH gr a b o i j) (ub:Up gr b) (h0:0<j) (hj:j-1<b.length) (hlt:∀ y∈a.take i,gr y<=gr b[j-1]):MH gr a b (o++[b[j-1]]) i (j-1):=(h.swap.pushA' ub h0 hj hlt).swap
theorem MH.doneA (h:MH gr a b o 0 j) (ub:Up gr b):(b.take j++o.reverse).Perm (a++b)/\Up gr (b.take j++o.reverse):=by
 have:=h.blockB ub 0 (Pf _) (λx _ y g=>by rw[VH] at g; cases g)
 rw[RF,WQ] at this
 have e:(o++(b.take j).reverse).reverse=b.take j++o.reverse:=by rw[TJ,Tw]
 rw[<- e]
 exact ⟨(Uf _).trans (by have:=this.perm; rwa [RF] at this),this.sorted⟩
theorem MH.doneB (h:MH gr a b o i 0) (ua:Up gr a):(a.take i++o.reverse).Perm (a++b)/\Up gr (a.take i++o.reverse):=by
 obtain ⟨j,g⟩:=h.swap.doneA ua
 exact ⟨j.trans QP,g⟩
theorem MH.first (h:MH gr a b o i 1) (ua:Up gr a) (ub:Up gr b) (ht:∀ x∈b.take 1,∀ y∈a,gr x<=gr y):(b.take 1++a.take i++o.reverse).Perm (a++b)/\Up gr (b.take 1++a.take i++o.reverse):=by
 have:=h.blockA ua 0 (Pf _) (λx j y g=>ht y g x (Qg j))
 rw[RF,WQ] at this
 have:=this.doneA ub
 rwa [TJ,Tw,<- Pk] at this
end
section
theorem ej (a:Oe N8) (i:N7):(a.extract 0 i).toList=a.toList.take i:=by rw[bT,RF,WQ]
theorem rq {l:uq N8}{n:N7}{P:N8->Prop}(h:∀ q (hq:q<l.length),q<n->P l[q]):∀ x∈l.take n,P x:=by
 intro x g
 obtain ⟨q,hq,rfl⟩:=Q9 g
 rw[QX] at hq
 rw[TO]
 exact h q (Iu hq) (Je hq)
abbrev H5:Type:=NX (Oe N8)×N7×N7×Oe N8×N7
abbrev H6:Type:=NX (Oe N8)×N7×N7×Oe N8×N7×N7
abbrev H7:Type:=NX (Oe N8)×N7×N7×Oe N8×N7×N7×N7
noncomputable def hiD (a b out:Oe N8) (na nb:N7):Oe Keyed:=a.extract 0 na++b.extract 0 nb++out.reverse
noncomputable def hiF (a b out:Oe N8) (na nb:N7):Oe Keyed:=b.extract 0 nb++a.extract 0 na++out.reverse
noncomputable def A1 (a b:Oe N8) (mg na nb:N7) (out:Oe N8) (ac:N7):SM (OB H6) :=
 if (na==0)=vj then Pu (.done (ti (hiD a b out na nb),na,nb,out,ac,0)) else if ac≥mg then Pu (.done (NI,na,nb,out,ac,0)) else Pu (.yield (NI,na,nb,out,ac,0))
noncomputable def Ax (a b:Oe N8) (mg na nb:N7) (out:Oe N8) (bc:N7):SM (OB H6) :=
 if (nb==1)=vj then Pu (.done (ti (hiF a b out na nb),na,nb,out,0,bc)) else if bc≥mg then Pu (.done (NI,na,nb,out,0,bc)) else Pu (.yield (NI,na,nb,out,0,bc))
noncomputable def Dr (a b:Oe N8) (mg na nb:N7) (out:Oe N8) (ac bc:N7) (w:OF):SM (OB H6) :=
 if w=vj then elem' a (na-1)>>=λx=>A1 a b mg (na-1) nb (out.push x) (ac+1) else elem' b (nb-1)>>=λx=>Ax a b mg na (nb-1) (out.push x) (bc+1)
noncomputable def K6 (a b:Oe N8) (mg na nb:N7) (out:Oe N8) (ac bc:N7):NX OF->SM (OB H6)
 | some w=>Dr a b mg na nb out ac bc w
 | _=>Pu (.done (ti (hiD a b out na nb),na,nb,out,ac,bc))
noncomputable def hiW (a b:Oe N8) (mg:N7) (c:H6):SM (OB H6) :=
 elem' b (c.2.2.1-1)>>=λp=>elem' a (c.2.1-1)>>=λq=>lt' p q>>=K6 a b mg c.2.1 c.2.2.1 c.2.2.2.1 c.2.2.2.2.1 c.2.2.2.2.2
noncomputable def hiT4' (a b:Oe N8) (mg k l na nb:N7) (out:Oe N8):SM (OB H7) :=
 if (na==0)=vj then Pu (.done (ti (hiD a b out na nb),na,nb,out,mg,k,l))
 else if (decide (k<7)&&decide (l<7))=vj then Pu (.done (NI,na,nb,out,mg,k,l)) else Pu (.yield (NI,na,nb,out,mg,k,l))
noncomputable def um (a b:Oe N8) (mg k l na nb:N7) (out:Oe N8):SM (OB H7):=elem' a (na-1)>>=λx=>hiT4' a b mg k l (na-1) nb (out.push x)
noncomputable def hiT3' (a b:Oe N8) (mg k l na nb:N7) (out:Oe N8):SM (OB H7) :=
 if (nb==1)=vj then Pu (.done (ti (hiF a b out na nb),na,nb,out,mg,k,l)) else if (nb==0)=vj then Pu (.done (ti (hiD a b out na nb),na,nb,out,mg,k,l)) else um a b mg k l na nb out
noncomputable def GW (a b:Oe N8) (mg k bc na nb:N7) (out:Oe N8):NX N7->SM (OB H7)
 | some l=>if nb-l>0 then hiT3' a b mg k (nb-l) na l (out++(b.extract l nb).reverse) else um a b mg k (nb-l) na nb out
 | _=>Pu (.done (ti (hiD a b out na nb),na,nb,out,mg,k,bc))
noncomputable def hiT2' (a b:Oe N8) (mg k bc na nb:N7) (out:Oe N8):SM (OB H7) :=
 if (nb==1)=vj then Pu (.done (ti (hiF a b out na nb),na,nb,out,mg,k,bc)) else elem' a (na-1)>>=λy=>gallop' vj y b 0 nb (nb-1)>>=GW a b mg k bc na nb out
noncomputable def sX (a b:Oe N8) (mg k bc na nb:N7) (out:Oe N8):SM (OB H7):=elem' b (nb-1)>>=λx=>hiT2' a b mg k bc na (nb-1) (out.push x)
noncomputable def hiT1' (a b:Oe N8) (mg k bc na nb:N7) (out:Oe N8):SM (OB H7) :=
 if (na==0)=vj then Pu (.done (ti (hiD a b out na nb),na,nb,out,mg,k,bc)) else sX a b mg k bc na nb out
noncomputable def Iv (a b:Oe N8) (mg ac bc na nb:N7) (out:Oe N8):NX N7->SM (OB H7)
 | some k=>if na-k>0 then hiT1' a b mg (na-k) bc k nb (out++(a.extract k na).reverse) else sX a b mg (na-k) bc na nb out
 | _=>Pu (.done (ti (hiD a b out na nb),na,nb,out,mg,ac,bc))
noncomputable def y8 (a b:Oe N8) (ac bc na nb:N7) (out:Oe N8) (mg:N7):SM (OB H7) :=
 setMin' mg>>=λ_=>elem' b (nb-1)>>=λx=>gallop' NY x a 0 na (na-1)>>=Iv a b mg ac bc na nb out
noncomputable def hiG (a b:Oe N8) (c:H7):SM (OB H7) :=
 if c.2.2.2.2.1>1 then y8 a b c.2.2.2.2.2.1 c.2.2.2.2.2.2 c.2.1 c.2.2.1 c.2.2.2.1 (c.2.2.2.2.1-1) else y8 a b c.2.2.2.2.2.1 c.2.2.2.2.2.2 c.2.1 c.2.2.1 c.2.2.2.1 c.2.2.2.2.1
noncomputable def Lo (c:H7):NX (Oe N8)->SM (OB H5)
 | some r=>Pu (.done (ti r,c.2.1,c.2.2.1,c.2.2.2.1,c.2.2.2.2.1))
 | none=>setMin' (c.2.2.2.2.1+1)>>=λ_=>Pu (.yield (NI,c.2.1,c.2.2.1,c.2.2.2.1,c.2.2.2.2.1+1))
noncomputable def KO (a b:Oe N8) (mg:N7) (c:H6):NX (Oe N8)->SM (OB H5)
 | some r=>Pu (.done (ti r,c.2.1,c.2.2.1,c.2.2.2.1,mg))
 | none=>(Zv (rule "list.sort.gallop"):SM T6)>>=λ_=>Ud [:a.size+b.size] ((NI,c.2.1,c.2.2.1,c.2.2.2.1,mg+1,c.2.2.2.2.1,c.2.2.2.2.2):H7) (λ_ c=>hiG a b c)>>=λd=>Lo d d.1
noncomputable def hiB (a b:Oe N8) (c:H5):SM (OB H5) :=
 Ud [:a.size+b.size] ((NI,c.2.1,c.2.2.1,c.2.2.2.1,0,0):H6) (λ_ d=>hiW a b c.2.2.2.2 d)>>=λd=>KO a b c.2.2.2.2 d d.1
noncomputable def hiM (a b:Oe N8) (x:N8):SM (Oe N8) :=
 if (a.size-1==0)=vj then Pu (hiD a b #[x] (a.size-1) b.size) else if (b.size==1)=vj then Pu (hiF a b #[x] (a.size-1) b.size) else (get:SM On)>>=λg=>Ud [:a.size+b.size] ((NI,a.size-1,b.size,#[x],DS g):H5) (λ_ c=>hiB a b c)>>=λc=>loE c.1
noncomputable def Hc (a b:Oe N8):SM (Oe N8):=(Zv (rule "list.sort.merge-hi"):SM T6)>>=λ_=>elem' a (a.size-1)>>=hiM a b
theorem uH (a b:Oe N8):mergeHi' a b=Hc a b:=by kernel_rfl
structure HiS (gr:N8->N7) (a b:Oe N8) (st:On) (n na nb:N7) (out:Oe N8) (st':On):Prop where
 sm:Sm st st'
 mi:MH gr a.toList b.toList out.toList na nb
 ga:0<na
 ga':na<=a.size
 gb:1<nb
 gb':nb<=b.size
 gn:n+na+nb<=a.size+b.size
def Hi5 (gr:N8->N7) (a b:Oe N8) (st:On) (n:N7) (c:H5) (st':On):Prop:=c.1=NI/\HiS gr a b st n c.2.1 c.2.2.1 c.2.2.2.1 st'
def Hi6 (gr:N8->N7) (a b:Oe N8) (st:On) (n:N7) (c:H6) (st':On):Prop:=c.1=NI/\HiS gr a b st n c.2.1 c.2.2.1 c.2.2.2.1 st'
def Hi7 (gr:N8->N7) (a b:Oe N8) (st:On) (n:N7) (c:H7) (st':On):Prop:=c.1=NI/\HiS gr a b st n c.2.1 c.2.2.1 c.2.2.2.1 st'
section
variable {a b:Oe N8}{st st':On}{out:Oe N8}{na nb n m x mg k l ac bc:N7}
theorem HiS.less (h:HiS gr a b st n na nb out st') (hm:m<=n):HiS gr a b st m na nb out st':=⟨h.sm,h.mi,h.ga,h.ga',h.gb,h.gb',by have:=h.gn; exact FY hm this⟩
theorem HiS.over (S:HiS gr a b st n na nb out st') (h:a.size+b.size<=n):False:=by have:=S.ga; have:=S.gb; have:=S.gn; exact HJ h ‹_› this
theorem kz (T:Two gr go a b) (sm:Sm st st') (m:MH gr a.toList b.toList out.toList na nb) (e:(na==0)=vj):LoR gr a b st (hiD a b out na nb) st':=by
 cases Oj.mp e
 have:=m.doneA T.ub
 refine ⟨sm,?_⟩
 unfold Mgd hiD
 rw[O8,O8,ej,ej,VH,Vg,S1]
 exact this
theorem Bm (T:Two gr go a b) (sm:Sm st st') (m:MH gr a.toList b.toList out.toList na nb) (e:(nb==0)=vj):LoR gr a b st (hiD a b out na nb) st':=by
 cases Oj.mp e
 have:=m.doneB T.ua
 refine ⟨sm,?_⟩
 unfold Mgd hiD
 rw[O8,O8,ej,ej,VH,PU,S1]
 exact this
theorem kv (T:Two gr go a b) (sm:Sm st st') (m:MH gr a.toList b.toList out.toList na nb) (e:(nb==1)=vj):LoR gr a b st (hiF a b out na nb) st':=by
 cases Oj.mp e
 have:=m.first T.ua T.ub (λx g y h=>by
  have j:b.toList.take 1=[b[0]'T.hb]:=by
   have:=f0 (l:=b.toList) (i:=0) (by rw[Om]; exact T.hb)
   rw[RF] at this
   rw[this]; rfl
  rw[j] at g
  rw[N1.mp g]
  exact T.h0 y h)
 refine ⟨sm,?_⟩
 unfold Mgd hiF
 rw[O8,O8,ej,ej,S1]
 exact this
theorem kc {c:Oe N8}(u:Up gr c.toList) {i:N7}(h0:0<i) (hi:i-1<c.size):∀ y∈c.toList.take i,gr y<=gr c[i-1]:=λy g=>u.ge (i:=i-1) (by rw[Om]; exact hi) y (by rwa [Rl h0])
theorem vK (T:Two gr go a b) (hn:x<=m) (sm:Sm st st') (mi:MH gr a.toList b.toList out.toList na nb) (ga':na<=a.size) (gb:1<nb) (gb':nb<=b.size) (gn:m+na+nb<=a.size+b.size):wpS gM gA gE gs (A1 a b mg na nb out ac) (Po (Hi6 gr a b st) x m (LoR gr a b st)) st' :=
 aF (λc=>Ol (.inl ⟨_,rfl,kz T sm mi c⟩)) λc=>by
  have S:HiS gr a b st m na nb out st':=⟨sm,mi,by have:=aS c; exact uE this,ga',gb,gb',gn⟩
  exact aF (λ_=>Ol (.inr ⟨rfl,S.less hn⟩)) λ_=>Ol ⟨rfl,S⟩
theorem vT (T:Two gr go a b) (hn:x<=m) (sm:Sm st st') (mi:MH gr a.toList b.toList out.toList na nb) (ga:0<na) (ga':na<=a.size) (gb:0<nb) (gb':nb<=b.size) (gn:m+na+nb<=a.size+b.size):wpS gM gA gE gs (Ax a b mg na nb out bc) (Po (Hi6 gr a b st) x m (LoR gr a b st)) st' :=
 aF (λc=>Ol (.inl ⟨_,rfl,kv T sm mi c⟩)) λc=>by
  have S:HiS gr a b st m na nb out st':=⟨sm,mi,ga,ga',by have:=aS c; exact JP gb this,gb',gn⟩
  exact aF (λ_=>Ol (.inr ⟨rfl,S.less hn⟩)) λ_=>Ol ⟨rfl,S⟩
theorem B6 (hlt:bC gM gA gE gs gr go gk) (T:Two gr go a b) (hk:kindOf st=gk) (hn:x<=n+1) (S:Hi6 gr a b st n c st'):wpS gM gA gE gs (hiW a b mg c) (Po (Hi6 gr a b st) x (n+1) (LoR gr a b st)) st':=by
 obtain ⟨c0,m,l,p,ac,z⟩:=c
 obtain ⟨v,o,r,j,i,h,g,u⟩:=S
 dsimp only at v r j i h g u
 have k:m-1<a.size:=by exact uT j i
 have pb:l-1<b.size:=by exact tI h g
 refine Oa (aO pb (Oa (aO k (Oa (hlt (T.ob _ (Qh _)) (T.oa _ (Qh _)) (o.1.trans hk) ?_)))))
 show wpS gM gA gE gs (Dr a b mg m l p ac z (decide (gr b[l-1]<gr a[m-1]))) _ st'
 refine aF (λw=>Oa (aO k ?_)) λw=>Oa (aO pb ?_)
 ·replace w:=Oy w
  refine vK T hn o ?_ (o9 k) h g (zN j u)
  rw[Rc]
  exact r.pushA' T.ua j (by rw[Om]; exact k) (λy t=>vc (kc T.ub (o4 h) pb y t) (Oq w))
 ·replace w:¬ gr b[l-1]<gr a[m-1]:=λq=>w (OA q)
  refine vT T hn o ?_ j i (F4 h) (o9 pb) (HP h u)
  rw[Rc]
  exact r.pushB' T.ub (o4 h) (by rw[Om]; exact pb) (λy t=>vc (kc T.ua j k y t) (OO w))
theorem qZ (T:Two gr go a b) (hn:x<=n+1) (S:HiS gr a b st n na nb out st') (kA:∀ y∈b.toList.take nb,∀ h:na-1<a.size,gr y<=gr a[na-1]):wpS gM gA gE gs (um a b mg k l na nb out) (Po (Hi7 gr a b st) x (n+1) (LoR gr a b st)) st':=by
 obtain ⟨p,q,o,m,u,j,t⟩:=S
 have i:na-1<a.size:=by exact uT o m
 refine Oa (aO i ?_)
 have g:MH gr a.toList b.toList (out.push a[na-1]).toList (na-1) nb:=by
  rw[Rc]
  exact q.pushA' T.ua o (by rw[Om]; exact i) λy r=>kA y r i
 refine aF (λc=>Ol (.inl ⟨_,rfl,kz T p g c⟩)) λc=>?_
 have S:HiS gr a b st (n+1) (na-1) nb (out.push a[na-1]) st':=⟨p,g,by have:=aS c; exact Hs this,by exact o9 i,u,j,by exact zN o t⟩
 exact aF (λ_=>Ol (.inr ⟨rfl,S.less hn⟩)) λ_=>Ol ⟨rfl,S⟩
theorem pO (hlt:bC gM gA gE gs gr go gk) (T:Two gr go a b) (hk:kindOf st=gk) (hn:x<=n+1) (S:HiS gr a b st n na nb out st') (kB:∀ y∈a.toList.take na,∀ h:nb-1<b.size,gr y<=gr b[nb-1]):wpS gM gA gE gs (sX a b mg k bc na nb out) (Po (Hi7 gr a b st) x (n+1) (LoR gr a b st)) st':=by
 obtain ⟨o,mi,t,m,gb,gb',gn⟩:=S
 have pa:na-1<a.size:=by exact uT t m
 have pb:nb-1<b.size:=by exact tI gb gb'
 refine Oa (aO pb ?_)
 have g:MH gr a.toList b.toList (out.push b[nb-1]).toList na (nb-1):=by
  rw[Rc]
  exact mi.pushB' T.ub (o4 gb) (by rw[Om]; exact pb) λy p=>kB y p pb
 generalize out.push b[nb-1]=out2 at g ⊢
 refine aF (λc=>Ol (.inl ⟨_,rfl,kv T o g c⟩)) λc=>?_
 have r:1<nb-1:=by have:=aS c; exact Jd gb this
 clear c mi kB
 refine Oa (aO pa (Oa (dR hlt (IN pb) (IM r) T.ob (T.oa _ (Qh _)) (o.1.trans hk) T.ub λl v l2 l3=>?_)))
 simp only[Qz,PV] at l2 l3
 have z:∀ y∈b.toList.take l,∀ h:na-1<a.size,gr y<=gr a[na-1]:=λy p _=>rq (P:=λy=>gr y<=gr a[na-1]) (λq hq j=>Oq (l2 q hq j)) y p
 show wpS gM gA gE gs (if nb-1-l>0 then hiT3' a b mg k (nb-1-l) na l (out2++(b.extract l (nb-1)).reverse) else um a b mg k (nb-1-l) na (nb-1) out2) _ st'
 refine aF (λu=>?_) λu=>qZ T hn ⟨o,g,t,m,r,by exact o9 pb,by exact Fc gn⟩ ?_
 ·have i:MH gr a.toList b.toList (out2++(b.extract l (nb-1)).reverse).toList na l:=by
   rw[O8,S1,bT]
   exact g.blockB T.ub l v (fX λq hq j y p=>vc (kc T.ua t pa y p) (l3 (l+q) hq (Os l q) (GG j)))
  exact aF (λc=>Ol (.inl ⟨_,rfl,kv T o i c⟩)) λc=>aF (λc'=>Ol (.inl ⟨_,rfl,Bm T o i c'⟩)) λc'=>qZ T hn ⟨o,i,t,m,by have:=aS c; have:=aS c'; exact Iy ‹_› this,by exact EQ pb v,by exact Fe gn u⟩ z
 ·have e0:l=nb-1:=by exact D8 v u
  rw[e0] at z
  exact z
theorem rn (hlt:bC gM gA gE gs gr go gk) (T:Two gr go a b) (hk:kindOf st=gk) (hn:x<=n+1) (S:HiS gr a b st n na nb out st'):wpS gM gA gE gs (y8 a b ac bc na nb out mg) (Po (Hi7 gr a b st) x (n+1) (LoR gr a b st)) st':=by
 obtain ⟨m,mi,ga,l,r,j,gn⟩:=S
 have pb:nb-1<b.size:=by exact tI r j
 refine Oa (fJ λg t=>?_)
 replace m:=m.trans t
 refine Oa (aO pb (Oa (dR hlt (Jf l) (IL ga) T.oa (T.ob _ (Qh _)) (m.1.trans hk) T.ua λk p k2 k3=>?_)))
 simp only[OL,PA,PV] at k2 k3
 have u:∀ y∈a.toList.take k,∀ h:nb-1<b.size,gr y<=gr b[nb-1]:=λy v _=>rq (P:=λy=>gr y<=gr b[nb-1]) (λq z i=>k2 q z i) y v
 show wpS gM gA gE gs (if na-k>0 then hiT1' a b mg (na-k) bc k nb (out++(a.extract k na).reverse) else sX a b mg (na-k) bc na nb out) _ g
 refine aF (λk0=>?_) λk0=>pO hlt T hk hn ⟨m,mi,ga,l,r,j,gn⟩ ?_
 ·have o:MH gr a.toList b.toList (out++(a.extract k na).reverse).toList k nb:=by
   rw[O8,S1,bT]
   exact mi.blockA T.ua k p (fX λq z i y v=>vc (kc T.ub (o4 r) pb y v) (Oq (k3 (k+q) z (Os k q) (o6 i))))
  exact aF (λc=>Ol (.inl ⟨_,rfl,kz T m o c⟩)) λc=>pO hlt T hk hn ⟨m,o,by have:=aS c; exact uE this,by exact EK l p,r,j,by exact FJ gn p⟩ u
 ·have e0:k=na:=by exact Jo p k0
  rw[e0] at u
  exact u
theorem CD (hlt:bC gM gA gE gs gr go gk) (T:Two gr go a b) (hk:kindOf st=gk) (hn:x<=n+1) (S:Hi7 gr a b st n c st'):wpS gM gA gE gs (hiG a b c) (Po (Hi7 gr a b st) x (n+1) (LoR gr a b st)) st' :=
 aF (λ_=>rn hlt T hk hn S.2) λ_=>rn hlt T hk hn S.2
theorem CC (hlt:bC gM gA gE gs gr go gk) (T:Two gr go a b) (hk:kindOf st=gk) (z:N7) (S:Hi5 gr a b st (n+1) c st'):wpS gM gA gE gs (hiB a b c) (Po (Hi5 gr a b st) z (n+2) (LoR gr a b st)) st':=by
 refine Oa (QF (d8 (I:=Hi6 gr a b st) (n:=n+1) (z:=n+2) (R:=LoR gr a b st) ⟨rfl,S.2⟩ (λc st' h=>h.2.over Hj) λy c st' k h=>B6 hlt T hk AS h) λd g h=>?_)
 rcases h with ⟨r,e,h⟩ | ⟨e,S⟩
 ·rw[e]; exact Ol (.inl ⟨r,rfl,h⟩)
 ·rw[e]
  refine Oa (d7 (Oa (QF (d8 (I:=Hi7 gr a b st) (n:=n+2) (z:=n+2) (R:=LoR gr a b st) ⟨rfl,S⟩ (λc st' h=>h.2.over IR) λy c st' k h=>CD hlt T hk zE h) λd g h=>?_)))
  rcases h with ⟨r,e,h⟩ | ⟨e,S⟩
  ·rw[e]; exact Ol (.inl ⟨r,rfl,h⟩)
  ·rw[e]
   exact Oa (fJ λi j=>Ol ⟨rfl,S.sm.trans j,S.mi,S.ga,S.ga',S.gb,S.gb',S.gn⟩)
end
theorem rN (hlt:bC gM gA gE gs gr go gk) {a b:Oe N8}{st:On}{Q:Oe N8->On->Prop}(ha:1<=a.size) (hb:1<=b.size) (oa:∀ p∈a,go p) (ob:∀ p∈b,go p) (hk:kindOf st=gk) (ua:Up gr a.toList) (ub:Up gr b.toList)
  (h0:∀ y∈a.toList,gr (b[0]'hb)<=gr y) (h1:∀ x∈b.toList,gr x<=gr (a[a.size-1]'(by exact tU ha))) (h:∀ r st',Sm st st'->Mgd gr a.toList b.toList r->Q r st'):wpS gM gA gE gs (mergeHi' a b) Q st:=by
 have T:Two gr go a b:=⟨ha,hb,oa,ob,ua,ub,h0,h1⟩
 rw[uH]
 have g:a.size-1<a.size:=Tv ha
 refine Oa (d7 (Oa (aO g ?_)))
 have j:MH gr a.toList b.toList (#[a[a.size-1]]:Oe N8).toList (a.size-1) b.size:=by
  have m:MH gr a.toList b.toList [] a.size b.size:=⟨by rw[<- Om,<- Om,QY,QY]; exact .nil,.nil,λ_ _ _ h=>(nomatch h),λ_ _ _ h=>(nomatch h)⟩
  exact m.pushA' ua ha (by rw[Om]; exact g) (λy l=>h1 y (Qg l))
 have fin:∀ r st',LoR gr a b st r st'->Q r st':=λr st' q=>h r st' q.1 q.2
 refine aF (λc=>Ol (fin _ _ (kz T (.refl st) j c))) λc=>aF (λk=>Ol (fin _ _ (kv T (.refl st) j k))) λk=>?_
 refine Oa (Su (Oa (QF (d8 (I:=Hi5 gr a b st) (n:=1) (z:=a.size+b.size+1) (R:=LoR gr a b st) ⟨rfl,.refl st,j,by have:=aS c; lia,by lia,by have:=aS k; lia,Ow _,by lia⟩ (λc st' h=>h.2.over JV) λy c st' l h=>?_) λd i h=>?_)))
 ·rw[Tr 1 y] at h ⊢
  exact CC hlt T hk _ h
 ·rcases h with ⟨r,e,h⟩ | ⟨e,S⟩
  ·rw[e]; exact Ol (fin _ _ h)
  ·exact (S.over Fu).elim
end
section
structure Wn (lo hi:N7) (st st':On):Prop where
 kind:kindOf st' = kindOf st
 pend:OP st' = OP st
 fail:Pq st' = Pq st
 perm:(N6 st').Perm (N6 st)
 out:∀ k,(k<lo\/hi<=k)->(N6 st')[k]? = (N6 st)[k]?
theorem Wn.refl (lo hi:N7) (st:On):Wn lo hi st st:=⟨rfl,rfl,rfl,.refl _,λuu uu=>rfl⟩
theorem Wn.trans {lo hi:N7}{x y z:On}(h:Wn lo hi x y) (g:Wn lo hi y z):Wn lo hi x z:=⟨g.kind.trans h.kind,g.pend.trans h.pend,g.fail.trans h.fail,g.perm.trans h.perm,λk hk=>(g.out k hk).trans (h.out k hk)⟩
theorem Gd.of {lo hi:N7}{st st':On}(g:Gd gr go gk st) (h:Wn lo hi st st'):Gd gr go gk st':=⟨λp i=>g.ok p (h.perm.mem_iff.mp i),h.kind.trans g.kind⟩
theorem Wn.size {lo hi:N7}{st st':On}(h:Wn lo hi st st'):(N6 st').size=(N6 st).size:=h.perm.size_eq
theorem cy (h:xs[i]? = ys[j]?):rkA gr xs i=rkA gr ys j:=by unfold rkA; rw[h]
theorem ii (hlt:bC gM gA gE gs gr go gk) {st:On}{i j:N7}{Q:NX OF->On->Prop}(g:Gd gr go gk st) (hi:i<(N6 st).size) (hj:j<(N6 st).size) (h:Q (ti (decide (rkA gr (N6 st) i<rkA gr (N6 st) j))) st):wpS gM gA gE gs (ltAt' i j) Q st:=by
 rw[ltAt'_eq]
 refine Oa (Su (Oa (aO hi (Oa (aO hj (hlt (g.ok _ (Qh _)) (g.ok _ (Qh _)) g.kind ?_))))))
 rw[eV hi,eV hj] at h
 exact h
def SegDn (gr:N8->N7) (arr:Oe N8) (lo n:N7):Prop:=∀ i j,lo<=i->i<=j->j<lo+n->rkA gr arr j<=rkA gr arr i
theorem SegUp.succ {arr:Oe N8}{lo n:N7}(h:SegUp gr arr lo n) (h1:1<=n) (hn:rkA gr arr (lo+n-1)<=rkA gr arr (lo+n)):SegUp gr arr lo (n+1):=by
 intro i j k g l
 by_cases e:j=lo+n
 ·(clear l; subst e)
  by_cases e':i=lo+n
  ·(clear k g; subst e'); exact Ow _
  ·exact vc (h i (lo+n-1) k (AL g e') (uJ h1)) hn
 ·exact h i j k g (zW l e)
theorem SegDn.succ {arr:Oe N8}{lo n:N7}(h:SegDn gr arr lo n) (h1:1<=n) (hn:rkA gr arr (lo+n)<=rkA gr arr (lo+n-1)):SegDn gr arr lo (n+1):=by
 intro i j k g l
 by_cases e:j=lo+n
 ·(clear l; subst e)
  by_cases e':i=lo+n
  ·(clear k g; subst e'); exact Ow _
  ·exact vc hn (h i (lo+n-1) k (AL g e') (uJ h1))
 ·exact h i j k g (zW l e)
theorem jR {i j:N7}{st:On}{Q:T6->On->Prop}(h:Q () (X6 st (Un (N6 st) i j ((j-i)/2)))):wpS gM gA gE gs (Tq i j) Q st:=by
 rw[reverseSlice'_eq]; exact SD h
noncomputable def wU (lo nrem n:N7):SC On Sem (NX N7):=do
 let mut n:=n
 Tq lo (lo+n)
 for _ in [n:nrem] do
  let ti smaller <- ltAt' (lo+n) (lo+n-1) | return NI
  if smaller then break
  n:=n+1
 return ti n
noncomputable def vS (lo nrem n:N7):SC On Sem (NX N7):=do
 let mut n:=n
 rule "list.sort.descending-run"
 n:=n+1
 let mut neq:=0
 for _ in [n:nrem] do
  let ti smaller <- ltAt' (lo+n) (lo+n-1) | return NI
  if smaller then
   if neq>0 then Tq (lo+n-(neq+1)) (lo+n)
   neq:=0
  else
   let ti larger <- ltAt' (lo+n-1) (lo+n) | return NI
   if larger then break
   neq:=neq+1
  n:=n+1
 if neq>0 then Tq (lo+n-(neq+1)) (lo+n)
 Tq lo (lo+n)
 for _ in [n:nrem] do
  let ti smaller <- ltAt' (lo+n) (lo+n-1) | return NI
  if smaller then break
  n:=n+1
 return ti n
theorem iE (hj:j<=xs.size) (he:∀ k,i<=k->k<j->rkA gr xs k=rkA gr xs (j-1)) (k:N7):rkA gr (Un xs i j ((j-i)/2)) k=rkA gr xs k:=by
 by_cases c:i<=k/\k<j
 ·rw[cy (j:=i+j-1-k) (ys:=xs) (by rw[Q7 hj,NZ c]),he (i+j-1-k) (Ik c) (Iq c),he k c.1 c.2]
 ·exact cy (by rw[Q7 hj,N0 c])
theorem gO {lo hi i j:N7}{st:On}(hj:j<=(N6 st).size) (h1:lo<=i) (h2:j<=hi):Wn lo hi st (X6 st (Un (N6 st) i j ((j-i)/2))):=⟨rfl,rfl,rfl,mirror_perm _ _ _ _,λk hk=>by
 show (Un _ _ _ _)[k]? = _
 rw[Q7 hj,N0 (ER h1 h2 hk)]⟩
theorem lS (hlt:bC gM gA gE gs gr go gk) {lo nrem n:N7}{st:On}{Q:NX N7->On->Prop}(g:Gd gr go gk st) (hn:lo+nrem<=(N6 st).size) (h1:1<=n) (h2:n<=nrem) (dn:SegDn gr (N6 st) lo n)
  (h:∀ n st',1<=n->n<=nrem->Wn lo (lo+nrem) st st'->SegUp gr (N6 st') lo n->Q (ti n) st'):wpS gM gA gE gs (wU lo nrem n) Q st:=by
 unfold wU
 refine Oa (jR ?_)
 have m:lo+n<=(N6 st).size:=by exact Fb hn h2
 have o:Wn lo (lo+nrem) st (X6 st (Un (N6 st) lo (lo+n) ((lo+n-lo)/2))):=gO m (Ow _) (by exact Ob ‹_› _)
 have k:SegUp gr (Un (N6 st) lo (lo+n) ((lo+n-lo)/2)) lo n:=by
  intro i j hi hij hj
  rw[cy (j:=lo+(lo+n)-1-i) (ys:=N6 st) (by rw[Q7 m,NZ ⟨hi,by exact N4 ‹_› ‹_›⟩]),cy (i:=j) (j:=lo+(lo+n)-1-j) (ys:=N6 st) (by rw[Q7 m,NZ ⟨by exact vc ‹_› ‹_›,hj⟩])]
  exact dn _ _ (E9 hj) (Ic hij) (IA h1 hi)
 generalize hst:X6 st (Un (N6 st) lo (lo+n) ((lo+n-lo)/2))=st2 at o ⊢
 have k:SegUp gr (N6 st2) lo n:=by rw[<- hst]; exact k
 have g2:=g.of o
 have l:=o.size
 refine Oa (QF (Qa (I:=λx c st'=>st' = st2/\c=(NI,x)/\x<=nrem/\SegUp gr (N6 st2) lo x)
  (Q:=λc st'=>st' = st2/\∃ n,c=(NI,n)/\1<=n/\n<=nrem/\SegUp gr (N6 st2) lo n) ?_ ?_ (db rfl rfl h2 k)) ?_)
 ·intro x c st' hx1 r q
  refine dS (q) λMw MA gx t=>?_
  clear q
  (clear k o; subst Mw)
  subst MA
  refine Oa (ii hlt g2 (adl r (vc hn (OH l.symm))) (pQ (adl r (vc hn (OH l.symm)))) ?_)
  dsimp only
  by_cases w:rkA gr (N6 st') (lo+x)<rkA gr (N6 st') (lo+x-1)
  ·rw[OA w,NZ rfl]
   exact Ol (aM rfl (cV x rfl (by exact N2 ‹_› ‹_›) gx t))
  ·rw[OC w,N0 (by decide)]
   exact Ol (db rfl rfl ‹_› (t.succ (by exact N2 ‹_› ‹_›) (OO w)))
 ·intro c st' p
  refine dS (p) λMz Mv gx t=>?_
  clear p
  (clear g2 l k o; subst Mz)
  subst Mv
  rw[show max n nrem=nrem by exact JB gx] at *
  exact (aM rfl (cV nrem rfl (by exact N2 ‹_› ‹_›) (Ow _) t))
 ·intro c st' z
  obtain ⟨y,n',v,p1,p2,u⟩:=z
  (clear g2 l k; subst y)
  subst v
  exact Ol (h n' st' p1 p2 o u)
theorem SegDn.congr {xs ys:Oe N8}{lo n:N7}(h:SegDn gr xs lo n) (e:∀ k,rkA gr ys k=rkA gr xs k):SegDn gr ys lo n:=λi j a b c=>by rw[e,e]; exact h i j a b c
theorem mB (hlt:bC gM gA gE gs gr go gk) {lo nrem n:N7}{st:On}{Q:NX N7->On->Prop}(g:Gd gr go gk st) (hn:lo+nrem<=(N6 st).size) (h1:1<=n) (h2:n<nrem) (dn:SegDn gr (N6 st) lo (n+1))
  (h:∀ n st',1<=n->n<=nrem->Wn lo (lo+nrem) st st'->SegUp gr (N6 st') lo n->Q (ti n) st'):wpS gM gA gE gs (vS lo nrem n) Q st:=by
 unfold vS
 refine Oa (d7 ?_)
 refine Oa (QF (Qa (I:=λx c m=>∃ l,c=(NI,x,l)/\Wn lo (lo+nrem) st m/\(∀ k,rkA gr (N6 m) k=rkA gr (N6 st) k)/\x<=nrem/\l+1<=x/\SegDn gr (N6 st) lo x/\∀ k,x-(l+1)<=k->k<x->rkA gr (N6 st) (lo+k)=rkA gr (N6 st) (lo+x-1))
  (Q:=λc m=>∃ x l,c=(NI,x,l)/\Wn lo (lo+nrem) st m/\(∀ k,rkA gr (N6 m) k=rkA gr (N6 st) k)/\x<=nrem/\l+1<=x/\SegDn gr (N6 st) lo x/\∀ k,x-(l+1)<=k->k<x->rkA gr (N6 st) (lo+k)=rkA gr (N6 st) (lo+x-1)) ?_ ?_ (tQ 0 rfl (.refl ..) (λuu=>rfl) ‹_› (SN _) dn (λk v z=>by rw[show lo+k=lo+(n+1)-1 by exact zl v z]))) ?_)
 ·intro x c m hx1 r ME
  refine zS (ME) λl MD p e gx y dn eq=>?_
  clear ME
  subst MD
  have g':=g.of p
  have o:=p.size
  dsimp only
  refine Oa (ii hlt g' (pg hn r o) (z4 hn r o) ?_)
  dsimp only
  rw[e,e]
  by_cases w:rkA gr (N6 st) (lo+x)<rkA gr (N6 st) (lo+x-1)
  ·rw[OA w,NZ rfl]
   have fin:∀ t,Wn lo (lo+nrem) st t->(∀ k,rkA gr (N6 t) k=rkA gr (N6 st) k)->∃ neq',((NI:NX (NX N7)),x+1,0)=(NI,x+1,neq')/\Wn lo (lo+nrem) st t/\(∀ k,rkA gr (N6 t) k=rkA gr (N6 st) k)/\x+1<=nrem/\neq'+1<=x+1/\SegDn gr (N6 st) lo (x+1)/\∀ k,x+1-(neq'+1)<=k->k<x+1->rkA gr (N6 st) (lo+k)=rkA gr (N6 st) (lo+(x+1)-1) :=
    λt w3 e3=>(tQ 0 rfl w3 e3 ‹_› (SN _) (dn.succ (by exact Rv ‹_› ‹_›) (Oq w)) (λk v z=>by rw[show lo+k=lo+(x+1)-1 by exact zl v z]))
   by_cases c1:l>0
   ·rw[NZ c1]
    refine Oa (jR (Ol (fin _ (p.trans (gO (zt hn r o) (zm y) (by exact Ob ‹_› _))) λk=>?_)))
    show rkA gr (Un _ _ _ _) k=_
    rw[iE (zt hn r o) λk v z=>by rw[e,e]; have:=eq (k-lo) (Aw v) (Ae hx1 z); rwa [show lo+(k-lo)=k by exact AF y v] at this]
    exact e k
   ·rw[N0 c1]
    exact Ol (fin _ p e)
  ·rw[OC w,N0 (by decide)]
   refine Oa (ii hlt g' (z4 hn r o) (pg hn r o) ?_)
   dsimp only
   rw[e,e]
   by_cases w':rkA gr (N6 st) (lo+x-1)<rkA gr (N6 st) (lo+x)
   ·rw[OA w',NZ rfl]
    exact Ol (mt x l rfl p e gx y dn eq)
   ·rw[OC w',N0 (by decide)]
    refine Ol (tQ (l+1) rfl p e ‹_› (by exact Pv ‹_›) (dn.succ (by exact Rv ‹_› ‹_›) (OO w')) (λk v z=>?_))
    have q:rkA gr (N6 st) (lo+x-1)=rkA gr (N6 st) (lo+x):=by exact Jk w w'
    rw[show lo+(x+1)-1=lo+x by exact Hn]
    by_cases e':k=x
    ·rw[e']
    ·rw[<- q]; exact eq k (Jm v) (H9 z e')
 ·intro c m ML
  refine zS (ML) λl MJ p e gx y dn eq=>?_
  clear ML
  subst MJ
  rw[show max (n+1) nrem=nrem by exact Hb gx] at *
  exact (mt nrem l rfl p e gx y dn eq)
 ·intro c m MF
  refine ut (MF) λx l MM p e gx y dn eq=>?_
  clear MF
  subst MM
  have g':=g.of p
  have o:=p.size
  dsimp only
  by_cases c1:l>0
  ·rw[NZ c1]
   have w3:=p.trans (gO (lo:=lo) (hi:=lo+nrem) (i:=lo+x-(l+1)) (j:=lo+x) (st:=m) (Aj hn gx o) (zm y) (by exact Ob ‹_› _))
   refine Oa (jR ?_)
   refine lS hlt (g.of w3) (by have:=w3.size; exact uP hn this) (by exact Rv ‹_› ‹_›) gx (dn.congr λk=>?_) λn st' a b w4 u=>h n st' a b (w3.trans w4) u
   show rkA gr (Un _ _ _ _) k=_
   rw[iE (Aj hn gx o) λk v z=>by rw[e,e]; have:=eq (k-lo) (Aw v) (Ae y z); rwa [show lo+(k-lo)=k by exact AF y v] at this]
   exact e k
  ·rw[N0 c1]
   exact lS hlt g' (uP hn o) (EF y) gx (dn.congr e) λn st' a b w4 u=>h n st' a b (p.trans w4) u
theorem kH (hlt:bC gM gA gE gs gr go gk) {lo nrem:N7}{st:On}{Q:NX N7->On->Prop}(g:Gd gr go gk st) (hn:lo+nrem<=(N6 st).size) (h1:1<=nrem)
  (h:∀ n st',1<=n->n<=nrem->Wn lo (lo+nrem) st st'->SegUp gr (N6 st') lo n->Q (ti n) st'):wpS gM gA gE gs (countRun' lo nrem) Q st:=by
 rw[countRun'_eq]
 refine Oa (QF (Qa (I:=λx c st'=>st' = st/\c=(NI,x)/\x<=nrem/\SegUp gr (N6 st) lo x)
  (Q:=λc st'=>st' = st/\∃ n,c=(NI,n)/\1<=n/\n<=nrem/\SegUp gr (N6 st) lo n/\(n=nrem\/rkA gr (N6 st) (lo+n)<rkA gr (N6 st) (lo+n-1))) ?_ ?_ (db rfl rfl h1 (λi j _ _ _=>by rw[show i=j by exact zr ‹_› ‹_› ‹_›]; exact Ow _))) ?_)
 ·intro x c st' hx1 hx2 o
  refine dS (o) λMQ MS gx l=>?_
  clear o
  (clear h; subst MQ)
  subst MS
  refine Oa (ii hlt g (by exact adl hx2 ‹_›) (by exact pQ (adl hx2 ‹_›)) ?_)
  dsimp only
  by_cases w:rkA gr (N6 st') (lo+x)<rkA gr (N6 st') (lo+x-1)
  ·rw[OA w,NZ rfl]
   exact Ol (aM rfl (o7 x rfl hx1 gx l (.inr w)))
  ·rw[OC w,N0 (by decide)]
   exact Ol (db rfl rfl ‹_› (l.succ hx1 (OO w)))
 ·intro c st' m
  refine dS (m) λM2 z gx l=>?_
  clear m
  (clear g h hn; subst M2)
  subst z
  rw[show max 1 nrem=nrem by exact JX gx] at *
  exact (aM rfl (o7 nrem rfl h1 (Ow _) l (.inl rfl)))
 ·intro c st' y
  obtain ⟨v,n,t,p,r,l,q⟩:=y
  subst v
  subst t
  dsimp only
  by_cases c1:(n==nrem)=vj
  ·rw[NZ c1]
   exact Ol (h n st' p r (.refl ..) l)
  rw[N0 c1]
  have hn3:n<nrem:=by have:n≠nrem:=λe=>c1 (Oj.mpr e); exact Ay r this
  have hdn:=q.resolve_left (by exact PL ‹_›)
  by_cases c2:n>1
  ·rw[NZ c2]
   refine Oa (ii hlt g (JU h1 hn) (FN p r hn) ?_)
   dsimp only
   by_cases w:rkA gr (N6 st') lo<rkA gr (N6 st') (lo+n-1)
   ·rw[OA w,NZ rfl]
    exact Ol (h n st' p r (.refl ..) l)
   rw[OC w,N0 (by decide)]
   have eq:∀ k,lo<=k->k<lo+n->rkA gr (N6 st') k=rkA gr (N6 st') (lo+n-1):=λk k1 k2=>by
    have a:=l lo k (Ow _) k1 k2
    have b:=l k (lo+n-1) k1 (Hu k2) (uJ p)
    exact FD w a b
   have w3:Wn lo (lo+nrem) st' (X6 st' (Un (N6 st') lo (lo+n) ((lo+n-lo)/2))):=gO (Au r hn) (Ow _) (by exact Ob ‹_› _)
   have e3:∀ k,rkA gr (Un (N6 st') lo (lo+n) ((lo+n-lo)/2)) k=rkA gr (N6 st') k:=iE (Au r hn) eq
   refine Oa (jR ?_)
   refine mB hlt (g.of w3) (by have:=w3.size; exact uP hn this) p hn3 ?_ λn st' a b w4 u=>h n st' a b (w3.trans w4) u
   have d1:SegDn gr (N6 st') lo n:=λi j a b c=>by rw[eq i a (by exact N4 ‹_› ‹_›),eq j (by exact vc ‹_› ‹_›) c]; exact Ow _
   exact (d1.succ p (Oq hdn)).congr e3
  rw[N0 c2]
  have e1:n=1:=by exact Ga p c2
  (clear c1 c2 q r l; subst e1)
  refine mB hlt g hn p hn3 ?_ h
  have d1:SegDn gr (N6 st') lo 1:=λi j _ _ _=>by rw[show i=j by exact zr ‹_› ‹_› ‹_›]; exact Ow _
  exact d1.succ (Ow _) (Oq hdn)
theorem yB {src dst:N7}{st:On}{Q:T6->On->Prop}(h:Q () (X6 st (ZW (N6 st) src (src-dst)))):wpS gM gA gE gs (moveDown' src dst) Q st:=by
 rw[moveDown'_eq]; exact SD h
theorem CT (h:l<r):l<=(l+r)/2/\(l+r)/2<r:=by exact FT h
theorem oR (hlt:bC gM gA gE gs gr go gk) {lo n oo:N7}{st:On}{Q:OF->On->Prop}(g:Gd gr go gk st) (hn:lo+n<=(N6 st).size) (hok:oo<=n) (hs:SegUp gr (N6 st) lo oo)
  (h:∀ st',Wn lo (lo+n) st st'->SegUp gr (N6 st') lo n->Q vj st'):wpS gM gA gE gs (binarySort' lo n oo) Q st:=by
 rw[binarySort'_eq]
 refine Oa (QF (Qa (I:=λk c st'=>c=(NI,())/\Wn lo (lo+n) st st'/\SegUp gr (N6 st') lo (min k n))
  (Q:=λc st'=>c=(NI,())/\Wn lo (lo+n) st st'/\SegUp gr (N6 st') lo n) ?_ ?_ ⟨rfl,.refl ..,?_⟩) ?_)
 ·intro k c st' hk1 q Nk
  refine aK (Nk) λM4 z y=>?_
  clear Nk
  subst M4
  have g':=g.of z
  have hsz:=z.size
  rw[show min k n=k by exact H4 q] at y
  refine Oa (QF (Qa (I:=λx c o=>o=st'/\∃ l r,c=(NI,l,r)/\l<=r/\r<=k/\r-l<=k-x/\(∀ i,i<l->rkA gr (N6 st') (lo+i)<=rkA gr (N6 st') (lo+k))/\(∀ i,r<=i->i<k->rkA gr (N6 st') (lo+k)<rkA gr (N6 st') (lo+i)))
   (Q:=λc o=>o=st'/\∃ l r,c=(NI,l,r)/\l<=k/\(∀ i,i<l->rkA gr (N6 st') (lo+i)<=rkA gr (N6 st') (lo+k))/\(∀ i,l<=i->i<k->rkA gr (N6 st') (lo+k)<rkA gr (N6 st') (lo+i))) ?_ ?_ (aM rfl (pj 0 k rfl (Pf _) (Ow _) (Ow _) (λi hi=>by exact Kc hi) (λi h1 h2=>by exact EY h1 h2)))) ?_)
  ·intro x c o _ hx M5
   obtain ⟨MY,l,r,Nc,lr,rk',pr,t,v⟩:=M5
   (clear z; subst MY)
   subst Nc
   dsimp only
   by_cases c1:l≥r
   ·rw[NZ c1]
    exact Ol (aM rfl (bJ l r rfl (by exact vc ‹_› ‹_›) t (λi h1 h2=>v i (by exact vc ‹_› ‹_›) h2)))
   rw[N0 c1]
   refine ae (CT (Rh c1)) λm1 m2=>?_
   generalize (l+r)/2=m at m1 m2 ⊢
   refine Oa (ii hlt g' (pg hn q hsz) (F7 hn q rk' hsz m2) ?_)
   dsimp only
   by_cases w:rkA gr (N6 o) (lo+k)<rkA gr (N6 o) (lo+m)
   ·rw[OA w,NZ rfl]
    exact Ol (aM rfl (pj _ _ rfl ‹_› (He rk' m2) (Ix pr m2) t (λi h1 h2=>N2 w (y _ _ (Os _ _) (by exact Ob ‹_› _) (by exact Ob ‹_› _)))))
   ·rw[OC w,N0 (by decide)]
    exact Ol (aM rfl (pj _ _ rfl ‹_› ‹_› (IK pr m1) (λi h1=>vc (y _ (lo+m) (Os _ _) (HV h1) (Jr rk' m2)) (OO w)) v))
  ·intro c o M9
   obtain ⟨M3,l,r,M8,lr,rk',pr,t,v⟩:=M9
   (clear g' hsz z; subst M3)
   subst M8
   exact (aM rfl (bJ l r rfl (by exact vc ‹_› ‹_›) t (λi h1 h2=>v i (HC pr h1) h2)))
  ·intro c o M0
   obtain ⟨M6,l,r,Nb,lk,t,v⟩:=M0
   (clear g'; subst M6)
   subst Nb
   dsimp only
   have hsrc:lo+k<(N6 o).size:=by exact pg hn q hsz
   refine Oa (yB (Ol ⟨rfl,z.trans ⟨rfl,rfl,rfl,bubble_perm _ _ _,λj u=>?_⟩,?_⟩))
   ·show (ZW _ _ _)[j]? = _
    rw[XC hsrc _ (TS _ _),N0 (Eu q u),N0 (Em q u)]
   ·rw[show min (k+1) n=k+1 by exact HI q]
    show SegUp gr (ZW (N6 o) (lo+k) (lo+k-(lo+l))) lo (k+1)
    have at':∀ j,rkA gr (ZW (N6 o) (lo+k) (lo+k-(lo+l))) j=if j=lo+l then rkA gr (N6 o) (lo+k) else if lo+l<j/\j<=lo+k then rkA gr (N6 o) (j-1) else rkA gr (N6 o) j:=λj=>by
     have:=XC hsrc (lo+k-(lo+l)) (TS _ _) j
     rw[show lo+k-(lo+k-(lo+l))=lo+l by exact Fs lk] at this
     by_cases e1:j=lo+l
     ·rw[NZ e1] at this ⊢; exact cy this
     ·rw[N0 e1] at this ⊢
      by_cases e2:lo+l<j/\j<=lo+k
      ·rw[NZ e2] at this ⊢; exact cy this
      ·rw[N0 e2] at this ⊢; exact cy this
    intro i j hi p u
    rw[at',at']
    by_cases e1:i=lo+l
    ·rw[NZ e1]
     by_cases e2:j=lo+l
     ·rw[NZ e2]; exact Ow _
     ·rw[N0 e2,NZ (IB p u e1 e2)]
      have:=v (j-1-lo) (Fp p e1 e2) (HZ p u e1 e2)
      rw[show lo+(j-1-lo)=j-1 by exact Ke p e1 e2] at this
      exact Oq this
    ·rw[N0 e1]
     by_cases e2:j=lo+l
     ·rw[NZ e2,N0 (Gm p e2)]
      have:=t (i-lo) (HQ hi p e1 e2)
      rwa [show lo+(i-lo)=i by exact j9 hi] at this
     ·rw[N0 e2]
      by_cases e3:lo+l<i
      ·rw[NZ (J5 p u e3),NZ (Fx p u e3)]
       exact y _ _ (Ie e3) (Gk p) (JG p u e3)
      ·rw[N0 (zJ e3)]
       by_cases e4:lo+l<j
       ·rw[NZ (HN u e4)]
        exact y _ _ ‹_› (Ii e3 e4) (HA u e4)
       ·rw[N0 (zJ e4)]
        exact y _ _ ‹_› ‹_› (GZ lk e2 e4)
 ·intro c st' MR
  refine aK (MR) λMU z y=>?_
  clear MR
  subst MU
  rw[show min (max (max oo 1) n) n=n by exact Hl] at y
  exact ⟨rfl,z,y⟩
 ·intro i j hi p u
  by_cases e:oo=0
  ·rw[show i=j by exact FV hi p u e]; exact Ow _
  ·exact hs i j hi p (EH u e)
 ·intro c st' MN
  refine aK (MN) λMV z y=>?_
  clear MN
  subst MV
  exact Ol (h st' z y)
end
section
theorem qC (base:N7) (hf:∀ a p j,f a (p,j)=a.setIfInBounds (base+j) p):∀ (r:uq N8) (off:N7) (arr:Oe N8),base+off+r.length<=arr.size ->
  ((r.zipIdx off).foldl f arr).toList=arr.toList.take (base+off)++r++arr.toList.drop (base+off+r.length)
 | [],off,arr,_=>by rw[Vh,List.foldl_nil,PU,XD,Vw,Pj]
 | p::r,off,arr,h=>by
  rw[OS] at h
  have g:base+off<arr.toList.length:=by rw[Om]; exact GK h
  rw[W8,Vf,hf,qC base hf r (off+1) _ (by rw[Array.size_setIfInBounds]; exact Gx h),Array.toList_setIfInBounds,List.set_eq_take_append_cons_drop,NZ g]
  have k:(arr.toList.take (base+off)++p::arr.toList.drop (base+off+1)).take (base+(off+1))=arr.toList.take (base+off)++[p]:=by
   rw[List.take_append,QX,QV (Oq g),show base+(off+1)-(base+off)=1 by exact HH,Pr (by rw[QX]; exact Ev)]
   rfl
  have i:(arr.toList.take (base+off)++p::arr.toList.drop (base+off+1)).drop (base+(off+1)+r.length)=arr.toList.drop (base+off+(p::r).length):=by
   rw[UH,QX,QV (Oq g),Tu.mpr (by rw[QX]; exact Jw),Vg,show base+(off+1)+r.length-(base+off)=r.length+1 by exact JH,List.drop_succ_cons,R5]
   congr 1
   rw[OS]; exact Hk
  rw[k,i,Pk,Pk,Pk]
  rfl
theorem iq {arr:Oe N8}{lo n:N7}(h:SegUp gr arr lo n) (hn:lo+n<=arr.size):Up gr ((arr.toList.drop lo).take n):=by
 unfold Up
 rw[R9]
 intro i j l g k
 rw[QX,PN,Om] at l g
 rw[TO,TO,R7,R7]
 have:=h (lo+i) (lo+j) (Os _ _) (Ob (Oq k) lo) (O9 (N2 g (Py _ _)) lo)
 rwa [cz (by rw[Om]; exact N2 (O9 (N2 l (Py _ _)) lo) hn),cz (by rw[Om]; exact N2 (O9 (N2 g (Py _ _)) lo) hn)] at this
theorem ik (hlt:bC gM gA gE gs gr go gk) {left:OF}{key:N8}{arr:Oe N8}{base n hint:N7}{st:On}{Q:NX N7->On->Prop}(hn:base+n<=arr.size) (hh:hint<n) (hok:∀ p∈arr,go p) (hkey:go key) (hk:kindOf st=gk) (up:SegUp gr arr base n)
  (h:∀ k,k<=n->(∀ q,q<k->if left then rkA gr arr (base+q)<gr key else rkA gr arr (base+q)<=gr key)->(∀ q,k<=q->q<n->if left then gr key<=rkA gr arr (base+q) else gr key<rkA gr arr (base+q))->Q (ti k) st) :
  wpS gM gA gE gs (gallop' left key arr base n hint) Q st:=by
 refine lV hlt hn hh hok hkey hk (λi=>if left then decide (rkA gr arr (base+i)<gr key) else !decide (gr key<rkA gr arr (base+i))) (λuu=>rfl) (λi j t r l=>?_) λk t r l=>h k t (λq g=>?_) λq g o=>?_
 ·have m:=up (base+i) (base+j) (Os _ _) (by exact Ob ‹_› _) (by exact Ob ‹_› _)
  cases left with
  | true=>simp at l ⊢; exact Ai m l
  | false=>simp at l ⊢; exact Af m l
 ·have:=r q g
  cases left with
  | true=>simpa using this
  | false=>simpa using this
 ·have:=l q g o
  cases left with
  | true=>simpa using this
  | false=>simpa using this
theorem iw {arr:Oe N8}{lo n:N7}{x:N8}(hx:x∈(arr.toList.drop lo).take n):∃ i,lo<=i/\i<lo+n/\i<arr.size/\gr x=rkA gr arr i:=by
 obtain ⟨q,g,h⟩:=Q9 hx
 subst h
 rw[QX,PN,Om] at g
 refine ⟨lo+q,by exact Os _ _,by exact Jc g,by exact tw g,?_⟩
 rw[cz (by rw[Om]; exact tw g),TO,R7]
theorem oL (hx:x∈arr.toList.take n):∃ i,i<n/\i<arr.size/\gr x=rkA gr arr i:=by
 obtain ⟨i,_,j,h,g⟩:=iw (lo:=0) (n:=n) (by rw[RF]; exact hx)
 exact ⟨i,by exact tL j,h,g⟩
theorem xC (hx:x∈arr.toList.drop n):∃ i,n<=i/\i<arr.size/\gr x=rkA gr arr i:=by
 obtain ⟨q,h,g⟩:=Q9 hx
 subst g
 rw[PN,Om] at h
 refine ⟨n+q,by exact Os _ _,by exact o6 h,?_⟩
 rw[cz (by rw[Om]; exact o6 h),R7]
theorem Cg {st st':On}{Q:YH->On->Prop}(h:Q ⟨⟩ st'):wpS gM gA gE gs (set st':SC On Sem YH) Q st:=by
 unfold wpS; rw[StateT.run_set]; exact Od ⟨rfl,h⟩
theorem wpS_set' {st x:On}{Q:YH->On->Prop}(h:∀ st',kindOf st' = kindOf x->N6 st' = N6 x->OP st' = OP x->Pq st' = Pq x->Q ⟨⟩ st'):wpS gM gA gE gs (set x:SC On Sem YH) Q st:=Cg (h x rfl rfl rfl rfl)
theorem C0 (hsz:n1+n2=arr.size) (u1:SegUp gr arr 0 n1) (u2:SegUp gr arr n1 n2) (h:∀ i j,i<n1->n1<=j->j<arr.size->rkA gr arr i<=rkA gr arr j):Up gr arr.toList:=by
 have l:SegUp gr arr 0 arr.size:=by
  intro i j _ g k
  by_cases e1:j<n1
  ·exact u1 i j (Pf _) g (zT e1)
  ·by_cases e2:i<n1
   ·exact h i j e2 (by exact OO ‹_›) (tL k)
   ·exact u2 i j (by exact OO ‹_›) g (E8 hsz k)
 have:=iq l Ih
 rwa [RF,Pr (by rw[Om]; exact Ow _)] at this
theorem rV (hlt:bC gM gA gE gs gr go gk) {st:On}{n1 n2 p1 p2:N7}{Q:OF->On->Prop}(g:Gd gr go gk st) (hp:OP st = #[(0,n1,p1),(n1,n2,p2)]) (hsz:n1+n2=(N6 st).size) (h1:1<=n1) (h2:1<=n2) (u1:SegUp gr (N6 st) 0 n1) (u2:SegUp gr (N6 st) n1 n2) (hf:Pq st=NI)
  (h:∀ st',(N6 st').Perm (N6 st)->Up gr (N6 st').toList->(OP st').size=1->Pq st' = NI->kindOf st' = gk->Q vj st'):wpS gM gA gE gs (mergeAt' 0) Q st:=by
 unfold mergeAt'
 refine Oa (Su ?_)
 have q0:(OP st)[0]? = ti (0,n1,p1):=by rw[hp]; rfl
 have q1:(OP st)[0+1]? = ti (n1,n2,p2):=by rw[hp]; rfl
 rw[q0,q1]
 dsimp only
 refine Oa (wpS_set' λst1 f1 f2 f3 f4=>?_)
 have a1:N6 st1=N6 st:=f2
 have a2:kindOf st1=gk:=f1.trans g.kind
 have a3:(OP st1).size=1:=by
  rw[f3]
  show (((OP st).setIfInBounds 0 (0,n1+n2,p1)).eraseIdxIfInBounds (0+1)).size=1
  rw[hp]; simp[Uo]
 have a4:Pq st1=none:=f4.trans hf
 clear f1 f2 f3 f4 q0 q1 hp
 have hn1:n1<(N6 st).size:=by exact JZ hsz h2
 refine Oa (aO hn1 (Oa (ik (arr:=N6 st) hlt (FW hsz) ‹_› g.ok (g.ok _ (Qh _)) a2 u1 λk k1 k2 k3=>?_)))
 dsimp only
 simp only[OL,PA,PV] at k2 k3
 have eb:gr (N6 st)[n1]=rkA gr (N6 st) n1:=(eV hn1).symm
 rw[eb] at k2 k3
 have plain:∀ (_:∀ i j,i<n1->n1<=j->j<(N6 st).size->rkA gr (N6 st) i<=rkA gr (N6 st) j),Q vj st1:=λhh=>h st1 (by rw[a1]) (by rw[a1]; exact C0 hsz u1 u2 hh) a3 a4 a2
 by_cases c1:(n1-k==0)=vj
 ·rw[NZ c1]
  have e:k=n1:=by have:=Oj.mp c1; exact Jg k1 this
  subst e
  exact Ol (plain λi j hi v u=>vc (k2 i hi) (u2 _ _ (Ow _) v (uL hsz u)))
 rw[N0 c1]
 have o:k<n1:=by have:n1-k≠0:=λe=>c1 (Oj.mpr e); exact Ge this
 have hla:0+k+(n1-k)-1<(N6 st).size:=by exact HM hn1 o
 have t:0+k+(n1-k)-1=n1-1:=by exact Iz o
 refine Oa (aO hla (Oa (ik (arr:=N6 st) hlt (Eg hsz) (tU h2) g.ok (g.ok _ (Qh _)) a2 u2 λl l1 l2 l3=>?_)))
 dsimp only
 simp only[Qz] at l2 l3
 have el:gr (N6 st)[0+k+(n1-k)-1]=rkA gr (N6 st) (n1-1):=(eV hla).symm.trans (by rw[t])
 rw[el] at l2 l3
 by_cases c2:(l==0)=vj
 ·rw[NZ c2]
  have e:=Oj.mp c2
  subst e
  refine Ol (plain λi j hi v u=>vc (u1 i (n1-1) (Pf _) (uD hi) (zG h1)) ?_)
  have:=l3 (j-n1) (Pf _) (z8 hsz h2 u)
  rwa [show n1+(j-n1)=j by exact j9 v] at this
 rw[N0 c2]
 have hl0:0<l:=by have:l≠0:=λe=>c2 (Oj.mpr e); exact uE this
 rw[PV]
 have lx:((N6 st).extract k n1).toList=((N6 st).toList.drop k).take (n1-k):=bT ..
 have ly:((N6 st).extract n1 (n1+l)).toList=((N6 st).toList.drop n1).take l:=by rw[bT,Pc]
 have sx:((N6 st).extract k n1).size=n1-k:=by rw[Wp]; exact Ep hsz
 have sy:((N6 st).extract n1 (n1+l)).size=l:=by rw[Wp]; exact E1 hsz l1
 have ux:Up gr ((N6 st).extract k n1).toList:=by
  rw[lx]
  exact iq (λi j hi hij v=>u1 i j (Pf _) hij (FO h1 t v)) (G8 hsz o)
 have uy:Up gr ((N6 st).extract n1 (n1+l)).toList:=by
  rw[ly]
  exact iq (λi j hi hij v=>u2 i j hi hij (FH l1 v)) (HW hsz l1)
 have ox:∀ p∈(N6 st).extract k n1,go p:=λp hp=>g.ok p (by
  have:p∈((N6 st).extract k n1).toList:=T2.mpr hp
  rw[lx] at this
  exact T2.mp (Ry (Qg this)))
 have oy:∀ p∈(N6 st).extract n1 (n1+l),go p:=λp hp=>g.ok p (by
  have:p∈((N6 st).extract n1 (n1+l)).toList:=T2.mpr hp
  rw[ly] at this
  exact T2.mp (Ry (Qg this)))
 have hy0:gr (((N6 st).extract n1 (n1+l))[0]'(AA hl0 sy))=rkA gr (N6 st) n1:=by rw[Vp,<- eb]; rfl
 have hx1:gr (((N6 st).extract k n1)[((N6 st).extract k n1).size-1]'(AG o sx))=rkA gr (N6 st) (n1-1):=by
  rw[Vp,<- eV (arr:=N6 st) (i:=k+(((N6 st).extract k n1).size-1)) (Go hsz h1 h2 t sx)]
  congr 1
  exact E6 o sx
 have p0:∀ y∈((N6 st).extract k n1).toList,gr (((N6 st).extract n1 (n1+l))[0]'(AA hl0 sy))<=gr y:=λy hy=>by
  rw[lx] at hy
  refine cg (iw hy) λi i1 i2 i3 i4=>?_
  rw[hy0,i4]
  exact Oq (k3 i i1 (JY h1 t i2))
 have p1:∀ x∈((N6 st).extract n1 (n1+l)).toList,gr x<=gr (((N6 st).extract k n1)[((N6 st).extract k n1).size-1]'(AG o sx)):=λx hx=>by
  rw[ly] at hx
  refine cg (iw hx) λi i1 i2 i3 i4=>?_
  rw[hx1,i4]
  have:=l2 (i-n1) (Gr i1 i2)
  rw[show n1+(i-n1)=i by exact j9 i1] at this
  exact Oq this
 have fin:∀ (r:Oe N8) (z:On) (f:Oe N8->N8×N7->Oe N8),(∀ a p j,f a (p,j)=a.setIfInBounds (k+j) p)->Mgd gr ((N6 st).extract k n1).toList ((N6 st).extract n1 (n1+l)).toList r->N6 z=X7 f (N6 st) r.toList.zipIdx->(OP z).size=1->Pq z=NI->kindOf z=gk->Q vj z:=λr z f hf' hm e1 e2 e3 e4=>by
  have hlen:r.toList.length=n1-k+l:=by
   have:=hm.1.length_eq
   simp only[Ox,Om,sx,sy] at this
   rw[Om]; exact this
  have hto:=qC k hf' r.toList 0 (N6 st) (by rw[hlen]; exact Jy hsz h1 t l1)
  rw[<- e1,Vw,hlen,show k+(n1-k+l)=n1+l by exact AP h1 t] at hto
  have hL:(N6 st).toList=(N6 st).toList.take k++(((N6 st).toList.drop k).take (n1-k)++((N6 st).toList.drop n1).take l)++(N6 st).toList.drop (n1+l):=by
   have e5:((N6 st).toList.drop k).take (n1-k)++((N6 st).toList.drop n1).take l=((N6 st).toList.drop k).take (n1-k+l):=by
    rw[take_add' ((N6 st).toList.drop k) (n1-k) l,R5,show k+(n1-k)=n1 by exact F0 h1 t]
   rw[e5,<- take_add',show k+(n1-k+l)=n1+l by exact AP h1 t,Pj]
  refine h z ?_ ?_ e2 e3 e4
  ·refine QK.mpr ?_
   rw[hto]
   have:=hm.1
   rw[lx,ly] at this
   refine Jaj ?_ (XE hL.symm)
   exact (this.append_left _).append_right _
  ·rw[hto]
   have inXY:∀ x∈r.toList,∃ i,k<=i/\i<n1+l/\gr x=rkA gr (N6 st) i:=λx hx=>by
    have:=hm.1.mem_iff.mp hx
    rw[lx,ly] at this
    rcases Op.mp this with q | q
    ·refine cg (iw q) λi i1 i2 _ i4=>?_
     exact ⟨i,i1,by exact Hm h1 t i2,i4⟩
    ·refine cg (iw q) λi i1 i2 _ i4=>?_
     exact ⟨i,by exact vc ‹_› ‹_›,by assumption,i4⟩
   have lowXY:∀ i j,i<k->k<=j->j<(N6 st).size->rkA gr (N6 st) i<=rkA gr (N6 st) j:=λi j hi v u=>by
    by_cases e:j<n1
    ·exact u1 i j (Pf _) (Hp hi v) (zT e)
    ·exact vc (k2 i hi) (u2 _ _ (Ow _) (by exact OO ‹_›) (uL hsz u))
   have highXY:∀ i j,i<n1+l->n1+l<=j->j<(N6 st).size->rkA gr (N6 st) i<=rkA gr (N6 st) j:=λi j hi v u=>by
    by_cases e:i<n1
    ·refine vc (u1 i (n1-1) (Pf _) (uD e) (zG h1)) ?_
     have:=l3 (j-n1) (Et v) (z8 hsz h2 u)
     rwa [show n1+(j-n1)=j by exact JT v] at this
    ·exact u2 i j (by exact OO ‹_›) (JQ hi v) (uL hsz u)
   refine Qi.mpr ⟨Qi.mpr ⟨?_,hm.2,λx hx y hy=>?_⟩,?_,λx hx y hy=>?_⟩
   ·have:=iq (arr:=N6 st) (lo:=0) (n:=k) (λi j hi hij v=>u1 i j hi hij (Gp o v)) (Fw hsz o)
    rwa [RF] at this
   ·refine ar (oL hx) λi i1 i2 i3=>?_
    refine ar (inXY y hy) λj j1 j2 j3=>?_
    rw[i3,j3]
    exact lowXY i j i1 j1 (G1 hsz l1 j2)
   ·have:=iq (arr:=N6 st) (lo:=n1+l) (n:=n2-l) (λi j hi hij v=>u2 i j (Ey hi) hij (EZ l1 v)) (IC hsz l1)
    rwa [Pr (by rw[PN,Om]; exact GU hsz)] at this
   ·refine ar (xC hy) λj j1 j2 j3=>?_
    rw[j3]
    rcases Op.mp hx with hx | hx
    ·refine ar (oL hx) λi i1 i2 i3=>?_
     rw[i3]
     exact lowXY i j i1 (IF o j1) j2
    ·refine ar (inXY x hx) λi i1 i2 i3=>?_
     rw[i3]
     exact highXY i j i2 j1 j2
 by_cases c3:n1-k<=l
 all_goals first
  | (
   rw[NZ c3]
   refine Oa (rO (a:=(N6 st).extract k n1) (b:=(N6 st).extract n1 (n1+l)) hlt (by rw[sx]; exact Ju o) (by rw[sy]; exact Az hl0) ox oy a2 ux uy p0 p1 λr m sm hm=>?_))
  | (
   rw[N0 c3]
   refine Oa (rN (a:=(N6 st).extract k n1) (b:=(N6 st).extract n1 (n1+l)) hlt (by rw[sx]; exact F5 c3) (by rw[sy]; exact Az hl0) ox oy a2 ux uy p0 p1 λr m sm hm=>?_))
 all_goals
  refine Oa (SD (Oa (Su ?_)))
  have ef:Pq m=none:=sm.2.2.2.trans a4
  have key:=fin r (Wq (kindOf m) (X7 (λa x=>match x with | (p,j)=>a.setIfInBounds (k+j) p) (N6 m) r.toList.zipIdx) (OP m) (gallopOf m) (Pq m)) (λa x=>match x with | (p,j)=>a.setIfInBounds (k+j) p) (λuu uu uu=>rfl) hm (by show X7 _ (N6 m) _=_; rw[sm.2.1,a1]) (by show (OP m).size=1; rw[sm.2.2.1]; exact a3) ef (sm.1.trans a2)
  refine Ol ?_
  show Q (Pq m).isNone _
  rw[show (Pq m).isNone=vj by rw[ef]; rfl]
  exact key
end
section
theorem rM (h2:2<=n) (h:n<128):1<=YV n n 0/\YV n n 0<=n/\n<=2*YV n n 0:=by
 obtain ⟨f,rfl⟩:∃ f,n=f+1:=⟨n-1,by exact EB h2⟩
 rw[YW]
 by_cases c:f+1<64
 ·rw[NZ c]; exact ED
 ·rw[N0 c]
  obtain ⟨e,rfl⟩:∃ e,f=e+1:=⟨f-1,by exact IE h2⟩
  rw[YW,NZ (J2 h)]
  exact EC
structure Ph1 (gr:N8->N7) (st st':On) (n1:N7):Prop where
 perm:(N6 st').Perm (N6 st)
 kind:kindOf st' = kindOf st
 fail:Pq st' = NI
 pend:OP st' = #[(0,n1,0)]
 up:SegUp gr (N6 st') 0 n1
structure Ph2 (gr:N8->N7) (st st':On):Prop where
 perm:(N6 st').Perm (N6 st)
 kind:kindOf st' = kindOf st
 fail:Pq st' = NI
 runs:∃ n1 n2 pw,OP st' = #[(0,n1,pw),(n1,n2,0)]/\1<=n1/\1<=n2/\n1+n2=(N6 st).size/\SegUp gr (N6 st') 0 n1/\SegUp gr (N6 st') n1 n2
structure Dn (gr:N8->N7) (st st':On):Prop where
 perm:(N6 st').Perm (N6 st)
 fail:Pq st' = NI
 pend:(OP st').size=1
 up:Up gr (N6 st').toList
theorem Gd.perm {st st':On}(g:Gd gr go gk st) (hp:(N6 st').Perm (N6 st)) (hk:kindOf st' = kindOf st):Gd gr go gk st':=⟨λp h=>g.ok p (hp.mem_iff.mp h),hk.trans g.kind⟩
theorem C5 {α:Type}{c:Prop}{dc:VP c}{A:SC On Sem α}{jp:N7->SC On Sem α}{n:N7}(m:N7) (P:On->Prop) {st:On}{Q:α->On->Prop}(h1:c->(∀ st2,P st2->wpS gM gA gE gs (jp m) Q st2)->wpS gM gA gE gs A Q st) (h2:¬ c->n=m/\P st) (J:∀ st2,P st2->wpS gM gA gE gs (jp m) Q st2) :
  wpS gM gA gE gs (@ite _ c dc A (jp n)) Q st:=by
 by_cases q:c
 ·rw[NZ q]
  exact h1 q J
 ·rw[N0 q,(h2 q).1]
  exact J st (h2 q).2
theorem uB (hlt:bC gM gA gE gs gr go gk) {st:On}{Q:T6->On->Prop}(g:Gd gr go gk st) (h2:2<=(N6 st).size) (h128:(N6 st).size<128) (hp:OP st = #[]) (hf:Pq st=NI)
  (h:∀ st',(N6 st').Perm (N6 st)->Up gr (N6 st').toList->Pq st' = NI->Q () st'):wpS gM gA gE gs W7 Q st:=by
 rw[sortRuns'_eq]
 refine Oa (Su ?_)
 refine aK (rM h2 h128) λm1 m2 m3=>?_
 dsimp only
 generalize hN:(N6 st).size=N at *
 generalize YV N N 0=mr at *
 refine Oa (QF (Qa (I:=λx c st'=>(x=0/\c=(NI,0)/\st' = st)\/(∃ l,c=(NI,l)/\Ph1 gr st st' l/\mr<=l/\l<=N/\(x=1\/l=N))\/(c=(NI,N)/\Ph2 gr st st'))
  (Q:=λc st'=>c=(NI,N)/\(Ph1 gr st st' N\/Ph2 gr st st')) ?_ ?_ (.inl ⟨rfl,rfl,rfl⟩)) ?_)
 ·rintro x c st' _ hx (⟨rfl,rfl,rfl⟩ | ⟨l,rfl,p,q1,q2,q3⟩ | ⟨rfl,p2⟩)
  ·dsimp only
   rw[N0 (by exact Nat.not_le_of_lt ‹_›)]
   refine Oa (kH hlt g (GY hN) ‹_› λn o l n2 t up=>?_)
   dsimp only
   by_cases c:n<mr
   ·rw[NZ c]
    refine Oa (d7 (Oa (oR hlt (g.of t) (by rw[t.size]; exact Kg hN) (FM m2 c) up λk r u=>?_)))
    rw[N0 (by decide)]
    refine Oa (Su ?_)
    have ep:OP k = #[]:=by rw[r.pend,t.pend,hp]
    have em:min (N-0) mr=mr:=by exact Ex m2
    rw[em] at u ⊢
    rw[show (OP k).back? = NI by rw[ep]; rfl]
    refine Oa (SD (Ol (.inr (.inl ⟨mr,by rw[PV],⟨r.perm.trans t.perm,r.kind.trans t.kind,r.fail.trans (t.fail.trans hf),?_,u⟩,Ow _,m2,.inl rfl⟩))))
    show (OP k).push (0,mr,0)=_
    rw[ep]; rfl
   ·rw[N0 c]
    refine Oa (Su ?_)
    have ep:OP o = #[]:=by rw[t.pend,hp]
    rw[show (OP o).back? = NI by rw[ep]; rfl]
    refine Oa (SD (Ol (.inr (.inl ⟨n,by rw[PV],⟨t.perm,t.kind,t.fail.trans hf,?_,up⟩,by exact OO ‹_›,by assumption,.inl rfl⟩))))
    show (OP o).push (0,n,0)=_
    rw[ep]; rfl
  ·dsimp only
   by_cases c0:l≥N
   ·rw[NZ c0]
    have e:l=N:=by exact Io q2 c0
    subst e
    exact Ol ⟨rfl,.inl p⟩
   rw[N0 c0]
   have g1:=g.perm p.perm p.kind
   have v:(N6 st').size=N:=by rw[p.perm.size_eq,hN]
   refine Oa (kH hlt g1 (Ir c0 v) (Fy c0) λn o k1 k2 t up=>?_)
   dsimp only
   have fin:∀ (k:On) (pw:N7),Wn l (l+(N-l)) st' k->SegUp gr (N6 k) l (N-l)->Ph2 gr st (ZX (ZX k ((OP k).modify ((OP k).size-1) λx=>(x.1,x.2.1,pw))) (((OP k).modify ((OP k).size-1) λx=>(x.1,x.2.1,pw)).push (l,N-l,0))):=λk pw z u2=>by
    refine ⟨z.perm.trans p.perm,z.kind.trans p.kind,z.fail.trans p.fail,l,N-l,pw,?_,by exact Hg m1 q1,by exact N2 ‹_› ‹_›,by exact Jb hN k1 k2,?_,u2⟩
    ·show ((OP k).modify ((OP k).size-1) λx=>(x.1,x.2.1,pw)).push (l,N-l,0)=_
     rw[z.pend,p.pend]
     apply Wr.mp
     rw[Rc,Array.toList_modify]
     rfl
    ·intro i j hi hij hj
     show rkA gr (N6 k) i<=rkA gr (N6 k) j
     rw[cy (z.out i (.inl (Ed hij hj))),cy (z.out j (.inl (tL hj)))]
     exact p.up i j hi hij hj
   apply C5 (n:=n) (N-l) (λk=>Wn l (l+(N-l)) st' k/\SegUp gr (N6 k) l (N-l))
   ·intro c J
    refine Oa (d7 (Oa (oR hlt (g1.of t) (by rw[t.size]; exact Fz v k1 k2) (HS m3 q1 k2) up λk r u=>?_)))
    rw[N0 (by decide)]
    have em:min (N-l) mr=N-l:=JI m3 q1
    rw[em] at r u ⊢
    exact J k ⟨t.trans r,u⟩
   ·intro c
    have em:n=N-l:=G0 m3 q1 k2 c
    clear fin
    refine ⟨em,t,?_⟩
    rw[em] at up
    exact up
   ·intro k hI
    refine ae hI λz u=>?_
    clear hI
    refine Oa (Su ?_)
    have ep:OP k = #[(0,l,0)]:=by rw[z.pend,p.pend]
    rw[show (OP k).back? = ti (0,l,0) by rw[ep]; rfl]
    dsimp only
    refine Oa (QF (Qa (I:=λx c m=>m=k/\c=(NI,())) (Q:=λc m=>m=k/\c=(NI,())) ?_ ?_ ⟨rfl,rfl⟩) ?_)
    ·intro x c m _ _ MC
     refine ae (MC) λMw MA=>?_
     clear MC
     subst Mw
     subst MA
     refine Oa (Su ?_)
     rw[N0 (λq=>by rw[ep] at q; exact N5 q (SH 1))]
     exact Ol ⟨rfl,rfl⟩
    ·rintro c m h; exact h
    ·intro c m MG
     refine ae (MG) λMz Mv=>?_
     clear MG
     subst Mz
     subst Mv
     dsimp only
     refine Oa (SD (Oa (SD (Ol (.inr (.inr ⟨by rw[show l+(N-l)=N by lia],fin m _ z u⟩))))))
  ·dsimp only
   rw[NZ (Ow _)]
   exact Ol ⟨rfl,.inr p2⟩
 ·rintro c st' (⟨e,_⟩ | ⟨l,rfl,p,q1,q2,q3⟩ | ⟨rfl,p2⟩)
  ·exact Kk h2 e
  ·have e:l=N:=by exact GT h2 q3
   subst e
   exact ⟨rfl,.inl p⟩
  ·exact ⟨rfl,.inr p2⟩
 ·intro c st' My
  refine ae (My) λMB hph=>?_
  clear My
  subst MB
  dsimp only
  refine Oa (QF (Qa (I:=λx c st'=>c=(NI,())/\(Dn gr st st'\/(x=0/\Ph2 gr st st'))) (Q:=λc st'=>c=(NI,())/\Dn gr st st') ?_ ?_ ⟨rfl,?_⟩) ?_)
  ·intro x c o _ hx Mx
   refine ae (Mx) λME y=>?_
   clear Mx
   subst ME
   refine Oa (Su ?_)
   rcases y with y | ⟨rfl,p2⟩
   ·rw[NZ (by rw[y.pend]; exact Ow _)]
    exact Ol ⟨rfl,y⟩
   ·refine tp (p2.runs) λl n2 pw e1 e2 e3 e4 e5 e6=>?_
    have es:(OP o).size=2:=by rw[e1]; rfl
    rw[N0 (IG es),es]
    have v:(N6 o).size=N:=by rw[p2.perm.size_eq,hN]
    refine Oa (rV hlt (g.perm p2.perm p2.kind) e1 (FA hN e4 v) e2 e3 e5 e6 p2.fail λk f1 f2 f3 f4 f5=>?_)
    exact Ol ⟨rfl,.inl ⟨f1.trans p2.perm,f4,f3,f2⟩⟩
  ·intro c o MD
   refine ae (MD) λML y=>?_
   clear MD
   subst ML
   refine ⟨rfl,y.resolve_right λq=>?_⟩
   have:=q.1
   exact EL h2 q
  ·rcases hph with p | p2
   ·left
    refine ⟨p.perm,p.fail,by rw[p.pend]; rfl,?_⟩
    have v:(N6 st').size=N:=by rw[p.perm.size_eq,hN]
    have:=iq p.up (Ej v)
    rwa [RF,Pr (by rw[Om]; exact EJ v)] at this
   ·exact .inr ⟨rfl,p2⟩
  ·intro c o MJ
   refine ae (MJ) λMF y=>?_
   clear MJ
   subst MF
   exact Ol (h o y.perm y.up y.fail)
end
theorem nc:∀ a:uq N3,ltL a a=NY
 | []=>rfl
 | a::as=>by simp[ltL,nc as]
theorem gD:∀ {a b c:uq N3},ltL a b=vj->ltL b c=vj->ltL a c=vj
 | [],[],_,h,_=>by simp[ltL] at h
 | [],_::_,[],_,h=>by simp[ltL] at h
 | [],_::_,_::_,_,_=>rfl
 | _::_,[],_,h,_=>by simp[ltL] at h
 | _::_,_::_,[],_,h=>by simp[ltL] at h
 | a::as,b::bs,c::cs,h1,h2=>by
  unfold ltL at h1 h2 ⊢
  by_cases e1:a=b
  ·subst e1
   rw[NZ rfl] at h1
   by_cases e2:a=c
   ·rw[NZ e2] at h2 ⊢; exact gD h1 h2
   ·rw[N0 e2] at h2 ⊢; exact h2
  ·rw[N0 e1] at h1
   by_cases e2:b=c
   ·subst e2; rw[N0 e1]; exact h1
   ·rw[N0 e2] at h2
    simp only[OT] at h1 h2
    rw[N0 (FK h1 h2)]
    simp only[OT]; exact GX h1 h2
theorem hY:∀ {a b:uq N3},ltL a b=NY->ltL b a=NY->a=b
 | [],[],_,_=>rfl
 | [],_::_,h,_=>by simp[ltL] at h
 | _::_,[],_,h=>by simp[ltL] at h
 | a::as,b::bs,h1,h2=>by
  unfold ltL at h1 h2
  by_cases e:a=b
  ·subst e
   rw[NZ rfl] at h1 h2
   rw[hY h1 h2]
  ·rw[N0 e] at h1
   rw[N0 (PT e)] at h2
   simp only[QA] at h1 h2
   exact JF e h1 h2
noncomputable def rkL (ks:uq (uq N3)) (k:uq N3):Nat:=ks.countP λx=>ltL x k
theorem countP_le:∀ {l:uq α},(∀ x∈l,p x=vj->q x=vj)->l.countP p<=l.countP q
 | [],_=>Ow _
 | x::l,h=>by
  have g:=countP_le λy i=>h y (.tail _ i)
  rw[RS,RS]
  cases hp:p x with
  | true=>rw[h x (.head _) hp]; simp; exact g
  | false=>simp; exact Kb g
theorem n6:∀ {l:uq α}{y:α},(∀ x∈l,p x=vj->q x=vj)->y∈l->p y=NY->q y=vj->l.countP p<l.countP q
 | x::l,y,h,hy,h1,h2=>by
  rw[RS,RS]
  rcases Ou.mp hy with rfl | hy
  ·rw[h1,h2]
   have:=countP_le λz g=>h z (.tail _ g)
   simp; exact JM this
  ·have i:=n6 (λz g=>h z (.tail _ g)) hy h1 h2
   cases hp:p x with
   | true=>rw[h x (.head _) hp]; simp; exact i
   | false=>simp; exact JD i
theorem vM (ha:a∈ks) (hb:b∈ks):ltL a b=decide (rkL ks a<rkL ks b):=by
 have g:∀ {a b:uq N3},a∈ks->ltL a b=vj->rkL ks a<rkL ks b:=λ{a b} ha h=>n6 (λx _ i=>gD i h) ha (nc a) h
 cases h:ltL a b with
 | true=>rw[OA (g ha h)]
 | false=>
  refine (OC λq=>?_).symm
  cases h':ltL b a with
  | true=>have:=g hb h'; exact J8 q this
  | false=>rw[hY h h'] at q; exact SH _ q
theorem iI (ks:uq (uq N3)):(bl ks).Pairwise λa b=>ltL b a=false:=by
 have:=SK (le:=λa b:uq N3=>!ltL b a) (λa b c g i=>by
  simp only[P8] at g i ⊢
  cases q:ltL c a with
  | false=>rfl
  | true=>
   cases q2:ltL b c with
   | true=>rw[gD q2 q] at g; exact nT g
   | false=>rw[hY i q2,g] at q; cases q) (λa b=>by
  cases q:ltL b a with
  | false=>rfl
  | true=>
   cases q2:ltL a b with
   | false=>rfl
   | true=>have:=gD q q2; rw[nc] at this; cases this) ks
 exact this.imp λh=>by simpa using h
theorem gi:∀ {l l':uq (uq N3)},l.Perm l'->(l.Pairwise λa b=>ltL b a=NY)->(l'.Pairwise λa b=>ltL b a=NY)->l=l'
 | [],l',p,_,_=>by rw[p.nil_eq]
 | a::l,[],p,_,_=>by cases p.eq_nil
 | a::l,b::l',p,h,h'=>by
  obtain ⟨k,j⟩:=Sl.mp h
  obtain ⟨i,g⟩:=Sl.mp h'
  have e:a=b:=by
   rcases Ou.mp (p.mem_iff.mp (Q4 (a:=a) (l:=l))) with e | e
   ·exact e
   ·rcases Ou.mp (p.mem_iff.mpr (Q4 (a:=b) (l:=l'))) with e' | e'
    ·exact e'.symm
    ·exact hY (i a e) (k b e')
  subst e
  rw[gi ((VG a).mp p) j g]
noncomputable def iN:uq N3->uq N3->NX OF
 | a::as,b::bs=>if a=b then iN as bs else ti (decide (a<b))
 | _,_=>NI
theorem qu:∀ a b:uq N3,ltL a b=(iN a b).getD (decide (a.length<b.length))
 | [],[]=>rfl
 | [],_::_=>by simp[ltL,iN]
 | _::_,[]=>by simp[ltL,iN]
 | a::as,b::bs=>by
  unfold ltL iN
  by_cases e:a=b
  ·rw[NZ e,NZ e,qu as bs]; simp
  ·rw[N0 e,N0 e]; rfl
noncomputable def KeyOf (h:O2) (v:Lt) (k:uq N3):Prop:=∃ a vs n,v = .ref a/\h.get? a=ti ⟨.type "tuple", NI,.seq vs.toArray n,#[]⟩/\P2 vs k
noncomputable def jC (v:Lt):Int:=match v with
 | .int i _=>i
 | _=>0
theorem IntsAre.read (h:P2 vs k):k=vs.map jC:=by
 induction h with
 | nil=>rfl
 | cons n t r ih=>exact PG (n :: ·) ih
theorem IntsAre.fn (a:P2 vs k) (b:P2 vs k'):k=k':=(IntsAre.read a).trans (IntsAre.read b).symm
theorem KeyOf.fn (a:KeyOf h v k) (b:KeyOf h v k'):k=k':=by
 refine aX (a) λx m n j e i=>?_
 clear a
 subst j
 refine aX (b) λuu g p q l o=>?_
 clear b
 cases q
 rw[e] at l
 have:m=g:=by cases l; rfl
 subst this
 exact IntsAre.fn i o
theorem KeyOf.ofR (r:R h v (.tuple (k.map .int)) as):KeyOf h v k:=by
 cases r with
 | @tuple a n xs as vs e ra=>
  have g:aR (k.map Oz)=ti k:=by
   clear ra e
   induction k with
   | nil=>rfl
   | cons x k ih=>show (aR (k.map Oz)).map (x :: ·)=_; rw[ih]; rfl
  exact (dQ a vs n rfl e ((ra.ints g).1))
section
variable {A:OI}{E:Lt->NU->Prop}{s:NU}
theorem l5 (c:OF) (h:Q (decide (a<b)) s):Og (Ok prog w) A (ZY c (.int a t) (.int b u)) Q E s:=by
 cases c with
 | true=>exact oneLt_int h
 | false=>
  rw[oneLt'_eq]
  simp only[OL,PA]
  exact Is (YX (Qy h))
theorem qM (c:OF) (x y:Lt):ZZ (YY c) x y=(do
  let xs <- QH x; let ys <- QH y
  for ((p,q),i) in (xs.toList.zip ys.toList).zipIdx do
   if !(<- eqBool p q) then return <- ZY (c&&i==0) p q
  return xs.size<ys.size):=rfl
theorem xJ {body:(Lt×Lt)×N7->NX OF×T6->Sem (OB (NX OF×T6))}{R:NX OF×T6->NU->Prop}
  (hb:∀ (a b:N3) (t u:Tok) (i:N7) (R':OB (NX OF×T6)->NU->Prop),R' (if a=b then .yield (NI,()) else .done (ti (decide (a<b)),())) s->Og (Ok prog w) A (body ((.int a t,.int b u),i) (NI,())) R' E s)
  {vs:uq Lt}{k:uq N3}(ia:P2 vs k):∀ {us:uq Lt}{k':uq N3}(i:N7),P2 us k'->R (iN k k',()) s->Og (Ok prog w) A (Ud ((vs.zip us).zipIdx i) (NI,()) body) R E s:=by
 induction ia with
 | nil=>
  intro us k' i g h
  rw[List.zip_nil_left,Vh,VI]
  exact Od h
 | cons a t r ih=>
  intro us k' i g h
  induction g with
  | nil=>
   rw[Ws,Vh,VI]
   exact Od h
  | cons b u q ih'=>
   rw[Qs,W8,Wo]
   refine Is (hb a b t u i _ ?_)
   by_cases e:a=b
   ·rw[NZ e]
    exact ih (i+1) q (by rw[iN,NZ e] at h; exact h)
   ·rw[N0 e]
    exact Od (by rw[iN,N0 e] at h; exact h)
theorem v4 (c:OF) (hx:KeyOf s.heap x k) (hy:KeyOf s.heap y k') (h:Q (ltL k k') s):Og (Ok prog w) A (ZZ (YY c) x y) Q E s:=by
 refine aX (hx) λa vs n l ea v=>?_
 clear hx
 subst l
 refine aX (hy) λb us m j eb o=>?_
 clear hy
 subst j
 rw[qM]
 refine Is (TP ea rfl (Is (TP eb rfl ?_)))
 simp only[List.toList_toArray]
 refine Is (xJ (λp q t u i R' g=>?_) v 0 o ?_)
 ·dsimp only
  refine Is (W9 ?_)
  by_cases e:p=q
  ·subst e
   rw[NZ rfl] at g
   rw[N0 (by simp)]
   exact Od g
  ·rw[N0 e] at g
   rw[NZ (by simpa using e)]
   exact Is (l5 _ (Od g))
 ·rw[qu] at h
  have l1:=v.length
  have z:=o.length
  cases e:iN k k' with
  | none=>
   rw[e] at h
   refine Od ?_
   simp only[OJ]
   rw[<- l1,<- z] at h
   exact h
  | some r=>rw[e] at h; exact Od h
theorem qQ (v:Lt):Wd v=(do
  if (<- typeOf v) != .type "tuple" then return NI
  return (<- QH v)[0]?):=rfl
theorem kP:∀ {ks:uq (uq N3)}{vs:uq Lt},vs.length=ks.length->(∀ (i:N7) (v:Lt) (k:uq N3),vs[i]? = ti v->ks[i]? = ti k->KeyOf s.heap v k/\k≠[])->(∀ fs:uq Lt,fs.length=vs.length->(∀ f∈fs,∃ a t,f = .int a t)->Q (fs.map ti) s)->Og (Ok prog w) A (vs.mapM Wd) Q E s
 | [],[],_,_,h=>by rw[X8]; exact Od (h [] rfl λuu q=>nomatch q)
 | [],_::_,hl,_,_=>by simp at hl
 | _::_,[],hl,_,_=>by simp at hl
 | k::ks,v::vs,hl,hk,h=>by
  refine ae (hk 0 v k rfl rfl) λg l=>?_
  refine aX (g) λa us n j p u=>?_
  clear g
  subst j
  rw[Xc]
  refine Is ?_
  rw[qQ]
  refine Is (TQ (T:="tuple") (ah _ p rfl) ?_)
  rw[N0 (by decide)]
  refine Is (TP p rfl (Od ?_))
  cases u with
  | nil=>exact N5 rfl l
  | cons x t r=>
   refine Is (kP (ks:=ks) (vs:=vs) (by simpa using hl) (λi v k z y=>hk (i+1) v k (by simpa using z) (by simpa using y)) λfs o m=>Od ?_)
   have:=h (.int x t::fs) (by simp[o]) (λf hf=>(Ou.mp hf).elim (λe=>(cf x t e)) (m f))
   simpa using this
theorem oK:∀ {fs:uq Lt},(∀ f∈fs,∃ a t,f = .int a t)->Q (fs.map λuu=>.type "int") s->Og (Ok prog w) A (fs.mapM typeOf) Q E s
 | [],_,h=>by rw[X8]; exact Od h
 | f::fs,hf,h=>by
  refine bz (hf f (.head _)) λa t g=>?_
  subst g
  rw[Xc]
  refine Is (Od (Is (oK (fs:=fs) (λf h=>hf f (.tail _ h)) (Od h))))
theorem we {ks:uq (uq N3)}{vs:uq Lt}{Q:SY->NU->Prop}(hl:vs.length=ks.length) (h1:1<=vs.length) (hk:∀ (i:N7) (v:Lt) (k:uq N3),vs[i]? = ti v->ks[i]? = ti k->KeyOf s.heap v k/\k≠[]) (h:Q (YY vj) s):Og (Ok prog w) A (X9 vs.toArray) Q E s:=by
 rw[Zw,S2,Th]
 refine Is (Is (kP hl hk λo m p=>Od ?_))
 have n:((o.map ti).toArray.all λx=>x.isSome)=true:=by simp
 rw[NZ n]
 refine Is (Z0 ?_)
 have q:((o.map ti).toArray.filterMap id)=o.toArray:=by simp
 rw[q,XF,S2,Th]
 refine Is (Is (Is (oK p (Od ?_))))
 obtain ⟨g,l,rfl⟩:∃ g l,o=g::l:=by
  cases o with
  | nil=>simp at m; exact EW h1 m
  | cons g l=>exact (cf g l rfl)
 have j:((Yb (λuu=>QL "int") (g::l)).toArray.all λx=>x==QL "int")=true:=by
  simp only[Xd,VV,Pm]
  intro _ _
  rfl
 have r:(Yb (λuu=>QL "int") (g::l)).toArray[0]? = ti (QL "int"):=by simp
 rw[r]
 simp only[j,Qz]
 exact Od (Od h)
end
section
end
theorem sD:lK sg:=λj _ _ g l i k hf h=>uB j g l i k hf h
section
variable {A:OI}{E:Lt->NU->Prop}{s:NU}{rk:N8->N7}{ok:N8->Prop}{κ:SY}
theorem s7 (hlt:bC (Ok prog w) A E s rk ok κ) {st:On}{Q:T6->On->Prop}(g:Gd rk ok κ st) (h2:2<=(N6 st).size) (h64:(N6 st).size<64) (hp:OP st = #[]) (hf:Pq st=NI)
  (h:∀ st',(N6 st').Perm (N6 st)->Up rk (N6 st').toList->Pq st' = NI->Q () st'):wpS (Ok prog w) A E s W7 Q st:=wo sD ⟨A,E,s,rk,ok,κ⟩ hlt g h2 (Rv h64 (by decide)) hp hf h
theorem rt (hlt:bC (Ok prog w) A E s rk ok κ) {st:On}{Q:T6->On->Prop}(g:Gd rk ok κ st) (h2:2<=(N6 st).size) (h128:(N6 st).size<128) (hp:OP st = #[]) (hf:Pq st=NI)
  (h:∀ st',(N6 st').Perm (N6 st)->Up rk (N6 st').toList->Pq st' = NI->Q () st'):wpS (Ok prog w) A E s W7 Q st:=wo sD ⟨A,E,s,rk,ok,κ⟩ hlt g h2 h128 hp hf h
end
section
variable {A:OI}{E:Lt->NU->Prop}{s:NU}
noncomputable def mX (v:Lt):Nat:=match v with
 | .int i _=>i.toNat
 | _=>0
theorem vq (x y:Lt):ZZ UF x y=ZY vj x y:=rfl
theorem wx:bC (Ok prog w) A E s (λp=>mX p.1) (λp=>∃ i t,p.1 = .int i t/\0<=i) oneType':=by
 intro x y n Q k g hk h
 refine au (k) λi t ex m=>?_
 clear k
 refine au (g) λj u l o=>?_
 clear g
 have e:(ti (decide (mX x.1<mX y.1)))=ti (decide (i<j)):=by
  rw[ex,l]
  show ti (decide (i.toNat<j.toNat))=_
  rw[R2.mpr (show i.toNat<j.toNat↔i<j by exact IX m)]
 dsimp only at h
 rw[e] at h
 rw[lt'_eq]
 refine Oa (Su ?_)
 rw[hk,ex,l,vq]
 refine Oa (wpS_lift (We (l5 vj ⟨rfl,?_⟩)))
 exact Ol h
end
section
theorem Kp.wr (k:Kp s0 s) (e:s.heap.get? a=ti (O7 "list" xs n)) (h0:s0.heap.get? a=Qv) (hs:Pn a s.heap h'):Kp s0 {s with heap:=h' }:=by
 revert k; intro g
 refine au (g) λh j i k=>?_
 clear g
 subst i
 refine ⟨h',j,rfl,K.same k hs h0 λo q=>?_⟩
 rw[e] at q; (have l:=Gt q; clear q; subst l); exact Stay.not_list
theorem yH {α:Type}{R:α->α->Prop}{l:uq α}(h:l.length<=1):l.Pairwise R:=by
 rcases l with _ | ⟨x,_ | ⟨y,l⟩⟩
 ·exact .nil
 ·exact UI ..
 ·cases h with
  | step h=>cases h
theorem eS (a:Oe α) (b:uq β):(a.zip b.toArray).toList=a.toList.zip b:=by
 first
  | simp
  | (cases a; simp)
theorem sa {α β:Type}{a:uq α}{b:uq β}{i:N7}{x:α}{y:β}(h1:a[i]? = ti x) (h2:b[i]? = ti y):(a.zip b)[i]? = ti (x,y):=Sd.mpr ⟨h1,h2⟩
end
section
end
theorem gL:∀ {ns:uq Str}{vs:uq α}{n:Str},vs.length=ns.length->n∈ns->((ns.zip vs).lookup n).isNone=NY
 | [],_,_,_,h=>nomatch h
 | m::ns,[],_,h,_=>by simp at h
 | m::ns,v::vs,n,hl,h=>by
  rw[Qs,Pb]
  by_cases e:n=m
  ·(clear h hl; subst e); simp
  ·have g:(n==m)=false:=by simpa using e
   rw[g]
   exact gL (by simpa using hl) ((Ou.mp h).resolve_left e)
theorem ja:∀ {ns:uq Str}{vs:uq Lt},ns.Nodup->vs.length=ns.length->(ns.filterMap λn=>((ns.zip vs).lookup n).map (n,·))=ns.zip vs
 | [],_,_,_=>rfl
 | m::ns,[],_,h=>by simp at h
 | m::ns,v::vs,hn,hl=>by
  rw[QC] at hn
  rw[RQ]
  simp only[Qs,Pb,Pi,UC]
  congr 1
  have k:=ja hn.2 (vs:=vs) (by simpa using hl)
  have i:∀ (l:uq Str),(∀ n∈l,n≠m)->(l.filterMap λn=>(match n==m with | true=>ti v | false=>(ns.zip vs).lookup n).map (n,·))=l.filterMap λn=>((ns.zip vs).lookup n).map (n,·):=by
   intro l g
   induction l with
   | nil=>rfl
   | cons n l ihl=>
    have p:(n==m)=false:=Pd.mpr (g n (.head _))
    rw[RQ,RQ,ihl λx o=>g x (.tail _ o)]
    simp only[p]
  exact (i ns λn j e=>hn.1 (e▸j)).trans k
theorem pb (a:α) (f:α->Sem β):((Pu a:Sem α)>>=f)=f a:=rfl
theorem DE {α β γ:Type}{l:uq α}{i:β}{f:α->β->Sem (OB β)}{k:β->Sem γ}{z:Sem γ}(h:l=[]) (e:k i=z):(Ud l i f>>=k)=z:=by subst h; exact e
theorem wa [VP c] (h:¬ c) (e:y=z):(if c then x else y)=z:=(N0 h).trans e
theorem tr {ps:uq Str}(h1:fd.params.posonlyargs=[]) (h2:fd.params.args.map (·.arg)=ps) (h3:fd.params.vararg=NI) (h4:fd.params.kwonlyargs=[]) (h5:fd.params.kwarg=NI) (h6:fd.defaults = .none)
  (hn:ps.Nodup) (hl:vals.length=ps.length):XX fd ⟨vals,[]⟩=Pu (ps.zip vals):=by
 obtain ⟨u,qn,⟨r,g,p,y,z,v,df⟩,bd,q,gl,cl,de,j,o,t,an,cd,ct,bu⟩:=fd
 dsimp only at h1 h2 h3 h4 h5 h6
 subst h1 h3 h4 h5 h6
 have m:(ps.take ps.length).filter (λn=>((ps.zip vals).lookup n).isNone)=[]:=by
  rw[UG,List.filter_eq_nil_iff]
  intro n h
  rw[gL hl h]
  simp
 have k:(ps++[]).filterMap (λn=>((ps.zip vals).lookup n).map λx=>(n,x))=ps.zip vals:=by rw[PU]; exact ja hn hl
 subst h2
 refine wa (c:=(decide (vals.length>(g.map (·.arg)).length)&&vj)=vj) (by rw[hl]; simp) ?_
 have i:VW (0-(g.map (·.arg)).length) ([]:uq Lt)=[]:=List.drop_nil
 refine wa (c:=(!(((g.map (·.arg)).take ((g.map (·.arg)).length-(VW (0-(g.map (·.arg)).length) ([]:uq Lt)).length)).filter λn=>(((g.map (·.arg)).zip vals).lookup n).isNone).isEmpty)=vj) (by rw[i]; show ¬ (!(((g.map (·.arg)).take (g.map (·.arg)).length).filter λn=>(((g.map (·.arg)).zip vals).lookup n).isNone).isEmpty)=vj; rw[m]; simp) ?_
 refine DE (l:=((g.map (·.arg)).drop ((g.map (·.arg)).length-(VW (0-(g.map (·.arg)).length) ([]:uq Lt)).length)).zip (VW (0-(g.map (·.arg)).length) ([]:uq Lt))) (by rw[i]; exact Ws) ?_
 exact PG (λx=>(Pu x:Sem _)) k
section
end
section
end
section
end
def RawD (h:O2) (d:Oo) (es:Oe VX) (ep:N7):Prop:=∃ o,h.get? d=ti o/\o.cls = .type "dict" /\ o.data = .dict es ep
theorem RawD.typ {s:NU}{d:Oo}{es:Oe VX}{ep:N7}(x:RawD s.heap d es ep):s.TypeIs (.ref d) "dict" := ar (x) λo h g uu=>(ah o h g)
theorem RawD.at (x:RawD h d es ep) (k:∀ o,h.get? d=ti o->h'.get? d=ti o):RawD h' d es ep:=ag (x) λo g r=>(ah o (k o g) r)
section
variable {A:OI}{E:Lt->NU->Prop}{s:NU}{d it:Oo}{es:Oe VX}{ep i:N7}
theorem yG {Q:Lt->NU->Prop}(hd:(d==T1)=NY) (hm:RawD s.heap d es ep)
  (hQ:Q (.ref s.heap.objs.size) {s with heap:=s.heap.push {cls:=.type "dict_keyiterator", data:=.fields #[.ref d,.int 0 0,.int es.size 0,.int ep 0] } }) :
  Og (Ok prog w) A (W6 (.ref d)) Q E s:=by
 have h:=hm.typ
 refine ar (hm) λo i j g=>?_
 clear hm
 refine wpAny_pyIter_slot h Xe (Ti Xe h F.entry_dict_iter ?_ (F.args_dict_iter_1 _))
 unfold Ub.«dict.__iter__»
 refine Is ?_
 unfold Yo
 refine Is (wpAny_notOrdered_dict h (Od ?_))
 show Og _ _ (Vq d>>=_) _ _ s
 unfold Vq
 rw[N0 (by rw[hd]; exact Qo)]
 refine Is (Od (Is (WR i g (Is (XG i g ?_)))))
 refine Is (RL (Od (ah _ rfl (aQ ("dict_keyiterator") _ (ah _ (Ov _ rfl) rfl) Rz.lookup ?_))))
 simpa [SE] using hQ
theorem pA (hh:A.handled=NI) (hit:s.heap.IsKeyIter it d i es.size ep) (hm:RawD s.heap d es ep)
  (hQ:∀ (hi:i<es.size) h',h'.IsKeyIter it d (i+1) es.size ep->Pn it s.heap h'->Q (ti es[i].key) {s with heap:=h' })
  (hE:es.size<=i->∀ h',Heap.ExtBut it s.heap h'->Q NI {s with heap:=h' }):Og (Ok prog w) A (pyNext (.ref it)) Q E s:=by
 refine ar (id hit) λo p r n=>?_
 refine ar (hm) λt j q l=>?_
 clear hm
 unfold pyNext
 refine Is (We (wpAny_callSpecial?_slot (name:=oD "__next__") hit.typeIs Rz
  (Ti Rz hit.typeIs F.entry_dict_keyiterator_next ?_ (F.args_dict_keyiterator_next_1 _))))
 refine Is (Od (Is (Is ?_)))
 first | refine Is (Re hit.typeIs (Od ?_)) | refine Is (So hit.typeIs (Od ?_))
 refine Is (wpAny_fieldsOf p n ?_)
 have h:XH "dict_keyiterator" = false:=by decide
 rw[h,N0 Qo]
 show Og _ _ (if (OR d==Rp)=vj then _ else _) _ _ s
 rw[N0 (show ¬ ((OR d==Rp)=vj) from Qo)]
 refine Is (Od (Is (WR j l ?_)))
 rw[N0 (by simp)]
 refine Is (Od (Is (XG j l ?_)))
 rw[N0 (by simp)]
 refine Od ?_
 by_cases hi:i<es.size
 ·dsimp only
  rw[N0 (show ¬ ((i:N3)<0) from by exact AT),RM,QR hi]
  dsimp only
  refine Is ?_
  first | refine Is (Re hit.typeIs (Od ?_)) | refine Is (So hit.typeIs (Od ?_))
  refine Is (Vr hit.typeIs ?_)
  show Og _ _ (Zy (.ref it) 1 (SE ((i:N3)+1))>>=_) _ _ s
  refine Is (S4 p n (by simp) ?_)
  have g:(s.heap.update it (Sp (·.setIfInBounds 1 (SE ((i:N3)+1))))).IsKeyIter it d (i+1) es.size ep :=
   (aG _ (PQ _ p (Te (Rq n _))) ((Ug ..).trans r) (by rw[Rq n]; simp[SE]))
  refine Is (P4 (Is (Vr (s:={s with heap:=s.heap.update it (Sp (·.setIfInBounds 1 (SE ((i:N3)+1)))) }) g.typeIs ?_)))
  show Og _ _ (Pu es[i].key) _ _ _
  exact Od (Od (ah _ rfl (Od (hQ hi _ g (PO ..)))))
 ·have k:es.size<=i:=by exact FL hi
  dsimp only
  rw[N0 (show ¬ ((i:N3)<0) from by exact AT),RM,Array.getElem?_eq_none k]
  dsimp only
  refine Is ?_
  first | refine Is (Re hit.typeIs (Od ?_)) | refine Is (So hit.typeIs (Od ?_))
  show Og _ _ (Zy (.ref it) 0 .none>>=_) _ _ s
  refine Is (S4 p n (by simp) ?_)
  show Og _ _ (newExc (.type "StopIteration") []>>=_) _ _ _
  refine Is ?_
  simp only[newExc,newTuple]
  refine Is (RL ?_ (by size_fits))
  refine Is (m:=Yc _ _) (wpAny_of_eq (a:=Rp) (by first | rfl | (simp only[Yc]; rfl)) ?_)
  refine RL ?_ (by size_fits)
  simp only[raiseNew]
  refine Is (wpAny_handled ?_)
  rw[show A.in1.handled=NI from hh]
  refine Is (Od (Zz ?_))
  refine Is (Xf (T:="StopIteration") (b:=vj) (ah _ (Ov _ rfl) rfl) isSubtype_stop ?_)
  exact Od (hE k _ (((PO ..).extBut.push _).push _))
end
theorem v5 {A:OI}(hh:A.handled=NI) (I d:Oo) (hne:d≠I) (es:Oe VX) (ep:N7) :
  Walks prog w A I [I,d] [I] es.size (λi v=>∃ hi:i<es.size,v=es[i].key) (λi h=>h.IsKeyIter I d i es.size ep/\RawD h d es ep) where
 sub:=λb j=>by simp at j; simp[j]
 frame:=λuu uu uu g hk=>⟨g.1.at λo e=>hk I (by simp) o e,g.2.at λo e=>hk d (by simp) o e⟩
 item:=λi s Q E hi g m=>pA hh g.1 g.2 (λn r l k=>m _ r s.toks ⟨n,rfl⟩ ⟨l,g.2.at λo e=>k.extBut d o hne e⟩ λb o j e=>k.extBut b o (λh=>j (by simp[h])) e) λp=>N5 hi (Wk.mpr p)
 done:=λs Q E g m=>pA hh g.1 g.2 (λhi=>N5 hi (SH _)) λuu r q=>m r s.toks λb o j e=>q b o (λh=>j (by simp[h])) e
 self:=λuu uu uu uu g m=>wpAny_pyIter_keyiter g.1 m
section
variable {A:OI}{E:Lt->NU->Prop}{s:NU}{d S:Oo}{es:Oe VX}{ep:N7}
theorem vr (hT:s.TypeIs (.ref d) "dict") (h:Q NY s):Og (Ok prog w) A (TR (.ref d)) Q E s:=by
 unfold TR
 refine Is (wpAny_specialOf hT Zd.lookup ?_)
 generalize g:("dict.__len__" : If)=id0
 wp_delta
 rw[show splitId id0=ti ("dict", "__len__") from by subst g; decide +kernel]
 subst g
 refine Is (Xf (T:="dict") (b:=vj) hT (by rw[isSubtype_type]; kernel_rfl) ?_)
 refine Vi (λq=>N5 q (by decide)) λuu=>Vi (λuu=>Is (TQ hT (Od h))) λq=>N5 (by decide +kernel) q
theorem tO {R:W3->NU->Prop}(lo:(d==T1)=NY) (hh:A.handled=NI) (hm:RawD s.heap d es ep) (hn:es.size<=Qw) (hSd:S≠d) {c₀:N7}(hS:s.heap.get? S=ti {cls:=.type "list", data:=.seq #[] c₀ })
  (hR:∀ h' tk acc' c',(∀ b o,b≠S->s.heap.get? b=ti o->h'.get? b=ti o)->h'.get? S=ti {cls:=.type "list", dict:=NI,data:=.seq acc' c',slots:=#[] }->ItemsOf (λi v=>∃ hi:i<es.size,v=es[i].key) acc' es.size->R (.ok (.ret .none)) {s with heap:=h',toks:=tk }) :
  Og (Ok prog w) A.in1 (QI (.ref S) (.ref d) .none)
   (λfin s'=>match fin with | .done f=>R (.ok f) s' | .again c'=>c'.quiet=vj/\VQ (Ok prog w) A c' R s') (λe s'=>R (.error e) s') s:=by
 have z:S≠s.heap.objs.size:=PL (QW hS)
 have y:d≠s.heap.objs.size:=ag (hm) λuu e uu=>PL (QW e)
 have t:S∉[s.heap.objs.size,d]:=by simp only[Ou,Uh,WS,not_or]; exact ⟨z,hSd⟩
 have W:=v5 (A:=A.in1) hh s.heap.objs.size d y es ep
 have l:∀ (h:O2) (k tk:N7),(h.IsKeyIter s.heap.objs.size d 0 es.size ep/\RawD h d es ep)->(∀ b o,b≠S->s.heap.get? b=ti o->h.get? b=ti o) ->
   h.get? S=ti {cls:=.type "list", data:=.seq #[] k }->VQ (Ok prog w) A (.builtin "list.extend.loop" ⟨[.ref S,.ref s.heap.objs.size,.none],[]⟩) R {s with heap:=h,toks:=tk }:=λh k tk x hk g=>by
  refine codeAny_extend_loopS W.toS hn S t .none es.size 0 _ #[] k rfl (Pf _) x g (ItemsOf.nil _) λs' acc' c' p hS' r=>?_
  rw[Moved.eq_with p]
  refine hR s'.heap s'.toks acc' c' (λb o m e=>p.heap b o (λhmem=>?_) (hk b o m e)) hS' r
  rcases Ou.mp hmem with e' | hmem
  ·exact m e'
  ·exact N5 (QW e) (by rw[N1.mp hmem]; exact SH _)
 unfold QI
 refine Is (TQ (T:="dict") hm.typ ?_)
 have h1:Uq (.ref S) (.ref d)=false:=by simp[Uq,hSd]
 simp only[h1,show (QL "dict" == QL "list")=NY by decide,show (QL "dict" == QL "tuple")=NY by decide,Yu,OL,PA]
 refine Is (yG lo hm ?_)
 have g:=Oi {cls:=.type "dict_keyiterator", data:=.fields #[.ref d,.int 0 0,.int es.size 0,.int ep 0] } hS
 have u:(s.heap.push {cls:=.type "dict_keyiterator", data:=.fields #[.ref d,.int 0 0,.int es.size 0,.int ep 0] }).IsKeyIter s.heap.objs.size d 0 es.size ep/\RawD (s.heap.push {cls:=.type "dict_keyiterator", data:=.fields #[.ref d,.int 0 0,.int es.size 0,.int ep 0] }) d es ep:=⟨(aG _ (Ov _ rfl) rfl rfl),hm.at λo e=>Oi _ e⟩
 refine Is (P4 (vr u.2.typ ?_))
 refine Vi (λuu=>?_) (λuu=>Od ⟨Ur T8 _,l _ c₀ _ u (λb o _ e=>Oi _ e) g⟩)
 refine Is (Z0 (Is ?_))
 show Og _ _ (YI S (·.push .none)>>=λuu=>YI S (·.pop)) _ _ _
 refine Is (Vj g rfl ?_)
 have j:=PQ (OM (·.push Rp)) g rfl
 refine Vj (hz:=by seq_fits) j rfl ?_
 have n:=PQ (OM (·.pop)) j rfl
 refine Od ⟨Ur T8 _,l _ _ _ ?_ (λb o m e=>?_) n⟩
 ·refine W.frame 0 _ _ u λb m o e=>?_
  have q:b≠S:=λh=>t (h▸m)
  exact (OZ _ _ (PT q)).trans ((OZ _ _ (PT q)).trans e)
 ·exact (OZ _ _ (PT m)).trans ((OZ _ _ (PT m)).trans (Oi _ e))
theorem yM (lo:(d==T1)=NY) (hh:A.handled=NI) (hm:RawD s.heap d es ep) (hn:es.size<=Qw)
  (hQ:∀ h' tk acc' c',(∀ b o,s.heap.get? b=ti o->h'.get? b=ti o)->h'.get? s.heap.objs.size=ti {cls:=.type "list", dict:=NI,data:=.seq acc' c',slots:=#[] }->ItemsOf (λi v=>∃ hi:i<es.size,v=es[i].key) acc' es.size->Q (.ref s.heap.objs.size) {s with heap:=h',toks:=tk }) :
  Og (Ok prog w) A (Sy (.type "list") [.ref d]) Q E s:=by
 refine callType_codes (Q₁:=λl g=>l = .ref s.heap.objs.size/\g = {s with heap:=s.heap.push {cls:=.type "list", data:=.seq #[] } }) ZM (YJ _) YK
  (code_list_new _ ⟨rfl,rfl⟩) λl g h=>?_
 refine ae (h) λr q=>?_
 clear h
 subst r
 subst q
 have p:(s.heap.push {cls:=.type "list", data:=.seq #[] }).get? s.heap.objs.size=ti {cls:=.type "list", data:=.seq #[] }:=Ov _ rfl
 have m:s.heap.objs.size≠d:=ag (hm) λuu e uu=>Ux (QW e)
 refine ⟨(ah _ p rfl),Yv _ _,?_⟩
 show Og _ _ (do let old <- QH (.ref s.heap.objs.size); UJ (.ref s.heap.objs.size) (λuu=>#[]); letGo old.toList.reverse; QI (.ref s.heap.objs.size) (.ref d) .none) _ _ _
 refine Is ?_
 unfold QH
 refine Is (wpAny_seqItems p rfl (Od ?_))
 show Og _ _ (YI s.heap.objs.size (λuu=>#[])>>=λuu=>letGo (#[]:Oe Lt).toList.reverse>>=λuu=>QI (.ref s.heap.objs.size) (.ref d) .none) _ _ _
 refine Is (Vj p rfl ?_)
 have j:=PQ (OM (λuu=>(#[]:Oe Lt))) p rfl
 have k:∀ b o,b≠s.heap.objs.size->s.heap.get? b=ti o->((s.heap.push {cls:=.type "list", data:=.seq #[] }).update s.heap.objs.size (OM (λuu=>(#[]:Oe Lt)))).get? b=ti o :=
  λb o u e=>(OZ _ _ (PT u)).trans (Oi _ e)
 refine Is (wpAny_letGo ?_)
 refine tO (A:=A.in1) (S:=s.heap.objs.size) (s:={s with heap:=(s.heap.push {cls:=.type "list", data:=.seq #[] }).update s.heap.objs.size (OM (λuu=>(#[]:Oe Lt))) }) lo hh (hm.at λo e=>k d o m.symm e) hn m j λh' tk acc' c' hk t n=>?_
 exact ⟨rfl,hQ h' tk acc' c' (λb o e=>hk b o (PL (QW e)) (k b o (PL (QW e)) e)) t n⟩
end
section
variable {A:OI}{E:Lt->NU->Prop}
theorem xU {rd:Lt->uq N3}{vs:uq Lt}{ks:uq (uq N3)}(hl:vs.length=ks.length) (hkey:∀ (i:N7) (v:Lt) (k:uq N3),vs[i]? = ti v->ks[i]? = ti k->rd v=k):(vs.zip vs).map (λp=>(rd p.1,p.2))=ks.zip vs:=by
 apply List.ext_getElem?
 intro i
 rw[Pp]
 by_cases hi:i<ks.length
 ·have h:ks[i]? = ti ks[i]:=Oh hi
  have g:vs[i]? = ti vs[i]:=Oh (I6 hl hi)
  rw[sa g g,sa h g]
  simp only[UC]
  rw[hkey i _ _ g h]
 ·rw[Vs (by rw[Wt]; exact EV hl hi),Vs (by rw[Wt]; exact JL hi)]
  rfl
theorem ql {s0 s:NU}{D:Oo}{vs:uq Lt}{ks:uq (uq N3)}{e1:N7}{st:On}{rd:Lt->uq N3}{P:Jae->NU->Prop}(k0:Kp s0 s) (hD:s.heap.get? D=ti (O7 "list" #[] e1)) (f2:s0.heap.get? D=NI)
  (hl:vs.length=ks.length) (h64:vs.length<64) (hkey:∀ (i:N7) (v:Lt) (k:uq N3),vs[i]? = ti v->ks[i]? = ti k->rd v=k)
  (hp:(N6 st).Perm (vs.toArray.zip vs.toArray)) (hu:(N6 st).toList.Pairwise λx y=>ltL (rd y.1) (rd x.1)=NY) (hf:Pq st=NI)
  (h:∀ s' out c,Kp s0 s'->s'.heap.get? D=ti (O7 "list" out c)->(∃ ps:uq (uq N3×Lt),ps.Perm (ks.zip vs)/\out.toList=ps.map (·.2)/\ps.Pairwise λx y=>ltL y.1 x.1=NY)->P (.done (.ret .none)) s') :
  Og (Ok prog w) A (do
   let sorted:=(N6 st).map (·.2)
   let touched:=(<- seqEpoch D) != e1
   UJ (.ref D) λuu=>sorted
   if let ti e:=Pq st then rule "list.sort.comparison-raised"; throw e
   if touched then rule "list.sort.modified"; raiseError "ValueError" "list modified during sort"
   ret .none) P E s:=by
 have s2:=PO s.heap D (OM λuu=>(N6 st).map (·.2))
 obtain ⟨m,l⟩:∃ m,(s.heap.update D (OM λuu=>(N6 st).map (·.2))).get? D=ti (O7 "list" ((N6 st).map (·.2)) m):=⟨_,TF hD λuu=>(N6 st).map (·.2)⟩
 have g:(N6 st).size=vs.length:=by rw[hp.size_eq,ZA]; simp
 have n:=Kp.wr k0 hD f2 s2
 dsimp only
 refine Is (VJ hD rfl ?_)
 refine Is (Us hD rfl ?_ (Pf _) (by rw[Array.size_map,g,Pz]; exact IT h64))
 rw[hf]
 simp only[WT,OL,PA]
 refine Od (h _ _ m n l (aG ((N6 st).toList.map λp=>(rd p.1,p.2)) ?_ ?_ ?_))
 ·have j:(N6 st).toList.Perm (vs.zip vs):=by
   have:=QK.mp hp
   rwa [eS] at this
  exact (j.map _).trans (XE (xU hl hkey))
 ·rw[Xg,U4]; rfl
 ·rw[S5]; exact hu
structure Keys (κ:SY) (Kd:O2->Lt->uq N3->Prop) (ne:Prop):Prop where
 fn:∀ {h:O2}{v:Lt}{k k':uq N3},Kd h v k->Kd h v k'->k=k'
 kind:∀ {A:OI}{E:Lt->NU->Prop}{s:NU}{ks:uq (uq N3)}{vs:uq Lt}{Q:SY->NU->Prop},vs.length=ks.length->1<=vs.length->(ne->[]∉ks)->(∀ (i:N7) (v:Lt) (k:uq N3),vs[i]? = ti v->ks[i]? = ti k->Kd s.heap v k)->Q κ s->Og (Ok prog w) A (X9 vs.toArray) Q E s
 lt:∀ {A:OI}{E:Lt->NU->Prop}{s:NU}{x y:Lt}{k k':uq N3}{Q:OF->NU->Prop},A.units<TH->Kd s.heap x k->Kd s.heap y k'->Q (ltL k k') s->Og (Ok prog w) A (ZZ κ x y) Q E s
section
variable {κ:SY}{Kd:O2->Lt->uq N3->Prop}{ne:Prop}
open Classical in
noncomputable def eJ (Kd:O2->Lt->uq N3->Prop) (h:O2) (v:Lt):uq Int:=if q:∃ k,Kd h v k then q.choose else []
theorem Keys.read (K:Keys κ Kd ne) (x:Kd h v k):eJ Kd h v=k:=by
 unfold eJ
 have q:∃ k,Kd h v k:=⟨k,x⟩
 rw[dif_pos q]
 exact K.fn q.choose_spec x
theorem Keys.ltOk (K:Keys κ Kd ne) (hu:A.units<TH) (ks:uq (uq N3)):bC (Ok prog w) A E s (λp=>rkL ks (eJ Kd s.heap p.1)) (λp=>∃ k∈ks,Kd s.heap p.1 k) κ:=by
 intro x y q Q l j hk h
 revert l; intro i
 refine ag (i) λk o l=>?_
 clear i
 revert j; intro g
 refine ag (g) λn m j=>?_
 clear g
 have e:(ti (decide ((λp:N8=>rkL ks (eJ Kd s.heap p.1)) x<(λp:N8=>rkL ks (eJ Kd s.heap p.1)) y)))=ti (ltL k n):=by
  rw[vM o m,<- K.read l,<- K.read j]
 rw[e] at h
 rw[lt'_eq]
 refine Oa (Su ?_)
 rw[hk]
 refine Oa (wpS_lift (We (K.lt hu l j ⟨rfl,?_⟩)))
 exact Ol h
set_option maxHeartbeats 4000000 in
theorem mT (K:Keys κ Kd ne) {s0 s:NU}{D:Oo}{vs:uq Lt}{ks:uq (uq N3)}{n:N7}{P:Jae->NU->Prop}(hun:A.units<TH) (ho:s.heap.get? D=ti (O7 "list" vs.toArray n)) (f2:s0.heap.get? D=NI) (k0:Kp s0 s)
  (hl:vs.length=ks.length) (h64:vs.length<64) (hne:ks.length<2\/(ne->[]∉ks)) (hkey:∀ H,KG (λb=>b≠D) s.heap H->∀ (i:N7) (v:Lt) (k:uq N3),vs[i]? = ti v->ks[i]? = ti k->Kd H v k)
  (h:∀ s' out c,Kp s0 s'->s'.heap.get? D=ti (O7 "list" out c)->(∃ ps:uq (uq N3×Lt),ps.Perm (ks.zip vs)/\out.toList=ps.map (·.2)/\ps.Pairwise λx y=>ltL y.1 x.1=NY)->P (.done (.ret .none)) s') :
  Og (Ok prog w) A (Ub.«list.sort» ⟨[.ref D],[]⟩) P E s:=by
 rw[XI]
 have s1:=PO s.heap D (OM λuu=>(#[]:Oe Lt))
 obtain ⟨e1,ho1⟩:∃ e1,(s.heap.update D (OM λuu=>(#[]:Oe Lt))).get? D=ti (O7 "list" #[] e1):=⟨_,TF ho λuu=>#[]⟩
 have k1:=Kp.wr k0 ho f2 s1
 refine Is (TP ho rfl ?_)
 refine Is (Us ho rfl ?_ (by rw[OJ,Pz]; exact AX h64) (Pf _))
 refine Is (VJ ho1 rfl ?_)
 refine Is (Yd ?_ (by show vs.length<=_; rw[Pz]; exact AX h64))
 refine Is (Ut ?_ (Pf _))
 refine P4 ?_
 have k3:Kp s0 {s with heap:=((s.heap.update D (OM λuu=>(#[]:Oe Lt))).push (O7 "tuple" vs.toArray 0)).push (O7 "list" #[] 0) }:=(k1.trans (.push _ _ s.toks)).trans (.push _ _ s.toks)
 have r:(((s.heap.update D (OM λuu=>(#[]:Oe Lt))).push (O7 "tuple" vs.toArray 0)).push (O7 "list" #[] 0)).get? D=ti (O7 "list" #[] e1):=Oi _ (Oi _ ho1)
 have kg:KG (λb=>b≠D) s.heap (((s.heap.update D (OM λuu=>(#[]:Oe Lt))).push (O7 "tuple" vs.toArray 0)).push (O7 "list" #[] 0)) :=
  (KG.same s1 (λq=>q rfl) λo q=>by rw[ho] at q; (have oc:=Gt q; clear q; subst oc); exact Stay.not_list).trans (.of λb o _ e=>Oi _ (Oi _ e))
 generalize ((s.heap.update D (OM λuu=>(#[]:Oe Lt))).push (O7 "tuple" vs.toArray 0)).push (O7 "list" #[] 0)=H at k3 r kg
 have g:=hkey H kg
 have hrd:∀ (i:N7) (v:Lt) (k:uq N3),vs[i]? = ti v->ks[i]? = ti k->eJ Kd H v=k:=λi v k a b=>K.read (g i v k a b)
 show Og (Ok prog w) A _ P E {s with heap:=H }
 by_cases h2:vs.toArray.size<2
 ·rw[NZ h2,NZ h2]
  refine Is (Od ?_)
  dsimp only
  rw[StateT.run_pure]
  refine Is (Od ?_)
  dsimp only
  refine ql (s:={s with heap:=H }) (st:=Wq general' (vs.toArray.zip vs.toArray) #[] 7 NI) k3 r f2 hl h64 hrd (Jak _) ?_ rfl h
  have hz:(vs.toArray.zip vs.toArray).toList.length<=1:=by
   rw[eS,Wt]; rw[OJ] at h2; simp; exact HY h2
  show ((vs.toArray.zip vs.toArray).toList).Pairwise _
  exact yH hz
 ·rw[N0 h2,N0 h2]
  rw[OJ] at h2
  refine Is (K.kind (s:={s with heap:=H }) (ks:=ks) hl (J4 h2) (hne.resolve_left (El hl h2)) g ?_)
  have z:(vs.toArray.zip vs.toArray).size=vs.length:=by rw[ZA]; simp
  have u:∀ p∈vs.zip vs,∃ k∈ks,Kd H p.1 k:=λp t=>by
   refine al (QZ t) λi hi=>?_
   refine ae (Sd.mp hi) λq1 q2=>?_
   have hil:i<ks.length:=by rw[<- hl]; exact (O4.mp q1).1
   exact (ah (ks[i]) (R4 hil) (g i _ _ q1 (Oh hil)))
  refine Is (Pg (s7 (K.ltOk (E:=E) (s:={s with heap:=H }) hun ks) (st:=Wq κ (vs.toArray.zip vs.toArray) #[] 7 NI)
   (Q:=λuu j=>(N6 j).Perm (vs.toArray.zip vs.toArray)/\Pq j=NI/\Up (λp=>rkL ks (eJ Kd H p.1)) (N6 j).toList) ⟨λp t=>?_,rfl⟩ (by show 2<=(vs.toArray.zip vs.toArray).size; rw[z]; exact Gj h2) (by show (vs.toArray.zip vs.toArray).size<64; rw[z]; exact h64) rfl rfl λj a1 a2 a3=>⟨a1,a3,a2⟩) ?_ λuu uu e=>e)
  ·have l:p∈(vs.toArray.zip vs.toArray).toList:=Yw.mp t
   rw[eS] at l
   exact u p l
  ·rintro ⟨⟨⟩,j⟩ s'' ⟨rfl,t,hf,hu⟩
   dsimp only
   refine ql (s:={s with heap:=H }) k3 r f2 hl h64 hrd t ?_ hf h
   have hm:∀ p∈(N6 j).toList,∃ k∈ks,Kd H p.1 k:=λp l=>by
    have:=(QK.mp t).mem_iff.mp l
    rw[eS] at this
    exact u p this
   refine Uu (λ{a b} ha hb hab=>?_) hu
   refine ag (hm a ha) λk hk x=>?_
   refine ag (hm b hb) λk' hk' y=>?_
   have m:rkL ks (eJ Kd H a.1)<=rkL ks (eJ Kd H b.1):=hab
   rw[K.read x,K.read y] at m ⊢
   rw[vM hk' hk]
   exact OC (Jt m)
end
theorem xF:Keys (YY vj) KeyOf V1 where
 fn:=KeyOf.fn
 kind hl h1 hne hk h:=we hl h1 (λi v k a b=>⟨hk i v k a b,λq=>hne trivial (q▸PF b)⟩) h
 lt _ hx hy h:=v4 vj hx hy h
theorem RA.ofSub {h:O2}{G:Oo->Prop}:∀ {vs:uq Lt}{ds:uq N9},vs.length=ds.length->(∀ (i:N7) (v:Lt) (d:N9),vs[i]? = ti v->ds[i]? = ti d->∃ bs,R h v d bs/\∀ b∈bs,G b)->∃ cs,RA h vs ds cs/\∀ b∈cs,G b
 | [],[],_,_=>(ah ([]) .nil (λuu q=>nomatch q))
 | v::vs,d::ds,hl,hr=>by
  refine ag (hr 0 v d rfl rfl) λbs r k=>?_
  refine ag (RA.ofSub (vs:=vs) (ds:=ds) (by simpa using hl) λi u e m l=>hr (i+1) u e m l) λcs g j=>?_
  exact (ah _ (.cons r g) (λb q=>(Op.mp q).elim (k b) (j b)))
 | [],_::_,hl,_=>by cases hl
 | _::_,[],hl,_=>by cases hl
theorem RA.eachSub (r:RA h vs ds as):∀ (i:N7) (v:Lt) (d:N9),vs[i]? = ti v->ds[i]? = ti d->∃ bs,R h v d bs/\∀ b∈bs,b∈as :=
 RA.ind (N:=λvs ds as=>∀ (i:N7) (v:Lt) (d:N9),vs[i]? = ti v->ds[i]? = ti d->∃ bs,R h v d bs/\∀ b∈bs,b∈as) (λi v d g uu=>by simp at g) (λ{v vs d ds as bs} r n l i u e g j=>by
  cases i with
  | zero=>exact (ah as (Gt g▸Gt j▸r) (λb q=>OV _ q))
  | succ i=>
   refine ag (l i u e g j) λcs k m=>?_
   exact (ah cs k (λb q=>OU _ (m b q)))) r
theorem RA.ofEach:∀ {vs:uq Lt}{ds:uq N9},vs.length=ds.length->(∀ (i:N7) (v:Lt) (d:N9),vs[i]? = ti v->ds[i]? = ti d->R h v d [])->RA h vs ds []
 | [],[],_,_=>.nil
 | v::vs,d::ds,hl,hr=>RA.cons (as:=[]) (bs:=[]) (hr 0 v d rfl rfl) (RA.ofEach (by simpa using hl) λi u e j g=>hr (i+1) u e j g)
 | [],_::_,hl,_=>by cases hl
 | _::_,[],hl,_=>by cases hl
theorem BO (k:uq N3):d6 (aP k)=ti k:=by
 show aR (k.map Oz)=ti k
 induction k with
 | nil=>rfl
 | cons a k ih=>simp only[Pe,aR,ih,UC]
theorem qR (h:d6 x=ti k):x=aP k:=by
 cases x with
 | tuple g=>
  have l:∀ {g:uq N9}{k:uq N3},aR g=ti k->g=k.map .int:=λ{g}=>by
   induction g with
   | nil=>intro k h; (have m:=Gt h; clear h; subst m); rfl
   | cons y g ih=>
    intro k h
    cases y with
    | int i=>
     simp only[aR,Rx] at h
     refine ag (h) λo n j=>?_
     clear h
     subst j
     rw[ih n]; rfl
    | _=>exact nN h
  show PyData.tuple g = .tuple (k.map .int)
  rw[l h]
 | _=>exact nN h
theorem lZ:∀ {xs:uq N9}{ks:uq (uq N3)},dO xs=ti ks->xs=ks.map aP
 | [],ks,h=>by (have i:=Gt h; clear h; subst i); rfl
 | x::xs,ks,h=>by
  simp only[dO] at h
  refine a7 h λk hk h=>?_
  refine b9 h λj l g=>?_
  (clear h; subst g)
  rw[Pe,<- lZ l,qR hk]
theorem Di (h:k.length<=2^22):sz (aP k)=true:=sz_tuple.mpr ⟨by rw[Oc]; exact h,i6 k⟩
theorem wj (hh:A.handled=NI) (ra:RV s.heap va (.dicT ks) as) (hk:ks.length<=lim) (hQ:∀ v s',EP P s (.d (.list (ks.map aP)),fresh (ks.map aP)) v s'->Q v s'):Og (Ok prog w) A (Sy (bval (b1n .list)) [va]) Q Er s:=by
 refine ut (ra) λa xs MA _ lo l z hks htu=>?_
 clear ra
 subst MA
 refine tp (l) λo es ep e t hd he _ _=>?_
 clear l
 subst z
 have u:RawD s.heap a es ep:=(aG o e t.1 hd)
 have p:es.size=xs.length:=size_of_entries he
 rw[Oc] at hk
 unfold lim at hk
 refine yM lo hh u (by rw[p,Pz]; exact E7 hk) λh' tk r c' q hS g=>hQ _ _ ?_
 refine EP.aList (vs:=r.toList) (n:=c') (as:=[]) (aC h' tk rfl (.of q)) (PY (Ow _)) (by simpa using hS) (RA.ofEach ?_ λi v d hi j=>?_) (by rw[Oc,Oc]; exact zH hk) (λx t=>?_) λuu h=>nomatch h
 ·rw[Om,Oc,Oc,g.1,p]
 ·obtain ⟨hi',rfl⟩:=g.2 i v (by rw[<- RJ]; exact hi)
  have ee:=entry_at he i
  rw[QR hi'] at ee
  refine b9 ee.symm λx m hxe=>?_
  have ek:es[i].key = .ref x.2.1:=by rw[<- hxe]; rfl
  rw[Pp,Pp,m] at j
  (have oc:=Gt j; clear j; subst oc)
  rw[ek]
  exact (htu x (PF m)).keep q
 ·refine aB t λk hk' y=>?_
  (clear t; subst y)
  exact Di (hks k hk')
theorem lQ (K:Keys κ Kd ne) (hkd:∀ {h:O2}{v:Lt}{k:uq N3}{bs:uq Oo},R h v (g k) bs->Kd h v k) (hu:A.units+200<TH) (ra:R s.heap va (.list (ks.map g)) as) (ha:∀ b∈as,P b) (hz:sz (.list (ks.map g))=vj) (h64:ks.length<64) (hne:ks.length<2\/(ne->[]∉ks)) (hQ:∀ v s',EP P s (.d (.list ((bl ks).map g)),fresh ((bl ks).map g)) v s'->Q v s') :
  Og (Ok prog w) A (Sy (.builtin "sorted") [va]) Q Er s:=by
 refine ra.isList_k λa vs n cs My ea z MB=>?_
 (clear ra; subst My)
 subst MB
 have hl:vs.length=ks.length:=by have:=z.length; rw[Oc] at this; exact JR this
 have y:∀ (i:N7) (v:Lt) (k:uq N3),vs[i]? = ti v->ks[i]? = ti k->∃ bs,R s.heap v (g k) bs/\∀ b∈bs,b∈cs:=λi v k p t=>z.eachSub i v (g k) p (by rw[Pp,t]; rfl)
 have old:∀ b∈cs,∃ o,s.heap.get? b=ti o:=λb u=>bz (z.there b u) λuu uu e=>⟨_,e⟩
 refine Calls.call_function_entry ZB YZ Y0 (Y1 _) ?_
 unfold Ub.«sorted»
 refine Is (m:=Z1 "sorted" 1 1 _) (Od ?_)
 refine Is (Y2 (isL ea) ?_ (by rw[Pz]; exact Av h64 hl))
 refine Is (Ut ?_ (by rw[Pz]; exact Av h64 hl))
 have hsz:((s.heap.push (O7 "list" #[] 0)).update s.heap.objs.size (OM (· ++ vs.toArray))).objs.size=s.heap.objs.size+1:=by
  rw[Xh,Z2]
 have hoL:(((s.heap.push (O7 "list" #[] 0)).update s.heap.objs.size (OM (· ++ vs.toArray))).push (O7 "list" vs.toArray 0)).get? (s.heap.objs.size+1)=ti (O7 "list" vs.toArray 0):=by
  rw[<- hsz]; exact Ov _ rfl
 have keep:∀ b o,s.heap.get? b=ti o->(((s.heap.push (O7 "list" #[] 0)).update s.heap.objs.size (OM (· ++ vs.toArray))).push (O7 "list" vs.toArray 0)).get? b=ti o:=λb o q=>by
  have hlt:b<s.heap.objs.size:=QW q
  rw[S6 _ _ _ (by rw[hsz]; exact PL (Q2 hlt)),V4 _ _ _ _ (PL hlt),S6 _ _ _ (PL hlt)]
  exact q
 have l:s.heap.get? (s.heap.objs.size+1)=none:=PY (TN _)
 show Og _ _ _ _ _ {s with heap:=((s.heap.push (O7 "list" #[] 0)).update s.heap.objs.size (OM (· ++ vs.toArray))).push (O7 "list" vs.toArray 0) }
 rw[hsz]
 refine Is (P4 (Ti Ye (ah _ hoL rfl) XJ ?body (Yg _)))
 case body=>
  refine mT K (s0:=s) (s:={s with heap:=((s.heap.push (O7 "list" #[] 0)).update s.heap.objs.size (OM (· ++ vs.toArray))).push (O7 "list" vs.toArray 0) }) (by show A.units+1+1<TH; exact FS hu) hoL l (.of keep) hl (A4 h64 hl) hne (λH kg i v k p t=>?_) λs' out c kp hD hps=>(ah _ rfl (Od (ah _ rfl ?_)))
  ·refine ag (y i v k p t) λbs r u=>?_
   refine hkd ((r.keep keep).onG kg λb q e=>?_)
   refine al (old b (u b q)) λo eo=>?_
   rw[e,l] at eo; exact nN eo
  refine ar (hps) λps p1 p2 p3=>?_
  clear hps
  have q1:(ps.map (·.1)).Perm ks:=by
   have:=p1.map (·.1)
   rwa [List.map_fst_zip (Hy hl)] at this
  have q2:ps.map (·.1)=bl ks:=gg (r:=λa b=>ltL b a=NY) (λa b p t=>hY t p) (q1.trans (P9 ks _).symm) (S5.mpr p3) (iI ks)
  have hlen:ps.length=ks.length:=by rw[<- q1.length_eq,Oc]
  obtain ⟨cs',rs,hcs⟩:=RA.ofSub (h:=s'.heap) (G:=λb=>b∈cs) (vs:=out.toList) (ds:=(bl ks).map g) (by rw[p2,Oc,Oc,<- q2,Oc]) λi v d p t=>by
   rw[<- q2,U4,Pp] at t
   rw[p2,Pp] at p
   cases hp:ps[i]? with
   | none=>rw[hp] at p; exact nN p
   | some q=>
    rw[hp] at p t
    (have oc:=Gt p; clear p; subst oc); (have oc:=Gt t; clear t; subst oc)
    refine al (QZ (p1.mem_iff.mp (PF hp))) λj hj=>?_
    refine ae (Sd.mp hj) λj1 j2=>?_
    refine ag (y j _ _ j2 j1) λbs r u=>?_
    exact (ah bs (r.k kp.k) u)
  refine hQ _ _ (EP.aList (vs:=out.toList) (n:=c) (as:=cs') kp l (by simpa [O7] using hD) rs ?_ (λx hx=>?_) λb u=>⟨ha b (.tail _ (hcs b u)),λe=>?_⟩)
  ·rw[Oc,<- q2,Oc,hlen]; exact Ah h64
  ·refine aB hx λk hk' Mx=>?_
   (clear hx; subst Mx)
   refine (sz_list.mp hz).2 _ (Tm.mpr (ah k ?_ rfl))
   exact (P9 ks _).mem_iff.mp hk'
  ·refine al (old b (hcs b u)) λo eo=>?_
   rw[e,l] at eo; exact nN eo
theorem tR (hu:A.units+200<TH) (ra:R s.heap va (.list xs) as) (ha:∀ b∈as,P b) (hz:sz (.list xs)=vj) (hk:dO xs=ti ks) (h64:xs.length<64) (hne:ks.length<2\/[]∉ks) (hQ:∀ v s',EP P s (.d (.list ((bl ks).map aP)),fresh ((bl ks).map aP)) v s'->Q v s') :
  Og (Ok prog w) A (Sy (.builtin "sorted") [va]) Q Er s:=by
 cases lZ hk
 rw[Oc] at h64
 exact lQ xF (λr=>KeyOf.ofR r) hu ra ha hz h64 (hne.imp id λh _=>h) hQ
end
section
variable {A:OI}{E:Lt->NU->Prop}
theorem sR (h:P2 vs ns):(∀ i∈ns,0<=i)->∀ p∈vs.zip vs,∃ i t,p.1 = .int i t/\0<=i:=by
 induction h with
 | nil=>exact λuu p hp=>nomatch hp
 | cons n t r ih=>
  intro g p hp
  rcases Ou.mp (show p∈(Jaf n t,Jaf n t)::_ from hp) with rfl | hp
  ·exact (aC n t rfl (g n (.head _)))
  ·exact ih (λi j=>g i (.tail _ j)) p hp
theorem mf:∀ (vs:uq Lt),(∀ v∈vs,∃ i t,v = .int i t)->P2 vs (vs.map jC)
 | [],_=>.nil
 | v::vs,h=>by
  obtain ⟨i,t,rfl⟩:=h v (.head _)
  exact .cons i t (mf vs λu g=>h u (.tail _ g))
theorem x9 {vs:uq Lt}{p:Lt×Lt}(h:p∈vs.zip vs):p.1=p.2/\p.2∈vs:=by
 induction vs with
 | nil=>exact nomatch h
 | cons v vs ih=>
  rcases Ou.mp (show p∈(v,v)::_ from h) with rfl | h
  ·exact ⟨rfl,.head _⟩
  ·exact ⟨(ih h).1,.tail _ (ih h).2⟩
theorem rS {ps:uq (Lt×Lt)}(hI:P2 vs ns) (h0:∀ i∈ns,0<=i) (hp:ps.Perm (vs.zip vs)) (hu:ps.Pairwise λx y=>mX x.1<=mX y.1):P2 (ps.map (·.2)) (ns.mergeSort λa b=>decide (a<=b)):=by
 have n:∀ p∈ps,∃ i t,p.1 = .int i t/\0<=i/\p.2 = .int i t:=λp l=>by
  have g:=hp.mem_iff.mp l
  refine au (sR hI h0 p g) λi t e hi=>?_
  exact ⟨i,t,e,hi,by rw[<- (x9 g).1]; exact e⟩
 have hA:=mf (ps.map (·.2)) λv hv=>aB hv λp l e=>by
  obtain ⟨i,t,_,_,o⟩:=n p l
  exact ⟨i,t,e▸o⟩
 have z:((vs.zip vs).map (·.2))=vs:=List.map_snd_zip (Ow _)
 have pr:((ps.map (·.2)).map jC).Perm ns:=by
  have:=(hp.map (·.2)).map jC
  rw[z,<- IntsAre.read hI] at this
  exact this
 have r:((ps.map (·.2)).map jC).Pairwise (·<=·):=by
  rw[U4,S5]
  refine Uu (λ{p q} m k h=>?_) hu
  obtain ⟨i,t,e1,i0,o⟩:=n p m
  obtain ⟨j,u,e3,j0,e4⟩:=n q k
  rw[e1,e3] at h
  show jC p.2<=jC q.2
  rw[o,e4]
  replace h:i.toNat<=j.toNat:=h
  show i<=j
  exact GV j0 h
 have eq:(ps.map (·.2)).map jC=ns.mergeSort λa b=>decide (a<=b):=by
  exact (pr.trans (P9 ns _).symm).eq_of_pairwise (λa b _ _ g h2=>TB g h2) r (hH ns)
 rw[<- eq]; exact hA
set_option maxHeartbeats 4000000 in
theorem mG (ho:s.heap.get? D=ti (O7 "list" vs.toArray n)) (f2:s0.heap.get? D=NI) (k0:Kp s0 s)
  (hI:P2 vs ns) (h2:2<=vs.length) (h128:vs.length<128) (h0:∀ i∈ns,0<=i)
  (h:∀ s' c vs',Kp s0 s'->P2 vs' (ns.mergeSort λa b=>decide (a<=b))->s'.heap.get? D=ti (O7 "list" vs'.toArray c)->P (.done (.ret .none)) s') :
  Og (Ok prog w) A (Ub.«list.sort» ⟨[.ref D],[]⟩) P E s:=by
 rw[XI]
 have s1:=PO s.heap D (OM λuu=>(#[]:Oe Lt))
 obtain ⟨e1,q⟩:∃ e1,(s.heap.update D (OM λuu=>(#[]:Oe Lt))).get? D=ti (O7 "list" #[] e1):=⟨_,TF ho λuu=>#[]⟩
 have k1:=Kp.wr k0 ho f2 s1
 refine Is (TP ho rfl ?_)
 refine Is (Us ho rfl ?_ (by rw[OJ,Pz]; exact A0 h128) (Pf _))
 refine Is (VJ q rfl ?_)
 refine Is (Yd ?_ (by show vs.length<=_; rw[Pz]; exact A0 h128))
 refine Is (Ut ?_ (Pf _))
 refine P4 ?_
 have k3:Kp s0 {s with heap:=((s.heap.update D (OM λuu=>(#[]:Oe Lt))).push (O7 "tuple" vs.toArray 0)).push (O7 "list" #[] 0) }:=(k1.trans (.push _ _ s.toks)).trans (.push _ _ s.toks)
 have j:(((s.heap.update D (OM λuu=>(#[]:Oe Lt))).push (O7 "tuple" vs.toArray 0)).push (O7 "list" #[] 0)).get? D=ti (O7 "list" #[] e1):=Oi _ (Oi _ q)
 generalize ((s.heap.update D (OM λuu=>(#[]:Oe Lt))).push (O7 "tuple" vs.toArray 0)).push (O7 "list" #[] 0)=H at k3 j
 show Og (Ok prog w) A _ P E {s with heap:=H }
 have r:¬ vs.toArray.size<2:=by rw[OJ]; exact GB h2
 rw[N0 r,N0 r]
 have y:X9 vs.toArray=Pu oneType':=by
  rcases vs with _ | ⟨a,_ | ⟨b,vs⟩⟩
  ·simp at h2
  ·simp at h2
  ·exact keyKind_ints hI
 rw[y]
 refine Is (Od ?_)
 have l:(vs.toArray.zip vs.toArray).size=vs.length:=by rw[ZA]; simp
 refine Is (Pg (rt (wx (A:=A) (E:=E) (s:={s with heap:=H })) (st:=Wq UF (vs.toArray.zip vs.toArray) #[] 7 NI)
   (Q:=λuu g=>(N6 g).Perm (vs.toArray.zip vs.toArray)/\Up (λp=>mX p.1) (N6 g).toList/\Pq g=NI) ⟨λp hp=>?_,rfl⟩ (by show 2<=(vs.toArray.zip vs.toArray).size; rw[l]; exact Fi h2) (by show (vs.toArray.zip vs.toArray).size<128; rw[l]; exact h128) rfl rfl λg a1 a2 a3=>⟨a1,a2,a3⟩) ?_ λuu uu e=>e)
 ·have o:p∈(vs.toArray.zip vs.toArray).toList:=Yw.mp hp
  rw[eS] at o
  exact sR hI h0 p o
 ·rintro ⟨⟨⟩,g⟩ s'' ⟨rfl,ha,hu,hf⟩
  dsimp only
  have m:(N6 g).toList.Perm (vs.zip vs):=by
   have:=QK.mp ha
   rwa [eS] at this
  have u:=rS hI h0 m hu
  have t:((N6 g).toList.map (·.2)).length=vs.length:=by rw[Oc,m.length_eq,Wt,Nat.min_self]
  obtain ⟨k,eus,v⟩:∃ k:uq Lt,(N6 g).map (·.2)=k.toArray/\k=(N6 g).toList.map (·.2):=⟨_,by apply Wr.mp; rw[Xg],rfl⟩
  rw[<- v] at u t
  have s2:=PO H D (OM λuu=>k.toArray)
  obtain ⟨c2,z⟩:∃ c2,(H.update D (OM λuu=>k.toArray)).get? D=ti (O7 "list" k.toArray c2):=⟨_,TF j λuu=>k.toArray⟩
  have k4:=Kp.wr (s:={s with heap:=H }) k3 j f2 s2
  refine Is (VJ (s:={s with heap:=H }) j rfl ?_)
  rw[show (N6 g).map (λx=>x.2)=k.toArray from eus]
  refine Is (Us (s:={s with heap:=H }) j rfl ?_ (Pf _) (by rw[OJ,t,Pz]; exact ID h128))
  rw[show Pq g=NI from hf]
  simp only[WT,OL,PA]
  exact Od (h _ c2 k k4 u z)
theorem sZ (ra:R s.heap va (.list xs) as) (hi:aR xs=ti ns) (h64:¬ xs.length<64) (h128:xs.length<128) (h0:∀ i∈ns,0<=i) (hQ:∀ v s',EP P s (.d (aa (ns.mergeSort λa b=>decide (a<=b))),.deep) v s'->Q v s') :
  Og (Ok prog w) A (Sy (.builtin "sorted") [va]) Q Er s:=by
 refine ra.isList_k λa vs n cs y ea k x=>?_
 (clear ra; subst y)
 subst x
 have r:=k.length
 refine aK (k.ints hi) λhI u t=>?_
 subst u
 subst t
 rw[Oc] at r h64 h128
 refine Calls.call_function_entry ZB YZ Y0 (Y1 _) ?_
 unfold Ub.«sorted»
 refine Is (m:=Z1 "sorted" 1 1 _) (Od ?_)
 refine Is (Y2 (isL ea) ?_ (by rw[Pz]; exact AM h128 r))
 refine Is (Ut ?_ (by rw[Pz]; exact AM h128 r))
 have g:((s.heap.push (O7 "list" #[] 0)).update s.heap.objs.size (OM (· ++ vs.toArray))).objs.size=s.heap.objs.size+1:=by
  rw[Xh,Z2]
 have p:(((s.heap.push (O7 "list" #[] 0)).update s.heap.objs.size (OM (· ++ vs.toArray))).push (O7 "list" vs.toArray 0)).get? (s.heap.objs.size+1)=ti (O7 "list" vs.toArray 0):=by
  rw[<- g]; exact Ov _ rfl
 have l:∀ b o,s.heap.get? b=ti o->(((s.heap.push (O7 "list" #[] 0)).update s.heap.objs.size (OM (· ++ vs.toArray))).push (O7 "list" vs.toArray 0)).get? b=ti o:=λb o q=>by
  have j:b<s.heap.objs.size:=QW q
  rw[S6 _ _ _ (by rw[g]; exact PL (Q2 j)),V4 _ _ _ _ (PL j),S6 _ _ _ (PL j)]
  exact q
 show Og _ _ _ _ _ {s with heap:=((s.heap.push (O7 "list" #[] 0)).update s.heap.objs.size (OM (· ++ vs.toArray))).push (O7 "list" vs.toArray 0) }
 rw[g]
 refine Is (P4 (Ti Ye (ah _ p rfl) XJ ?body (Yg _)))
 case body=>
  refine mG (s0:=s) (s:={s with heap:=((s.heap.push (O7 "list" #[] 0)).update s.heap.objs.size (OM (· ++ vs.toArray))).push (O7 "list" vs.toArray 0) }) p (PY (TN _)) (.of l) hI (D7 h64 r) (Hz h128 r) h0 λs' c us kp z hD=>(ah _ rfl (Od (ah _ rfl (hQ _ _ ?_))))
  have ep:EP P s (.d (.list ((ns.mergeSort λa b=>decide (a<=b)).map .int)),fresh ((ns.mergeSort λa b=>decide (a<=b)).map .int)) (.ref (s.heap.objs.size+1)) s' :=
   EP.aList (vs:=us) (n:=c) (as:=[]) kp (PY (TN _)) (by simpa [O7] using hD) (RA.of_ints z) (by rw[Oc,(P9 ns _).length_eq]; exact GL h128) (i6 _) λuu h=>(nomatch h)
  have ef:fresh ((ns.mergeSort λa b=>decide (a<=b)).map .int) = .deep:=by
   unfold fresh
   rw[NZ]
   rw[VV,Pm]
   intro _ _; rfl
  rw[ef] at ep
  exact ep
end
section
open PySem.AutoSeq1 (wpAny_loadPart')
open MeetsSeq MeetsSeq2 MeetsSeq3
theorem vV (h:P2 vs ns):∀ {i:N7}{v:Lt},vs[i]? = ti v->∃ x t,v = .int x t/\ns[i]? = ti x:=by
 induction h with
 | nil=>intro i v q; simp at q
 | cons x t _ ih=>
  intro i v q
  cases i with
  | zero=>simp only[List.getElem?_cons_zero,WL] at q; exact ⟨x,t,q.symm,rfl⟩
  | succ i=>exact ih (by simpa using q)
theorem wF (l b:Oo) (vs us:uq Lt) (n m:N7) (ks js:uq N3) (ia:P2 vs ks) (ib:P2 us js) (k:N7) :
  ∀ i:N7,vs.length-i=k->i<=vs.length->i<=us.length->Meets (Ub.«list.__eq__.loop» ⟨[.ref l,.ref b,SE i,SE 0],[]⟩)
   (λA R s=>s.heap.get? l=ti ⟨.type "list", NI,.seq vs.toArray n,#[]⟩/\s.heap.get? b=ti ⟨.type "list", NI,.seq us.toArray m,#[]⟩/\R (.ok (.ret (.bool (ltL (ks.drop i) (js.drop i))))) s):=by
 have l1:=ia.length
 have l2:=ib.length
 induction k with
 | zero=>
  intro i hk h1 h2 prog w A R s h
  obtain ⟨hp,g,d,tk,os⟩:=s; obtain ⟨p,v,h⟩:=h
  wp_walk using wpAny_loadPart' p,wpAny_loadPart' v
  have o:vs.toArray[((i:N7):N3).toNat]? = none:=by simp; omega
  rw[o]
  wp_walk using wpAny_loadPart' p,wpAny_loadPart' v
  show R (.ok (.ret (.bool (decide (vs.toArray.size<us.toArray.size))))) _
  have e:ltL (ks.drop i) (js.drop i)=decide (vs.toArray.size<us.toArray.size):=by
   rw[OJ,OJ,U5 (as:=ks) (by lia)]
   cases q:js.drop i with
   | nil=>
    have:=PG VK q
    rw[PN,XD] at this
    exact (OC (by lia)).symm
   | cons y r=>
    have:=PG VK q
    rw[PN,OS] at this
    exact (OA (by lia)).symm
  rwa [e] at h
 | succ k ih=>
  intro i hk h1 h2 prog w A R s h
  obtain ⟨hp,g,d,tk,os⟩:=s; obtain ⟨p,v,h⟩:=h
  wp_walk using wpAny_loadPart' p,wpAny_loadPart' v
  have z:i<vs.length:=by omega
  have o:vs.toArray[((i:N7):N3).toNat]? = ti vs[i]:=by simp[z]
  refine au (vV ia (Oh z)) λx t ex kx=>?_
  have dk:ks.drop i=x::ks.drop (i+1):=by
   refine al (O4.mp kx) λhi e=>?_
   rw[PM hi,e]
  rw[o]
  by_cases hlt2:i<us.length
  ·have j:us.toArray[((i:N7):N3).toNat]? = ti us[i]:=by simp[hlt2]
   refine au (vV ib (Oh hlt2)) λy u ey jy=>?_
   have dj:js.drop i=y::js.drop (i+1):=by
    refine al (O4.mp jy) λhi e=>?_
    rw[PM hi,e]
   have hc:((i:N3)+1)=((i+1:N7):N3):=by push_cast; rfl
   rw[j,ex,ey]
   rw[dk,dj] at h
   refine Is (W9 ?_)
   by_cases e:x=y
   ·subst e
    rw[show (x==x)=vj from Pi x]
    wp_walk
    rw[hc]
    exact ⟨Ur Uv _,Ve Yx (by
     rw[VL Uv _]
     exact ih (i+1) (by omega) (by omega) (by omega) prog w A R _ ⟨p,v,by simpa [ltL] using h⟩)⟩
   ·rw[show (x==y)=NY from Pd.mpr e]
    wp_walk using wpAny_loadPart' p,wpAny_loadPart' v
    rw[o,j,ex,ey]
    have e2:ltL (x::ks.drop (i+1)) (y::js.drop (i+1))=decide (x<y):=by unfold ltL; rw[N0 e]
    rw[e2] at h
    exact Is (YX (Od h))
  ·have j:us.toArray[((i:N7):N3).toNat]? = none:=by simp; omega
   rw[j]
   wp_walk using wpAny_loadPart' p,wpAny_loadPart' v
   show R (.ok (.ret (.bool (decide (vs.toArray.size<us.toArray.size))))) _
   have e:ltL (ks.drop i) (js.drop i)=decide (vs.toArray.size<us.toArray.size):=by
    rw[OJ,OJ,dk,U5 (as:=js) (by lia)]
    exact (OC (by lia)).symm
   rwa [e] at h
theorem vC (l b:Oo) (vs us:uq Lt) (n m:N7) (ks js:uq N3) (ia:P2 vs ks) (ib:P2 us js) :
  Meets (Ub.«list.__lt__» ⟨[.ref l,.ref b],[]⟩)
   (λA R s=>s.heap.get? l=ti ⟨.type "list", NI,.seq vs.toArray n,#[]⟩/\s.heap.get? b=ti ⟨.type "list", NI,.seq us.toArray m,#[]⟩/\R (.ok (.ret (.bool (ltL ks js)))) s):=by
 intro prog w A R s h
 obtain ⟨p,g,d,k,o⟩:=s; obtain ⟨i,j,h⟩:=h
 have q:=Y3
 wp_walk using wpAny_loadPart' i,wpAny_loadPart' j
 exact ⟨Ur Uv _,Ve Yx (by
  rw[VL Uv _]
  exact wF l b vs us n m ks js ia ib _ 0 rfl (Pf _) (Pf _) prog w A R _ ⟨i,j,by simpa using h⟩)⟩
end
noncomputable def RowOf (h:O2) (v:Lt) (k:uq N3):Prop:=∃ a vs n,v = .ref a/\h.get? a=ti ⟨.type "list", NI,.seq vs.toArray n,#[]⟩/\P2 vs k
theorem RowOf.fn (a:RowOf h v k) (b:RowOf h v k'):k=k':=by
 refine aX (a) λx m n j e i=>?_
 clear a
 subst j
 refine aX (b) λuu g p q l o=>?_
 clear b
 cases q
 rw[e] at l
 have:m=g:=by cases l; rfl
 subst this
 exact IntsAre.fn i o
section
variable {A:OI}{E:Lt->NU->Prop}{s:NU}
theorem wK (hu:A.units<TH) (hx:RowOf s.heap x k) (hy:RowOf s.heap y k') (h:Q (ltL k k') s):Og (Ok prog w) A (ZY vj x y) Q E s:=by
 refine aX (hx) λa l n i j q=>?_
 clear hx
 subst i
 refine aX (hy) λb o m g r p=>?_
 clear hy
 subst g
 rw[oneLt'_eq]
 simp only[Qz]
 refine Is (wpAny_cRoomFor hu ?_)
 refine Is (wpAny_callSpecialIfBound?_slot ⟨_,j,rfl⟩ Yh (Z3 Yh ⟨_,j,rfl⟩ F.entry_list_lt (F.args_list_lt_2 _ _) (vC a b l o n m k k' q p) ⟨j,r,?_⟩))
 exact Qy h
theorem kG:∀ {vs:uq Lt},(∀ v∈vs,∃ k,RowOf s.heap v k)->Q (vs.map λuu=>NI) s->Og (Ok prog w) A (vs.mapM Wd) Q E s
 | [],_,h=>by rw[X8]; exact Od h
 | v::vs,hk,h=>by
  refine lF (hk v (.head _)) λk a l n g j m=>?_
  subst g
  rw[Xc]
  refine Is ?_
  rw[qQ]
  refine Is (TQ (T:="list") ⟨_,j,rfl⟩ ?_)
  rw[NZ (by decide)]
  exact Od (Is (kG (vs:=vs) (λv i=>hk v (.tail _ i)) (Od h)))
theorem lM:∀ {vs:uq Lt},(∀ v∈vs,∃ k,RowOf s.heap v k)->Q (vs.map λuu=>.type "list") s->Og (Ok prog w) A (vs.mapM typeOf) Q E s
 | [],_,h=>by rw[X8]; exact Od h
 | v::vs,hk,h=>by
  refine lF (hk v (.head _)) λk a j n g i l=>?_
  subst g
  rw[Xc]
  exact Is (TQ (T:="list") ⟨_,i,rfl⟩ (Is (lM (vs:=vs) (λf h=>hk f (.tail _ h)) (Od h))))
theorem wn {vs:uq Lt}{Q:SY->NU->Prop}(h1:1<=vs.length) (hk:∀ v∈vs,∃ k,RowOf s.heap v k) (h:Q UF s):Og (Ok prog w) A (X9 vs.toArray) Q E s:=by
 rw[Zw,S2,Th]
 refine Is (Is (kG hk (Od ?_)))
 obtain ⟨g,j,rfl⟩:∃ g j,vs=g::j:=by
  cases vs with
  | nil=>simp at h1
  | cons g j=>exact ⟨g,j,rfl⟩
 rw[N0 (by simp),N0 (by simp)]
 rw[XF,S2,Th]
 refine Is (Is (Is (lM hk (Od ?_))))
 have i:((Yb (λuu=>QL "list") (g::j)).toArray.all λx=>x==QL "list")=true:=by
  simp only[Xd,VV,Pm]
  intro _ _
  rfl
 have l:(Yb (λuu=>QL "list") (g::j)).toArray[0]? = ti (QL "list"):=by simp
 rw[l]
 simp only[i,Qz]
 exact Od (Od h)
theorem yk:Keys UF RowOf PD where
 fn:=RowOf.fn
 kind hl h1 _ hk h:=wn h1 (λv k=>by
  refine al (QZ k) λi j=>?_
  have g:=(O4.mp j).1
  rw[hl] at g
  exact ⟨_,hk i v _ j (Oh g)⟩) h
 lt hu hx hy h:=wK hu hx hy h
end
section
theorem mu:∀ {xs:uq N9}{ks:uq (uq N3)},gq xs=ti ks->xs=ks.map aa
 | [],ks,h=>by (have i:=Gt h; clear h; subst i); rfl
 | x::xs,ks,h=>by
  cases x with
  | list ys=>
   simp only[gq] at h
   refine a7 h λk hk h=>?_
   refine b9 h λj l g=>?_
   subst g
   rw[Pe,<- mu l]
   have:=qR (x:=.tuple ys) (k:=k) hk
   unfold aP at this
   injection this with e
   rw[e]; rfl
  | _=>exact nN h
theorem RowOf.ofR (r:R h v (aa k) bs):RowOf h v k:=by
 refine R.isList_k r λa i n cs g l j _=>?_
 subst g
 exact ⟨a,i,n,rfl,l,(j.ints (BO k)).1⟩
theorem tG (hu:A.units+200<TH) (ra:R s.heap va (.list xs) as) (ha:∀ b∈as,P b) (hz:sz (.list xs)=vj) (hk:gq xs=ti ks) (h64:xs.length<64) (hQ:∀ v s',EP P s (.d (.list ((bl ks).map aa)),fresh ((bl ks).map aa)) v s'->Q v s') :
  Og (Ok prog w) A (Sy (.builtin "sorted") [va]) Q Er s:=by
 cases mu hk
 rw[Oc] at h64
 exact lQ yk (λr=>RowOf.ofR r) hu ra ha hz h64 (.inr λq=>q.elim) hQ
end
section
variable (fns:Fns) (k:N7) (C:Calls) (XP:If->NU->Lt->NU->Prop)
noncomputable def eI:Prop:=∀ f g,C f=ti g->1<=k/\(f∈excNames->f∈SF.excN)/\(f∉excNames->∃ a,adr fns f=ti a/\∀ {A:OI}{P:Oo->Prop}{s:NU}{Q:Lt->NU->Prop}{Er:Lt->NU->Prop}{xs:uq V}{vals:uq Lt}{as:uq Oo},
 Room fns.hand k A->(∃ l,A.frames=ti l/\FrOk s.heap l)->GE fns s.heap->RVs s.heap xs vals as->(∀ a∈as,P a)->g xs≠.bad->(∀ r,g xs = .ok r->∀ v s',EP P s r v s'->Q v s')->(∀ c,g xs = .exc c->∀ x s',XP c s x s'->Er x s') ->
 Og (Ok prog w) A (Sy (.ref a) vals []) Q Er s)
end
section
theorem v8 (hs:tC a=vj) (ok:okE ns a v=vj):Yy v n env (eval v env)=eval v env:=by
 cases a with
 | name x=>
  refine OE (wy ok) (λi=>?_) (λq=>?_)
  ·refine au (i) λt r k p=>?_
   clear i
   (clear ok; subst k)
   rfl
  ·cases q
 | call f es=>
  refine OE (vF ok) (λg=>?_) (λq=>?_)
  ·refine cQ (g) λo m u l j h=>?_
   clear g
   (clear ok; subst j)
   simp only[Of,P8] at h
   cases u with
   | nil=>have:=h.1.1.2; exact nT this
   | cons x u=>rfl
  ·cases q
 | _=>exact nF hs
theorem lE:RP (.type "object") "count" = Pu none:=by rw[TC,RI]; kernel_rfl
theorem nP:RP (.type "object") "full" = Pu none:=by rw[TC,RI]; kernel_rfl
theorem oj:RP (.type "object") "size" = Pu none:=by rw[TC,RI]; kernel_rfl
theorem vd (ge:GE fns s.heap) (he:kn x n = .ok r) (ra:RV s.heap va x as) (ha:∀ a∈as,P a)
  (hQ:∀ v s',EP P s r v s'->Q v s'):Og (Ok prog w) A (getAttr va (oD n) expr) Q Er s:=by
 replace he:=aN he
 revert he; intro j
 refine ag (j) λMC hq he=>?_
 clear j
 obtain ⟨c,d,sz'⟩:=MC
 cases uG hq
 dsimp only at he ra
 obtain ⟨y,D,o,vf,bs,t,u,mA,z,p,h3,h4,h5,h6,h7,h8,f1,f2,f3,rd,zd⟩:=(ra:RuleV _ _ _ _ _ _)
 have I:s.heap.Inst y SF.rule mA:=cV o h3 h4 h5 (.inr (aG D h6 h7 h8))
 subst z
 subst p
 refine au ge.cls λN mN m ow=>?_
 refine ae ow λi _=>?_
 obtain ⟨k,hn⟩:=m
 refine fV (k) λnm q bs' sn sub col dd k0 k1 k2 k3 k5 hC=>?_
 clear k
 obtain ⟨hh,g,dr,tk,os⟩:=s
 have ga:=i "__getattribute__" (by simp)
 by_cases e1:n = "count"
 ·subst e1
  rw[NZ rfl] at he; (have l:=Out.ok.inj he; clear he; subst l)
  exact YL hC hn ga (i "count" (by simp)) lE I f1 rfl (hQ _ _ (.int (.toks _ _)))
 rw[N0 e1] at he
 by_cases e2:n = "full"
 ·(clear e1; subst e2)
  rw[NZ rfl] at he; (have l:=Out.ok.inj he; clear he; subst l)
  have hf:handedOut vf=Pu vf:=by cases rd<;>rfl
  refine YL hC hn ga (i "full" (by simp)) nP I f2 hf (hQ _ _ ?_)
  exact .after (.toks ⟨hh,g,dr,tk,os⟩ _) (tq (s:=⟨hh,g,dr,tk+1,os⟩) (x:=.d d) ⟨rd,zd⟩ λa h=>ha a (.tail _ (.tail _ h)))
 rw[N0 e2] at he
 by_cases e3:n = "size"
 ·(clear e1 e2; subst e3)
  rw[NZ rfl] at he; (have l:=Out.ok.inj he; clear he; subst l)
  exact YL hC hn ga (i "size" (by simp)) oj I f3 rfl (hQ _ _ (.int (.toks _ _)))
 rw[N0 e3] at he
 exact nB he
theorem yF (Sa:SimE fns k C XP a):SimE fns k C XP (.attr a n):=by
 intro ex A env σ P s Q Er ok X m o p
 replace ok:=DF ok
 revert ok; refine λi=>OE i (λj=>?_) (λok=>?_)
 ·clear i
  refine ce (j) λt q l hn hs y=>?_
  clear j
  subst l
  simp only[lz] at m o p
  cases hR:C "Rule" with
  | none=>rw[hR] at m; exact N5 rfl m
  | some g=>
  rw[hR] at m o p
  simp only[am] at m o p
  refine aJ m λn1 n2=>?_
  rw[arm_eval_Attribute,v8 hs y]
  refine Is (Sa y X n1 (λx hx va u Ea=>?_) λc hc=>p c (by rw[hc]; rfl))
  obtain ⟨z,as,ra,ha,_⟩:=Ea
  have:∃ r,kn x.1 n = .ok r:=by
   cases h:kn x.1 n with
   | ok r=>exact ⟨r,rfl⟩
   | exc c=>exact N5 h (w5 c)
   | bad=>exact N5 h (n2 x hx)
  refine al (this) λr hr=>?_
  clear this
  refine Is (Tn (Is (P4 (vd (P:=λa=>P a\/s.heap.get? a=NI) (X.ge.k z.k) hr ra ha λv s' E=>?_))))
  exact Is (wpAny_letTemporaryGo (Od (o r (by rw[hx]; exact hr) v s' (E.shift z))))
 ·cases ok
theorem pT:∀ {es:Es}{xs:uq Expr},eF ns es xs=vj->∀ pos:Pos,(Ro pos (PE xs env)).any (·.1)=NY/\(Ro pos (PE xs env)).all (λx=>!x.1)=vj
 | .nil,xs,h,pos=>by
  refine OE (t9 h) (λi=>?_) (λq=>?_)
  ·refine ae (i) λk l=>?_
   clear i
   (clear h; subst k)
   exact ⟨rfl,rfl⟩
  ·cases q
 | .cons e es,xs,h,pos=>by
  refine OE (qT h) (λg=>?_) (λq=>?_)
  ·refine au (g) λx m j h=>?_
   clear g
   subst j
   refine aW h λo n=>?_
   refine ae (pT (env:=env) n pos) λa b=>?_
   rw[aT o]
   constructor
   ·show (NY||(Ro pos (PE m env)).any (·.1))=NY
    rw[a]; rfl
   ·show (!false&&(Ro pos (PE m env)).all (λx=>!x.1))=vj
    rw[b]; rfl
  ·cases q
theorem oU {A:OI}{env:Env}{pos:Pos}{e:Expr}{rest:uq Expr}{Q:Lt->NU->Prop}{E:Lt->NU->Prop}{s:NU}{Cl N:Oo}{mN:Str->NX Lt}(he:PE (e::rest) env=(NY,eval e env)::PE rest env) (hp:(Ro pos (PE rest env)).any (·.1)=NY)
  (h:Og (Ok prog w) A (VU (Ro pos (PE (e::rest) env))) (λvs s₁=>ClsAt s₁.heap Cl N mN/\Og (Ok prog w) A (Sy (.ref Cl) vs) Q E s₁) E s) :
  Og (Ok prog w) A (WM pos (.ref Cl) [] (Ro pos (PE (e::rest) env)) []) Q E s:=by
 rw[he] at h ⊢
 have m:((Ro pos ((NY,eval e env)::PE rest env)).any (λx=>x.fst)||([]:uq (NX Str×Sem Lt)).any λx=>x.fst.isNone)=false:=by
  show ((NY||(Ro pos (PE rest env)).any (·.1))||NY)=NY
  rw[hp]; rfl
 unfold WM
 refine Is (P4 (Calls.evalArgs_plain (Pg h (λvs s₁ i=>?_) λuu uu x=>x)))
 obtain ⟨v,g,d,t,p⟩:=s₁
 revert i; intro j
 refine ae (j) λl i=>?_
 clear j
 obtain ⟨k,_⟩:=l
 refine fV (k) λnm q bs z o y dd k0 k1 k2 k3 k5 n=>?_
 clear k
 have f1:=tc_lookup
 have hT:(⟨v,g,d,t,p⟩:NU).TypeIs (.ref Cl) "type" := (ah _ n rfl)
 refine Is (Tn ?_)
 show Og _ _ (keeperOf (.ref Cl)>>=_) _ _ _
 unfold keeperOf specialOf
 repeat (any_goals (first | assumption | with_reducible refine O3 n ?_ | with_reducible refine wpAny_load' n ?_ | wp_step))
 rw[NZ (by rfl),m]
 show Og _ _ (Sy (.ref Cl) vs []>>=λr=>do holding [r] point; Pu r) _ _ _
 exact Is (Pg i (λr s' u=>Is (P4 (wpAny_point (Od u)))) λuu uu x=>x)
end
section
theorem AV (h:∀ a b,NE (f a b)) (x y:V):NE (d2 x y f):=.opt λa=>.opt λb=>h a b
theorem DN {x y:N9}{f:Str->N3->Out (V×Mode)}{r:V×Mode}{G:Prop}(h:(am (asS x) λt=>am (cI y) λi=>f t i) = .ok r) (k:∀ t i,x = .str t->y = .int i->f t i = .ok r->G):G:=by
 refine aL h λt j h=>?_
 exact aL h λi g h=>k t i (cM j) (b0 g) h
theorem BZ:SimE fns k C XP .fig:=by
 intro ex A o h P s Q Er i X q l u
 refine ag (HF i) λp g j=>?_
 subst g
 refine au (X.ge.fig) λr t n m=>?_
 exact Calls.Name_function_global X.eok.kind (dX j) (Calls.loadGlobal_global (X.eok.glob▸n) m (l _ (mY C h) _ _ (.str (.refl s) (by decide)))) (by decide)
theorem x8 (hs:∀ o i,SI slice NY o i=VR [o,i] (U0 o i)) (he:qg x y = .ok r) (ra:R s.heap va x as) (rb:R s.heap vb y bs)
  (hQ:∀ v s',EP P s r v s'->Q v s'):Og (Ok prog w) A (RD value slice va vb) Q Er s:=by
 revert he; intro g
 refine DN g λt i k j he=>?_
 clear g
 subst k
 subst j
 obtain ⟨_,rfl,rfl⟩:=ra.isStr
 obtain ⟨_,rfl,rfl⟩:=rb.isInt
 by_cases hi:0<=i/\t.length<=lim
 ·rw[NZ hi] at he
  refine aL he λc m he=>?_
  have l:i.toNat<t.length:=(Qd.mp m).1
  have h:i<t.length:=(WB hi.1).mp l
  have q:i<2^63:=PC h (PJ.mpr (vc hi.2 (by decide)))
  have p:VS i t.length=ti i.toNat:=by
   have u:¬ i<0:=Q1.mpr hi.1
   simp[VS,u,hi.1,h]
  have n:=Out.ok.inj he
  subst n
  refine WK (T3 _ _ _) slot_str_getitem.lookup (getItem_str ?_ (by rw[p]; exact m) (hQ _ _ (.str (.toks s _) (show 1<=lim by unfold lim; decide)))) (hs _ _)
  rw[OC (Q1.mpr (ON (by decide) hi.1)),OC (Vx.mpr q)]; rfl
 ·rw[N0 hi] at he; exact nB he
noncomputable def SlG (lo:OF) (A:OI) (Q Er:Lt->NU->Prop) (va vb:Lt) (s:NU):Prop :=
 ({s with heap:=s.heap.push {cls:=.type "slice", data:=.fields (if lo=vj then #[vb,.none,.none] else #[.none,vb,.none]) } }:NU).TypeIs va "str" /\ Og (Ok prog w) A (U0 va (.ref s.heap.objs.size)) Q Er {s with heap:=s.heap.push {cls:=.type "slice", data:=.fields (if lo=vj then #[vb,.none,.none] else #[.none,vb,.none]) } }
theorem xf {lo:OF}{va vb:Lt}{as bs:uq Oo}{A:OI}{P:Oo->Prop}{s:NU}{Q:Lt->NU->Prop}{Er:Lt->NU->Prop}{x y:N9}{r:V×Mode}(he:qX lo x y = .ok r) (ra:R s.heap va x as) (rb:R s.heap vb y bs)
  (hQ:∀ v s',EP P s r v s'->Q v s'):SlG lo A Q Er va vb s:=by
 revert he; intro g
 refine DN g λt i j h he=>?_
 clear g
 subst j
 subst h
 obtain ⟨_,rfl,rfl⟩:=ra.isStr
 obtain ⟨_,rfl,rfl⟩:=rb.isInt
 by_cases hi:t.length<=lim
 ·rw[NZ hi] at he
  have o:=Out.ok.inj he
  subst o
  have k:t.length<=sizeLine:=by rw[Pz]; exact vc hi (by decide)
  refine ⟨T3 _ _ _,?_⟩
  cases lo with
  | true=>exact UK (l:=ti (i,_)) (u:=NI) (st:=NI) ⟨_,Ov _ rfl,rfl,rfl⟩ rfl (XK ⟨vc (U6 t _ _) k,λm n=>hQ _ _ (.str (.push s _ n) (vc (U6 _ _ _) hi))⟩)
  | false=>exact UK (l:=NI) (u:=ti (i,_)) (st:=NI) ⟨_,Ov _ rfl,rfl,rfl⟩ rfl (XK ⟨vc (U6 t _ _) k,λm n=>hQ _ _ (.str (.push s _ n) (vc (U6 _ _ _) hi))⟩)
 ·rw[N0 hi] at he; exact nB he
theorem BH (hXP:∀ c s s₁ x s',Kp s s₁->XP c s₁ x s'->XP c s x s') {lo:OF}{a b:E}(Sa:SimE fns k C XP a) (Sb:SimE fns k C XP b):SimE fns k C XP (.ssl lo a b):=by
 intro ex A env σ P s Q Er u X z hQ hE
 refine I9 (H0 u) λid p0 l p pos m oa ob=>?_
 clear u
 subst m
 rw[fU] at z
 simp only[fU] at hQ hE
 have j:=iW hXP Sa Sb (f:=λx y=>d2 x y λx y=>qX lo x y) (G:=SlG lo A Q Er) oa ob X z hE (λx y c=>AV (λ_ _=>BY) x y c) λx y r hr hf va t i as bs kp ra rb ha hb=>by
  refine aA (eL hf) λx' y' m n q=>?_
  subst m
  subst n
  exact xf q ra.1 rb.1 λv s' e=>hQ r hr v s' (.shift kp e)
 cases lo with
 | true=>exact Vt (T:="str") Wu.lookup (Pg j (λo s₁ h=>VF (dG (Pg h (λt i g=>bv (bv g)) λuu uu e=>e))) λuu uu e=>e)
 | false=>exact Vt (T:="str") Wu.lookup (Pg j (λo s₁ h=>VF (bv (dG (Pg h (λt i g=>bv g) λuu uu e=>e)))) λuu uu e=>e)
theorem Ba (hXP:∀ c s s₁ x s',Kp s s₁->XP c s₁ x s'->XP c s x s') {a b:E}(Sa:SimE fns k C XP a) (Sb:SimE fns k C XP b):SimE fns k C XP (.sat a b):=by
 intro ex A t σ P s Q Er o X nb hQ hE
 refine OE (AU (show okE t.scope.names (.sub a b) ex=vj from o)) (λg=>?_) (λq=>q.elim)
 refine cG (g) λl j i h o=>?_
 clear g
 subst h
 refine aW o λoa z=>?_
 rw[jL] at nb
 simp only[jL] at hQ hE
 refine Wj (iW hXP Sa Sb (f:=λx y=>d2 x y λx y=>qg x y) oa z X nb hE (λx y c=>AV (λ_ _=>A6) x y c) λx y r hr hf va vb u as bs kp ra rb ha hb=>?_)
 refine aA (eL hf) λx' y' n m p=>?_
 subst n
 subst m
 exact x8 (fG z) p ra.1 rb.1 λv s' e=>hQ r hr v s' (.shift kp e)
theorem CE (h:(fO v).isNone=vj) (n:Str) (env:Env):Yy v n env (eval v env)=eval v env:=by
 cases v<;>first | rfl | exact nF h
theorem Dh (h:(asD x).bind asS=ti t):x = .d (.str t):=a7 h λd i g=>by rw[ba i,cM g]
theorem mH:∀ l:uq (Str×Tok),RA h (VY l) (l.map λp=>.str p.1) []
 | []=>.nil
 | p::l=>.cons (as:=[]) (.str p.1 p.2) (mH l)
theorem RA.strs (r:RA h vs xs as):∀ {ts:uq Str},fy xs=ti ts->∃ l,vs=VY l/\l.map (·.1)=ts :=
 RA.ind (N:=λvs xs _=>∀ {ts:uq Str},fy xs=ti ts->∃ l,vs=VY l/\l.map (·.1)=ts) (λh=>⟨[],rfl,Gt h⟩) (λ{v vs d p as q} g _ j {ts} h=>by
  refine a7 h λi k h=>?_
  cases h2:fy p with
  | none=>rw[h2] at h; cases h
  | some us=>
   rw[h2] at h
   rw[cM k] at g
   refine ag (j h2) λl o n=>?_
   refine ag g.isStr λt m _=>⟨(i,t)::l,by rw[o,m]; rfl,?_⟩
   rw[<- Gt h,<- n]; rfl) r
theorem ug (f:α->Str) (l:uq α):fresh (l.map λp=>.str (f p)) = .deep:=by
 unfold fresh
 rw[NZ]
 rw[VV,Pm]; intro _ _; rfl
theorem EP.newStrs {ts:uq Str}(e:l.map (·.1)=ts) (hl:ts.length<=2^22) (hz:∀ p∈ts,p.length<=2^22):EP P s (.d (.list (ts.map .str)),.deep) (.ref s.heap.objs.size) {s with heap:=s.heap.push {cls:=.type "list", data:=.seq (VY l).toArray },toks:=n }:=by
 subst e
 have:=EP.newList (P:=P) (s:=s) (t:=n) (mH l) (by rw[Oc] at hl ⊢; exact hl) (λx g=>by
  refine aB g λp i e=>?_
  rw[<- e]
  exact OA (hz _ (V5 i))) (λ_ h=>nomatch h)
 rw[ug] at this
 rw[U4]
 exact this
theorem B0 (h:Og (Ok prog w) A m (λvb s₁=>∃ y r bs,smV o t y = .ok r/\R s₁.heap vb y bs/\∀ v s',EP P s₁ r v s'->Q v s') Er s):MethodOnS prog w A Er (oD (smn o)) (.str t u) pos [(NY,m)] Q s:=by
 cases o with
 | find=>
  refine SB.find (Pg h (λvb s₁ z=>?_) λ_ _ e=>e)
  refine aX z λy r bs g hr hq=>?_
  refine aL g λd h1 g=>?_
  rw[cM h1] at hr
  have oc:=Out.ok.inj g
  subst oc
  exact ag hr.isStr λub e _=>⟨d,ub,e,hq _ _ (.int (.toks s₁ _))⟩
 | join=>
  refine SB.join (Pg h (λvb s₁ z=>?_) λ_ _ e=>e)
  refine aX z λy r bs g hr hq=>?_
  refine aL g λxs h1 g=>?_
  refine aL g λts h2 g=>?_
  by_cases hc:YQ t ts=vj/\(TY t ts).length<=lim
  ·rw[NZ hc] at g
   have oc:=Out.ok.inj g
   subst oc
   rw[cH h1] at hr
   refine hr.isList_k λa vs n cs e1 ea ra _=>?_
   refine ag (ra.strs h2) λl e3 e4=>?_
   rw[e3] at ea
   exact ⟨a,l,e1,isL ea,ts,e4,hc.1,λt' k=>hq _ _ (.str (.toks s₁ _) hc.2)⟩
  ·rw[N0 hc] at g; exact nB g
 | part=>
  refine ⟨"str", _,Xi,VM,F.type_str_partition,T3 _ _ _,(λ_ e=>nomatch e),Yz VM F.entry_str_partition (Pg h (λvb s₁ z=>?_) λ_ _ e=>e)⟩
  refine aX z λy r bs g hr hq=>?_
  refine aL g λd h1 g=>?_
  rw[cM h1] at hr
  by_cases hc:(d.length==0)=NY/\t.length<lim/\d.length<=lim
  ·rw[NZ hc] at g
   have oc:=Out.ok.inj g
   subst oc
   refine ag hr.isStr λub e _=>?_
   subst e
   refine ⟨T3 _ _ _,F.args_str_partition_2 _ _,_,meets_str_partition t d u ub hc.1 (by rw[Pz]; exact vc (Oq hc.2.1) (by decide)),?_⟩
   have hz:∀ x:Str,x.length<=lim->sz (.str x)=true:=λx h=>OA (vc h (by decide))
   have fin:∀ {a b c:Str}{ta tb tc:Tok}{n:N7},fQ t d=[.str a,.str b,.str c]->a.length<=lim->b.length<=lim->c.length<=lim->Q (.ref s₁.heap.objs.size) {s₁ with toks:=n,heap:=s₁.heap.push {cls:=.type "tuple", data:=.seq [.str a ta,.str b tb,.str c tc].toArray } }:=λ{a b c ta tb tc n} e ha hb hc=>by
    rw[e] at hq
    refine hq _ _ (.scalar (.push s₁ _ n) (.tuple (Ov _ rfl) (mH [(a,ta),(b,tb),(c,tc)])) (sz_tuple.mpr ⟨show 3<=2^22 by decide,λx hx=>?_⟩) (by simp))
    rcases Ou.mp hx with rfl | hx
    ·exact hz _ ha
    rcases Ou.mp hx with rfl | hx
    ·exact hz _ hb
    rw[N1.mp hx]; exact hz _ hc
   have ht:=Oq hc.2.1
   have hs:∀ i j,(Z4 t i j).length<=lim:=λi j=>vc (U7 t i j) ht
   cases ho:Q8 t d 0 t.length 1 with
   | nil=>exact fin (by unfold fQ RC; rw[ho]) ht (by decide) (by decide)
   | cons i r=>exact fin (by unfold fQ RC; rw[ho]) (hs _ _) hc.2.2 (hs _ _)
  ·rw[N0 hc] at g; exact nB g
 | split=>
  refine ⟨"str", _,Xi,Xj,F.type_str_split,T3 _ _ _,(λ_ e=>nomatch e),Yz Xj F.entry_str_split (Pg h (λvb s₁ z=>?_) λ_ _ e=>e)⟩
  refine aX z λy r bs g hr hq=>?_
  refine aL g λd h1 g=>?_
  rw[cM h1] at hr
  by_cases hc:(d.length==0)=NY/\t.length<lim
  ·rw[NZ hc] at g
   have oc:=Out.ok.inj g
   subst oc
   refine ag hr.isStr λub e _=>?_
   subst e
   have ht:t.length<=sizeLine:=by rw[Pz]; exact vc (Oq hc.2) (by decide)
   have hw:(Txt.split t d).length<=2^22:=vc (vc (Pa _ _) (T9 t d (Rk λq=>by rw[q] at hc; exact nT hc.1))) (vc hc.2 (by decide))
   have fin:∀ {l:uq (Str×Tok)}{n:N7},l.map (·.1)=Txt.split t d->Q (.ref s₁.heap.objs.size) {s₁ with toks:=n,heap:=s₁.heap.push {cls:=.type "list", data:=.seq (VY l).toArray } }:=λ{l n} e=>hq _ _ (.newStrs e hw λp hp=>vc (SL hp) (vc (Oq hc.2) (by decide)))
   refine ⟨T3 _ _ _,F.args_str_split_2 _ _,?_⟩
   cases h1:(decide (t.length<d.length)||decide (Sg t<Sg d)) with
   | true=>exact ⟨_,meets_str_split_cannot_occur t d u ub h1,fin (l:=[(t,u)]) (NZ h1).symm⟩
   | false=>
    cases hf:(Q8 t d 0 t.length (t.length+1)).isEmpty with
    | true=>exact ⟨_,meets_str_split_not_found t d u ub h1 hc.1 hf,fin (l:=[(t,u)]) ((N0 (TK h1)).trans (NZ hf)).symm⟩
    | false=>
     have e:=((N0 (TK h1)).trans (N0 (TK hf)):Txt.split t d=_)
     refine ⟨_,meets_str_split_sep t d u ub h1 hc.1 hf ht (by rw[<- e,Pz]; exact vc hw (by decide)),?_⟩
     show Q _ {s₁ with toks:=_,heap:=s₁.heap.push {cls:=.type "list", data:=.seq (strsFrom s₁.toks (YA t (Q8 t d 0 t.length (t.length+1)) d.length)).toArray } }
     rw[strsFrom_eq]
     exact fin ((numbered_texts _ _).trans e.symm)
  ·rw[N0 hc] at g; exact nB g
theorem Db (hXP:∀ c s s₁ x s',Kp s s₁->XP c s₁ x s'->XP c s x s') {o:TMe}{a b:E}(Sa:SimE fns k C XP a) (Sb:SimE fns k C XP b) :
  SimE fns k C XP (.sm o a b):=by
 intro ex A l σ P s Q Er ok X nb g i
 refine AJ (KB ok) λv p y pos n hl z oa ob=>?_
 clear ok
 subst n
 simp only[ip] at nb g i
 refine aJ nb λn1 h=>?_
 refine Call_method1 (CE z _ l) (aT ob [] l) hl (Sa oa X n1 (λx m va s₁ Ea=>?_) λc hc=>i c (by rw[hc]; rfl))
 replace h:=h x m
 rw[m] at g i
 simp only[Out.ok_bind] at g i
 obtain ⟨u,as,ra,ha,_⟩:=Ea
 cases hs:(asD x.1).bind asS with
 | none=>rw[hs] at h; exact N5 rfl h
 | some t=>
 rw[hs] at h g i
 simp only[am] at h g i
 rw[Dh hs] at ra
 obtain ⟨_,rfl,rfl⟩:=ra.1.isStr
 refine aJ h λn3 j=>?_
 refine B0 (P:=λa=>P a\/s.heap.get? a=NI) (Sb ob (X.k u.k) n3 (λq hq vb s₂ Eb=>?_) λc hc x s' m=>i c (by rw[hc]; rfl) x s' (hXP c s s₁ x s' u m))
 replace j:=j q hq
 rw[hq] at g
 simp only[Out.ok_bind] at g
 obtain ⟨kb,bs,rb,hb,_⟩:=Eb
 cases hd:asD q.1 with
 | none=>rw[hd] at j; exact N5 rfl j
 | some y=>
 rw[hd] at j g
 rw[ba hd] at rb
 cases hr:smV o t y with
 | bad=>exact N5 hr j
 | exc c=>exact N5 hr (DD c)
 | ok r=>exact ⟨y,r,bs,hr,rb.1,λv s' e=>g r hr v s' (.shift (u.trans kb) e)⟩
end
section
variable {fns:Fns}{k:N7}{C:Calls}{XP:If->NU->Lt->NU->Prop}
theorem BV:b1V f x≠.exc c:=CZ c
theorem b1_list' (h:(am (asD v) λx=>am (asL x) f) = .ok r):∃ xs,v = .d (.list xs)/\f xs = .ok r:=by
 refine aL h λx i h=>?_
 refine aL h λxs g h=>?_
 exact (ah xs (by rw[ba i,cH g]) h)
theorem CR (h:(am (asD x) λx=>am (asS x) g) = .ok r):∃ t,x = .d (.str t)/\g t = .ok r:=by
 refine aL h λy j h=>?_
 refine aL h λt i h=>?_
 exact (ah t (by rw[ba j,cM i]) h)
theorem tz (h:n<1000000):n.log2<1920:=by
 by_cases h0:n=0
 ·rw[h0]; decide
 ·exact (Nat.log2_lt h0).mpr (Rv h (N2 (show 1000000<2^20 by decide) (Qp (by decide) (by decide))))
set_option tactic.hygienic true in
theorem CB (hh:A.handled=NI) (hu:A.units+200<TH) (he:b1V f x = .ok r) (ra:RV s.heap va x as) (ha:∀ a∈as,P a)
  (hQ:∀ v s',EP P s r v s'->Q v s'):Og (Ok prog w) A (Sy (bval (b1n f)) [va]) Q Er s:=by
 unfold b1V at he
 cases hd:tK x with
 | some ks=>
  rw[hd] at he
  cases xj hd
  simp only[pi] at he
  split at he
  ·rename_i hk
   revert hk; intro Ng
   refine ae (Ng) λj hk=>?_
   clear Ng
   subst j
   (have h:=Out.ok.inj he; clear he; subst h)
   exact wj hh ra hk hQ
  ·exact nB he
 | none=>
 rw[hd] at he
 dsimp only at he
 cases f with
 | len=>exact yb he ra hQ
 | slen=>
  replace he:=CR he
  revert he; intro g
  refine ag (g) λt j he=>?_
  clear g
  (clear hd; subst j)
  (have h:=Out.ok.inj he; clear he; subst h); obtain ⟨_,rfl,rfl⟩:=ra.1.isStr
  have u:t.length<=2^22:=Oy ra.2
  exact len_str (Vx.mpr (Qu.mpr (N4 u (by decide)))) (hQ _ _ (.int (.toks s _)))
 | str=>
  replace he:=aN he
  revert he; intro g
  refine ag (g) λy hy he=>?_
  clear g
  cases ba hy
  replace he:=aN he
  revert he; intro g
  refine ag (g) λi hi he=>?_
  clear g
  cases b0 hi
  by_cases u:i.natAbs<1000000/\(oD (Uz i)).length<=lim
  ·rw[NZ u] at he
   (have h:=Out.ok.inj he; clear he; subst h); obtain ⟨_,rfl,rfl⟩:=ra.1.isInt
   exact Z5 (tz u.1) (hQ _ _ (.str (.toks s _) u.2))
  ·rw[N0 u] at he; exact nB he
 | int=>
  replace he:=CR he
  revert he; intro g
  refine ag (g) λt j he=>?_
  clear g
  (clear hd; subst j)
  replace he:=aN he
  revert he; intro g
  refine ag (g) λn q he=>?_
  clear g
  have e:=Oj.mp (Sv (p:=λn:N7=>oD (Uz (n:N3))==t) q)
  have hm:=VT.mp (Qk q)
  (have h:=Out.ok.inj he; clear he; subst h); obtain ⟨_,rfl,rfl⟩:=ra.1.isStr
  subst e
  exact ZC (Ot _) (Qu.mpr (Rv hm (by decide))) (hQ _ _ (.int (.toks s _)))
 | intB=>
  replace he:=aN he
  revert he; intro g
  refine ag (g) λy hy he=>?_
  clear g
  cases ba hy
  cases y with
  | bool b=>
   (have h:=Out.ok.inj he; clear he; subst h); obtain ⟨rfl,rfl⟩:=ra.1.isBool
   exact call_int_bool (hQ _ _ (.int (.toks s _)))
  | _=>exact nB he
 | list=>
  replace he:=aN he
  revert he; intro Nq
  refine ag (Nq) λy hy he=>?_
  clear Nq
  cases ba hy
  cases ht:asT y with
  | none=>
   simp only[ht] at he
   replace he:=aN he
   revert he; intro Nm
   refine ag (Nm) λz hx he=>?_
   clear Nm
   cases cH hx
   (have h:=Out.ok.inj he; clear he; subst h)
   refine ra.1.isList_k λa vs n cs Mw ea o MA=>?_
   subst Mw
   subst MA
   have hz:=sz_list.mp ra.2
   exact oA (.inl rfl) ea o hz.1 hz.2 (λb hb=>ha b (.tail _ hb)) hQ
  | some z=>
   simp only[ht] at he
   (have h:=Out.ok.inj he; clear he; subst h)
   cases mI ht
   refine aX (ra.1.isTup) λa vs n MG ea o=>?_
   subst MG
   have hz:=sz_tuple.mp ra.2
   exact oA (.inr rfl) ea o hz.1 hz.2 ha hQ
 | tuple=>
  replace he:=b1_list' he
  revert he; intro MO
  refine ag (MO) λz Mz he=>?_
  clear MO
  (clear hd; subst Mz)
  (have h:=Out.ok.inj he; clear he; subst h)
  exact xS ra.1 ra.2 ha hQ
 | sorted=>
  replace he:=b1_list' he
  revert he; intro Ny
  refine ag (Ny) λz Mv he=>?_
  clear Ny
  (clear hd; subst Mv)
  unfold cZ at he
  split at he
  ·rename_i k
   split at he
   ·rename_i ns q
    (have h:=Out.ok.inj he; clear he; subst h)
    exact tf ra.1 q k hQ
   ·unfold eY at he
    cases ht:dO z with
    | some ks=>
     rw[ht] at he
     dsimp only at he
     split at he
     ·rename_i hc
      (have h:=Out.ok.inj he; clear he; subst h)
      exact tR hu ra.1 ha ra.2 ht k hc hQ
     ·exact nB he
    | none=>
     rw[ht] at he
     dsimp only at he
     refine aL he λks hk he=>?_
     (have h:=Out.ok.inj he; clear he; subst h)
     exact tG hu ra.1 ha ra.2 hk k hQ
  ·rename_i k
   split at he
   ·rename_i h128
    refine aL he λns q he=>?_
    split at he
    ·rename_i hc
     (have h:=Out.ok.inj he; clear he; subst h)
     exact sZ ra.1 q k h128 hc hQ
    ·exact nB he
   ·exact nB he
 | max=>
  replace he:=b1_list' he
  revert he; intro m
  refine ag (m) λz My he=>?_
  clear m
  (clear hd; subst My)
  replace he:=aN he
  revert he; intro l
  refine ag (l) λi hi he=>?_
  clear l
  refine a7 hi λns hi1 hi2=>?_
  (have h:=Out.ok.inj he; clear he; subst h)
  exact xZ hh ra.1 hi1 hi2 hQ
theorem C9 (f:B1):b1n f∈bnames:=by cases f<;>decide
theorem Gh (f:B1):(oD (b1n f)==("__debug__" : Str))=false:=by cases f<;>decide
theorem sf (hf:fns.hand=NY) (Sa:SimE fns k C XP a):SimE fns k C XP (.bi1 f a):=by
 intro ex A z σ P s Q Er ok X nb hQ hE
 replace ok:=zz ok
 revert ok; refine λi=>OE i (λj=>?_) (λok=>?_)
 ·clear i
  refine cQ (j) λy x u t m ok=>?_
  clear j
  subst m
  simp only[Of,Oj] at ok
  refine ae (ok) λo l=>?_
  clear ok
  refine ae (o) λp hg=>?_
  clear o
  subst p
  simp only[j7] at nb hQ hE
  refine aJ nb λn1 n2=>?_
  have fin:∀ {B:Lt},B=bval (b1n f)->∀ {n:Pos},Og (Ok prog w) A (VU (Ro n (PE [_] z))) (λvs g=>Og (Ok prog w) A (Sy B vs) Q Er g) Er s:=λ{B} hB {n}=>by
   subst hB
   refine lH _ l (Sa l X n1 (λr hr v g Ea=>?_) λc hc=>hE c (by rw[hc]; rfl))
   have n3:=n2 r hr
   cases h:b1V f r.1 with
   | bad=>exact N5 h n3
   | exc c=>exact N5 h BV
   | ok q=>
    obtain ⟨ka,as,ra,ha,_⟩:=Ea
    exact CB (P:=λa=>P a\/s.heap.get? a=NI) (X.room.1 hf) X.room.units h ra ha λv s' E=>hQ q (by rw[hr]; exact h) v s' (E.shift ka)
  refine f6 X.eok X.ge (C9 f) hg (Gh f) ?_
  cases f with
  | list=>exact d0 (T:="list") _ l rfl (fin rfl)
  | tuple=>exact d0 (T:="tuple") _ l rfl (fin rfl)
  | str=>exact d0 (T:="str") _ l rfl (fin rfl)
  | int=>exact d0 (T:="int") _ l rfl (fin rfl)
  | intB=>exact d0 (T:="int") _ l rfl (fin rfl)
  | _=>exact k8 _ l rfl (fin rfl)
 ·cases ok
theorem yT:g7 x t≠.exc c:=B9 c
theorem ye (h:nt t k=ti b):t∈bnames/\bval t = .type t :=
 rp h (λe uu=>e▸⟨by decide,rfl⟩) (λe uu=>e▸⟨by decide,rfl⟩) (λe uu=>e▸⟨by decide,rfl⟩) (λe uu=>e▸⟨by decide,rfl⟩) λe uu=>e▸⟨by decide,rfl⟩
theorem nV {id:Str}{p:Pos}(xs:uq Expr) (env:Env):PE (.Name id p::xs) env=(NY,eval (.Name id p) env)::PE xs env:=rfl
theorem Bd (Sa:SimE fns k C XP a):SimE fns k C XP (.isi a t):=by
 intro ex A r σ P s Q Er ok X nb hQ hE
 replace ok:=zU ok
 revert ok; refine λg=>OE g (λi=>?_) (λok=>?_)
 ·clear g
  refine uh (i) λNI NH z y v u o ok=>?_
  clear i
  subst o
  simp only[Of,Oj] at ok
  refine ae (ok) λn hdt=>?_
  clear ok
  refine ae (n) λm hgt=>?_
  clear n
  refine ae (m) λl q=>?_
  clear m
  refine ae (l) λj oa=>?_
  clear l
  refine ae (j) λp hg=>?_
  clear j
  subst p
  subst q
  simp only[nK] at nb hQ hE
  refine aJ nb λn1 n2=>?_
  refine f6 X.eok X.ge (id:="isinstance") (by decide) hg (by decide) (k8 (id:="isinstance") _ oa rfl (Qn ?_ (aT oa _ r)))
  refine Sa oa X n1 (λx hx va s₁ Ea=>?_) λc hc=>hE c (by rw[hc]; rfl)
  cases h:g7 x.1 t with
  | bad=>exact N5 h (bk (n2 x hx)).1
  | exc c=>exact N5 h yT
  | ok b=>
   refine ag (xL h) λxd hxd hi=>?_
   refine ae (ye hi) λhm hb=>?_
   have ge:=X.ge.k Ea.keeps.k
   refine ar (ge.glob) λmg g1 _ g3=>?_
   refine ag (ge.blt) λmb b1 b2=>?_
   refine Qn ?_ (nV [] r)
   refine Calls.Name_function_global X.eok.kind (dX hgt) (Calls.loadGlobal_builtin (X.eok.glob▸g1) (g3 t hm) (X.eok.blt▸b1) (b2 t hm) ?_) (nd hdt)
   refine Sr ?_
   obtain ⟨ka,as,ra,ha,_⟩:=Ea
   rw[hxd] at ra
   rw[hb]
   exact yy hi ra.1 λs' kp=>hQ (sB b) (by rw[hx,Out.ok_bind,h]; rfl) _ _ (.bool (ka.trans kp))
 ·cases ok
theorem sj (hX:∀ t g,C t=ti g->t∈excNames->t∈SF.excN):SimE fns k C XP (.isE x t):=by
 intro ex A env σ P s Q Er ok X h v hE
 replace ok:=zU (Ia ok)
 revert ok; refine λi=>OE i (λj=>?_) (λok=>?_)
 ·clear i
  refine uh (j) λNI NH NS NQ NV NP u ok=>?_
  clear j
  subst u
  simp only[Of,Oj] at ok
  refine ae (ok) λo hdt=>?_
  clear ok
  refine ae (o) λn hgt=>?_
  clear o
  refine ae (n) λm M0=>?_
  clear n
  refine ae (m) λl oa=>?_
  clear m
  refine ae (l) λz hg=>?_
  clear l
  subst z
  subst M0
  simp only[nr] at h v hE
  cases hp:σ x with
  | none=>rw[hp] at h; exact N5 rfl h
  | some p=>
  cases r:pf p.1 with
  | none=>rw[hp] at h; simp only[am,r] at h; exact N5 rfl h
  | some c=>
  rw[hp] at h v hE
  simp only[am,r] at h v hE
  have en:ev C (.name x) σ = .ok (mk p.1):=by rw[dB,hp]
  refine f6 X.eok X.ge (id:="isinstance") (by decide) hg (by decide) (k8 (id:="isinstance") _ oa rfl (Qn ?_ (aT oa _ env)))
  refine iA x (C:=C) (fns:=fns) (k:=k) (XP:=XP) oa X (by rw[en]; exact λq=>nomatch q) (λy hy va s₁ Ea=>?_) λc r=>(by rw[en] at r; exact nomatch r)
  rw[en] at hy; (have oc:=Out.ok.inj hy; clear hy; subst oc)
  have ge:=X.ge.k Ea.keeps.k
  obtain ⟨ka,as,ra,ha,_⟩:=Ea
  have era:(mk p.1).1 = .err c:=wI r
  rw[era] at ra
  refine ar (ge.exc) λmg g1 g2 g3=>?_
  refine Qn ?_ (nV [] env)
  unfold pZ at h v
  by_cases ht:t∈excNames
  ·rw[NZ ht] at h v
   cases hg':C t with
   | none=>rw[hg'] at h; exact N5 rfl h
   | some g=>
   rw[hg'] at v
   have hdN:=hX t g hg' ht
   refine Calls.Name_function_global X.eok.kind (dX hgt) (Calls.loadGlobal_global (X.eok.glob▸g1) (g2 t hdN).1 ?_) (nd hdt)
   refine Sr ?_
   exact xD g3 (λc r=>(g2 c r).2) hdN ra λs' kp=>v _ rfl _ _ (.bool (ka.trans kp))
  ·rw[N0 ht] at h; exact N5 rfl h
 ·cases ok
set_option tactic.hygienic true in
theorem xY (hf:fns.hand=NY) (hC:eI fns k C XP) (hXP:∀ c s s₁ x s',Kp s s₁->XP c s₁ x s'->XP c s x s') {f:If}{es:Es}(Ss:iD fns k C XP es):SimE fns k C XP (.call f es):=by
 intro ex A env σ P s Q Er ok X nb hQ hE
 replace ok:=vF ok
 revert ok; refine λn=>OE n (λt=>?_) (λok=>?_)
 ·clear n
  refine cQ (t) λNU p xs pos NG ok=>?_
  clear t
  subst NG
  simp only[Of,Oj,P8,QA] at ok
  refine ae (ok) λMR j=>?_
  clear ok
  refine ae (MR) λMU hl=>?_
  clear MR
  refine ae (MU) λMN hne=>?_
  clear MU
  refine ae (MN) λMV hx=>?_
  clear MN
  refine ae (MV) λu hd=>?_
  clear MV
  refine ae (u) λNa hg=>?_
  clear u
  subst Na
  simp only[iM] at nb hQ hE
  split at nb
  ·rename_i g hCf
   rw[hCf] at hQ hE
   dsimp only at hQ hE
   refine aJ nb λn1 n2=>?_
   refine ag ((hC f g hCf).2.2 hx) λfa m h=>?_
   refine ar (X.ge.glob) λmg g1 g2 _=>?_
   refine W5 (Calls.Name_function_global X.eok.kind (dX hg) (Calls.loadGlobal_global (X.eok.glob▸g1) (g2 f fa m) ?_) (nd hd))
   cases xs with
   | nil=>simp at hne
   | cons y ys=>
    cases es with
    | nil=>exact PZ (show NY=vj from j)
    | cons e es=>
     refine aW (show (okE env.scope.names e y&&eF env.scope.names es ys)=vj from j) λoy oys=>?_
     have fin:∀ l,evs C (.cons e es) σ = .ok l->∀ i s₁,EPs P s l i s₁->Og (Ok prog w) A (Sy (.ref fa) i []) Q Er s₁:=λl hl i s₁ Es=>by
      obtain ⟨ks,as,rs,ha,_⟩:=Es
      exact h (P:=λa=>P a\/s.heap.get? a=NI) X.room (aA (X.frm hf) λe' l' a' b' _=>(ah (e'::l') a' (b'.k ks.k))) (X.ge.k ks.k) rs ha (n2 l hl) (λr hr v s' E=>hQ r (by rw[hl]; exact hr) v s' (E.shift ks)) λc hc z s' hz=>hE c (by rw[hl]; exact hc) z s' (hXP c s s₁ z s' ks hz)
     by_cases hR:f = "Rule"
     ·refine au X.ge.cls λN mN hcl _=>?_
      rw[Gt ((NZ hR).symm.trans m)] at hcl
      exact oU (aT oy _ env) (pT oys pos).1 (Ss (pos:=pos) j X n1 (λl hl i s₁ Es=>⟨sv hcl Es.keeps.k,fin l hl i s₁ Es⟩) λc hc=>hE c (by rw[hc]; rfl))
     ·rw[ww hR] at m
      refine b9 m λq hq NL=>?_
      (clear h; subst NL)
      refine FnAt.casesOn (X.ge.funs f q hq) λo fd ho hfd _ _ _ _ _ _ _ _ _ _=>?_
      refine Calls.callWith_function (o:=o) (fd:=fd) ?_
      have hS:=Ss (pos:=pos) (A:=A) (P:=P) (s:=s) (Er:=Er) (Q:=λi s₁=>(s₁.heap.get? q.1=ti o/\o.data = .func fd)/\Og (Ok prog w) A (Sy (.ref q.1) ([]++i) []) Q Er s₁) j X n1 (λl hl i s₁ Es=>?_) λc hc=>hE c (by rw[hc]; rfl)
      ·rw[aT oy] at hS ⊢
       exact Calls.evalArgs_plain hS
      ·refine ⟨⟨Es.keeps.k.exact ho λuu uu q=>(by rw[hfd] at q; cases q),hfd⟩,?_⟩
       rw[Vg]
       exact fin l hl i s₁ Es
  ·exact N5 rfl nb
 ·cases ok
theorem qP {ex:Expr}(h:decide ((pt ex).tag∈[0,5,6,15])=NY) (env:Env) (t:Sem Lt):isTrue ex env t=(do let v <- t; standAt ex.pos; holding [v] (ZP v)):=by
 cases ex with
 | UnaryOp op x p=>cases op<;>first | rfl | exact nT h
 | _=>first | rfl | exact nT h
noncomputable def Dm (e:E):Bool:=decide (xo e∈[0,5,6,15])
variable (fns k C XP)
structure SimAll (ee:E):Prop where
 e:SimE fns k C XP ee
 t:SimT fns k C XP ee
 a:SimA fns k C XP ee
 o:SimO fns k C XP ee
 ta:SimTA fns k C XP ee
 to:SimTO fns k C XP ee
variable {fns k C XP}
noncomputable def qf:E->OF
 | .and _ _=>NY
 | _=>vj
noncomputable def uk:E->OF
 | .or _ _=>NY
 | _=>vj
theorem gB (h:qf e=vj):okA ns e vs=false:=by cases e<;>first | rfl | exact nF h
theorem gu (h:uk e=vj):okO ns e vs=false:=by cases e<;>first | rfl | exact nF h
theorem SimAll.ofET {e:E}(S:SimE fns k C XP e) (T:SimT fns k C XP e) (ha:qf e=vj) (ho:uk e=vj):SimAll fns k C XP e where
 e:=S
 t:=T
 a:=kY S λg=>by rw[gB ha] at g; exact nF g
 o:=lA S λg=>by rw[gu ho] at g; exact nF g
 ta:=ju T λg=>by rw[gB ha] at g; exact nF g
 to:=jK T λg=>by rw[gu ho] at g; exact nF g
theorem SimAll.ofE {e:E}(S:SimE fns k C XP e) (hp:Dm e=NY) (ha:qf e=vj) (ho:uk e=vj):SimAll fns k C XP e :=
 .ofET S (ur S λuu uu g t h=>qP (by rw[mQ h]; exact hp) g t) ha ho
section
variable (hf:fns.hand=NY) (hC:eI fns k C XP) (hXP:∀ c s s₁ x s',Kp s s₁->XP c s₁ x s'->XP c s x s')
include hXP
theorem lG (Sa:SimAll fns k C XP a) (Sb:SimAll fns k C XP b):SimAll fns k C XP (.and a b) :=
  have S:SimE fns k C XP (.and a b):=Bc hXP Sa.e Sb.a
  have T:SimT fns k C XP (.and a b):=yu hXP Sa.t Sb.ta
  {e:=S,t:=T,o:=lA S λg=>(by rw[gu rfl] at g; cases g),to:=jK T λg=>(by rw[gu rfl] at g; cases g),
   a:=kY S λ{z} _ _ _ _ _ _ _ _ g X v x y=>(by
    replace g:=i_A g
    revert g; refine λi=>OE i (λl=>?_) (λg=>?_)
    ·clear i
     refine au (l) λu r n g=>?_
     clear l
     subst n
     simp only[Of] at g
     exact C3 hXP Sa.e Sb.a g.1 g.2 X v x y
    ·cases g),
   ta:=ju T λ{z} _ _ _ _ _ _ _ g X v x y=>(by
    replace g:=i_A g
    revert g; refine λh=>OE h (λj=>?_) (λg=>?_)
    ·clear h
     refine au (j) λq p m g=>?_
     clear j
     subst m
     simp only[Of] at g
     exact zq hXP Sa.t Sb.ta g.1 g.2 X v x y
    ·cases g) }
theorem oz (Sa:SimAll fns k C XP a) (Sb:SimAll fns k C XP b):SimAll fns k C XP (.or a b) :=
  have S:SimE fns k C XP (.or a b):=C8 hXP Sa.e Sb.o
  have T:SimT fns k C XP (.or a b):=BA hXP Sa.t Sb.to
  {e:=S,t:=T,a:=kY S λg=>(by rw[gB rfl] at g; cases g),ta:=ju T λg=>(by rw[gB rfl] at g; cases g),
   o:=lA S λ{z} _ _ _ _ _ _ _ _ g X v x y=>(by
    replace g:=i_O g
    revert g; refine λj=>OE j (λl=>?_) (λg=>?_)
    ·clear j
     refine au (l) λu r n g=>?_
     clear l
     subst n
     simp only[Of] at g
     exact orL hXP Sa.e Sb.o g.1 g.2 X v x y
    ·cases g),
   to:=jK T λ{z} _ _ _ _ _ _ _ g X v x y=>(by
    replace g:=i_O g
    revert g; refine λh=>OE h (λi=>?_) (λg=>?_)
    ·clear h
     refine au (i) λq p m g=>?_
     clear i
     subst m
     simp only[Of] at g
     exact DK hXP Sa.t Sb.to g.1 g.2 X v x y
    ·cases g) }
theorem jv (hX:∀ t g,C t=ti g->t∈excNames->t∈SF.excN):∀ e:E,hOk e=vj->SimAll fns k C XP e
 | .name x,_=>.ofE (iA x) rfl rfl rfl
 | .not a,h=>.ofET (sd (jv hX a h).e) (qj (jv hX a h).t) rfl rfl
 | .and a b,h=>lG hXP (jv hX a (Qf.mp h).1) (jv hX b (Qf.mp h).2)
 | .or a b,h=>oz hXP (jv hX a (Qf.mp h).1) (jv hX b (Qf.mp h).2)
 | .isE x t,h=>.ofE (sj hX) rfl rfl rfl
 | .int i,_=>.ofE (nv i) rfl rfl rfl
 | .bool _,h | .bin _ _ _,h | .cmp _ _ _,h | .list _,h | .str _,h | .none,h | .neg _,h | .tup _,h | .edic,h | .comp _ _ _,h | .compif _ _ _ _,h | .sub _ _,h | .shi _ _,h | .rev _,h | .attr _ _,h | .bi1 _ _,h | .isi _ _,h | .call _ _,h | .sm _ _ _,h | .fig,h | .sat _ _,h | .ssl _ _ _,h=>PZ h
termination_by structural e=>e
variable (hXN:XN XP)
include hf hC hXN
mutual
theorem ay:∀ e:E,SimAll fns k C XP e
 | .name x=>.ofE (iA x) rfl rfl rfl
 | .int i=>.ofE (nv i) rfl rfl rfl
 | .str s=>.ofE (CG s) rfl rfl rfl
 | .bool b=>.ofE (yJ b) rfl rfl rfl
 | .none=>.ofE xt rfl rfl rfl
 | .bin o a b=>.ofE (BB hXP (ay a).e (ay b).e) rfl rfl rfl
 | .neg a=>.ofE (Bo (ay a).e) rfl rfl rfl
 | .not a=>.ofET (sd (ay a).e) (qj (ay a).t) rfl rfl
 | .cmp o a b=>.ofET (Cs hXP (ay a).e (ay b).e) (yp hXP (ay a).e (ay b).e) rfl rfl
 | .and a b=>lG hXP (ay a) (ay b)
 | .or a b=>oz hXP (ay a) (ay b)
 | .list es=>.ofE (y5 (jW es)) rfl rfl rfl
 | .tup es=>.ofE (BF (jW es)) rfl rfl rfl
 | .edic=>.ofE yw rfl rfl rfl
 | .comp elt x it=>.ofE (SimC.e (C:=C) (XP:=XP) (k:=k) (e:=.comp elt x it) hf hXN (qS (eP it) (ay elt).e)) rfl rfl rfl
 | .compif elt x it c=>.ofE (SimC.e (C:=C) (XP:=XP) (k:=k) (e:=.compif elt x it c) hf hXN (lX hXP (eP it) (ay elt).e (ay c).t)) rfl rfl rfl
 | .sm o a b=>.ofE (Db hXP (ay a).e (ay b).e) rfl rfl rfl
 | .fig=>.ofE BZ rfl rfl rfl
 | .sat a b=>.ofE (Ba hXP (ay a).e (ay b).e) rfl rfl rfl
 | .ssl lo a b=>.ofE (BH hXP (ay a).e (ay b).e) rfl rfl rfl
 | .sub a i=>.ofE (si hXP (ay a).e (ay i).e) rfl rfl rfl
 | .shi a i=>.ofE (A7 hXP (ay a).e (ay i).e) rfl rfl rfl
 | .rev a=>.ofE (Ca (ay a).e) rfl rfl rfl
 | .attr a n=>.ofE (yF (ay a).e) rfl rfl rfl
 | .bi1 f a=>.ofE (sf hf (ay a).e) rfl rfl rfl
 | .isi a t=>.ofE (Bd (ay a).e) rfl rfl rfl
 | .isE x t=>.ofE (sj λt g j h=>(hC t g j).2.1 h) rfl rfl rfl
 | .call f es=>.ofE (xY hf hC hXP (jW es)) rfl rfl rfl
termination_by structural e=>e
theorem jW:∀ es:Es,iD fns k C XP es
 | .nil=>wc
 | .cons e es=>tS hXP (ay e).e (jW es)
termination_by structural es=>es
theorem eP:∀ it:It,fe fns k C XP it
 | .e a=>Bp hf (ay a).e
 | .s a=>Bj hf (ay a).e
 | .r1 n=>xh hf (ay n).e
 | .r2 a b=>yY hf hXP (ay a).e (ay b).e
termination_by structural it=>it
end
theorem yE (e:E) (h:fA e=vj):SimC fns k C XP e:=by
 cases e with
 | comp elt x it=>exact qS (eP hf hC hXP hXN it) (ay hf hC hXP hXN elt).e
 | compif elt x it c=>exact lX hXP (eP hf hC hXP hXN it) (ay hf hC hXP hXN elt).e (ay hf hC hXP hXN c).t
 | _=>exact nF h
end
end
theorem jn {σ τ:St}{x:If}{v:V×Mode}{ns:uq If}(h:∀ y∈ns,σ y=τ y):∀ y∈ns,upd σ x v y=upd τ x v y:=by
 intro y g
 unfold upd
 split
 ·rfl
 ·exact h y g
mutual
theorem aw (C:Calls):∀ (e:E) (σ τ:St),(∀ y∈fv e,σ y=τ y)->ev C e σ=ev C e τ
 | .name x,σ,τ,h=>by simp only[dB]; rw[h x (by simp[eQ])]
 | .int _,_,_,_=>by simp only[eN]
 | .str _,_,_,_=>by simp only[sP]
 | .bool _,_,_,_=>by simp only[qq]
 | .none,_,_,_=>by simp only[rI]
 | .bin o a b,σ,τ,h=>by
  simp only[Cf,Op] at h
  simp only[mL]; rw[aw C a σ τ λy g=>h y (.inl g),aw C b σ τ λy g=>h y (.inr g)]
 | .neg a,σ,τ,h=>by simp only[Cn] at h; simp only[km]; rw[aw C a σ τ h]
 | .not a,σ,τ,h=>by simp only[B8] at h; simp only[hW]; rw[aw C a σ τ h]
 | .cmp o a b,σ,τ,h=>by
  simp only[Cr,Op] at h
  simp only[jZ]; rw[aw C a σ τ λy g=>h y (.inl g),aw C b σ τ λy g=>h y (.inr g)]
 | .and a b,σ,τ,h=>by
  simp only[Bx,Op] at h
  simp only[il]; rw[aw C a σ τ λy g=>h y (.inl g),aw C b σ τ λy g=>h y (.inr g)]
 | .or a b,σ,τ,h=>by
  simp only[C7,Op] at h
  simp only[jj]; rw[aw C a σ τ λy g=>h y (.inl g),aw C b σ τ λy g=>h y (.inr g)]
 | .list es,σ,τ,h=>by simp only[zg] at h; simp only[b8]; rw[gH C es σ τ h]
 | .tup es,σ,τ,h=>by simp only[Ck] at h; simp only[jP]; rw[gH C es σ τ h]
 | .edic,_,_,_=>by simp only[qd]
 | .comp elt x it,σ,τ,h=>by
  simp only[qa,Op] at h
  simp only[iP]
  rw[fM C it σ τ λy g=>h y (.inl g)]
  have e:∀ d,(ev C elt (upd σ x (mk (.d d))))=ev C elt (upd τ x (mk (.d d))):=λd=>aw C elt _ _ (jn λy g=>h y (.inr g))
  simp only[e]
 | .compif elt x it c,σ,τ,h=>by
  simp only[t7,Op] at h
  simp only[iF]
  rw[fM C it σ τ λy g=>h y (.inl g)]
  have e:∀ d,(ev C elt (upd σ x (mk (.d d))))=ev C elt (upd τ x (mk (.d d))):=λd=>aw C elt _ _ (jn λy g=>h y (.inr (.inr g)))
  have i:∀ d,(ev C c (upd σ x (mk (.d d))))=ev C c (upd τ x (mk (.d d))):=λd=>aw C c _ _ (jn λy g=>h y (.inr (.inl g)))
  simp only[e,i]
 | .sub a b,σ,τ,h=>by
  simp only[nG,Op] at h
  simp only[jX]; rw[aw C a σ τ λy g=>h y (.inl g),aw C b σ τ λy g=>h y (.inr g)]
 | .shi a b,σ,τ,h=>by
  simp only[BK,Op] at h
  simp only[nx]; rw[aw C a σ τ λy g=>h y (.inl g),aw C b σ τ λy g=>h y (.inr g)]
 | .rev a,σ,τ,h=>by simp only[Br] at h; simp only[jU]; rw[aw C a σ τ h]
 | .attr a n,σ,τ,h=>by simp only[w8] at h; simp only[lz]; rw[aw C a σ τ h]
 | .bi1 f a,σ,τ,h=>by simp only[mZ] at h; simp only[j7]; rw[aw C a σ τ h]
 | .isE x t,σ,τ,h=>by simp only[BQ] at h; simp only[nr]; rw[h x (.head _)]
 | .isi a t,σ,τ,h=>by simp only[BS] at h; simp only[nK]; rw[aw C a σ τ h]
 | .call f es,σ,τ,h=>by simp only[zf] at h; simp only[iM]; rw[gH C es σ τ h]
 | .fig,_,_,_=>by simp only[mY]
 | .sm o a b,σ,τ,h=>by
  simp only[Dx,Op] at h
  simp only[ip]; rw[aw C a σ τ λy g=>h y (.inl g),aw C b σ τ λy g=>h y (.inr g)]
 | .sat a b,σ,τ,h=>by
  simp only[Ct,Op] at h
  simp only[jL]; rw[aw C a σ τ λy g=>h y (.inl g),aw C b σ τ λy g=>h y (.inr g)]
 | .ssl lo a b,σ,τ,h=>by
  simp only[Bb,Op] at h
  simp only[fU]; rw[aw C a σ τ λy g=>h y (.inl g),aw C b σ τ λy g=>h y (.inr g)]
termination_by structural e=>e
theorem gH (C:Calls):∀ (es:Es) (σ τ:St),(∀ y∈fvs es,σ y=τ y)->evs C es σ=evs C es τ
 | .nil,_,_,_=>by simp only[bF]
 | .cons e es,σ,τ,h=>by
  simp only[wP,Op] at h
  simp only[bw]; rw[aw C e σ τ λy g=>h y (.inl g),gH C es σ τ λy g=>h y (.inr g)]
termination_by structural es=>es
theorem fM (C:Calls):∀ (it:It) (σ τ:St),(∀ y∈bD it,σ y=τ y)->be C it σ=be C it τ
 | .e a,σ,τ,h=>by simp only[fR] at h; simp only[ic]; rw[aw C a σ τ h]
 | .s a,σ,τ,h=>by simp only[A8] at h; simp only[nC]; rw[aw C a σ τ h]
 | .r1 a,σ,τ,h=>by simp only[xn] at h; simp only[gh]; rw[aw C a σ τ h]
 | .r2 a b,σ,τ,h=>by
  simp only[x6,Op] at h
  simp only[f8]; rw[aw C a σ τ λy g=>h y (.inl g),aw C b σ τ λy g=>h y (.inr g)]
termination_by structural it=>it
end
noncomputable def dC (σ:St) (ns:uq If):St:=λx=>if x∈ns then σ x else NI
theorem cP (σ:St) (ns:uq If):∀ y∈ns,dC σ ns y=σ y:=λy g=>by unfold dC; rw[NZ g]
theorem oC (hd:o.data = .dict es ep):(Xp name h key v o).isFreed=NY/\(Xp name h key v o).cls=o.cls:=by
 obtain ⟨c,d,g,sl⟩:=o
 subst hd
 unfold Xp
 dsimp only
 split<;>exact ⟨rfl,rfl⟩
theorem nQ {M:VA}{A:OI}{E:Lt->NU->Prop}{s:NU}{a:Oo}{m:Str->NX Lt}{name:Str}{v:Lt}{T:Lt}{Q:T6->NU->Prop}(hn:s.heap.Ns a m) (hc:∃ o,s.heap.get? a=ti o/\o.cls=T)
  (h:∀ h',h'.Ns a (λx=>if x=name then ti v else m x)->Pn a s.heap h'->(∃ o,h'.get? a=ti o/\o.cls=T)->Q () {s with heap:=h',toks:=s.toks+1 }):Og M A (nsSet a name v) Q E s:=by
 intro Γ p g
 have q:=Sem.wp_nsSet M Γ (λ_ _ _=>V1) p s hn name v (λ_ _ s'=>s'.heap.Ns a λx=>if x=name then ti v else m x) λh' hn' _=>hn'
 refine gw (hn) λo es ep ho hd hk hm=>?_
 refine ag (hc) λo' ho' hT=>?_
 rw[ho] at ho'
 have hany:es.any (·.refKey)=false:=by
  rw[Array.any_eq_false']; intro e he; obtain ⟨n,t,h⟩:=hk e he; simp[Jag,h]
 clear hn hc hm hk
 simp only[nsSet,strHash,Sem.wp_bind',Sem.wp_cmd_ask,Sem.wp_pure',Sem.wp_cmd_mkText] at q ⊢
 rw[Sem.wp_loadPart_of M Γ _ p {s with toks:=s.toks+1 } (o:=o) _ ho] at q ⊢
 simp only[hd,aRefKeyMayBeTheName_eq,aRefKeyMayBeTheNameByArray,hany,Bool.and_false,OL,PA,Sem.wp_cmd_updatePart] at q ⊢
 exact ⟨q.1,h _ q.2 (PO ..) (ah _ (PQ _ ho (oC hd).1) ((oC hd).2.trans ((PG Obj.cls (Gt ho')).trans hT)))⟩
structure Loc (env:Env) (Z:Oo->Prop) (h:O2) (vals:If->NX Lt):Prop where
 cls:∃ o,h.get? env.locals=ti o/\o.cls = .type "frame"
 ns:∃ m,h.Ns env.locals m/\∀ x v,vals x=ti v->env.kindOf (oD x)=ti .local->m (oD x)=ti v
 nz:¬ Z env.locals
 cell:∀ n c,env.kindOf n=ti .cell->env.cells.lookup n=ti c->c≠env.locals/\¬ Z c/\∃ v,h.IsCell c v
 cval:∀ x v c,vals x=ti v->env.kindOf (oD x)=ti .cell->env.cells.lookup (oD x)=ti c->h.IsCell c (ti v)
 apart:∀ n n' c,env.cells.lookup n=ti c->env.cells.lookup n' = ti c->n=n'
 kinds:∀ x v,vals x=ti v->env.kindOf (oD x)=ti .local\/env.kindOf (oD x)=ti .cell
noncomputable def gj (vals:If->NX Lt) (x:If) (v:Lt):If->NX Value:=λy=>if y=x then ti v else vals y
noncomputable def Spo (env:Env) (a:Oo):Prop:=a=env.locals\/∃ n,env.kindOf n=ti .cell/\env.cells.lookup n=ti a
section
theorem Loc.at (L:Loc env Z h vals) (t:Spo env a):¬ Z a/\∃ o,h.get? a=ti o/\∀ vs n,o.data≠.seq vs n :=
 t.elim (λq=>q▸⟨L.nz,ag L.ns λm j _=>aX j λo r u e g _=>(ah o e (λuu uu q=>by rw[g] at q; cases q))⟩) λx=>ag x λn p l=>aK (L.cell n a p l) λ_ k i=>au i λv o e g=>⟨k,(ah o e (λuu uu q=>by rw[g] at q; cases q))⟩
theorem Loc.nostay (L:Loc env Z h vals) (t:Spo env a) (o:Obj) (e:h.get? a=ti o):¬ Stay o :=
 ag (L.at t).2 λj i g=>Stay.not_data (Gt (i.symm.trans e)▸g)
theorem Loc.onG {env:Env}{Z G:Oo->Prop}{h h':O2}{vals:If->NX Lt}(L:Loc env Z h vals) (kp:KG G h h') (g:∀ a,Spo env a->G a):Loc env Z h' vals where
 cls:=ag (L.cls) λo e c=>ar (kp.dataG (.inl (g _ (.inl rfl))) e) λj r _ q=>(ah j r (q.trans c))
 ns:=ag (L.ns) λm a b=>(ah m (zo kp (g _ (.inl rfl)) a) b)
 nz:=L.nz
 cell:=λn c a b=>aK (L.cell n c a b) λp l i=>al i λv k=>(cF p l (cE v (nA kp (g _ (.inr (ah n a b))) k)))
 cval:=λx v c a b d=>nA kp (g _ (.inr (ah _ b d))) (L.cval x v c a b d)
 apart:=L.apart
 kinds:=L.kinds
theorem Loc.var (L:Loc env Z h vals) (eok:EnvOk env) (hv:vals x=ti v):VarIs h env (oD x) v:=by
 rcases L.kinds x v hv with hk | hk
 ·refine ag (L.ns) λm a b=>?_
  exact .loc m hk a (b x v hv hk)
 ·refine al (eok.cells _ (.inl hk)) λc g=>?_
  exact .cell c (.inl hk) g (L.cval x v c hv hk g)
theorem Loc.store (L:Loc env Z s.heap vals) (eok:EnvOk env)
  (hx:env.kindOf (oD x)=ti .local\/env.kindOf (oD x)=ti .cell)
  (hQ:∀ T h' tk,Pn T s.heap h'->Spo env T->Loc env Z h' (gj vals x v)->Q () {s with heap:=h',toks:=tk }):Og (Ok prog w) A (Xk env (oD x) v) Q Er s:=by
 have inj:∀ y,oD y=oD x->y=x:=λy e=>dt e
 have kinds':∀ y u,gj vals x v y=ti u->env.kindOf (oD y)=ti .local\/env.kindOf (oD y)=ti .cell:=λy u hu=>by
  unfold gj at hu
  split at hu
  ·rename_i e; (clear hQ inj; subst e); exact hx
  ·exact L.kinds y u hu
 refine ag (L.ns) λm hm hmv=>?_
 rcases hx with hk | hk
 ·rw[XM hk (by rw[eok.kind]; rfl)]
  refine nQ hm L.cls (λh' hn hs hcl=>hQ env.locals h' _ hs (.inl rfl) ?_)
  refine ⟨hcl,(ah _ hn (λy u hu hky=>?_)),L.nz,λn c hkn hc=>?_,λy u c hu hky hc=>?_,L.apart,kinds'⟩
  ·unfold gj at hu
   split at hu
   ·rename_i e; (clear hQ hk hn inj kinds'; subst e); (have oc:=Gt hu; clear hu; subst oc); simp
   ·rename_i e
    rw[N0 λq=>e (inj y q)]
    exact hmv y u hu hky
  ·refine aK (L.cell n c hkn hc) λh1 h2 Nu=>?_
   refine au (Nu) λu o h3 h4=>?_
   clear Nu
   exact (cF h1 h2 (aC u o (hs.extBut c o h1 h3) h4))
  ·unfold gj at hu
   split at hu
   ·rename_i e; (clear hQ hn inj kinds'; subst e); rw[hk] at hky; cases hky
   ·refine ae (L.cell _ c hky hc) λh1 _=>?_
    refine ag (L.cval y u c hu hky hc) λo h3 h4=>?_
    exact (ah o (hs.extBut c o h1 h3) h4)
 ·refine al (eok.cells _ (.inl hk)) λg hco=>?_
  refine aK (L.cell _ g hk hco) λh1 h2 Np=>?_
  refine al (Np) λh h3=>?_
  clear Np
  refine Tt eok.kind hk hco h3 λh' hn hs=>hQ g h' s.toks hs (.inr (ah _ hk hco)) ?_
  refine ⟨(ag (L.cls) λo e c=>(ah o (hs.extBut _ o (PT h1) e) c)),(ah m (hm.sameBut hs (PT h1)) (λy u hu hky=>?_)),L.nz,λn c hkn hc=>?_,λy u c hu hky hc=>?_,L.apart,kinds'⟩
  ·unfold gj at hu
   split at hu
   ·rename_i e; (clear hQ hco inj kinds'; subst e); rw[hk] at hky; cases hky
   ·exact hmv y u hu hky
  ·refine aK (L.cell n c hkn hc) λg1 g2 MP=>?_
   refine au (MP) λu o g3 g4=>?_
   clear MP
   by_cases e:c=g
   ·(clear h1 h2 h3 hco hs; subst e); exact (cF g1 g2 (cE _ hn))
   ·exact (cF g1 g2 (aC u o (hs.extBut c o e g3) g4))
  ·unfold gj at hu
   split at hu
   ·rename_i e; (clear hQ hk inj kinds'; subst e); (have oc:=Gt hu; clear hu; subst oc)
    rw[hco] at hc; (have oc:=Gt hc; clear hc; subst oc)
    exact hn
   ·rename_i e
    refine ag (L.cval y u c hu hky hc) λo g3 g4=>?_
    refine (ah o (hs.extBut c o (λq=>?_) g3) g4)
    (clear h1 h2 h3 hn hs; subst q)
    exact e (inj y (L.apart _ _ c hc hco))
end
section
variable (fns:Fns) (k:N7)
structure SOK (h0:O2) (P Z:Oo->Prop) (A:OI) (env:Env) (h:O2) (σ:St) (vals:If->NX Lt) (fp:If->uq Oo):Prop where
 room:Room fns.hand k A
 eok:EnvOk env
 ge:GE fns h0
 z0:∀ b o,h0.get? b=ti o->Z b
 kp0:K h0 h
 out:fns.hand=NY->∃ l,A.frames=ti (env::l)/\FrOk h0 l/\env.frame=ti env.locals/\¬ SF.old env.locals
 zdom:∀ b,Z b->∃ o,h.get? b=ti o
 loc:Loc env Z h vals
 val:∀ x p,σ x=ti p->varK env.scope.names x=vj/\∃ v,vals x=ti v/\RV h v p.1 (fp x)/\∀ a∈fp x,¬ Spo env a/\(P a\/h0.get? a=NI)
 top:∀ x p,σ x=ti p->p.2 = .top->∃ a bs,fp x=a::bs/\¬ Z a/\a∉bs/\∀ y q,y≠x->σ y=ti q->a∉fp y
 deep:∀ x p,σ x=ti p->p.2 = .deep->(∀ a∈fp x,¬ Z a/\∀ y q,y≠x->σ y=ti q->a∉fp y)/\(fp x).Nodup
noncomputable def Stp (Z:Oo->Prop) (s s':NU):Prop:=∃ h' tk,s' = {s with heap:=h',toks:=tk }/\KG Z s.heap h'
noncomputable def mM (h0:O2) (P:Oo->Prop) (r:V×Mode) (v:Lt) (s':NU):Prop :=
 ∃ as,RV s'.heap v r.1 as/\(∀ a∈as,P a\/h0.get? a=NI)/\(r.2 = .top->∃ a bs,as=a::bs/\h0.get? a=NI/\a∉bs)/\(r.2 = .deep->(∀ a∈as,h0.get? a=NI)/\as.Nodup)
end
theorem Stp.refl (Z:Oo->Prop) (s:NU):Stp Z s s:=(aC s.heap s.toks rfl KG.refl)
theorem Stp.trans (a:Stp Z s s₁) (b:Stp Z s₁ n):Stp Z s n:=by
 refine au (a) λh t i k=>?_
 clear a
 subst i
 refine au (b) λm j g l=>?_
 clear b
 subst g
 exact (aC m j rfl (k.trans l))
theorem Kp.stp (a:Kp s s₁):Stp Z s s₁:=by
 refine au (a) λh t g k=>?_
 clear a
 subst g
 exact (aC h t rfl (k.mono λuu uu=>trivial))
theorem Stp.mono (a:Stp Z' s s₁) (h:∀ b,Z b->Z' b):Stp Z s s₁:=by
 refine au (a) λi t g k=>?_
 clear a
 subst g
 exact (aC i t rfl (k.mono h))
theorem Stp.same (st:Stp Z s s₁) (hs:Pn a s₁.heap h') (hz:¬ Z a) (hn:∀ o,s₁.heap.get? a=ti o->¬ Stay o):Stp Z s {s₁ with heap:=h',toks:=tk }:=by
 refine au (st) λh t g k=>?_
 clear st
 subst g
 exact (aC h' tk rfl (k.trans (KG.same hs hz hn)))
section
variable {h0:O2}{P Z:Oo->Prop}{A:OI}{env:Env}{h h':O2}{σ:St}{vals:If->NX Lt}{fp:If->uq Oo}
theorem SOK.onG {G:Oo->Prop}(K:SOK fns k h0 P Z A env h σ vals fp) (kp:KG G h h') (g0:∀ b o,h0.get? b=ti o->G b) (gz:∀ b,Z b->∃ o,h'.get? b=ti o) (gs:∀ a,Spo env a->G a) (gf:∀ y q,σ y=ti q->∀ a∈fp y,G a):SOK fns k h0 P Z A env h' σ vals fp where
 room:=K.room
 eok:=K.eok
 ge:=K.ge
 z0:=K.z0
 kp0:=Internal.K.step K.kp0 kp g0
 out:=K.out
 zdom:=gz
 loc:=K.loc.onG kp gs
 val:=λx p g=>ae (K.val x p g) λa i=>ar i λv b c d=>(aM a (aG v b (c.onG kp (gf x p g)) d))
 top:=K.top
 deep:=K.deep
theorem SOK.onK (K:SOK fns k h0 P Z A env h σ vals fp) (kp:KG (λuu=>V1) h h'):SOK fns k h0 P Z A env h' σ vals fp :=
 K.onG kp (λuu uu uu=>trivial) (λb g=>al (K.zdom b g) λuu e=>Internal.K.there kp e) (λuu uu=>trivial) λuu uu uu uu uu=>trivial
theorem SOK.h0n (K:SOK fns k h0 P Z A env h σ vals fp) (ha:¬ Z a):h0.get? a=none:=by
 cases q:h0.get? a with
 | none=>rfl
 | some o=>exact N5 (K.z0 a o q) ha
theorem SOK.nz (K:SOK fns k h0 P Z A env h σ vals fp) (e:h.get? a=NI):¬ Z a:=λg=>al (K.zdom a g) λo i=>nN (e.symm.trans i)
theorem SOK.nf (K:SOK fns k h0 P Z A env h σ vals fp) (e:h.get? a=NI) (hq:σ y=ti q):a∉fp y:=λi=>ar (K.val y q hq).2 λu _ g _=>al (g.there a i) λo j=>nN (e.symm.trans j)
theorem SOK.new (K:SOK fns k h0 P Z A env h σ vals fp) (e:h.get? a=NI):¬ Spo env a/\(P a\/h0.get? a=NI):=⟨λt=>ag (K.loc.at t).2 λo g _=>nN (e.symm.trans g),.inr (K.h0n (K.nz e))⟩
theorem SOK.same (K:SOK fns k h0 P Z A env h σ vals fp) (hs:Pn T h h') (hz:¬ Z T) (hn:∀ o,h.get? T=ti o->¬ Stay o) (hS:¬ Spo env T) (hf:∀ y q,σ y=ti q->T∉fp y):SOK fns k h0 P Z A env h' σ vals fp :=
 K.onG (KG.same hs (G:=λb=>b≠T) (λq=>q rfl) hn) (λb o e q=>hz (q▸K.z0 b o e)) (λb g=>al (K.zdom b g) λo e=>⟨o,hs.extBut b o (λq=>hz (q▸g)) e⟩) (λa h q=>hS (q▸h)) λy q i a j e=>hf y q i (e▸j)
theorem jN (h:(mk v).2 = .deep):nu v=true:=by
 unfold mk at h; dsimp only at h
 split at h
 ·assumption
 ·cases h
theorem lB:(mk v).2≠.top:=by
 unfold mk; dsimp only; split<;>simp
theorem RV.scal_nil (r:RV h v x as) (hs:nu x=vj):as=[]:=by
 cases x with
 | d x=>exact r.1.sx_nil hs
 | _=>exact nF hs
theorem c7 (h:demote σ ns x=ti p):∃ q,σ x=ti q/\p.1=q.1/\((x∈ns/\p=mk q.1)\/(x∉ns/\p=q)):=by
 unfold demote at h
 split at h
 ·refine b9 h λq i g=>?_
  subst g
  exact (aG q i rfl (.inl ⟨by assumption,rfl⟩))
 ·exact (aG p h rfl (.inr ⟨by assumption,rfl⟩))
theorem iO {σ:St}{ns:uq If}{x:If}{p:V×Mode}{G:Prop}(h:demote σ ns x=ti p) (k:∀ q,σ x=ti q->p.1=q.1->((x∈ns/\p=mk q.1)\/(x∉ns/\p=q))->G):G:=ar (c7 h) k
theorem SOK.demote (K:SOK fns k h0 P Z A env h σ vals fp) (ns:uq If):SOK fns k h0 P Z A env h (demote σ ns) vals fp where
 room:=K.room
 eok:=K.eok
 ge:=K.ge
 z0:=K.z0
 kp0:=K.kp0
 out:=K.out
 zdom:=K.zdom
 loc:=K.loc
 val:=λx p m=>by
  refine iO m λq j e _=>?_
  rw[e]
  exact K.val x q j
 top:=λx p m ht=>by
  refine iO m λq j e u=>?_
  rcases u with ⟨_,rfl⟩ | ⟨_,rfl⟩
  ·exact N5 ht lB
  ·refine ce (K.top x p j ht) λa bs n z h3 h4=>?_
   refine (bJ a bs n z h3 (λy r t l=>?_))
   refine ag (c7 l) λo i _=>?_
   exact h4 y o t i
 deep:=λx p m hd=>by
  refine iO m λq j e u=>?_
  rcases u with ⟨_,rfl⟩ | ⟨_,rfl⟩
  ·refine ae (K.val x q j) λuu g=>?_
   refine ar (g) λv _ l _=>?_
   clear g
   rw[l.scal_nil (jN hd)]
   exact ⟨λuu h=>(nomatch h),.nil⟩
  ·refine ae (K.deep x p j hd) λn z=>?_
   refine ⟨λa ha=>⟨(n a ha).1,λy r t l=>?_⟩,z⟩
   refine ag (c7 l) λo i _=>?_
   exact (n a ha).2 y o t i
theorem SOK.consume (K:SOK fns k h0 P Z A env h σ vals fp) (ns:uq If) (m:Mode):SOK fns k h0 P Z A env h (consume σ ns m) vals fp:=by
 unfold Internal.consume
 split
 ·exact K
 ·exact K.demote ns
noncomputable def Own (σ:St) (fp:If->uq Oo) (ns:uq If) (a:Oo):Prop:=∃ y q,y∈ns/\σ y=ti q/\a∈fp y
theorem Loc.frm (L:Loc env Z h vals) (eok:EnvOk env) (h2:FrOk h l) (h3:env.frame=ti env.locals) (h4:¬ SF.old env.locals):FrOk h (env::l):=λg j=>
 (Ou.mp j).elim (λq=>q▸ag L.ns λm x _=>aX x λo k n i t _=>ag L.cls λu r p=>(aM eok.kind (mq _ _ k n h3 h4 i (Gt (r.symm.trans i)▸p) t))) (h2 g)
theorem SOK.cx {s:NU}(K:SOK fns k h0 P Z A env s.heap σ vals fp) (ns:uq If):Cx fns k A (Own σ fp ns) s.heap env (dC σ ns) where
 room:=K.room
 eok:=K.eok
 ge:=K.ge.k K.kp0
 frm:=λe=>cg (K.out e) λl r q o n=>(aQ env l r (K.loc.frm K.eok (q.k K.kp0) o n) rfl)
 vars:=λx p h _=>by
  unfold dC at h
  split at h
  ·refine ae (K.val x p h) λuu g=>?_
   refine ar (g) λv i j _=>?_
   clear g
   exact (aQ v (fp x) (K.loc.var K.eok i) j (λa m=>(aQ x p ‹_› h m)))
  ·exact nN h
theorem SOK.eval (K:SOK fns k h0 P Z A env s.heap σ vals fp) (S:SimE fns k C XP e) (ok:okE env.scope.names e exx=vj) (he:ev C e σ = .ok r)
  (hQ:∀ v s',EP (Own σ fp (fv e)) s r v s'->Q v s'):Og (Ok prog w) A (eval exx env) Q Er s:=by
 have h:ev C e (dC σ (fv e)) = .ok r:=by rw[aw C e _ σ (cP σ (fv e))]; exact he
 exact S ok (K.cx (fv e)) (by rw[h]; simp) (λl g v s' E=>by rw[h] at g; (have j:=Out.ok.inj g; clear g; subst j); exact hQ v s' E) λc i=>by rw[h] at i; cases i
theorem SOK.evalT (K:SOK fns k h0 P Z A env s.heap σ vals fp) (S:SimT fns k C XP e) (ok:okE env.scope.names e exx=vj) (he:((ev C e σ).bind λr=>aq r.1) = .ok b)
  (hQ:∀ s',Kp s s'->Q b s'):Og (Ok prog w) A (isTrue exx env (Wv exx env)) Q Er s:=by
 have h:ev C e (dC σ (fv e))=ev C e σ:=aw C e _ σ (cP σ (fv e))
 refine S ok (K.cx (fv e)) (by rw[h,he]; simp) (λm g s' l=>by rw[h,he] at g; (have j:=Out.ok.inj g; clear g; subst j); exact hQ s' l) λc i=>?_
 rw[h] at i; rw[i] at he; exact nE he
theorem SOK.own (K:SOK fns k h0 P Z A env h σ vals fp) (ha:Own σ fp ns a\/h.get? a=NI):¬ Spo env a/\(P a\/h0.get? a=NI) :=
 ha.elim (λx=>aA x λy q _ i g=>ar (K.val y q i).2 λv _ _ j=>j a g) K.new
noncomputable def Frm (Z:Oo->Prop) (xs:uq If) (σ:St) (vals:If->NX Lt) (fp:If->uq Oo) (σ':St) (vals':If->NX Lt) (fp':If->uq Oo):Prop :=
 (∀ y,y∉xs->vals' y=vals y/\fp' y=fp y)/\∀ b,Z b->(∀ z q,σ z=ti q->b∉fp z)->∀ z q,σ' z=ti q->b∉fp' z
section
variable {xs ys:uq If}{σ₁ σ₂:St}{vals₁ vals₂:If->NX Lt}{fp₁ fp₂:If->uq Oo}{Z':Oo->Prop}
theorem Frm.id (h:∀ z q,σ₁ z=ti q->∃ q',σ z=ti q'):Frm Z xs σ vals fp σ₁ vals fp :=
 ⟨λuu uu=>⟨rfl,rfl⟩,λb _ j z q i=>al (h z q i) λq' g=>j z q' g⟩
theorem Frm.more (f:Frm Z xs σ vals fp σ₁ vals₁ fp₁) (h:∀ y∈xs,y∈ys):Frm Z ys σ vals fp σ₁ vals₁ fp₁:=⟨λy g=>f.1 y λq=>g (h y q),f.2⟩
theorem Frm.trans (f:Frm Z xs σ vals fp σ₁ vals₁ fp₁) (g:Frm Z ys σ₁ vals₁ fp₁ σ₂ vals₂ fp₂):Frm Z (xs++ys) σ vals fp σ₂ vals₂ fp₂ :=
 ⟨λy i=>let a:=f.1 y λq=>i (OV _ q); let b:=g.1 y λq=>i (OU _ q); ⟨b.1.trans a.1,b.2.trans a.2⟩,λb h j=>g.2 b h (f.2 b h j)⟩
theorem Frm.less (f:Frm Z' xs σ vals fp σ₁ vals₁ fp₁) (h:∀ b,Z b->Z' b):Frm Z xs σ vals fp σ₁ vals₁ fp₁:=⟨f.1,λb g=>f.2 b (h b g)⟩
theorem Frm.one (hv:∀ y,y≠x->vals₁ y=vals y) (h:∀ z q,σ₁ z=ti q->∃ q',σ z=ti q') (ha:∀ b∈as,Z b->∃ z q,σ z=ti q/\b∈fp z) :
  Frm Z [x] σ vals fp (upd σ₁ x r) vals₁ (λy=>if y=x then as else fp y):=by
 refine ⟨λy l=>⟨hv y λq=>l (by simp[q]),N0 λq=>l (by simp[q])⟩,λb o m z q j g=>?_⟩
 unfold upd at j
 dsimp only at g
 by_cases e:z=x
 ·have k:b∈as:=by rwa [NZ e] at g
  refine au (ha b k o) λn q' t p=>?_
  exact m n q' t p
 ·rw[N0 e] at j g
  refine al (h z q j) λq' i=>?_
  exact m z q' i g
end
theorem cL (hq:Internal.consume σ ns m y=ti q):∃ q',σ y=ti q':=by
 unfold Internal.consume at hq
 split at hq
 ·exact ⟨q,hq⟩
 ·obtain ⟨q',g,_⟩:=c7 hq; exact ⟨q',g⟩
theorem jM {σ:St}{x y:If}{r p:V×Mode}{G:Prop}(h:upd σ x r y=ti p) (h1:y=x->r=p->G) (h2:y≠x->σ y=ti p->G):G:=by
 unfold upd at h
 by_cases e:y=x
 ·rw[NZ e] at h; exact h1 e (Gt h)
 ·rw[N0 e] at h; exact h2 e h
theorem SOK.bind (K:SOK fns k h0 P Z A env h σ vals fp) (hs:Pn T h h') (hz:¬ Z T) (hn:∀ o,h.get? T=ti o->¬ Stay o) (L:Loc env Z h' vals') (gf:∀ y q,y≠x->σ y=ti q->T∉fp y) (hv:∀ y,y≠x->vals' y=vals y)
  (hvk:varK env.scope.names x=vj) (hx:vals' x=ti v) (rv:RV h' v r.1 as) (ha:∀ a∈as,¬ Spo env a/\(P a\/h0.get? a=NI))
  (ht:r.2 = .top->∃ a bs,as=a::bs/\¬ Z a/\a∉bs/\∀ y q,y≠x->σ y=ti q->a∉fp y) (hd:r.2 = .deep->(∀ a∈as,¬ Z a/\∀ y q,y≠x->σ y=ti q->a∉fp y)/\as.Nodup)
  (hdis:∀ y q,y≠x->σ y=ti q->(q.2 = .top->∀ a bs,fp y=a::bs->a∉as)/\(q.2 = .deep->∀ a∈fp y,a∉as)):SOK fns k h0 P Z A env h' (upd σ x r) vals' (λy=>if y=x then as else fp y):=by
 have m:∀ a y,(y≠x->a∉as)->(∀ z q,z≠y->σ z=ti q->a∉fp z)->∀ z q,z≠y->upd σ x r z=ti q->a∉(if z=x then as else fp z):=λa y j l z q hz hq hm=>
  jM hq (λe _=>by rw[NZ e] at hm; exact j (λq=>hz (e.trans q.symm)) hm) λe hq=>by rw[N0 e] at hm; exact l z q hz hq hm
 have kp:KG (λb=>b≠T) h h':=KG.same hs (λq=>q rfl) hn
 refine ⟨K.room,K.eok,K.ge,K.z0,Internal.K.step K.kp0 kp λb o e q=>hz (q▸K.z0 b o e),K.out,λb hb=>al (K.zdom b hb) λo e=>⟨o,hs.extBut b o (λq=>hz (q▸hb)) e⟩,L,λy p i=>?_,λy p i g=>?_,λy p i g=>?_⟩
 ·refine jM i (λe e2=>?_) λe i=>?_
  ·rw[NZ e,e,<- e2]
   exact (aM hvk (aG v hx rv ha))
  ·rw[N0 e]
   exact ae (K.val y p i) λj ow=>ar ow λu l t n=>(aM j (aG u ((hv y e).trans l) (t.onG kp λa ha q=>gf y p e i (q▸ha)) n))
 ·refine jM i (λe e2=>?_) λe i=>?_
  ·rw[NZ e,e]
   exact ce (ht (e2▸g)) λa bs j l t n=>(bJ a bs j l t (m a x (N5 rfl) n))
  ·rw[N0 e]
   exact ce (K.top y p i g) λa bs j l t n=>(bJ a bs j l t (m a y (λuu=>(hdis y p e i).1 g a bs j) n))
 ·refine jM i (λe e2=>?_) λe i=>?_
  ·rw[NZ e,e]
   exact ae (hd (e2▸g)) λj l=>⟨λa ha=>⟨(j a ha).1,m a x (N5 rfl) (j a ha).2⟩,l⟩
  ·rw[N0 e]
   exact ae (K.deep y p i g) λj l=>⟨λa ha=>⟨(j a ha).1,m a y (λuu=>(hdis y p e i).2 g a ha) (j a ha).2⟩,l⟩
theorem SOK.put (K:SOK fns k h0 P Z A env s.heap σ vals fp)
  (hvk:varK env.scope.names x=vj) (hk:env.kindOf (oD x)=ti .local\/env.kindOf (oD x)=ti .cell)
  (rv:RV s.heap v r.1 as) (ha:∀ a∈as,¬ Spo env a/\(P a\/h0.get? a=NI))
  (ht:r.2 = .top->∃ a bs,as=a::bs/\¬ Z a/\a∉bs/\∀ y q,y≠x->σ y=ti q->a∉fp y) (hd:r.2 = .deep->(∀ a∈as,¬ Z a/\∀ y q,y≠x->σ y=ti q->a∉fp y)/\as.Nodup)
  (hdis:∀ y q,y≠x->σ y=ti q->(q.2 = .top->∀ a bs,fp y=a::bs->a∉as)/\(q.2 = .deep->∀ a∈fp y,a∉as))
  (hQ:∀ s',Stp Z s s'->(∀ b o,¬ Spo env b->s.heap.get? b=ti o->s'.heap.get? b=ti o)->SOK fns k h0 P Z A env s'.heap (upd σ x r) (gj vals x v) (λy=>if y=x then as else fp y)->Q () s'):Og (Ok prog w) A (Xk env (oD x) v) Q Er s :=
 K.loc.store K.eok hk λT u t i g L=>hQ _ ((Stp.refl Z s).same i (K.loc.at g).1 (K.loc.nostay g)) (λb o n e=>i.extBut b o (λq=>n (q▸g)) e)
  (K.bind i (K.loc.at g).1 (K.loc.nostay g) L (λy q _ l m=>ar (K.val y q l).2 λ_ _ _ p=>(p T m).1 g) (λy j=>N0 j) hvk (NZ rfl) (rv.onG (KG.same i (G:=λb=>b≠T) (λq=>q rfl) (K.loc.nostay g)) λa h q=>(ha a h).1 (q▸g)) ha ht hd hdis)
theorem SOK.excl {ns:uq If}{m:Mode}{F:uq Oo}(K:SOK fns k h0 P Z A env h σ vals fp) (ha:∀ a∈F,Own σ fp ns a\/h.get? a=NI) (hd:m = .deep->∀ a∈F,h.get? a=NI) (y:If) (q:V×Mode) (hq:Internal.consume σ ns m y=ti q) :
  (q.2 = .top->∀ a bs,fp y=a::bs->a∉F)/\(q.2 = .deep->∀ a∈fp y,a∉F):=by
 unfold Internal.consume at hq
 by_cases hdp:m = .deep
 ·rw[NZ hdp] at hq
  exact ⟨λuu a bs e hm=>K.nf (hd hdp a hm) hq (by rw[e]; exact .head _),λuu a ha' hm=>K.nf (hd hdp a hm) hq ha'⟩
 ·rw[N0 hdp] at hq
  refine iO hq λq' hq' e1 hc=>hc.elim (λhc=>?_) λhc=>?_
  ·rw[hc.2]
   refine ⟨λh=>N5 h lB,λh a ha'=>?_⟩
   exact ar (K.val y q' hq').2 λu _ hr _=>by rw[hr.scal_nil (jN h)] at ha'; cases ha'
  ·rw[hc.2]
   refine ⟨λh a bs e hm=>(ha a hm).elim (λx=>?_) λh1=>K.nf h1 hq' (by rw[e]; exact .head _),λh a ha' hm=>(ha a hm).elim (λx=>?_) λh1=>K.nf h1 hq' ha'⟩
   ·refine aA x λz p hz hp hf=>ce (K.top y q' hq' h) λa' bs' e' _ _ h4=>?_
    rw[(PS (e.symm.trans e')).1] at hf
    exact h4 z p (λq=>hc.1 (q▸hz)) hp hf
   ·exact aA x λz p hz hp hf=>((K.deep y q' hq' h).1 a ha').2 z p (λq=>hc.1 (q▸hz)) hp hf
theorem SOK.put_ep (K:SOK fns k h0 P Z A env s.heap σ vals fp)
  (hvk:varK env.scope.names x=vj) (hk:env.kindOf (oD x)=ti .local\/env.kindOf (oD x)=ti .cell) (E:EP (Own σ fp ns) s r v s₁)
  (hQ:∀ s' as,RV s₁.heap v r.1 as->Stp Z s₁ s'->(∀ b o,¬ Spo env b->s₁.heap.get? b=ti o->s'.heap.get? b=ti o)->SOK fns k h0 P Z A env s'.heap (upd (Internal.consume σ ns r.2) x r) (gj vals x v) (λy=>if y=x then as else fp y)->Frm Z [x] σ vals fp (upd (Internal.consume σ ns r.2) x r) (gj vals x v) (λy=>if y=x then as else fp y)->Q () s'):Og (Ok prog w) A (Xk env (oD x) v) Q Er s₁:=by
 obtain ⟨kp,as,t,p,ht,u⟩:=E
 have nf:∀ a,s.heap.get? a=NI->∀ y q,y≠x->Internal.consume σ ns r.2 y=ti q->a∉fp y:=λa e y q _ m=>al (cL m) λq' n=>K.nf e n
 exact ((K.onK kp.k).consume ns r.2).put hvk hk t (λa h=>K.own (p a h)) (λl=>aA (ht l) λa bs j i h3=>(bJ a bs j (K.nz i) h3 (nf a i)))
  (λg=>ae (u g) λj i=>⟨λa h=>⟨K.nz (j a h),nf a (j a h)⟩,i⟩) (λy q _ m=>K.excl p (λh=>(u h).1) y q m)
  λs' st kk K'=>hQ s' as t st kk K' (.one (λy hy=>N0 hy) (λz q m=>cL m) λb hb hz=>(p b hb).elim (λx=>aA x λy q _ j i=>(aC y q j i)) λe=>N5 hz (K.nz e))
theorem SOK.freeze (K:SOK fns k h0 P Z A env h σ vals fp) {G:Oo->Prop}(hdom:∀ b,G b->∃ o,h.get? b=ti o) (hS:∀ a,Spo env a->¬ G a)
  (ht:∀ x p,σ x=ti p->p.2 = .top->∀ a bs,fp x=a::bs->¬ G a) (hd:∀ x p,σ x=ti p->p.2 = .deep->∀ a∈fp x,¬ G a):SOK fns k h0 P (λb=>Z b\/G b) A env h σ vals fp where
 room:=K.room
 eok:=K.eok
 ge:=K.ge
 z0:=λb o e=>.inl (K.z0 b o e)
 kp0:=K.kp0
 out:=K.out
 zdom:=λb t=>t.elim (K.zdom b) (hdom b)
 loc:={K.loc with
  nz:=λq=>q.elim K.loc.nz (hS _ (.inl rfl))
  cell:=λn c a b=>aK (K.loc.cell n c a b) λg l r=>(cF g (λq=>q.elim l (hS _ (.inr (ah n a b)))) r) }
 val:=K.val
 top:=λx p j i=>by
  refine ce (K.top x p j i) λa bs g l r u=>?_
  exact (bJ a bs g (λq=>q.elim l (ht x p j i a bs g)) r u)
 deep:=λx p j i=>by
  refine ae (K.deep x p j i) λg l=>?_
  exact ⟨λa m=>⟨λq=>q.elim (g a m).1 (hd x p j i a m),(g a m).2⟩,l⟩
theorem SOK.thaw {Z':Oo->Prop}(K:SOK fns k h0 P Z' A env h σ vals fp) (hz:∀ b,Z b->Z' b) (h0z:∀ b o,h0.get? b=ti o->Z b):SOK fns k h0 P Z A env h σ vals fp where
 room:=K.room
 eok:=K.eok
 ge:=K.ge
 z0:=h0z
 kp0:=K.kp0
 out:=K.out
 zdom:=λb t=>K.zdom b (hz b t)
 loc:={K.loc with
  nz:=λq=>K.loc.nz (hz _ q)
  cell:=λn c a b=>by
   refine aK (K.loc.cell n c a b) λg i m=>?_
   exact ⟨g,λq=>i (hz _ q),m⟩ }
 val:=K.val
 top:=λx p l j=>by
  refine ce (K.top x p l j) λa v g i m u=>?_
  exact (bJ a v g (λq=>i (hz _ q)) m u)
 deep:=λx p l j=>by
  refine ae (K.deep x p l j) λg i=>?_
  exact ⟨λa r=>⟨λq=>(g a r).1 (hz _ q),(g a r).2⟩,i⟩
end
section
theorem SOK.write (K:SOK fns k h0 P Z A env h σ vals fp) (hp:σ x=ti p) (hval:vals x=ti (.ref a)) (ho:h.get? a=ti o) (hst:¬ Stay o)
  (hnz:¬ Z a) (hne:∀ y q,y≠x->σ y=ti q->a∉fp y) (haL:¬ Spo env a/\(P a\/h0.get? a=NI)) (hs:Pn a h h') (rv:RV h' (.ref a) v' (a::bs')) (hb:∀ b∈bs',¬ Spo env b/\(P b\/h0.get? b=NI))
  (ht:m' = .top->a∉bs') (hd:m' = .deep->(∀ b∈bs',¬ Z b/\∀ y q,y≠x->σ y=ti q->b∉fp y)/\(a::bs').Nodup)
  (hdis:∀ y q,y≠x->σ y=ti q->(q.2 = .top->∀ b cs,fp y=b::cs->b∉bs')/\(q.2 = .deep->∀ b∈fp y,b∉bs')) :
  SOK fns k h0 P Z A env h' (upd σ x (v',m')) vals (λy=>if y=x then a::bs' else fp y):=by
 have r:∀ m,h.get? a=ti m->¬ Stay m:=λm e=>Gt (ho.symm.trans e)▸hst
 have c:∀ {q:Oo->Prop},q a->(∀ b∈bs',q b)->∀ b∈a::bs',q b:=λu t b hb=>(Ou.mp hb).elim (λe=>e▸u) (t b)
 refine K.bind hs hnz r (K.loc.onG (KG.same hs (G:=λb=>b≠a) (λq=>q rfl) r) λb hb q=>haL.1 (q▸hb)) hne (λuu uu=>rfl) (K.val x p hp).1 hval rv (c haL hb) (λh=>(bJ a bs' rfl hnz (ht h) hne)) (λh=>⟨c ⟨hnz,hne⟩ (hd h).1,(hd h).2⟩) λy q i j=>⟨λh b cs e n=>?_,λh b g n=>?_⟩
 ·exact (Ou.mp n).elim (λl=>hne y q i j (by rw[e,l]; exact .head _)) ((hdis y q i j).1 h b cs e)
 ·exact (Ou.mp n).elim (λl=>hne y q i j (l▸g)) ((hdis y q i j).2 h b g)
theorem SOK.head (K:SOK fns k h0 P Z A env h σ vals fp) (hp:σ x=ti (.d (.list xs),m)) (hm:m≠.sh) :
  ∃ a vs n bs,vals x=ti (.ref a)/\h.get? a=ti ⟨.type "list", NI,.seq vs.toArray n,#[]⟩/\RA h vs xs bs/\fp x=a::bs/\sz (.list xs)=vj/\¬ Z a/\a∉bs/\(∀ y q,y≠x->σ y=ti q->a∉fp y)/\(∀ b∈a::bs,¬ Spo env b/\(P b\/h0.get? b=NI)) /\
   (m = .deep->(∀ b∈bs,¬ Z b/\∀ y q,y≠x->σ y=ti q->b∉fp y)/\bs.Nodup):=by
 refine ae (K.val x _ hp) λuu g=>?_
 refine ar (g) λv hv l o=>?_
 clear g
 refine ae (l) λr z=>?_
 clear l
 refine r.isList_k λa vs n bs p ea u e=>?_
 (clear r; subst p)
 refine ⟨a,vs,n,bs,hv,ea,u,e,z,?_⟩
 rw[e] at o
 cases m with
 | sh=>exact N5 rfl hm
 | top=>
  refine ce (K.top x _ hp rfl) λa' bs' t j i h3=>?_
  rw[e] at t; cases t
  exact (cw j i h3 o (λh=>(by cases h)))
 | deep=>
  refine ae (K.deep x _ hp rfl) λj i=>?_
  rw[e] at j i
  rw[QC] at i
  exact (cw ((j a (.head _)).1) i.1 ((j a (.head _)).2) o (λuu=>⟨λb o=>j b (.tail _ o),i.2⟩))
end
section
variable (fns:Fns) (k:N7) (C:Calls)
noncomputable def dY (st:S):Prop:=∀ {stmt:Q6}{h0:O2}{P Z:Oo->Prop}{A:OI}{env:Env}{σ:St}{vals:If->NX Lt}{fp:If->uq Oo}{s:NU}{Q:ZE->NU->Prop}{Er:Lt->NU->Prop}{σ':St}{fl:Flw},
 okS env.scope.names st stmt=vj->SOK fns k h0 P Z A env s.heap σ vals fp->ex C st σ = .ok (σ',fl) ->
 (fl = .next->∀ s' vals' fp',Stp Z s s'->SOK fns k h0 P Z A env s'.heap σ' vals' fp'->Frm Z (asg st) σ vals fp σ' vals' fp'->Q .next s')->(∀ r,fl = .ret r->∀ v s',Stp Z s s'->mM h0 P r v s'->Q (.ret v) s') ->
 Og (Ok prog w) A (exec stmt env) Q Er s
noncomputable def fk (st:Ss):Prop:=∀ {stmts:uq Q6}{h0:O2}{P Z:Oo->Prop}{A:OI}{env:Env}{σ:St}{vals:If->NX Lt}{fp:If->uq Oo}{s:NU}{Q:ZE->NU->Prop}{Er:Lt->NU->Prop}{σ':St}{fl:Flw},
 cK env.scope.names st stmts=vj->SOK fns k h0 P Z A env s.heap σ vals fp->exs C st σ = .ok (σ',fl) ->
 (fl = .next->∀ s' vals' fp',Stp Z s s'->SOK fns k h0 P Z A env s'.heap σ' vals' fp'->Frm Z (asgs st) σ vals fp σ' vals' fp'->Q .next s')->(∀ r,fl = .ret r->∀ v s',Stp Z s s'->mM h0 P r v s'->Q (.ret v) s') ->
 Og (Ok prog w) A (Yi stmts env) Q Er s
end
section
theorem bnd {env:Env}{x:If}(h:bE env.scope.names x=vj):varK env.scope.names x=vj/\aV x=vj/\(env.kindOf (oD x)=ti .local\/env.kindOf (oD x)=ti .cell):=by
 unfold bE at h
 simp only[Of,TZ,Oj] at h
 exact ⟨h.1.1,h.1.2,h.2⟩
theorem gG {env:Env}{x:If}{G:Prop}(h:bE env.scope.names x=vj) (k:varK env.scope.names x=vj->aV x=vj->(env.kindOf (oD x)=ti .local\/env.kindOf (oD x)=ti .cell)->G):G:=aK (bnd h) k
theorem sb (K:SOK fns k h0 P Z A env s.heap σ vals fp) (E:EP (Own σ fp ns) s r v s') :
  mM h0 P r v s':=by
 obtain ⟨u,as,j,m,l,i⟩:=E
 have g:∀ a,s.heap.get? a=NI->h0.get? a=none:=λa e=>K.h0n (K.nz e)
 exact (cV as j (λa h=>(K.own (m a h)).2) (λq=>aA (l q) λa t p o n=>(aQ a t p (g a o) n)) (λq=>⟨λa h=>g a ((i q).1 a h),(i q).2⟩))
theorem lI {σ₁ σ':St}{fl:Flw}{l:uq If}{h0:O2}{P Z:Oo->Prop}{A:OI}{env:Env}{σ:St}{vals:If->NX Lt}{fp:If->uq Oo}{s:NU}{Q:ZE->NU->Prop}(he:(Out.ok (σ₁,Flw.next):Out (St×Flw)) = .ok (σ',fl))
  (hN:fl = .next->∀ s' vals' fp',Stp Z s s'->SOK fns k h0 P Z A env s'.heap σ' vals' fp'->Frm Z l σ vals fp σ' vals' fp'->Q .next s'):∀ s' vals' fp',Stp Z s s'->SOK fns k h0 P Z A env s'.heap σ₁ vals' fp'->Frm Z l σ vals fp σ₁ vals' fp'->Q .next s':=by
 cases he
 exact hN rfl
theorem AY {σ₁ σ':St}{fl:Flw}{r:V×Mode}{N:V×Mode->Prop}(he:(Out.ok (σ₁,Flw.ret r):Out (St×Flw)) = .ok (σ',fl)) (hN:∀ r,fl = .ret r->N r):N r:=by
 cases he
 exact hN r rfl
theorem xH (S:SimE fns k C XP e):dY fns k C (.ret e):=by
 intro p h0 P Z A y z o fp s Q Er q fl j K l hN x
 replace j:=rA j
 revert j; refine λg=>OE g (λh=>?_) (λj=>?_)
 ·clear g
  refine au (h) λn m i j=>?_
  clear h
  subst i
  simp only[iy] at l
  refine Out.bind_k l λr u l=>?_
  exact S7 (K.eval S j u λv t E=>AY l x v t E.keeps.stp (sb K E))
 ·cases j
theorem tj:dY fns k C (.raise c):=by
 intro i q P Z A l m h r s Q Er j t n K g p o
 exfalso
 simp only[ed] at g
 refine aL g λuu uu g=>?_
 split at g<;>cases g
set_option tactic.hygienic true in
theorem uZ:dY fns k C (.retn x):=by
 intro stmt h0 P Z A env σ vals fp s Q Er σ' fl i K n hN hR
 replace i:=Bs i
 revert i; refine λj=>OE j (λl=>?_) (λi=>?_)
 ·clear j
  refine cG (l) λu t p m i=>?_
  clear l
  subst m
  simp only[Of,Oj] at i
  refine ae (i) λy hb=>?_
  clear i
  subst y
  refine gG hb λh1 h2 h3=>?_
  simp only[ln] at n
  split at n
  ·rename_i r hr
   cases n
   refine ae (K.val x r hr) λuu g=>?_
   refine ar (g) λv hv z hd=>?_
   clear g
   have nh:∀ a,¬ Z a->h0.get? a=none:=λa e=>by
    cases q:h0.get? a with
    | none=>rfl
    | some o=>exact N5 (K.z0 a o q) e
   refine S7 (dN K.eok.kind h2 (K.loc.var K.eok hv) (hR r rfl v s (.refl Z s) (cV (fp x) z (λa h=>(hd a h).2) (λq=>?_) (λq=>?_))))
   ·refine ce (K.top x r hr q) λa bs e1 e2 e3 _=>?_
    exact (aQ a bs e1 (nh a e2) e3)
   ·refine ae (K.deep x r hr q) λe1 e2=>?_
    exact ⟨λa h=>nh a (e1 a h).1,e2⟩
  ·exact nB n
 ·cases i
theorem yz (T:SimT fns k C XP c) (Sa:fk fns k C a) (Sb:fk fns k C b):dY fns k C (.ite c a b):=by
 intro stmt h0 P Z A env σ vals fp s Q Er σ' fl h K i hN hR
 replace h:=wC h
 revert h; refine λj=>OE j (λl=>?_) (λh=>?_)
 ·clear j
  refine cQ (l) λND z x u o h=>?_
  clear l
  subst o
  simp only[Of] at h
  simp only[iu] at i
  refine Out.bind_k i λr hr i=>?_
  refine Out.bind_k i λt ht i=>?_
  refine ZF (K.evalT T h.1.1 (b:=t) (by rw[hr]; exact ht) λs₁ q=>?_)
  have K₁:=K.onK q.k
  cases t with
  | true=>
   rw[NZ rfl] at i ⊢
   exact Sa h.1.2 K₁ i (λe n g p m K' F=>hN e n g p (q.stp.trans m) K' (F.more λy hy=>OV _ hy)) λr e v n m R=>hR r e v n (q.stp.trans m) R
  | false=>
   simp only[OL,PA] at i ⊢
   exact Sb h.2 K₁ i (λe n g p m K' F=>hN e n g p (q.stp.trans m) K' (F.more λy hy=>OU _ hy)) λr e v n m R=>hR r e v n (q.stp.trans m) R
 ·cases h
theorem vO:fk fns k C .nil:=by
 intro n y P Z A u v m t s Q Er p fl l K o r x
 replace l:=C4 l
 revert l; refine λg=>OE g (λi=>?_) (λl=>?_)
 ·clear g
  refine ae (i) λj l=>?_
  clear i
  subst j
  simp only[dl] at o
  cases o
  exact Sw (r rfl s m t (.refl Z s) K (.id λz q h=>⟨q,h⟩))
 ·cases l
theorem sV {st:S}{r:Ss}(S:dY fns k C st) (T:fk fns k C r):fk fns k C (.cons st r):=by
 intro z h0 P Z A env σ vals fp s Q Er σ' fl h K o hN hR
 replace h:=sk h
 revert h; refine λi=>OE i (λj=>?_) (λh=>?_)
 ·clear i
  refine au (j) λx u n h=>?_
  clear j
  subst n
  simp only[Of] at h
  simp only[aE] at o
  refine Out.bind_k o λMx h1 o=>?_
  obtain ⟨t,fla⟩:=Mx
  dsimp only at o
  refine P0 (S h.1 K h1 (λe s' y fp' st K' F=>?_) λq e v s' st R=>?_)
  ·(clear h1; subst e)
   dsimp only at o ⊢
   exact T h.2 K' o (λe m g p l K'' F'=>hN e m g p (st.trans l) K'' (F.trans F')) λr e v m l R=>hR r e v m (st.trans l) R
  ·(clear h1; subst e)
   cases o
   exact hR q rfl v s' st R
 ·cases h
theorem wh (S:SimE fns k C XP e):dY fns k C (.expr e):=by
 intro stmt h0 P Z A env σ m fp s Q Er σ' fl l K n y hR
 replace l:=nk l
 revert l; refine λg=>OE g (λi=>?_) (λl=>?_)
 ·clear g
  refine lP (i) λx u t p o j l=>?_
  clear i
  subst j
  simp only[dy] at n
  refine Out.bind_k n λr hr n=>?_
  replace y:=lI n y
  clear n hR
  have hi:RT env=false:=by unfold RT; rw[K.eok.kind]; rfl
  exact S8 (K.eval S l hr λv s' E=>y s' m fp E.keeps.stp ((K.onK E.keeps.k).consume _ _) (.id λz q h=>cL h)) hi
 ·cases l
end
noncomputable def TrAt (N:Oo->Prop) (h:O2) (e:Oo) (vs:Oe Lt) (fl:Lt):Prop :=
 ∃ T oT ts,vs[1]? = ti (.ref T)/\¬ N T/\T≠e/\h.get? T=ti oT/\oT.cls = .type "traceback" /\ oT.data = .fields ts/\ts[3]? = ti fl
noncomputable def Ex0 (N:Oo->Prop) (h:O2) (c:If) (e:Oo) (vs:Oe Lt):Prop:=¬ N e/\c∈SF.excN/\∃ oe,h.get? e=ti oe/\oe.cls = .ref (SF.exc c)/\oe.data = .fields vs
noncomputable def Exc (N:Oo->Prop) (h:O2) (c:If) (x:Lt):Prop:=∃ e vs,x = .ref e/\Ex0 N h c e vs/\(vs[1]? = ti .none\/∃ fl,TrAt N h e vs fl)
noncomputable def FlyA (N:Oo->Prop) (h:O2) (c:If) (fl:Lt) (x:Lt):Prop:=∃ e vs,x = .ref e/\Ex0 N h c e vs/\TrAt N h e vs fl
noncomputable def Fly (N:Oo->Prop) (h:O2) (c:If) (x:Lt):Prop:=∃ fl,FlyA N h c fl x
theorem FlyA.exc {N:Oo->Prop}{h:O2}{c:If}{fl x:Lt}(f:FlyA N h c fl x):Exc N h c x:=aA (f) λe g k j i=>(aQ e g k j (.inr ⟨fl,i⟩))
theorem Fly.exc (f:Fly N h c x):Exc N h c x:=al f λg f=>f.exc
theorem TrAt.old (t:TrAt N h e vs fl) (hn:∀ b,N' b->N b):TrAt N' h e vs fl:=aX (t) λT g ts a b r=>(dQ T g ts a (λq=>b (hn _ q)) r)
theorem FlyA.old (f:FlyA N h c fl x) (hn:∀ b,N' b->N b):FlyA N' h c fl x:=aA (f) λe i k g j=>(aQ e i k ⟨λq=>g.1 (hn _ q),g.2⟩ (j.old hn))
theorem Exc.old (f:Exc N h c x) (hn:∀ b,N' b->N b):Exc N' h c x:=aA (f) λe i k g j=>(aQ e i k ⟨λq=>g.1 (hn _ q),g.2⟩ (j.imp id λ⟨l,t⟩=>⟨l,t.old hn⟩))
theorem Fly.old (f:Fly N h c x) (hn:∀ b,N' b->N b):Fly N' h c x:=al f λg f=>⟨g,f.old hn⟩
noncomputable def Chg (N:Oo->Prop) (h h':O2):Prop:=∀ b o,h.get? b=ti o->h'.get? b=ti o\/(∃ es ep,¬ SF.old b/\o.cls = .type "frame" /\ o.data = .dict es ep/\∃ sl,h'.get? b=ti {o with slots:=sl })\/(¬ N b/\¬ Stay o/\∃ fs,o.data = .fields fs)
theorem Chg.trans (a:Chg N h ha) (b:Chg N ha hb):Chg N h hb:=λp o e=>by
 rcases a p o e with q | ⟨es,ep,h1,h2,h3,sl,h4⟩ | q
 ·exact b p o q
 ·rcases b p _ h4 with q | ⟨_,_,_,_,_,sl',q⟩ | ⟨_,_,fs,q⟩
  ·exact .inr (.inl (bJ es ep h1 h2 h3 ⟨sl,q⟩))
  ·exact .inr (.inl (bJ es ep h1 h2 h3 ⟨sl',q⟩))
  ·exact N5 (h3.symm.trans q) (λq=>nomatch q)
 ·exact .inr (.inr q)
theorem Chg.ns (c:Chg N h h') (hm:h.Ns C m):h'.Ns C m:=by
 refine aX hm λo i j e g r=>?_
 rcases c C o e with q | ⟨_,_,_,_,_,sl,q⟩ | ⟨_,_,fs,q⟩
 ·exact (dQ o i j q g r)
 ·exact (dQ _ i j q g r)
 ·exact N5 (g.symm.trans q) (λq=>nomatch q)
theorem Chg.refl:Chg N h h:=λuu uu e=>.inl e
theorem Chg.kg (c:Chg N h h'):KG N h h':=λb o g e=>by
 rcases c b o e with q | ⟨es,ep,h1,h2,h3,sl,h4⟩ | ⟨h1,h2,_⟩
 ·exact (ah o q .same)
 ·exact (ah _ h4 ⟨rfl,rfl,.inr ⟨h1,h2,es,ep,h3⟩⟩)
 ·exact N5 g (λq=>q.elim h1 h2)
theorem Chg.frames (c:Chg N h h') (x:FrOk h l):FrOk h' l:=λi t=>by
 obtain ⟨n,L,o,p,r,m,k,u,j,g⟩:=x i t
 rcases c L o u with q | ⟨_,_,_,_,_,sl,q⟩ | ⟨_,_,fs,q⟩
 ·exact (aM n (mq L o p r m k q j g))
 ·exact (aM n (mq L _ p r m k q j g))
 ·rw[g] at q; cases q
noncomputable def noH (h:O2):Heap:={h with objs:=#[] }
theorem Ce (h:O2) (b:Oo):(noH h).get? b=none:=rfl
theorem FrOk.fun:∀ {l:uq Env},FrOk h l->h.FunFrames (noH h) l
 | [],_=>trivial
 | env::l,x=>by
  obtain ⟨m,L,o,t,u,k,r,j,p,i⟩:=x env (.head _)
  exact ⟨by rw[m]; decide,(bJ L o k (Ce h L) j (λn q=>by rw[i] at q; cases q)),FrOk.fun λy g=>x y (.tail _ g)⟩
section
variable {M:VA}{A:OI}{E:Lt->NU->Prop}{env:Env}{l:uq Env}{h:O2}{g:Oe Vz}{dr:Zm}{tk:N7}{os:WG}{c:If}{x:Lt}{Q:T6->NU->Prop}{N:Oo->Prop}{L:Oo}
theorem zD (hN:∀ b,N b->∃ o,h.get? b=ti o) (hfr:A.frames=ti (env::l)) (hF:FrOk h (env::l)) (hf:env.frame=ti L) (he:Ex0 N h c e vs) (hsz:1<vs.size)
  (hQ:∀ h',FlyA N h' c (SE L) (.ref e)->Chg N h h'->Q () ⟨h',g,dr,tk,os⟩) :
  Og M A (do let a <- frameOf env; let pl <- entryPlaceOf L hadNext; let b <- V6 head a .none (SE L) .none pl; Zy (.ref e) 1 b) Q E ⟨h,g,dr,tk,os⟩:=by
 refine aK (he) λne cn m=>?_
 clear he
 refine ar (m) λoe ee hc hd=>?_
 clear m
 have hl:=hF.fun
 have notf:∀ b o fs,h.get? b=ti o->o.data = .fields fs->b∉(env::l).filterMap (·.frame):=λb o fs u hb hm=>by
  refine ae (hl.mem hm) λuu k=>?_
  refine ag (k) λz y hnf=>?_
  clear k
  rw[u] at y; (have v:=Gt y; clear y; subst v)
  exact hnf fs hb
 refine Is (wpAny_frameOf_fun (s:=⟨h,g,dr,tk,os⟩) hfr hl hf λi j=>?_)
 refine Is (wpAny_entryPlaceOf λpl hpl=>?_)
 unfold V6 newFields
 refine Is (RL ?_ (hpl.sizeOk5 _ _ _ _ _))
 generalize hts:([head,.ref L,.none,SE L,.none]++(if pl.isEmpty then List.replicate 6 Rp else pl)).toArray=ts
 have h3:ts[3]? = ti (SE L):=by rw[<- hts]; simp
 have r:i.get? e=ti oe:=(j.2.1 e (notf e oe vs ee hd)).trans ee
 have p:=Oi (h:=i) {cls:=.type "traceback", dict:=NI,data:=.fields ts } r
 have x:i.objs.size≠e:=Ux (QW r)
 have hTN:¬ N i.objs.size:=λq=>by
  refine al (hN _ q) λo eo=>?_
  have:=QW eo
  rw[j.1] at this
  exact SH _ this
 have n:=Rq hd (·.setIfInBounds 1 (OR i.objs.size))
 refine S4 p hd hsz (hQ _ (aQ e _ rfl (cF ne cn (aG _ (PQ _ p (Te n)) ((Ug _ _).trans hc) n)) (jJ i.objs.size _ ts (by simp[hsz]) hTN x ((OZ _ _ (PT x)).trans (Ov i rfl)) rfl rfl h3)) λb o u=>?_)
 by_cases hbe:b=e
 ·(clear r p hQ x; subst hbe)
  rw[ee] at u; (have v:=Gt u; clear u; subst v)
  exact .inr (.inr (cF ne (Stay.not_cls (by rw[hc]; simp)) (cE vs hd)))
 ·have t:∀ z,i.get? b=ti z->((i.push {cls:=.type "traceback", dict:=NI,data:=.fields ts }).update e (Sp (·.setIfInBounds 1 (OR i.objs.size)))).get? b=ti z:=λz y=>by
   rw[OZ _ _ (PT hbe)]
   exact Oi _ y
  by_cases hm:b∈(env::l).filterMap (·.frame)
  ·refine ag (List.mem_filterMap.mp hm) λenv' he' hb'=>?_
   obtain ⟨_,L',z,es,ep,f1,f2,f3,f4,f5⟩:=hF env' he'
   rw[hb'] at f1; (have v:=Gt f1; clear f1; subst v)
   rw[u] at f3; (have v:=Gt f3; clear f3; subst v)
   refine al (j.2.2 b o u) λsl y=>?_
   exact .inr (.inl (bJ es ep f2 f4 f5 (cE sl (t _ y))))
  ·exact .inl (t o ((j.2.1 b hm).trans u))
theorem Chg.upd {ts:Oe Lt}(ht:h.get? T=ti oT) (hc:oT.cls = .type "traceback") (hd:oT.data = .fields ts) (hn:¬ N T):Chg N h (h.update T (Sp (·.setIfInBounds 3 v))):=λb o g=>by
 by_cases hb:b=T
 ·subst hb
  rw[ht] at g; (have i:=Gt g; clear g; subst i)
  exact .inr (.inr (cF hn (Stay.not_cls (by rw[hc]; simp)) (cE ts hd)))
 ·exact .inl ((OZ _ _ (PT hb)).trans g)
theorem uN (hN:∀ b,N b->∃ o,h.get? b=ti o) (hfr:A.frames=ti (env::l)) (hF:FrOk h (env::l)) (hf:env.frame=ti L) (hx:Exc N h c x)
  (hQ:∀ h',FlyA N h' c (SE L) x->Chg N h h'->Q () ⟨h',g,dr,tk,os⟩):Og M A (UL x env) Q E ⟨h,g,dr,tk,os⟩:=by
 refine aA (hx) λe vs p z n=>?_
 clear hx
 subst p
 refine aK (z) λt v i=>?_
 clear z
 refine ar (i) λr m u j=>?_
 clear i
 unfold UL
 simp only[hf]
 rcases n with n | ⟨fl,T,oT,ts,h1,hTN,hTe,hT,hTc,hTd,h3⟩
 ·refine Is (Tx m j n ?_)
  rw[N0 (by decide)]
  exact zD hN hfr hF hf (cF t v (aG r m u j)) (Qd.mp n).1 λh' f k=>hQ h' f k
 ·refine Is (Tx m j h1 ?_)
  rw[NZ (show (OR T != Rp)=vj from by simp)]
  refine Is (Tx hT hTd h3 ?_)
  cases q:(fl==SE L) with
  | false=>
   rw[N0 (by decide)]
   refine Is (S4 hT hTd (Qd.mp h3).1 ?_)
   have ch:Chg N h (h.update T (Sp (·.setIfInBounds 3 Rp))):=Chg.upd hT hTc hTd hTN
   refine zD (λb y=>?_) hfr (ch.frames hF) hf (cF t v (aG r ((OZ _ _ hTe).trans m) u j)) (Qd.mp h1).1 λh' f k=>hQ h' f (ch.trans k)
   refine al (hN b y) λo e=>?_
   exact ⟨o,(OZ _ _ (show T≠b from λq=>hTN (by rw[q]; exact y))).trans e⟩
  | true=>
   rw[NZ rfl]
   exact Od (hQ h (aQ e vs rfl (cF t v (aG r m u j)) (jJ T oT ts h1 hTN hTe hT hTc hTd (h3.trans (PG ti (Oj.mp q))))) .refl)
theorem hJ (hF:FrOk h l) (hx:FlyA N h c fl x) (hQ:∀ h',FlyA N h' c (fr.elim .none λf=>SE f) x->KG N h h'->FrOk h' l->Q () ⟨h',g,dr,tk,os⟩):Og M A (setFlight x fr) Q E ⟨h,g,dr,tk,os⟩:=by
 obtain ⟨e,z,q,k,T,oT,ts,u,p,n,r,o,j,h3⟩:=hx
 subst q
 refine aK (k) λne cn i=>?_
 clear k
 refine ar (i) λoe v hc t=>?_
 clear i
 unfold setFlight
 refine Is (Tx v t u ?_)
 rw[NZ (show (OR T != Rp)=vj from by simp)]
 have m:=(Qd.mp h3).1
 have y:Chg N h (h.update T (Sp (·.setIfInBounds 3 (fr.elim .none λf=>SE f)))):=Chg.upd r o j p
 exact S4 r j m (hQ _ (aQ e z rfl (cF ne cn (aG oe ((OZ _ _ n).trans v) hc t)) (jJ T _ _ u p n (PQ _ r (Te (Rq j _))) ((Ug _ _).trans o) (Rq j _) (by simp[m]))) y.kg (y.frames hF))
theorem Ig (hN:∀ b,N b->∃ o,h.get? b=ti o) (hfr:A.frames=ti (env::l)) (hF:FrOk h (env::l)) (hf:env.frame=ti L) (hx:Exc N h c x)
  (hQ:∀ h',Fly N h' c x->KG N h h'->Q () ⟨h',g,dr,tk,os⟩):Og M A (Y4 env x) Q E ⟨h,g,dr,tk,os⟩:=by
 unfold Y4
 exact Is (uN hN hfr hF hf hx λp n i=>hJ (i.frames hF) n λk m j _=>hQ k ⟨_,m⟩ (i.kg.trans j))
theorem Jv (hN:∀ b,N b->∃ o,h.get? b=ti o) (hfr:A.frames=ti (env::l)) (hF:FrOk h (env::l)) (hf:env.frame=ti L) (hx:Exc N h c x)
  (hQ:∀ h',Exc N h' c x->KG N h h'->FrOk h' (env::l)->E' x ⟨h',g,dr,tk,os⟩):XU (Ok prog w) A env (cameBackBy (Ok prog w) A env E') x ⟨h,g,dr,tk,os⟩:=by
 refine uN hN hfr hF hf hx λv m k=>?_
 refine aA (m) λe vs t n j=>?_
 clear m
 refine cG (j) λT oT ts z u=>?_
 clear j
 (clear hx; subst t)
 refine aK (n) λne cn i=>?_
 clear n
 refine ar (i) λoe ee hc y=>?_
 clear i
 refine Is (Tx ee y z ?_)
 rw[N0 (show ¬ (OR T==Rp)=vj from by simp),hf]
 exact hJ (k.frames hF) (aQ e vs rfl (cF ne cn (aG oe ee hc y)) (fh T oT ts z u)) λq r p F₂=>hQ q r.exc (k.kg.trans p) F₂
end
noncomputable def dom (h:O2) (b:Oo):Prop:=∃ o,h.get? b=ti o
noncomputable def XPc (c:If) (s:NU) (x:Lt) (s':NU):Prop:=Kp s s'/\Fly (dom s.heap) s'.heap c x
theorem XPc.of (k:Kp s s₁) (h:XPc c s₁ x s'):XPc c s x s':=⟨k.trans h.1,h.2.old λuu ⟨_,e⟩=>ag (k.k _ _ (.inl trivial) e) λg i uu=>⟨g,i⟩⟩
theorem c8:∀ (c:If) (s s₁:NU) (x:Lt) (s':NU),Kp s s₁->XPc c s₁ x s'->XPc c s x s':=λuu uu uu uu uu k h=>.of k h
theorem FlyA.keep (f:FlyA N h c fl x) (k:∀ b o fs,h.get? b=ti o->o.data = .fields fs->h'.get? b=ti o):FlyA N h' c fl x:=by
 refine aA f λe l r q j=>(aQ e l r ?_ ?_)
 ·exact aK q λa b m=>ar m λn t i g=>(cF a b (aG n (k _ _ _ t g) i g))
 ·refine wW j λT p ts a b d u i g j=>(jJ T p ts a b d (k _ _ _ u g) i g j)
theorem dZ:XN XPc:=by
 intro A j env l c s s₁ s' x acc m Q Er hfr hF he kp hx hC hm hE
 refine ae hx λkp' v=>?_
 clear hx
 refine al v λfl v=>?_
 refine au kp λha ta MC r=>?_
 subst MC
 refine au kp' λhb y Mw p=>?_
 subst Mw
 have u:K s.heap hb:=KG.trans r p
 obtain ⟨_,L,o,es,ep,hL,_⟩:=hF j (.head _)
 have en:UL x env=UL x j:=by unfold UL PySem.frameOf; rw[he]
 show Og _ A (UL x env) _ _ _
 rw[en]
 refine uN (N:=dom s.heap) (λb ⟨o,e⟩=>u.there e) hfr (hF.k u) hL (FlyA.exc (v.old λb ⟨o,e⟩=>r.there e)) λh₃ f₃ ch=>?_
 have g:=ch.ns (eO hm p)
 refine (ah m g λh hs cenv _=>?_)
 have k04:K s.heap h:=(Internal.K.step u ch.kg λb o e=>⟨o,e⟩).sameBut g hC hs
 have i:FlyA (dom s.heap) h c (SE L) x:=f₃.keep λb o fs e hd=>hs.extBut b o (λq=>by
  refine aX g λo' es ep e' hd' _=>?_
  rw[q,e'] at e
  (have oc:=Gt e; clear e; subst oc)
  rw[hd] at hd'; cases hd') e
 have F₄:FrOk h (j::l):=hF.k k04
 refine aA (id i) λe vs z Mz t=>?_
 refine cG (t) λT oT ts h1 hTr=>?_
 refine aK (Mz) λne cn n=>?_
 refine ar (n) λoe ee hc hd=>?_
 unfold PySem.passOn
 rw[z]
 refine Is (Tx ee hd h1 ?_)
 rw[N0 (show ¬ (OR T==Rp)=vj from by simp)]
 rw[z] at i
 refine Is (hJ F₄ i λh₅ f₅ k₅ _=>?_)
 exact Zz (hE _ _ ⟨(aC h₅ y rfl (Internal.K.step k04 k₅ λb o e=>⟨o,e⟩)),_,f₅⟩)
noncomputable def Lv (A:OI) (env:Env) (h:O2):Prop:=∃ l,A.frames=ti (env::l)/\FrOk h (env::l)/\env.frame=ti env.locals
section
variable (fns:Fns) (k:N7) (C:Calls)
noncomputable def dU (st:S):Prop:=∀ {stmt:Q6}{h0:O2}{P Z:Oo->Prop}{A:OI}{env:Env}{σ:St}{vals:If->NX Lt}{fp:If->uq Oo}{s:NU}{Q:ZE->NU->Prop}{Er:Lt->NU->Prop}{c:If},
 okS env.scope.names st stmt=vj->SOK fns k h0 P Z A env s.heap σ vals fp->ex C st σ = .exc c->(∀ x s',Stp Z s s'->Lv A env s'.heap->Exc Z s'.heap c x->Er x s')->Og (Ok prog w) A (exec stmt env) Q Er s
noncomputable def fm (st:Ss):Prop:=∀ {stmts:uq Q6}{h0:O2}{P Z:Oo->Prop}{A:OI}{env:Env}{σ:St}{vals:If->NX Lt}{fp:If->uq Oo}{s:NU}{Q:ZE->NU->Prop}{Er:Lt->NU->Prop}{c:If},
 cK env.scope.names st stmts=vj->SOK fns k h0 P Z A env s.heap σ vals fp->exs C st σ = .exc c->(∀ x s',Stp Z s s'->Lv A env s'.heap->Exc Z s'.heap c x->Er x s')->Og (Ok prog w) A (Yi stmts env) Q Er s
end
section
variable {fns:Fns}{k:N7}{C:Calls}{XP:If->NU->Lt->NU->Prop}
theorem kF (hp:fA e=NY) (h:okE ns e v=vj) (t:NX Expr) (l:N7) (env:Env):UM v t l env=Pu false:=by
 replace h:=mQ h
 have i:(pt v).tag≠0:=λq=>by rw[q] at h; cases e<;>cases h
 have g:(pt v).tag≠10:=λq=>Qq hp (h.symm.trans q)
 cases v<;>first | rfl | exact N5 rfl i | exact N5 rfl g
theorem tN {gs:uq V9}:UM (.ListComp e gs sc p) (ti (.Name t q)) l env=Pu vj\/UM (.ListComp e gs sc p) (ti (.Name t q)) l env=Pu false:=by
 have g:UM (.ListComp e gs sc p) (ti (.Name t q)) l env=Pu (env.blockKind == .function&&env.kindOf t==ti .local&&q.line==(YB e gs sc p).pos.line && !(sc.names.any λ(n,k)=>n==t&&(k == .local||k == .cell))):=rfl
 rw[g]
 generalize (env.blockKind == .function&&env.kindOf t==ti .local&&q.line==(YB e gs sc p).pos.line && !(sc.names.any λ(n,k)=>n==t&&(k == .local||k == .cell)))=b
 cases b
 ·exact .inr rfl
 ·exact .inl rfl
theorem uo {px pt:Pos}{elt iter:Expr}
  (hsc:f9 env.scope.names sc x=vj) (X:Cx fns k A P h env σ) (hset:∀ v,Ue iter env v=Pu v) (hsw:UM (.ListComp elt [⟨.Name (oD x) px,iter,ifs,0⟩] sc pos) (ti (.Name (oD t) pt)) spos.line env=Pu vj)
  (h:∀ cl:uq (Str×Oo),(∀ n,(n,PR)∈sc.names->cl.lookup n=env.cells.lookup n)->zX A env x px elt iter ifs sc pos cl (λacc C=>X5 (Ok prog w) A Er (ti (W0 (.Name (oD t) pt) env)) (λuu s'=>Q .next s') acc C) Er s) :
  Og (Ok prog w) A (exec (.Assign [.Name (oD t) pt] (.ListComp elt [⟨.Name (oD x) px,iter,ifs,0⟩] sc pos) spos) env) Q Er s:=by
 refine vh hsc X λcl i g hk l=>?_
 rw[exec_Assign_Name_used _ _ _ _ hsw]
 refine Is (Tn (Is ?_))
 show Og _ A (do let _ <- comprehension (.ListComp elt [⟨.Name (oD x) px,iter,ifs,0⟩] sc pos) sc env _ (newList []) NY (eval iter env) (ti (W0 (.Name (oD t) pt) env))) _ _ s
 exact Is (Pg (Um (use:=ti (W0 (.Name (oD t) pt) env)) (Q:=λuu s'=>Q .next s') rfl hset i hk l (h cl g)) (λuu s' j=>Od (Od j)) λuu uu e=>e)
theorem yP {h0:O2}{P Z:Oo->Prop}{A:OI}{env:Env}{σ:St}{vals:If->NX Lt}{fp:If->uq Oo}{s s₂:NU}{Q:ZE->NU->Prop}{Er:Lt->NU->Prop}{x:If}{px:Pos}{ns:uq If}{d:N9}{md:Mode}{v:Lt}{D:Oo}{m:Str->NX Lt}
  (K:SOK fns k h0 P Z A env s.heap σ vals fp) (hb:bE env.scope.names x=vj) (E:EP (Own σ fp ns) s (.d d,md) v s₂) (hm:s₂.heap.Ns D m) (hD:s.heap.get? D=NI)
  (hN:∀ s' vals' fp',Stp Z s s'->SOK fns k h0 P Z A env s'.heap (upd (consume σ ns md) x (.d d,md)) vals' fp'->Frm Z [x] σ vals fp (upd (consume σ ns md) x (.d d,md)) vals' fp'->Q .next s') :
  X5 (Ok prog w) A Er (ti (W0 (.Name (oD x) px) env)) (λuu s'=>Q .next s') v D (.ok .next) s₂:=by
 refine gG hb λh1 h2 h3=>?_
 show Og _ A (W0 (.Name (oD x) px) env v) _ _ _
 refine SW (K.put_ep h1 h3 E λs' as z u kk K' F=>?_)
 have t:=(K.new hD).1
 refine aX hm λo es ep l n hr=>?_
 have g:=kk D o t l
 have r:∀ h,s'.heap.get? D=ti h->¬ Stay h:=λh e=>Stay.not_dict (Gt (g.symm.trans e)▸n)
 refine (ah m (dQ o es ep g n hr) (λh' p=>hN _ _ _ ((E.keeps.stp.trans u).same p (K.nz hD) r) (K'.same p (K.nz hD) r t λy q j hf=>?_) F))
 refine jM j (λe _=>?_) λe j=>?_
 ·rw[NZ e] at hf
  refine bz (z.1.there D hf) λuu uu e=>?_
  rw[l] at e; (have oc:=Gt e; clear e; (clear l g; subst oc)); cases n
 ·rw[N0 e] at hf
  exact al (cL j) λq' i=>K.nf hD i hf
theorem kR (S:SimE fns k C XP e) (Sc:fA e=vj->SimC fns k C XP e):dY fns k C (.assign x e):=by
 intro stmt h0 P Z A env σ vals fp s Q Er σ' fl ok K o hN hR
 replace ok:=ol ok
 revert ok; refine λj=>OE j (λn=>?_) (λok=>?_)
 ·clear j
  refine cQ (n) λt pt v h Nd ok=>?_
  clear n
  subst Nd
  simp only[Of,Oj] at ok
  refine ae (ok) λMw oe=>?_
  clear ok
  refine ae (Mw) λMA hb=>?_
  clear Mw
  subst MA
  refine gG hb λh1 h2 h3=>?_
  simp only[cS] at o
  refine Out.bind_k o λr hr o=>?_
  replace hr:=DU hr
  replace hN:=lI o hN
  clear o hR
  have g:UM v (ti (.Name (oD x) pt)) h.line env=Pu NY->Og (Ok prog w) A (exec (.Assign [.Name (oD x) pt] v h) env) Q Er s:=λhsw=>by
   refine WU (K.eval S oe hr λu s' E=>?_) hsw
   exact K.put_ep h1 h3 E λs'' as rv st kk K' F=>hN s'' _ _ (E.keeps.stp.trans st) K' F
  cases i:fA e with
  | false=>exact g (kF i oe _ _ _)
  | true=>
   have e1:ev C e (dC σ (fv e)) = .ok r:=by rw[aw C _ _ σ (cP σ _)]; exact hr
   have X:=K.cx (fv e)
   refine Sc i (Er:=Er) oe X (by rw[e1]; simp) (λc i=>by rw[e1] at i; cases i) λy py ee iter ifs sc pos ex hsc hset run=>?_
   clear Sc S i hr oe
   subst ex
   rcases tN (e:=ee) (gs:=[⟨.Name (oD y) py,iter,ifs,0⟩]) (sc:=sc) (p:=pos) (t:=oD x) (q:=pt) (l:=h.line) (env:=env) with hsw | hsw
   ·clear g
    refine uo hsc X hset hsw λcl hcl=>run hcl (λc i=>by rw[e1] at i; cases i) λd md o D C s' m E hm hC=>?_
    rw[e1] at o
    have oc:=Out.ok.inj o
    subst oc
    exact yP K hb E hm hC λs' z fp' st K' F=>hN s' z fp' st K' F
   ·exact g hsw
 ·cases ok
end
section
theorem SOK.putl {s s₂:NU}{h':O2}{ns:uq If}{x:If}{xs zs:uq N9}{mx m:Mode}{as:uq Oo}{σ':St}{fl:Flw}{a:Oo}{vs vs':uq Lt}{n n':N7}{bs bs':uq Oo}
  (K:SOK fns k h0 P Z A env s.heap σ vals fp) (kp:Kp s s₂) (ha:∀ b∈as,Own σ fp ns b\/s.heap.get? b=NI) (hdp:m = .deep->(∀ b∈as,s.heap.get? b=NI)/\as.Nodup)
  (hx:σ x=ti (.d (.list xs),mx)) (hput:lp σ x ns mx zs m = .ok (σ',fl)) (hm:mx≠.sh)
  (hv:vals x=ti (.ref a)) (ea:s.heap.get? a=ti ⟨.type "list", NI,.seq vs.toArray n,#[]⟩) (hfp:fp x=a::bs) (hZ:¬ Z a) (hab:a∉bs) (hne:∀ y q,y≠x->σ y=ti q->a∉fp y) (hP:∀ b∈a::bs,¬ Spo env b/\(P b\/h0.get? b=NI))
  (hdx:mx = .deep->(∀ b∈bs,¬ Z b/\∀ y q,y≠x->σ y=ti q->b∉fp y)/\bs.Nodup)
  (hs:Pn a s₂.heap h') (ea':h'.get? a=ti ⟨.type "list", NI,.seq vs'.toArray n',#[]⟩) (rr:RA s₂.heap vs' zs bs') (hz:∀ z∈zs,sz z=vj) (hbs:∀ b∈bs',b∈bs\/b∈as) (hnd:(bs++as).Nodup->bs'.Nodup) :
  fl = .next/\∃ fp',SOK fns k h0 P Z A env h' σ' vals fp'/\Frm Z [x] σ vals fp σ' vals fp':=by
 unfold lp at hput
 split at hput
 ·rename_i hlen
  have j:=kp.k.get ea rfl
  have main:∀ (g:m = .deep\/x∉ns),a∉as:=λg hm=>by
   refine OE (ha a hm) (λv=>?_) (λh1=>?_)
   ·refine aA (v) λz q hz r hf=>?_
    clear v
    rcases g with hc | hc
    ·have:=(hdp hc).1 a hm
     rw[ea] at this; exact nM this
    ·exact hne z q (λe=>hc (e▸hz)) r hf
   ·rw[ea] at h1; exact nM h1
  have rv':(g:m = .deep\/x∉ns)->RV h' (.ref a) (.d (.list zs)) (a::bs'):=λg=>by
   refine ⟨.list ea' (rr.off (wr:=[a]) (λb hb o e=>.inr ?_) λb o hb e=>hs.extBut b o (λq=>hb (by simp[q])) e),sz_list.mpr ⟨?_,hz⟩⟩
   ·rw[N1.mp hb] at e ⊢
    rw[j] at e; (have oc:=Gt e; clear e; subst oc)
    exact ⟨by simp,λhm=>(hbs a hm).elim hab (main g)⟩
   ·unfold lim at hlen; exact zH hlen
  have pb:∀ b∈bs',¬ Spo env b/\(P b\/h0.get? b=NI):=λb hb=>by
   rcases hbs b hb with h1 | h1
   ·exact hP b (.tail _ h1)
   ·exact K.own (ha b h1)
  have abs:(g:m = .deep\/x∉ns)->a∉bs':=λg hm=>(hbs a hm).elim hab (main g)
  have org:∀ b∈a::bs',Z b->∃ z q,σ z=ti q/\b∈fp z:=λb hb hz=>by
   rcases Ou.mp hb with rfl | hb
   ·exact N5 hz hZ
   ·rcases hbs b hb with hb | hb
    ·exact (aC x _ hx (by rw[hfp]; exact .tail _ hb))
    ·refine OE (ha b hb) (λu=>?_) (λh1=>?_)
     ·refine aA (u) λy q M7 h1 h2=>?_
      clear u
      exact (aC y q h1 h2)
     ·exact N5 hz (K.nz h1)
  have exc:∀ t,(∀ b∈as,Own σ fp t b\/s.heap.get? b=NI)->∀ y q,y≠x->Internal.demote σ t y=ti q->(q.2 = .top->∀ b cs,fp y=b::cs->b∉bs')/\(q.2 = .deep->∀ b∈fp y,b∉bs'):=λt h y q hy r=>
   K.excl (m:=.sh) (λb hb=>(hbs b hb).elim (λh1=>.inl (aQ x _ (.head t) hx (by rw[hfp]; exact .tail _ h1))) λh1=>(h b h1).imp (λo=>aA o λz p hz hp hf=>(aQ z p (.tail _ hz) hp hf)) id) (λq=>by cases q) y q (by
    unfold Internal.consume
    rw[N0 (by simp),<- r]
    unfold Internal.demote
    simp only[Ou,hy,false_or])
  split at hput
  ·rename_i l
   cases hput
   refine (aM rfl (ah _ ?_ (.one (λuu uu=>rfl) (λz q h=>⟨q,h⟩) org)))
   refine ((K.onK kp.k).write hx hv j Stay.not_list hZ hne (hP a (.head _)) hs (rv' (.inl l)) pb (λuu=>abs (.inl l)) (λi=>?_) λy' q hy r=>?_)
   ·refine ae (hdx i) λg1 g2=>?_
    refine ae (hdp l) λg3 g4=>?_
    refine ⟨λb hb=>?_,QC.mpr ⟨abs (.inl l),hnd (R3.mpr ⟨g2,g4,λb hb c hc q=>?_⟩)⟩⟩
    ·rcases hbs b hb with h1 | h1
     ·exact g1 b h1
     ·exact ⟨K.nz (g3 b h1),λy q _ r=>K.nf (g3 b h1) r⟩
    ·subst q
     exact K.nf (g3 b hc) hx (by rw[hfp]; exact .tail _ hb)
   ·exact exc [] (λb hb=>.inr ((hdp l).1 b hb)) y' q hy ((N0 λh=>nomatch h).trans r)
  ·split at hput
   ·exact nB hput
   ·rename_i l hxn
    cases hput
    have hx':Internal.demote σ ns x=ti (V.d (.list xs),mx):=by unfold Internal.demote; rw[N0 hxn]; exact hx
    refine (aM rfl (ah _ ?_ (.one (λuu uu=>rfl) (λz q h=>ag (c7 h) λq' h' uu=>⟨q',h'⟩) org)))
    refine (((K.onK kp.k).demote ns).write hx' hv j Stay.not_list hZ (λy' q hy r=>?_) (hP a (.head _)) hs (rv' (.inr hxn)) pb (λuu=>abs (.inr hxn)) (λi=>by cases i) λy' q hy r=>?_)
    ·refine ag (c7 r) λq' hq' _=>?_
     exact hne y' q' hy hq'
    ·exact exc ns ha y' q hy r
 ·exact nB hput
theorem AZ (eok:EnvOk env):RT env=false:=by unfold RT; rw[eok.kind]; rfl
set_option tactic.hygienic true in
theorem rK (S:SimE fns k C XP e):dY fns k C (.append x e):=by
 intro stmt h0 P Z A env σ vals fp s Q Er σ' fl j K i hN hR
 replace j:=vD j
 revert j; refine λl=>OE l (λq=>?_) (λj=>?_)
 ·clear l
  refine j6 (q) λt pt mm ap v pos spos NF j=>?_
  clear q
  subst NF
  simp only[Of,Oj] at j
  refine ae (j) λMw oe=>?_
  clear j
  refine ae (Mw) λMA hb=>?_
  clear Mw
  refine ae (MA) λMG Mz=>?_
  clear MA
  refine ae (MG) λMv hl=>?_
  clear MG
  subst Mv
  subst Mz
  refine gG hb λh1 h2 h3=>?_
  simp only[fN] at i
  replace i:=mU i
  refine Out.bind_k i λr hr hA=>?_
  clear i
  obtain ⟨ry,m⟩:=r
  refine aL hA λy hy hB=>?_
  clear hA
  refine aL hB λp hx hA=>?_
  clear hB
  obtain ⟨vv,mx⟩:=p
  refine aL hA λxs hxx i=>?_
  clear hA
  dsimp only at hy hxx i
  cases ba hy
  cases jI hxx
  clear hy hxx
  by_cases hmx:mx = .sh
  ·rw[NZ hmx] at i; exact nB i
  ·rw[N0 hmx] at i
   ·refine wZ (K.head hx hmx) λa vs n bs hv ea ra hfp hz hZ hab hne hP hdx=>?_
    refine S8 (wpAny_Call_append rfl (by rw[aT oe]; rfl) (by simpa using hl) (by rw[aT oe]; rfl) ?_) (AZ K.eok)
    refine dN K.eok.kind h2 (K.loc.var K.eok hv) (aQ a vs.toArray rfl (bJ _ n ea rfl rfl rfl) (K.eval S oe hr λu s₂ E=>?_))
    obtain ⟨kp,as,My,ha,ht,hd⟩:=E
    refine ae (My) λru zu=>?_
    clear My
    have hlen:=ra.length
    have hzl:=(sz_list.mp hz)
    refine UD (hsz:=by rw[OJ,hlen]; unfold Qw; exact AC hzl) ⟨n,kp.k.get ea rfl⟩ λh' hp hs=>?_
    refine al (hp) λn' ep=>?_
    clear hp
    have:=K.putl kp ha hd hx i hmx hv ea hfp hZ hab hne hP hdx hs (vs':=vs++[u]) (by simpa using ep) ((ra.k kp.k).append (.cons ru .nil)) (λz hz'=>by
     rcases Op.mp hz' with h | h
     ·exact hzl.2 z h
     ·rw[N1.mp h]; exact zu) (λb hb=>by
     rcases Op.mp hb with h | h
     ·exact .inl h
     ·exact .inr (by simpa using h)) (λh=>by simpa using h)
    refine ae (this) λhfl g=>?_
    clear this
    refine ag (g) λfp' K' F'=>?_
    clear g
    exact hN hfl _ vals fp' (kp.stp.same hs hZ λo e=>by rw[kp.k.get ea rfl] at e; (have oc:=Gt e; clear e; subst oc); exact Stay.not_list) K' F'
 ·cases j
end
section
theorem RA.erase (i:N7) (r:RA h vs xs bs):∃ bs',RA h (vs.eraseIdx i) (xs.eraseIdx i) bs'/\∀ b∈bs',b∈bs :=
 RA.ind (N:=λvs xs bs=>∀ i,∃ bs',RA h (vs.eraseIdx i) (xs.eraseIdx i) bs'/\∀ b∈bs',b∈bs) (λuu=>(ah ([]) RA.nil (λuu h=>(nomatch h)))) (λx r j i=>by
  cases i with
  | zero=>exact (ah _ r (λb g=>OU _ g))
  | succ i=>
   refine ag (j i) λbs' q k=>?_
   exact (ah _ (RA.cons x q) (λb g=>(Op.mp g).elim (OV _) λh=>OU _ (k b h)))) r i
theorem xA (l:uq Lt) (i:N7):l.toArray.eraseIdxIfInBounds i=(l.eraseIdx i).toArray:=by
 apply Wr.mp
 unfold Uo
 split
 ·simp
 ·rename_i h
  simp at h
  simp[List.eraseIdx_of_length_le h]
set_option tactic.hygienic true in
theorem xN (Si:SimE fns k C XP i):dY fns k C (.pop x i):=by
 intro stmt h0 P Z A env σ vals fp s Q Er σ' fl v K he hN hR
 replace v:=De v
 revert v; refine λNr=>OE Nr (λNB=>?_) (λv=>?_)
 ·clear Nr
  refine j6 (NB) λt pt mm ap vi pos spos NN v=>?_
  clear NB
  subst NN
  simp only[Of,Oj] at v
  refine ae (v) λMC oi=>?_
  clear v
  refine ae (MC) λMw l=>?_
  clear MC
  refine ae (Mw) λMA MG=>?_
  clear Mw
  refine ae (MA) λMz hl=>?_
  clear MA
  subst Mz
  subst MG
  refine gG l λh1 h2 h3=>?_
  simp only[nj] at he
  replace he:=mU he
  refine Out.bind_k he λq hq g=>?_
  clear he
  obtain ⟨ri,mi⟩:=q
  refine aL g λd hd' hA=>?_
  clear g
  refine aL hA λj hj hB=>?_
  clear hA
  refine aL hB λp hx hA=>?_
  clear hB
  obtain ⟨vv,mx⟩:=p
  refine aL hA λr hxx g=>?_
  clear hA
  dsimp only at hd' hxx g
  cases ba hd'
  cases b0 hj
  cases jI hxx
  clear hd' hj hxx
  by_cases hmx:mx = .sh\/j<0\/(r.length:N3)<=j
  ·rw[NZ hmx] at g; exact nB g
  ·rw[N0 hmx] at g
   ·replace hN:=lI g hN
    clear g hR
    have hmx':mx≠.sh:=λq=>hmx (.inl q)
    have hj0:0<=j:=Q1.mp λq=>hmx (.inr (.inl q))
    have hjl:j<r.length:=Vx.mp λq=>hmx (.inr (.inr q))
    refine wZ (K.head hx hmx') λa vs n bs hv ea ra hfp hz hZ hab hne hP hdx=>?_
    have u:=ra.length
    have hzl:=(sz_list.mp hz)
    refine S8 (wpAny_Call_method (T:="list") (id:="list.pop") rfl (by rw[aT oi]; rfl) (by simpa using hl) F.plainAttrs_list XO F.type_list_pop ?_) (AZ K.eok)
    refine dN K.eok.kind h2 (K.loc.var K.eok hv) ⟨(ah _ ea rfl),λb l=>?_,?_⟩
    ·cases l; exact (ah _ ea rfl)
    have fin:Og (Ok prog w) A (VU (Ro pos (PE [vi] env))) (λws s₁=>Og (Ok prog w) A (Sy (.builtin "list.pop") ([.ref a]++ws)) (λuu=>Q .next) Er s₁) Er s:=by
     refine lH _ oi (K.eval Si oi hq λvj m Ei=>?_)
     obtain ⟨y,is,Mv,_⟩:=Ei
     refine ae (Mv) λrj _=>?_
     clear Mv
     cases rj
     have hlt:j.toNat<vs.length:=by exact Ib hmx u
     refine Z3 XO (ah _ (y.k.get ea rfl) rfl) F.entry_list_pop (F.args_list_pop_2 _ _) (Yj a vs.toArray n j _ j.toNat vs[j.toNat] ?_ ?_ ?_ ?_) ⟨y.k.get ea rfl,?_⟩
     ·unfold Yk
      simp
      exact FX hmx hzl
     ·unfold VS
      rw[OJ,u]
      simp only[N0 (Q1.mpr hj0)]
      simp[hj0,hjl]
     ·simp[hlt]
     ·rw[OJ,u]; unfold Qw; exact AC hzl
     ·refine ag ((ra.k y.k).erase j.toNat) λbs' q1 q2=>?_
      obtain ⟨n',hup⟩:∃ n',IsL (m.heap.update a (OM λr=>r.eraseIdxIfInBounds j.toNat)) a (vs.eraseIdx j.toNat).toArray n':=by
       have:=IsL.update (y.k.get ea rfl) (λr:Oe Lt=>r.eraseIdxIfInBounds j.toNat)
       rw[xA] at this
       exact ⟨_,this⟩
      have hs:Pn a m.heap (m.heap.update a (OM λr=>r.eraseIdxIfInBounds j.toNat)):=PO ..
      have hab':a∉bs':=λh=>hab (q2 a h)
      have rv:RV (m.heap.update a (OM λr=>r.eraseIdxIfInBounds j.toNat)) (.ref a) (.d (.list (r.eraseIdx j.toNat))) (a::bs'):=by
       refine ⟨.list hup (q1.off (wr:=[a]) (λb l o e=>.inr ?_) λb o l e=>hs.extBut b o (λq=>l (by simp[q])) e),sz_list.mpr ⟨vc (UN ..) hzl.1,λz hz=>hzl.2 z (Uw hz)⟩⟩
       rw[N1.mp l] at e ⊢
       rw[y.k.get ea rfl] at e; (have oc:=Gt e; clear e; subst oc)
       exact ⟨by simp,hab'⟩
      have K':=(K.onK y.k).write (m':=.top) hx hv (y.k.get ea rfl) Stay.not_list hZ hne (hP a (.head _)) hs rv (λb l=>hP b (.tail _ (q2 b l))) (λuu=>hab') (λh=>by cases h) λy' q hy hq=>⟨λht b cs e hm=>by
       refine ce (K.top y' q hq ht) λb' cs' e' _ _ h4=>?_
       rw[e] at e'; cases e'
       exact h4 x _ (PT hy) hx (by rw[hfp]; exact .tail _ (q2 b hm)),λhd b l hm=>((K.deep y' q hq hd).1 b l).2 x _ (PT hy) hx (by rw[hfp]; exact .tail _ (q2 b hm))⟩
      exact hN _ vals _ (y.stp.same hs hZ λo e=>by rw[y.k.get ea rfl] at e; (have oc:=Gt e; clear e; subst oc); exact Stay.not_list) K' (.one (λuu uu=>rfl) (λz q h=>⟨q,h⟩) λb l hz=>(Ou.mp l).elim (λq=>N5 hz (q▸hZ)) λl=>(aC x _ hx (by rw[hfp]; exact .tail _ (q2 b l))))
    rw[aT oi] at fin ⊢
    exact Calls.callWith_builtin rfl (Calls.evalArgs_plain (Pg fin (λvs s₁ ha=>ha) λuu uu e=>e))
 ·cases v
theorem SOK.dict (K:SOK fns k h0 P Z A env h σ vals fp) (hx:σ x=ti (v,.deep)) (hfp:fp x=[a]) :
  ¬ Z a/\(∀ y q,y≠x->σ y=ti q->a∉fp y)/\¬ Spo env a/\(P a\/h0.get? a=NI):=by
 refine ae (K.deep x _ hx rfl) λj _=>?_
 refine ae (K.val x _ hx) λuu g=>?_
 refine ar (g) λu _ _ l=>?_
 clear g
 have i:a∈fp x:=by rw[hfp]; exact .head _
 exact ⟨(j a i).1,(j a i).2,l a i⟩
theorem rQ (ks:uq N3) (i:N3):stored (ks.map λk=>(k,ZO vj)) i (.bool vj)=(if i∈ks then ks else ks++[i]).map λk=>(k,.bool vj):=by
 unfold stored
 by_cases hi:i∈ks
 ·rw[NZ (by simpa using hi),NZ hi,U4]
  apply RU
  intro a _
  simp only[YC]
  split<;>rfl
 ·rw[N0 (by simpa using hi),N0 hi,Rs]
  rfl
theorem pD (ho:h.get? a=ti o) (hd:o.data = .dict es ep) (hs:Pn a h h') (r:R h (.ref a') (aP t) []) (hx:∀ x∈xs,R h (.ref x.2.1) (aP x.1) []):∀ x∈storedH xs t a' v,R h' (.ref x.2.1) (aP x.1) []:=by
 have off:∀ {v:Lt}{d:N9},R h v d []->R h' v d []:=λr=>r.off (wr:=[a]) (λb g l e=>.inl λk n q=>by rw[N1.mp g,ho] at e; (have i:=Gt e; clear e; subst i); rw[hd] at q; cases q) λb o g e=>hs.extBut b o (λq=>g (by simp[q])) e
 intro x j
 rcases mem_storedH j with ⟨y,hy,e1,e2⟩ | ⟨e1,e2⟩
 ·rw[e1,e2]; exact off (hx y hy)
 ·rw[e1,e2]; exact off r
theorem jo (xs:uq (uq N3×Oo×Lt)) (t:uq N3) (a:Oo) (v:Lt):(storedH xs t a v).map (·.1)=if t∈xs.map (·.1) then xs.map (·.1) else xs.map (·.1)++[t]:=by
 unfold storedH
 rw[jq]
 by_cases hi:t∈xs.map (·.1)
 ·rw[NZ (by simpa using hi),NZ hi,U4]
  apply RU
  intro y _
  simp only[YC,putAt]
  split<;>rfl
 ·rw[N0 (by simpa using hi),N0 hi,Rs]
  rfl
theorem l4:∀ {xs:uq N9}{ns:uq N3},aR xs=ti ns->ns.length=xs.length
 | [],ns,h=>by simp[aR] at h; subst h; rfl
 | y::xs,ns,h=>by
  cases y<;>simp only[aR] at h<;>try (cases h)
  refine b9 h λi e g=>?_
  (clear h; subst g)
  rw[OS,OS,l4 e]
theorem pW (h:d6 x=ti t) (z:sz x=vj):t.length<=2^22:=by
 cases x<;>simp only[d6] at h<;>try (cases h)
 rw[l4 h]
 exact (sz_tuple.mp z).1
set_option tactic.hygienic true in
theorem rc (S:SimE fns k C XP e):dY fns k C (.setitem x e):=by
 intro stmt h0 P Z A env σ vals fp s Q Er σ' fl ok K he hN hR
 replace ok:=uC ok
 revert ok; refine λNv=>OE Nv (λNw=>?_) (λok=>?_)
 ·clear Nv
  refine j6 (Nw) λt pt ix ps c1 c2 spos NM ok=>?_
  clear Nw
  subst NM
  simp only[Of,Oj] at ok
  refine ae (ok) λMB oe=>?_
  clear ok
  refine ae (MB) λMx hb=>?_
  clear MB
  subst Mx
  refine gG hb λh1 h2 h3=>?_
  simp only[c6] at he
  replace he:=mU he
  refine Out.bind_k he λr hr g=>?_
  clear he
  obtain ⟨ri,mi⟩:=r
  refine aL g λkd m hA=>?_
  clear g
  refine aL hA λp hx g=>?_
  clear hA
  obtain ⟨v,mx⟩:=p
  dsimp only at m g
  cases ba m
  clear m
  by_cases hmx:mx = .deep
  ·rw[NZ hmx] at g
   subst hmx
   refine wpAny_Assign_Subscript (V2 ?_)
   refine ae (K.val x _ hx) λuu MP=>?_
   refine ar (MP) λu hv hrv _=>?_
   clear MP
   dsimp only at hrv
   refine dN K.eok.kind h2 (K.loc.var K.eok hv) (K.eval S oe hr λvk s₂ E=>?_)
   obtain ⟨kk,is,ME,_⟩:=E
   refine ae (ME) λrk zk=>?_
   clear ME
   have K₂:=K.onK kk.k
   have l:=hrv.k kk.k
   have fin:∀ {a:Oo}{o:Obj}{v':V}{h':O2}{tk':N7},u = .ref a->fp x=[a]->s₂.heap.get? a=ti o->o.ExactDict->(∃ es ep,o.data = .dict es ep)->Pn a s₂.heap h'->RV h' (.ref a) v' [a]->(Out.ok (upd σ x (v',.deep),Flw.next):Out (St×Flw)) = .ok (σ',fl)->Q .next {s₂ with heap:=h',toks:=tk' }:=λ{a} {o} {v'} {h'} {tk'} hu hfp ho hox j hs rv he=>by
    (clear hrv l; subst hu)
    refine dS (K.dict hx hfp) λd1 d2 d3 d4=>?_
    have K':=K₂.write (m':=.deep) (bs':=[]) hx hv ho (j.elim λes j=>j.elim λep j=>Stay.not_dict j) d1 d2 ⟨d3,d4⟩ hs rv (λuu h=>(nomatch h)) (λuu h=>(nomatch h)) (λuu=>⟨λuu h=>(nomatch h),by simp⟩) λy q hy hq=>⟨λuu uu uu uu h=>(nomatch h),λuu uu uu h=>(nomatch h)⟩
    exact lI he hN _ vals _ (kk.stp.same hs d1 λo' e=>by rw[ho] at e; (have oc:=Gt e; clear e; subst oc); exact j.elim λes j=>j.elim λep j=>Stay.not_dict j) K' (.one (λuu uu=>rfl) (λz q h=>⟨q,h⟩) λb hb hz=>N5 hz (N1.mp hb▸d1))
   cases v with
   | dic0=>
    refine uR (l) λa MD hfp hsm hdI hdT=>?_
    clear l
    (clear hrv hv; subst MD)
    simp only[g8] at g
    split at g
    ·rename_i i hi
     (have oc:=b0 hi; (clear hr zk; subst oc))
     refine R.isInt_k rk λti oqi _=>?_
     (clear rk; subst oqi)
     have m:=hdI
     refine gw (m) λo es ep ho hox j _=>?_
     clear m
     refine V7 (UX prog w _ _) hdI (λh' hm' hs=>fin (v':=.dicI [_]) rfl hfp ho hox (cf _ _ j) hs (cV a rfl rfl hsm ?_) g) (by simp[Qw])
     simpa [stored] using hm'
    ·split at g
     ·rename_i t ht
      refine ag (fc rk ht) λa' ML hk=>?_
      subst ML
      have m:=hdT
      refine gw (m) λo es ep ho hox j _=>?_
      clear m
      refine Ww (SA (rm1 K.room.2.2)) hk hdT (λh' hm' hs=>fin (v':=.dicT [_]) rfl hfp ho hox (cf _ _ j) hs (mt a _ rfl rfl hsm hm' ?_ ?_ ?_) g) (by simp[Qw])
      ·rw[jo]; simp
      ·intro z hz
       rw[N1.mp hz]
       exact pW ht zk
      ·exact pD ho j hs (sq rk ht) λx hx=>nomatch hx
     ·exact nB g
   | dicI ks=>
    refine cg (l) λa MJ hfp hsm hdI=>?_
    clear l
    (clear hrv hv; subst MJ)
    simp only[g8] at g
    split at g
    ·rename_i i hi
     split at g
     ·rename_i n
      (have oc:=b0 hi; (clear hr zk; subst oc))
      refine R.isInt_k rk λti oqi _=>?_
      (clear rk; subst oqi)
      have m:=hdI
      refine gw (m) λo es ep ho hox j _=>?_
      clear m
      refine V7 (UX prog w _ _) hdI (λh' hm' hs=>fin (v':=.dicI _) rfl hfp ho hox (cf _ _ j) hs (cV a rfl rfl hsm ?_) g) (by rw[Oc]; unfold lim at n; unfold Qw; exact Am n)
      rw[rQ] at hm'
      exact hm'
     ·exact nB g
    ·exact nB g
   | dicT ks=>
    refine ut (l) λa xs MF hfp hsm hdT MM hks htu=>?_
    clear l
    (clear hrv hv; subst MF)
    subst MM
    simp only[g8] at g
    split at g
    ·rename_i t ht
     split at g
     ·rename_i n
      refine ag (fc rk ht) λa' MK hk=>?_
      subst MK
      have m:=hdT
      refine gw (m) λo es ep ho hox j _=>?_
      clear m
      refine Ww (SA (rm1 K.room.2.2)) hk hdT (λh' hm' hs=>fin (v':=.dicT _) rfl hfp ho hox (cf _ _ j) hs (mt a _ rfl rfl hsm hm' ?_ ?_ ?_) g) (by rw[Oc] at n; unfold lim at n; unfold Qw; exact Am n)
      ·rw[jo]
      ·intro z hz
       split at hz
       ·exact hks z hz
       ·rcases Op.mp hz with h | h
        ·exact hks z h
        ·rw[N1.mp h]; exact pW ht zk
      ·exact pD ho j hs (sq rk ht) htu
     ·exact nB g
    ·exact nB g
   | _=>simp only[g8] at g; exact nB g
  ·rw[N0 hmx] at g; exact nB g
 ·cases ok
end
section
end
section
theorem SOK.lv (hf:fns.hand=NY) (K:SOK fns k h0 P Z A env h σ vals fp):Lv A env h:=cg (K.out hf) λl m j g i=>(aG l m (K.loc.frm K.eok (j.k K.kp0) g i) g)
theorem SOK.zd (K:SOK fns k h0 P Z A env h σ vals fp) (b:Oo) (hb:Z b):dom h b:=K.zdom b hb
theorem SOK.evalX (hf:fns.hand=NY) (K:SOK fns k h0 P Z A env s.heap σ vals fp) (S:SimE fns k C XPc e) (ok:okE env.scope.names e exx=vj) (he:ev C e σ = .exc c)
  (hE:∀ x s',Stp Z s s'->Lv A env s'.heap->Exc Z s'.heap c x->Er x s'):Og (Ok prog w) A (Wv exx env) Q Er s:=by
 have g:ev C e (dC σ (fv e)) = .exc c:=by rw[aw C e _ σ (cP σ (fv e))]; exact he
 refine S ok (K.cx (fv e)) (by rw[g]; simp) (λr h=>by rw[g] at h; cases h) λj i x s' X=>?_
 rw[g] at i; cases i
 exact hE x s' X.1.stp ((K.onK X.1.k).lv hf) (Fly.exc (X.2.old K.zd))
theorem SOK.evalTX (hf:fns.hand=NY) (K:SOK fns k h0 P Z A env s.heap σ vals fp) (S:SimT fns k C XPc e) (ok:okE env.scope.names e exx=vj) (he:ev C e σ = .exc c)
  (hE:∀ x s',Stp Z s s'->Lv A env s'.heap->Exc Z s'.heap c x->Er x s'):Og (Ok prog w) A (isTrue exx env (Wv exx env)) Q Er s:=by
 have g:ev C e (dC σ (fv e)) = .exc c:=by rw[aw C e _ σ (cP σ (fv e))]; exact he
 refine S ok (K.cx (fv e)) (by rw[g]; simp) (λr h=>by rw[g] at h; cases h) λj i x s' X=>?_
 rw[g] at i; cases i
 exact hE x s' X.1.stp ((K.onK X.1.k).lv hf) (Fly.exc (X.2.old K.zd))
theorem yL:NE (aq v):=λc h=>by
 unfold aq at h
 split at h<;>cases h
theorem xM (hf:fns.hand=NY) (S:SimE fns k C XPc e):dU fns k C (.ret e):=by
 intro p u P Z A r t o v s Q Er c j K l q
 replace j:=rA j
 revert j; refine λg=>OE g (λh=>?_) (λj=>?_)
 ·clear g
  refine au (h) λn m i j=>?_
  clear h
  subst i
  simp only[iy] at l
  rcases ca l with l | ⟨_,_,l⟩
  ·exact S7 (K.evalX hf S j l q)
  ·cases l
 ·cases j
theorem wX (hf:fns.hand=NY) (S:SimE fns k C XPc e):dU fns k C (.expr e):=by
 intro u z P Z A r y t fp s Q Er c j K l x
 replace j:=nk j
 revert j; refine λg=>OE g (λh=>?_) (λj=>?_)
 ·clear g
  refine lP (h) λq p o n m i j=>?_
  clear h
  subst i
  simp only[dy] at l
  have v:RT r=false:=by unfold RT; rw[K.eok.kind]; rfl
  rcases ca l with l | ⟨_,_,l⟩
  ·exact S8 (K.evalX hf S j l x) v
  ·cases l
 ·cases j
theorem rY (hf:fns.hand=NY) (S:SimE fns k C XPc e):dU fns k C (.assign x e):=by
 intro u h0 P Z A env σ t fp s Q Er c g K j z
 replace g:=ol g
 revert g; refine λh=>OE h (λi=>?_) (λg=>?_)
 ·clear h
  refine cQ (i) λq p o n l g=>?_
  clear i
  subst l
  simp only[Of,Oj] at g
  refine ae (g) λm v=>?_
  clear g
  refine ae (m) λr hb=>?_
  clear m
  subst r
  simp only[cS] at j
  rcases ca j with j | ⟨_,_,j⟩
  ·refine ae (Cz j) λj y=>?_
   exact WU (K.evalX hf S v j z) (kF y v _ _ _)
  ·cases j
 ·cases g
theorem xE (hf:fns.hand=NY) (T:SimT fns k C XPc c) (Xa:fm fns k C a) (Xb:fm fns k C b):dU fns k C (.ite c a b):=by
 intro stmt h0 P Z A env σ z fp s Q Er c' h K g y
 replace h:=wC h
 revert h; refine λi=>OE i (λj=>?_) (λh=>?_)
 ·clear i
  refine cQ (j) λp o n m l h=>?_
  clear j
  subst l
  simp only[Of] at h
  simp only[iu] at g
  rcases ca g with g | ⟨r,hr,g⟩
  ·exact ZF (K.evalTX hf T h.1.1 g y)
  ·rcases ca g with g | ⟨t,ht,g⟩
   ·exact N5 g (yL c')
   ·refine ZF (K.evalT T h.1.1 (b:=t) (by rw[hr]; exact ht) λs₁ v=>?_)
    have K₁:=K.onK v.k
    cases t with
    | true=>
     rw[NZ rfl] at g ⊢
     exact Xa h.1.2 K₁ g λx u q=>y x u (v.stp.trans q)
    | false=>
     simp only[OL,PA] at g ⊢
     exact Xb h.2 K₁ g λx u q=>y x u (v.stp.trans q)
 ·cases h
theorem ud {st:S}{r:Ss}(S:dY fns k C st) (X:dU fns k C st) (Xr:fm fns k C r):fm fns k C (.cons st r):=by
 intro p h0 P Z A env σ y fp s Q Er c g K j z
 replace g:=sk g
 revert g; refine λh=>OE h (λi=>?_) (λg=>?_)
 ·clear h
  refine au (i) λn m l g=>?_
  clear i
  subst l
  simp only[Of] at g
  simp only[aE] at j
  rcases ca j with j | ⟨⟨σ₁,fla⟩,h1,j⟩
  ·exact P0 (X g.1 K j z)
  ·dsimp only at j
   cases fla with
   | ret v=>cases j
   | next=>
    refine P0 (S g.1 K h1 (λuu s' o fp' st K' F=>?_) λq e=>by cases e)
    exact Xr g.2 K' j λx u t=>z x u (st.trans t)
 ·cases g
theorem wO:fm fns k C .nil:=by
 intro g o P Z A j l h p s Q Er c m K i n
 simp only[dl] at i
 cases i
theorem t0 (hf:fns.hand=NY) (hC:eI fns k C XPc):dU fns k C (.raise c):=by
 intro x h0 P Z A env σ v fp s Q Er c' h K l hE
 replace h:=yg h
 revert h; refine λi=>OE i (λj=>?_) (λh=>?_)
 ·clear i
  refine j6 (j) λr np t kk p2 cp pos m h=>?_
  clear j
  subst m
  simp only[Of,Oj,OT] at h
  refine ae (h) λp hl=>?_
  clear h
  refine ae (p) λn hd=>?_
  clear p
  refine ae (n) λu hg=>?_
  clear n
  subst u
  simp only[ed] at l
  cases hc:C c with
  | none=>rw[hc] at l; cases l
  | some g=>
   rw[hc] at l
   simp only[am] at l
   split at l
   ·rename_i hn
    cases l
    have z:=(hC c g hc).2.1 hn
    have ge:=K.ge.k K.kp0
    refine ar (ge.exc) λmg g1 g2 _=>?_
    refine ae (g2 c z) λgm xd=>?_
    refine xd.1.use @λN nm q bs hdct sn sub ab col dd k0 k1 k2 k3 k5 mN e1 e2 e3 e4=>?_
    refine wpAny_Raise_call_subT (C:=SF.exc c) (nm:=nm) (q:=q) (N:=N) (bs:=bs) (bm:=bY c) (hdct:=hdct) (sn:=sn) (sub:=sub) (ab:=ab) (col:=col) (dd:=dd) (k0:=k0) (k1:=k1) (k2:=k2) (k3:=k3) (k5:=k5)
     RW (mN:=mN) (e4.hasType RW.hasBase) (K.room.1 hf) rfl e3 (Calls.Name_function_global K.eok.kind (dX hg) (Calls.loadGlobal_global (K.eok.glob▸g1) gm ⟨rfl,?_⟩) (nd hd))
    refine Calls.evalArgs_plain (Qn (Wi (Sr (l8 rfl (by show 1<=Qw; rw[Pz]; exact Fd) e1 e2 e4 (λh' e Mk=>?_)))) rfl)
    refine ar (Mk.there) λtt m1 m2 m3=>?_
    have y:Kp s {s with heap:=h',toks:=s.toks+1 }:=.of Mk.keeps
    refine hE _ _ y.stp ((K.onK y.k).lv hf) (aQ e _ rfl (cF (λq=>(by obtain ⟨o,eo⟩:=K.zdom e q; rw[Mk.new] at eo; cases eo)) z (aG _ m1 rfl rfl)) (.inl rfl))
   ·cases l
 ·cases h
theorem oY {α β:Type}{o:Out α}{f:α->Out β}{c:If}(h:o.calm.bind f = .exc c):∃ a,f a = .exc c:=by
 cases o with
 | ok a=>exact ⟨a,h⟩
 | exc c=>cases h
 | bad=>cases h
theorem Cj {α β:Type}{o:Out α}{f:α->Out β}{c:If}{G:Prop}(h:o.calm.bind f = .exc c) (k:∀ a,f a = .exc c->G):G:=al (oY h) k
theorem yV (h:am o f = .exc c):∃ a,f a = .exc c:=by
 cases o with
 | some a=>exact ⟨a,h⟩
 | none=>cases h
theorem ei {α β:Type}{o:NX α}{f:α->Out β}{c:If}{G:Prop}(h:am o f = .exc c) (k:∀ a,f a = .exc c->G):G:=al (yV h) k
theorem fS {st:S}(h:∀ σ c,ex C st σ≠.exc c):dU fns k C st:=by
 intro i o P Z A l σ g p s Q Er c m K j n
 exact N5 j (h σ c)
theorem rg:dU fns k C (.setitem x e):=fS λg c h=>by rw[c6] at h; exact NE.calm c h
theorem rP:dU fns k C (.append x e):=fS λg c h=>by rw[fN] at h; exact NE.calm c h
theorem xi:dU fns k C (.pop x i):=fS λg c h=>by rw[nj] at h; exact NE.calm c h
theorem wT:dU fns k C (.retn x):=fS λg c h=>by
 simp only[ln] at h
 split at h<;>cases h
theorem xg:dU fns k C .bad:=fS λg c h=>by simp only[Cv] at h; cases h
end
section
end
section
variable {M:VA}{A:OI}{E:Lt->NU->Prop}{g:Oe Vz}{dr:Zm}{tk:N7}{os:WG}
theorem rX
  (hC:h.get? C=ti (PP nm q C N bs bm hdct sn sub ab col dd k0 k1 k2 k3 k5 ni)) (hD:h.get? D=ti (PP nm' q' D N' bs' bm' hdct' sn' sub' ab' col' dd' j0 j1 j2 j3 j5 ni')) (he:h.get? e=ti oe) (hcls:oe.cls = .ref C) (hbase:bm'.contains (.type "BaseException")=vj)
  (hq:Q ((OR C::bm).contains (.ref D)) ⟨h,g,dr,tk,os⟩):Og M A (Z6 (.ref e) (.ref D)) Q E ⟨h,g,dr,tk,os⟩:=by
 have i:(OR D::bm').contains (.type "BaseException")=true:=by rw[Tp,hbase,U3]
 have f:=tc_notTuple
 unfold Z6
 repeat (first | (with_reducible refine O3 he ?_; rw[hcls]) | with_reducible refine O3 hD ?_ | (with_reducible refine QE hD ?_; rw[i]) | with_reducible refine QE hC ?_ | wp_step)
 cases hb:(OR C::bm).contains (.ref D)<;>(rw[hb] at hq; wp_walk; exact hq)
end
section
theorem SOK.hand (hf:fns.hand=NY) {h:O2}(K:SOK fns k h0 P Z A env h σ vals fp) (v:Lt):SOK {fns with hand:=vj } k h0 P Z (A.mark (ti v)) env h σ vals fp where
 room:=by
  refine ae (K.room.at hf) λi g=>?_
  refine ⟨(λq=>by cases q),?_,?_⟩
  ·show A.depth+2*k+1<_; exact Ji i
  ·show A.units+100*k+200<_; exact J9 g
 eok:=K.eok
 ge:=K.ge.flag _
 z0:=K.z0
 kp0:=K.kp0
 out:=λq=>by exact nT q
 zdom:=K.zdom
 loc:=K.loc
 val:=K.val
 top:=K.top
 deep:=K.deep
theorem sL (hX:∀ t g,C t=ti g->t∈excNames->t∈SF.excN) (t:If) (g:uq V->Out (V×Mode)) (h:gd C t=ti g) (ht:t∈excNames):t∈SF.excN:=hX t g ((NZ ht).symm.trans h) ht
theorem Ak (hX:∀ t g,C t=ti g->t∈excNames->t∈SF.excN) {h0:O2}{P Z:Oo->Prop}{A:OI}{env:Env}{Q:ZE->NU->Prop}{Er:Lt->NU->Prop}{r:V×Mode}(b:uq H1):∀ {stmts:uq Q6}{σ:St}{vals:If->NX Lt}{fp:If->uq Oo}{s:NU},
  tn env.scope.names b stmts=vj->SOK fns k h0 P Z A env s.heap σ vals fp->exH C b σ = .ok r ->
  (∀ v s',Stp Z s s'->mM h0 P r v s'->(∃ m,s'.heap.Ns env.locals m)->Q (.ret v) s') ->
  Og (Ok prog w) A (Yi stmts env) Q Er s:=by
 induction b with
 | nil=>exact λ_ _ h _=>nB h
 | cons a b ih=>
  intro stmts σ vals fp s ok K h y
  refine aj ok λq e1 ok=>?_
  refine aW ok λp o2=>?_
  rw[dD e1]
  cases a with
  | asg x e=>
   replace h:(if hOk e then (ev (gd C) e σ).bind λq=>exH C b (upd (consume σ (fv e) q.2) x q) else .bad) = .ok r:=h
   by_cases hh:hOk e=vj
   ·rw[NZ hh] at h
    refine Out.bind_k h λv hv h=>?_
    have S:SimE fns k (gd C) XPc e:=(jv c8 (sL hX) e hh).e
    refine P0 (kR (x:=x) S (λq=>(by cases e<;>first | exact nF q | exact nF hh)) (show okS env.scope.names (.assign x e) q.1=vj from p) K (σ':=upd (consume σ (fv e) v.2) x v) (fl:=.next) (by simp only[cS]; rw[lY hv]; rfl) (λuu o j n i K₁ F₁=>?_) λr q=>by cases q)
    exact ih o2 K₁ h λv s' st=>y v s' (i.trans st)
   ·rw[N0 hh] at h; exact nB h
  | ret e=>
   replace h:(if hOk e then ev (gd C) e σ else .bad) = .ok r:=h
   by_cases hh:hOk e=vj
   ·rw[NZ hh] at h
    have S:SimE fns k (gd C) XPc e:=(jv c8 (sL hX) e hh).e
    refine P0 ?_
    refine au ((rA (show okS env.scope.names (.ret e) q.1=vj from p)).resolve_right id) λNX z l ok3=>?_
    rw[l]
    exact S7 (K.eval S ok3 h λu s' E=>y u s' E.keeps.stp (sb K E) (ag ((K.onK E.keeps.k).loc.ns) λm hm _=>⟨m,hm⟩))
   ·rw[N0 hh] at h; exact nB h
noncomputable def KI (fns:Fns) (k:N7) (C:Calls) (st:S):Prop:=∀ {stmt:Q6}{h0:O2}{P Z:Oo->Prop}{A:OI}{env:Env}{σ:St}{vals:If->NX Lt}{fp:If->uq Oo}{s:NU}{Q:ZE->NU->Prop}{Er:Lt->NU->Prop}{c:If},
 okS env.scope.names st stmt=vj->SOK fns k h0 P Z A env s.heap σ vals fp->ex C st σ = .exc c->(∀ x s',XPc c s x s'->Er x s')->Og (Ok prog w) A (exec stmt env) Q Er s
theorem SOK.evalK (K:SOK fns k h0 P Z A env s.heap σ vals fp) (S:SimE fns k C XPc e) (ok:okE env.scope.names e exx=vj) (he:ev C e σ = .exc c)
  (hE:∀ x s',XPc c s x s'->Er x s'):Og (Ok prog w) A (Wv exx env) Q Er s:=by
 have g:ev C e (dC σ (fv e)) = .exc c:=by rw[aw C e _ σ (cP σ (fv e))]; exact he
 refine S ok (K.cx (fv e)) (by rw[g]; simp) (λr h=>by rw[g] at h; cases h) λj i x s' X=>?_
 rw[g] at i; cases i
 exact hE x s' X
theorem yX (hb:uz b=vj) (Se:∀ e,b = .expr e->SimE fns k C XPc e):KI fns k C b:=by
 intro u z P Z A r y t fp s Q Er c j K l x
 cases b with
 | expr e=>
  replace j:=nk j
  revert j; refine λg=>OE g (λh=>?_) (λj=>?_)
  ·clear g
   refine lP (h) λq p o n m i j=>?_
   clear h
   subst i
   simp only[dy] at l
   have v:RT r=false:=by unfold RT; rw[K.eok.kind]; rfl
   rcases ca l with l | ⟨_,_,l⟩
   ·exact S8 (K.evalK (Se e rfl) j l x) v
   ·cases l
  ·cases j
 | _=>exact nF hb
theorem CS (hf:fns.hand=NY) (hC:eI fns k C XPc) (u:SOK fns k h0 P Z A env s.heap σ vals fp) (hR:∀ v s',Stp Z s s'->mM h0 P q v s'->Q (.ret v) s') (hs:uq (If×HB)):∀ {us:uq Q3}{h:O2}{tk:N7},uf env.scope.names hs us=vj ->
  K s.heap h->FlyA (dom s.heap) h c .none v->FrOk h l->jA C c σ hs = .ok q->Og (Ok prog w) A (handleBy v env us) Q Er {s with heap:=h,toks:=tk }:=by
 induction hs with
 | nil=>exact λ_ _ _ _ he=>nB he
 | cons p r ih=>
 intro us h tk ok kk fly fr he
 refine aj ok λuq e0 o1=>?_
 rw[dv e0]
 refine aW o1 λo1 o2=>?_
 refine aj o1 λq1 e1 o1=>?_
 refine aj o1 λn e2 o1=>?_
 refine aW o1 λo1 ob=>?_
 refine aW o1 λo1 hg=>?_
 refine aW hg λhg hd=>?_
 have hn:=Oj.mp o1
 clear o1 ok
 refine al (yc e1) λpos e3=>?_
 rw[e3,a8 e2,hn]
 refine aL (show am (C p.1) (λuu=>if p.1∈excNames then (if p.1=c\/p.1 = "PickError" then DP C c σ p.2 else jA C c σ r) else .bad)=_ from he) λgC hgC he=>?_
 by_cases hne:p.1∈excNames
 rotate_left
 ·rw[N0 hne] at he; exact nB he
 rw[NZ hne] at he
 have hX:∀ t g,C t=ti g->t∈excNames->t∈SF.excN:=λt g h1 h2=>(hC t g h1).2.1 h2
 have hdN:=hX p.1 gC hgC hne
 have ge:=u.ge.k (KG.trans u.kp0 kk)
 refine ar (ge.exc) λmg g1 g2 g3=>?_
 refine ae (g2 p.1 hdN) λgm xd=>?_
 refine xd.1.use λd1 d2 d3 d4=>?_
 clear xd
 have fly':=fly
 refine aA (fly) λe vs Mz Mv _=>?_
 clear fly
 subst Mz
 refine aK (Mv) λne cn Nx=>?_
 clear Mv
 refine ar (Nx) λoe ee hc hdt=>?_
 clear Nx
 refine (g2 c cn).2.1.use λc1 c2 c3 c4=>?_
 refine wpAny_handleBy_cons (codeAny_handlers_test (Calls.Name_function_global u.eok.kind (dX hg) (Calls.loadGlobal_global (u.eok.glob▸g1) gm ?_) (nd hd))) (by intro q; cases q)
 refine rX c1 d1 ee hc (d4.hasType RW.hasBase) ?_
 rw[pI g3 cn hdN]
 clear c1 c2 c3 c4 d1 d2 d3 d4 gm g1 g2 g3 ge hdt hgC hdN
 by_cases hm:p.1=c\/p.1 = "PickError"
 rotate_left
 ·rw[N0 hm] at he
  rw[OC hm]
  exact ih o2 kk fly' fr he
 rw[NZ hm] at he
 rw[OA hm]
 cases hb:p.2 with
 | num i=>
  rw[hb] at he ob
  refine aW ob λhnm ob=>?_
  rw[cv hnm]
  refine codeAny_handlers_suite (hJ (l:=l) fr fly' λz fd kd j=>?_)
  have k04:K s.heap z:=Internal.K.step kk kd λb o e=>⟨o,e⟩
  have std:Stp Z s {s with heap:=z,toks:=tk }:=(aC z tk rfl (k04.mono λuu uu=>trivial))
  exact Ak (fns:={fns with hand:=vj }) (s:={s with heap:=z,toks:=tk }) hX [.ret (.int i)] ob ((u.onK k04).hand hf (.ref e)) he λv s6 st6 R6 hK=>hR v s6 (std.trans st6) R6
 | nam x r=>
 rw[hb] at he ob
 refine aW ob λob1 ob=>?_
 refine aW ob1 λhnm b1=>?_
 refine aW b1 λb1 b2=>?_
 replace hnm:=Oj.mp hnm
 replace b2:=Oj.mp b2
 rw[hnm]
 refine Out.bind_k he λq' he hq=>?_
 by_cases hsc:nu q'.1=vj
 rotate_left
 ·rw[N0 hsc] at hq; exact nB hq
 rw[NZ hsc] at hq
 clear ob1 hnm ih o2
 refine codeAny_handlers_suite_as (hJ (l:=l) fr fly' λz fd kd j=>?_)
 have k04:K s.heap z:=Internal.K.step kk kd λb o e=>⟨o,e⟩
 have ree:RV z (.ref e) (.err c) [e]:=by
  refine aA (fd) λe' vs' q1 MC _=>?_
  clear fd
  obtain ⟨_,_,oe',ee',hc',_⟩:=MC
  cases q1
  exact ⟨e,oe',rfl,rfl,ee',hc',cn⟩
 have std:Stp Z s {s with heap:=z,toks:=tk }:=(aC z tk rfl (k04.mono λuu uu=>trivial))
 clear fd j kd fly' fr kk ee hc cn
 have nfp:∀ y q,σ y=ti q->e∉fp y:=λy q hq hm=>by
  refine ae (u.val y q hq) λuu ow=>?_
  refine ar ow λv _ hr _=>?_
  exact ne (hr.there e hm)
 have nz:¬ Z e:=λhz=>ne (u.zdom e hz)
 refine gG b1 λg1 g2 g3=>?_
 refine ((u.onK k04).hand hf (.ref e)).put (s:={s with heap:=z,toks:=tk }) (x:=x) (r:=(.err c,.sh)) (as:=[e]) g1 g3 ree (λa ha=>?_) (λq=>by cases q) (λq=>by cases q) (λy q hy hq=>⟨λ_ a bs ea ha=>?_,λ_ a ha hm=>?_⟩) λs5 st5 kp5 K5=>?_
 ·rw[N1.mp ha]
  exact ⟨λq=>ag (u.loc.at q).2 λo eo _=>ne ⟨o,eo⟩,.inr (u.h0n nz)⟩
 ·exact nfp y q hq (by rw[ea,N1.mp ha]; exact .head _)
 ·exact nfp y q hq (N1.mp hm▸ha)
 refine Ak (fns:={fns with hand:=vj }) (s:=s5) hX r ob K5 he λv s6 st6 R6 hK=>?_
 refine al (hK) λm hm=>?_
 refine wpAny_nameGoes b2 hm (by rw[u.eok.kind]; rfl) λh₇ m' hng hs=>?_
 have ns:∀ o,s6.heap.get? env.locals=ti o->¬ Stay o:=λo e=>aX hm λo' es ep e' hd _=>Stay.not_dict (Gt (e'.symm.trans e)▸hd)
 have oc:=Out.ok.inj hq
 subst oc
 refine hR v _ (((std.trans st5).trans st6).trans ((Stp.refl Z s6).same hs u.loc.nz ns)) ?_
 refine cg (R6) λas r1 r2 r3 r4=>?_
 cases r1.scal_nil hsc
 exact ⟨[],r1.onG (KG.same (G:=λb=>b≠env.locals) hs (λq=>q rfl) ns) (λa h=>nomatch h),r2,r3,r4⟩
theorem xT (hf:fns.hand=NY) (hC:eI fns k C XPc) (Sb:dY fns k C b) (Se:∀ e,b = .expr e->SimE fns k C XPc e):dY fns k C (.tryS b hs):=by
 intro stmt h0 P Z A env z vals fp s Q Er y fl ok K g hN hR
 refine lF (Dz ok) λt d ds p My ob oh=>?_
 (clear ok; subst My)
 rw[fY] at g
 refine wpAny_Try_except (P0 ?_)
 cases o:ex C b z with
 | ok a=>
  rw[o] at g
  exact Sb ob K (o.trans g) (λe s' j fp' st K' F=>Sw (Sw (hN e s' j fp' st K' F))) hR
 | bad=>rw[o] at g; exact nB g
 | exc c=>
  rw[o] at g
  replace g:(if uz b then (jA C c z hs).calm.bind λq=>.ok (z,.ret q) else .bad) = .ok (y,fl):=g
  by_cases h1:uz b=vj
  rotate_left
  ·rw[N0 h1] at g; exact nB g
  rw[NZ h1] at g
  refine CU g λq o2 g=>?_
  refine yX h1 Se ob K o λx s₁ X=>?_
  refine ae (X) λm fly=>?_
  clear X
  refine au (m) λr tka Mx h=>?_
  clear m
  subst Mx
  refine ar ((K.onK h).lv hf) λl l1 l2 l3=>?_
  have hN':∀ b,dom s.heap b->∃ o,r.get? b=ti o:=λb ⟨o,e⟩=>ag (h b o (.inl trivial) e) λo' e' uu=>⟨o',e'⟩
  refine uN hN' l1 l2 l3 (Fly.exc fly) λhb v i=>hJ (i.frames l2) v λhc u n F₃=>?_
  exact CS hf hC K (AY g hR) hs oh (Internal.K.step (Internal.K.step h i.kg λb o e=>⟨o,e⟩) n λb o e=>⟨o,e⟩) u F₃ o2
theorem yi:dU fns k C (.tryS b hs):=fS λg c h=>by
 rw[fY] at h
 cases o:ex C b g with
 | ok a=>rw[o] at h; cases h
 | exc c=>
  rw[o] at h
  simp only[orH] at h
  split at h
  ·exact Cj h λq h=>by cases h
  ·cases h
 | bad=>rw[o] at h; cases h
end
section
variable {fns:Fns}{k:N7}{C:Calls}{XP:If->NU->Lt->NU->Prop}
variable {h0:O2}{P Z:Oo->Prop}{A:OI}{env:Env}{σ:St}{vals:If->NX Lt}{fp:If->uq Oo}
theorem Fo (y:If) (q:V×Mode) (hy:σ y=ti q):∃ q',Internal.consume σ ns md y=ti q':=by
 unfold Internal.consume
 split
 ·exact ⟨q,hy⟩
 ·unfold Internal.demote
  split
  ·exact ⟨_,by rw[hy]; rfl⟩
  ·exact ⟨q,hy⟩
inductive FI (fns:Fns) (k:N7) (C:Calls) (h0:O2) (P Z:Oo->Prop) (A:OI) (env:Env) (x:If) (b:Ss) (s s₂:NU) (ds:uq N9) (F wr:uq Oo) (St:N7->O2->Prop) (out:Out (Internal.St×Flw)) (σ₀:Internal.St) (vals:If->NX Lt) (fp:If->uq Oo) (n:N7) (s':NU):Prop
 | mk (j:N7) (σj:Internal.St) (vals':If->NX Lt) (fp':If->uq Oo):Stp Z s s'->SOK fns k h0 P (λb=>Z b\/(b∈F\/b∈wr)) A env s'.heap σj vals' fp'->St j s'.heap->j<=ds.length->n=ds.length+1-j ->
    loopS (λy σ=>exs C b (upd σ x (mk (.d y)))) (ds.drop j) σj=out->KG (λb=>Z b\/b∈F) s₂.heap s'.heap->Frm (λb=>Z b\/b∈wr) (x::asgs b) σ₀ vals fp σj vals' fp'->FI fns k C h0 P Z A env x b s s₂ ds F wr St out σ₀ vals fp n s'
set_option maxHeartbeats 1000000 in
theorem vX {pt:Pos}(Si:fe fns k C XP it) (Sb:fk fns k C b) (Xb:fm fns k C b)
  (oi:fE env.scope.names it iter=vj) (ob:cK env.scope.names b body=vj) (hb:bE env.scope.names x=vj) (K:SOK fns k h0 P Z A env s.heap σ vals fp) (e1:be C it σ = .ok (ds,md)) (he1:loopS (λy σ=>exs C b (upd σ x (mk (.d y)))) ds (Internal.consume σ (bD it) md)=out) (hnb:out≠.bad)
  (hN:∀ σ',out = .ok (σ',.next)->∀ s' vals' fp',Stp Z s s'->SOK fns k h0 P Z A env s'.heap σ' vals' fp'->Frm Z (x::asgs b) σ vals fp σ' vals' fp'->Q .next s')
  (hR:∀ σ' r,out = .ok (σ',.ret r)->∀ v s',Stp Z s s'->mM h0 P r v s'->Q (.ret v) s') (hX:∀ c,out = .exc c->∀ x s',Stp Z s s'->Lv A env s'.heap->Exc Z s'.heap c x->Er x s'):Og (Ok prog w) A (exec (.For (.Name (oD x) pt) iter body [] spos) env) Q Er s:=by
 rw[<- fM C it _ σ (cP σ _)] at e1
 refine wpAny_For (Si oi (K.cx (bD it)) (by rw[e1]; simp) (λq' hq' i s₂ I=>?_) λc hc=>by rw[e1] at hc; cases hc) (tJ oi env)
 rw[e1] at hq'; (have oc:=Out.ok.inj hq'; clear hq'; subst oc)
 refine gG hb λg1 _ g3=>?_
 obtain ⟨kpb,I,fpw,wr,Pw,St,F,MD,W,hst,hwr,hfp,hPw,hF,hFP,hFd,hsm⟩:=I
 subst MD
 dsimp only at hsm hPw W hFd
 have wz:∀ b∈wr,¬ Z b:=λb p=>K.nz (hwr b p).1
 have sw:∀ a,Spo env a->a∉wr:=λa t p=>(K.new (hwr a p).1).1 t
 have FP:∀ a∈F,¬ Spo env a/\(P a\/h0.get? a=NI):=λa ha=>K.own (hFP a ha)
 have nf:∀ b∈wr,∀ y q,Internal.consume σ (bD it) md y=ti q->b∉fp y:=λb p y q hq=>al (cL hq) λq' hq'=>K.nf (hwr b p).1 hq'
 have K₂:SOK fns k h0 P (λb=>Z b\/(b∈F\/b∈wr)) A env s₂.heap (Internal.consume σ (bD it) md) vals fp :=
  ((K.onK kpb.k).consume (bD it) md).freeze (λb hb=>hb.elim (λhb=>bz (hF b hb) λ_ _ e=>⟨_,e⟩) λhb=>ag ((hwr b hb).2.2 0 _ hst) λo e _=>⟨o,e⟩) (λa t p=>p.elim (λp=>(FP a p).1 t) (sw a t))
   (λy q hq hqt a bs e p=>p.elim ((K.excl hFP hFd y q hq).1 hqt a bs e) λp=>nf a p y q hq (by rw[e]; exact .head _)) λy q hq hqd a ha p=>p.elim ((K.excl hFP hFd y q hq).2 hqd a ha) λp=>nf a p y q hq ha
 refine codeAny_forLoop_any (FI fns k C h0 P Z A env x b s s₂ ds F wr St out (Internal.consume σ (bD it) md) vals fp) ?_ (ds.length+1) (.mk 0 _ vals fp kpb.stp K₂ hst (Pf _) rfl he1 KG.refl (.id λz q h=>⟨q,h⟩))
 intro n s' H
 refine FI.casesOn H λj σj vals' fp' stp' K' hst' hj MF m hkp hfr=>?_
 subst MF
 have Zr:∀ g tka,(∀ b o,b∉wr->s'.heap.get? b=ti o->g.get? b=ti o)->KG (λb=>b∉wr) s'.heap g/\Stp Z s {s' with heap:=g,toks:=tka }:=λg tka hka=>by
  have kg:KG (λb=>b∉wr) s'.heap g:=KG.ofW hka λb p o e=>ar ((hwr b p).2.2 j _ hst') λo' e' _ q=>Stay.not_fields (Gt (e'.symm.trans e)▸q)
  refine ⟨kg,au stp' λhh tk' MK kk=>?_⟩
  (clear K' hkp hst' hka H; subst MK)
  exact (aC g tka rfl (kk.trans (kg.mono λb hz p=>wz b p hz)))
 have mv:∀ {Z'} g,KG (λb=>b∉wr) s'.heap g->(∀ b,Z' b->∃ o,g.get? b=ti o)->SOK fns k h0 P Z' A env s'.heap σj vals' fp'->SOK fns k h0 P Z' A env g σj vals' fp':=λg kg hz K''=>K''.onG kg (λb o e p=>wz b p (K.z0 b o e)) hz sw λy q hq a ha p=>hfr.2 a (.inr p) (nf a p) y q hq ha
 by_cases hlt:j<ds.length
 ·obtain ⟨d,hd⟩:∃ d,ds[j]? = ti d:=⟨_,Oh hlt⟩
  have hdd:ds.drop j=d::ds.drop (j+1):=by
   rw[PM hlt]
   rw[Oh hlt] at hd
   (have oc:=Gt hd; clear hd; subst oc); rfl
  rw[hdd] at m
  simp only[loopS] at m
  refine W.item j _ _ _ hlt hst' λv g tka hPv hsta hka=>?_
  refine ae (Zr g tka hka) λkg stpa=>?_
  have K₁:=mv g kg (λb hb=>by
   by_cases p:b∈wr
   ·exact ag ((hwr b p).2.2 (j+1) g hsta) λo e _=>⟨o,e⟩
   ·exact al (K'.zdom b hb) λo e=>⟨o,hka b o p e⟩) K'
  refine ag (hPw j v hPv d hd) λbs hrv hbs=>?_
  have hkpa:KG (λb=>Z b\/b∈F) s₂.heap g:=hkp.trans (kg.mono λb hb p=>hb.elim (wz b p) (hwr b p).2.1)
  have hrva:R g v d bs:=hrv.onG hkpa λb hb=>.inr (hbs b hb)
  have hfpH:∀ b∈fpw,∀ o,g.get? b=ti o->hardB o=true:=λb hb o e=>by
   rcases hfp b hb with hb | hb
   ·exact ar ((hwr b hb).2.2 _ _ hsta) λo' e' hh _=>Gt (e'.symm.trans e)▸hh
   ·refine bz (hF b hb) λvs' n' e'=>?_
    exact Gt ((hkpa.hard (.inl (.inr hb)) e' rfl).symm.trans e)▸rfl
  have hzd:sz d=true:=hsm.2 d (PF hd)
  refine Od (SW (K₁.put (r:=mk (.d d)) (as:=bs) g1 g3 ⟨hrva,hzd⟩ (λa ha=>FP a (hbs a ha)) (λh=>N5 h lB) (λh=>?_) (λy q hy hq=>⟨λht a cs e p=>?_,λhdp a ha p=>((K₁.deep y q hq hdp).1 a ha).1 (.inr (.inl (hbs a p)))⟩) λsc stc _ K₃=>?_))
  ·rw[hrva.sx_nil (jN h)]
   exact ⟨λuu h=>(nomatch h),.nil⟩
  ·refine aA (K₁.top y q hq ht) λa' bs' e' h1 _=>?_
   exact h1 (.inr (.inl (hbs a' ((PS (e.symm.trans e')).1▸p))))
  have hfx:Frm (λb=>Z b\/b∈wr) (x::asgs b) (Internal.consume σ (bD it) md) vals fp (upd σj x (mk (.d d))) (gj vals' x v) (λy=>if y=x then bs else fp' y):=by
   refine ⟨λy hy=>?_,λb' hz hb' z q hq p=>jM hq (λe _=>?_) λe hq=>?_⟩
   ·have e:y≠x:=λq=>hy (q▸.head _)
    exact ⟨(N0 e).trans (hfr.1 y hy).1,(N0 e).trans (hfr.1 y hy).2⟩
   ·replace p:b'∈bs:=by dsimp only at p; rwa [NZ e] at p
    exact hz.elim (λhz=>(hFP b' (hbs b' p)).elim (λo=>aA o λy q _ h1 h2=>al (Fo y q h1) λq' hq'=>hb' y q' hq' h2) λh1=>K.nz h1 hz) λhw=>(hwr b' hw).2.1 (hbs b' p)
   ·dsimp only at p
    rw[N0 e] at p
    exact hfr.2 b' hz hb' z q hq p
  have bodyc:∀ s₄,Stp (λb=>Z b\/(b∈F\/b∈wr)) sc s₄->Stp Z s s₄/\St (j+1) s₄.heap/\KG (λb=>Z b\/b∈F) s₂.heap s₄.heap:=λs₄ u=>by
   have st:=stc.trans u
   refine ⟨stpa.trans (st.mono λb hb=>.inl hb),?_⟩
   refine au (st) λh₄ tkd MS kkd=>?_
   (clear u st; subst MS)
   exact ⟨W.frame _ _ _ hsta λb hb o e=>kkd.hard (.inl (.inr (hfp b hb).symm)) e (hfpH b hb o e),hkpa.trans (kkd.mono λb hb=>hb.imp id .inl)⟩
  cases hbody:exs C b (upd σj x (mk (.d d))) with
  | bad=>rw[hbody] at m; exact N5 m.symm hnb
  | exc c=>
   rw[hbody] at m
   refine Xb ob K₃ hbody λz s₄ u lv exc=>?_
   refine ar (lv) λl l1 l2 l3=>?_
   clear lv
   refine au ((bodyc s₄ u).1) λh₄ tkd e₄ kkd=>?_
   (clear u; subst e₄)
   refine Jv (N:=Z) (λb hb=>?_) l1 l2 l3 (exc.old λb hb=>.inl hb) λh' ex' kg' fr'=>hX c m.symm z _ (aC h' tkd rfl (kkd.trans kg')) (aG l l1 fr' l3) ex'
   exact al (K.zdom b hb) λo e=>ag (kkd b o (.inl hb) e) λo' e' _=>⟨o',e'⟩
  | ok o=>
  obtain ⟨σ₁,fla⟩:=o
  rw[hbody] at m
  simp only[Out.ok_bind] at m
  refine Sb ob K₃ hbody (λe s₄ valsd fpd u Kd F₄=>?_) λr e v s₄ u Rd=>?_
  ·(clear hbody; subst e)
   refine aK (bodyc s₄ u) λq1 q2 q3=>?_
   exact (ah (ds.length+1-(j+1)) (tv hlt) (.mk (j+1) σ₁ valsd fpd q1 Kd q2 hlt rfl m q3 ((hfx.trans (F₄.less λb hb=>hb.imp id .inr)).more λy hy=>(Op.mp hy).elim (λh=>h) (VN _))))
  ·(clear hbody; subst e)
   exact hR σ₁ r m.symm v s₄ (bodyc s₄ u).1 Rd
 ·have hjl:j=ds.length:=by exact An hj hlt
  (clear hj hlt; subst hjl)
  rw[QY] at m
  simp only[loopS] at m
  refine W.done _ _ _ hst' λg tka hka=>?_
  refine ae (Zr g tka hka) λkg st1=>?_
  exact Sw (hN σj m.symm {s' with heap:=g,toks:=tka } vals' fp' st1 (mv g kg (λb hz=>al (K'.zdom b (.inl hz)) λo e=>⟨o,hka b o (λp=>wz b p hz) e⟩) (K'.thaw (Z:=Z) (λb hb=>.inl hb) K.z0)) ⟨hfr.1,λb hz hb=>hfr.2 b (.inl hz) λz q hq=>al (cL hq) λq' hq'=>hb z q' hq'⟩)
theorem zn {ns:uq (Str×OY)}{x:If}{it:It}{b:Ss}{st:Q6}{G:Q6->Prop}(ok:okS ns (.for1 x it b) st=vj) (k:∀ pt iter body spos,bE ns x=vj->fE ns it iter=vj->cK ns b body=vj->G (.For (.Name (oD x) pt) iter body [] spos)):G st:=by
 refine (By ok).elim (λo=>?_) nofun
 refine lP o λt pt iter body spos e o=>?_
 refine aW o λo g=>aW o λo h=>aW o λo i=>?_
 rw[e,Oj.mp o]
 exact k pt iter body spos i h g
theorem xl (Si:fe fns k C XP it) (Sb:fk fns k C b) (Xb:fm fns k C b):dY fns k C (.for1 x it b):=by
 intro l h0 P Z A i σ j fp s Q Er q fl u K he hN hR
 refine zn (G:=λt=>Og (Ok prog w) A (exec t i) Q Er s) u λpt o p m z y v=>?_
 refine Out.bind_k he λn hq h=>?_
 exact vX Si Sb Xb y v z K hq h (by simp) (λg e=>by cases e; exact hN rfl) (λg r e=>by cases e; exact hR r rfl) λc e=>by cases e
theorem yW (hf:fns.hand=NY) (Si:fe fns k C XPc it) (Sb:fk fns k C b) (Xb:fm fns k C b):dU fns k C (.for1 x it b):=by
 intro p h0 P Z A i j o fp s Q Er c ok K m v
 refine zn (G:=λz=>Og (Ok prog w) A (exec z i) Q Er s) ok λpt t y q o1 l o3=>?_
 rcases ca m with m | ⟨oq,hq,he1⟩
 ·have n:be C it (dC j (bD it)) = .exc c:=by rw[fM C it _ j (cP j _)]; exact m
  refine wpAny_For (Si l (K.cx (bD it)) (by rw[n]; simp) (λq' h=>by rw[n] at h; cases h) λc' u x s' X=>?_) (tJ l i)
  rw[n] at u; cases u
  exact v x s' X.1.stp ((K.onK X.1.k).lv hf) (Fly.exc (X.2.old K.zd))
 ·exact vX Si Sb Xb l o3 o1 K hq he1 (by simp) (λg e=>by cases e) (λg r e=>by cases e) λc' e=>by cases e; exact v
section
variable (hf:fns.hand=NY) (hC:eI fns k C XPc)
include hf hC
mutual
theorem gR:∀ st:S,dY fns k C st/\dU fns k C st
 | .assign x e=>⟨kR (ay hf hC c8 dZ e).e (yE hf hC c8 dZ e),rY hf (ay hf hC c8 dZ e).e⟩
 | .setitem x e=>⟨rc (ay hf hC c8 dZ e).e,rg⟩
 | .append x e=>⟨rK (ay hf hC c8 dZ e).e,rP⟩
 | .pop x i=>⟨xN (ay hf hC c8 dZ i).e,xi⟩
 | .expr e=>⟨wh (ay hf hC c8 dZ e).e,wX hf (ay hf hC c8 dZ e).e⟩
 | .ret e=>⟨xH (ay hf hC c8 dZ e).e,xM hf (ay hf hC c8 dZ e).e⟩
 | .retn x=>⟨uZ,wT⟩
 | .ite c a b=>⟨yz (ay hf hC c8 dZ c).t (bn a).1 (bn b).1,xE hf (ay hf hC c8 dZ c).t (bn a).2 (bn b).2⟩
 | .for1 x it b=>⟨xl (eP hf hC c8 dZ it) (bn b).1 (bn b).2,yW hf (eP hf hC c8 dZ it) (bn b).1 (bn b).2⟩
 | .raise _=>⟨tj,t0 hf hC⟩
 | .tryS b _=>⟨xT hf hC (gR b).1 (λe _=>(ay hf hC c8 dZ e).e),yi⟩
 | .bad=>⟨λg=>PZ (show NY=vj from g),xg⟩
termination_by structural s=>s
theorem bn:∀ st:Ss,fk fns k C st/\fm fns k C st
 | .nil=>⟨vO,wO⟩
 | .cons s r=>⟨sV (gR s).1 (bn r).1,ud (gR s).1 (gR s).2 (bn r).2⟩
termination_by structural s=>s
end
theorem oS (st:Ss):fk fns k C st:=(bn hf hC st).1
theorem ov (st:Ss):fm fns k C st:=(bn hf hC st).2
end
end
structure InF (s₀:NU) (L:Oo) (m:Str->NX Lt) (cs:uq (Str×Oo)) (cm:Str->NX Lt) (s:NU):Prop where
 x:InCallC s₀ L m cs cm s
 c:∃ o,s.heap.get? L=ti o/\o.cls = .type "frame"
section
variable {M:VA}{A:OI}{E:Lt->NU->Prop}{s₀:NU}{env:Env}
theorem jx (f:Str×Lt->YH->Sem (OB YH)) (hf:∀ n v u,f (n,v) u=(do Xk env n v; Pu (.yield ⟨⟩))) (hk:env.scope.kind = .function) :
  ∀ (binds:uq (Str×Lt)) (m cm:Str->NX Lt) (s:NU) (Q:YH->NU->Prop),InF s₀ env.locals m env.cells cm s ->
   (∀ x∈binds,env.kindOf x.1=ti .local\/(env.kindOf x.1=ti .cell/\(env.cells.lookup x.1).isSome=vj)) ->
   (∀ s',InF s₀ env.locals (Xq env.kindOf binds m) env.cells (Xs env.kindOf binds cm) s'->Q ⟨⟩ s')->Og M A (Ud binds ⟨⟩ f) Q E s
 | [],m,cm,s,Q,x,_,h=>by rw[VI]; exact Od (h s x)
 | (n,v)::r,m,cm,s,Q,⟨x,c⟩,hkind,h=>by
  rw[Wo,hf]
  have hr:∀ y∈r,env.kindOf y.1=ti .local\/(env.kindOf y.1=ti .cell/\(env.cells.lookup y.1).isSome=vj):=λy hy=>hkind y (VN _ hy)
  refine bz (x.toInCall.same) λha tk l=>?_
  rcases hkind (n,v) Q4 with hl | ⟨hl,j⟩
  ·refine Is (Is ?_)
   rw[XM hl (by rw[hk]; rfl)]
   refine nQ x.toInCall.ns c λh' hn' g hc'=>Od (jx f hf hk r (λx=>if x=n then ti v else m x) cm _ Q ⟨⟨⟨(cf h' (s.toks+1) (by rw[l])),hn',λb o e=>?_,x.toInCall.fresh⟩,λk c j=>?_,x.apart,x.above⟩,hc'⟩ hr λt p=>h t ?_)
   ·exact g.extBut b o (PL (N2 (QW e) x.toInCall.fresh)) (x.toInCall.keep b o e)
   ·exact (x.cell k c j).sameBut g (Ux (x.above k c (mem_of_lookup j)))
   ·unfold Xq Xs; rw[NZ hl,NZ hl]; exact p
  ·refine bM j λcc j=>?_
   have z:¬ env.kindOf n=ti .local:=by rw[hl]; decide
   have hLc:=x.above n cc (mem_of_lookup j)
   refine Is (Is (Tt hk hl j (x.cell n cc j) λh' hc' g=>Od (jx f hf hk r m (λy=>if y=n then ti v else cm y) _ Q ⟨⟨⟨(cf h' s.toks (by rw[l])),x.toInCall.ns.sameBut g (PL hLc),λb o e=>?_,x.toInCall.fresh⟩,λk c' i=>?_,x.apart,x.above⟩,ag (c) λo e q=>(ah o (g.extBut _ o (PL hLc) e) q)⟩ hr λt p=>h t ?_)))
   ·exact g.extBut b o (PL (Rv (N2 (QW e) x.toInCall.fresh) hLc)) (x.toInCall.keep b o e)
   ·by_cases hkn:k=n
    ·(clear h hkind hl z; subst hkn)
     rw[j] at i; (have oc:=Gt i; clear i; subst oc)
     show h'.IsCell _ (if _=_ then ti v else cm _)
     rw[NZ rfl]; exact hc'
    ·show h'.IsCell _ (if _=_ then ti v else cm _)
     rw[N0 hkn]
     exact (x.cell k c' i).sameBut g λe=>hkn (Y5 x.apart (mem_of_lookup i) (e▸mem_of_lookup j))
   ·unfold Xq Xs; rw[N0 z,N0 z]; exact p
end
section
theorem sJ {R:W3->NU->Prop}{a:Oo}{o:Obj}{fd:XW}{body:uq Q6}{vals:uq Lt}{binds:uq (Str×Lt)}
  (hroom:A.depth<RO) (ho:s.heap.get? a=ti o) (hdata:o.data = .func fd) (hlim:s.heap.NoLimit) (hcd:s.heap.CodeRec fd.code fd.qualname)
  (hbody:fd.body = .stmts body) (hbind:XX fd ⟨vals,[]⟩=Pu binds) (hclo:fd.closure=[])
  (hkind:∀ x∈binds,fd.scope.names.lookup x.1=ti .local\/(fd.scope.names.lookup x.1=ti .cell/\((QS (s.heap.objs.size+1) fd.scope.names []).lookup x.1).isSome=vj))
  (h:∀ s₁,InF s (P1 fd s.heap.objs.size a).locals (Xq (P1 fd s.heap.objs.size a).kindOf binds λuu=>NI) (P1 fd s.heap.objs.size a).cells
    (Xs (P1 fd s.heap.objs.size a).kindOf binds λuu=>NI) s₁ ->
   Og (Ok prog w) (A.deeper (P1 fd s.heap.objs.size a)) (Yi body (P1 fd s.heap.objs.size a)) (λf s'=>R (.ok (.ret (match f with | .ret v=>v | _=>.none))) s')
    (λe s'=>Og (Ok prog w) (A.deeper (P1 fd s.heap.objs.size a)) (Y4 (P1 fd s.heap.objs.size a) e) (λuu s''=>R (.error e) s'') (λe' s''=>R (.error e') s'') s') s₁)
  (hco:fd.scope.isCoroutine=NY) (hgen:fd.scope.isGenerator=NY) (hk:fd.scope.kind = .function) :
  VQ (Ok prog w) A (.call (.ref a) ⟨vals,[]⟩) R s:=by
 refine codeAny_call_function hroom ho hdata hco hgen hbody hcd ?_
 rw[hbind,hclo]
 refine Od ?_
 simp only[SV,Option.isSome_none,OL,PA]
 refine Is (Zq ?_)
 refine Is (X4 _ (λi kind cells=>by cases hkc:kind==To<;>simp[hkc]) _ _ _ _ ?_)
 have ok:=cellsFrom_ok fd.scope.names (s.heap.push {cls:=.type "frame", data:=.dict #[] }) (s.heap.objs.size+1) [] ⟨λuu uu g=>(nomatch g),Jac⟩ (by rw[SJ]; exact Ow _)
 rw[SJ] at ok
 rw[show ({s with heap:=s.heap.push {cls:=.type "frame", data:=.dict #[] } }:NU).heap.objs.size=s.heap.objs.size+1 from SJ ..]
 refine Is (jx (s₀:=s) (env:=P1 fd s.heap.objs.size a) _ (λuu uu uu=>rfl) hk binds (λuu=>NI) (λuu=>NI) _ _
  ⟨⟨⟨(cf _ _ rfl),(Zs s.heap (.type "frame")).keeps (QT _ _),λb o e=>QT _ _ b o (Oi _ e),Ow _⟩,
   λn c j=>(ok.empty n c (mem_of_lookup j)).1,ok.apart,λn c g=>(ok.empty n c g).2⟩,_,QT _ _ _ _ (Ov _ rfl),rfl⟩
  hkind λs' x=>Od ⟨hlim.keeps x.x.toInCall.keep,codeAny_func (h s' x)⟩)
end
theorem dI:∀ (names:uq (Str×OY)) (k:N7) (acc:uq (Str×Oo)),(names.lookup n=ti .cell\/(acc.lookup n).isSome=vj)->((QS k names acc).lookup n).isSome=vj
 | [],_,acc,h=>h.elim (λe=>by cases e) id
 | (m,kd)::r,k,acc,h=>by
  unfold QS
  by_cases hk:kd = .cell
  ·subst hk
   simp only[Pi,Qz]
   by_cases e:n=m
   ·(clear h; subst e)
    exact dI r _ _ (.inr (by simp))
   ·have g:(n==m)=false:=by simpa using e
    refine dI r _ _ (h.imp (λh=>?_) λh=>?_)
    ·rw[Pb,g] at h; exact h
    ·rw[Pb,g]; exact h
  ·have i:(kd==To)=false:=by simpa using hk
   simp only[i,OL,PA]
   by_cases e:n=m
   ·subst e
    rcases h with h | h
    ·simp at h; exact N5 h hk
    ·exact dI r _ _ (.inr h)
   ·have g:(n==m)=false:=by simpa using e
    refine dI r _ _ (h.imp (λh=>?_) id)
    rw[Pb,g] at h; exact h
theorem kK:∀ (bs:uq (Str×Lt)) (m:Str->NX Lt),(∀ p∈bs,p.1≠y)->Xq kd bs m y=m y
 | [],_,_=>rfl
 | (n,v)::r,m,h=>by
  unfold Xq
  rw[kK r _ λp g=>h p (.tail _ g)]
  split
  ·exact N0 λ(e:y=n)=>h (n,v) (.head _) e.symm
  ·rfl
theorem kL:∀ (bs:uq (Str×Lt)) (m:Str->NX Lt),(∀ p∈bs,p.1≠y)->Xs kd bs m y=m y
 | [],_,_=>rfl
 | (n,v)::r,m,h=>by
  unfold Xs
  rw[kL r _ λp g=>h p (.tail _ g)]
  split
  ·rfl
  ·exact N0 λ(e:y=n)=>h (n,v) (.head _) e.symm
theorem vx {ps:uq If}(h:p∉ps):∀ q∈(ps.map oD).zip vs,q.1≠oD p:=by
 intro q i e
 have:=(Vk i).1
 refine aB this λy g j=>?_
 exact h (dt (j.trans e)▸g)
theorem oF:∀ (ps:uq If) (vs:uq Lt) (m:Str->NX Lt),ps.Nodup->(ps.zip vs).lookup x=ti v->kd (oD x)=ti .local->Xq kd ((ps.map oD).zip vs) m (oD x)=ti v
 | [],_,_,_,h,_=>by simp at h
 | _::_,[],_,_,h,_=>by simp at h
 | p::ps,u::vs,m,hn,h,hk=>by
  rw[QC] at hn
  rw[Qs,Pb] at h
  rw[Pe,Qs]
  unfold Xq
  by_cases e:x=p
  ·subst e
   simp at h
   subst h
   rw[kK _ _ (vx hn.1),NZ hk]
   simp
  ·have g:(x==p)=false:=by simpa using e
   rw[g] at h
   exact oF ps vs _ hn.2 h hk
theorem oP:∀ (ps:uq If) (vs:uq Lt) (m:Str->NX Lt),ps.Nodup->(ps.zip vs).lookup x=ti v->kd (oD x)=ti .cell->Xs kd ((ps.map oD).zip vs) m (oD x)=ti v
 | [],_,_,_,h,_=>by simp at h
 | _::_,[],_,_,h,_=>by simp at h
 | p::ps,u::vs,m,hn,h,hk=>by
  rw[QC] at hn
  rw[Qs,Pb] at h
  rw[Pe,Qs]
  unfold Xs
  by_cases e:x=p
  ·subst e
   simp at h
   subst h
   rw[kL _ _ (vx hn.1),N0 (by rw[hk]; simp)]
   simp
  ·have g:(x==p)=false:=by simpa using e
   rw[g] at h
   exact oP ps vs _ hn.2 h hk
section
theorem qO (rs:RVs h xs vals as):∀ {ps:uq If}{σ:St},bV ps xs=ti σ ->
  vals.length=ps.length/\∃ fp:If->uq Oo,∀ x q,σ x=ti q->x∈ps/\∃ V v,q=mk V/\(ps.zip vals).lookup x=ti v/\RV h v V (fp x)/\∀ a∈fp x,a∈as:=by
 induction rs with
 | nil=>
  intro ps σ j
  cases ps with
  | nil=>exact (aM rfl (cE (λuu=>[]) (λx q h=>nN ((congrFun (Gt j) x).trans h))))
  | cons p ps=>exact nN j
 | @cons V xs v vs a1 bs r rs IH=>
  intro ps σ j
  cases ps with
  | nil=>exact nN j
  | cons p ps=>
  replace j:=Rx.mp (show (bV ps xs).map _=_ from j)
  refine ag (j) λu m l=>?_
  clear j
  subst l
  obtain ⟨hl,g,z⟩:=IH m
  refine (aM (by rw[OS,OS,hl]) (cE (λx=>if x=p then a1 else g x) (λx q k=>?_)))
  unfold upd at k
  by_cases e:x=p
  ·subst e
   rw[NZ rfl] at k; (have y:=Gt k; clear k; subst y)
   have t:(if x=x then a1 else g x)=a1:=NZ rfl
   refine (aM (.head _) (bJ V v rfl (by simp) ?_ (λa n=>?_)))
   ·show RV h v V (if x=x then a1 else g x)
    rw[t]; exact r
   ·have i:a∈(if x=x then a1 else g x):=n
    rw[t] at i
    exact OV _ i
  ·rw[N0 e] at k
   obtain ⟨h1,V',o,h2,h3,h4,h5⟩:=z x q k
   have e':(x==p)=false:=by simpa using e
   exact (aM (.tail _ h1) (bJ V' o h2 (by rw[Qs,Pb,e']; exact h3) (by show RV h o V' (if x=p then a1 else g x); rw[N0 e]; exact h4) (λa n=>OU _ (h5 a (by have i:a∈(if x=p then a1 else g x):=n; rwa [N0 e] at i)))))
theorem nW {ft:FnT}{fd:XW}{fa:Oo}{A:OI}{P:Oo->Prop}{s:NU}{ha:O2}{tka:N7}{σ:St}{pn:uq If}{pv:uq Lt}{fp:If->uq Oo}
  (hf:fns.hand=NY) (hnd:pn.Nodup) (hpb:∀ x∈pn,bE ft.scope.names x=vj) (hfree:∀ p∈ft.scope.names,(p.2 != .free)=vj) (hh:fns.hand=NY->A.handled=NI) (r1:A.depth+2*k+5<RO) (r2:A.units+100*k+303<TH) (hfr:∃ l,A.frames=ti l/\FrOk s.heap l) (ge:GE fns s.heap)
  (hsc:fd.scope=ft.scope) (hgl:fd.globals=PX) (hbl:fd.builtins=T0) (hkind:fd.scope.kind = .function)
  (X:InF s (P1 fd s.heap.objs.size fa).locals (Xq (P1 fd s.heap.objs.size fa).kindOf ((pn.map oD).zip pv) λuu=>NI) (P1 fd s.heap.objs.size fa).cells (Xs (P1 fd s.heap.objs.size fa).kindOf ((pn.map oD).zip pv) λuu=>NI) {s with heap:=ha,toks:=tka })
  (hfp:∀ x q,σ x=ti q->x∈pn/\∃ V v,q=mk V/\(pn.zip pv).lookup x=ti v/\RV s.heap v V (fp x)/\∀ a∈fp x,P a) :
  SOK fns k s.heap P (λb=>∃ o,s.heap.get? b=ti o) (A.deeper (P1 fd s.heap.objs.size fa)) (P1 fd s.heap.objs.size fa) ha σ (λx=>(pn.zip pv).lookup x) fp:=by
 have r:=X.x.toInCall
 have m:(P1 fd s.heap.objs.size fa).scope.names=ft.scope.names:=by show fd.scope.names=_; rw[hsc]
 have i:(P1 fd s.heap.objs.size fa).locals=s.heap.objs.size:=rfl
 have y:∀ n,(P1 fd s.heap.objs.size fa).kindOf n=ft.scope.names.lookup n:=λn=>by show fd.scope.names.lookup n=_; rw[hsc]
 have j:∀ n,(P1 fd s.heap.objs.size fa).kindOf n≠ti .free:=λn e=>by
  rw[y] at e
  have:=hfree _ (mem_of_lookup e)
  simp at this
 have hold:¬ SF.old s.heap.objs.size:=λq=>by
  refine al (ge.old _ q) λo e=>?_
  rw[bh] at e; exact nN e
 refine ⟨⟨hh,?_,?_⟩,⟨hkind,hgl,hbl,λn hn=>?_⟩,ge,λb o e=>⟨o,e⟩,.of r.keep,λuu=>?_,λb ⟨o,e⟩=>⟨o,r.keep b o e⟩,⟨X.c,(ah _ r.ns (λx v g hk=>?_)),λ⟨o,e⟩=>?_,λn c hk hc=>?_,λx v c g hk hc=>?_,λn n' c h1 h2=>?_,λx v g=>?_⟩,λx p t=>?_,λx p t ht=>?_,λx p t hdp=>?_⟩
 ·show A.depth+1+2*k+(if fns.hand then 1 else 4)<_
  rw[hf]; simp only[OL,PA]; exact EE r1
 ·show A.units+3+100*k+(if fns.hand then 200 else 300)<_
  rw[hf]; simp only[OL,PA]; exact Ki r2
 ·rcases hn with hn | hn
  ·rw[y] at hn
   exact Sj.mp (by show ((QS _ fd.scope.names []).lookup n).isSome=vj; rw[hsc]; exact dI _ _ _ (.inl hn))
  ·exact N5 hn (j n)
 ·refine ag (hfr) λl e1 e2=>?_
  clear hfr
  exact (cV l (VO e1) e2 rfl hold)
 ·exact oF pn pv _ hnd g hk
 ·rw[i] at e
  rw[bh] at e; exact nN e
 ·have hm:=mem_of_lookup hc
  have u:=X.x.above n c hm
  refine (cF (Ux u) (λ⟨o,e⟩=>?_) (cE _ (X.x.cell n c hc)))
  have:=QW e
  rw[i] at u
  exact SH _ (Rv this u)
 ·have:=X.x.cell _ c hc
  rw[oP pn pv _ hnd g hk] at this
  exact this
 ·exact Y5 X.x.apart (mem_of_lookup h1) (mem_of_lookup h2)
 ·have hm:x∈pn:=by
   have:(x,v)∈pn.zip pv:=by
    generalize pn.zip pv=l at g
    induction l with
    | nil=>exact nN g
    | cons q l ih=>
     rw[Pb] at g
     split at g
     ·rename_i e
      (have oc:=Gt g; clear g; (clear ih; subst oc))
      rw[Oj.mp e]
      exact .head _
     ·exact .tail _ (ih g)
   exact (Vk this).1
  have z:=hpb x hm
  unfold bE at z
  simp only[Of,TZ,Oj] at z
  rw[y]
  exact z.2
 ·obtain ⟨h1,V,v,Mw,h3,h4,h5⟩:=hfp x p t
  (clear t; subst Mw)
  have z:=hpb x h1
  unfold bE at z
  simp only[Of] at z
  refine (aM (by rw[m]; exact z.1.1) (aG v h3 (h4.keep r.keep) (λa h=>⟨λq=>?_,.inl (h5 a h)⟩)))
  refine al (h4.there a h) λo e=>q.elim (λq=>?_) λq=>ag q λn _ hc=>?_
  ·rw[q,i,bh] at e; exact nN e
  ·exact SH _ (Rv (QW e) (X.x.above n a (mem_of_lookup hc)))
 ·obtain ⟨h1,V,v,MA,_⟩:=hfp x p t
  (clear t; subst MA)
  exact N5 ht lB
 ·obtain ⟨h1,V,v,MG,h3,h4,h5⟩:=hfp x p t
  (clear t; subst MG)
  rw[h4.scal_nil (jN hdp)]
  exact ⟨λuu h=>(nomatch h),.nil⟩
theorem ms {ft:FnT}{fd:XW}{pn:uq If}{vals:uq Lt}{n:N7}(hsc:fd.scope=ft.scope) (hbk:∀ x∈pn,bE ft.scope.names x=vj):∀ x∈(pn.map oD).zip vals,fd.scope.names.lookup x.1=ti .local\/(fd.scope.names.lookup x.1=ti .cell/\((QS n fd.scope.names []).lookup x.1).isSome=vj):=by
 intro x j
 refine aB (Vk j).1 λy i e=>?_
 have g:=hbk y i
 unfold bE at g
 simp only[Of,TZ,Oj] at g
 rw[hsc,<- e]
 rcases g.2 with h | h
 ·exact .inl h
 ·exact .inr ⟨h,dI _ _ _ (.inl h)⟩
section
theorem w2 (h:bV f.params vs=ti σ) (e:exs C f.body σ = .bad):ax C f vs = .bad:=by unfold ax; rw[h]; dsimp only; rw[e]; rfl
theorem xc (h:bV f.params vs=ti σ) (e:exs C f.body σ = .exc c):ax C f vs = .exc c:=by unfold ax; rw[h]; dsimp only; rw[e]; rfl
theorem wv (h:bV f.params vs=ti σ) (e:exs C f.body σ = .ok (σ',.next)):ax C f vs = .ok (.d .none,.deep):=by unfold ax; rw[h]; dsimp only; rw[e]; rfl
theorem yx (h:bV f.params vs=ti σ) (e:exs C f.body σ = .ok (σ',.ret r)):ax C f vs = .ok r:=by unfold ax; rw[h]; dsimp only; rw[e]; rfl
theorem xw (h:bV f.params vs=ti σ) (e:exs C f.body σ = .bad):ck C f vs = .bad:=by unfold ck; rw[h]; dsimp only; rw[e]; rfl
theorem xW (h:bV f.params vs=ti σ) (e:exs C f.body σ = .exc c):ck C f vs = .exc c:=by unfold ck; rw[h]; dsimp only; rw[e]; rfl
theorem n9 (h:bV f.params vs=ti σ) (e:exs C f.body σ = .ok (σ',.next)):ck C f vs=eH σ':=by unfold ck; rw[h]; dsimp only; rw[e]; rfl
theorem w6 (h:bV f.params vs=ti σ) (e:exs C f.body σ = .ok (σ',.ret r)):ck C f vs = .bad:=by unfold ck; rw[h]; dsimp only; rw[e]; rfl
end
theorem qi {A:OI}{env:Env}{s s₁:NU}{c:If}{x:Lt}{R:NU->Prop}{E:Lt->NU->Prop}(kp:Kp s s₁) (lv:Lv A env s₁.heap) (ex:Exc (dom s.heap) s₁.heap c x) (hR:∀ s',XPc c s x s'->R s') :
  Og (Ok prog w) A (Y4 env x) (λuu s'=>R s') E s₁:=by
 refine ar (lv) λl q p n=>?_
 clear lv
 refine au (kp) λj h i g=>?_
 clear kp
 subst i
 refine Ig (N:=dom s.heap) (λb k=>?_) q p n ex λt u r=>hR _ ⟨(aC t h rfl (Internal.K.step g r λb o e=>⟨o,e⟩)),u⟩
 refine al (k) λo e=>?_
 clear k
 refine ag (g b o (.inl trivial) e) λm v _=>?_
 exact ⟨m,v⟩
set_option maxHeartbeats 1000000 in
theorem se (hf:fns.hand=NY) (hC:eI fns k C XPc) (hok:okF ft fn=vj)
  (hroom:Room fns.hand (k+1) A) (hfr:∃ l,A.frames=ti l/\FrOk s.heap l) (ge:GE fns s.heap) (hfa:FnAt s.heap ft fa) (rs:RVs s.heap xs vals as) (ha:∀ a∈as,P a) (nb:ax C fn xs≠.bad) (hQ:∀ r,ax C fn xs = .ok r->∀ v s',EP P s r v s'->Q v s') (hE:∀ c,ax C fn xs = .exc c->∀ x s',XPc c s x s'->Er x s') :
  Og (Ok prog w) A (Sy (.ref fa) vals []) Q Er s:=by
 unfold okF at hok
 simp only[Of,OT,Pm] at hok
 refine ae (hok) λz p=>?_
 clear hok
 refine ae (z) λy t=>?_
 clear z
 refine ae (y) λu hnd=>?_
 clear y
 refine ae (u) λhps hbk=>?_
 clear u
 cases hσ:bV fn.params xs with
 | none=>exact N5 (by unfold ax; rw[hσ]) nb
 | some σ=>
 obtain ⟨hlen,fp,hfp⟩:=qO rs hσ
 obtain ⟨o,fd,ho,hd,hbd,n,hgl,hcl,hbl,hcr,i,hco,hgen,g⟩:=hfa
 rw[hps] at i
 refine Z7 (sJ (by have:=hroom.at hf; exact JW this) ho hd ge.nolim hcr hbd (i vals hlen) hcl (ms n hbk) (λs₁ X=>?_) hco hgen g)
 refine bz (X.x.toInCall.same) λh₁ m Mx=>?_
 subst Mx
 have K:=nW (k:=k) (ft:=ft) (fa:=fa) (σ:=σ) (pn:=fn.params) (pv:=vals) (fp:=fp) (P:=P) hf hnd hbk p hroom.1 (N4 (TN _) (hroom.at hf).1) (N4 Gb (hroom.at hf).2) hfr ge n hgl hbl g X λx q hq=>by
  obtain ⟨h1,V,v,h2,h3,h4,h5⟩:=hfp x q hq
  exact (aM h1 (bJ V v h2 h3 h4 (λa h=>ha a (h5 a h))))
 have kp:∀ s',Stp (λb=>∃ o,s.heap.get? b=ti o) {s with heap:=h₁,toks:=m } s'->Kp s s':=λs' j=>by
  refine au (j) λh' tk' ME kk=>?_
  clear j
  subst ME
  exact (aC h' tk' rfl (Internal.K.step (Internal.K.of X.x.toInCall.keep) kk λb o e=>⟨o,e⟩))
 have okb:cK (P1 fd s.heap.objs.size fa).scope.names fn.body ft.body=true:=by show cK fd.scope.names fn.body ft.body=vj; rw[n]; exact t
 cases hex:exs C fn.body σ with
 | bad=>exact N5 (w2 hσ hex) nb
 | exc c=>exact ov hf hC fn.body okb K hex λx s' j lv ex=>qi (kp s' j) lv ex λs'' X=>hE c (xc hσ hex) x s'' X
 | ok o=>
  obtain ⟨σ',fl⟩:=o
  refine oS hf hC fn.body okb K hex (λe s' vals' fp' j K' _=>?_) λq e v s' j R=>?_
  ·subst e
   exact hQ _ (wv hσ hex) _ _ (.scalar (kp s' j) .none rfl (by simp))
  ·subst e
   refine cg (R) λas' h1 h2 h3 h4=>?_
   clear R
   exact hQ _ (yx hσ hex) _ _ ⟨kp s' j,as',h1,h2,h3,h4⟩
end
theorem n8:∀ (l1 l2:uq Q6),Yi (l1++l2) env=(Yi l1 env>>=λf=>match f with | .next=>Yi l2 env | f=>Pu f)
 | [],l2=>rfl
 | st::l1,l2=>by
  rw[List.cons_append,Z8,Z8,bind_assoc]
  congr 1
  funext f
  cases f with
  | next=>exact n8 l1 l2
  | _=>rfl
section
theorem Inst.ns1 {h:O2}{x Cl D:Oo}{mA:Str->NX Lt}(I:h.Inst x Cl mA) (hd:∀ o,h.get? x=ti o->o.dict=ti D):∃ o,h.get? x=ti o/\o.cls = .ref Cl/\(∀ c,o.data≠.cls c)/\o.dict=ti D/\D≠x/\h.Ns1 D mA:=by
 refine cg (I) λo e k j i=>?_
 clear I
 have:=hd o e
 rcases i with ⟨q,_⟩ | ⟨d,q1,q2,q3⟩
 ·rw[this] at q; exact nM q
 ·rw[this] at q1; (have g:=Gt q1; clear q1; subst g)
  exact (ke o e k j this q2 q3)
theorem je {A:OI}{h:O2}{g:Oe Vz}{dr:Zm}{tk:N7}{os:WG}{E:Lt->NU->Prop}{x D:Oo}{mA:Str->NX Lt}{n:If}{v:Lt}{Q:T6->NU->Prop}{ns:uq Str}(ge:RuleAt fns h) (hn:n∈fieldNames) (hw:Within mA ns) (hs:ns.length<=8) (hxC:x≠SF.rule)
  (I:h.Inst x SF.rule mA) (hd:∀ o,h.get? x=ti o->o.dict=ti D)
  (hQ:∀ h' tk',h'.Inst x SF.rule (λy=>if y=oD n then ti v else mA y)->KG (λb=>b≠x/\b≠D) h h'->(∀ o,h'.get? x=ti o->o.dict=ti D)->Q () ⟨h',g,dr,tk',os⟩) :
  Og (Ok prog w) A (setAttr (.ref x) (oD n) v) Q E ⟨h,g,dr,tk,os⟩:=by
 refine aA (ge) λN mN u i _=>?_
 clear ge
 obtain ⟨m,hN⟩:=u
 refine fV (m) λnm q bs' sn sub col dd k0 k1 k2 k3 k5 hC=>?_
 clear m
 have hB:RP (.type "object") (oD n)=Pu none:=by
  simp only[fieldNames,Ou,Uh,WS] at hn
  rcases hn with rfl | rfl | rfl
  ·exact lE
  ·exact nP
  ·exact oj
 have hq:mN (oD n)=none:=i n (by
  simp only[fieldNames,Ou,Uh,WS] at hn
  rcases hn with rfl | rfl | rfl<;>simp)
 refine store_attr ZG hC hN (i "__setattr__" (by simp)) hq hB hxC I (λh' tk' I' hk k=>?_) hw (by rw[Pz]; exact Gf hs)
 refine gJ (Inst.ns1 I hd) λo e c0 _ l _ ns=>?_
 refine hQ h' tk' I' (.of λb ob hb t=>hk b ob (λq=>hb.elim (λh=>h.1 q) (Stay.not_cls (o:=ob) (by rw[q,e] at t; rw[<- Gt t,c0]; simp))) (λoo dx j r q=>hb.elim (λh=>h.2 ?_) ?_) t) λo' e'=>?_
 ·rw[<- Gt (e.symm.trans j),l] at r
  exact q.trans (Gt r).symm
 ·rw[<- Gt (e.symm.trans j),l] at r
  exact cG ns λoD es ep eD hdD=>Stay.not_dict (Gt (eD.symm.trans ((q.trans (Gt r).symm)▸t))▸hdD.1)
 ·refine uR (k o e) λoa p _ _ _ z=>?_
  exact Gt (p.symm.trans e')▸z D l
theorem Inst.kk {h h':O2}{x Cl D:Oo}{mA:Str->NX Lt}(I:h.Inst x Cl mA) (hd:∀ o,h.get? x=ti o->o.dict=ti D) (k:K h h'):h'.Inst x Cl mA/\∀ o,h'.get? x=ti o->o.dict=ti D:=by
 refine gJ (Inst.ns1 I hd) λo e n v m u g=>?_
 refine aX (g) λoD y z eD j r=>?_
 clear g
 have p:=K.get k e (by unfold hardB; rw[n])
 obtain ⟨i,l,q,_⟩:=K.data k eD
 exact ⟨(cV o p n v (.inr (aG D m u (dQ i y z l (q.trans j) r)))),λo' q=>by rw[p] at q; (have t:=Gt q; clear q; subst t); exact m⟩
theorem uY (h:eH σ = .exc c):False:=by
 unfold eH at h
 refine ei h λuu h=>?_
 refine ei h λuu h=>?_
 refine ei h λuu h=>?_
 refine ei h λuu h=>?_
 refine ei h λuu h=>?_
 refine ei h λuu h=>?_
 refine ei h λuu h=>?_
 refine ei h λuu h=>?_
 split at h<;>cases h
set_option maxHeartbeats 2000000 in
theorem tX (h:eH σ = .ok r):∃ ci mc rows ys,r=(.rule ci (.list rows) (ys:uq N9).length,.deep)/\σ "count" = ti (.d (.int ci),mc)/\σ "full" = ti (.d (.list rows),.deep)/\rows[0]? = ti (.list ys):=by
 unfold eH at h
 obtain ⟨⟨pc,mc⟩,j,h⟩:=aN h
 obtain ⟨dc,o,h⟩:=aN h
 obtain ⟨ci,n,h⟩:=aN h
 obtain ⟨⟨z,u⟩,i,h⟩:=aN h
 obtain ⟨df,m,h⟩:=aN h
 obtain ⟨rows,l,h⟩:=aN h
 obtain ⟨p,g,h⟩:=aN h
 obtain ⟨ys,k,h⟩:=aN h
 by_cases hd:u = .deep
 ·rw[NZ hd] at h
  have t:=ba o
  have y:=b0 n
  have q:=ba m
  have x:=cH l
  have v:=cH k
  dsimp only at t q
  rw[t,y] at j
  rw[q,x,hd] at i
  rw[v] at g
  exact (me ci mc rows ys ((Out.ok.inj h).symm) j i g)
 ·rw[N0 hd] at h; exact nB h
theorem yZ (hf1:σ "full" = ti (.d (.list rows),.deep)) (hf4:rows[0]? = ti (.list ys)):ev C eX (dC σ ["full"]) = .ok (sI ys.length):=by
 have i:dC σ ["full"] "full" = ti (.d (.list rows),.deep):=by unfold dC; rw[NZ (by simp)]; exact hf1
 have h:elem (.list rows) 0=ti (.list ys):=by
  show (bN 0 rows.length).bind (λk=>rows[k]?)=_
  have g:0<rows.length:=(O4.mp hf4).1
  unfold bN
  rw[NZ (Vy 0),NZ (la3 g)]
  exact hf4
 unfold eX
 rw[j7,jX,dB,eN,i]
 show ((fC (.list rows) (.int 0)).bind _)=_
 unfold fC
 rw[show cI (.int 0)=ti 0 from rfl]
 simp only[am,h,Out.ok_bind]
 rfl
theorem wJ (C:Calls) (hf:fns.hand=NY) {A:OI}{env:Env}{P:Oo->Prop}{hh h' hs:O2}{g:Oe Vz}{dr:Zm}{tk tk':N7}{os:WG}{x D:Oo}{σ:St}{vals:If->NX Lt}{fp:If->uq Oo}{Q:ZE->NU->Prop}{Er:Lt->NU->Prop}
  {ci:N3}{mc:Mode}{rows ys:uq N9}{a3 b3 c3:Q6}(Mk:Heap.MadeObj hh h' x D SF.rule) (hxC:x≠SF.rule) (kh:K h' hs) (ge:GE fns hh) (R0:RuleAt fns hh)
  (K':SOK fns k h' P (λb=>∃ o,h'.get? b=ti o) A env hs σ vals fp) (hfr:∃ l,A.frames=ti (env::l)/\FrOk hh l) (hvs:vals "self" = ti (.ref x))
  (hc1:σ "count" = ti (.d (.int ci),mc)) (hf1:σ "full" = ti (.d (.list rows),.deep)) (hf4:rows[0]? = ti (.list ys))
  (o1:eW env.scope.names "count" (.name "count") a3=vj) (o2:eW env.scope.names "full" (.name "full") b3=vj) (o3:eW env.scope.names "size" eX c3=vj)
  (hQ:∀ s',EP P ⟨hh,g,dr,tk,os⟩ (.rule ci (.list rows) ys.length,.deep) (.ref x) s'->Q .next s'):Og (Ok prog w) A (Yi [a3,b3,c3] env) Q Er ⟨hs,g,dr,tk',os⟩:=by
 have kM:K hh h':=.of Mk.keeps
 have Zx:∃ o,h'.get? x=ti o:=by obtain ⟨o,e,_⟩:=Mk.inst; exact ⟨o,e⟩
 refine gJ (Inst.ns1 Mk.inst Mk.dict) λox ex hxc hxd hxdict hDx hNs=>?_
 have ZD:∃ o,h'.get? D=ti o:=by obtain ⟨o,_,_,e,_⟩:=hNs; exact ⟨o,e⟩
 have kall:K hh hs:=KG.trans kM kh
 refine ae (K'.val "count" _ hc1) λuu j=>?_
 refine ar (j) λvc hvc MK _=>?_
 clear j
 refine ae (MK) λrvc _=>?_
 clear MK
 refine rvc.isInt_k λtc MQ _=>?_
 (clear rvc; subst MQ)
 refine ae (K'.val "full" _ hf1) λuu i=>?_
 refine ar (i) λvf hvf z _=>?_
 clear i
 refine ae (z) λrvf zvf=>?_
 clear z
 refine ae (K'.deep "full" _ hf1 rfl) λdp1 dp2=>?_
 refine ae (Inst.kk Mk.inst Mk.dict kh) λI1 D1=>?_
 refine cQ (lj o1) λq1 q2 v1 q3 MT ov1=>?_
 (clear o1; subst MT)
 refine cQ (lj o2) λq4 q5 v2 q6 M2 ov2=>?_
 (clear o2; subst M2)
 refine cQ (lj o3) λq7 q8 v3 q9 M1 ov3=>?_
 (clear o3; subst M1)
 refine ar (k6 ov1) λq10 MX _ nd1=>?_
 subst MX
 refine ar (k6 ov2) λq11 MZ _ nd2=>?_
 subst MZ
 have nds:aV "self" = true:=by decide
 have nxf:x∉fp "full" := λq=>(dp1 x q).1 Zx
 have nDf:D∉fp "full" := λq=>(dp1 D q).1 ZD
 have gf:∀ a∈fp "full", a≠x/\a≠D:=λa ha=>⟨λq=>nxf (q▸ha),λq=>nDf (q▸ha)⟩
 have gs:∀ {h:O2},Loc env (λb=>∃ o,h'.get? b=ti o) h vals->∀ a,Spo env a->a≠x/\a≠D:=λL a t=>⟨λq=>(L.at t).1 (q▸Zx),λq=>(L.at t).1 (q▸ZD)⟩
 have g0:∀ b o,hh.get? b=ti o->b≠x/\b≠D:=λb o e=>⟨λq=>nN (Mk.newX.symm.trans (q▸e)),λq=>nN (Mk.newD.symm.trans (q▸e))⟩
 refine P0 (Q5 (dN K'.eok.kind nd1 (K'.loc.var K'.eok hvc) (dN K'.eok.kind nds (K'.loc.var K'.eok hvs) (je (fns:=fns) (R0.k kall) (by simp[fieldNames]) Yl (by simp) hxC I1 D1 λh2 tk2 I2 b2 D2=>?_))) rfl)
 have k2:K hh h2:=kall.step b2 g0
 have L2:=K'.loc.onG b2 (gs K'.loc)
 refine P0 (Q5 (dN K'.eok.kind nd2 (L2.var K'.eok hvf) (dN K'.eok.kind nds (L2.var K'.eok hvs) (je (fns:=fns) (R0.k k2) (by simp[fieldNames]) (Xu _ _ Yl) (by simp) hxC I2 D2 λh3 tk3 I3 b3 D3=>?_))) rfl)
 have k3:K hh h3:=k2.step b3 g0
 have L3:=L2.onG b3 (gs L2)
 have rf3:R h3 vf (.list rows) (fp "full"):=(rvf.onG b2 gf).onG b3 gf
 have he:ev C eX (dC σ ["full"]) = .ok (sI ys.length):=yZ hf1 hf4
 have cx3:Cx fns k A (λuu=>V1) h3 env (dC σ ["full"]):=by
  refine ⟨K'.room,K'.eok,ge.k k3,λq=>?_,λy py hy _=>?_⟩
  ·exact cg (K'.out q) λl e1 e2 e3 e4=>ag hfr λl' f1 f2=>(aQ env l' f1 (L3.frm K'.eok (f2.k k3) e3 e4) rfl)
  ·unfold dC at hy
   split at hy
   ·rename_i hm
    rw[N1.mp hm] at hy ⊢
    rw[hf1] at hy; (have oc:=Gt hy; clear hy; subst oc)
    exact (aQ vf (fp "full") (L3.var K'.eok hvf) ⟨rf3,zvf⟩ (λuu uu=>trivial))
   ·exact nN hy
 have S3:SimE fns k C XPc eX:=sf hf (si c8 (iA "full") (nv 0))
 refine P0 (Q5 (S3 ov3 cx3 (by rw[he]; simp) (λr hr v s4 E4=>?_) (λc hc=>by rw[he] at hc; cases hc)) (by
  refine OE (zz ov3) (λn=>?_) (λq=>?_)
  ·refine cQ (n) λM7 NA Nj NO Nd NK=>?_
   clear n
   subst Nd
   rfl
  ·cases q))
 rw[he] at hr; (have oc:=Out.ok.inj hr; clear hr; subst oc)
 obtain ⟨u,as4,p,_⟩:=E4
 refine au (u) λh4 tk4 M5 m=>?_
 clear u
 subst M5
 refine ae (p) λrv4 _=>?_
 clear p
 refine rv4.isInt_k λt4 MY _=>?_
 (clear rv4; subst MY)
 refine ae (Inst.kk I3 D3 m) λI4 D4=>?_
 have k4:K hh h4:=KG.trans k3 m
 have L4:=L3.onG m λuu uu=>trivial
 refine dN K'.eok.kind nds (L4.var K'.eok hvs) (je (fns:=fns) (R0.k k4) (by simp[fieldNames]) (Xu _ _ (Xu _ _ Yl)) (by simp) hxC I4 D4 λh5 tk5 I5 b5 D5=>?_)
 have k5':K hh h5:=k4.step b5 g0
 have rf5:R h5 vf (.list rows) (fp "full"):=(rf3.k m).onG b5 gf
 refine gJ (Inst.ns1 I5 D5) λo5 e5 c5 d5 di5 ne5 ns5=>?_
 have nh:∀ a,¬ (∃ o,h'.get? a=ti o)->hh.get? a=none:=λa q=>by
  cases e:hh.get? a with
  | none=>rfl
  | some o=>exact N5 ⟨o,Mk.keeps a o e⟩ q
 have nw:∀ a∈x::D::fp "full", hh.get? a=none:=λa ha=>(Ou.mp ha).elim (λq=>q▸Mk.newX) λha=>(Ou.mp ha).elim (λq=>q▸Mk.newD) λha=>nh a (dp1 a ha).1
 refine Sw (hQ _ ⟨(aC h5 tk5 rfl k5'),x::D::fp "full", (.mk x D o5 vf (fp "full") tc t4 _ rfl rfl e5 c5 d5 di5 ne5 ns5 rfl rfl rfl rf5 zvf),λa ha'=>.inr (nw a ha'),(λq=>by cases q),λuu=>⟨nw,?_⟩⟩)
 exact QC.mpr ⟨λq=>(Ou.mp q).elim (λq=>ne5 q.symm) nxf,QC.mpr ⟨nDf,dp2⟩⟩
theorem uX (hf:fns.hand=NY) (hC:eI fns k C XPc) (hok:okI fns.init.2 fn=vj)
  (hroom:Room fns.hand (k+1) A) (hfr:∃ l,A.frames=ti l/\FrOk s.heap l) (ge:GE fns s.heap) (rs:RVs s.heap xs vals as) (ha:∀ a∈as,P a) (nb:ck C fn xs≠.bad) (hQ:∀ r,ck C fn xs = .ok r->∀ v s',EP P s r v s'->Q v s') (hE:∀ c,ck C fn xs = .exc c->∀ x s',XPc c s x s'->Er x s') :
  Og (Ok prog w) A (Sy (.ref SF.rule) vals []) Q Er s:=by
 unfold okI at hok
 simp only[Of,OT,Pm] at hok
 refine ae (hok) λMz hfree=>?_
 clear hok
 refine ae (Mz) λMv hself=>?_
 clear Mz
 refine ae (Mv) λMy hlast=>?_
 clear Mv
 refine ae (My) λMB hbody=>?_
 clear My
 refine ae (MB) λMx hnd=>?_
 clear MB
 refine ae (Mx) λn hbk=>?_
 clear Mx
 refine gw (BW hlast) λa3 b3 c3 hl3 o1 o2 o3=>?_
 cases hσ:bV fn.params xs with
 | none=>exact N5 (by unfold ck; rw[hσ]) nb
 | some σ=>
  refine ae (qO rs hσ) λhlen m=>?_
  refine al (m) λfp hfp=>?_
  clear m
  refine ce ge.cls λN mN ME quiet i3 MD=>?_
  obtain ⟨ML,hN⟩:=ME
  refine fV (ML) λnm q bs' sn sub col dd k0 k1 k2 k3 k5 hCl=>?_
  clear ML
  refine ar MD λoI i2 i4 i5=>?_
  clear MD
  obtain ⟨hh,g,dr,tk,os⟩:=s
  refine wpAny_call_obj_init PySem.F.objNew hCl hN i2 i4 i5 λh' x D Mk=>?_
  have hxC:x≠SF.rule:=λq=>by have:=Mk.newX; rw[q] at this; rw[this] at hCl; exact nN hCl
  have kM:K hh h':=.of Mk.keeps
  obtain ⟨o,fd,ho,hd,hbd,i,hgl,hcl,hbl,hcr,u,hco,hgen,t⟩:=i3.k kM
  rw[n] at u
  refine ae (hroom.at hf) λr1 r2=>?_
  have ge':GE fns h':=ge.k kM
  have K0fp:∀ y q,σ y=ti q->y ∈ "self" :: fn.params/\∃ V v,q=mk V/\(("self" :: fn.params).zip (.ref x::vals)).lookup y=ti v/\RV h' v V (fp y)/\∀ a∈fp y,P a:=λy q hq=>by
   refine ae (hfp y q hq) λh1 j=>?_
   refine ce (j) λV v h2 h3 h4 h5=>?_
   clear j
   have hys:y ≠ "self" := λe=>by
    rw[n] at hnd
    exact (QC.mp hnd).1 (e▸h1)
   refine (aM (.tail _ h1) (bJ V v h2 ?_ (h4.k kM) (λa h=>ha a (h5 a h))))
   rw[Qs,Pb,Pd.mpr hys]
   exact h3
  have hu:(A.under (.builtin "type.__call__" ⟨.ref SF.rule::vals,[]⟩)).units<=A.units+50:=by
   have:(U8 "type.__call__" ⟨.ref SF.rule::vals,[]⟩).cUnits<=50:=by
    have:(U8 "type.__call__" ⟨.ref SF.rule::vals,[]⟩).cUnits=1+3*(U8 "type.__call__" ⟨.ref SF.rule::vals,[]⟩).frames:=rfl
    rw[this]
    have:(U8 "type.__call__" ⟨.ref SF.rule::vals,[]⟩).frames<=1:=by first | exact Ow _ | exact Pf _
    exact Gs this
   show A.units+_<=_
   exact FG this
  refine Z7 (sJ (s:=⟨h',g,dr,tk,os⟩) (A:=A.under (.builtin "type.__call__" ⟨.ref SF.rule::vals,[]⟩)) (by rw[Xl]; exact FE r1) ho hd (sG ge.nolim kM) hcr hbd (u (.ref x::vals) (by rw[OS,OS,hlen])) hcl (ms i (λy hy=>hbk y (n▸hy))) (λs₁ X=>?_) hco hgen t)
  refine bz (X.x.toInCall.same) λh₁ tka MJ=>?_
  subst MJ
  have p:=X.x.toInCall.keep
  have KS:=nW (k:=k) (ft:=fns.init.2) (fa:=fns.init.1) (σ:=σ) (pn:="self" :: fn.params) (pv:=.ref x::vals) (fp:=fp) (P:=P) (s:=⟨h',g,dr,tk,os⟩) hf (n▸hnd) (λy hy=>hbk y (n▸hy)) hfree (A:=A.under (.builtin "type.__call__" ⟨.ref SF.rule::vals,[]⟩)) hroom.1 (by rw[Xl]; exact Gg r1) (N4 (Ee hu) r2) (by
   refine ag (hfr) λl e1 e2=>?_
   clear hfr
   exact (ah l e1 (e2.k kM))) ge' i hgl hbl t X K0fp
  have z:fns.init.2.body=fns.init.2.body.take (fns.init.2.body.length-3)++[a3,b3,c3]:=by rw[<- hl3]; exact (Pj _ _).symm
  rw[z,n8]
  refine Is ?_
  have okb:cK (P1 fd h'.objs.size fns.init.1).scope.names fn.body (fns.init.2.body.take (fns.init.2.body.length-3))=true:=by show cK fd.scope.names fn.body _=vj; rw[i]; exact hbody
  cases hex:exs C fn.body σ with
  | bad=>exact N5 (xw hσ hex) nb
  | exc c=>
   refine ov hf hC fn.body okb KS hex λx s' st lv ex=>?_
   have kp:Kp ⟨h',g,dr,tk,os⟩ s':=by
    refine au (st) λhb tk' MF kk=>?_
    clear st
    (clear ex lv; subst MF)
    exact (aC hb tk' rfl (Internal.K.step (Internal.K.of p) kk λb o e=>⟨o,e⟩))
   exact qi kp lv ex λs'' X=>hE c (xW hσ hex) x s'' (.of (aC h' tk rfl kM) X)
  | ok o=>
  obtain ⟨σ',fl⟩:=o
  cases fl with
  | ret q=>exact N5 (w6 hσ hex) nb
  | next=>
  cases hfl:eH σ' with
  | bad=>exact N5 ((n9 hσ hex).trans hfl) nb
  | exc c=>
   exact (uY hfl).elim
  | ok r=>
  replace hQ:=hQ r ((n9 hσ hex).trans hfl)
  refine i7 (tX hfl) λci mc rows ys er hc1 hf1 hf4=>?_
  refine oS hf hC fn.body okb KS hex (λuu s' vals' fp' st K' F=>?_) λq e=>by cases e
  refine au (st) λhs' tk' MM kgs=>?_
  (clear st; subst MM)
  rw[er] at hQ
  have R0:=ge.cls
  refine wJ C hf Mk hxC (Internal.K.step (Internal.K.of p) kgs λb o e=>⟨o,e⟩) ge R0 K' ?_ ?_ hc1 hf1 hf4 (by show eW fd.scope.names _ _ _=vj; rw[i]; exact o1) (by show eW fd.scope.names _ _ _=vj; rw[i]; exact o2) (by show eW fd.scope.names _ _ _=vj; rw[i]; exact o3) λs' E=>⟨rfl,hQ _ _ E⟩
  ·refine ag (hfr) λl' f1 f2=>?_
   exact (ah l' (VO (A:=A.under (.builtin "type.__call__" ⟨.ref SF.rule::vals,[]⟩)) f1) f2)
  ·rw[(F.1 "self" hself).1]
   show (("self" :: fn.params).zip (OR x::vals)).lookup "self" = _
   rw[Qs,Pb,Pi]
end
section
noncomputable def AN (fns:Fns) (L:uq (If×Fn)):Prop:=∀ f fn,L.lookup f=ti fn->(f∈excNames->f∈SF.excN)/\(f∉excNames->if f = "Rule" then okI fns.init.2 fn=vj else ∃ p,fns.fn f=ti p/\okF p.2 fn=vj)
theorem wR (hf:fns.hand=NY) (hL:AN fns L):∀ n,eI fns n (mkC L n) XPc
 | 0=>λf g h=>nN h
 | n+1=>λf g h=>by
  have q:=wR hf hL n
  refine b9 (show (L.lookup f).map (λi u=>iZ f (mkC L n) i u)=ti g from h) λi o l=>?_
  (clear h; subst l)
  refine ae (hL f i o) λx j=>?_
  refine ⟨Pa 1 n,x,λv=>?_⟩
  replace j:=j v
  by_cases hr:f = "Rule"
  ·rw[NZ hr] at j
   rw[show iZ f (mkC L n) i=ck (mkC L n) i from funext λuu=>NZ hr]
   exact (ah SF.rule (NZ hr) (uX hf q j))
  ·rw[N0 hr] at j
   rw[show iZ f (mkC L n) i=ax (mkC L n) i from funext λuu=>N0 hr]
   exact ag j λp r m=>(ah p.1 (by rw[ww hr,r]; rfl) (λk y t=>se hf q m k y t (t.funs f p r)))
end
noncomputable def kq (p:SS) (mg:Str->NX Lt) (i:Oo×FnT) (L:uq (If×Fn)):Fns where
 fn f:=if f = "Rule" \/ f∈excNames then NI else (L.lookup f).bind λfn=>((W1 p).find? λd=>d.name==oD f).bind λd=>(mJ (mg (oD f))).map λa=>(a,⟨fn.params,d.body,d.scope⟩)
 init:=i
 hand:=NY
theorem lf (h:¬ (f = "Rule" \/ f∈excNames)):(kq p mg i L).fn f=(L.lookup f).bind λfn=>((W1 p).find? λd=>d.name==oD f).bind λd=>(mJ (mg (oD f))).map λa=>(a,⟨fn.params,d.body,d.scope⟩):=N0 h
theorem gY:∀ {l:uq (If×α)}{x:If}{v:α},l.lookup x=ti v->(x,v)∈l
 | (y,u)::l,x,v,h=>by
  rw[Pb] at h
  split at h
  ·rename_i e; (have g:=Gt h; clear h; subst g); rw[Oj.mp e]; exact .head _
  ·exact .tail _ (gY h)
theorem tB {ps:uq If}(h:ps.Nodup):(ps.map oD).Nodup:=S5.mpr (Jad (λh e=>h (dt e)) h)
theorem su {ps:uq If}(h:g9 fd.params ps=vj) (hd:fd.defaults = .none) (hn:ps.Nodup) (vals:uq Lt) (hl:vals.length=ps.length):XX fd ⟨vals,[]⟩=Pu ((ps.map oD).zip vals):=by
 unfold g9 at h
 simp only[Of,Oj,Ts,Rn] at h
 refine ae (h) λj k=>?_
 clear h
 refine ae (j) λi l=>?_
 clear j
 refine ae (i) λg m=>?_
 clear i
 refine ae (g) λo n=>?_
 clear g
 exact tr o n m l k hd (tB hn) (by rw[Oc]; exact hl)
theorem wB (h:okF ft f=vj):f.params.Nodup:=by
 unfold okF at h
 simp only[Of,OT] at h
 exact h.1.1.2
theorem wD (h:okI ft f=vj):ft.params.Nodup:=by
 unfold okI at h
 simp only[Of,OT] at h
 exact h.1.1.1.1.2
theorem lT (h:hV sc=vj):sc.isCoroutine=NY/\sc.isGenerator=NY/\sc.kind = .function:=by
 unfold hV at h
 simp only[Of,P8,Oj] at h
 exact ⟨h.1.1,h.1.2,h.2⟩
section
theorem J3 (T:Top p loose mean mg mb h) {ps:uq If}(hd:(W1 p).find? (λd=>d.name==oD f)=ti d) (hn:ps.Nodup) (h1:g9 d.params ps=vj) (h2:hV d.scope=vj) :
  ∃ a,mg (oD f)=ti (.ref a)/\FnAt h ⟨ps,d.body,d.scope⟩ a:=by
 have q:=Qk hd
 have i:=Sv hd
 simp only[Oj] at i
 refine Hh (T.fn d q) λa o y j x n m l k=>?_
 refine aK (lT h2) λv u t=>?_
 exact ⟨a,by rw[<- i]; exact n,o,_,m,l,rfl,rfl,rfl,rfl,rfl,k,λg r=>su h1 rfl hn g r,v,u,t⟩
theorem BR (P:PlainAt h c C N mN) {ps:uq If}(hr:c.meths.find? (λr=>r.name==oD m)=ti r) (hn:ps.Nodup) (h1:g9 r.params ps=vj) (h2:hV r.scope=vj) :
  ∃ a o,mN (oD m)=ti (.ref a)/\FnAt h ⟨ps,r.body,r.scope⟩ a/\h.get? a=ti o/\o.cls = .type "function" := by
 have i:=Sv hr
 simp only[Oj] at i
 refine Da (P.meths r (Qk hr)) λa o y z x p j n l k=>?_
 refine aK (lT h2) λv u t=>?_
 exact ⟨a,o,by rw[<- i]; exact p,⟨o,_,j,l,rfl,rfl,rfl,rfl,rfl,k,λg q=>su h1 rfl hn g q,v,u,t⟩,j,n⟩
theorem BE (TE:TopE p loose mg h) (Y:gv (bB L) h) (T:Top p loose mean mg mb h) (hr:(eM p loose).isSome=vj):∃ c C N mN,eM p loose=ti c/\mg "Rule" = ti (.ref C)/\PlainAt h c C N mN/\∀ n∈fieldNames,mN (oD n)=none:=by
 refine bM hr λc k=>?_
 have x:=Qk k
 have m:=Sv k
 simp only[Oj] at m
 refine cG (TE c x) λC N mN l P=>?_
 rw[m] at l
 refine ⟨c,C,N,mN,k,l,P.ofCmp,λn hf=>?_⟩
 obtain ⟨i,g',ad,_,_,C',o,cd,j,b1,t,b3,b4,b5⟩:=Y
 have y:i=mg:=g'.eq_nsMap.trans T.g.eq_nsMap.symm
 (clear T TE; subst y)
 have r:i "Rule" = ti (.ref C):=l
 rw[b1] at r; cases r
 refine fV (P.cls.obj) λnm q bs sn u col dd k0 k1 k2 k3 k5 e=>?_
 rw[t] at e; (have v:=Gt e; clear e; (clear t; subst v))
 cases b3
 have z:j=mN:=b4.eq_nsMap.trans P.cls.ns.eq_nsMap.symm
 rw[<- z]
 exact b5 n hf
theorem Dv (Y:gv (bB L) h) (T:Top p loose mean mg mb h) (ht:j8 p loose L=vj) {ad:If->Oo}(had:∀ c∈bB L,mg (oD c)=ti (.ref (ad c))) (hP:bB L=[] \/ "PickError" ∈ bB L) (hSF:∀ c,SF.exc c=ad c) :
  (∀ c∈bB L,ExcAt h c)/\∀ c∈bB L,∀ c' ∈ "PickError" :: bB L,ad c=ad c'->c=c':=by
 obtain ⟨mg',g',n,a1,a2,_⟩:=Y
 have hg:mg' = mg:=g'.eq_nsMap.trans T.g.eq_nsMap.symm
 subst hg
 have v:∀ c∈bB L,n c=ad c:=λc i=>by
  refine au (a1 c i) λuu uu q _=>?_
  rw[had c i] at q
  exact (Jam (Gt q)).symm
 have qt:∀ c∈bB L,QtAt h c:=λc i=>by
  obtain ⟨o,cd,b1,r,b3,m,mN,b5,b6⟩:=a1 c i
  exact ⟨o,cd,mN,by rw[hSF,<- v c i]; exact r,b3,b5,b6⟩
 refine ⟨λc i=>?_,λc i c' hc' q=>?_⟩
 ·have j : "PickError" ∈ bB L:=hP.resolve_left λq=>by rw[q] at i; cases i
  refine ce (a1 c i) λo cd b1 r b3 m=>?_
  refine yv i λu hce=>?_
  refine aB u λz hq y=>?_
  obtain ⟨f,fn⟩:=z
  (clear u; subst y)
  have l:=Pm.mp ht _ hq
  unfold jG at l
  rw[NZ (Oy hce),Oj] at l
  refine ag (T.ownAt l) λC O _=>?_
  obtain ⟨bm,N,nm,q,bs,t,sn,x,ab,col,dd,k0,k1,k2,k3,k5,mN,c1,c2,c3,c4⟩:=O.obj
  have eC:=O.bound
  rw[b1] at eC; cases eC
  rw[r] at c1; (have oc:=Gt c1; clear c1; subst oc)
  cases b3
  dsimp only at m
  replace m:=m.1
  injection m with _ m
  have e1:SF.exc f=n f:=by rw[hSF,v f i]
  have e2:SF.exc "PickError" = n "PickError" := by rw[hSF,v _ j]
  have e3:bm=bY f:=by rw[m]; unfold bY; rw[e2]
  subst e3
  rw[<- e1] at r
  exact ⟨⟨N,nm,q,bs,t,sn,x,ab,col,dd,k0,k1,k2,k3,k5,mN,by rw[e1] at r ⊢; exact r,c2,c3 _ (.head _),c4.tail⟩,qt _ i,qt _ j⟩
 ·have j : "PickError" ∈ bB L:=hP.resolve_left λq=>by rw[q] at i; cases i
  have k:c'∈bB L:=(Ou.mp hc').elim (λq=>q▸j) id
  exact a2 c i c' k (by rw[v c i,v c' k]; exact q)
theorem BN (Y:gv (bB L) h) (T:Top p loose mean mg mb h):∀ c∈bB L,∃ a,mg (oD c)=ti (.ref a):=λc k=>by
 obtain ⟨i,l,m,n,_⟩:=Y
 have j:i=mg:=l.eq_nsMap.trans T.g.eq_nsMap.symm
 (clear T; subst j)
 refine au (n c k) λuu uu q _=>?_
 exact ⟨_,q⟩
theorem sr (ht:j8 p loose L=vj) (hf:L.lookup f=ti fn):jG p loose f fn=true:=Pm.mp ht _ (gY hf)
theorem xP (hf:L.lookup f=ti fn) (he:f∈excNames):f∈bB L:=QB.mpr ⟨Tm.mpr ⟨_,gY hf,rfl⟩,OA he⟩
theorem v0 (hO:∀ b,SF.old b->∃ o,h.get? b=ti o) (T:Top p loose mean mg mb h) (TE:TopE p loose mg h) (Y:gv (bB L) h) (ht:j8 p loose L=vj) (hb:tP p loose=vj) (hr:(eM p loose).isSome=vj) (hL:(L.lookup "Rule").isSome=vj) (hP:bB L=[] \/ "PickError" ∈ bB L)
  (hN:SF.excN=bB L) (hA:∀ c,SF.exc c=((mJ (mg (oD c))).getD 0)) (hR:SF.rule=(mJ (mg "Rule")).getD 0):∃ i,GE (kq p mg i L) h/\AN (kq p mg i L) L:=by
 refine i7 (BE TE Y T hr) λc C N mN z hC Pl l=>?_
 have eR:SF.rule=C:=by rw[hR,hC]; rfl
 have had:∀ c∈bB L,mg (oD c)=ti (.ref (SF.exc c)):=λc z=>by
  refine al (BN Y T c z) λa e=>?_
  rw[hA,e]; rfl
 refine ae (Dv Y T ht (ad:=SF.exc) had hP λuu=>rfl) λx1 x2=>?_
 refine bM hL λfI hI=>?_
 have j:=sr ht hI
 unfold jG at j
 rw[N0 (by decide),NZ rfl] at j
 refine aj j λr hr j=>?_
 refine aW j λj i3=>?_
 refine aW j λi1 i2=>?_
 unfold r7 at hr
 rw[z] at hr
 refine ce (BR Pl (ps:="self" :: fI.params) (m:="__init__") hr (wD i1) i2 i3) λaI oI e1 y e3 e4=>?_
 have tF:∀ f fn,L.lookup f=ti fn->¬ (f = "Rule" \/ f∈excNames)->∃ a d,(W1 p).find? (λd=>d.name==oD f)=ti d/\mg (oD f)=ti (.ref a)/\FnAt h ⟨fn.params,d.body,d.scope⟩ a/\okF ⟨fn.params,d.body,d.scope⟩ fn=true:=λf fn hm k=>by
  have j:=sr ht hm
  unfold jG at j
  rw[N0 (λq=>k (.inr q)),N0 (λq=>k (.inl q))] at j
  refine aj j λd hd j=>?_
  refine aW j λj i3=>?_
  refine aW j λi1 i2=>?_
  exact ag (J3 T hd (wB i1) i2 i3) λa e1 y=>⟨a,d,hd,e1,y,i1⟩
 have gF:∀ i f t,(kq p mg i L).fn f=ti t->mg (oD f)=ti (.ref t.1)/\FnAt h t.2 t.1:=λi f t u=>by
  by_cases k:f = "Rule" \/ f∈excNames
  ·exact nN ((NZ k).symm.trans u)
  ·refine a7 ((lf k).symm.trans u) λfn l u=>?_
   refine ce (tF f fn l k) λa d e1 y e3 _=>?_
   rw[e1,y] at u
   exact Gt u▸⟨y,e3⟩
 refine ⟨(aI,⟨"self" :: fI.params,r.body,r.scope⟩),⟨⟨mg,T.g,λf a hq=>?_,λx hx=>?_⟩,λf t u=>(gF _ f t u).2,⟨N,mN,eR▸Pl.cls,λn k=>?_,y,oI,e1,e3,e4⟩,⟨mb,T.b,λx hx=>?_⟩,T.nolimit,hO,⟨mg,T.g,λc z=>?_,?_⟩,As (T.bmain) λbm ob a b c d e f=>⟨mg,bm,ob,T.g,a,b,c,d,e,f⟩,?_⟩,λf fn hf=>⟨λhe=>by rw[hN]; exact xP hf he,λhe=>?_⟩⟩
 ·by_cases j:f = "Rule"
  ·rw[<- Gt ((NZ j).symm.trans hq),j,eR]; exact hC
  ·refine b9 ((N0 j).symm.trans hq) λt u Mx=>?_
   exact Mx▸(gF _ f t u).1
 ·have:=Pm.mp (bA hb).2 x hx
  simp only[Of,P8,List.contains_eq_mem,QA] at this
  exact T.free _ this.1.1.1.1 this.1.1.1.2 this.1.1.2 this.1.2 this.2
 ·simp only[Ou,Uh,WS] at k
  rcases k with rfl | rfl | rfl | rfl | rfl | rfl
  ·exact Pl.quiet _ (OV _ (.head _))
  ·exact Pl.quiet _ (OV _ (.tail _ (.head _)))
  ·exact Pl.quiet _ (OV _ (.tail _ (.tail _ (.head _))))
  ·exact l _ (.head _)
  ·exact l _ (.tail _ (.head _))
  ·exact l _ (.tail _ (.tail _ (.head _)))
 ·simp only[bnames,Ou,Uh,WS] at hx
  rcases hx with rfl | rfl | rfl | rfl | rfl | rfl | rfl | rfl | rfl | rfl | rfl | rfl | rfl<;>(rw[T.builtins _ (by decide +kernel)]; kernel_rfl)
 ·rw[hN] at z
  exact ⟨had c z,x1 c z⟩
 ·rw[hN]; exact x2
 ·refine a7 (Oj.mp (bA hb).1) λd j h2=>?_
  refine ag (T.const _ _ j) λv h3 h4=>?_
  have r:=h4 h
  rw[cM h2] at r
  cases r
  exact ⟨mg,_,T.g,h3⟩
 ·by_cases j:f = "Rule"
  ·rw[NZ j]
   rw[j,hI] at hf
   exact Gt hf▸i1
  ·rw[N0 j]
   have k:¬ (f = "Rule" \/ f∈excNames):=λq=>q.elim j he
   refine ce (tF f fn hf k) λa d e1 y e3 e6=>?_
   exact (ah (a,⟨fn.params,d.body,d.scope⟩) ((lf k).trans (by rw[hf,R8,e1,R8,y]; rfl)) e6)
theorem rT (h:n<=60):Room NY n callerA:=⟨λuu=>rfl,by show 1+ZH+2*n+4<RO; unfold ZH RO; exact HK h,by show 4+100*n+300<TH; unfold TH; exact GQ h⟩
theorem CK:qy gl:=by
 intro p loose mean mg mb L s fn fa a n ns vs m Q Er g T TE Y ht hb z hL hP hf hmg hn j ea hI hlen hQ
 replace g:SF=rD mg L s.heap:=g
 show Og (Ok prog w) YR (Sy (.ref fa) [.ref a]) Q Er s
 refine ag (v0 (λb hb=>by rw[g] at hb; exact hb) T TE Y ht hb z hL hP (by rw[g]; rfl) (λuu=>by rw[g]; rfl) (by rw[g]; rfl)) λi ge x=>?_
 refine ag (show ∃ u,(kq p mg i L).fn "law" = ti u/\okF u.2 fn=vj from (x "law" fn hf).2 (by decide)) λu hp hok=>?_
 have ha:u.1=fa:=by
  have this:=hp
  rw[lf (by decide),hf] at this
  refine a7 (show ((W1 p).find? _).bind _=ti u from this) λd _ this=>?_
  rw[hmg] at this
  exact Gt this▸rfl
 have rs:RVs s.heap [.d (aa ns)] [.ref a] ([a]++[]):=by
  refine .cons ⟨.list ea (RA.of_ints hI),?_⟩ .nil
  exact sz_list.mpr ⟨by rw[Oc]; exact hlen,i6 ns⟩
 have hat:FnAt s.heap u.2 fa:=ha▸ge.funs "law" u hp
 refine se (fns:=kq p mg i L) (P:=λuu=>V1) rfl (wR rfl x n) hok (rT (Hi hn)) ⟨[],rfl,λuu h=>nomatch h⟩ ge hat rs (λuu uu=>trivial) (by rw[j]; simp) (λr z v s' E=>?_) λc hc=>by rw[j] at hc; cases hc
 rw[j] at z; (have oc:=Out.ok.inj z; clear z; subst oc)
 obtain ⟨t,as,k,_⟩:=E
 refine au (t) λh' tk y kp=>?_
 clear t
 subst y
 refine ae (k) λr _=>?_
 clear k
 cases r
 refine hQ h' tk ⟨λb o e=>?_,λb o e=>K.there kp e⟩
 refine ag (kp b o (.inl trivial) e) λo' e' l=>?_
 refine l.2.2.elim (λq=>.inl (q▸e')) λq=>?_
 rw[g] at q; exact N5 ⟨o,e⟩ q.1
end
theorem uA {P:Params}{h:O2}{a:Oo}{vs:uq Lt}{xs:uq W.WData}(x:W.Well P h (.ref a) (.list xs)) (hL:h.IsList a vs.toArray):h.get? a=ti {cls:=.type "list", data:=.seq vs.toArray }:=by
 obtain ⟨o,e,j,n,g⟩:=hL
 cases x with
 | list e' _=>
  rw[e] at e'; (have i:=Gt e'; clear e'; (clear j; subst i))
  dsimp only at g
  injection g with h1 h2
  rw[e,h1]
theorem y4 {w:World}{prog:SS}(T:Top p loose mean mg mb s.heap) (TE:TopE p loose mg s.heap) (Y:gv (bB L) s.heap) (ht:j8 p loose L=vj) (hb:tP p loose=vj) (hr:(eM p loose).isSome=vj) (hL:(L.lookup "Rule").isSome=vj) (hP:bB L=[] \/ "PickError" ∈ bB L)
  (hf:L.lookup "law" = ti fn) (hmg:mg (oD "law")=ti (.ref fa)) (hn:n<=50) (hrun:ax (mkC L n) fn [.d (aa ns)] = .ok (.d (.bool vj),m)) (ea:s.heap.get? a=ti {cls:=.type "list", data:=.seq vs.toArray }) (hI:P2 vs ns) (hlen:ns.length<=2^22)
  (hQ:∀ h' tk,OldK s.heap h'->Q (.bool vj) {s with heap:=h',toks:=tk }):Og (Ok prog w) YR (Sy (.ref fa) [.ref a]) Q Er s :=
 DW CK ⟨prog,w,rD mg L s.heap⟩ rfl T TE Y ht hb hr hL hP hf hmg hn hrun ea hI hlen hQ
theorem kJ:∀ {xs:uq N9},(∀ x∈xs,x.depth<=n)->Sq xs<=n
 | [],_=>by simp[Sq]
 | x::xs,h=>by
  rw[Sq]
  exact ZN.mpr ⟨h x (.head _),kJ λy g=>h y (.tail _ g)⟩
theorem jc:∀ {xs:uq N9},(∀ x∈xs,x.canLay0=vj)->Ui xs=vj
 | [],_=>by simp[Ui]
 | x::xs,h=>by
  rw[Ui,h x (.head _),jc λy g=>h y (.tail _ g)]; rfl
noncomputable def Low (n:N7) (d:N9):Prop:=d.canLay0=vj/\d.depth<=n
theorem Low.okc (h:Low n d) (hn:n<=64:=by decide):okc d=true:=by
 unfold Internal.okc
 rw[h.1,OA (vc h.2 hn)]; rfl
theorem Low.int (i:N3) (n:N7):Low (n+1) (.int i):=⟨rfl,by simp[UY]⟩
theorem Low.list (h:∀ x∈xs,Low n x):Low (n+1) (.list xs) :=
 ⟨by rw[VD]; exact jc λx g=>(h x g).1,by rw[UY]; have:=kJ λx g=>(h x g).2; exact o8 this⟩
theorem qI (ns:uq N3) (n:N7):Low (n+2) (aa ns):=.list λx h=>by
 refine aB h λi _ g=>?_
 (clear h; subst g)
 exact .int i n
theorem w9 (t:uq (uq N3)) (n:N7):Low (n+3) (af t):=.list λx h=>by
 refine aB h λi _ g=>?_
 (clear h; subst g)
 exact qI i n
@[simp] theorem ir (i:N3):okc (.int i)=true:=(Low.int i 0).okc
@[simp] theorem LR:okc .none=true:=rfl
@[simp] theorem dA (ns:uq N3):okc (aa ns)=true:=(qI ns 0).okc
@[simp] theorem okc_ints' (ns:uq N3):okc (.list (ns.map .int))=true:=dA ns
@[simp] theorem eT (t:uq (uq N3)):okc (af t)=true:=(w9 t 0).okc
@[simp] theorem okc_rows' (t:uq (uq N3)):okc (.list (t.map aa))=true:=eT t
@[simp] theorem Mo:okc (.list [])=true:=dA []
@[simp] theorem nJ (a b:N3):P7 (.int a) (.int b)=decide (a=b):=by
 rw[P7]; by_cases h:a=b<;>simp[h]
theorem kS:∀ (a b:uq N3),Qt (a.map .int) (b.map .int)=decide (a=b)
 | [],[]=>by simp[Qt]
 | [],y::b=>by simp[Qt]
 | x::a,[]=>by simp[Qt]
 | x::a,y::b=>by
  rw[Pe,Pe,Qt,kS a b,nJ]
  by_cases h1:x=y<;>by_cases h2:a=b<;>simp[h1,h2]
@[simp] theorem gc (a b:uq N3):P7 (aa a) (aa b)=decide (a=b):=by
 unfold aa; rw[P7]; exact kS a b
@[simp] theorem eqv_ints' (a b:uq N3):P7 (.list (a.map .int)) (.list (b.map .int))=decide (a=b):=gc a b
theorem kN:∀ (a b:uq (uq N3)),Qt (a.map aa) (b.map aa)=decide (a=b)
 | [],[]=>by simp[Qt]
 | [],y::b=>by simp[Qt]
 | x::a,[]=>by simp[Qt]
 | x::a,y::b=>by
  rw[Pe,Pe,Qt,kN a b,gc]
  by_cases h1:x=y<;>by_cases h2:a=b<;>simp[h1,h2]
@[simp] theorem pq (a b:uq (uq N3)):P7 (af a) (af b)=decide (a=b):=by
 unfold af; rw[P7]; exact kN a b
@[simp] theorem DT (a:uq N3):P7 (aa a) (.list [])=decide (a=[]):=gc a []
@[simp] theorem qL (k:N3) (ns:uq N3):inV (.int k) (.d (aa ns)) = .ok (decide (k∈ns)):=by
 show (if okc (.int k)&&okc (aa ns) then Out.ok ((ns.map Oz).any λy=>P7 y (.int k)) else .bad)=_
 rw[ir,dA,NZ (by decide)]
 congr 1
 rw[XQ,Y6]
 simp[UO]
@[simp] theorem qo (k:uq N3) (t:uq (uq N3)):inV (aa k) (.d (af t)) = .ok (decide (k∈t)):=by
 show (if okc (aa k)&&okc (af t) then Out.ok ((t.map aa).any λy=>P7 y (aa k)) else .bad)=_
 rw[dA,eT,NZ (by decide)]
 congr 1
 rw[XQ,Y6]
 simp[UO]
@[simp] theorem dJ:∀ ns:uq N3,aR (ns.map .int)=ti ns
 | []=>rfl
 | i::ns=>by rw[Pe,aR,dJ ns]; rfl
theorem vJ (ns:uq N3):(ns.map Oz).all sx=true:=by rw[VV,Pm]; intro _ _; rfl
@[simp] theorem gS (ns:uq N3):fresh (ns.map .int) = .deep:=by unfold fresh; rw[vJ]; rfl
@[simp] theorem DB (i:N3):mk (.d (.int i))=sI i:=rfl
@[simp] theorem Ml (ns:uq N3):mk (.d (aa ns))=(.d (aa ns),.sh):=rfl
theorem lW:∀ {ns:uq N3},(∀ i∈ns,F (.int i) = .ok (if p i then ti (sI (f i)) else NI))->bj F (ns.map .int) = .ok (((ns.filter p).map f).map .int,vj)
 | [],_=>rfl
 | i::ns,h=>by
  rw[Pe,bj,h i (.head _),lW λj g=>h j (.tail _ g)]
  simp only[Out.ok_bind]
  cases hp:p i<;>simp[hp,sI,UP]
theorem pH:∀ {l:uq α},(∀ i∈l,F (e i) = .ok (ti (sI (f i))))->bj F (l.map e) = .ok ((l.map f).map .int,vj)
 | [],_=>rfl
 | i::l,h=>by
  rw[Pe,bj,h i (.head _),pH λj g=>h j (.tail _ g)]
  rfl
theorem iQ {α:Type}{F:N9->Out (NX (V×Mode))}{e:α->N9}{f:α->uq N3}{p:α->OF}{m:α->Mode}:∀ {l:uq α},(∀ i∈l,F (e i) = .ok (if p i then ti (.d (aa (f i)),m i) else NI)) ->
  ∃ b,bj F (l.map e) = .ok (((l.filter p).map f).map aa,b)/\((∀ i∈l,m i = .deep)->b=vj)
 | [],_=>(ah vj rfl (λuu=>rfl))
 | i::l,h=>by
  refine ag (iQ (l:=l) λj g=>h j (.tail _ g)) λb n k=>?_
  rw[Pe,bj,h i (.head _),n]
  simp only[Out.ok_bind]
  cases hp:p i
  ·exact (ah b (by simp[hp,UP]) (λq=>k λj g=>q j (.tail _ g)))
  ·refine (ah (decide (m i = .deep)&&b) (by simp[hp,UP]) (λq=>?_))
   rw[q i (.head _),k λj g=>q j (.tail _ g)]; rfl
theorem lC (a b:N3):dz a b=((Sz (b-a).toNat).map λ(k:N7)=>a+(k:N3)).map .int:=by
 unfold dz; rw[U4]; rfl
noncomputable def a0 (n:N7):uq Int:=(Sz n).map λ(k:N7)=>(k:N3)
theorem ve {n:N7}(h:n<=1000000):cA 0 n = .ok ((a0 n).map .int,.deep):=by
 unfold cA
 rw[NZ (cw (by unfold lim; exact Js h) JO Hx Ka (Gz h)),lC]
 simp[a0]
theorem mem_upTo:i∈a0 n↔0<=i/\i<n:=by
 unfold a0
 simp only[Tm,VT]
 constructor
 ·rintro ⟨k,hk,rfl⟩; exact IV hk
 ·rintro ⟨g,h⟩; exact (ah i.toNat (la1 g h) (JE g))
theorem jw (hk:bN i xs.length=ti k) (h:xs[k]? = ti y):fC (.list xs) (.int i) = .ok (mk (.d y)):=by
 show (am ((bN i xs.length).bind λk=>xs[k]?) λz=>Out.ok (mk (.d z)))=_
 rw[hk,R8,h]; rfl
theorem dE {i:N3}{n:N7}(h0:0<=i) (h:i<n):bN i n=ti i.toNat:=by unfold bN; rw[NZ h0,NZ h]
theorem wH (h0:0<=i) (h:ns[i.toNat]? = ti x):fC (aa ns) (.int i) = .ok (sI x):=by
 have g:i.toNat<ns.length:=(O4.mp h).1
 exact jw (dE h0 (by rw[Oc]; exact zw g)) (by rw[Pp,h]; rfl)
section
variable (a b:N3) (xs ys:uq N3) (t u:uq (uq N3)) (σ:St) (x y:If) (v:V×Mode)
@[simp] theorem Mp:upd σ x v y=if y=x then ti v else σ y:=rfl
@[simp] theorem bR (b:OF):aq (.d (.bool b)) = .ok b:=rfl
@[simp] theorem Mr:cq .lt (.d (.int a)) (.d (.int b)) = .ok (decide (a<b)):=rfl
@[simp] theorem Mq:cq .gt (.d (.int a)) (.d (.int b)) = .ok (decide (b<a)):=rfl
@[simp] theorem Ms:cq .ge (.d (.int a)) (.d (.int b)) = .ok (decide (b<=a)):=rfl
@[simp] theorem Do:cq .eq (.d (.int a)) (.d (.int b)) = .ok (decide (a=b)):=by
 show (if okc (.int a)&&okc (.int b) then Out.ok (P7 (.int a) (.int b)) else .bad)=_
 rw[ir,ir,nJ,NZ (by decide)]
@[simp] theorem Dy:cq .ne (.d (.int a)) (.d (.int b)) = .ok (!decide (a=b)):=by
 show (if okc (.int a)&&okc (.int b) then Out.ok (!PyData.eqv (.int a) (.int b)) else .bad)=_
 rw[ir,ir,nJ,NZ (by decide)]
@[simp] theorem B3:cq .eq (.d (aa xs)) (.d (aa ys)) = .ok (decide (xs=ys)):=by
 show (if okc (aa xs)&&okc (aa ys) then Out.ok (P7 (aa xs) (aa ys)) else .bad)=_
 rw[dA,dA,gc,NZ (by decide)]
@[simp] theorem Mh:cq .ne (.d (aa xs)) (.d (aa ys)) = .ok (!decide (xs=ys)):=by
 show (if okc (aa xs)&&okc (aa ys) then Out.ok (!PyData.eqv (aa xs) (aa ys)) else .bad)=_
 rw[dA,dA,gc,NZ (by decide)]
@[simp] theorem Cd:cq .eq (.d (af t)) (.d (af u)) = .ok (decide (t=u)):=by
 show (if okc (af t)&&okc (af u) then Out.ok (P7 (af t) (af u)) else .bad)=_
 rw[eT,eT,pq,NZ (by decide)]
@[simp] theorem Bl:cq .ne (.d (af t)) (.d (af u)) = .ok (!decide (t=u)):=by
 show (if okc (af t)&&okc (af u) then Out.ok (!PyData.eqv (af t) (af u)) else .bad)=_
 rw[eT,eT,pq,NZ (by decide)]
@[simp] theorem CN:cq .isin (.d (.int a)) (.d (aa xs)) = .ok (decide (a∈xs)):=qL a xs
@[simp] theorem Bw:cq .notin (.d (.int a)) (.d (aa xs)) = .ok (!decide (a∈xs)):=by
 show ((inV (.int a) (.d (aa xs))).bind λb=>Out.ok (!b))=_
 rw[qL]; rfl
@[simp] theorem Cw:cq .isin (.d (aa xs)) (.d (af t)) = .ok (decide (xs∈t)):=qo xs t
@[simp] theorem Mn:dK .add (.int a) (.int b) = .ok (sI (a+b)):=rfl
@[simp] theorem Mg:dK .sub (.int a) (.int b) = .ok (sI (a-b)):=rfl
@[simp] theorem Mm:dK .xor (.int a) (.int b) = .ok (sI (TV a b)):=rfl
theorem uU (h:a.natAbs<2^63):dK .mul (.int a) (.int b) = .ok (sI (a*b)):=by
 show (if a.natAbs<2^63\/b.natAbs<2^63 then Out.ok (sI (a*b)) else .bad)=_
 rw[NZ (.inl h)]
theorem vL (h:b.natAbs<2^63):dK .mul (.int a) (.int b) = .ok (sI (a*b)):=by
 show (if a.natAbs<2^63\/b.natAbs<2^63 then Out.ok (sI (a*b)) else .bad)=_
 rw[NZ (.inr h)]
theorem BX (h:0<b):dK .mod (.int a) (.int b) = .ok (sI (a%b)):=by
 show (if b=0 then Out.bad else Out.ok (sI (a.fmod b)))=_
 rw[N0 (GF h),Int.fmod_eq_emod_of_nonneg _ (Aa h)]
theorem Cp (h:0<b) (h':b<1000000000):dK .fdiv (.int a) (.int b) = .ok (sI (a/b)):=by
 show (if b=0\/1000000000<=b.natAbs then Out.bad else Out.ok (sI (a.fdiv b)))=_
 rw[N0 (by lia),Int.fdiv_eq_ediv_of_nonneg _ (Aa h)]
theorem xQ (h:xs.length+ys.length<=1000000):dK .add (aa xs) (aa ys) = .ok (.d (aa (xs++ys)),.deep):=by
 show (if (xs.map Oz).length+(ys.map Oz).length<=lim then Out.ok (V.d (.list (xs.map .int++ys.map .int)),fresh (xs.map .int++ys.map .int)) else .bad)=_
 rw[Oc,Oc,NZ (show _<=lim from h),<- Rs,gS]; rfl
@[simp] theorem Dp:b1V .len (.d (aa xs)) = .ok (sI xs.length):=by
 show Out.ok (sI (xs.map Oz).length)=_
 rw[Oc]
@[simp] theorem Bu:b1V .len (.d (af t)) = .ok (sI t.length):=by
 show Out.ok (sI (t.map aa).length)=_
 rw[Oc]
@[simp] theorem BG:b1V .list (.d (aa xs)) = .ok (.d (aa xs),.deep):=by
 show Out.ok (V.d (.list (xs.map Oz)),fresh (xs.map Oz))=_
 rw[gS]; rfl
@[simp] theorem xa:b1V .tuple (.d (aa xs)) = .ok (.d (aP xs),.deep):=by
 show Out.ok (V.d (.tuple (xs.map Oz)),if (xs.map Oz).all sx then Mode.deep else .sh)=_
 rw[vJ,NZ rfl]; rfl
noncomputable def aU (xs:uq N3):uq Int:=xs.mergeSort λa b=>decide (a<=b)
theorem vZ (h:xs.length<64):b1V .sorted (.d (aa xs)) = .ok (.d (aa (aU xs)),.deep):=by
 show cZ (xs.map Oz)=_
 unfold cZ
 rw[Oc,NZ h,dJ]; rfl
theorem uS (h:xs.length<128) (h0:∀ i∈xs,0<=i):b1V .sorted (.d (aa xs)) = .ok (.d (aa (aU xs)),.deep):=by
 by_cases h1:xs.length<64
 ·exact vZ xs h1
 show cZ (xs.map Oz)=_
 unfold cZ
 rw[Oc,N0 h1,NZ h,dJ]
 show (if _ then _ else _)=_
 rw[NZ h0]; rfl
@[simp] theorem DZ:g7 (.d (.int a)) "int" = .ok true:=rfl
@[simp] theorem Dw:g7 (.d (.int a)) "bool" = .ok false:=rfl
@[simp] theorem CH:g7 (.d (aa xs)) "list" = .ok true:=rfl
@[simp] theorem Kx:(sI a).1 = .d (.int a):=rfl
@[simp] theorem Mu:(sI a).2 = .deep:=rfl
@[simp] theorem iH (b:OF):(sB b).1 = .d (.bool b):=rfl
@[simp] theorem Mt (b:OF):(sB b).2 = .deep:=rfl
@[simp] theorem LQ:bH []=ti []:=rfl
@[simp] theorem Ld (m:Mode) (l:uq (V×Mode)):bH ((.d (.int a),m)::l)=(bH l).map (.int a :: ·):=rfl
@[simp] theorem Mf (l:uq (V×Mode)):bH (sI a::l)=(bH l).map (.int a :: ·):=rfl
@[simp] theorem D0:allDeep []=true:=rfl
@[simp] theorem GR (l:uq (V×Mode)):allDeep (sI a::l)=allDeep l:=by simp[allDeep]
end
theorem cT (xs:uq N3):(aU xs).Perm xs:=P9 ..
theorem qF (xs:uq N3):(aU xs).Pairwise (·<=·):=by
 have:=SK (le:=λa b:N3=>decide (a<=b)) (λa b c h1 h2=>by simp at *; exact AO h1 h2) (λa b=>by simp; exact z7) xs
 exact this.imp (by intro a b h; simpa using h)
theorem oJ:∀ {l l':uq N3},l.Perm l'->l.Pairwise (·<=·)->l'.Pairwise (·<=·)->l=l'
 | [],l',p,_,_=>by rw[p.nil_eq]
 | a::l,[],p,_,_=>by cases p.eq_nil
 | a::l,b::l',p,h,h'=>by
  refine ae (Sl.mp h) λk j=>?_
  refine ae (Sl.mp h') λg i=>?_
  have e:a=b:=by
   rcases Ou.mp (p.mem_iff.mp (Q4 (a:=a) (l:=l))) with e | e
   ·exact e
   ·rcases Ou.mp (p.mem_iff.mpr (Q4 (a:=b) (l:=l'))) with e' | e'
    ·exact e'.symm
    ·have:=k b e'; have:=g a e; exact AH ‹_› this
  (clear h' g; subst e)
  rw[oJ ((VG a).mp p) j i]
theorem qw (p:xs.Perm ys) (h:ys.Pairwise (·<=·)):aU xs=ys:=oJ ((cT xs).trans p) (qF xs) h
@[simp] theorem Kl (xs:uq N3):i9 (.d (aa xs))=ti (xs.map .int):=rfl
@[simp] theorem jr (t:uq (uq N3)):i9 (.d (af t))=ti (t.map aa):=rfl
@[simp] theorem cB (xs:uq N3) (m:Mode):itV (.d (aa xs),m) = .ok (xs.map .int,m):=rfl
@[simp] theorem aH (t:uq (uq N3)) (m:Mode):itV (.d (af t),m) = .ok (t.map aa,m):=rfl
@[simp] theorem DY (xs:uq N3) (a:N3):PyData.list (xs.map .int++[.int a])=aa (xs++[a]):=by unfold aa; rw[Rs]; rfl
theorem uV (h:xs.length<=1000000):lp σ x ns mx xs .deep = .ok (upd σ x (.d (.list xs),mx),.next):=by
 unfold lp
 rw[NZ (show _<=lim from h),NZ rfl]
@[simp] theorem b7 (n:N7):(a0 n).length=n:=by simp[a0]
theorem dW (h:ex C s σ = .ok (σ',.next)):exs C (.cons s r) σ=exs C r σ':=by
 simp only[aE,h,Out.ok_bind]
theorem Be (h:ex C s σ = .ok (σ',.ret v)):exs C (.cons s r) σ = .ok (σ',.ret v):=by
 simp only[aE,h,Out.ok_bind]
section
theorem ie (ha:ev C a σ = .ok (.d x,mx)) (hb:ev C b σ = .ok (.d y,my)):ev C (.sub a b) σ=fC x y:=by simp only[jX,ha,hb,Out.ok_bind]
theorem dm (ha:ev C a σ = .ok (.d x,mx)) (hb:ev C b σ = .ok (.d y,my)):ev C (.bin o a b) σ=dK o x y:=by simp only[mL,ha,hb,Out.ok_bind]
theorem fo (h:ev C a σ = .ok r):ex C (.ret a) σ = .ok (σ,.ret r):=by simp only[iy,h,Out.ok_bind]
end
section
theorem mO (hC:C f=ti g) (he:evs C es σ = .ok l):ev C (.call f es) σ=g (l.map (·.1)):=by simp only[iM,hC,he,Out.ok_bind]
theorem ak (h:ev C a σ = .ok r) (hs:evs C es σ = .ok l):evs C (.cons a es) σ = .ok (r::l):=by simp only[bw,h,hs,Out.ok_bind]
theorem av:evs C .nil σ = .ok []:=by simp only[bF]
theorem a9 (ha:ev C a σ = .ok (x,mx)) (hb:ev C b σ = .ok (y,my)) (h:cq o x y = .ok t):ev C (.cmp o a b) σ = .ok (sB t):=by simp only[jZ,ha,hb,h,Out.ok_bind]
theorem du (ha:ev C a σ = .ok (sB t)):ev C (.not a) σ = .ok (sB (!t)):=by simp only[hW,ha,Out.ok_bind,iH,bR]
theorem CF (ha:ev C a σ = .ok (sB NY)) (hb:ev C b σ = .ok (sB t)):ev C (.or a b) σ = .ok (sB t):=by
 simp only[jj,ha,hb,Out.ok_bind,iH,bR,OL,PA]
theorem mV (ha:ev C a σ = .ok (sB vj)):ev C (.or a b) σ = .ok (sB vj):=by
 simp only[jj,ha,Out.ok_bind,iH,bR,Qz]
theorem xG (ha:ev C a σ = .ok (sB vj)) (hb:ev C b σ = .ok (sB t)):ev C (.and a b) σ = .ok (sB t):=by
 simp only[il,ha,hb,Out.ok_bind,iH,bR,Qz]
theorem xm (ha:ev C a σ = .ok (sB NY)):ev C (.and a b) σ = .ok (sB NY):=by
 simp only[il,ha,Out.ok_bind,iH,bR,OL,PA]
theorem ki (h:ev C c σ = .ok (sB NY)):ex C (.ite c u v) σ=exs C v σ:=by simp only[iu,h,Out.ok_bind,iH,bR,OL,PA]
theorem fb (h:ev C c σ = .ok (sB vj)):ex C (.ite c u v) σ=exs C u σ:=by simp only[iu,h,Out.ok_bind,iH,bR,Qz]
theorem d9:exs C .nil σ = .ok (σ,.next):=by simp only[dl]
theorem dh (ha:ev C a σ = .ok (x,mx)):ev C (.bi1 f a) σ=b1V f x:=by simp only[j7,ha,Out.ok_bind]
theorem kC (h:σ z=ti p) (hr:mk p.1=r):ev C (.name z) σ = .ok r:=by simp only[dB,h,hr]
theorem aD (h:ev C a σ = .ok r) (hq:itV r = .ok q):be C (.e a) σ = .ok q:=by simp only[ic,h,Out.ok_bind,hq]
theorem bO {n:N7}{m:Mode}(h:ev C a σ = .ok (.d (.int n),m)) (hn:n<=1000000):be C (.r1 a) σ = .ok ((a0 n).map .int,.deep):=by
 simp only[gh,h,Out.ok_bind]; exact ve hn
theorem nH {elt:E}(h:be C it σ = .ok q) (hr:bj (λy=>(ev C elt (upd σ z (mk (.d y)))).bind λr=>.ok (ti r)) q.1 = .ok r):ev C (.comp elt z it) σ = .ok (.d (.list r.1),if r.2 then .deep else .top):=by
 simp only[iP,h,Out.ok_bind,hr,Out.calm_ok]
theorem n7 {elt c:E}(h:be C it σ = .ok q) (hr:bj (λy=>(ev C c (upd σ z (mk (.d y)))).bind λt=>(aq t.1).bind λb=>if b then (ev C elt (upd σ z (mk (.d y)))).bind λr=>.ok (ti r) else .ok NI) q.1 = .ok r):ev C (.compif elt z it c) σ = .ok (.d (.list r.1),if r.2 then .deep else .top):=by
 simp only[iF,h,Out.ok_bind,hr,Out.calm_ok]
theorem jD {c:E}{z:If}{it:It}{ns:uq N3}{m:Mode}(p:N3->OF) (h:be C it σ = .ok (ns.map .int,m)) (hc:∀ i∈ns,ev C c (upd σ z (sI i)) = .ok (sB (p i))):ev C (.compif (.name z) z it c) σ = .ok (.d (aa (ns.filter p)),.deep):=by
 rw[n7 h (r:=((ns.filter p).map .int,vj))]
 ·rfl
 ·have:=lW (F:=λy=>(ev C c (upd σ z (mk (.d y)))).bind λt=>(aq t.1).bind λb=>if b then (ev C (.name z) (upd σ z (mk (.d y)))).bind λr=>.ok (ti r) else .ok NI) (f:=λi=>i) (p:=p) (ns:=ns) λi g=>by
   rw[DB,hc i g]
   cases p i<;>simp[dB]
  simpa using this
theorem wV (h0:0<=i) (h:t[i.toNat]? = ti r):fC (af t) (.int i) = .ok (.d (aa r),.sh):=by
 have g:i.toNat<t.length:=(O4.mp h).1
 exact jw (dE h0 (by rw[Oc]; exact zw g)) (by rw[Pp,h]; rfl)
end
def Val (σ:St) (x:If) (v:V):Prop:=∃ m,σ x=ti (v,m)
def Has (σ:St) (l:uq (If×V)):Prop:=∀ x v,l.lookup x=ti v->Val σ x v
def Sub (l:uq (If×V)):uq (If×V)->Prop
 | []=>V1
 | p::r=>l.lookup p.1=ti p.2/\Sub l r
theorem fx (σ:St) (x:If) (r:V×Mode):upd σ x r x=ti r:=NZ rfl
theorem bX (x:If) (v:β) (l:uq (If×β)):ZI x ((x,v)::l)=ti v:=by
 rw[Pb,Pi]
theorem gT (h:x≠y) (v:β) (l:uq (If×β)):ZI x ((y,v)::l)=l.lookup x:=by
 rw[Pb,Pd.mpr h]
section
variable {C:Calls}{σ:St}{l l':uq (If×V)}
theorem Has.nil:Has σ []:=λuu uu h=>by exact nN h
theorem Has.ev (H:Has σ l) (h:l.lookup x=ti v):ev C (.name x) σ = .ok (mk v):=by
 refine al (H x v h) λm e=>?_
 exact kC e rfl
theorem Has.upd (H:Has σ l) (x:If) (v:V) (m:Mode):Has (Internal.upd σ x (v,m)) ((x,v)::l):=by
 intro y u h
 by_cases e:y=x
 ·subst e
  rw[bX] at h
  (have g:=Gt h; clear h; subst g)
  exact ⟨m,NZ rfl⟩
 ·rw[gT e] at h
  refine al (H y u h) λi q=>?_
  exact ⟨i,(N0 e).trans q⟩
theorem Has.demote (H:Has σ l) (ns:uq If):Has (Internal.demote σ ns) l:=by
 intro x v h
 refine al (H x v h) λm q=>?_
 by_cases e:x∈ns
 ·exact ⟨(mk v).2,(NZ e).trans (by rw[q]; rfl)⟩
 ·exact ⟨m,(N0 e).trans q⟩
theorem Has.consume (H:Has σ l) (ns:uq If) (m:Mode):Has (Internal.consume σ ns m) l:=by
 unfold Internal.consume
 by_cases e:m = .deep
 ·rw[NZ e]; exact H
 ·rw[N0 e]; exact H.demote ns
theorem Has.sub (H:Has σ l) (h:Sub l l'):Has σ l':=by
 induction l' with
 | nil=>exact .nil
 | cons p r ih=>
  intro x v g
  by_cases e:x=p.1
  ·subst e
   rw[bX] at g
   (have i:=Gt g; clear g; subst i)
   exact H _ _ h.1
  ·rw[gT e] at g
   exact ih h.2 x v g
noncomputable def Runs (C:Calls) (b:Ss) (σ:St) (Post:St->Flw->Prop):Prop:=∃ σ' fl,exs C b σ = .ok (σ',fl)/\Post σ' fl
noncomputable def Cont (C:Calls) (b:Ss) (Post:St->Flw->Prop) (σ:St):Flw->Prop
 | .next=>Runs C b σ Post
 | .ret v=>Post σ (.ret v)
variable {b u v:Ss}{s:S}{e c:E}{Post Post':St->Flw->Prop}{r:V×Mode}{x:If}
theorem Cont.ret (h:Post σ (.ret r)):Cont C b Post σ (.ret r):=h
theorem Runs.mono (h:Runs C b σ Post) (k:∀ σ' fl,Post σ' fl->Post' σ' fl):Runs C b σ Post':=au (h) λa f i g=>(aC a f i (k a f g))
theorem Runs.nil (h:Post σ .next):Runs C .nil σ Post:=(aC σ .next d9 h)
theorem Runs.cons (he:ex C s σ = .ok o) (k:Cont C b Post o.1 o.2):Runs C (.cons s b) σ Post:=by
 obtain ⟨g,j⟩:=o
 cases j with
 | next=>
  refine au (k) λa f i h=>?_
  clear k
  exact (aC a f (by rw[dW he]; exact i) h)
 | ret v=>exact (aC g (.ret v) (Be he) k)
theorem Runs.set (H:Has σ l) (he:Internal.ev C e σ = .ok r) (k:∀ σ',Has σ' ((x,r.1)::l)->σ' x=ti r->Runs C b σ' Post):Runs C (.cons (.assign x e) b) σ Post :=
 Runs.cons (o:=(Internal.upd (Internal.consume σ (fv e) r.2) x r,.next)) (by simp only[cS,lY he,Out.ok_bind]) (k _ ((H.consume _ _).upd x r.1 r.2) (NZ rfl))
theorem Runs.ret (he:Internal.ev C e σ = .ok r) (k:Post σ (.ret r)):Runs C (.cons (.ret e) b) σ Post:=Runs.cons (o:=(σ,.ret r)) (fo he) k
theorem Runs.retn (he:σ x=ti r) (k:Post σ (.ret r)):Runs C (.cons (.retn x) b) σ Post:=Runs.cons (o:=(σ,.ret r)) (by simp only[ln,he]) k
theorem Runs.no (he:Internal.ev C c σ = .ok (sB NY)) (k:Runs C b σ Post):Runs C (.cons (.ite c u .nil) b) σ Post:=Runs.cons (o:=(σ,.next)) ((ki he).trans d9) k
theorem Runs.ite (he:Internal.ev C c σ = .ok (sB t)) (kt:t=vj->Runs C u σ (Cont C b Post)) (kf:t=NY->Runs C v σ (Cont C b Post)):Runs C (.cons (.ite c u v) b) σ Post:=by
 cases t with
 | true=>
  refine au (kt rfl) λa f h g=>?_
  exact Runs.cons (o:=(a,f)) ((fb he).trans h) g
 | false=>
  refine au (kf rfl) λa f h g=>?_
  exact Runs.cons (o:=(a,f)) ((ki he).trans h) g
theorem Runs.next (he:ex C s σ = .ok (σ',.next)) (k:Runs C b σ' Post):Runs C (.cons s b) σ Post:=Runs.cons (o:=(σ',.next)) he k
theorem Runs.iteTo (Inv:St->Prop) (he:Internal.ev C c σ = .ok (sB t)) (kt:t=vj->Runs C u σ (λσ' fl=>fl = .next/\Inv σ')) (kf:t=NY->Runs C v σ (λσ' fl=>fl = .next/\Inv σ')) (k:∀ σ',Inv σ'->Runs C b σ' Post):Runs C (.cons (.ite c u v) b) σ Post :=
 Runs.ite he (λq=>(kt q).mono λσ' fl h=>by obtain ⟨rfl,h⟩:=h; exact k σ' h) λq=>(kf q).mono λσ' fl h=>by obtain ⟨rfl,h⟩:=h; exact k σ' h
theorem gU:(∀ l,Has σ l->Has (Internal.consume σ ns m) l)/\∀ y,y∉ns->Internal.consume σ ns m y=σ y:=⟨λuu H=>H.consume ns m,λy g=>by
 unfold Internal.consume
 by_cases q:m = .deep
 ·rw[NZ q]
 ·rw[N0 q]; exact N0 g⟩
theorem og (Inv:uq α->St->Prop)
  (hs:∀ pre y post,xs=pre++y::post->∀ σ,Inv pre σ->Runs C body (Internal.upd σ z (mk (.d (g y)))) (λσ' fl=>match fl with | .next=>Inv (pre++[y]) σ' | .ret v=>Post σ' (.ret v))) :
  ∀ (post pre:uq α) (σ:St),xs=pre++post->Inv pre σ->∃ o,loopS (λy σ=>exs C body (Internal.upd σ z (mk (.d y)))) (post.map g) σ = .ok o/\match o.2 with | .next=>Inv xs o.1 | .ret v=>Post o.1 (.ret v)
 | [],pre,σ,hl,h=>(ah (σ,.next) rfl (by rw[hl,PU]; exact h))
 | y::post,pre,σ,hl,h=>by
  refine au (hs pre y post hl σ h) λa f j i=>?_
  cases f with
  | ret v=>exact (ah (a,.ret v) (by rw[Pe,loopS,j]; rfl) i)
  | next=>
   obtain ⟨o,l,k⟩:=og Inv hs post (pre++[y]) a (by rw[hl,Pk]; rfl) i
   exact (ah o (by rw[Pe,loopS,j]; exact l) k)
theorem Runs.for (Inv:uq α->St->Prop) (hit:be C it σ = .ok (xs.map g,m)) (h0:∀ σ0,(∀ l,Has σ l->Has σ0 l)->(∀ y,y∉bD it->σ0 y=σ y)->Inv [] σ0)
  (hs:∀ pre y post,xs=pre++y::post->∀ σ,Inv pre σ->Runs C body (Internal.upd σ z (mk (.d (g y)))) (λσ' fl=>match fl with | .next=>Inv (pre++[y]) σ' | .ret v=>Post σ' (.ret v)))
  (k:∀ σ',Inv xs σ'->Runs C b σ' Post):Runs C (.cons (.for1 z it body) b) σ Post:=by
 refine ag (og Inv hs xs [] (Internal.consume σ (bD it) m) rfl (h0 _ gU.1 gU.2)) λo i h=>?_
 refine Runs.cons (o:=o) (by simp only[gp,hit,Out.ok_bind]; exact i) ?_
 obtain ⟨a,f⟩:=o
 cases f with
 | next=>exact k a h
 | ret v=>exact h
noncomputable def Sk (o:NX β) (Inv:St->Prop) (rv:β->V×Mode) (σ:St) (fl:Flw):Prop:=match o with
 | none=>fl = .next/\Inv σ
 | some q=>fl = .ret (rv q)
theorem Sk.next {β:Type}{o:NX β}{Inv:St->Prop}{rv:β->V×Mode}(h:o=NI) (hI:Inv σ):Sk o Inv rv σ .next:=by subst h; exact ⟨rfl,hI⟩
theorem Sk.ret {β:Type}{o:NX β}{q:β}{Inv:St->Prop}{rv:β->V×Mode}(h:o=ti q):Sk o Inv rv σ (.ret (rv q)):=by subst h; exact rfl
theorem Runs.seek {α β:Type}{body:Ss}{z:If}{it:It}{g:α->N9}{xs:uq α}{m:Mode}(Inv:St->Prop) (f:α->NX β) (rv:β->V×Mode) (hit:be C it σ = .ok (xs.map g,m)) (h0:∀ σ0,(∀ l,Has σ l->Has σ0 l)->(∀ y,y∉bD it->σ0 y=σ y)->Inv σ0)
  (hs:∀ y∈xs,∀ σ,Inv σ->Runs C body (Internal.upd σ z (mk (.d (g y)))) (Sk (f y) Inv rv))
  (k:xs.findSome? f=NI->∀ σ',Inv σ'->Runs C b σ' Post) (kr:∀ q,xs.findSome? f=ti q->∀ σ',Post σ' (.ret (rv q))):Runs C (.cons (.for1 z it body) b) σ Post:=by
 refine Runs.for (λj σ=>Inv σ/\j.findSome? f=NI) hit (λσ0 n u=>⟨h0 σ0 n u,rfl⟩) (λj y r t o n=>?_) λσ' h=>k h.2 σ' h.1
 refine (hs y (by rw[t]; exact OU _ (.head _)) o n.1).mono λσ' v h=>?_
 cases hf:f y with
 | none=>
  rw[hf] at h
  revert h; intro i
  refine ae (i) λp h=>?_
  clear i
  subst p
  exact ⟨h,by rw[Vu,n.2,TL,hf]; rfl⟩
 | some q=>
  rw[hf] at h
  subst h
  exact kr q (by rw[t,Vu,n.2,TL,hf]; rfl) σ'
theorem eg:∀ (ps:uq If) (vs:uq V),ps.length=vs.length->∃ σ,bV ps vs=ti σ/\Has σ (ps.zip vs)
 | [],[],_=>(ah _ rfl .nil)
 | [],v::vs,h=>by cases h
 | p::ps,[],h=>by cases h
 | p::ps,v::vs,h=>by
  refine ag (eg ps vs (Nat.succ.inj h)) λσ i g=>?_
  exact (ah _ (by rw[bV,i]; rfl) (g.upd p (mk v).1 (mk v).2))
theorem cu {ps:uq If}{vs:uq V}{P:V×Mode->Prop}(hl:ps.length=vs.length) (h:∀ σ,Has σ (ps.zip vs)->Runs C b σ (λuu fl=>∃ r,fl = .ret r/\P r)):∃ r,ax C ⟨ps,b⟩ vs = .ok r/\P r:=by
 refine ag (eg ps vs hl) λσ l k=>?_
 obtain ⟨a,f,j,r,g,i⟩:=h σ k
 subst g
 exact (ah r (by unfold ax; dsimp only; rw[l]; dsimp only; rw[j]; rfl) i)
theorem cW {ps:uq If}(hl:ps.length=vs.length) (h:∀ σ,Has σ (ps.zip vs)->Runs C b σ (λuu fl=>fl = .ret r)):ax C ⟨ps,b⟩ vs = .ok r:=by
 refine ag (cu (P:=λq=>q=r) hl λσ H=>(h σ H).mono λuu uu e=>(ah r e rfl)) λq i g=>?_
 (clear h; subst g)
 exact i
noncomputable def qW (f:If):Bool:=!decide (f = "Rule")
theorem jt (hL:L.lookup f=ti fn):mkC L (n+1) f=ti λvs=>iZ f (mkC L n) fn vs:=PG (λo:NX Fn=>o.map λfn vs=>iZ f (mkC L n) fn vs) hL
theorem iU (h:∃ g,L.lookup f=ti g):∃ g,mkC L (n+1) f=ti g:=al h λuu i=>⟨_,jt i⟩
theorem aZ (hL:L.lookup f=ti fn) (he:evs (mkC L (n+1)) es σ = .ok q) (hp:qW f=true:=by decide):Internal.ev (mkC L (n+1)) (.call f es) σ=ax (mkC L n) fn (q.map (·.1)) :=
 (mO (jt hL) he).trans (N0 λe=>by rw[e] at hp; exact N5 hp (by decide))
theorem dH (hL:L.lookup f=ti fn) (he:evs (mkC L (n+1)) es σ = .ok q) (hv:q.map (·.1)=vs) (h:ax (mkC L n) fn vs = .ok r) (hp:qW f=true:=by decide):Internal.ev (mkC L (n+1)) (.call f es) σ = .ok r:=(aZ hL he hp).trans (hv▸h)
end
section
theorem ai (i:N3):ev C (.int i) σ = .ok (sI i):=by simp only[eN]
theorem dM (i:OF):ev C (.bool i) σ = .ok (sB i):=by simp only[qq]
theorem di:ev C .none σ = .ok (.d .none,.deep):=by simp only[rI]
theorem wu:ev C .edic σ = .ok (.dic0,.deep):=by simp only[qd]
theorem pk:ev C (.list .nil) σ = .ok (.d (aa []),.deep):=by simp only[b8,bF]; rfl
theorem iC (h:ev C a σ = .ok (sI x)):ev C (.list (.cons a .nil)) σ = .ok (.d (aa [x]),.deep):=by simp only[b8,bF,bw,h,Out.ok_bind]; rfl
theorem IZ (h:ev C a σ = .ok (sI x)) (h':ev C b σ = .ok (sI y)):ev C (.list (.cons a (.cons b .nil))) σ = .ok (.d (aa [x,y]),.deep):=by simp only[b8,bF,bw,h,h',Out.ok_bind]; rfl
theorem bU (ha:ev C a σ = .ok (sI x)) (hb:ev C b σ = .ok (sI y)):ev C (.bin .add a b) σ = .ok (sI (x+y)):=(dm ha hb).trans rfl
theorem E3 (ha:ev C a σ = .ok (sI x)) (hb:ev C b σ = .ok (sI y)):ev C (.bin .sub a b) σ = .ok (sI (x-y)):=(dm ha hb).trans rfl
theorem GI (ha:ev C a σ = .ok (sI x)) (hb:ev C b σ = .ok (sI y)):ev C (.bin .xor a b) σ = .ok (sI (TV x y)):=(dm ha hb).trans rfl
theorem jO (ha:ev C a σ = .ok (sI x)) (hb:ev C b σ = .ok (sI y)) (h:x.natAbs<2^63):ev C (.bin .mul a b) σ = .ok (sI (x*y)):=(dm ha hb).trans (uU x y h)
theorem aY (ha:ev C a σ = .ok (sI x)) (hb:ev C b σ = .ok (sI y)) (h:0<y):ev C (.bin .mod a b) σ = .ok (sI (x%y)):=(dm ha hb).trans (BX x y h)
theorem cY (ha:ev C a σ = .ok (sI x)) (hb:ev C b σ = .ok (sI y)) (h:0<y) (h':y<1000000000):ev C (.bin .fdiv a b) σ = .ok (sI (x/y)):=(dm ha hb).trans (Cp x y h h')
theorem jz (ha:ev C a σ = .ok (sI x)) (hb:ev C b σ = .ok (sI y)):ev C (.cmp .lt a b) σ = .ok (sB (decide (x<y))):=a9 ha hb rfl
theorem gZ (ha:ev C a σ = .ok (sI x)) (hb:ev C b σ = .ok (sI y)):ev C (.cmp .gt a b) σ = .ok (sB (decide (y<x))):=a9 ha hb rfl
theorem y0 (ha:ev C a σ = .ok (sI x)) (hb:ev C b σ = .ok (sI y)):ev C (.cmp .ge a b) σ = .ok (sB (decide (y<=x))):=a9 ha hb rfl
theorem cJ (ha:ev C a σ = .ok (sI x)) (hb:ev C b σ = .ok (sI y)):ev C (.cmp .eq a b) σ = .ok (sB (decide (x=y))):=a9 ha hb (Do x y)
theorem gX (ha:ev C a σ = .ok (sI x)) (hb:ev C b σ = .ok (sI y)):ev C (.cmp .ne a b) σ = .ok (sB (!decide (x=y))):=a9 ha hb (Dy x y)
theorem zB (ha:ev C a σ = .ok (.d (aa xs),m)) (hb:ev C b σ = .ok (.d (aa ys),m')):ev C (.cmp .eq a b) σ = .ok (sB (decide (xs=ys))):=a9 ha hb (B3 xs ys)
theorem Fl (ha:ev C a σ = .ok (.d (af t),m)) (hb:ev C b σ = .ok (.d (af u),m')):ev C (.cmp .ne a b) σ = .ok (sB (!decide (t=u))):=a9 ha hb (Bl t u)
theorem pM (ha:ev C a σ = .ok (sI x)) (hb:ev C b σ = .ok (.d (aa xs),m)):ev C (.cmp .isin a b) σ = .ok (sB (decide (x∈xs))):=a9 ha hb (CN x xs)
theorem po (ha:ev C a σ = .ok (sI x)) (hb:ev C b σ = .ok (.d (aa xs),m)):ev C (.cmp .notin a b) σ = .ok (sB (!decide (x∈xs))):=a9 ha hb (Bw x xs)
theorem EU (ha:ev C a σ = .ok (.d (aa xs),m)) (hb:ev C b σ = .ok (.d (af t),m')):ev C (.cmp .isin a b) σ = .ok (sB (decide (xs∈t))):=a9 ha hb (Cw xs t)
theorem ij (ha:ev C a σ = .ok (.d (aa xs),m)) (hb:ev C b σ = .ok (.d (aa ys),m')) (h:xs.length+ys.length<=1000000):ev C (.bin .add a b) σ = .ok (.d (aa (xs++ys)),.deep):=(dm ha hb).trans (xQ xs ys h)
theorem ya (t u:uq (uq N3)) (h:t.length+u.length<=1000000):∃ m,dK .add (af t) (af u) = .ok (.d (af (t++u)),m):=by
 refine ⟨fresh ((t++u).map aa),?_⟩
 show (if (t.map aa).length+(u.map aa).length<=lim then Out.ok (V.d (.list (t.map aa++u.map aa)),fresh (t.map aa++u.map aa)) else .bad)=_
 rw[Oc,Oc,NZ (show _<=lim from h),<- Rs]; rfl
theorem ji (ha:ev C a σ = .ok (.d (af t),m)) (hb:ev C b σ = .ok (.d (af u),m')) (h:t.length+u.length<=1000000):∃ m,ev C (.bin .add a b) σ = .ok (.d (af (t++u)),m):=by
 refine al (ya t u h) λm q=>?_
 exact ⟨m,(dm ha hb).trans q⟩
theorem dP (ha:ev C a σ = .ok (.d (aa xs),m)):ev C (.bi1 .len a) σ = .ok (sI xs.length):=(dh ha).trans (Dp xs)
theorem eA (ha:ev C a σ = .ok (.d (af t),m)):ev C (.bi1 .len a) σ = .ok (sI t.length):=(dh ha).trans (Bu t)
theorem wY (ha:ev C a σ = .ok (.d (aa xs),m)):ev C (.bi1 .list a) σ = .ok (.d (aa xs),.deep):=(dh ha).trans (BG xs)
theorem sK (ha:ev C a σ = .ok (.d (aa xs),m)):ev C (.bi1 .tuple a) σ = .ok (.d (aP xs),.deep):=(dh ha).trans (xa xs)
theorem li (h:r.Pairwise (· < ·)):aU r=r:=qw (.refl _) (h.imp λh=>QU h)
theorem fw (ha:ev C a σ = .ok (.d (aa xs),m)) (h:xs.length<128) (h0:∀ i∈xs,0<=i):ev C (.bi1 .sorted a) σ = .ok (.d (aa (aU xs)),.deep):=(dh ha).trans (uS xs h h0)
theorem gy (ha:ev C a σ = .ok (.d (aa xs),m)) (hb:ev C b σ = .ok (sI i)) (h0:0<=i) (h:xs[i.toNat]? = ti x):ev C (.sub a b) σ = .ok (sI x):=(ie ha hb).trans (wH h0 h)
theorem lJ (ha:ev C a σ = .ok (.d (af t),m)) (hb:ev C b σ = .ok (sI i)) (h0:0<=i) (h:t[i.toNat]? = ti xs):ev C (.sub a b) σ = .ok (.d (aa xs),.sh):=(ie ha hb).trans (wV h0 h)
theorem dT (ha:ev C a σ = .ok (sB p)) (hb:p=vj->ev C b σ = .ok (sB q)):ev C (.and a b) σ = .ok (sB (p&&q)):=by
 cases p with
 | true=>exact xG ha (hb rfl)
 | false=>exact xm ha
theorem cX (ha:ev C a σ = .ok (sB p)) (hb:p=NY->ev C b σ = .ok (sB q)):ev C (.or a b) σ = .ok (sB (p||q)):=by
 cases p with
 | true=>exact mV ha
 | false=>exact CF ha (hb rfl)
theorem Dq (ha:ev C a σ = .ok (.d (af t),m)):∃ m,ev C (.rev a) σ = .ok (.d (af t.reverse),m):=by
 refine ⟨fresh (t.reverse.map aa),?_⟩
 simp only[jU,ha,Out.ok_bind]
 show Out.ok (V.d (.list (t.map aa).reverse),fresh (t.map aa).reverse)=_
 rw[<- Xm]; rfl
theorem B5 (ha:ev C a σ = .ok (sI i)) (hb:ev C b σ = .ok (sI j)) (h1:0<=i) (h2:i<=1000) (h3:0<=j) (h4:j<=1000):be C (.r2 a b) σ = .ok (((Sz (j-i).toNat).map λ(k:N7)=>i+(k:N3)).map .int,.deep):=by
 simp only[f8,ha,hb,Out.ok_bind]
 show cA i j=_
 unfold cA
 rw[NZ (cw (by unfold lim; exact HX h1 h4) (zZ h1) (Ad h2) (zZ h3) (Ad h4)),lC]
theorem cr {α:Type}{g:α->N9}{l:uq α}{z:If}{it:It}{q:Mode}(f:α->uq N3) (mm:Mode) (h:be C it σ = .ok (l.map g,q)) (hc:∀ i∈l,ev C a (upd σ z (mk (.d (g i)))) = .ok (.d (aa (f i)),mm)) :
  ∃ m,ev C (.comp a z it) σ = .ok (.d (af (l.map f)),m)/\(mm = .deep->m = .deep)/\m≠.sh:=by
 obtain ⟨b,j,o⟩:=iQ (F:=λy=>(ev C a (upd σ z (mk (.d y)))).bind λr=>.ok (ti r)) (e:=g) (f:=f) (p:=λuu=>vj) (m:=λuu=>mm) (l:=l) λi n=>by rw[hc i n]; rfl
 rw[List.filter_eq_self.mpr (λuu uu=>rfl)] at j
 exact (aG (if b then .deep else .top) (nH h j) (λk=>by rw[o λuu uu=>k]; rfl) (by cases b<;>simp))
theorem jm {α:Type}{g:α->N9}{l:uq α}{z:If}{it:It}{r:Mode}(f:α->uq N3) (p:α->OF) (mm:Mode) (h:be C it σ = .ok (l.map g,r)) (hp:∀ i∈l,ev C c (upd σ z (mk (.d (g i)))) = .ok (sB (p i)))
  (hc:∀ i∈l,p i=vj->ev C a (upd σ z (mk (.d (g i)))) = .ok (.d (aa (f i)),mm)):∃ m,ev C (.compif a z it c) σ = .ok (.d (af ((l.filter p).map f)),m)/\(mm = .deep->m = .deep)/\m≠.sh:=by
 obtain ⟨b,o,n⟩:=iQ (F:=λy=>(ev C c (upd σ z (mk (.d y)))).bind λt=>(aq t.1).bind λb=>if b then (ev C a (upd σ z (mk (.d y)))).bind λr=>.ok (ti r) else .ok NI) (e:=g) (f:=f) (p:=p) (m:=λuu=>mm) (l:=l) λi j=>by
  rw[hp i j]
  cases hq:p i with
  | true=>simp only[Out.ok_bind,iH,bR,Qz,hc i j hq]
  | false=>simp only[Out.ok_bind,iH,bR,OL,PA]
 exact (aG (if b then .deep else .top) (n7 h o) (λk=>by rw[n λuu uu=>k]; rfl) (by cases b<;>simp))
theorem io {α:Type}{g:α->N9}{l:uq α}{z:If}{it:It}{q:Mode}(f:α->N3) (h:be C it σ = .ok (l.map g,q)) (hc:∀ i∈l,ev C a (upd σ z (mk (.d (g i)))) = .ok (sI (f i))):ev C (.comp a z it) σ = .ok (.d (aa (l.map f)),.deep):=by
 rw[nH h (r:=((l.map f).map .int,vj))]
 ·rfl
 ·exact pH (F:=λy=>(ev C a (upd σ z (mk (.d y)))).bind λr=>.ok (ti r)) (e:=g) λi j=>by rw[hc i j]; rfl
theorem vn (h:xs≠[]):∃ i,jh xs=ti i/\i∈xs:=by
 cases xs with
 | nil=>exact N5 rfl h
 | cons x xs=>
  refine (ah _ rfl ?_)
  have g:∀ (l:uq N3) (a:N3),l.foldl (λa b=>if a<b then b else a) a=a\/l.foldl (λa b=>if a<b then b else a) a∈l:=by
   intro l
   induction l with
   | nil=>exact λa=>.inl rfl
   | cons y l ih=>
    intro a
    rw[Vf]
    by_cases q:a<y
    ·rw[NZ q]
     rcases ih y with e | e
     ·exact .inr (by rw[e]; exact .head _)
     ·exact .inr (.tail _ e)
    ·rw[N0 q]
     exact (ih a).imp id λe=>.tail _ e
  rcases g xs x with e | e
  ·rw[e]; exact .head _
  ·exact .tail _ e
theorem G3 (ha:ev C a σ = .ok (.d (aa xs),m)) (h:xs≠[]):∃ i,ev C (.bi1 .max a) σ = .ok (sI i)/\i∈xs:=by
 refine ag (vn h) λi j g=>?_
 refine (ah i ((dh ha).trans ?_) g)
 show (am ((aR (xs.map Oz)).bind jh) λi=>Out.ok (sI i))=_
 rw[dJ,R8,j]; rfl
theorem qJ:ev C (.list (.cons (.list .nil) .nil)) σ = .ok (.d (af [[]]),.deep):=by simp only[b8,bF,bw]; rfl
theorem im:ev C (.list .nil) σ = .ok (.d (af []),.deep):=by simp only[b8,bF]; rfl
theorem kU {α:Type}{l:uq α}{Q:α->OF->Prop}(h:∀ i∈l,∃ b,Q i b):∃ p:α->OF,∀ i∈l,Q i (p i):=by
 classical
 exact ⟨λi=>if g:i∈l then (h i g).choose else NY,λi g=>by dsimp only; rw[dif_pos g]; exact (h i g).choose_spec⟩
theorem Has.mk (H:Has σ l) (z:If) (v:V):Has (Internal.upd σ z (Internal.mk v)) ((z,v)::l):=H.upd z v (Internal.mk v).2
theorem Runs.appR (H:Has σ l) (hz:σ z=ti (.d (af t),m)) (hm:m≠.sh) (h:ev C a σ = .ok (.d (aa xs),.deep)) (hl:t.length<1000000) (k:∀ σ',Has σ' ((z,.d (af (t++[xs])))::l)->σ' z=ti (.d (af (t++[xs])),m)->(∀ y,y≠z->σ' y=σ y)->Runs C bb σ' Post):Runs C (.cons (.append z a) bb) σ Post:=by
 refine Runs.cons (o:=(upd σ z (.d (af (t++[xs])),m),.next)) ?_ (k _ (H.upd z _ m) (NZ rfl) λy g=>N0 g)
 simp only[fN,h,Out.ok_bind,pd,gK,hz,jr,N0 hm]
 rw[uV (by rw[Ox,Oc]; exact hl)]
 unfold af; rw[Rs]; rfl
theorem oB (f:α->β):∀ (l:uq α) (i:N7),(l.map f).eraseIdx i=(l.eraseIdx i).map f
 | [],_=>rfl
 | _::_,0=>rfl
 | a::l,i+1=>PG (f a :: ·) (oB f l i)
theorem Runs.popR (H:Has σ l) (hz:σ z=ti (.d (af t),m)) (hm:m≠.sh) (h:ev C a σ = .ok (sI x)) (h0:0<=x) (h1:x<t.length) (k:∀ σ',Has σ' ((z,.d (af (t.eraseIdx x.toNat)))::l)->σ' z=ti (.d (af (t.eraseIdx x.toNat)),.top)->Runs C bb σ' Post):Runs C (.cons (.pop z a) bb) σ Post:=by
 refine Runs.cons (o:=(upd σ z (.d (af (t.eraseIdx x.toNat)),.top),.next)) ?_ (k _ (H.upd z _ .top) (NZ rfl))
 simp only[nj,h,Out.ok_bind,pd,gK,cI,hz,jr,Kx]
 rw[N0 (by rw[Oc]; exact λq=>q.elim hm λq=>by exact Kj h0 h1 q)]
 unfold af; rw[oB]; rfl
theorem kl {r:N9}{q:uq N9}(h:ev C a σ = .ok (.d (.tuple (r::q)),m)) (hb:ev C b σ = .ok (sI 0)):ev C (.sub a b) σ = .ok (mk (.d r)):=by
 rw[ie h hb]
 show (am ((bN 0 (r::q).length).bind λk=>(r::q)[k]?) λz=>Out.ok (mk (.d z)))=_
 rw[dE (by decide) (by rw[OS]; exact E5)]; rfl
theorem iX {r r':N9}{q:uq N9}(h:ev C a σ = .ok (.d (.tuple (r::r'::q)),m)) (hb:ev C b σ = .ok (sI 1)):ev C (.sub a b) σ = .ok (mk (.d r')):=by
 rw[ie h hb]
 show (am ((bN 1 (r::r'::q).length).bind λk=>(r::r'::q)[k]?) λz=>Out.ok (mk (.d z)))=_
 rw[dE (by decide) (by rw[OS,OS]; exact IS)]; rfl
theorem I7 {r r' r'':N9}{q:uq N9}(h:ev C a σ = .ok (.d (.tuple (r::r'::r''::q)),m)) (hb:ev C b σ = .ok (sI 2)):ev C (.sub a b) σ = .ok (mk (.d r'')):=by
 rw[ie h hb]
 show (am ((bN 2 (r::r'::r''::q).length).bind λk=>(r::r'::r''::q)[k]?) λz=>Out.ok (mk (.d z)))=_
 rw[dE (by decide) (by rw[OS,OS,OS]; exact Gn)]; rfl
theorem DR (ha:ev C a σ = .ok (sI x)) (hb:ev C b σ = .ok (.d (af t),m)):∃ m,ev C (.tup (.cons a (.cons b .nil))) σ = .ok (.d (.tuple [.int x,af t]),m):=by
 refine ⟨if allDeep [sI x,(.d (af t),m)] then .deep else .sh,?_⟩
 simp only[jP,bF,bw,ha,hb,Out.ok_bind]
 rfl
theorem cC {G:Prop}(ha:ev C a σ = .ok (sI x)) (hb:ev C b σ = .ok (.d (af t),m)) (k:∀ m,ev C (.tup (.cons a (.cons b .nil))) σ = .ok (.d (.tuple [.int x,af t]),m)->G):G:=al (DR ha hb) k
theorem l0 (h:ev C a σ = .ok (v,m)) (hi:g7 v ty = .ok p):ev C (.isi a ty) σ = .ok (sB p):=by simp only[nK,h,Out.ok_bind,hi]
theorem wq {x y z:N9}{m1 m2 m3:Mode}(ha:ev C a σ = .ok (.d x,m1)) (hb:ev C b σ = .ok (.d y,m2)) (hc:ev C c σ = .ok (.d z,m3)):ev C (.tup (.cons a (.cons b (.cons c .nil)))) σ = .ok (.d (.tuple [x,y,z]),if allDeep [(.d x,m1),(.d y,m2),(.d z,m3)] then .deep else .sh):=by
 simp only[jP,bF,bw,ha,hb,hc,Out.ok_bind]; rfl
end
noncomputable def p_exchanged:Fn:=⟨["choice", "out", "thing"],
(.cons (.ret (.bi1 .sorted (.bin .add (.compif (.name "one") "one" (.e (.name "choice")) (.cmp .ne (.name "one") (.name "out"))) (.list (.cons (.name "thing") .nil)))))
.nil)⟩
noncomputable def p_known_of:Fn:=⟨["table"],
(.cons (.assign "known" .edic)
(.cons (.for1 "choice" (.e (.name "table"))
(.cons (.setitem "known" (.bi1 .tuple (.name "choice")))
.nil))
(.cons (.retn "known")
.nil)))⟩
noncomputable def p_goes:Fn:=⟨["known", "one", "other", "thing"],
(.cons (.for1 "out" (.e (.name "one"))
(.cons (.ite (.and (.cmp .notin (.name "out") (.name "other")) (.cmp .isin (.bi1 .tuple (.call "exchanged" (.cons (.name "one") (.cons (.name "out") (.cons (.name "thing") .nil))))) (.name "known")))
(.cons (.ret (.bool vj))
.nil)
.nil)
.nil))
(.cons (.ret (.bool NY))
.nil))⟩
noncomputable def p_fault:Fn:=⟨["count", "table"],
(.cons (.assign "known" (.call "known_of" (.cons (.name "table") .nil)))
(.cons (.for1 "one" (.e (.name "table"))
(.cons (.for1 "thing" (.r1 (.name "count"))
(.cons (.ite (.cmp .notin (.name "thing") (.name "one"))
(.cons (.for1 "other" (.e (.name "table"))
(.cons (.ite (.and (.cmp .isin (.name "thing") (.name "other")) (.not (.call "goes" (.cons (.name "known") (.cons (.name "one") (.cons (.name "other") (.cons (.name "thing") .nil)))))))
(.cons (.ret (.tup (.cons (.bi1 .list (.name "one")) (.cons (.bi1 .list (.name "other")) (.cons (.name "thing") .nil)))))
.nil)
.nil)
.nil))
.nil)
.nil)
.nil))
.nil))
(.cons (.ret .none)
.nil)))⟩
noncomputable def l_cell_at:Fn:=⟨["_law_script", "_law_k"],
(.cons (.ite (.cmp .lt (.name "_law_k") (.bi1 .len (.name "_law_script")))
(.cons (.ret (.sub (.name "_law_script") (.name "_law_k")))
.nil)
.nil)
(.cons (.ite (.cmp .eq (.name "_law_script") (.list .nil))
(.cons (.ret (.int 0))
.nil)
.nil)
(.cons (.ret (.bin .add (.bin .mul (.sub (.name "_law_script") (.bin .mod (.name "_law_k") (.bi1 .len (.name "_law_script")))) (.int 7)) (.name "_law_k")))
.nil)))⟩
noncomputable def l_whole:Fn:=⟨["_law_found"],
(.cons (.ret (.and (.isi (.name "_law_found") "int") (.not (.isi (.name "_law_found") "bool"))))
.nil)⟩
noncomputable def l_subsets:Fn:=⟨["_law_count"],
(.cons (.assign "_law_rows" (.list (.cons (.list .nil) .nil)))
(.cons (.for1 "_law_thing" (.r1 (.name "_law_count"))
(.cons (.assign "_law_rows" (.bin .add (.name "_law_rows") (.comp (.bin .add (.name "_law_row") (.list (.cons (.name "_law_thing") .nil))) "_law_row" (.e (.name "_law_rows")))))
.nil))
(.cons (.retn "_law_rows")
.nil)))⟩
noncomputable def l_apart:Fn:=⟨["_law_vectors", "_law_row"],
(.cons (.assign "_law_sums" (.list (.cons (.int 0) .nil)))
(.cons (.for1 "_law_thing" (.e (.name "_law_row"))
(.cons (.ite (.cmp .isin (.sub (.name "_law_vectors") (.name "_law_thing")) (.name "_law_sums"))
(.cons (.ret (.bool NY))
.nil)
.nil)
(.cons (.assign "_law_sums" (.bin .add (.name "_law_sums") (.comp (.bin .xor (.name "_law_one") (.sub (.name "_law_vectors") (.name "_law_thing"))) "_law_one" (.e (.name "_law_sums")))))
.nil)))
(.cons (.ret (.bool vj))
.nil)))⟩
noncomputable def l_parts:Fn:=⟨["_law_script", "_law_kind", "_law_count", "_law_more"],
(.cons (.assign "_law_rows" (.call "_law_subsets" (.cons (.name "_law_count") .nil)))
(.cons (.ite (.cmp .eq (.name "_law_kind") (.int 0))
(.cons (.ret (.tup (.cons (.name "_law_count") (.cons (.comp (.sub (.name "_law_rows") (.bin .mod (.call "_law_cell_at" (.cons (.name "_law_script") (.cons (.bin .add (.int 6) (.name "_law_k")) .nil))) (.bi1 .len (.name "_law_rows")))) "_law_k" (.r1 (.bin .mod (.name "_law_more") (.int 6)))) .nil))))
.nil)
.nil)
(.cons (.ite (.cmp .eq (.bin .mod (.name "_law_more") (.int 9)) (.int 8))
(.cons (.assign "_law_count" (.bin .add (.int 7) (.bin .mod (.bin .fdiv (.name "_law_more") (.int 9)) (.int 3))))
(.cons (.assign "_law_rows" (.list .nil))
(.cons (.for1 "_law_one" (.r1 (.name "_law_count"))
(.cons (.assign "_law_rows" (.bin .add (.name "_law_rows") (.comp (.list (.cons (.name "_law_one") (.cons (.name "_law_thing") .nil))) "_law_thing" (.r2 (.bin .add (.name "_law_one") (.int 1)) (.name "_law_count")))))
.nil))
(.cons (.ret (.tup (.cons (.name "_law_count") (.cons (.name "_law_rows") .nil))))
.nil))))
.nil)
(.cons (.ret (.tup (.cons (.name "_law_count") (.cons (.compif (.name "_law_row") "_law_row" (.e (.name "_law_rows")) (.cmp .eq (.bi1 .len (.name "_law_row")) (.bin .mod (.name "_law_more") (.bin .add (.name "_law_count") (.int 1))))) .nil))))
.nil))))⟩
noncomputable def l_few:Fn:=⟨["_law_script"],
(.cons (.assign "_law_kind" (.bin .mod (.call "_law_cell_at" (.cons (.name "_law_script") (.cons (.int 0) .nil))) (.int 9)))
(.cons (.assign "_law_count" (.sub (.list (.cons (.int 6) (.cons (.int 5) (.cons (.int 4) (.cons (.int 3) (.cons (.int 6) (.cons (.int 1) (.cons (.int 0) .nil)))))))) (.bin .mod (.bin .fdiv (.call "_law_cell_at" (.cons (.name "_law_script") (.cons (.int 0) .nil))) (.int 9)) (.int 7))))
(.cons (.assign "_law_more" (.call "_law_cell_at" (.cons (.name "_law_script") (.cons (.int 1) .nil))))
(.cons (.ite (.cmp .eq (.name "_law_kind") (.int 7))
(.cons (.assign "_law_many" (.bin .add (.int 1) (.bin .mod (.name "_law_more") (.int 4))))
(.cons (.ite (.cmp .gt (.bi1 .len (.name "_law_script")) (.int 63))
(.cons (.assign "_law_many" (.bin .add (.int 1) (.bin .mod (.name "_law_more") (.int 5))))
.nil)
.nil)
(.cons (.ret (.tup (.cons (.bin .mul (.int 2) (.name "_law_many")) (.cons (.call "_law_pairs_by" (.cons (.name "_law_many") .nil)) .nil))))
.nil)))
.nil)
(.cons (.ite (.cmp .lt (.name "_law_kind") (.int 2))
(.cons (.ret (.call "_law_parts" (.cons (.name "_law_script") (.cons (.name "_law_kind") (.cons (.name "_law_count") (.cons (.name "_law_more") .nil))))))
.nil)
.nil)
(.cons (.assign "_law_count" (.sub (.list (.cons (.int 6) (.cons (.int 5) (.cons (.int 4) (.cons (.int 3) (.cons (.int 7) (.cons (.int 7) (.cons (.int 2) .nil)))))))) (.bin .mod (.bin .fdiv (.call "_law_cell_at" (.cons (.name "_law_script") (.cons (.int 0) .nil))) (.int 9)) (.int 7))))
(.cons (.assign "_law_rows" (.list (.cons (.list .nil) .nil)))
(.cons (.for1 "_law_thing" (.r1 (.name "_law_count"))
(.cons (.assign "_law_rows" (.bin .add (.name "_law_rows") (.compif (.bin .add (.name "_law_row") (.list (.cons (.name "_law_thing") .nil))) "_law_row" (.e (.name "_law_rows")) (.cmp .lt (.bi1 .len (.name "_law_row")) (.int 3)))))
.nil))
(.cons (.assign "_law_vectors" (.comp (.bin .mod (.call "_law_cell_at" (.cons (.name "_law_script") (.cons (.bin .add (.int 6) (.name "_law_thing")) .nil))) (.int 8)) "_law_thing" (.r1 (.name "_law_count"))))
(.cons (.assign "_law_good" (.compif (.name "_law_row") "_law_row" (.e (.name "_law_rows")) (.call "_law_apart" (.cons (.name "_law_vectors") (.cons (.name "_law_row") .nil)))))
(.cons (.assign "_law_most" (.bi1 .max (.comp (.bi1 .len (.name "_law_row")) "_law_row" (.e (.name "_law_good")))))
(.cons (.assign "_law_table_here" (.compif (.name "_law_row") "_law_row" (.e (.name "_law_good")) (.cmp .eq (.bi1 .len (.name "_law_row")) (.name "_law_most"))))
(.cons (.ite (.cmp .eq (.name "_law_kind") (.int 3))
(.cons (.pop "_law_table_here" (.bin .mod (.name "_law_more") (.bi1 .len (.name "_law_table_here"))))
.nil)
.nil)
(.cons (.ret (.tup (.cons (.name "_law_count") (.cons (.name "_law_table_here") .nil))))
.nil))))))))))))))⟩
noncomputable def l_pairs_by:Fn:=⟨["_law_many"],
(.cons (.assign "_law_rows" (.list (.cons (.list .nil) .nil)))
(.cons (.for1 "_law_k" (.r1 (.name "_law_many"))
(.cons (.assign "_law_rows" (.bin .add (.comp (.bin .add (.name "_law_row") (.list (.cons (.bin .mul (.int 2) (.name "_law_k")) .nil))) "_law_row" (.e (.name "_law_rows"))) (.comp (.bin .add (.name "_law_row") (.list (.cons (.bin .add (.bin .mul (.int 2) (.name "_law_k")) (.int 1)) .nil))) "_law_row" (.e (.name "_law_rows")))))
.nil))
(.cons (.retn "_law_rows")
.nil)))⟩
noncomputable def l_table:Fn:=⟨["_law_script"],
(.cons (.assign "_law_kind" (.bin .mod (.call "_law_cell_at" (.cons (.name "_law_script") (.cons (.int 0) .nil))) (.int 9)))
(.cons (.assign "_law_more" (.call "_law_cell_at" (.cons (.name "_law_script") (.cons (.int 1) .nil))))
(.cons (.ite (.cmp .eq (.name "_law_kind") (.int 4))
(.cons (.assign "_law_count" (.bin .add (.int 7) (.bin .mod (.name "_law_more") (.int 12))))
(.cons (.assign "_law_step" (.bin .add (.int 1) (.bin .mod (.bin .fdiv (.name "_law_more") (.int 12)) (.int 4))))
(.cons (.ret (.tup (.cons (.name "_law_count") (.cons (.compif (.list (.cons (.name "_law_thing") .nil)) "_law_thing" (.r1 (.name "_law_count")) (.cmp .eq (.bin .mod (.name "_law_thing") (.name "_law_step")) (.int 0))) .nil))))
.nil)))
.nil)
(.cons (.ite (.cmp .eq (.name "_law_kind") (.int 5))
(.cons (.assign "_law_count" (.bin .add (.int 7) (.bin .mod (.name "_law_more") (.int 6))))
(.cons (.ret (.tup (.cons (.name "_law_count") (.cons (.comp (.compif (.name "_law_thing") "_law_thing" (.r1 (.name "_law_count")) (.cmp .ne (.name "_law_thing") (.name "_law_gone"))) "_law_gone" (.r1 (.name "_law_count"))) .nil))))
.nil))
.nil)
(.cons (.assign "_law_made" (.call "_law_few" (.cons (.name "_law_script") .nil)))
(.cons (.assign "_law_far" (.call "_law_cell_at" (.cons (.name "_law_script") (.cons (.int 12) .nil))))
(.cons (.ite (.or (.cmp .ne (.bin .mod (.name "_law_far") (.int 3)) (.int 1)) (.or (.cmp .gt (.bi1 .len (.sub (.name "_law_made") (.int 1))) (.int 8)) (.cmp .gt (.sub (.name "_law_made") (.int 0)) (.int 9))))
(.cons (.retn "_law_made")
.nil)
.nil)
(.cons (.assign "_law_step" (.bin .add (.int 1) (.bin .mod (.bin .fdiv (.name "_law_far") (.int 3)) (.int 9))))
(.cons (.assign "_law_first" (.bin .mod (.bin .fdiv (.name "_law_far") (.int 27)) (.int 9)))
(.cons (.assign "_law_table_here" (.list .nil))
(.cons (.for1 "_law_choice" (.e (.sub (.name "_law_made") (.int 1)))
(.cons (.append "_law_table_here" (.comp (.bin .add (.name "_law_first") (.bin .mul (.name "_law_step") (.name "_law_thing"))) "_law_thing" (.e (.name "_law_choice"))))
.nil))
(.cons (.ret (.tup (.cons (.bin .add (.name "_law_first") (.bin .mul (.name "_law_step") (.sub (.name "_law_made") (.int 0)))) (.cons (.name "_law_table_here") .nil))))
.nil))))))))))))⟩
noncomputable def l_can:Fn:=⟨["_law_table_here", "_law_one", "_law_other", "_law_thing"],
(.cons (.for1 "_law_out" (.e (.name "_law_one"))
(.cons (.assign "_law_made" (.bi1 .sorted (.bin .add (.compif (.name "_law_left") "_law_left" (.e (.name "_law_one")) (.cmp .ne (.name "_law_left") (.name "_law_out"))) (.list (.cons (.name "_law_thing") .nil)))))
(.cons (.ite (.and (.cmp .notin (.name "_law_out") (.name "_law_other")) (.cmp .isin (.name "_law_made") (.name "_law_table_here")))
(.cons (.ret (.bool vj))
.nil)
.nil)
.nil)))
(.cons (.ret (.bool NY))
.nil))⟩
noncomputable def l_fault:Fn:=⟨["_law_count", "_law_table_here"],
(.cons (.for1 "_law_one" (.e (.name "_law_table_here"))
(.cons (.for1 "_law_thing" (.r1 (.name "_law_count"))
(.cons (.ite (.cmp .notin (.name "_law_thing") (.name "_law_one"))
(.cons (.for1 "_law_other" (.e (.name "_law_table_here"))
(.cons (.ite (.and (.cmp .isin (.name "_law_thing") (.name "_law_other")) (.not (.call "_law_can" (.cons (.name "_law_table_here") (.cons (.name "_law_one") (.cons (.name "_law_other") (.cons (.name "_law_thing") .nil)))))))
(.cons (.ret (.tup (.cons (.name "_law_one") (.cons (.name "_law_other") (.cons (.name "_law_thing") .nil)))))
.nil)
.nil)
.nil))
.nil)
.nil)
.nil))
.nil))
(.cons (.ret .none)
.nil))⟩
structure Lib (L:uq (If×Fn)):Prop where
 cell:L.lookup "_law_cell_at" = ti l_cell_at
 whole:L.lookup "_law_whole" = ti l_whole
 subs:L.lookup "_law_subsets" = ti l_subsets
 apart:L.lookup "_law_apart" = ti l_apart
 parts:L.lookup "_law_parts" = ti l_parts
 few:L.lookup "_law_few" = ti l_few
 pairs:L.lookup "_law_pairs_by" = ti l_pairs_by
 table:L.lookup "_law_table" = ti l_table
 can:L.lookup "_law_can" = ti l_can
 lfault:L.lookup "_law_fault" = ti l_fault
 exch:L.lookup "exchanged" = ti p_exchanged
 known:L.lookup "known_of" = ti p_known_of
 goes:L.lookup "goes" = ti p_goes
 fault:L.lookup "fault" = ti p_fault
noncomputable def bG (s:uq N3) (k:N3):Int:=if k<s.length then s[k.toNat]?.getD 0 else if s=[] then 0 else s[(k%s.length).toNat]?.getD 0*7+k
theorem getD_some {s:uq N3}{i:N7}(h:i<s.length):s[i]? = ti (s[i]?.getD 0):=by rw[Oh h]; rfl
theorem pL (C:Calls) (s:uq N3) (k:N3) (hk:0<=k):ax C l_cell_at [.d (aa s),.d (.int k)] = .ok (sI (bG s k)):=by
 unfold l_cell_at
 refine cW rfl λm H=>?_
 have i:=jz (C:=C) (H.ev (x:="_law_k") rfl) (dP (H.ev (x:="_law_script") rfl))
 unfold bG
 by_cases h1:k<s.length
 ·rw[NZ h1]
  refine Runs.ite (i.trans (by rw[OA h1])) (λuu=>Runs.ret (gy (H.ev rfl) (H.ev rfl) hk (getD_some (la1 hk h1))) rfl) λq=>by cases q
 ·rw[N0 h1]
  refine Runs.no (i.trans (by rw[OC h1])) ?_
  have h:=zB (C:=C) (H.ev (x:="_law_script") rfl) pk
  by_cases h2:s=[]
  ·rw[NZ h2]
   exact Runs.ite (h.trans (by rw[OA h2])) (λuu=>Runs.ret (ai 0) rfl) λq=>by cases q
  ·rw[N0 h2]
   refine Runs.no (h.trans (by rw[OC h2])) ?_
   have g:0<s.length:=Sh.mpr h2
   have l:0<=k%s.length:=OQ _ (la2 g)
   have j:k%s.length<s.length:=O0 _ (la3 g)
   refine Runs.ret (bU ((dm (gy (H.ev rfl) (aY (H.ev rfl) (dP (H.ev rfl)) (la3 g)) l (getD_some (la4 g j))) (ai 7)).trans (vL _ 7 (by decide))) (H.ev rfl)) rfl
theorem lU (C:Calls) (i:N3):ax C l_whole [.d (.int i)] = .ok (sB vj):=by
 unfold l_whole
 refine cW rfl λg H=>Runs.ret (dT (p:=vj) (q:=vj) ?_ λuu=>?_) rfl
 ·exact l0 (H.ev rfl) rfl
 ·exact du (t:=NY) (l0 (H.ev rfl) rfl)
def Srt (c:N3) (r:uq N3):Prop:=r.Pairwise (· < ·)/\∀ x∈r,0<=x/\x<c
theorem Srt.snoc (h:Srt c r) (h0:0<=c) (hx:c<=x):Srt (x+1) (r++[x]):=by
 refine ⟨Qi.mpr ⟨h.1,UI _ _,λa ha b g=>?_⟩,λa ha=>?_⟩
 ·rw[N1.mp g]; have:=h.2 a ha; exact la5 hx this
 ·rcases Op.mp ha with ha | ha
  ·have:=h.2 a ha; exact la6 hx this
  ·rw[N1.mp ha]; exact la7 h0 hx
theorem Srt.mono (h:Srt c r) (hd:c<=d):Srt d r:=⟨h.1,λx g=>by have:=h.2 x g; exact la8 hd this⟩
theorem Srt.nil (c:N3):Srt c []:=⟨.nil,λuu h=>by cases h⟩
theorem xk (h:a0 c=pre++y::post):y=pre.length/\pre.length<c:=by
 have j:=PG VK h
 rw[b7,Ox,OS] at j
 have g:(a0 c)[pre.length]? = ti y:=by rw[h,List.getElem?_append_right (Ow _),TT]; rfl
 have i:pre.length<c:=by exact la9 j
 unfold a0 at g
 rw[Pp,List.getElem?_range i] at g
 exact ⟨(Gt g).symm,i⟩
theorem lL {c:N7}{pre post:uq N3}{y:N3}{G:Prop}(h:a0 c=pre++y::post) (k:y=pre.length->pre.length<c->G):G:=ae (xk h) k
def qV (k n:N7) (c:N3) (t:uq (uq N3)):Prop:=t≠[]/\t.length<=n/\∀ r∈t,r.length<=k/\Srt c r
noncomputable def subs:N7->uq (uq N3)
 | 0=>[[]]
 | k+1=>subs k++(subs k).map λr=>r++[(k:N3)]
noncomputable def ma:N7->uq (uq N3)
 | 0=>[[]]
 | k+1=>ma k++((ma k).filter λr=>decide ((r.length:N3)<3)).map λr=>r++[(k:N3)]
theorem yq:∀ c≤6,∀ r∈subs c,((subs c).filter λr'=>decide ((r'.length:N3)=r.length)).length<=62:=by decide +kernel
theorem vo:∀ c≤7,∀ r∈ma c,((ma c).filter λr'=>decide ((r'.length:N3)=r.length)).length<=62:=by decide +kernel
theorem qK {t:uq (uq N3)}(h:∀ r∈t,(t.filter λr'=>decide ((r'.length:N3)=r.length)).length<=62) (k:N3):(t.filter λr=>decide ((r.length:N3)=k)).length<=62:=by
 cases e:t.filter λr=>decide ((r.length:N3)=k) with
 | nil=>exact Pf _
 | cons r u=>
  obtain ⟨i,g⟩:=QB.mp (show r∈t.filter λr=>decide ((r.length:N3)=k) by rw[e]; exact .head _)
  have:=h r i
  rw[Oy g,e] at this
  exact this
theorem pE (C:Calls) (c:N7) (hc:c<=7):∃ r,ax C l_subsets [.d (.int c)] = .ok r/\∃ t,r.1 = .d (af t)/\t=subs c/\[]∈t/\qV c 128 c t:=by
 unfold l_subsets
 refine cu rfl λl H=>?_
 refine Runs.set H qJ λl H _=>?_
 refine Runs.for (g:=Oz) (xs:=a0 c) (λi l=>∃ t,Has l [("_law_rows", .d (af t)),("_law_count", .d (.int c))]/\t=subs i.length/\[]∈t/\qV i.length (2^i.length) i.length t) (bO (H.ev rfl) (KC hc)) (λσ0 h _=>(ke ([[]]) ((h _ H).sub ⟨rfl,rfl,trivial⟩) rfl (.head _) (by simp) (by simp) (λr hr=>?_))) ?_ ?_
 ·cases N1.mp hr; exact ⟨Ow _,.nil _⟩
 ·intro i y post hl l o
  refine gJ (o) λt H p h0 g1 u k=>?_
  clear o
  refine lL hl λhy hp=>?_
  have j:2^i.length<=2^6:=Qp (by decide) (DO hc hp)
  have H1:=H.mk "_law_thing" (.d (.int y))
  obtain ⟨m1,e1,_⟩:=cr (λr=>r++[y]) .deep (aD (H1.ev (C:=C) (x:="_law_rows") rfl) (aH t .sh)) (a:=.bin .add (.name "_law_row") (.list (.cons (.name "_law_thing") .nil))) (z:="_law_row") (λr hr=>by
   have H2:=H1.mk "_law_row" (.d (aa r))
   exact ij (H2.ev rfl) (iC (H2.ev rfl)) (by have:=(k r hr).1; rw[OD]; exact KW hc hp this))
  obtain ⟨m2,e2⟩:=ji (H1.ev (C:=C) (x:="_law_rows") rfl) e1 (by rw[Oc]; exact Ky u j)
  refine Runs.set H1 e2 λl H _=>Runs.nil (ke _ (H.sub ⟨rfl,rfl,trivial⟩) (by rw[p,hy,Ox,OD]; rfl) (OV _ h0) ?_ ?_ (λr hr=>?_))
  ·exact λq=>g1 (S9.mp q).1
  ·rw[Ox,Ox,Oc,OD,U9]; exact CW u
  ·rw[Ox,OD]
   rcases Op.mp hr with hr | hr
   ·obtain ⟨q1,v⟩:=k r hr; exact ⟨by exact OX ‹_›,v.mono DM⟩
   ·refine aB hr λr' hr' Mw=>?_
    (clear hr; subst Mw)
    refine ae (k r' hr') λq1 v=>?_
    rw[Ox,OD]
    exact ⟨by exact Pv ‹_›,(v.snoc (Ot _) (x:=y) (CO hy)).mono (Dt hy)⟩
 ·intro σ' n
  refine gJ (n) λt H p h0 g1 u k=>?_
  clear n
  refine al (H "_law_rows" _ rfl) λm e=>?_
  rw[b7] at p u k
  have j:2^c<=2^7:=Qp (by decide) ‹_›
  exact Runs.retn e (ah _ rfl (ke t rfl p h0 g1 (by exact vc ‹_› ‹_›) k))
section
theorem cO (lib:Lib L) (ha:ev (mkC L (n+1)) a σ = .ok (.d (aa s),m)) (hb:ev (mkC L (n+1)) b σ = .ok (sI k)) (hk:0<=k):ev (mkC L (n+1)) (.call "_law_cell_at" (.cons a (.cons b .nil))) σ = .ok (sI (bG s k)) :=
 dH lib.cell (ak ha (ak hb av)) rfl (pL _ s k hk)
end
theorem tV (C:Calls) (vec row:uq N3) (h:∀ i∈row,0<=i/\i<vec.length) (hl:row.length<=7):∃ r,ax C l_apart [.d (aa vec),.d (aa row)] = .ok r/\∃ b,r=sB b/\(row=[]->b=vj):=by
 unfold l_apart
 refine cu rfl λk H=>?_
 refine Runs.set H (iC (ai 0)) λk H _=>?_
 refine Runs.for (g:=Oz) (xs:=row) (λj k=>∃ m:uq N3,Has k [("_law_sums", .d (aa m)),("_law_vectors", .d (aa vec))]/\m.length=2^j.length) (aD (H.ev rfl) (cB row .sh)) (λσ0 h _=>(ah ([0]) ((h _ H).sub ⟨rfl,rfl,trivial⟩) rfl)) ?_ ?_
 ·intro j y z u k o
  refine ag (o) λm H v=>?_
  clear o
  have hp:j.length<row.length:=by rw[u,Ox,OS]; exact x7
  have p:2^j.length<=2^6:=Qp (by decide) (DO hl hp)
  obtain ⟨x,y1⟩:=h y (by rw[u]; exact OU _ (.head _))
  have H1:=H.mk "_law_thing" (.d (.int y))
  have t:∀ {k:St}{l:uq (If×V)},Has k l->l.lookup "_law_vectors" = ti (.d (aa vec))->l.lookup "_law_thing" = ti (.d (.int y))->ev C (.sub (.name "_law_vectors") (.name "_law_thing")) k = .ok (sI (vec[y.toNat]?.getD 0)):=λH a b=>gy (H.ev a) (H.ev b) x (getD_some (la1 x y1))
  refine Runs.ite (pM (t H1 rfl rfl) (H1.ev rfl)) (λuu=>Runs.ret (dM NY) (ah _ rfl (ah NY rfl (λq=>?_)))) λuu=>Runs.nil ?_
  ·rw[q] at u; exact N5 u (by simp)
  refine Runs.set H1 (ij (H1.ev rfl) (io (g:=Oz) (λi=>TV i (vec[y.toNat]?.getD 0)) (aD (H1.ev rfl) (cB m .sh)) λi _=>?_) ?_) λk H _=>Runs.nil (ah _ (H.sub ⟨rfl,rfl,trivial⟩) ?_)
  ·have H2:=H1.mk "_law_one" (.d (.int i))
   exact GI (H2.ev rfl) (t H2 rfl rfl)
  ·rw[Oc]; exact KR v p
  ·rw[Ox,Ox,Oc,OD,U9]; exact La v
 ·intro σ' n
  refine ag (n) λm H v=>?_
  clear n
  exact Runs.ret (dM vj) (ah _ rfl (ah vj rfl (λuu=>rfl)))
def Tb (c:N3) (t:uq (uq N3)):Prop:=0<=c/\c<=99/\t.length<=62/\∀ r∈t,r.length<=12/\Srt c r
def uM (r:V×Mode):Prop:=∃ c t,r.1 = .d (.tuple [.int c,af t])/\Tb c t
theorem tM (C:Calls) (c:N7) (hc:c<=5):∃ r,ax C l_pairs_by [.d (.int c)] = .ok r/\∃ t,r.1 = .d (af t)/\qV c 32 (2*c) t:=by
 unfold l_pairs_by
 refine cu rfl λn H=>?_
 refine Runs.set H qJ λn H _=>?_
 refine Runs.for (g:=Oz) (xs:=a0 c) (λi n=>∃ t,Has n [("_law_rows", .d (af t)),("_law_many", .d (.int c))]/\qV i.length (2^i.length) (2*i.length) t) (bO (H.ev rfl) (LS hc)) (λσ0 h _=>(cV ([[]]) ((h _ H).sub ⟨rfl,rfl,trivial⟩) (by simp) (by simp) (λr hr=>?_))) ?_ ?_
 ·cases N1.mp hr; exact ⟨Ow _,.nil _⟩
 ·intro i y post hl n p
  refine cg (p) λt H g1 v l=>?_
  clear p
  refine lL hl λu hp=>?_
  have j:2^i.length<=2^5:=Qp (by decide) (KF hc hp)
  have H1:=H.mk "_law_k" (.d (.int y))
  obtain ⟨m1,e1,_⟩:=cr (λr=>r++[2*y]) .deep (aD (H1.ev (C:=C) (x:="_law_rows") rfl) (aH t .sh)) (a:=.bin .add (.name "_law_row") (.list (.cons (.bin .mul (.int 2) (.name "_law_k")) .nil))) (z:="_law_row") (λr hr=>by
   have H2:=H1.mk "_law_row" (.d (aa r))
   exact ij (H2.ev rfl) (iC (jO (ai 2) (H2.ev rfl) (by decide))) (by have:=(l r hr).1; rw[OD]; exact CQ hc hp this))
  obtain ⟨m2,e2,_⟩:=cr (λr=>r++[2*y+1]) .deep (aD (H1.ev (C:=C) (x:="_law_rows") rfl) (aH t .sh)) (a:=.bin .add (.name "_law_row") (.list (.cons (.bin .add (.bin .mul (.int 2) (.name "_law_k")) (.int 1)) .nil))) (z:="_law_row") (λr hr=>by
   have H2:=H1.mk "_law_row" (.d (aa r))
   exact ij (H2.ev rfl) (iC (bU (jO (ai 2) (H2.ev rfl) (by decide)) (ai 1))) (by have:=(l r hr).1; rw[OD]; exact CQ hc hp this))
  obtain ⟨m3,e3⟩:=ji e1 e2 (by rw[Oc,Oc]; exact Le v j)
  refine Runs.set H1 e3 λn H _=>Runs.nil (cV _ (H.sub ⟨rfl,rfl,trivial⟩) ?_ ?_ (λr hr=>?_))
  ·exact λq=>g1 (Qx.mp (S9.mp q).1)
  ·rw[Ox,Ox,Oc,Oc,OD,U9]; exact CW v
  ·rw[Ox,OD]
   rcases Op.mp hr with hr | hr
   ·refine aB hr λr' k My=>?_
    (clear hr; subst My)
    refine ae (l r' k) λq1 q2=>?_
    rw[Ox,OD]
    exact ⟨by exact Pv ‹_›,(q2.snoc (Ot _) (x:=2*y) (K2 u)).mono (LO u)⟩
   ·refine aB hr λr' k MB=>?_
    (clear hr; subst MB)
    refine ae (l r' k) λq1 q2=>?_
    rw[Ox,OD]
    exact ⟨by exact Pv ‹_›,(q2.snoc (Ot _) (x:=2*y+1) (LL u)).mono (KD u)⟩
 ·intro σ' o
  refine cg (o) λt H g1 v l=>?_
  clear o
  refine al (H "_law_rows" _ rfl) λm e=>?_
  rw[b7] at v l
  have j:2^c<=2^5:=Qp (by decide) ‹_›
  exact Runs.retn e (ah _ rfl (cV t rfl g1 (by exact vc ‹_› ‹_›) l))
theorem eu {L:uq (If×Fn)}{n:N7}{σ:St}{f:If}{fn:Fn}{es:Es}{q:uq (V×Mode)}{vs:uq V}{P:V×Mode->Prop}(hL:L.lookup f=ti fn) (he:evs (mkC L (n+1)) es σ = .ok q) (hv:q.map (·.1)=vs) (h:∃ r,ax (mkC L n) fn vs = .ok r/\P r) (hp:qW f=true:=by decide):∃ r,ev (mkC L (n+1)) (.call f es) σ = .ok r/\P r:=by
 refine ag (h) λr i g=>?_
 clear h
 exact (ah r (dH hL he hv i hp) g)
noncomputable def tri (k:N7):Nat:=((Sz k).map λi=>8-i).sum
theorem v7:∀ k≤9,tri k<=36:=by decide
theorem w0 (k:N7):tri (k+1)=tri k+(8-k):=by unfold tri; rw[List.range_succ,Rs,List.sum_append]; rfl
theorem th (lib:Lib L) (n:N7) (s:uq N3) (kind more:N3) (c:N7) (hc:c<=6):∃ r,ax (mkC L (n+1)) l_parts [.d (aa s),.d (.int kind),.d (.int c),.d (.int more)] = .ok r/\uM r:=by
 unfold l_parts
 refine cu rfl λσ H=>?_
 obtain ⟨ME,e1,t,ht,hsub,h0,g1,g2,g3⟩:=eu (σ:=σ) (n:=n) lib.subs (es:=.cons (.name "_law_count") .nil) (ak (H.ev rfl) av) rfl (pE _ c (by exact OX ‹_›))
 obtain ⟨rv,rm⟩:=ME
 cases ht
 refine Runs.set H e1 λσ H _=>?_
 have m6:=OQ more (show (6:N3)≠0 by decide)
 have m6':=O0 more (show (0:N3)<6 by decide)
 have j:0<t.length:=Sh.mpr g1
 refine Runs.ite (cJ (H.ev rfl) (ai 0)) (λuu=>?_) λuu=>Runs.nil ?_
 ·obtain ⟨k,hk⟩:∃ k:N7,more%6=k:=⟨(more%6).toNat,by exact KL⟩
  have idx:∀ i:N3,∃ r,t[(bG s (6+i)%t.length).toNat]? = ti r:=λi=>⟨_,Oh (by have:=O0 (bG s (6+i)) (show (0:N3)<t.length by exact la3 j); have:=OQ (bG s (6+i)) (show (t.length:N3)≠0 by exact la2 j); exact la4 j ‹_›)⟩
  obtain ⟨m1,e2,_⟩:=cr (C:=mkC L (n+1)) (σ:=σ) (g:=Oz) (l:=a0 k) (z:="_law_k") (it:=.r1 (.bin .mod (.name "_law_more") (.int 6))) (a:=.sub (.name "_law_rows") (.bin .mod (.call "_law_cell_at" (.cons (.name "_law_script") (.cons (.bin .add (.int 6) (.name "_law_k")) .nil))) (.bi1 .len (.name "_law_rows")))) (λi=>(t[(bG s (6+i)%t.length).toNat]?).getD []) .sh (bO (n:=k) (m:=.deep) ((aY (H.ev rfl) (ai 6) (by decide)).trans (by rw[hk]; rfl)) (LD hk)) (λi hi=>by
   have H2:=H.mk "_law_k" (.d (.int i))
   have:=mem_upTo.mp hi
   refine al (idx i) λr hr=>?_
   rw[hr]
   exact lJ (H2.ev rfl) (aY (cO lib (H2.ev rfl) (bU (ai 6) (H2.ev rfl)) (Dg this)) (eA (H2.ev rfl)) (la3 j)) (OQ _ (la2 j)) hr)
  refine cC (H.ev (x:="_law_count") rfl) e2 λm2 e3=>?_
  refine Runs.ret e3 (ah _ rfl (bK c _ rfl (Ot _) (CJ hc) (by rw[Oc,b7]; exact LY hk) (λr hr=>?_)))
  refine aB hr λi _ MD=>?_
  (clear hr; subst MD)
  refine al (idx i) λr hr=>?_
  rw[hr]
  refine ae (g3 r (PF hr)) λo q2=>?_
  exact ⟨by show r.length<=12; exact CY hc o,q2⟩
 ·refine Runs.ite (cJ (aY (H.ev rfl) (ai 9) (by decide)) (ai 8)) (λuu=>?_) λuu=>Runs.nil ?_
  ·have a1:=OQ (more/9) (show (3:N3)≠0 by decide)
   have a2:=O0 (more/9) (show (0:N3)<3 by decide)
   obtain ⟨d,p⟩:∃ d:N7,7+more/9%3=d:=⟨(7+more/9%3).toNat,by exact LM⟩
   refine Runs.set H (bU (ai 7) (aY (cY (H.ev rfl) (ai 9) (by decide) (by decide)) (ai 3) (by decide))) λσ H _=>?_
   rw[p] at H
   refine Runs.set H im λσ H _=>?_
   refine Runs.for (g:=Oz) (xs:=a0 d) (λpre σ=>∃ t,Has σ [("_law_rows", .d (af t)),("_law_count", .d (.int d))]/\t.length<=tri pre.length/\∀ r∈t,r.length<=12/\Srt d r) (bO (H.ev rfl) (KY p)) (λσ0 h _=>(aG ([]) ((h _ H).sub ⟨rfl,rfl,trivial⟩) (by simp) (λuu q=>by cases q))) ?_ ?_
   ·intro pre y post hl σ v
    refine ar (v) λt H o q2=>?_
    clear v
    refine lL hl λhy hp=>?_
    have H1:=H.mk "_law_one" (.d (.int y))
    obtain ⟨m1,e2,_⟩:=cr (C:=mkC L (n+1)) (σ:=upd σ "_law_one" (mk (.d (.int y)))) (g:=Oz) (z:="_law_thing") (it:=.r2 (.bin .add (.name "_law_one") (.int 1)) (.name "_law_count")) (a:=.list (.cons (.name "_law_one") (.cons (.name "_law_thing") .nil))) (λi=>[y,i]) .deep (B5 (bU (H1.ev rfl) (ai 1)) (H1.ev rfl) (Lk hy) (L6 p hy hp) (Ot _) (KM p)) (λi hi=>by
     have H2:=H1.mk "_law_thing" (.d (.int i))
     exact IZ (H2.ev rfl) (H2.ev rfl))
    obtain ⟨m2,e3⟩:=ji (H1.ev (C:=mkC L (n+1)) (x:="_law_rows") rfl) e2 (by rw[Oc,Oc,WV]; have:=v7 pre.length (Kr p hp); exact L8 p o hy this)
    refine Runs.set H1 e3 λσ H _=>Runs.nil (aG _ (H.sub ⟨rfl,rfl,trivial⟩) ?_ (λr hr=>?_))
    ·rw[Ox,Ox,Oc,Oc,WV,OD,w0]; exact Lh p o hy
    ·rcases Op.mp hr with hr | hr
     ·exact q2 r hr
     ·refine aB hr λi hi MJ=>?_
      (clear hr; subst MJ)
      refine aB hi λk hk MF=>?_
      (clear hi hr; subst MF)
      have:=VT.mp hk
      exact ⟨by simp,by simp; exact KZ,λx hx=>by
       rcases Ou.mp hx with rfl | hx
       ·exact L0 hp hy
       ·rw[N1.mp hx]; exact Lj hy this⟩
   ·intro σ' u
    refine ar (u) λt H o q2=>?_
    clear u
    refine cC (H.ev (C:=mkC L (n+1)) (x:="_law_count") rfl) (H.ev (x:="_law_rows") rfl) λm2 e3=>?_
    rw[b7] at o
    have:=v7 d (KT p)
    exact Runs.ret e3 (ah _ rfl (bK d t rfl (Ot _) (K3 p) (Lc o this) q2))
  ·obtain ⟨m1,e2,_⟩:=jm (C:=mkC L (n+1)) (σ:=σ) (g:=aa) (l:=t) (z:="_law_row") (it:=.e (.name "_law_rows")) (a:=.name "_law_row") (c:=.cmp .eq (.bi1 .len (.name "_law_row")) (.bin .mod (.name "_law_more") (.bin .add (.name "_law_count") (.int 1)))) (λr=>r) (λr=>decide ((r.length:N3)=more%(c+1))) .sh (aD (H.ev rfl) (aH t .sh)) (λr hr=>by
    have H2:=H.mk "_law_row" (.d (aa r))
    exact cJ (dP (H2.ev rfl)) (aY (H2.ev rfl) (bU (H2.ev rfl) (ai 1)) LJ)) (λr hr _=>(H.mk "_law_row" (.d (aa r))).ev rfl)
   refine cC (H.ev (x:="_law_count") rfl) e2 λm2 e3=>?_
   refine Runs.ret e3 (ah _ rfl (bK c _ rfl (Ot _) (CJ hc) ?_ (λr hr=>?_)))
   ·rw[Q0]; exact qK (by rw[hsub]; exact yq c hc) _
   ·rw[Q0] at hr
    refine ae (g3 r (QB.mp hr).1) λo q2=>?_
    exact ⟨by exact CY hc o,q2⟩
theorem AR {l:uq N3}{x:N3}{b:N3}(h:l.length=7) (hb:∀ i∈l,0<=i/\i<=b):∃ c:N7,l[(x/9%7).toNat]? = ti (c:N3)/\(c:N3)<=b:=by
 have k:=OQ (x/9) (show (7:N3)≠0 by decide)
 have j:=O0 (x/9) (show (0:N3)<7 by decide)
 have g:(x/9%7).toNat<l.length:=by exact Ko h
 have:=hb _ (R4 g)
 exact (ah (l[(x/9%7).toNat].toNat) (by rw[Oh g]; congr 1; exact Md this) (KJ this))
theorem so (a b c d e f g:N3):ev C (.list (.cons (.int a) (.cons (.int b) (.cons (.int c) (.cons (.int d) (.cons (.int e) (.cons (.int f) (.cons (.int g) .nil)))))))) σ = .ok (.d (aa [a,b,c,d,e,f,g]),.deep):=by
 simp only[eN,b8,bF,bw,Out.ok_bind]; rfl
theorem w7 (lib:Lib L) (n:N7) (s:uq N3) (hs:s.length<=63):∃ r,ax (mkC L (n+2)) l_few [.d (aa s)] = .ok r/\uM r:=by
 unfold l_few
 refine cu rfl λσ H=>?_
 refine Runs.set H (aY (cO lib (H.ev rfl) (ai 0) (by decide)) (ai 9) (by decide)) λσ H _=>?_
 refine ag (AR (l:=[6,5,4,3,6,1,0]) (x:=bG s 0) (b:=6) rfl (by decide)) λc hc1 j=>?_
 refine Runs.set H (gy (so 6 5 4 3 6 1 0) (aY (cY (cO lib (H.ev rfl) (ai 0) (by decide)) (ai 9) (by decide) (by decide)) (ai 7) (by decide)) (OQ _ (by decide)) hc1) λσ H _=>?_
 refine Runs.set H (cO lib (H.ev rfl) (ai 1) (by decide)) λσ H _=>?_
 generalize bG s 0%9=kind at H
 generalize bG s 1=more at H
 refine Runs.ite (cJ (H.ev rfl) (ai 7)) (λuu=>?_) λuu=>Runs.nil ?_
 ·have a1:=OQ more (show (4:N3)≠0 by decide)
  have a2:=O0 more (show (0:N3)<4 by decide)
  obtain ⟨d,hd⟩:∃ d:N7,1+more%4=d:=⟨(1+more%4).toNat,by exact Kq⟩
  refine Runs.set H (bU (ai 1) (aY (H.ev rfl) (ai 4) (by decide))) λσ H _=>?_
  rw[hd] at H
  refine Runs.no ((gZ (dP (H.ev rfl)) (ai 63)).trans (by rw[OC (KP hs)])) ?_
  obtain ⟨MK,e1,t,ht,g1,g2,g3⟩:=eu (σ:=σ) (n:=n+1) lib.pairs (es:=.cons (.name "_law_many") .nil) (ak (H.ev rfl) av) rfl (tM _ d (Ku hd))
  obtain ⟨rv,rm⟩:=MK
  cases ht
  refine cC (jO (ai 2) (H.ev (x:="_law_many") rfl) (by decide)) e1 λm2 e3=>?_
  exact Runs.ret e3 (ah _ rfl (bK _ t rfl (Ot _) (LF hd) (K1 g2) (λr hr=>ae (g3 r hr) λu o=>⟨by exact Ly hd u,o⟩)))
 ·refine Runs.ite (jz (H.ev rfl) (ai 2)) (λuu=>?_) λuu=>Runs.nil ?_
  ·refine ag (eu (σ:=σ) (n:=n+1) lib.parts (es:=.cons (.name "_law_script") (.cons (.name "_law_kind") (.cons (.name "_law_count") (.cons (.name "_law_more") .nil)))) (ak (H.ev rfl) (ak (H.ev rfl) (ak (H.ev rfl) (ak (H.ev rfl) av)))) rfl (th lib n s kind more c (Ln j))) λr e1 h=>?_
   exact Runs.ret e1 (ah r rfl h)
  ·clear hc1 j
   refine ag (AR (l:=[6,5,4,3,7,7,2]) (x:=bG s 0) (b:=7) rfl (by decide)) λc hc1 j=>?_
   refine Runs.set H (gy (so 6 5 4 3 7 7 2) (aY (cY (cO lib (H.ev rfl) (ai 0) (by decide)) (ai 9) (by decide) (by decide)) (ai 7) (by decide)) (OQ _ (by decide)) hc1) λσ H _=>?_
   refine Runs.set H qJ λσ H _=>?_
   refine Runs.for (g:=Oz) (xs:=a0 c) (λk σ=>∃ t,Has σ [("_law_rows", .d (af t)),("_law_count", .d (.int c)),("_law_script", .d (aa s)),("_law_kind", .d (.int kind)),("_law_more", .d (.int more))]/\t=ma k.length/\[]∈t/\qV k.length (2^k.length) k.length t) (bO (H.ev rfl) (CX j)) (λσ0 h _=>(ke ([[]]) ((h _ H).sub (l8 rfl rfl rfl rfl rfl trivial)) rfl (.head _) (by simp) (by simp) (λr hr=>?_))) ?_ ?_
   ·cases N1.mp hr; exact ⟨Ow _,.nil _⟩
   ·intro k y post hl σ MQ
    refine gJ (MQ) λt H h3 h0 g1 g2 g3=>?_
    clear MQ
    refine lL hl λhy hp=>?_
    have hpow:2^k.length<=2^6:=Qp (by decide) (Ma j hp)
    have H1:=H.mk "_law_thing" (.d (.int y))
    obtain ⟨m1,e1,_⟩:=jm (C:=mkC L (n+2)) (λr=>r++[y]) (λr=>decide ((r.length:N3)<3)) .deep (aD (H1.ev (x:="_law_rows") rfl) (aH t .sh)) (a:=.bin .add (.name "_law_row") (.list (.cons (.name "_law_thing") .nil))) (c:=.cmp .lt (.bi1 .len (.name "_law_row")) (.int 3)) (z:="_law_row") (λr hr=>jz (dP ((H1.mk "_law_row" (.d (aa r))).ev rfl)) (ai 3)) (λr hr _=>by
     have H2:=H1.mk "_law_row" (.d (aa r))
     exact ij (H2.ev rfl) (iC (H2.ev rfl)) (by have:=(g3 r hr).1; rw[OD]; exact L7 j hp this))
    have hf:=QQ (λr:uq N3=>decide ((r.length:N3)<3)) t
    obtain ⟨m2,e2⟩:=ji (H1.ev (C:=mkC L (n+2)) (x:="_law_rows") rfl) e1 (by rw[Oc]; exact Li g2 hpow hf)
    refine Runs.set H1 e2 λσ H _=>Runs.nil (ke _ (H.sub (l8 rfl rfl rfl rfl rfl trivial)) (by rw[h3,hy,Ox,OD]; rfl) (OV _ h0) ?_ ?_ (λr hr=>?_))
    ·exact λq=>g1 (S9.mp q).1
    ·rw[Ox,Ox,Oc,OD,U9]; exact LP g2 hf
    ·rw[Ox,OD]
     rcases Op.mp hr with hr | hr
     ·obtain ⟨u,o⟩:=g3 r hr; exact ⟨by exact OX ‹_›,o.mono DM⟩
     ·refine aB hr λr' hr' MS=>?_
      (clear hr; subst MS)
      refine ae (g3 r' (QB.mp hr').1) λu o=>?_
      rw[Ox,OD]
      exact ⟨by exact Pv ‹_›,(o.snoc (Ot _) (x:=y) (CO hy)).mono (Dt hy)⟩
   ·intro σ MT
    refine gJ (MT) λt H h3 h0 g1 g2 g3=>?_
    clear MT
    rw[b7] at h3 g2 g3
    have hpow:2^c<=2^7:=Qp (by decide) (DJ j)
    obtain ⟨m,hvec⟩:∃ m,(a0 c).map (λi=>bG s (6+i)%8)=m:=⟨_,rfl⟩
    have hvl:m.length=c:=by rw[<- hvec,Oc,b7]
    refine Runs.set H (r:=(.d (aa m),.deep)) ((io (g:=Oz) (λi=>bG s (6+i)%8) (bO (n:=c) (H.ev rfl) (CX j)) λi hi=>?_).trans (by rw[hvec])) λσ H _=>?_
    ·have H2:=H.mk "_law_thing" (.d (.int i))
     have:=mem_upTo.mp hi
     exact aY (cO lib (H2.ev rfl) (bU (ai 6) (H2.ev rfl)) (Dg this)) (ai 8) (by decide)
    obtain ⟨p,hp⟩:=kU (l:=t) (Q:=λr b=>ev (mkC L (n+2)) (.call "_law_apart" (.cons (.name "_law_vectors") (.cons (.name "_law_row") .nil))) (upd σ "_law_row" (mk (.d (aa r)))) = .ok (sB b)/\(r=[]->b=vj)) λr hr=>by
     have H2:=H.mk "_law_row" (.d (aa r))
     refine ae (g3 r hr) λu o=>?_
     obtain ⟨_,e1,b,rfl,hb⟩:=eu (n:=n+1) lib.apart (es:=.cons (.name "_law_vectors") (.cons (.name "_law_row") .nil)) (ak (H2.ev rfl) (ak (H2.ev rfl) av)) rfl (tV _ m r (λi hi=>by have:=o.2 i hi; exact KQ hvl this) (K8 j u))
     exact (ah b e1 hb)
    refine ag (jm (C:=mkC L (n+2)) (σ:=σ) (g:=aa) (l:=t) (z:="_law_row") (it:=.e (.name "_law_rows")) (a:=.name "_law_row") (c:=.call "_law_apart" (.cons (.name "_law_vectors") (.cons (.name "_law_row") .nil))) (λr=>r) p .sh (aD (H.ev rfl) (aH t .sh)) (λr hr=>(hp r hr).1) (λr hr _=>(H.mk "_law_row" (.d (aa r))).ev rfl)) λm1 e1 _=>?_
    rw[Q0] at e1
    refine Runs.set H e1 λσ H _=>?_
    have hne:(t.filter p).map (λr=>(r.length:N3))≠[]:=λq=>by
     have:[]∈t.filter p:=QB.mpr ⟨h0,(hp [] h0).2 rfl⟩
     rw[Qx.mp q] at this
     cases this
    refine ag (G3 (io (C:=mkC L (n+2)) (σ:=σ) (g:=aa) (l:=t.filter p) (z:="_law_row") (it:=.e (.name "_law_good")) (a:=.bi1 .len (.name "_law_row")) (λr=>(r.length:N3)) (aD (H.ev rfl) (aH _ .sh)) λr _=>dP ((H.mk "_law_row" (.d (aa r))).ev rfl)) hne) λmo e2 hmo=>?_
    refine Runs.set H e2 λσ H _=>?_
    refine aB hmo λr0 hr0 hr1=>?_
    obtain ⟨tt,htt⟩:∃ tt,(t.filter p).filter (λr=>decide ((r.length:N3)=mo))=tt:=⟨_,rfl⟩
    have v:0<tt.length:=Sh.mpr λq=>by
     have:r0∈tt:=by rw[<- htt]; exact QB.mpr ⟨hr0,OA hr1⟩
     rw[q] at this; cases this
    have hsub:∀ r∈tt,r∈t:=λr hr=>by rw[<- htt] at hr; exact (QB.mp (QB.mp hr).1).1
    have hlen:tt.length<=62:=by
     have u:=QQ p (t.filter λr:uq N3=>decide ((r.length:N3)=mo))
     have o:=qK (t:=t) (by rw[h3]; exact vo c (DJ j)) mo
     rw[<- htt,Wx]
     rw[Wx] at u
     simp only[Bool.and_comm] at u ⊢
     exact LX u o
    obtain ⟨m3,e3,_,hm3⟩:=jm (C:=mkC L (n+2)) (σ:=σ) (g:=aa) (l:=t.filter p) (z:="_law_row") (it:=.e (.name "_law_good")) (a:=.name "_law_row") (c:=.cmp .eq (.bi1 .len (.name "_law_row")) (.name "_law_most")) (λr=>r) (λr=>decide ((r.length:N3)=mo)) .sh (aD (H.ev rfl) (aH _ .sh)) (λr hr=>by
     have H2:=H.mk "_law_row" (.d (aa r))
     exact cJ (dP (H2.ev rfl)) (H2.ev rfl)) (λr hr _=>(H.mk "_law_row" (.d (aa r))).ev rfl)
    rw[Q0,htt] at e3
    refine Runs.set H e3 λσ H hσ=>?_
    have fin:∀ {σ:St}{l:uq (If×V)}(t':uq (uq N3)),Has σ l->l.lookup "_law_count" = ti (.d (.int c))->l.lookup "_law_table_here" = ti (.d (af t'))->(∀ r∈t',r∈t)->t'.length<=62->Runs (mkC L (n+2)) (.cons (.ret (.tup (.cons (.name "_law_count") (.cons (.name "_law_table_here") .nil)))) .nil) σ (λuu fl=>∃ r,fl = .ret r/\uM r):=λt' H a b ht' hl'=>by
     refine cC (H.ev (C:=mkC L (n+2)) a) (H.ev b) λm2 e4=>?_
     exact Runs.ret e4 (ah _ rfl (bK c t' rfl (Ot _) (Mb j) hl' (λr hr=>ae (g3 r (ht' r hr)) λu o=>⟨by exact Lf j u,o⟩)))
    refine Runs.ite (cJ (H.ev rfl) (ai 3)) (λuu=>?_) λuu=>Runs.nil (fin tt H rfl rfl hsub hlen)
    refine Runs.popR H hσ hm3 (aY (H.ev rfl) (eA (H.ev rfl)) (la3 v)) (OQ _ (la2 v)) (O0 _ (la3 v)) λσ H _=>Runs.nil (fin _ H rfl rfl (λr hr=>hsub r (Uw hr)) (vc (UN ..) hlen))
theorem Srt.affine (h:Srt c r) (ha:0<=a) (hb:0<b):Srt (a+b*c) (r.map λx=>a+b*x):=by
 refine ⟨?_,λx i=>?_⟩
 ·rw[S5]
  refine h.1.imp λ{x y} q=>?_
  have:=T4 q hb
  exact LA this
 ·refine aB i λy l g=>?_
  (clear i; subst g)
  refine ae (h.2 y l) λn m=>?_
  have k:=Ym (QU hb) n
  have j:=T4 m hb
  exact KX ha k j
theorem kO (c:N7):(a0 c).Pairwise (· < ·):=by
 unfold a0
 rw[S5]
 exact List.pairwise_lt_range.imp λ{a b} h=>by exact Lr h
theorem t8 (lib:Lib L) (n:N7) (s:uq N3) (hs:s.length<=63):∃ r,ax (mkC L (n+3)) l_table [.d (aa s)] = .ok r/\uM r:=by
 unfold l_table
 refine cu rfl λσ H=>?_
 refine Runs.set H (aY (cO lib (H.ev rfl) (ai 0) (by decide)) (ai 9) (by decide)) λσ H _=>?_
 refine Runs.set H (cO lib (H.ev rfl) (ai 1) (by decide)) λσ H _=>?_
 generalize bG s 0%9=kind at H
 generalize bG s 1=more at H
 refine Runs.ite (cJ (H.ev rfl) (ai 4)) (λuu=>?_) λuu=>Runs.nil ?_
 ·have a1:=OQ more (show (12:N3)≠0 by decide)
  have a2:=O0 more (show (0:N3)<12 by decide)
  have a3:=OQ (more/12) (show (4:N3)≠0 by decide)
  obtain ⟨d,p⟩:∃ d:N7,7+more%12=d:=⟨(7+more%12).toNat,by exact LH⟩
  refine Runs.set H (bU (ai 7) (aY (H.ev rfl) (ai 12) (by decide))) λσ H _=>?_
  rw[p] at H
  refine Runs.set H (bU (ai 1) (aY (cY (H.ev rfl) (ai 12) (by decide) (by decide)) (ai 4) (by decide))) λσ H _=>?_
  obtain ⟨m1,e1,_⟩:=jm (C:=mkC L (n+3)) (σ:=σ) (g:=Oz) (l:=a0 d) (z:="_law_thing") (it:=.r1 (.name "_law_count")) (a:=.list (.cons (.name "_law_thing") .nil)) (c:=.cmp .eq (.bin .mod (.name "_law_thing") (.name "_law_step")) (.int 0)) (λi=>[i]) (λi=>decide (i%(1+more/12%4)=0)) .deep (bO (H.ev rfl) (KK p)) (λi _=>by
   have H2:=H.mk "_law_thing" (.d (.int i))
   exact cJ (aY (H2.ev rfl) (H2.ev rfl) Kt) (ai 0)) (λi _ _=>iC ((H.mk "_law_thing" (.d (.int i))).ev rfl))
  refine cC (H.ev (C:=mkC L (n+3)) (x:="_law_count") rfl) e1 λm2 e2=>?_
  refine Runs.ret e2 (ah _ rfl (bK d _ rfl (Ot _) (KV p) ?_ (λr u=>?_)))
  ·rw[Oc]
   have:=QQ (λi=>decide (i%(1+more/12%4)=0)) (a0 d)
   rw[b7] at this; exact KA p this
  ·refine aB u λi hi M1=>?_
   (clear u; subst M1)
   have:=mem_upTo.mp (QB.mp hi).1
   exact ⟨by simp,by simp,λx hx=>by rw[N1.mp hx]; exact DC this⟩
 ·refine Runs.ite (cJ (H.ev rfl) (ai 5)) (λuu=>?_) λuu=>Runs.nil ?_
  ·have a1:=OQ more (show (6:N3)≠0 by decide)
   have a2:=O0 more (show (0:N3)<6 by decide)
   obtain ⟨d,p⟩:∃ d:N7,7+more%6=d:=⟨(7+more%6).toNat,by exact Lq⟩
   refine Runs.set H (bU (ai 7) (aY (H.ev rfl) (ai 6) (by decide))) λσ H _=>?_
   rw[p] at H
   obtain ⟨m1,e1,_⟩:=cr (C:=mkC L (n+3)) (σ:=σ) (g:=Oz) (l:=a0 d) (z:="_law_gone") (it:=.r1 (.name "_law_count")) (a:=.compif (.name "_law_thing") "_law_thing" (.r1 (.name "_law_count")) (.cmp .ne (.name "_law_thing") (.name "_law_gone"))) (λg=>(a0 d).filter λi=>!decide (i=g)) .deep (bO (H.ev rfl) (C2 p)) (λg _=>by
    have H2:=H.mk "_law_gone" (.d (.int g))
    exact jD (λi=>!decide (i=g)) (bO (H2.ev rfl) (C2 p)) λi _=>by
     have H3:Has (upd (upd σ "_law_gone" (mk (.d (.int g)))) "_law_thing" (sI i)) _:=H2.upd "_law_thing" (.d (.int i)) .deep
     exact gX (H3.ev rfl) (H3.ev rfl))
   refine cC (H.ev (C:=mkC L (n+3)) (x:="_law_count") rfl) e1 λm2 e2=>?_
   refine Runs.ret e2 (ah _ rfl (bK d _ rfl (Ot _) (LI p) (by rw[Oc,b7]; exact Kw p) (λr u=>?_)))
   refine aB u λg _ MX=>?_
   (clear u; subst MX)
   refine ⟨?_,(kO d).filter _,λx hx=>?_⟩
   ·have:=QQ (λi=>!decide (i=g)) (a0 d)
    rw[b7] at this; exact Ks p this
   ·have:=mem_upTo.mp (QB.mp hx).1
    exact DC this
  ·obtain ⟨MZ,e1,c,t,u,h0,h1,h2,h3⟩:=eu (σ:=σ) (n:=n+2) lib.few (es:=.cons (.name "_law_script") .nil) (ak (H.ev rfl) av) rfl (w7 lib n s hs)
   obtain ⟨rv,rm⟩:=MZ
   cases u
   refine Runs.set H e1 λσ H k=>?_
   refine Runs.set H (cO lib (H.ev rfl) (ai 12) (by decide)) λσ' H hσ'=>?_
   generalize bG s 12=far at H
   have o:∀ {σ:St}{l:uq (If×V)},Has σ l->l.lookup "_law_made" = ti (.d (.tuple [.int c,af t]))->ev (mkC L (n+3)) (.sub (.name "_law_made") (.int 0)) σ = .ok (sI c)/\ev (mkC L (n+3)) (.sub (.name "_law_made") (.int 1)) σ = .ok (.d (af t),.sh):=λH a=>⟨kl (m:=.sh) (H.ev a) (ai 0),iX (m:=.sh) (H.ev a) (ai 1)⟩
   refine ae (o H rfl) λd1 d2=>?_
   refine Runs.ite (cX (gX (aY (H.ev rfl) (ai 3) (by decide)) (ai 1)) λuu=>cX (gZ (eA d2) (ai 8)) λuu=>gZ d1 (ai 9)) (λuu=>?_) λq=>Runs.nil ?_
   ·refine al (H "_law_made" _ rfl) λm e=>?_
    exact Runs.retn e (ah _ rfl (bK c t rfl h0 h1 h2 h3))
   ·have hc9:c<=9:=by
     have:=(RB.mp (RB.mp q).2).2
     have:=Qq this
     exact Ls this
    have ht8:t.length<=8:=by
     have:=(RB.mp (RB.mp q).2).1
     have:=Qq this
     exact LB this
    clear q d1 d2
    refine Runs.set H (bU (ai 1) (aY (cY (H.ev rfl) (ai 3) (by decide) (by decide)) (ai 9) (by decide))) λσ H _=>?_
    refine Runs.set H (aY (cY (H.ev rfl) (ai 27) (by decide) (by decide)) (ai 9) (by decide)) λσ H _=>?_
    have b1:=OQ (far/3) (show (9:N3)≠0 by decide)
    have b2:=O0 (far/3) (show (0:N3)<9 by decide)
    have b3:=OQ (far/27) (show (9:N3)≠0 by decide)
    have b4:=O0 (far/27) (show (0:N3)<9 by decide)
    generalize hst:1+far/3%9=st at H
    generalize hfi:far/27%9=fi at H
    refine Runs.set H im λσ H k=>?_
    refine Runs.for (g:=aa) (xs:=t) (λj σ=>Has σ [("_law_table_here", .d (af (j.map λr=>r.map λx=>fi+st*x))),("_law_made", .d (.tuple [.int c,af t])),("_law_step", .d (.int st)),("_law_first", .d (.int fi))]/\σ "_law_table_here" = ti (.d (af (j.map λr=>r.map λx=>fi+st*x)),.deep)) (aD (o H rfl).2 (aH t .sh)) (λσ0 h hh=>⟨(h _ H).sub (cw rfl rfl rfl rfl trivial),(hh _ (by simp[fR,eQ,sM,nG])).trans k⟩) ?_ ?_
    ·intro j y post hl σ Nh
     refine ae (Nh) λH k=>?_
     clear Nh
     have hp:j.length<t.length:=by rw[hl,Ox,OS]; exact x7
     have H1:=H.mk "_law_choice" (.d (aa y))
     refine Runs.appR H1 (t:=j.map λr=>r.map λx=>fi+st*x) (m:=.deep) ((N0 (by decide)).trans k) (by decide) (io (g:=Oz) (λx=>fi+st*x) (aD (H1.ev rfl) (cB y .sh)) λi _=>?_) (by rw[Oc]; exact LK ht8 hp) λσ H k _=>Runs.nil ?_
     ·have H2:=H1.mk "_law_thing" (.d (.int i))
      exact bU (H2.ev rfl) (jO (H2.ev rfl) (H2.ev rfl) (by lia))
     ·have e:(j++[y]).map (λr=>r.map λx=>fi+st*x)=j.map (λr=>r.map λx=>fi+st*x)++[y.map λx=>fi+st*x]:=by rw[Rs]; rfl
      show Has σ _/\_
      rw[e]
      exact ⟨H.sub (cw rfl rfl rfl rfl trivial),k⟩
    ·intro σ v
     refine ae (v) λH _=>?_
     clear v
     refine cC (bU (H.ev (C:=mkC L (n+3)) (x:="_law_first") rfl) (jO (H.ev (x:="_law_step") rfl) (o H rfl).1 (by lia))) (H.ev (x:="_law_table_here") rfl) λm2 e2=>?_
     have q1:=Ym (show 0<=st by exact Lu hst) h0
     have q2:st*c<=9*9:=Int.mul_le_mul (Lw hst) hc9 h0 (by decide)
     refine Runs.ret e2 (ah _ rfl (bK _ _ rfl (L5 hfi q1) (LC hfi q2) (by rw[Oc]; exact K4 ht8) (λr u=>?_)))
     refine aB u λr' hr' M4=>?_
     (clear u; subst M4)
     refine ae (h3 r' hr') λq3 q4=>?_
     exact ⟨by rw[Oc]; exact Kz q3,q4.affine (LV hfi) (LG hst)⟩
noncomputable def dg (one:uq N3) (o x:N3):uq Int:=aU (one.filter (λy=>!decide (y=o))++[x])
noncomputable def dL (t:uq (uq N3)) (one other:uq N3) (x:N3):Bool:=one.any λo=>!decide (o∈other)&&decide (dg one o x∈t)
noncomputable def cN (c:N7) (t:uq (uq N3)):NX (uq N3×uq N3×N3) :=
 t.findSome? λh=>(a0 c).findSome? λx=>if x∈h then NI else t.findSome? λg=>if (decide (x∈g) && !dL t h g x)=vj then ti (h,g,x) else NI
theorem iS (p:α->OF) (l:uq α):l.findSome? (λx=>if p x=vj then ti () else NI)=if l.any p=vj then ti () else none:=by
 induction l with
 | nil=>rfl
 | cons a l ih=>
  rw[TL,List.any_cons]
  cases p a with
  | true=>rfl
  | false=>simpa using ih
def Lg (r:uq N3):Prop:=r.length<127/\∀ i∈r,0<=i
theorem r8 (H:Has σ l) (hz:z ≠ "x") (ha:ev C a σ = .ok (.d (aa c),m)) (hd:ev C d σ = .ok (sI t)) (hb:∀ i:N3,ev C b (upd σ z (sI i)) = .ok (sI o)) (h:Lg c) (ht:0<=t) :
  ev C (.bi1 .sorted (.bin .add (.compif (.name z) z (.e a) (.cmp .ne (.name z) b)) (.list (.cons d .nil)))) σ = .ok (.d (aa (dg c o t)),.deep):=by
 have j:(c.filter λx=>!decide (x=o)).length<=c.length:=QQ ..
 have g:(c.filter λx=>!decide (x=o)).length+1<128:=N4 (O6 j) (WZ h.1)
 refine fw (ij (jD (λi=>!decide (i=o)) (aD ha (cB c m)) λi _=>gX (kC (p:=sI i) (NZ rfl) rfl) (hb i)) (iC hd) (vc (Oq g) (by decide))) ?_ λi k=>?_
 ·rw[Ox]; exact g
 ·exact (Op.mp k).elim (λq=>h.2 i (QB.mp q).1) λq=>(N1.mp q).symm▸ht
theorem nq (C:Calls) (c:uq N3) (o t:N3) (h:Lg c) (ht:0<=t):ax C p_exchanged [.d (aa c),.d (.int o),.d (.int t)] = .ok (.d (aa (dg c o t)),.deep):=by
 unfold p_exchanged
 exact cW rfl λg H=>Runs.ret (r8 H (by decide) (H.ev rfl) (H.ev rfl) (λi=>(H.upd "one" (.d (.int i)) .deep).ev rfl) h ht) rfl
theorem xe (C:Calls) (t:uq (uq N3)) (one other:uq N3) (x:N3) (h:Lg one) (hx:0<=x):ax C l_can [.d (af t),.d (aa one),.d (aa other),.d (.int x)] = .ok (sB (dL t one other x)):=by
 unfold l_can dL
 refine cW rfl λj H=>?_
 refine Runs.seek (g:=Oz) (xs:=one) (λj=>Has j [("_law_table_here", .d (af t)),("_law_one", .d (aa one)),("_law_other", .d (aa other)),("_law_thing", .d (.int x))]) (λo=>if (!decide (o∈other)&&decide (dg one o x∈t))=vj then ti () else NI) (λuu=>sB vj) (aD (H.ev rfl) (cB one .sh)) (λl h _=>(h _ H).sub (cw rfl rfl rfl rfl trivial)) (λo m j H=>?_) (λq k _=>?_) λuu q k=>?_
 ·have H1:=H.mk "_law_out" (.d (.int o))
  refine Runs.set H1 (r8 H1 (by decide) (H1.ev rfl) (H1.ev rfl) (λi=>(H1.upd "_law_left" (.d (.int i)) .deep).ev rfl) h hx) λj H2 _=>?_
  refine Runs.ite (dT (po (H2.ev rfl) (H2.ev rfl)) λuu=>EU (H2.ev rfl) (H2.ev rfl)) (λq=>Runs.ret (dM vj) ?_) λq=>Runs.nil (Runs.nil ?_)
  ·exact Cont.ret (Sk.ret (q:=()) (NZ q))
  ·exact Sk.next (N0 (by rw[q]; decide)) (H2.sub (cw rfl rfl rfl rfl trivial))
 ·rw[iS] at q
  refine Runs.ret (dM NY) ?_
  by_cases e:(one.any λo=>!decide (o∈other)&&decide (dg one o x∈t))=vj
  ·rw[NZ e] at q; cases q
  ·rw[WW.mpr e]
 ·rw[iS] at q
  by_cases e:(one.any λo=>!decide (o∈other)&&decide (dg one o x∈t))=vj
  ·rw[e]
  ·rw[N0 e] at q; cases q
theorem kW (lib:Lib L) (n:N7) (c:N7) (t:uq (uq N3)) (hc:c<=1000) (h:∀ r∈t,Lg r):ax (mkC L (n+1)) l_fault [.d (.int c),.d (af t)] = .ok (match cN c t with | none=>(.d .none,.deep) | some (a,b,x)=>(.d (.tuple [aa a,aa b,.int x]),.sh)):=by
 unfold l_fault cN
 refine cW rfl λl H=>?_
 let rv:uq N3×uq N3×N3->V×Mode:=λq=>(.d (.tuple [aa q.1,aa q.2.1,.int q.2.2]),.sh)
 let Inv:St->Prop:=λl=>Has l [("_law_table_here", .d (af t)),("_law_count", .d (.int c))]
 refine Runs.seek (g:=aa) (xs:=t) Inv (λj=>(a0 c).findSome? λx=>if x∈j then NI else t.findSome? λi=>if (decide (x∈i) && !dL t j i x)=vj then ti (j,i,x) else NI) rv (aD (H.ev rfl) (aH t .sh)) (λo h _=>(h _ H).sub ⟨rfl,rfl,trivial⟩) (λj u l H=>?_) (λq k _=>?_) λq p k=>?_
 ·have H1:=H.mk "_law_one" (.d (aa j))
  refine Runs.seek (g:=Oz) (xs:=a0 c) (λl=>Has l [("_law_table_here", .d (af t)),("_law_count", .d (.int c)),("_law_one", .d (aa j))]) (λx=>if x∈j then NI else t.findSome? λi=>if (decide (x∈i) && !dL t j i x)=vj then ti (j,i,x) else NI) rv (bO (H1.ev rfl) (qv hc)) (λo h _=>(h _ H1).sub (db rfl rfl rfl trivial)) (λx v l H=>?_) (λq k H=>Runs.nil ?_) λq p k=>?_
  ·have H2:=H.mk "_law_thing" (.d (.int x))
   refine Runs.ite (po (H2.ev rfl) (H2.ev rfl)) (λq=>?_) λq=>Runs.nil (Runs.nil ?_)
   ·have m:x∉j:=by simpa using q
    refine Runs.seek (g:=aa) (xs:=t) (λl=>Has l [("_law_table_here", .d (af t)),("_law_count", .d (.int c)),("_law_one", .d (aa j)),("_law_thing", .d (.int x))]) (λi=>if (decide (x∈i) && !dL t j i x)=vj then ti (j,i,x) else NI) rv (aD (H2.ev rfl) (aH t .sh)) (λo h _=>(h _ H2).sub (cw rfl rfl rfl rfl trivial)) (λi z l H=>?_) (λq k H=>Runs.nil (Runs.nil ?_)) λq p k=>?_
    ·have H3:=H.mk "_law_other" (.d (aa i))
     refine Runs.ite (dT (pM (H3.ev rfl) (H3.ev rfl)) λuu=>du (dH lib.can (ak (H3.ev rfl) (ak (H3.ev rfl) (ak (H3.ev rfl) (ak (H3.ev rfl) av)))) rfl (xe _ t j i x (h j u) (mem_upTo.mp v).1))) (λq=>?_) λq=>Runs.nil (Runs.nil ?_)
     ·have y:ev (mkC L (n+1)) (.tup (.cons (.name "_law_one") (.cons (.name "_law_other") (.cons (.name "_law_thing") .nil)))) (upd l "_law_other" (mk (.d (aa i)))) = .ok (rv (j,i,x)):=by
       exact wq (m1:=.sh) (m2:=.sh) (m3:=.deep) (H3.ev rfl) (H3.ev rfl) (H3.ev rfl)
      exact Runs.ret y (Cont.ret (Sk.ret (q:=(j,i,x)) (NZ q)))
     ·exact Sk.next (N0 (by rw[q]; decide)) (H3.sub (cw rfl rfl rfl rfl trivial))
    ·exact Sk.next ((N0 m).trans q) (H.sub (db rfl rfl rfl trivial))
    ·exact Cont.ret (Sk.ret ((N0 m).trans p))
   ·have m:x∈j:=by simpa using q
    exact Sk.next (NZ m) (H2.sub (db rfl rfl rfl trivial))
  ·exact Sk.next q (H.sub ⟨rfl,rfl,trivial⟩)
  ·exact Sk.ret p
 ·rw[q]; exact Runs.ret di rfl
 ·rw[p]
def Kn (pre:uq (uq N3)) (v:V):Prop:=(pre=[]/\v = .dic0)\/∃ ks,v = .dicT ks/\ks.length<=pre.length/\(∀ k,k∈ks↔k∈pre)/\ks.Nodup
theorem iL (r:uq N3):d6 (aP r)=ti r:=dJ r
theorem Kn.add (K:Kn pre v) (r:uq N3) (hl:pre.length<=1000):∃ v',g8 σ z v (aP r) = .ok (upd σ z (v',.deep),.next)/\Kn (pre++[r]) v':=by
 rcases K with ⟨rfl,rfl⟩ | ⟨ks,rfl,h1,h2,h3⟩
 ·refine (ah (.dicT [r]) ?_ (.inr (cV ([r]) rfl (Ow _) (λk=>Iff.rfl) (by simp))))
  simp only[g8,iL,show cI (aP r)=NI from rfl]
 ·refine (ah (.dicT (if r∈ks then ks else ks++[r])) ?_ (.inr (cV _ rfl ?_ (λk=>?_) ?_)))
  ·show (match d6 (aP r) with | some i=>if ks.length<=lim then Out.ok (upd σ z (V.dicT (if i∈ks then ks else ks++[i]),Mode.deep),Flw.next) else .bad | none=>.bad)=_
   rw[iL]
   show (if ks.length<=lim then _ else _)=_
   rw[NZ (by unfold lim; exact Ds hl h1)]
  ·rw[Ox,OD]
   by_cases e:r∈ks
   ·rw[NZ e]; exact Ac h1
   ·rw[N0 e,Ox,OD]; exact o8 h1
  ·by_cases e:r∈ks
   ·rw[NZ e,h2,Op,N1]
    exact ⟨.inl,λq=>q.elim id λq=>q▸(h2 r).mp e⟩
   ·rw[N0 e,Op,Op,h2]
  ·by_cases e:r∈ks
   ·rw[NZ e]; exact h3
   ·rw[N0 e]; exact R3.mpr ⟨h3,by simp,λa h b g q=>e (by rw[N1.mp g] at q; exact q▸h)⟩
theorem mw (C:Calls) (t:uq (uq N3)) (hl:t.length<=1000):∃ r,ax C p_known_of [.d (af t)] = .ok r/\∃ v,r=(v,.deep)/\Kn t v:=by
 unfold p_known_of
 refine cu rfl λσ H=>?_
 refine Runs.set H wu λσ H k=>?_
 refine Runs.for (g:=aa) (xs:=t) (λj σ=>∃ v,σ "known" = ti (v,.deep)/\Kn j v) (aD (H.ev rfl) (aH t .sh)) (λu _ hh=>(ah .dic0 ((hh _ (by simp[fR,eQ])).trans k) (.inl ⟨rfl,rfl⟩))) ?_ ?_
 ·intro j y q n σ i
  refine ag (i) λv m K=>?_
  clear i
  have x:j.length<t.length:=by rw[n,Ox,OS]; exact x7
  refine ag (K.add (σ:=upd σ "choice" (mk (.d (aa y)))) (z:="known") y (GA hl x)) λo h1 h2=>?_
  have l:upd σ "choice" (mk (.d (aa y))) "known" = ti (v,.deep):=(N0 (by decide)).trans m
  refine Runs.next (σ':=upd (upd σ "choice" (mk (.d (aa y)))) "known" (o,.deep)) ?_ (Runs.nil (ah o (fx _ _ _) h2))
  simp only[c6,sK (C:=C) (kC (C:=C) (σ:=upd σ "choice" (mk (.d (aa y)))) (z:="choice") (p:=(.d (aa y),.sh)) (NZ rfl) rfl),Out.ok_bind,pd,gK,l]
  rw[NZ trivial,h1]; rfl
 ·intro σ' h
  refine ag (h) λv m K=>?_
  clear h
  exact Runs.retn m (ah _ rfl (ah v rfl K))
theorem vy (lib:Lib L) (n:N7) (t:uq (uq N3)) (v:V) (K:Kn t v) (one other:uq N3) (x:N3) (ht:t≠[]) (h:Lg one) (hx:0<=x):ax (mkC L (n+1)) p_goes [v,.d (aa one),.d (aa other),.d (.int x)] = .ok (sB (dL t one other x)):=by
 rcases K with ⟨q,_⟩ | ⟨ks,rfl,_,hk,_⟩
 ·exact N5 q ht
 unfold p_goes dL
 refine cW rfl λj H=>?_
 refine Runs.seek (g:=Oz) (xs:=one) (λj=>Has j [("known", .dicT ks),("one", .d (aa one)),("other", .d (aa other)),("thing", .d (.int x))]) (λo=>if (!decide (o∈other)&&decide (dg one o x∈t))=vj then ti () else NI) (λuu=>sB vj) (aD (H.ev rfl) (cB one .sh)) (λl h _=>(h _ H).sub (cw rfl rfl rfl rfl trivial)) (λo p j H=>?_) (λq k _=>?_) λuu q k=>?_
 ·have H1:=H.mk "out" (.d (.int o))
  have m:ev (mkC L (n+1)) (.cmp .isin (.bi1 .tuple (.call "exchanged" (.cons (.name "one") (.cons (.name "out") (.cons (.name "thing") .nil))))) (.name "known")) (upd j "out" (mk (.d (.int o)))) = .ok (sB (decide (dg one o x∈t))):=by
   refine a9 (sK (dH lib.exch (ak (H1.ev rfl) (ak (H1.ev rfl) (ak (H1.ev rfl) av))) rfl (nq _ one o x h hx))) (H1.ev (x:="known") rfl) ?_
   show (am (d6 (aP (dg one o x))) λi=>Out.ok (decide (i∈ks)))=_
   rw[iL]
   exact PG Out.ok (R2.mpr (hk _))
  refine Runs.ite (dT (po (H1.ev rfl) (H1.ev rfl)) λuu=>m) (λq=>Runs.ret (dM vj) (Cont.ret (Sk.ret (q:=()) (NZ q)))) λq=>Runs.nil (Runs.nil (Sk.next (N0 (by rw[q]; decide)) (H1.sub (cw rfl rfl rfl rfl trivial))))
 ·rw[iS] at q
  refine Runs.ret (dM NY) ?_
  by_cases e:(one.any λo=>!decide (o∈other)&&decide (dg one o x∈t))=vj
  ·rw[NZ e] at q; cases q
  ·rw[WW.mpr e]
 ·rw[iS] at q
  by_cases e:(one.any λo=>!decide (o∈other)&&decide (dg one o x∈t))=vj
  ·rw[e]
  ·rw[N0 e] at q; cases q
noncomputable def tx:NX (uq N3×uq N3×N3)->V×Mode
 | none=>(.d .none,.deep)
 | some q=>(.d (.tuple [aa q.1,aa q.2.1,.int q.2.2]),.deep)
theorem uO (lib:Lib L) (n:N7) (c:N7) (t:uq (uq N3)) (hc:c<=1000) (hl:t.length<=1000) (h:∀ one∈t,Lg one):ax (mkC L (n+2)) p_fault [.d (.int c),.d (af t)] = .ok (tx (cN c t)):=by
 unfold p_fault cN
 refine cW rfl λσ H=>?_
 obtain ⟨_,u,v,o,K⟩:=eu (σ:=σ) (n:=n+1) lib.known (es:=.cons (.name "table") .nil) (ak (H.ev rfl) av) rfl (mw _ t hl)
 subst o
 refine Runs.set H u λσ H _=>?_
 refine Runs.seek (g:=aa) (xs:=t) (λσ=>Has σ [("table", .d (af t)),("count", .d (.int c)),("known", v)]) (λone=>(a0 c).findSome? λx=>if x∈one then NI else t.findSome? λi=>if (decide (x∈i) && !dL t one i x)=vj then ti (one,i,x) else NI) (λq=>tx (ti q)) (aD (H.ev rfl) (aH t .sh)) (λm h _=>(h _ H).sub (db rfl rfl rfl trivial)) (λone l σ H=>?_) (λq j _=>?_) λq p j=>?_
 ·have H1:=H.mk "one" (.d (aa one))
  refine Runs.seek (g:=Oz) (xs:=a0 c) (λσ=>Has σ [("table", .d (af t)),("count", .d (.int c)),("known", v),("one", .d (aa one))]) (λx=>if x∈one then NI else t.findSome? λi=>if (decide (x∈i) && !dL t one i x)=vj then ti (one,i,x) else NI) (λq=>tx (ti q)) (bO (H1.ev rfl) (qv hc)) (λm h _=>(h _ H1).sub (cw rfl rfl rfl rfl trivial)) (λx r σ H=>?_) (λq j H=>Runs.nil ?_) λq p j=>?_
  ·have H2:=H.mk "thing" (.d (.int x))
   refine Runs.ite (po (H2.ev rfl) (H2.ev rfl)) (λq=>?_) λq=>Runs.nil (Runs.nil ?_)
   ·have k:x∉one:=by simpa using q
    refine Runs.seek (g:=aa) (xs:=t) (λσ=>Has σ [("table", .d (af t)),("count", .d (.int c)),("known", v),("one", .d (aa one)),("thing", .d (.int x))]) (λi=>if (decide (x∈i) && !dL t one i x)=vj then ti (one,i,x) else NI) (λq=>tx (ti q)) (aD (H2.ev rfl) (aH t .sh)) (λm h _=>(h _ H2).sub (l8 rfl rfl rfl rfl rfl trivial)) (λi z σ H=>?_) (λq j H=>Runs.nil (Runs.nil ?_)) λq p j=>?_
    ·have H3:=H.mk "other" (.d (aa i))
     refine Runs.ite (dT (pM (H3.ev rfl) (H3.ev rfl)) λy=>du (dH lib.goes (ak (H3.ev rfl) (ak (H3.ev rfl) (ak (H3.ev rfl) (ak (H3.ev rfl) av)))) rfl (vy lib n t v K one i x (List.ne_nil_of_mem l) (h one l) (mem_upTo.mp r).1))) (λq=>?_) λq=>Runs.nil (Runs.nil ?_)
     ·exact Runs.ret (wq (wY (H3.ev rfl)) (wY (H3.ev rfl)) (H3.ev rfl)) (Cont.ret (Sk.ret (q:=(one,i,x)) (NZ q)))
     ·exact Sk.next (N0 (by rw[q]; decide)) (H3.sub (l8 rfl rfl rfl rfl rfl trivial))
    ·exact Sk.next ((N0 k).trans q) (H.sub (cw rfl rfl rfl rfl trivial))
    ·exact Cont.ret (Sk.ret ((N0 k).trans p))
   ·have k:x∈one:=by simpa using q
    exact Sk.next (NZ k) (H2.sub (cw rfl rfl rfl rfl trivial))
  ·exact Sk.next q (H.sub (db rfl rfl rfl trivial))
  ·exact Sk.ret p
 ·rw[q]; exact Runs.ret di rfl
 ·rw[p]
noncomputable def p_need_row:Fn:=⟨["count", "things"],
(.cons (.assign "seen" .edic)
(.cons (.for1 "thing" (.e (.name "things"))
(.cons (.ite (.or (.cmp .lt (.name "thing") (.int 0)) (.or (.cmp .ge (.name "thing") (.name "count")) (.cmp .isin (.name "thing") (.name "seen"))))
(.cons (.raise "NoThing")
.nil)
.nil)
(.cons (.setitem "seen" (.name "thing"))
.nil)))
.nil))⟩
noncomputable def iV:Ss:=(.cons (.ite (.or (.cmp .lt (.name "thing") (.int 0)) (.or (.cmp .ge (.name "thing") (.name "count")) (.cmp .isin (.name "thing") (.name "seen"))))
(.cons (.raise "NoThing")
.nil)
.nil)
(.cons (.setitem "seen" (.name "thing"))
.nil))
def Good (c:N3) (xs:uq N3):Prop:=(∀ x∈xs,0<=x/\x<c)/\xs.Nodup
def Sn (pre:uq N3) (v:V):Prop:=(pre=[]/\v = .dic0)\/∃ ks,v = .dicI ks/\ks.length<=pre.length/\∀ k,k∈ks↔k∈pre
theorem Sn.has (K:Sn pre v) (x:N3):cq .isin (.d (.int x)) v = .ok (decide (x∈pre)):=by
 rcases K with ⟨rfl,rfl⟩ | ⟨ks,rfl,h1,h2⟩
 ·rfl
 ·show Out.ok (decide (x∈ks))=_
  rw[R2.mpr (h2 x)]
theorem sH:∀ {a b:uq N3},a.Nodup->(∀ x∈a,x∈b)->a.length<=b.length
 | [],_,_,_=>Pf _
 | x::a,b,hn,h=>by
  have i:=h x (.head _)
  refine ae (QC.mp hn) λk j=>?_
  have:=sH (b:=b.erase x) j λy g=>(List.mem_erase_of_ne (λ(q:y=x)=>k (q▸g))).mpr (h y (.tail _ g))
  rw[List.length_erase_of_mem i] at this
  have l:0<b.length:=SX i
  rw[OS]; exact EM this l
theorem Good.len {c:N7}{xs:uq N3}(h:Good c xs):xs.length<=c:=by
 have:=sH h.2 (b:=a0 c) λx hx=>mem_upTo.mpr (h.1 x hx)
 rwa [b7] at this
theorem Sn.add (K:Sn pre v) (x:N3) (hl:pre.length<=1000):∃ v',g8 σ z v (.int x) = .ok (upd σ z (v',.deep),.next)/\Sn (pre++[x]) v':=by
 rcases K with ⟨rfl,rfl⟩ | ⟨ks,rfl,h1,h2⟩
 ·exact (ah (.dicI [x]) rfl (.inr (aG ([x]) rfl (Ow _) (λk=>Iff.rfl))))
 ·refine (ah (.dicI (if x∈ks then ks else ks++[x])) ?_ (.inr (aG _ rfl ?_ (λk=>?_))))
  ·show (if ks.length<=lim then _ else _)=_
   rw[NZ (by unfold lim; exact Ds hl h1)]
  ·rw[Ox,OD]
   by_cases e:x∈ks
   ·rw[NZ e]; exact Ac h1
   ·rw[N0 e,Ox,OD]; exact o8 h1
  ·by_cases e:x∈ks
   ·rw[NZ e,h2,Op,N1]
    exact ⟨.inl,λq=>q.elim id λq=>q▸(h2 x).mp e⟩
   ·rw[N0 e,Op,Op,h2]
theorem oN {C:Calls}{g:uq V->Out (V×Mode)}(hC:C "NoThing" = ti g) (c:N7) (hc:c<=1000):∀ (xs pre:uq N3) (σ:St) (v:V),Has σ [("count", .d (.int c))]->σ "seen" = ti (v,.deep)->Sn pre v->Good c pre ->
  (Good c (pre++xs)->∃ σ',loopS (λy σ=>exs C iV (upd σ "thing" (mk (.d y)))) (xs.map .int) σ = .ok (σ',.next))/\(¬ Good c (pre++xs)->loopS (λy σ=>exs C iV (upd σ "thing" (mk (.d y)))) (xs.map .int) σ = .exc "NoThing")
 | [],pre,σ,v,H,hs,K,hg=>by
  rw[PU]
  exact ⟨λuu=>⟨σ,rfl⟩,λq=>N5 hg q⟩
 | x::xs,pre,σ,v,H,hs,K,hg=>by
  have H1:Has (upd σ "thing" (mk (.d (.int x)))) [("thing", .d (.int x)),("count", .d (.int c))]:=H.mk "thing" (.d (.int x))
  have hs1:upd σ "thing" (mk (.d (.int x))) "seen" = ti (v,.deep):=(N0 (by decide)).trans hs
  have et:=H1.ev (C:=C) (x:="thing") rfl
  have e2:ev C (.cmp .isin (.name "thing") (.name "seen")) (upd σ "thing" (mk (.d (.int x)))) = .ok (sB (decide (x∈pre))):=a9 et (by simp only[dB,hs1]; rfl) (K.has x)
  have ec:ev C (.or (.cmp .lt (.name "thing") (.int 0)) (.or (.cmp .ge (.name "thing") (.name "count")) (.cmp .isin (.name "thing") (.name "seen")))) (upd σ "thing" (mk (.d (.int x)))) = .ok (sB (decide (x<0)||(decide (c<=x)||decide (x∈pre)))) :=
   cX (jz et (ai 0)) λuu=>cX (y0 et (H1.ev rfl)) λuu=>e2
  simp only[Pe,loopS]
  by_cases bad:x<0\/c<=x\/x∈pre
  ·have eb:(decide (x<0)||(decide (c<=x)||decide (x∈pre)))=true:=by simpa using bad
   rw[eb] at ec
   have ng:¬ Good c (pre++x::xs):=λ⟨h1,h2⟩=>by
    have hx:=h1 x (by simp)
    rcases bad with q | q | q
    ·exact Fa hx q
    ·exact IP hx q
    ·exact (R3.mp h2).2.2 x q x (.head _) rfl
   have er:exs C iV (upd σ "thing" (mk (.d (.int x)))) = .exc "NoThing" := by
    unfold iV
    simp only[dl,aE]
    rw[fb ec]
    simp only[dl,aE,c6,ed,hC,am]
    rfl
   refine ⟨λq=>N5 q ng,λuu=>?_⟩
   rw[er]; rfl
  ·have eb:(decide (x<0)||(decide (c<=x)||decide (x∈pre)))=false:=by simpa using bad
   rw[eb] at ec
   obtain ⟨v',e4,K'⟩:=K.add (σ:=upd σ "thing" (mk (.d (.int x)))) (z:="seen") x (vc hg.len hc)
   have er:exs C iV (upd σ "thing" (mk (.d (.int x)))) = .ok (upd (upd σ "thing" (mk (.d (.int x)))) "seen" (v',.deep),.next):=by
    unfold iV
    rw[dW ((ki ec).trans d9)]
    refine (dW (σ':=upd (upd σ "thing" (mk (.d (.int x)))) "seen" (v',.deep)) ?_).trans d9
    simp only[c6,et,Out.ok_bind,hs1]
    show (g8 _ _ _ _).calm=_
    rw[e4]; rfl
   have hg':Good c (pre++[x]):=by
    refine ⟨λy hy=>?_,R3.mpr ⟨hg.2,by simp,λa ha b hb q=>?_⟩⟩
    ·rcases Op.mp hy with h | h
     ·exact hg.1 y h
     ·rw[N1.mp h]; exact Gq bad
    ·rw[N1.mp hb] at q; (clear H1 K' e2 e4 eb er et hb hs1; subst q); exact bad (.inr (.inr ha))
   have ih:=oN hC c hc xs (pre++[x]) (upd (upd σ "thing" (mk (.d (.int x)))) "seen" (v',.deep)) v' ((H1.upd "seen" v' .deep).sub ⟨rfl,trivial⟩) (fx _ _ _) K' hg'
   rw[Pk] at ih
   rw[er]
   exact ih
theorem oX (hC:C "NoThing" = ti g) (c:N7) (hc:c<=1000) (xs:uq N3) :
  (Good c xs->ax C p_need_row [.d (.int c),.d (aa xs)] = .ok (.d .none,.deep))/\(¬ Good c xs->ax C p_need_row [.d (.int c),.d (aa xs)] = .exc "NoThing"):=by
 refine ag (eg ["count", "things"] [.d (.int c),.d (aa xs)] rfl) λσ k H=>?_
 have m:bV p_need_row.params [.d (.int c),.d (aa xs)]=ti σ:=k
 have p:ex C (.assign "seen" .edic) σ = .ok (upd σ "seen" (.dic0,.deep),.next):=by
  simp only[cS]
  rw[lY (wu (C:=C) (σ:=σ))]
  rfl
 have H1:Has (upd σ "seen" (.dic0,.deep)) [("seen", .dic0),("count", .d (.int c)),("things", .d (aa xs))]:=H.upd "seen" .dic0 .deep
 have l:=aD (C:=C) (H1.ev (C:=C) (x:="things") rfl) (cB xs .sh)
 refine ae (oN hC c hc xs [] (consume (upd σ "seen" (.dic0,.deep)) (bD (.e (.name "things"))) .sh) .dic0 ((H1.sub (l':=[("count", .d (.int c))]) ⟨rfl,trivial⟩).consume _ _) ((gU.2 "seen" (by simp[fR,eQ])).trans (fx _ _ _)) (.inl ⟨rfl,rfl⟩) ⟨λuu h=>(nomatch h),.nil⟩) λj o=>?_
 have i:exs C p_need_row.body σ=(loopS (λy σ=>exs C iV (upd σ "thing" (mk (.d y)))) (xs.map .int) (consume (upd σ "seen" (.dic0,.deep)) (bD (.e (.name "things"))) .sh)).bind λq=>match q.2 with | .next=>exs C .nil q.1 | .ret v=>.ok (q.1,.ret v):=by
  show exs C (.cons (.assign "seen" .edic) _) σ=_
  rw[dW p]
  simp only[dl,aE,c6,iu,gp,ed,l,Out.ok_bind]
  rfl
 refine ⟨λq=>?_,λq=>?_⟩
 ·refine al (j q) λn j=>?_
  rw[j] at i
  unfold ax
  rw[m]
  dsimp only
  rw[i]
  simp only[Out.ok_bind,d9]
 ·rw[o q] at i
  unfold ax
  rw[m]
  dsimp only
  rw[i]
  rfl
def NoF (c:N7) (t:uq (uq N3)):Prop:=∀ one∈t,∀ x∈a0 c,x∉one->∀ other∈t,x∈other->dL t one other x=vj
theorem fault_none:cN c t=NI↔NoF c t:=by
 unfold cN NoF
 rw[O1]
 refine YD λj=>XR λuu=>?_
 rw[O1]
 refine YD λx=>XR λuu=>?_
 by_cases hx:x∈j
 ·simp[hx]
 ·rw[N0 hx,O1]
  refine ⟨λh _ g k i=>?_,λh g k=>?_⟩
  ·have:=h g k
   cases hc:dL t j g x with
   | true=>rfl
   | false=>rw[NZ (by simp[i,hc])] at this; cases this
  ·by_cases i:x∈g
   ·rw[N0 (by simp[h hx g k i])]
   ·rw[N0 (by simp[i])]
theorem xv (h:∀ r,r∈t↔r∈u) (one other:uq N3) (x:N3):dL t one other x=dL u one other x:=by
 unfold dL
 congr 1
 funext o
 rw[R2.mpr (h (dg one o x))]
theorem NoF.set (n:NoF c t) (h:∀ r,r∈t↔r∈u):NoF c u:=λi m x l o g k j=>by
 rw[<- xv h]
 exact n i ((h i).mpr m) x l o g ((h g).mpr k) j
theorem NoF.empty (n:NoF c t) (hr:∀ r∈t,Srt c r) (h:[]∈t):∀ r∈t,r=[]:=λr g=>by
 cases r with
 | nil=>rfl
 | cons x r=>
  have i:=(hr _ g).2 x (.head _)
  have:=n [] h x (mem_upTo.mpr i) (λq=>nomatch q) _ g (.head _)
  cases this
theorem NoF.one (c:N7) (r:uq N3):NoF c [r]:=λone k x l j h i g=>by
 rw[N1.mp k] at j
 rw[N1.mp i] at g
 exact N5 g j
noncomputable def p_Rule:Fn:=⟨["count", "table"],
(.cons (.ite (.cmp .eq (.bi1 .len (.name "table")) (.int 0))
(.cons (.raise "NoChoice")
.nil)
.nil)
(.cons (.for1 "choice" (.e (.name "table"))
(.cons (.expr (.call "need_row" (.cons (.name "count") (.cons (.name "choice") .nil))))
.nil))
(.cons (.assign "known" (.call "known_of" (.cons (.comp (.bi1 .sorted (.name "choice")) "choice" (.e (.name "table"))) .nil)))
(.cons (.assign "full" (.comp (.bi1 .list (.name "choice")) "choice" (.e (.bi1 .sorted (.bi1 .list (.name "known"))))))
(.cons (.ite (.cmp .isnot (.call "fault" (.cons (.name "count") (.cons (.name "full") .nil))) .none)
(.cons (.raise "NoExchange")
.nil)
.nil)
.nil)))))⟩
structure LibR (L:uq (If×Fn)):Prop extends Lib L where
 need:L.lookup "need_row" = ti p_need_row
 rule:L.lookup "Rule" = ti p_Rule
 nth:∃ f,L.lookup "NoThing" = ti f
theorem Srt.good (h:Srt c r):Good c r:=⟨h.2,h.1.imp λq e=>by rw[e] at q; exact Int.lt_irrefl _ q⟩
theorem kQ:∀ ks:uq (uq N3),dO (ks.map aP)=ti ks
 | []=>rfl
 | k::ks=>by simp only[Pe,dO,iL,kQ ks,R8,UC]
theorem rW (h0:ks≠[]) (h64:ks.length<64) (hne:ks.length<2\/[]∉ks):∃ m,b1V .sorted (.d (.list (ks.map aP))) = .ok (.d (.list ((bl ks).map aP)),m):=by
 refine ⟨fresh ((bl ks).map aP),?_⟩
 show cZ (ks.map aP)=_
 unfold cZ
 have g:aR (ks.map aP)=none:=by
  cases ks with
  | nil=>exact N5 rfl h0
  | cons k ks=>rfl
 rw[NZ (by rw[Oc]; exact h64),g]
 show eY _=_
 unfold eY
 rw[kQ]
 show (if ks.length<2\/[]∉ks then _ else _)=_
 rw[NZ hne]
theorem xX (r:uq N3):b1V .list (.d (aP r)) = .ok (.d (aa r),.deep):=by
 show Out.ok (V.d (.list (r.map Oz)),fresh (r.map Oz))=_
 have:fresh (r.map Oz) = .deep:=by
  unfold fresh
  rw[NZ]
  rw[VV,Pm]
  intro _ _; rfl
 rw[this]; rfl
theorem qY (hC:C "Rule" = ti g) (h:ev C a σ = .ok (.rule c d k,m)):ev C (.attr a "count") σ = .ok (sI c)/\ev C (.attr a "full") σ = .ok (mk (.d d))/\ev C (.attr a "size") σ = .ok (sI k):=by
 refine ⟨?_,?_,?_⟩<;>(simp only[lz,hC,am,h,Out.ok_bind]; rfl)
theorem BI (lib:LibR L) (he:evs (mkC L (n+1)) es σ = .ok q) (hv:q.map (·.1)=vs) (h:ck (mkC L n) p_Rule vs = .ok r):ev (mkC L (n+1)) (.call "Rule" es) σ = .ok r:=by
 rw[mO (jt lib.rule) he,hv]
 exact h
noncomputable def l_bit:Fn:=⟨["_law_cell", "_law_k"],
(.cons (.for1 "_law_j" (.r1 (.name "_law_k"))
(.cons (.assign "_law_cell" (.bin .fdiv (.name "_law_cell") (.int 2)))
.nil))
(.cons (.ret (.cmp .eq (.bin .mod (.name "_law_cell") (.int 2)) (.int 1)))
.nil))⟩
noncomputable def l_held:Fn:=⟨["_law_script"],
(.cons (.assign "_law_made" (.call "_law_table" (.cons (.name "_law_script") .nil)))
(.cons (.ite (.or (.cmp .eq (.sub (.name "_law_made") (.int 1)) (.list .nil)) (.cmp .isnot (.call "_law_fault" (.cons (.sub (.name "_law_made") (.int 0)) (.cons (.sub (.name "_law_made") (.int 1)) .nil))) .none))
(.cons (.ret (.tup (.cons (.sub (.name "_law_made") (.int 0)) (.cons (.list (.cons (.compif (.name "_law_thing") "_law_thing" (.r1 (.sub (.name "_law_made") (.int 0))) (.call "_law_bit" (.cons (.call "_law_cell_at" (.cons (.name "_law_script") (.cons (.int 2) .nil))) (.cons (.name "_law_thing") .nil)))) .nil)) .nil))))
.nil)
.nil)
(.cons (.retn "_law_made")
.nil)))⟩
structure LibH (L:uq (If×Fn)):Prop extends Lib L where
 bit:L.lookup "_law_bit" = ti l_bit
 held:L.lookup "_law_held" = ti l_held
structure Hd (c:N7) (t:uq (uq N3)):Prop where
 hc:c<=99
 ne:t≠[]
 len:t.length<=62
 rows:∀ r∈t,Srt c r
 nf:NoF c t
theorem xI (C:Calls) (x:N3) (k:N7) (hk:k<=1000):∃ r,ax C l_bit [.d (.int x),.d (.int k)] = .ok r/\∃ b,r=sB b:=by
 unfold l_bit
 refine cu rfl λi H=>?_
 refine Runs.for (g:=Oz) (xs:=a0 k) (λm i=>∃ y:N3,Has i [("_law_cell", .d (.int y))]) (bO (H.ev rfl) (qv hk)) (λo h _=>⟨x,(h _ H).sub ⟨rfl,trivial⟩⟩) ?_ ?_
 ·intro m y n p i l
  refine al (l) λz H=>?_
  clear l
  have H1:=H.mk "_law_j" (.d (.int y))
  exact Runs.set H1 (cY (H1.ev rfl) (ai 2) (by decide) (by decide)) λi H _=>Runs.nil ⟨_,H.sub ⟨rfl,trivial⟩⟩
 ·intro i j
  refine al (j) λz H=>?_
  clear j
  exact Runs.ret (cJ (aY (H.ev rfl) (ai 2) (by decide)) (ai 1)) (ah _ rfl (cE _ rfl))
theorem Ip (ha:ev C a σ = .ok (.d (af t),m)) (hb:ev C b σ = .ok (.d (af u),m')):ev C (.cmp .eq a b) σ = .ok (sB (decide (t=u))):=a9 ha hb (Cd t u)
theorem vm (ha:ev C a σ = .ok (.d (aa r),m)):∃ m,ev C (.list (.cons a .nil)) σ = .ok (.d (af [r]),m):=by
 refine ⟨if allDeep [(.d (aa r),m)] then .deep else .top,?_⟩
 simp only[b8,bF,bw,ha,Out.ok_bind]
 rfl
theorem wE (lib:LibH L) (n:N7) (s:uq N3) (hs:s.length<=63):∃ r,ax (mkC L (n+4)) l_held [.d (aa s)] = .ok r/\∃ (c:N7) (t:uq (uq N3)),r.1 = .d (.tuple [.int c,af t])/\Hd c t:=by
 unfold l_held
 refine cu rfl λσ H=>?_
 obtain ⟨u,y,c,t,g,h0,j,h2,v⟩:=eu (σ:=σ) (n:=n+3) lib.table (es:=.cons (.name "_law_script") .nil) (ak (H.ev rfl) av) rfl (t8 lib.toLib n s hs)
 obtain ⟨rv,rm⟩:=u
 cases g
 obtain ⟨c,rfl⟩:∃ d:N7,c=d:=⟨c.toNat,by exact Hw h0⟩
 refine Runs.set H y λσ H hσ=>?_
 have h:∀ {σ:St}{l:uq (If×V)},Has σ l->l.lookup "_law_made" = ti (.d (.tuple [.int c,af t]))->ev (mkC L (n+4)) (.sub (.name "_law_made") (.int 0)) σ = .ok (sI c)/\ev (mkC L (n+4)) (.sub (.name "_law_made") (.int 1)) σ = .ok (.d (af t),.sh):=λH a=>⟨kl (m:=.sh) (H.ev a) (ai 0),iX (m:=.sh) (H.ev a) (ai 1)⟩
 refine ae (h H rfl) λd1 d2=>?_
 have o:=dH (σ:=σ) lib.lfault (ak d1 (ak d2 av)) rfl (kW lib.toLib (n+2) c t (J0 j) λr g=>⟨N4 (v r g).1 (by decide),λi k=>((v r g).2.2 i k).1⟩)
 have en:ev (mkC L (n+4)) (.cmp .isnot (.call "_law_fault" (.cons (.sub (.name "_law_made") (.int 0)) (.cons (.sub (.name "_law_made") (.int 1)) .nil))) .none) σ = .ok (sB (!decide (cN c t=NI))):=by
  cases hf:cN c t with
  | none=>
   rw[hf] at o
   exact a9 o di rfl
  | some q=>
   rw[hf] at o
   exact a9 (mx:=.sh) o di rfl
 refine Runs.ite (cX (Ip d2 im) λuu=>en) (λuu=>?_) λq=>Runs.nil ?_
 ·obtain ⟨p,hp⟩:=kU (l:=a0 c) (Q:=λi b=>ev (mkC L (n+4)) (.call "_law_bit" (.cons (.call "_law_cell_at" (.cons (.name "_law_script") (.cons (.int 2) .nil))) (.cons (.name "_law_thing") .nil))) (upd σ "_law_thing" (sI i)) = .ok (sB b)) λi k=>by
   have H2:Has (upd σ "_law_thing" (sI i)) _:=H.upd "_law_thing" (.d (.int i)) .deep
   obtain ⟨i,rfl⟩:∃ d:N7,i=d:=⟨i.toNat,by have:=mem_upTo.mp k; exact ET this⟩
   obtain ⟨_,y,b,rfl⟩:=eu (n:=n+3) lib.bit (es:=.cons (.call "_law_cell_at" (.cons (.name "_law_script") (.cons (.int 2) .nil))) (.cons (.name "_law_thing") .nil)) (ak (cO lib.toLib (H2.ev rfl) (ai 2) (by decide)) (ak (H2.ev rfl) av)) rfl (xI _ _ i (by have:=mem_upTo.mp k; exact Gw j this))
   exact ⟨b,y⟩
  refine al (vm (jD (z:="_law_thing") p (bO d1 (Fr j)) hp)) λm1 e3=>?_
  refine cC d1 e3 λm2 e4=>?_
  refine Runs.ret e4 ⟨_,rfl,c,_,rfl,PJ.mp j,by simp,by simp,λr g=>?_,.one c _⟩
  rw[N1.mp g]
  exact ⟨(kO c).filter _,λx hx=>mem_upTo.mp (QB.mp hx).1⟩
 ·refine al (H "_law_made" _ rfl) λm e=>?_
  refine ae (RB.mp q) λq1 q2=>?_
  refine Runs.retn e ⟨_,rfl,c,t,rfl,PJ.mp j,Qq q1,h2,λr g=>(v r g).2,fault_none.mp ?_⟩
  simpa using q2
structure LibQ (L:uq (If×Fn)):Prop extends LibR L where
 nex:∃ f,L.lookup "NoExchange" = ti f
noncomputable def dq (acc t:uq (uq N3)):uq (uq N3):=t.foldl (λacc r=>if r∈acc then acc else acc++[r]) acc
theorem iR:∀ (t acc:uq (uq N3)),acc.Nodup->∃ s,dq acc t=acc++s/\s.Sublist t/\(acc++s).Nodup/\∀ r,r∈acc++s↔r∈acc\/r∈t
 | [],acc,hn=>⟨[],(PU _).symm,.slnil,by rw[PU]; exact hn,λr=>by simp⟩
 | x::t,acc,hn=>by
  by_cases h:x∈acc
  ·refine cg (iR t acc hn) λs j k i g=>?_
   refine ⟨s,?_,k.cons x,i,λr=>(g r).trans ⟨λq=>q.imp id (.tail _),λq=>q.elim .inl λq=>(Ou.mp q).elim (λe=>.inl (e▸h)) .inr⟩⟩
   show dq (if x∈acc then acc else acc++[x]) t=_
   rw[NZ h]; exact j
  ·refine cg (iR t (acc++[x]) (R3.mpr ⟨hn,by simp,λa m b l q=>h (by rw[N1.mp l] at q; exact q▸m)⟩)) λs j k i g=>?_
   rw[Pk] at j i g
   refine ⟨x::s,?_,k.cons₂ x,i,λr=>(g r).trans ?_⟩
   ·show dq (if x∈acc then acc else acc++[x]) t=_
    rw[N0 h]; exact j
   ·rw[Op,N1,Ou,or_assoc]
noncomputable def az (t:uq (uq N3)):uq (uq N3):=dq [] (bl (t.map aU))
theorem wp (ks:uq (uq N3)) (r:uq N3):r∈bl ks↔r∈ks:=(P9 ks _).mem_iff
theorem jE (ks:uq (uq N3)):(bl ks).length=ks.length:=(P9 ks _).length_eq
theorem bP (t:uq (uq N3)):(az t).Nodup/\(∀ r,r∈az t↔r∈t.map aU)/\((az t).Pairwise λa b=>ltL b a=NY)/\(az t).length<=t.length:=by
 refine cg (iR (bl (t.map aU)) [] .nil) λs j g i h=>?_
 rw[show az t=s from j]
 refine ⟨i,λr=>(h r).trans ?_,(iI _).sublist g,?_⟩
 ·rw[wp]; exact or_iff_right (by simp)
 ·have:=g.length_le
  rwa [jE,Oc] at this
theorem rC (hn:ks.Nodup) (h:∀ r,r∈ks↔r∈t.map aU):bl ks=az t:=by
 obtain ⟨j,i,g,_⟩:=bP t
 exact gi ((P9 ks _).trans ((List.perm_ext_iff_of_nodup hn j).mpr λr=>(h r).trans (i r).symm)) (iI ks) g
theorem ll (ht:t≠[]):az t≠[]:=λq=>by
 refine al (List.exists_mem_of_ne_nil t ht) λa g=>?_
 have:=((bP t).2.1 (aU a)).mpr (V5 g)
 rw[q] at this; cases this
theorem pC (hn:t.Nodup) (hr:∀ r∈t,aU r=r) (hp:t.Pairwise λa b=>ltL b a=NY):az t=t:=by
 have e:t.map aU=t:=by
  conv=>rhs; rw[<- Q0 t]
  exact RU hr
 rw[<- rC hn (λr=>by rw[e])]
 exact gi (P9 t _) (iI t) hp
noncomputable def ku:Ss:=.cons (.expr (.call "need_row" (.cons (.name "count") (.cons (.name "choice") .nil)))) .nil
theorem pY (lib:LibR L) (n:N7) (c:N7) (hc:c<=1000) (T:V):∀ (t:uq (uq N3)) (σ:St),Has σ [("count", .d (.int c)),("table", T)] ->
  ((∀ r∈t,Good c r)->∃ σ',loopS (λy σ=>exs (mkC L (n+3)) ku (upd σ "choice" (mk (.d y)))) (t.map aa) σ = .ok (σ',.next)/\Has σ' [("count", .d (.int c)),("table", T)]) /\
  (¬ (∀ r∈t,Good c r)->loopS (λy σ=>exs (mkC L (n+3)) ku (upd σ "choice" (mk (.d y)))) (t.map aa) σ = .exc "NoThing")
 | [],σ,H=>⟨λ_=>⟨σ,rfl,H⟩,λq=>N5 (λ_ h=>nomatch h) q⟩
 | r::t,σ,H=>by
  refine al (iU (n:=n+1) lib.nth) λu i=>?_
  have H1:=H.mk "choice" (.d (aa r))
  refine ae (oX i c hc r) λl s2=>?_
  have k:=ak (H1.ev (C:=mkC L (n+3)) (x:="count") rfl) (ak (H1.ev (x:="choice") rfl) av)
  rw[Pe,loopS]
  by_cases g:Good c r
  ·have e:=dH lib.need k rfl (l g)
   have j:exs (mkC L (n+3)) ku (upd σ "choice" (mk (.d (aa r)))) = .ok (upd σ "choice" (mk (.d (aa r))),.next):=by
    unfold ku
    simp only[dl,aE,dy,e,Out.ok_bind]
    rfl
   rw[j]
   refine ae (pY lib n c hc T t (upd σ "choice" (mk (.d (aa r)))) (H1.sub ⟨rfl,rfl,trivial⟩)) λm i2=>?_
   exact ⟨λh=>m λr p=>h r (.tail _ p),λh=>i2 λq=>h λx o=>(Ou.mp o).elim (λe=>e▸g) (q x)⟩
  ·have e:=(aZ lib.need k).trans (s2 g)
   have j:exs (mkC L (n+3)) ku (upd σ "choice" (mk (.d (aa r)))) = .exc "NoThing" := by
    unfold ku
    simp only[dl,aE,dy,e,Out.exc_bind]
   rw[j]
   exact ⟨λh=>N5 (h r (.head _)) g,λ_=>rfl⟩
theorem eB (he:ev C c σ = .ok (sB NY)):exs C (.cons (.ite c u .nil) b) σ=exs C b σ:=dW ((ki he).trans d9)
theorem hU (h:ex C s σ = .exc n):exs C (.cons s b) σ = .exc n:=by
 rw[aE,h]; rfl
theorem wl (hn:n∈excNames) (hC:C n=ti g) (he:ev C c σ = .ok (sB vj)):exs C (.cons (.ite c (.cons (.raise n) .nil) .nil) b) σ = .exc n:=by
 refine hU ((fb he).trans (hU ?_))
 simp only[ed,hC,am]
 exact NZ hn
theorem hM (he:ev C e σ = .ok r):exs C (.cons (.assign x e) b) σ=exs C b (upd (consume σ (fv e) r.2) x r):=dW (by simp only[cS,lY he,Out.ok_bind])
noncomputable def zF (c:N7) (t:uq (uq N3)) (o:Out (V×Mode)):Prop :=
 (¬ (∀ r∈t,Good c r)/\o = .exc "NoThing")\/((∀ r∈t,Good c r)/\¬ NoF c (t.map aU)/\o = .exc "NoExchange") \/
  ((∀ r∈t,Good c r)/\NoF c (t.map aU)/\∃ k:N3,o = .ok (.rule c (af (az t)) k,.deep))
theorem ls (lib:LibQ L) (n:N7) (c:N7) (t:uq (uq N3)) (hc:c<=99) (ht:t≠[]) (hl:t.length<=63) (hE:[]∈t->∀ r∈t,r=[]):zF c t (ck (mkC L (n+3)) p_Rule [.d (.int c),.d (af t)]):=by
 have hc':c<=1000:=vc hc (by decide)
 refine ag (eg ["count", "table"] [V.d (.int c),V.d (af t)] rfl) λσ hσ H=>?_
 have run:ck (mkC L (n+3)) p_Rule [.d (.int c),.d (af t)]=(exs (mkC L (n+3)) p_Rule.body σ).bind λr=>match r.2 with
  | .next=>eH r.1
  | .ret _=>.bad:=by
  unfold ck
  rw[show bV p_Rule.params [V.d (.int c),V.d (af t)]=ti σ from hσ]
  try rfl
 rw[run]
 have e0:ev (mkC L (n+3)) (.cmp .eq (.bi1 .len (.name "table")) (.int 0)) σ = .ok (sB NY):=(cJ (eA (H.ev (x:="table") rfl)) (ai 0)).trans (by rw[OC (λq=>ht (PB (by exact Il q)))])
 have hit:=aD (C:=mkC L (n+3)) (H.ev (C:=mkC L (n+3)) (x:="table") rfl) (aH t .sh)
 refine ae (pY lib.toLibR n c hc' (.d (af t)) t (consume σ (bD (.e (.name "table"))) .sh) (H.consume _ _)) λl1 l2=>?_
 by_cases hg:∀ r∈t,Good c r
 rotate_left
 ·refine .inl ⟨hg,?_⟩
  unfold p_Rule
  dsimp only
  rw[eB e0,hU (by simp only[gp,hit,Out.ok_bind]; exact l2 hg)]
  rfl
 refine .inr ?_
 refine ag (l1 hg) λσ1 l3 H1=>?_
 have lg:∀ r∈t,Lg r:=λr hr=>⟨N4 (vc (hg r hr).len hc) (by decide),λi hi=>((hg r hr).1 i hi).1⟩
 refine ar (cr (C:=mkC L (n+3)) (σ:=σ1) (g:=aa) (l:=t) (z:="choice") (it:=.e (.name "table")) (a:=.bi1 .sorted (.name "choice")) aU .deep (aD (H1.ev rfl) (aH t .sh)) λr hr'=>fw ((Has.nil.mk "choice" (.d (aa r))).ev rfl) (Q2 (lg r hr').1) (lg r hr').2) λm1 e1 _ _=>?_
 obtain ⟨r,e2,v,MC,K⟩:=mw (mkC L (n+2)) (t.map aU) (by rw[Oc]; exact EN hl)
 subst MC
 have e3:=dH lib.known (ak e1 av) rfl e2
 rcases K with ⟨q,_⟩ | ⟨ks,rfl,k1,k2,k3⟩
 ·exact N5 (Qx.mp q) ht
 rw[Oc] at k1
 have hk:=rC k3 k2
 have h0:ks≠[]:=λq=>ll ht (by rw[<- hk,q]; exact Wy)
 have hne:ks.length<2\/[]∉ks:=by
  by_cases q:[]∈ks
  ·refine .inl ?_
   refine ag (Tm.mp ((k2 _).mp q)) λa ha ea=>?_
   have ea':a=[]:=PB (by rw[<- (cT a).length_eq,ea]; rfl)
   have all:∀ x∈ks,x=[]:=λx hx=>by
    refine ag (Tm.mp ((k2 _).mp hx)) λb hb eb=>?_
    rw[<- eb,hE (ea'▸ha) b hb]; exact Wy
   rcases ks with _ | ⟨a,_ | ⟨b,ks⟩⟩
   ·simp
   ·simp
   ·have ha:=all a (by simp)
    have hb:=all b (by simp)
    rw[ha,hb] at k3
    simp at k3
  ·exact .inr q
 have H2:=(H1.consume (fv (.call "known_of" (.cons (.comp (.bi1 .sorted (.name "choice")) "choice" (.e (.name "table"))) .nil))) .deep).upd "known" (.dicT ks) .deep
 generalize hσ2:upd (consume σ1 (fv (.call "known_of" (.cons (.comp (.bi1 .sorted (.name "choice")) "choice" (.e (.name "table"))) .nil))) .deep) "known" (.dicT ks,.deep)=σ2 at H2
 have e4:ev (mkC L (n+3)) (.bi1 .list (.name "known")) σ2 = .ok (.d (.list (ks.map aP)),fresh (ks.map aP)):=by
  rw[dh (H2.ev (x:="known") rfl)]
  show pi .list ks=_
  unfold pi
  rw[NZ ⟨rfl,by unfold lim; exact Fm hl k1⟩]
 refine al (rW h0 (by exact GS hl k1) hne) λm4 e5=>?_
 rw[hk] at e5
 have e6:ev (mkC L (n+3)) (.bi1 .sorted (.bi1 .list (.name "known"))) σ2 = .ok (.d (.list ((az t).map aP)),m4):=(dh e4).trans e5
 refine ar (cr (C:=mkC L (n+3)) (σ:=σ2) (g:=aP) (l:=az t) (z:="choice") (it:=.e (.bi1 .sorted (.bi1 .list (.name "known")))) (a:=.bi1 .list (.name "choice")) (λr=>r) .deep (aD e6 rfl) λr _=>(dh ((Has.nil.mk "choice" (.d (aP r))).ev rfl)).trans (xX r)) λm6 e7 hm6 _=>?_
 rw[Q0,hm6 rfl] at e7
 have H3:=(H2.consume (fv (.comp (.bi1 .list (.name "choice")) "choice" (.e (.bi1 .sorted (.bi1 .list (.name "known")))))) .deep).upd "full" (.d (af (az t))) .deep
 have hf:=fx (consume σ2 (fv (.comp (.bi1 .list (.name "choice")) "choice" (.e (.bi1 .sorted (.bi1 .list (.name "known")))))) .deep) "full" (.d (af (az t)),.deep)
 generalize hσ3:upd (consume σ2 (fv (.comp (.bi1 .list (.name "choice")) "choice" (.e (.bi1 .sorted (.bi1 .list (.name "known")))))) .deep) "full" (.d (af (az t)),.deep)=σ3 at H3 hf
 have ef:=uO lib.toLib n c (az t) hc' (by have:=(bP t).2.2.2; exact vc this (vc hl (by decide))) λr hr'=>by
  refine ag (Tm.mp (((bP t).2.1 r).mp hr')) λr' h1 MC=>?_
  subst MC
  exact ⟨by rw[(cT r').length_eq]; exact (lg r' h1).1,λi hi=>(lg r' h1).2 i ((cT r').mem_iff.mp hi)⟩
 have last:ev (mkC L (n+3)) (.cmp .isnot (.call "fault" (.cons (.name "count") (.cons (.name "full") .nil))) .none) σ3 = .ok (sB (cN c (az t)).isSome):=by
  refine a9 (dH lib.fault (ak (H3.ev (x:="count") rfl) (ak (H3.ev (x:="full") rfl) av)) rfl ef) di ?_
  cases cN c (az t)<;>rfl
 have flt:(cN c (az t)).isSome=NY↔NoF c (t.map aU):=by
  rw[Option.isSome_eq_false_iff,Rn,fault_none]
  exact ⟨λh=>h.set (bP t).2.1,λh=>h.set λr=>((bP t).2.1 r).symm⟩
 have body:exs (mkC L (n+3)) p_Rule.body σ=exs (mkC L (n+3)) (.cons (.ite (.cmp .isnot (.call "fault" (.cons (.name "count") (.cons (.name "full") .nil))) .none) (.cons (.raise "NoExchange") .nil) .nil) .nil) σ3:=by
  unfold p_Rule
  dsimp only
  rw[eB e0,dW (σ':=σ1) (by simp only[gp,hit,Out.ok_bind]; exact l3),hM e3]
  dsimp only
  rw[hσ2,hM e7]
  dsimp only
  rw[hσ3]
 rw[body]
 by_cases nf:NoF c (t.map aU)
 ·refine .inr ⟨hg,nf,?_⟩
  rw[flt.mpr nf] at last
  obtain ⟨x,u,hx⟩:=List.exists_cons_of_ne_nil (ll ht)
  refine ⟨x.length,?_⟩
  rw[eB last,d9]
  refine al (H3 "count" _ rfl) λmc hcnt=>?_
  simp only[Out.ok_bind]
  unfold eH
  rw[hcnt,hf,hx]
  show Out.ok (V.rule c (.list (aa x::u.map aa)) ((x.map Oz).length:N3),Mode.deep)=_
  rw[Oc]
  rfl
 ·refine .inl ⟨hg,nf,?_⟩
  refine al (iU (n:=n+2) lib.nex) λg hC=>?_
  rw[show (cN c (az t)).isSome=vj from Bool.of_not_eq_false λq=>nf (flt.mp q)] at last
  rw[wl (by decide) hC last]
  rfl
open PySem.Builtin PySem.Builtin.Str
noncomputable def tl (x:Str):uq Nat:=x.cps.toList
theorem fz (h:tl x=tl y):x=y:=Str.ext' (Wr.mp h)
theorem bg (x:Str):(tl x).length=x.length:=Om
theorem bI (x y:Str):tl (x++y)=tl x++tl y:=by
 show (x.cps++y.cps).toList=_
 exact O8
theorem vN (x:Str) (i j:N7):tl (Rt x i j)=((tl x).drop i).take (j-i):=Ze x i j
theorem mP (x:Str) (j:N7):tl (Rt x 0 j)=(tl x).take j:=(vN x 0 j).trans rfl
theorem ky (x:Str) (i:N7):tl (Rt x i x.length)=(tl x).drop i:=by
 rw[vN,Pr]
 rw[PN,bg]; exact Ow _
theorem sub_at:RX x y x.length i↔i+y.length<=x.length/\((tl x).drop i).take y.length=tl y:=by
 show i+y.length<=x.length/\subAt x y i=vj↔_
 rw[StrLaws.subAt_eq,Oj]; rfl
theorem rG:∀ {a b A B:uq N7},c∉a->c∉b->a++c::A=b++c::B->a=b/\A=B
 | [],[],A,B,_,_,h=>⟨rfl,(PS h).2⟩
 | [],y::b,A,B,_,hb,h=>N5 (Ou.mpr (.inl (PS h).1)) hb
 | x::a,[],A,B,ha,_,h=>N5 (Ou.mpr (.inl (PS h).1.symm)) ha
 | x::a,y::b,A,B,ha,hb,h=>by
  obtain ⟨k,j⟩:=PS h
  obtain ⟨i,g⟩:=rG (λq=>ha (.tail _ q)) (λq=>hb (.tail _ q)) j
  exact ⟨by rw[k,i],g⟩
theorem bQ (y a b:Str) (r:uq Str):tl (O5 y (a::b::r))=tl a++(tl y++tl (O5 y (b::r))):=by
 show tl (a++y++O5 y (b::r))=_
 rw[bI,bI,Pk]
theorem jH (hy:tl y=c::d):∀ {l l':uq Str},l≠[]->l'≠[]->(∀ p∈l,c∉tl p)->(∀ p∈l',c∉tl p)->O5 y l=O5 y l'->l=l'
 | [],_,h,_,_,_,_=>N5 rfl h
 | _,[],_,h,_,_,_=>N5 rfl h
 | [a],[b],_,_,_,_,h=>by rw[show a=b from h]
 | [a],b::b'::r',_,_,h1,_,h=>by
  have:tl a=_:=(PG tl h).trans (bQ y b b' r')
  rw[hy] at this
  exact N5 (by rw[this]; simp) (h1 a (.head _))
 | a::a'::r,[b],_,_,_,h2,h=>by
  have:tl b=_:=(PG tl h.symm).trans (bQ y a a' r)
  rw[hy] at this
  exact N5 (by rw[this]; simp) (h2 b (.head _))
 | a::a'::r,b::b'::r',_,_,h1,h2,h=>by
  have e:=PG tl h
  rw[bQ,bQ,hy] at e
  refine ae (rG (h1 a (.head _)) (h2 b (.head _)) e) λj i=>?_
  rw[fz j,jH hy (by simp) (by simp) (λp g=>h1 p (.tail _ g)) (λp g=>h2 p (.tail _ g)) (fz (List.append_cancel_left i))]
theorem iY:∀ {l:uq Str},c∈tl (O5 y l)->c∈tl y\/∃ p∈l,c∈tl p
 | [],h=>nomatch h
 | [a],h=>.inr ⟨a,.head _,h⟩
 | a::b::r,h=>by
  rw[bQ,Op,Op] at h
  rcases h with h | h | h
  ·exact .inr ⟨a,.head _,h⟩
  ·exact .inl h
  ·exact (iY h).imp id λ⟨p,i,g⟩=>⟨p,.tail _ i,g⟩
theorem iJ (hy:(tl y).count c=1):∀ {l:uq Str},l≠[]->(l.length<=(tl (O5 y l)).count c+1)/\((∀ p∈l,c∉tl p)->l.length=(tl (O5 y l)).count c+1)
 | [],h=>N5 rfl h
 | [a],_=>⟨Pa _ _,λh=>by rw[show (tl (O5 y [a])).count c=0 from T5.mpr (h a (.head _))]; rfl⟩
 | a::b::r,_=>by
  obtain ⟨j,i⟩:=iJ hy (l:=b::r) (by simp)
  rw[bQ,Ta,Ta,hy,OS]
  refine ⟨by lia,λh=>?_⟩
  rw[i λp g=>h p (.tail _ g),T5.mpr (h a (.head _))]; lia
theorem f7 (x y:Str):Txt.split x y≠[]:=λh=>by
 have:=QM x y
 unfold Txt.split at h
 split at h
 ·cases h
 split at h
 ·cases h
 rw[UQ] at h
 obtain ⟨p,r,e⟩:=ZJ x y.length 0 (Tz x y 0 x.length (x.length+1))
 rw[e] at h; cases h
theorem oG (h:c∈tl x) (hy:c∉tl y):∃ p∈Txt.split x y,c∈tl p:=by
 rw[<- QM x y] at h
 exact (iY h).resolve_left hy
theorem gV (hy:(tl y).count c=1):(Txt.split x y).length<=(tl x).count c+1:=by
 have:=(iJ hy (f7 x y)).1
 rwa [QM] at this
theorem wg (hl:l≠[]) (h:∀ p∈l,c∉tl p):Txt.split (O5 ⟨#[c]⟩ l) ⟨#[c]⟩=l :=
 jH (d:=[]) rfl (f7 _ _) hl (λp g=>Z9 _ c p g) h (QM _ _)
def Fol (c:N7) (q:N7->Prop):uq N7->Prop
 | []=>V1
 | x::l=>(x=c->∃ d r,l=d::r/\q d)/\Fol c q l
theorem Fol.free:∀ {a l:uq N7},c∉a->Fol c q l->Fol c q (a++l)
 | [],_,_,h=>h
 | x::a,l,h,f=>⟨λe=>N5 (e▸Q4) h,Fol.free (λq=>h (.tail _ q)) f⟩
theorem Fol.at:∀ {l:uq N7}{k:N7},Fol c q l->l[k]? = ti c->∃ d r,l.drop k=c::d::r/\q d
 | [],k,_,h=>by simp at h
 | x::l,0,f,h=>by
  cases h
  obtain ⟨d,r,e,g⟩:=f.1 rfl
  exact ⟨d,r,by rw[RF,e],g⟩
 | x::l,k+1,f,h=>Fol.at (l:=l) (k:=k) f.2 (by simpa using h)
theorem Fol.join (hd:d≠c) (hy:tl y=[c,d]):∀ {l:uq Str},(∀ p∈l,c∉tl p)->Fol c (· = d) (tl (O5 y l))
 | [],_=>trivial
 | [a],h=>by
  have:=Fol.free (q:=(· = d)) (l:=[]) (h a (.head _)) trivial
  rwa [PU] at this
 | a::b::r,h=>by
  rw[bQ,hy]
  exact Fol.free (h a (.head _)) ⟨λ_=>⟨d,_,rfl,rfl⟩,λe=>N5 e hd,Fol.join hd hy λp g=>h p (.tail _ g)⟩
theorem kX (hc:∀ k,RX x ⟨#[c]⟩ x.length k->RX x y x.length k):∀ (cuts:uq N7) (a f:N7),StrLaws.ChainG x y x.length a cuts f->(∀ k,f<=k->¬ RX x y x.length k)->∀ p∈StrLaws.partsFrom x y.length a cuts,c∉tl p
 | [],a,f,h,hn,p,hp=>by
  rw[N1.mp hp]
  rw[show f=a from h] at hn
  exact WX x c a x.length (Ow _) λk g _ q=>hn k g (hc k q)
 | d::r,a,f,h,hn,p,hp=>by
  rcases Ou.mp hp with rfl | hp'
  ·exact WX x c a d (vc (Os _ _) h.2.1.1) λk g i q=>h.2.2.1 k g i (hc k q)
  ·exact kX hc r _ f h.2.2.2 hn p hp'
theorem at_one:RX x ⟨#[c]⟩ x.length k↔(tl x)[k]? = ti c:=StrLaws.subAt_one x c k
theorem vz (hl:l≠[]) (h:∀ p∈l,44∉tl p):Txt.split (O5 ⟨#[44,32]⟩ l) ⟨#[44,32]⟩=l:=by
 have v:tl ⟨#[44,32]⟩=[44,32]:=rfl
 have n:∀ k,RX (O5 ⟨#[44,32]⟩ l) ⟨#[44]⟩ (O5 ⟨#[44,32]⟩ l).length k->RX (O5 ⟨#[44,32]⟩ l) ⟨#[44,32]⟩ (O5 ⟨#[44,32]⟩ l).length k:=λk q=>by
  obtain ⟨_,r,e,rfl⟩:=(Fol.join (by decide) v h).at (at_one.mp q)
  refine sub_at.mpr ⟨?_,by rw[e]; rfl⟩
  have:=PG VK e
  rw[PN,bg] at this
  show k+2<=_
  simp only[OS] at this
  lia
 refine jH v (f7 _ _) hl ?_ h (QM _ _)
 generalize O5 ⟨#[44,32]⟩ l=x at n
 obtain ⟨f,u,i⟩:=StrLaws.occ_tight x ⟨#[44,32]⟩ (by decide)
 have o:(∀ j,¬ RX x ⟨#[44,32]⟩ x.length j)->44∉tl x:=λi m=>by
  obtain ⟨j,g⟩:=QZ m
  exact i j (n j (at_one.mpr g))
 unfold Txt.split
 split
 ·intro p t m
  rw[N1.mp t] at m
  obtain ⟨j,g⟩:=QZ m
  have q:=(n j (at_one.mpr g)).1
  rename_i hs
  rw[TZ,OT,OT] at hs
  rcases hs with hs | hs
  ·exact N5 hs (Wk.mpr (vc (Pa _ _) q))
  ·rw[show Sg ⟨#[44,32]⟩=1 by decide +kernel] at hs
   unfold Sg at hs
   split at hs
   ·cases hs with | step h=>cases h
   ·split at hs<;>(revert hs; decide)
 ·split
  ·rename_i y
   intro p t
   rw[N1.mp t]
   refine o λj g=>?_
   rw[Ts.mp y] at u
   exact i j (by rw[show f=0 from u]; exact Pf _) g
  ·rw[UQ]
   exact kX n _ 0 f u i
noncomputable def sp:Str:=⟨#[32]⟩
noncomputable def cs:Str:=⟨#[44,32]⟩
noncomputable def co:Str:=⟨#[58,32]⟩
noncomputable def da:Str:=⟨#[45]⟩
noncomputable def cR:uq Nat:=[48,49,50,51,52,53,54,55,56,57]
section
theorem eG (h:oD s=t):ev C (.str s) σ = .ok (sS t):=by rw[sP,h]; rfl
theorem xV:ev C (.str " ") σ = .ok (sS sp):=eG (by decide +kernel)
theorem xK:ev C (.str ", ") σ = .ok (sS cs):=eG (by decide +kernel)
theorem tZ:ev C (.str ": ") σ = .ok (sS co):=eG (by decide +kernel)
theorem tE:ev C (.str "-") σ = .ok (sS da):=eG (by decide +kernel)
theorem yN:ev C (.str "") σ = .ok (sS ⟨#[]⟩):=eG (by decide +kernel)
theorem mj (ha:ev C a σ = .ok (sS x)):ev C (.bi1 .slen a) σ = .ok (sI x.length):=dh ha
theorem sY (ha:ev C a σ = .ok (sS x)) (hb:ev C b σ = .ok (sI i)) (h0:0<=i) (hl:x.length<=1000000) (h:(tl x)[i.toNat]? = ti c):ev C (.sat a b) σ = .ok (sS ⟨#[c]⟩):=by
 simp only[jL,ha,hb,Out.ok_bind]
 show (if 0<=i/\x.length<=lim then am (x.cps[i.toNat]?) λc=>Out.ok (sS ⟨#[c]⟩) else .bad)=_
 rw[NZ ⟨h0,hl⟩,show x.cps[i.toNat]? = ti c from (RJ ..).symm.trans h]; rfl
theorem iT (ha:ev C a σ = .ok (sS x)) (hb:ev C b σ = .ok (sS y)):ev C (.cmp .seq a b) σ = .ok (sB (x==y)):=a9 ha hb rfl
theorem zC (ha:ev C a σ = .ok (sS x)) (hb:ev C b σ = .ok (sS y)):ev C (.cmp .sne a b) σ = .ok (sB (!(x==y))):=a9 ha hb rfl
theorem Bv:figS=⟨#[48,49,50,51,52,53,54,55,56,57]⟩:=by decide +kernel
theorem CP (ha:ev C a σ = .ok (sS ⟨#[c]⟩)) (hb:ev C b σ = .ok (sS figS)):ev C (.cmp .snin a b) σ = .ok (sB (!decide (c∈cR))):=by
 refine a9 ha hb ?_
 show Out.ok (Tz figS ⟨#[c]⟩ 0 figS.length 1).isEmpty=_
 have:=StrLaws.found_one figS c
 rw[show figS.cps.toList=cR by rw[Bv]; rfl] at this
 rw[<- this,WI]
theorem ko (ha:ev C a σ = .ok (sS x)) (hb:ev C b σ = .ok (sS y)) (h:x.length+y.length<=1000000):ev C (.bin .cat a b) σ = .ok (sS (x++y)):=by
 rw[dm ha hb]
 show (if x.length+y.length<=lim then Out.ok (sS (x++y)) else .bad)=_
 exact NZ h
theorem jV (ha:ev C a σ = .ok (sS x)) (hb:ev C b σ = .ok (sS y)) (hy:tl y=c::d) (h:x.length<1000000):ev C (.sm .split a b) σ = .ok (.d (.list ((Txt.split x y).map .str)),.deep):=by
 simp only[ip,ha,hb,Out.ok_bind]
 show (if (y.length==0)=NY/\x.length<lim then _ else _)=_
 rw[NZ ⟨by rw[<- bg,hy]; rfl,h⟩]
theorem vH (ha:ev C a σ = .ok (sS x)) (hb:ev C b σ = .ok (sS y)):ev C (.sm .find a b) σ = .ok (sI (SR x y)):=by
 simp only[ip,ha,hb,Out.ok_bind]; rfl
theorem C6 (ha:ev C a σ = .ok (sS x)) (hb:ev C b σ = .ok (sS co)) (h:x.length<1000000):ev C (.sm .part a b) σ = .ok (.d (.tuple (fQ x co)),.deep):=by
 simp only[ip,ha,hb,Out.ok_bind]
 show (if (co.length==0)=NY/\x.length<lim/\co.length<=lim then _ else _)=_
 rw[NZ ⟨by decide +kernel,h,by decide +kernel⟩]
theorem l9 (f:α->Str):∀ l:uq α,fy (l.map λi=>.str (f i))=ti (l.map f)
 | []=>rfl
 | i::l=>by rw[Pe,fy,l9 f l]; rfl
theorem oM:∀ {l:uq α},(∀ i∈l,F (e i) = .ok (ti (.d (g i),.deep)))->bj F (l.map e) = .ok (l.map g,vj)
 | [],_=>rfl
 | i::l,h=>by
  rw[Pe,bj,h i (.head _),oM λj k=>h j (.tail _ k)]
  rfl
theorem nL {α:Type}{e:α->N9}{l:uq α}{z:If}{it:It}{q:Mode}(g:α->N9) (h:be C it σ = .ok (l.map e,q)) (hc:∀ i∈l,ev C a (upd σ z (mk (.d (e i)))) = .ok (.d (g i),.deep)):ev C (.comp a z it) σ = .ok (.d (.list (l.map g)),.deep):=by
 rw[nH h (r:=(l.map g,vj))]
 ·rfl
 ·exact oM (F:=λy=>(ev C a (upd σ z (mk (.d y)))).bind λr=>.ok (ti r)) (e:=e) λi j=>by rw[hc i j]; rfl
theorem wd {α:Type}{l:uq α}{f:α->Str}{B:N7}(ha:ev C a σ = .ok (sS y)) (hb:ev C b σ = .ok (.d (.list (l.map λi=>.str (f i))),m)) (hB:∀ i∈l,(f i).length<=B) (h:l.length*B+l.length*y.length<=1000000):ev C (.sm .join a b) σ = .ok (sS (O5 y (l.map f)))/\(O5 y (l.map f)).length<=l.length*B+l.length*y.length:=by
 have g:∀ z∈l.map f,z.length<=B:=λz o=>by
  refine aB o λi p e=>?_
  rw[<- e]; exact hB i p
 have n:=StrLaws.sumLen_le _ g
 have k:=Y7 y (l.map f)
 rw[Oc] at n k
 have j:(O5 y (l.map f)).length<=l.length*B+l.length*y.length:=vc k (PW n _)
 refine ⟨?_,j⟩
 simp only[ip,ha,hb,Out.ok_bind]
 show (am (fy (l.map λi=>.str (f i))) λts=>if YQ y ts=vj/\(TY y ts).length<=lim then Out.ok (sS (TY y ts)) else .bad)=_
 rw[l9]
 have e:TY y (l.map f)=O5 y (l.map f):=Zf ..
 show (if YQ y (l.map f)=vj/\(TY y (l.map f)).length<=lim then Out.ok (sS (TY y (l.map f))) else .bad)=_
 rw[NZ ⟨by
  unfold YQ
  rw[StrLaws.joinFits g (by rw[Oc]; exact vc h (by decide))]; rfl,by rw[e]; exact vc j h⟩,e]
theorem zi {x:Str}{i:N7}(h:i<=x.length):tl (R1 x NI (ti (i:N3)))=(tl x).take i:=by
 have:=ZK (x:=x) (j:=i) ⟨Ot _,by rw[show x.cps.toList.length=x.length from bg x]; exact PJ.mpr h⟩
 rw[show R1 x NI (ti (i:N3))=_ from this,Int.sub_zero,RM]
 rfl
theorem lR {x:Str}{i:N7}(h:i<=x.length):tl (R1 x (ti (i:N3)) NI)=(tl x).drop i:=by
 have g:(tl x).length=x.length:=bg x
 have:=Y8 (x:=x) (i:=i) ⟨Ot _,by rw[show x.cps.toList.length=x.length from g]; exact PJ.mpr h⟩
 rw[show R1 x (ti (i:N3)) NI=_ from this,RM]
 show ((tl x).drop i).take _=_
 refine Pr ?_
 rw[PN]
 show (tl x).length-i<=(((tl x).length:N3)-i).toNat
 lia
theorem zc {i:N7}(ha:ev C a σ = .ok (sS x)) (hb:ev C b σ = .ok (sI i)) (hl:x.length<=1000000) (h:i<=x.length):∃ z,ev C (.ssl NY a b) σ = .ok (sS z)/\tl z=(tl x).take i:=by
 refine ⟨_,?_,zi h⟩
 simp only[fU,ha,hb,Out.ok_bind]
 show (if x.length<=lim then Out.ok (sS (tA NY x i)) else .bad)=_
 exact NZ hl
theorem mC {i:N7}(ha:ev C a σ = .ok (sS x)) (hb:ev C b σ = .ok (sI i)) (hl:x.length<=1000000) (h:i<=x.length):∃ z,ev C (.ssl vj a b) σ = .ok (sS z)/\tl z=(tl x).drop i:=by
 refine ⟨_,?_,lR h⟩
 simp only[fU,ha,hb,Out.ok_bind]
 show (if x.length<=lim then Out.ok (sS (tA vj x i)) else .bad)=_
 exact NZ hl
end
noncomputable def br (n:N3):Str:=oD (Uz n)
noncomputable def ok1 (w:Str):Bool:=!(decide ((w.length:N3)<1)||(decide (2<(w.length:N3))||(decide ((w.length:N3)=2)&&(w.cps[0]? == ti 48))))
theorem jQ:∀ n<100,bx (br (n:N7))=ti n/\ok1 (br n)=vj/\(tl (br n)).all (λc=>decide (c∈cR))=true:=by decide +kernel
theorem BT:∀ a∈cR,(bx ⟨#[a]⟩).isSome=true:=by decide +kernel
theorem Bt:∀ a∈cR,∀ b∈cR,a≠48->(bx ⟨#[a,b]⟩).isSome=true:=by decide +kernel
noncomputable def p_choice_text:Fn:=⟨["choice"],
(.cons (.ite (.cmp .eq (.bi1 .len (.name "choice")) (.int 0))
(.cons (.ret (.str "-"))
.nil)
.nil)
(.cons (.ret (.sm .join (.str " ") (.comp (.bi1 .str (.name "thing")) "thing" (.e (.name "choice")))))
.nil))⟩
noncomputable def p_shown:Fn:=⟨["rule"],
(.cons (.ret (.bin .cat (.bin .cat (.bi1 .str (.attr (.name "rule") "count")) (.str ": ")) (.sm .join (.str ", ") (.comp (.call "choice_text" (.cons (.name "choice") .nil)) "choice" (.e (.attr (.name "rule") "full"))))))
.nil)⟩
noncomputable def p_number_of:Fn:=⟨["word"],
(.cons (.ite (.or (.cmp .lt (.bi1 .slen (.name "word")) (.int 1)) (.or (.cmp .gt (.bi1 .slen (.name "word")) (.int 2)) (.and (.cmp .eq (.bi1 .slen (.name "word")) (.int 2)) (.cmp .seq (.sat (.name "word") (.int 0)) (.str "0")))))
(.cons (.raise "NoRule")
.nil)
.nil)
(.cons (.for1 "sign" (.s (.name "word"))
(.cons (.ite (.cmp .snin (.name "sign") .fig)
(.cons (.raise "NoRule")
.nil)
.nil)
.nil))
(.cons (.ret (.bi1 .int (.name "word")))
.nil)))⟩
noncomputable def p_choice_of:Fn:=⟨["part"],
(.cons (.ite (.cmp .seq (.name "part") (.str "-"))
(.cons (.ret (.list .nil))
.nil)
.nil)
(.cons (.ret (.comp (.call "number_of" (.cons (.name "word") .nil)) "word" (.e (.sm .split (.name "part") (.str " ")))))
.nil))⟩
noncomputable def p_read:Fn:=⟨["text"],
(.cons (.assign "parts" (.sm .part (.name "text") (.str ": ")))
(.cons (.ite (.cmp .seq (.sub (.name "parts") (.int 1)) (.str ""))
(.cons (.raise "NoRule")
.nil)
.nil)
(.cons (.assign "count" (.call "number_of" (.cons (.sub (.name "parts") (.int 0)) .nil)))
(.cons (.ret (.call "Rule" (.cons (.name "count") (.cons (.comp (.call "choice_of" (.cons (.name "part") .nil)) "part" (.e (.sm .split (.sub (.name "parts") (.int 2)) (.str ", ")))) .nil))))
.nil))))⟩
noncomputable def kj:Fn:=⟨["_law_choice"],
(.cons (.ite (.cmp .eq (.name "_law_choice") (.list .nil))
(.cons (.ret (.str "-"))
.nil)
.nil)
(.cons (.ret (.sm .join (.str " ") (.comp (.bi1 .str (.name "_law_thing")) "_law_thing" (.e (.name "_law_choice")))))
.nil))⟩
noncomputable def l_number:Fn:=⟨["_law_word"],
(.cons (.ite (.or (.cmp .seq (.name "_law_word") (.str "")) (.or (.cmp .gt (.bi1 .slen (.name "_law_word")) (.int 2)) (.and (.cmp .eq (.bi1 .slen (.name "_law_word")) (.int 2)) (.cmp .seq (.sat (.name "_law_word") (.int 0)) (.str "0")))))
(.cons (.ret (.neg (.int 1)))
.nil)
.nil)
(.cons (.for1 "_law_sign" (.s (.name "_law_word"))
(.cons (.ite (.cmp .snin (.name "_law_sign") (.str "0123456789"))
(.cons (.ret (.neg (.int 1)))
.nil)
.nil)
.nil))
(.cons (.ret (.bi1 .int (.name "_law_word")))
.nil)))⟩
noncomputable def l_part:Fn:=⟨["_law_part_here"],
(.cons (.ite (.cmp .seq (.name "_law_part_here") (.str "-"))
(.cons (.ret (.list .nil))
.nil)
.nil)
(.cons (.ret (.comp (.call "_law_number" (.cons (.name "_law_word") .nil)) "_law_word" (.e (.sm .split (.name "_law_part_here") (.str " ")))))
.nil))⟩
noncomputable def mF:Fn:=⟨["_law_text"],
(.cons (.assign "_law_at" (.sm .find (.name "_law_text") (.str ": ")))
(.cons (.ite (.or (.cmp .lt (.name "_law_at") (.int 0)) (.or (.cmp .ge (.sm .find (.ssl vj (.name "_law_text") (.bin .add (.name "_law_at") (.int 1))) (.str ": ")) (.int 0)) (.cmp .lt (.call "_law_number" (.cons (.ssl NY (.name "_law_text") (.name "_law_at")) .nil)) (.int 0))))
(.cons (.ret .none)
.nil)
.nil)
(.cons (.assign "_law_table_here" (.comp (.call "_law_part" (.cons (.name "_law_part_here") .nil)) "_law_part_here" (.e (.sm .split (.ssl vj (.name "_law_text") (.bin .add (.name "_law_at") (.int 2))) (.str ", ")))))
(.cons (.for1 "_law_choice" (.e (.name "_law_table_here"))
(.cons (.ite (.cmp .isin (.neg (.int 1)) (.name "_law_choice"))
(.cons (.ret .none)
.nil)
.nil)
.nil))
(.cons (.ret (.tup (.cons (.call "_law_number" (.cons (.ssl NY (.name "_law_text") (.name "_law_at")) .nil)) (.cons (.name "_law_table_here") .nil))))
.nil)))))⟩
noncomputable def l_sound:Fn:=⟨["_law_count", "_law_choice"],
(.cons (.for1 "_law_k" (.r1 (.bi1 .len (.name "_law_choice")))
(.cons (.ite (.or (.cmp .ge (.sub (.name "_law_choice") (.name "_law_k")) (.name "_law_count")) (.cmp .isin (.sub (.name "_law_choice") (.name "_law_k")) (.shi (.name "_law_choice") (.name "_law_k"))))
(.cons (.ret (.bool NY))
.nil)
.nil)
.nil))
(.cons (.ret (.bool vj))
.nil))⟩
noncomputable def iK:Fn:=⟨["_law_told_here"],
(.cons (.ite (.cmp .is (.name "_law_told_here") .none)
(.cons (.ret (.int 1))
.nil)
.nil)
(.cons (.for1 "_law_choice" (.e (.sub (.name "_law_told_here") (.int 1)))
(.cons (.ite (.not (.call "_law_sound" (.cons (.sub (.name "_law_told_here") (.int 0)) (.cons (.name "_law_choice") .nil))))
(.cons (.ret (.int 2))
.nil)
.nil)
.nil))
(.cons (.ite (.cmp .isnot (.call "_law_fault" (.cons (.sub (.name "_law_told_here") (.int 0)) (.cons (.comp (.bi1 .sorted (.name "_law_choice")) "_law_choice" (.e (.sub (.name "_law_told_here") (.int 1)))) .nil))) .none)
(.cons (.ret (.int 3))
.nil)
.nil)
(.cons (.ret (.int 0))
.nil))))⟩
noncomputable def eK:Fn:=⟨["_law_text"],
(.cons (.tryS (.expr (.call "read" (.cons (.name "_law_text") .nil))) [("NoRule", .num 1),("NoThing", .num 2),("NoExchange", .num 3)])
(.cons (.ret (.int 0))
.nil))⟩
noncomputable def c9:Fn:=⟨["_law_text"],
(.cons (.tryS (.expr (.call "read" (.cons (.name "_law_text") .nil))) [("PickError", .nam "e" [.asg "_law_other" (.or (.isE "e" "NoChoice") (.or (.isE "e" "NoThing") (.isE "e" "NoExchange"))),.ret (.and (.isE "e" "NoRule") (.and (.not (.name "_law_other")) (.not (.isE "e" "NoWeights"))))])])
(.cons (.ret (.bool NY))
.nil))⟩
structure LibN (L:uq (If×Fn)):Prop extends LibQ L where
 nru:∃ f,L.lookup "NoRule" = ti f
 num:L.lookup "number_of" = ti p_number_of
 cho:L.lookup "choice_of" = ti p_choice_of
 read:L.lookup "read" = ti p_read
 ctx:L.lookup "choice_text" = ti p_choice_text
 shown:L.lookup "shown" = ti p_shown
 lnum:L.lookup "_law_number" = ti l_number
 lpart:L.lookup "_law_part" = ti l_part
 lsound:L.lookup "_law_sound" = ti l_sound
theorem nZ {w:Str}(h:bx w=ti n):n<100/\w=br n:=by
 unfold bx at h
 exact ⟨VT.mp (Qk h),(Oj.mp (Sv (p:=λn:N7=>oD (Uz (n:N3))==w) h)).symm⟩
theorem nO {w:Str}(h:ok1 w=vj):(∃ a,w=⟨#[a]⟩)\/∃ a b,w=⟨#[a,b]⟩/\a≠48:=by
 obtain ⟨⟨l⟩⟩:=w
 rcases l with _ | ⟨a,_ | ⟨b,_ | ⟨c,l⟩⟩⟩
 ·exact N5 h (by decide)
 ·exact .inl ⟨a,rfl⟩
 ·refine .inr ⟨a,b,rfl,λq=>?_⟩
  subst q
  exact N5 h (by simp[ok1,Jaa])
 ·refine N5 h ?_
  simp[ok1,Jaa]
  intro _ q; exact N5 q (by lia)
theorem vB (w:Str):(bx w).isSome=(ok1 w&&(tl w).all λc=>decide (c∈cR)):=by
 cases h:bx w with
 | some n=>
  obtain ⟨i,g⟩:=nZ h
  rw[g,(jQ n i).2.1,(jQ n i).2.2]; rfl
 | none=>
  cases i:ok1 w with
  | false=>rfl
  | true=>
   cases g:(tl w).all λc=>decide (c∈cR) with
   | false=>rfl
   | true=>
    have g:=Pm.mp g
    rcases nO i with ⟨a,rfl⟩ | ⟨a,b,rfl,h3⟩
    ·have:=BT a (Oy (g a (.head _)))
     rw[h] at this; exact this
    ·have:=Bt a (Oy (g a (.head _))) b (Oy (g b (.tail _ (.head _)))) h3
     rw[h] at this; exact this
def y9 (o:Out (St×Flw)):Prop:=∀ K:St->Out (St×Flw),(o.bind λr=>match r.2 with | .next=>K r.1 | .ret v=>.ok (r.1,.ret v))=o
theorem pK {C:Calls}{R b:Ss}{c:E}{σ:St}(hR:y9 (exs C R σ)) (he:ev C c σ = .ok (sB vj)):exs C (.cons (.ite c R .nil) b) σ=exs C R σ:=by
 rw[aE,fb he]; exact hR _
theorem pU {C:Calls}{R:Ss}{fg:E}{z:If}(hR:∀ σ,y9 (exs C R σ)) (hfg:∀ σ,ev C fg σ = .ok (sS figS)) {hs:uq (If×V)}(hz:∀ v,Sub ((z,v)::hs) hs):∀ (l:uq N7) (σ:St),Has σ hs ->
  ∃ σ',loopS (λy σ=>exs C (.cons (.ite (.cmp .snin (.name z) fg) R .nil) .nil) (upd σ z (mk (.d y)))) (l.map λc=>.str ⟨#[c]⟩) σ=(if (l.all λc=>decide (c∈cR))=vj then .ok (σ',.next) else exs C R σ')/\Has σ' hs
 | [],σ,H=>⟨σ,rfl,H⟩
 | c::l,σ,H=>by
  have H1:=H.mk z (.d (.str ⟨#[c]⟩))
  have e:=CP (C:=C) (H1.ev (x:=z) (bX _ _ _)) (hfg _)
  rw[Pe,loopS,Yt]
  by_cases h:c∈cR
  ·rw[OA h] at e ⊢
   rw[eB e,d9,YE]
   exact pU hR hfg hz l _ (H1.sub (hz _))
  ·rw[OC h] at e ⊢
   rw[pK (hR _) e,Bool.false_and]
   exact ⟨_,(hR _ _).trans (N0 Qo).symm,H1.sub (hz _)⟩
theorem rE {C:Calls}{R:Ss}{c fg:E}{x z:If}{w:Str}{σ:St}(hR:∀ σ,y9 (exs C R σ)) (hfg:∀ σ,ev C fg σ = .ok (sS figS)) (hxz:x≠z) (hw:w.length<=1000000) (H:Has σ [(x,.d (.str w))]) (hc:ev C c σ = .ok (sB !ok1 w)) :
  ∃ σ',exs C (.cons (.ite c R .nil) (.cons (.for1 z (.s (.name x)) (.cons (.ite (.cmp .snin (.name z) fg) R .nil) .nil)) (.cons (.ret (.bi1 .int (.name x))) .nil))) σ=(match bx w with | some n=>.ok (σ',.ret (sI n)) | none=>exs C R σ'):=by
 have g:=vB w
 cases h1:ok1 w with
 | false=>
  rw[h1] at hc g
  cases h:bx w with
  | some n=>rw[h] at g; cases g
  | none=>exact ⟨σ,pK (hR _) hc⟩
 | true=>
  rw[h1] at hc g
  rw[YE] at g
  have j:be C (.s (.name x)) σ = .ok ((tl w).map λc=>.str ⟨#[c]⟩,.deep):=by
   simp only[nC,H.ev (C:=C) (x:=x) (bX _ _ _),Out.ok_bind]
   show (if w.length<=lim then _ else _)=_
   rw[NZ (show w.length<=lim from hw)]; rfl
  obtain ⟨σ',e,H'⟩:=pU (z:=z) (hs:=[(x,.d (.str w))]) hR hfg (λv=>⟨(gT hxz ..).trans (bX ..),trivial⟩) (tl w) _ (H.consume (bD (.s (.name x))) .deep)
  refine ⟨σ',?_⟩
  rw[eB hc,aE,gp,j]
  simp only[Out.ok_bind]
  rw[e]
  cases h:bx w with
  | none=>
   rw[h] at g
   rw[N0 (by rw[<- g]; decide)]
   exact hR _ _
  | some n=>
   rw[h] at g
   rw[NZ (show vj=_ from g).symm,Out.ok_bind]
   show exs C (.cons (.ret (.bi1 .int (.name x))) .nil) σ' = _
   rw[aE,fo (r:=sI n)]
   ·rfl
   ·rw[dh (H'.ev (x:=x) (bX _ _ _))]
    show (am (bx w) λi=>Out.ok (sI i))=_
    rw[h]; rfl
theorem wk {w:Str}(H:Has σ [(x,.d (.str w))]) (hw:w.length<=1000000) (hA:ev C A σ = .ok (sB p)) (hp:p=decide ((w.length:N3)<1)) :
  ev C (.or A (.or (.cmp .gt (.bi1 .slen (.name x)) (.int 2)) (.and (.cmp .eq (.bi1 .slen (.name x)) (.int 2)) (.cmp .seq (.sat (.name x) (.int 0)) (.str "0"))))) σ = .ok (sB !ok1 w):=by
 have g:=H.ev (C:=C) (x:=x) (bX _ _ _)
 have i:=mj g
 unfold ok1
 rw[WI,<- hp]
 refine cX hA λ_=>cX (gZ i (ai 2)) λ_=>dT (cJ i (ai 2)) λq=>?_
 obtain ⟨c,h⟩:∃ c,(tl w)[0]? = ti c:=⟨_,Oh (by rw[bg]; have:=Oy q; lia)⟩
 refine (iT (sY g (ai 0) (by decide) hw h) (eG (t:=⟨#[48]⟩) (by decide +kernel))).trans ?_
 rw[show w.cps[0]? = ti c from (RJ ..).symm.trans h]
 by_cases q:c=48
 ·subst q; rfl
 ·rw[Pd.mpr (λe=>q (by cases e; rfl)),Pd.mpr (λe=>q (Gt e))]
noncomputable def fin (o:Out (St×Flw)):Out (V×Mode):=o.bind λr=>match r.2 with
 | .ret v=>.ok v
 | .next=>.ok (.d .none,.deep)
theorem fu {ps:uq If}(hl:ps.length=vs.length) (h:∀ σ,Has σ (ps.zip vs)->fin (exs C b σ)=o):ax C ⟨ps,b⟩ vs=o:=by
 refine ag (eg ps vs hl) λσ g H=>?_
 unfold ax
 rw[g]
 exact h σ H
theorem nX (hn:n∈excNames) (hC:C n=ti g) (σ:St):exs C (.cons (.raise n) .nil) σ = .exc n:=by
 refine hU ?_
 simp only[ed,hC,am]
 exact NZ hn
noncomputable def bq (w:Str):NX Int:=(bx w).map λn=>(n:N3)
noncomputable def orX (c:If) (f:α->Out (V×Mode)):NX α->Out (V×Mode)
 | some a=>f a
 | none=>.exc c
theorem kE (hC:C "NoRule" = ti g) (w:Str) (hw:w.length<=1000000):ax C p_number_of [.d (.str w)]=orX "NoRule" (λi=>.ok (sI i)) (bq w):=by
 unfold p_number_of
 refine fu rfl λh H=>?_
 obtain ⟨j,e⟩:=rE (C:=C) (R:=.cons (.raise "NoRule") .nil) (fg:=.fig) (z:="sign") (λh K=>by rw[nX (by decide) hC]; rfl) (λh=>mY ..) (by decide) hw H (wk H hw (jz (mj (H.ev (x:="word") rfl)) (ai 1)) rfl)
 rw[e,nX (by decide) hC]
 unfold bq
 cases bx w<;>rfl
theorem jk (C:Calls) (w:Str) (hw:w.length<=1000000):ax C l_number [.d (.str w)] = .ok (sI ((bq w).getD (-1))):=by
 have i:∀ g,exs C (.cons (.ret (.neg (.int 1))) .nil) g = .ok (g,.ret (sI (-1))):=λg=>by
  rw[aE,fo (r:=sI (-1))]
  ·rfl
  ·simp only[km,eN]; rfl
 unfold l_number
 refine fu rfl λg H=>?_
 obtain ⟨j,e⟩:=rE (C:=C) (R:=.cons (.ret (.neg (.int 1))) .nil) (fg:=.str "0123456789") (z:="_law_sign") (λg K=>by rw[i]; rfl) (λg=>rfl) (by decide) hw H (wk H hw (iT (H.ev (x:="_law_word") rfl) yN) (by
  by_cases q:w=⟨#[]⟩
  ·subst q; rfl
  ·rw[Pd.mpr q,OC]
   exact λh=>q (fz (PB (by rw[bg]; lia)))))
 rw[e,i]
 unfold bq
 cases bx w<;>rfl
noncomputable def bt (f:α->NX β):uq α->NX (uq β)
 | []=>ti []
 | a::l=>(f a).bind λb=>(bt f l).map (b :: ·)
theorem lm {α β:Type}{f:α->NX β}{g:α->β}{bad:β->Prop}(h:∀ a,(f a=NI/\bad (g a))\/(f a=ti (g a)/\¬ bad (g a))):∀ l:uq α,(bt f l=NI/\∃ b∈l.map g,bad b)\/(bt f l=ti (l.map g)/\∀ b∈l.map g,¬ bad b)
 | []=>.inr ⟨rfl,λ_ h=>nomatch h⟩
 | a::l=>by
  rw[show bt f (a::l)=(f a).bind λb=>(bt f l).map (b :: ·) from rfl]
  rcases h a with ⟨h1,h2⟩ | ⟨h1,h2⟩
  ·exact .inl ⟨by rw[h1]; rfl,_,.head _,h2⟩
  ·rw[h1,R8]
   rcases lm h l with ⟨h3,b,i,h4⟩ | ⟨h3,h4⟩
   ·exact .inl ⟨by rw[h3]; rfl,b,.tail _ i,h4⟩
   ·exact .inr ⟨by rw[h3]; rfl,λb i=>(Ou.mp i).elim (λe=>e▸h2) (h4 b)⟩
theorem sA {α β:Type}{F:N9->Out (NX (V×Mode))}{e:α->N9}{g:β->N9}{f:α->NX β}{c:If}:∀ {l:uq α},(∀ i∈l,F (e i)=(orX c (λy=>.ok (.d (g y),.deep)) (f i)).bind λr=>.ok (ti r))->bj F (l.map e)=(match bt f l with | some ys=>.ok (ys.map g,vj) | none=>.exc c)
 | [],_=>rfl
 | i::l,h=>by
  rw[Pe,bj,h i (.head _),sA λj k=>h j (.tail _ k)]
  rw[show bt f (i::l)=(f i).bind λb=>(bt f l).map (b :: ·) from rfl]
  cases f i with
  | none=>rfl
  | some y=>cases bt f l<;>rfl
theorem r5 {C:Calls}{σ:St}{a:E}{α β:Type}{e:α->N9}{l:uq α}{z:If}{it:It}{q:Mode}{g:β->N9}{f:α->NX β}{c:If}(h:be C it σ = .ok (l.map e,q)) (hc:∀ i∈l,ev C a (upd σ z (mk (.d (e i))))=orX c (λy=>.ok (.d (g y),.deep)) (f i)):ev C (.comp a z it) σ=orX c (λys=>.ok (.d (.list (ys.map g)),.deep)) (bt f l):=by
 simp only[iP,h,Out.ok_bind]
 rw[sA (F:=λy=>(ev C a (upd σ z (mk (.d y)))).bind λr=>.ok (ti r)) (e:=e) (g:=g) (f:=f) (c:=c) λi j=>by rw[hc i j]]
 cases bt f l<;>rfl
section
theorem ny (lib:LibN L) (n:N7):∃ g,mkC L (n+1) "NoRule" = ti g:=iU lib.nru
end
noncomputable def bf (p:Str):NX (uq N3):=if (p==da)=vj then ti [] else bt bq (Txt.split p sp)
noncomputable def ew (p:Str):uq Int:=if (p==da)=vj then [] else (Txt.split p sp).map λw=>(bq w).getD (-1)
theorem qz (w:Str):(bq w=NI/\(bq w).getD (-1) = -1)\/(bq w=ti ((bq w).getD (-1))/\¬ (bq w).getD (-1) = -1):=by
 unfold bq
 cases bx w with
 | none=>exact .inl ⟨rfl,rfl⟩
 | some n=>exact .inr ⟨rfl,λq=>by have:(n:N3) = -1:=q; lia⟩
theorem o0 (p:Str):(bf p=NI/\-1∈ew p)\/(bf p=ti (ew p)/\¬ -1∈ew p):=by
 unfold bf ew
 by_cases h:(p==da)=vj
 ·rw[NZ h,NZ h]; exact .inr ⟨rfl,λq=>nomatch q⟩
 ·rw[N0 h,N0 h]
  rcases lm (f:=bq) (g:=λw=>(bq w).getD (-1)) (bad:=(· = -1)) qz (Txt.split p sp) with ⟨h1,b,h2,h3⟩ | ⟨h1,h2⟩
  ·exact .inl ⟨h1,h3▸h2⟩
  ·exact .inr ⟨h1,λq=>h2 _ q rfl⟩
theorem ff {x y w:Str}(hx:x.length<1000000) (h:w∈Txt.split x y):w.length<1000000:=N4 (SL h) hx
theorem rU (lib:LibN L) (n:N7) (p:Str) (hp:p.length<1000000):ax (mkC L (n+2)) p_choice_of [.d (.str p)]=orX "NoRule" (λr=>.ok (.d (aa r),.deep)) (bf p):=by
 refine al (ny lib n) λg k=>?_
 unfold p_choice_of bf
 refine fu rfl λm H=>?_
 have i:=iT (C:=mkC L (n+2)) (H.ev (x:="part") rfl) tE
 cases h:(p==da) with
 | true=>
  rw[h] at i
  rw[aE,fb i,aE,fo pk]
  rfl
 | false=>
  rw[h] at i
  rw[eB i,aE,iy]
  rw[r5 (e:=Wz) (l:=Txt.split p sp) (g:=Oz) (f:=bq) (c:="NoRule") (aD (jV (H.ev (x:="part") rfl) xV rfl hp) rfl) λw j=>(aZ lib.num (ak ((Has.nil.mk "word" (.d (.str w))).ev rfl) av)).trans (kE k w (Oq (ff hp j)))]
  show _=orX "NoRule" _ (bt bq (Txt.split p sp))
  cases bt bq (Txt.split p sp)<;>rfl
theorem tm (lib:LibN L) (n:N7) (p:Str) (hp:p.length<1000000):ax (mkC L (n+1)) l_part [.d (.str p)] = .ok (.d (aa (ew p)),.deep):=by
 unfold l_part ew
 refine fu rfl λk H=>?_
 have i:=iT (C:=mkC L (n+1)) (H.ev (x:="_law_part_here") rfl) tE
 cases h:(p==da) with
 | true=>
  rw[h] at i
  rw[aE,fb i,aE,fo pk]
  rfl
 | false=>
  rw[h] at i
  rw[eB i,aE,fo (io (g:=Wz) (l:=Txt.split p sp) (λw=>(bq w).getD (-1)) (aD (jV (H.ev (x:="_law_part_here") rfl) xV rfl hp) rfl) λw j=>(aZ lib.lnum (ak ((Has.nil.mk "_law_word" (.d (.str w))).ev rfl) av)).trans (jk _ w (Oq (ff hp j))))]
  rfl
noncomputable def a6 (t:Str) (i:N7):Str:=Rt t (i+2) t.length
noncomputable def readS (t:Str):NX (N7×uq (uq N3)):=match Tz t co 0 t.length 1 with
 | []=>NI
 | i::_=>(bx (Rt t 0 i)).bind λc=>(bt bf (Txt.split (a6 t i) cs)).map λr=>(c,r)
theorem sub_short (t:Str) (i j:N7):(Rt t i j).length<=t.length:=U7 t i j
theorem yU (hn:fA e=NY) (he:ev C e σ = .exc c):exs C (.cons (.assign x e) b) σ = .exc c:=by
 refine hU ?_
 rw[cS,show evA C e σ = .exc c by unfold evA; rw[hn,N0 Qo,he]]; rfl
theorem nR (lib:LibN L) (n:N7) (t:Str) (ht:t.length<1000000):ax (mkC L (n+3)) p_read [.d (.str t)]=orX "NoRule" (λq=>ck (mkC L (n+2)) p_Rule [.d (.int q.1),.d (af q.2)]) (readS t):=by
 unfold p_read
 refine fu rfl λσ H=>?_
 refine al (ny lib (n+2)) λg hC=>?_
 refine al (ny lib (n+1)) λg' v=>?_
 rw[hM (C6 (H.ev (x:="text") rfl) tZ ht)]
 have H1:=(H.consume (fv (.sm .part (.name "text") (.str ": "))) .deep).upd "parts" (.d (.tuple (fQ t co))) .deep
 dsimp only
 generalize upd (consume σ (fv (.sm .part (.name "text") (.str ": "))) .deep) "parts" (.d (.tuple (fQ t co)),.deep)=j at H1
 have h:=H1.ev (C:=mkC L (n+3)) (x:="parts") rfl
 unfold readS
 unfold fQ RC at h
 cases ho:Tz t co 0 t.length 1 with
 | nil=>
  rw[ho] at h
  rw[wl (by decide) hC (iT (iX h (ai 1)) yN)]
  rfl
 | cons i r=>
  rw[ho] at h
  dsimp only at h ⊢
  rw[eB ((iT (iX h (ai 1)) yN).trans rfl)]
  have o:ev (mkC L (n+3)) (.call "number_of" (.cons (.sub (.name "parts") (.int 0)) .nil)) j=orX "NoRule" (λi=>.ok (sI i)) (bq (Rt t 0 i)):=(aZ lib.num (ak (kl h (ai 0)) av)).trans (kE v _ (Oq (N4 (sub_short ..) ht)))
  unfold bq at o
  cases hn:bx (Rt t 0 i) with
  | none=>
   rw[hn] at o
   rw[yU rfl o]
   rfl
  | some c=>
   rw[hn] at o
   rw[hM (r:=sI c) o]
   have H2:=(H1.consume (fv (.call "number_of" (.cons (.sub (.name "parts") (.int 0)) .nil))) .deep).upd "count" (.d (.int c)) .deep
   have k:=H2.ev (C:=mkC L (n+3)) (x:="parts") rfl
   unfold fQ RC at k
   rw[ho] at k
   dsimp only at k
   show fin (exs _ _ (upd (consume j (fv (.call "number_of" (.cons (.sub (.name "parts") (.int 0)) .nil))) .deep) "count" (.d (.int c),.deep)))=_
   generalize upd (consume j (fv (.call "number_of" (.cons (.sub (.name "parts") (.int 0)) .nil))) .deep) "count" (.d (.int c),.deep)=σ2 at H2 k
   have y:(a6 t i).length<1000000:=N4 (sub_short ..) ht
   have u:=r5 (a:=.call "choice_of" (.cons (.name "part") .nil)) (z:="part") (e:=Wz) (l:=Txt.split (a6 t i) cs) (g:=aa) (f:=bf) (c:="NoRule") (aD (jV (x:=a6 t i) (I7 k (ai 2)) xK rfl y) rfl) λp h=>(aZ lib.cho (ak ((Has.nil.mk "part" (.d (.str p))).ev rfl) av)).trans (rU lib n p (ff y h))
   rw[aE,iy]
   have m:mkC L (n+3) "Rule" = ti λvs=>iZ "Rule" (mkC L (n+2)) p_Rule vs:=jt lib.rule
   rw[R8]
   cases ha:bt bf (Txt.split (a6 t i) cs) with
   | none=>
    rw[ha] at u
    simp only[iM,m,bw,H2.ev (C:=mkC L (n+3)) (x:="count") rfl,u,Out.ok_bind]
    rfl
   | some rs=>
    rw[ha] at u
    rw[mO m (ak (H2.ev (x:="count") rfl) (ak u av))]
    show fin (((ck (mkC L (n+2)) p_Rule [.d (.int c),.d (af rs)]).bind _).bind _)=ck (mkC L (n+2)) p_Rule [.d (.int c),.d (af rs)]
    cases ck (mkC L (n+2)) p_Rule [.d (.int c),.d (af rs)]<;>rfl
theorem jl {α β:Type}{f:α->NX β}:∀ {l:uq α}{a:α},a∈l->f a=NI->bt f l=NI
 | b::l,a,h,hf=>by
  rw[show bt f (b::l)=(f b).bind λy=>(bt f l).map (y :: ·) from rfl]
  rcases Ou.mp h with rfl | h
  ·rw[hf]; rfl
  ·rw[jl h hf]; cases f b<;>rfl
theorem wm {w:Str}(h:58∈tl w):bq w=none:=by
 unfold bq
 have:=vB w
 cases q:bx w with
 | none=>rfl
 | some n=>
  rw[q] at this
  exact N5 (Oy (Pm.mp (Qf.mp (show _=vj from this.symm)).2 58 h)) (by decide)
theorem qE (h:58∈tl p):bf p=none:=by
 unfold bf
 have:(p==da)=false:=Pd.mpr λq=>by rw[q] at h; revert h; decide
 rw[this,N0 Qo]
 refine ag (oG (y:=sp) h (by decide)) λw g i=>?_
 exact jl g (wm i)
theorem yd {C:Calls}{b:Ss}{σ:St}{P:V×Mode->Prop}(h:Runs C b σ (λ_ fl=>∃ r,fl = .ret r/\P r)):∃ r,fin (exs C b σ) = .ok r/\P r:=by
 obtain ⟨g,fl,e,r,rfl,i⟩:=h
 exact ⟨r,by rw[e]; rfl,i⟩
theorem A9 {C:Calls}{ps:uq If}{b:Ss}{vs:uq V}{P:V×Mode->Prop}(hl:ps.length=vs.length) (h:∀ σ,Has σ (ps.zip vs)->∃ r,fin (exs C b σ) = .ok r/\P r):∃ r,ax C ⟨ps,b⟩ vs = .ok r/\P r:=by
 refine ag (eg ps vs hl) λσ g H=>?_
 refine ag (h σ H) λr j i=>⟨r,?_,i⟩
 unfold ax
 rw[g]
 exact j
noncomputable def lrV:NX (N7×uq (uq N3))->N9
 | none=>.none
 | some q=>.tuple [.int q.1,af q.2]
theorem te (lib:LibN L) (n:N7) (t:Str) (ht:t.length<1000000):∃ r,ax (mkC L (n+2)) mF [.d (.str t)] = .ok r/\r.1 = .d (lrV (readS t)):=by
 have ht':=Oq ht
 unfold mF
 refine A9 rfl λv H=>?_
 rw[hM (vH (H.ev (x:="_law_text") rfl) tZ)]
 have H1:=(H.consume (fv (.sm .find (.name "_law_text") (.str ": "))) .deep).upd "_law_at" (.d (.int (SR t co))) .deep
 show ∃ r,fin (exs _ _ (upd (consume v (fv (.sm .find (.name "_law_text") (.str ": "))) .deep) "_law_at" (.d (.int (SR t co)),.deep))) = .ok r/\_
 generalize upd (consume v (fv (.sm .find (.name "_law_text") (.str ": "))) .deep) "_law_at" (.d (.int (SR t co)),.deep)=σ1 at H1
 have htx:=H1.ev (C:=mkC L (n+2)) (x:="_law_text") rfl
 have j:∀ {v:St}{b:Ss}{c:E},ev (mkC L (n+2)) c v = .ok (sB vj)->fin (exs (mkC L (n+2)) (.cons (.ite c (.cons (.ret .none) .nil) .nil) b) v) = .ok (.d .none,.deep):=λh=>by
  rw[aE,fb h,aE,fo di]; rfl
 rcases Tj t co 1 (Ow _) with ⟨ho,_⟩ | ⟨i,r,ho,hA,_⟩
 ·unfold SR at H1
  unfold readS
  rw[ho] at H1 ⊢
  exact ⟨_,j (mV ((jz (x:=-1) (H1.ev (x:="_law_at") rfl) (ai 0)).trans rfl)),rfl⟩
 ·have hf:SR t co=i:=by unfold SR; rw[ho]
  rw[hf] at H1
  have hat:=H1.ev (C:=mkC L (n+2)) (x:="_law_at") rfl
  refine ae (sub_at.mp hA) λu hd=>?_
  replace u:i+2<=t.length:=u
  have hdr:(tl t).drop i=58::32::(tl t).drop (i+2):=by
   have e:=Pj 2 ((tl t).drop i)
   rw[show ((tl t).drop i).take 2=[58,32] from hd,R5] at e
   exact e.symm
  have hR:readS t=(bx (Rt t 0 i)).bind λc=>(bt bf (Txt.split (a6 t i) cs)).map λr=>(c,r):=by unfold readS; rw[ho]
  obtain ⟨z,ez,hz⟩:=mC (i:=i+1) htx (bU hat (ai 1)) ht' (P3 u)
  obtain ⟨y,ey,hy⟩:=zc (i:=i) htx hat ht' (P3 (P3 u))
  obtain rfl:y=Rt t 0 i:=fz (hy.trans (mP t i).symm)
  have hyl:(Rt t 0 i).length<=1000000:=vc (sub_short ..) ht'
  have en:∀ {v:St},ev (mkC L (n+2)) (.ssl NY (.name "_law_text") (.name "_law_at")) v = .ok (sS (Rt t 0 i))->ev (mkC L (n+2)) (.call "_law_number" (.cons (.ssl NY (.name "_law_text") (.name "_law_at")) .nil)) v = .ok (sI ((bq (Rt t 0 i)).getD (-1))):=λh=>(aZ lib.lnum (ak h av)).trans (jk _ _ hyl)
  have ec:=cX (C:=mkC L (n+2)) (jz hat (ai 0)) λ_=>cX (y0 (vH ez tZ) (ai 0)) λ_=>jz (en ey) (ai 0)
  by_cases h1:(0:N3)<=SR z co
  ·rw[OA h1,Bool.true_or,U3] at ec
   refine ⟨_,j ec,?_⟩
   have hm:58∈tl z:=by
    rcases Tj z co 1 (Ow _) with ⟨hn,_⟩ | ⟨k,r,_,hk,_⟩
    ·unfold SR at h1; rw[hn] at h1; exact N5 h1 (by decide)
    ·have:=(sub_at.mp hk).2
     exact Ry (Qg (by rw[this]; exact .head _))
   have hm2:58∈tl (a6 t i):=by
    unfold a6
    rw[ky]
    have e:=PG (VW 1) hdr
    rw[R5] at e
    rw[hz,e] at hm
    exact (Ou.mp hm).resolve_left (by decide)
   refine ag (oG (y:=cs) hm2 (by decide)) λp hp hc=>?_
   rw[hR,jl hp (qE hc)]
   cases bx (Rt t 0 i)<;>rfl
  ·rw[OC h1,Wc,OC (show ¬ (i:N3)<0 from Q1.mpr (Ot _)),Wc] at ec
   cases hn:bx (Rt t 0 i) with
   | none=>
    rw[show (bq (Rt t 0 i)).getD (-1) = -1 by unfold bq; rw[hn]; rfl] at ec
    exact ⟨_,j ec,by rw[hR,hn]; rfl⟩
   | some c=>
    have hc:(bq (Rt t 0 i)).getD (-1)=c:=by unfold bq; rw[hn]; rfl
    rw[hc,OC (show ¬ (c:N3)<0 from Q1.mpr (Ot _))] at ec
    rw[eB ec]
    have hrl:(a6 t i).length<1000000:=N4 (sub_short ..) ht
    obtain ⟨z2,ez2,hz2⟩:=mC (i:=i+2) htx (bU hat (ai 2)) ht' u
    obtain rfl:z2=a6 t i:=fz (hz2.trans (ky t (i+2)).symm)
    have et:=nL (C:=mkC L (n+2)) (a:=.call "_law_part" (.cons (.name "_law_part_here") .nil)) (z:="_law_part_here") (e:=Wz) (l:=Txt.split (a6 t i) cs) (λp=>aa (ew p)) (aD (jV ez2 xK rfl hrl) rfl) λp hp=>(aZ lib.lpart (ak ((Has.nil.mk "_law_part_here" (.d (.str p))).ev rfl) av)).trans (tm lib n p (ff hrl hp))
    rw[show (Txt.split (a6 t i) cs).map (λp=>aa (ew p))=((Txt.split (a6 t i) cs).map ew).map aa by rw[U4]; rfl] at et
    refine yd (Runs.set H1 et λσ2 H2 _=>?_)
    have key:=lm (f:=bf) (g:=ew) (bad:=λr=>-1∈r) o0 (Txt.split (a6 t i) cs)
    generalize (Txt.split (a6 t i) cs).map ew=rows at H2 key
    generalize bt bf (Txt.split (a6 t i) cs)=o at hR key
    rw[hn] at hR
    refine Runs.seek (g:=aa) (xs:=rows) (λv=>Has v [("_law_table_here", .d (af rows)),("_law_at", .d (.int i)),("_law_text", .d (.str t))]) (λr=>if -1∈r then ti () else NI) (λ_=>(.d .none,.deep)) (aD (H2.ev (x:="_law_table_here") rfl) (aH rows .sh)) (λσ0 h _=>(h _ H2).sub ⟨rfl,rfl,rfl,trivial⟩) (λr hr v H=>?_) (λq σ' H=>?_) λuu q σ'=>?_
    ·have H3:=H.mk "_law_choice" (.d (aa r))
     refine Runs.ite (pM (x:=-1) (by simp only[km,eN]; rfl) (H3.ev (x:="_law_choice") rfl)) (λq=>Runs.ret di (Cont.ret (Sk.ret (q:=()) (NZ (Oy q))))) λq=>Runs.nil (Runs.nil (Sk.next (N0 (Qq q)) (H3.sub ⟨rfl,rfl,rfl,trivial⟩)))
    ·rcases key with ⟨_,r,hr,hb⟩ | ⟨ho',_⟩
     ·have:=O1.mp q r hr
      rw[NZ hb] at this; cases this
     ·obtain ⟨y',ey',hy'⟩:=zc (i:=i) (H.ev (C:=mkC L (n+2)) (x:="_law_text") rfl) (H.ev (x:="_law_at") rfl) ht' (P3 (P3 u))
      obtain rfl:y' = Rt t 0 i:=fz (hy'.trans (mP t i).symm)
      refine cC ((en ey').trans (by rw[hc])) (H.ev (x:="_law_table_here") rfl) λm e=>Runs.ret e ⟨_,rfl,?_⟩
      rw[hR,ho']; rfl
    ·rcases key with ⟨ho',_⟩ | ⟨_,hg⟩
     ·exact ⟨_,rfl,by rw[hR,ho']; rfl⟩
     ·have:rows.findSome? (λr=>if -1∈r then ti () else NI)=none:=O1.mpr λr hr=>N0 (hg r hr)
      rw[this] at q; cases q
noncomputable def mz (c:N7) (r:uq N3):Bool:=@decide (Good c r) (Ra _)
theorem sC {c:N7}{r:uq N3}(h:Good c r):mz c r=true:=@OA _ (Ra _) h
theorem Cm {c:N7}{r:uq N3}(h:¬ Good c r):mz c r=false:=@OC _ (Ra _) h
theorem D6 (ha:ev C a σ = .ok (.d (aa xs),m)) (hb:ev C b σ = .ok (sI i)) (h0:0<=i) (h:i<2^62):ev C (.shi a b) σ = .ok (.d (aa (xs.take i.toNat)),.deep):=by
 simp only[nx,ha,hb,Out.ok_bind]
 show (if 0<=i/\i<2^62 then Out.ok (V.d (.list ((xs.map Oz).take i.toNat)),fresh ((xs.map Oz).take i.toNat)) else .bad)=_
 rw[NZ ⟨h0,h⟩,<- List.map_take,gS]; rfl
noncomputable def mK (c:N7) (r:uq N3) (k:N3):Bool:=decide ((c:N3)<=r[k.toNat]?.getD 0)||decide (r[k.toNat]?.getD 0∈r.take k.toNat)
theorem pF (h0:∀ x∈r,0<=x):(∀ k∈a0 r.length,mK c r k=NY)↔Good c r:=by
 have l:∀ i (g:i<r.length),mK c r i=NY↔r[i]<c/\r[i]∉r.take i:=λi g=>by
  unfold mK
  rw[RM,Oh g,UE,RB,QA,QA,Vx]
 constructor
 ·intro h
  have p:∀ i (g:i<r.length),r[i]<c/\r[i]∉r.take i:=λi g=>(l i g).mp (h i (mem_upTo.mpr ⟨Ot _,Qu.mpr g⟩))
  refine ⟨λx o=>⟨h0 x o,?_⟩,R9.mpr λi j g m n q=>(p j m).2 ?_⟩
  ·obtain ⟨i,g,e⟩:=Q9 o
   rw[<- e]; exact (p i g).1
  ·rw[<- q]; exact Ua.mpr ⟨i,Yn.mpr ⟨n,g⟩,rfl⟩
 ·intro h k hk
  obtain ⟨u,t⟩:=mem_upTo.mp hk
  obtain ⟨i,rfl⟩:=UR u
  have g:=Qu.mp t
  refine (l i g).mpr ⟨(h.1 _ (R4 g)).2,λq=>?_⟩
  obtain ⟨j,m,e⟩:=Ua.mp q
  exact R9.mp h.2 j i (Yn.mp m).2 g (Yn.mp m).1 e
theorem uQ (C:Calls) (c:N7) (r:uq N3) (h0:∀ x∈r,0<=x) (hl:r.length<=1000000):ax C l_sound [.d (.int c),.d (aa r)] = .ok (sB (mz c r)):=by
 unfold l_sound
 refine cW rfl λl H=>?_
 refine Runs.seek (g:=Oz) (xs:=a0 r.length) (λl=>Has l [("_law_count", .d (.int c)),("_law_choice", .d (aa r))]) (λk=>if mK c r k=vj then ti () else NI) (λ_=>sB NY) (bO (dP (H.ev (x:="_law_choice") rfl)) hl) (λn h _=>(h _ H).sub ⟨rfl,rfl,trivial⟩) (λk hk l H=>?_) (λq j _=>Runs.ret (dM vj) ?_) λuu q j=>?_
 ·have i:=mem_upTo.mp hk
  have H1:=H.mk "_law_k" (.d (.int k))
  have m:=gy (C:=C) (H1.ev (x:="_law_choice") rfl) (H1.ev (x:="_law_k") rfl) i.1 (getD_some (by lia))
  refine Runs.ite (t:=mK c r k) (cX (y0 m (H1.ev (x:="_law_count") rfl)) λ_=>pM m (D6 (H1.ev (x:="_law_choice") rfl) (H1.ev (x:="_law_k") rfl) i.1 (by lia))) (λq=>Runs.ret (dM NY) (Cont.ret (Sk.ret (q:=()) (NZ q)))) λq=>Runs.nil (Runs.nil (Sk.next (N0 (by rw[q]; decide)) (H1.sub ⟨rfl,rfl,trivial⟩)))
 ·have:Good c r:=(pF h0).mp λk hk=>by
   have:=O1.mp q k hk
   cases e:mK c r k with
   | false=>rfl
   | true=>rw[NZ e] at this; cases this
  rw[sC this]
 ·have:¬ Good c r:=λg=>by
   rw[O1.mpr λk hk=>N0 (by rw[(pF h0).mpr g k hk]; decide)] at q
   cases q
  rw[Cm this]
theorem xu (n:N7):ax (mkC L n) iK [.d .none] = .ok (sI 1):=by
 unfold iK
 refine cW rfl λg H=>Runs.ite (t:=vj) (a9 (H.ev (x:="_law_told_here") rfl) di rfl) (λ_=>Runs.ret (ai 1) rfl) λq=>nomatch q
noncomputable def KU (c:N7) (t:uq (uq N3)) (k:N3):Prop:=(¬ (∀ r∈t,Good c r)/\k=2)\/((∀ r∈t,Good c r)/\¬ NoF c (t.map aU)/\k=3)\/((∀ r∈t,Good c r)/\NoF c (t.map aU)/\k=0)
theorem y7 {L:uq (If×Fn)}(lib:LibN L) (n:N7) (c:N7) (t:uq (uq N3)) (hc:c<=99) (h0:∀ r∈t,(∀ x∈r,0<=x)/\r.length<=1000000):∃ r,ax (mkC L (n+2)) iK [.d (.tuple [.int c,af t])] = .ok r/\∃ k,r=sI k/\KU c t k:=by
 unfold iK
 refine cu rfl λσ H=>?_
 refine Runs.no (a9 (t:=NY) (H.ev (x:="_law_told_here") rfl) di rfl) ?_
 have made:∀ {σ:St},Has σ [("_law_told_here", .d (.tuple [.int c,af t]))]->ev (mkC L (n+2)) (.sub (.name "_law_told_here") (.int 0)) σ = .ok (sI c)/\ev (mkC L (n+2)) (.sub (.name "_law_told_here") (.int 1)) σ = .ok (.d (af t),.sh):=λH=>⟨kl (m:=.sh) (H.ev (v:=.d (.tuple [.int c,af t])) rfl) (ai 0),iX (m:=.sh) (H.ev (v:=.d (.tuple [.int c,af t])) rfl) (ai 1)⟩
 refine Runs.seek (g:=aa) (xs:=t) (λσ=>Has σ [("_law_told_here", .d (.tuple [.int c,af t]))]) (λr=>if mz c r=vj then NI else ti ()) (λ_=>sI 2) (aD (made H).2 (aH t .sh)) (λσ0 h _=>(h _ H).sub ⟨rfl,trivial⟩) (λr hr σ H=>?_) (λq σ' H=>?_) λuu q σ'=>?_
 ·have H1:=H.mk "_law_choice" (.d (aa r))
  refine Runs.ite (du (dH lib.lsound (ak (made (H1.sub ⟨rfl,trivial⟩)).1 (ak (H1.ev (x:="_law_choice") rfl) av)) rfl (uQ _ c r (h0 r hr).1 (h0 r hr).2))) (λq=>Runs.ret (ai 2) (Cont.ret (Sk.ret (q:=()) (N0 (by rw[P8] at q; rw[q]; decide))))) λq=>Runs.nil (Runs.nil (Sk.next (NZ (by rw[Bool.not_eq_false'] at q; exact q)) (H1.sub ⟨rfl,trivial⟩)))
 ·have hg:∀ r∈t,Good c r:=λr hr=>by
   have:=O1.mp q r hr
   by_cases e:mz c r=vj
   ·exact @Oy _ (Ra _) e
   ·rw[N0 e] at this; cases this
  have lg:∀ r∈t,Lg r:=λr hr=>⟨N4 (vc (hg r hr).len hc) (by decide),(h0 r hr).1⟩
  refine ar (cr (C:=mkC L (n+2)) (σ:=σ') (g:=aa) (l:=t) (z:="_law_choice") (it:=.e (.sub (.name "_law_told_here") (.int 1))) (a:=.bi1 .sorted (.name "_law_choice")) aU .deep (aD (made H).2 (aH t .sh)) λr hr'=>fw ((Has.nil.mk "_law_choice" (.d (aa r))).ev rfl) (Q2 (lg r hr').1) (lg r hr').2) λm1 e1 _ _=>?_
  have ef:=dH lib.lfault (ak (made H).1 (ak e1 av)) rfl (kW lib.toLib n c (t.map aU) (vc hc (by decide)) λr hr=>by
   refine aB hr λr' h1 MC=>?_
   subst MC
   exact ⟨by rw[(cT r').length_eq]; exact (lg r' h1).1,λi hi=>(lg r' h1).2 i ((cT r').mem_iff.mp hi)⟩)
  cases hf:cN c (t.map aU) with
  | none=>
   rw[hf] at ef
   exact Runs.no (a9 (t:=NY) ef di rfl) (Runs.ret (ai 0) ⟨_,rfl,0,rfl,.inr (.inr ⟨hg,fault_none.mp hf,rfl⟩)⟩)
  | some q=>
   rw[hf] at ef
   exact Runs.ite (t:=vj) (a9 (mx:=.sh) ef di rfl) (λ_=>Runs.ret (ai 3) ⟨_,rfl,3,rfl,.inr (.inl ⟨hg,λnf=>(by rw[fault_none.mpr nf] at hf; cases hf),rfl⟩)⟩) λq=>nomatch q
 ·refine ⟨_,rfl,2,rfl,.inl ⟨λhg=>?_,rfl⟩⟩
  rw[O1.mpr λr hr=>NZ (sC (hg r hr))] at q
  cases q
structure LibX (L:uq (If×Fn)):Prop extends LibN L where
 exc:∀ x∈excNames,∃ f,L.lookup x=ti f
theorem ig (lib:LibX L) (n:N7) (hx:x∈excNames):∃ g,mkC L (n+1) x=ti g:=iU (lib.exc x hx)
theorem vp (lib:LibX L) (n:N7) (t:Str) (ho:ax (mkC L n) p_read [.d (.str t)]=o) :
  ((∃ r,o = .ok r)->ax (mkC L (n+1)) eK [.d (.str t)] = .ok (sI 0))/\(o = .exc "NoRule" -> ax (mkC L (n+1)) eK [.d (.str t)] = .ok (sI 1)) /\
  (o = .exc "NoThing" -> ax (mkC L (n+1)) eK [.d (.str t)] = .ok (sI 2))/\(o = .exc "NoExchange" -> ax (mkC L (n+1)) eK [.d (.str t)] = .ok (sI 3)):=by
 obtain ⟨p,k⟩:=ig lib n (x:="NoRule") (by decide)
 obtain ⟨m,j⟩:=ig lib n (x:="NoThing") (by decide)
 obtain ⟨l,i⟩:=ig lib n (x:="NoExchange") (by decide)
 have h:∀ {g:St},Has g [("_law_text", .d (.str t))]->ev (mkC L (n+1)) (.call "read" (.cons (.name "_law_text") .nil)) g=o:=λH=>(aZ lib.read (ak (H.ev (x:="_law_text") rfl) av)).trans ho
 unfold eK
 refine ⟨λq=>?_,λq=>?_,λq=>?_,λq=>?_⟩
 ·obtain ⟨r,q⟩:=q
  refine fu rfl λg H=>?_
  rw[aE,fY,dy,h H,q]
  show fin (exs (mkC L (n+1)) (.cons (.ret (.int 0)) .nil) _)=_
  rw[aE,fo (ai 0)]; rfl
 all_goals
  refine fu rfl λg H=>?_
  rw[aE,fY,dy,h H,q]
  simp only[Out.exc_bind,orH,jA,k,j,i,am]
  rfl
theorem pV (lib:LibX L) (n:N7) (t:Str) (ho:ax (mkC L n) p_read [.d (.str t)] = .exc "NoRule"):ax (mkC L (n+1)) c9 [.d (.str t)] = .ok (sB vj):=by
 have h:∀ x∈excNames,∃ g,gd (mkC L (n+1)) x=ti g:=λx h=>al (ig lib n h) λg k=>⟨g,(NZ h).trans k⟩
 obtain ⟨g0,y⟩:=ig lib n (x:="PickError") (by decide)
 obtain ⟨g1,v⟩:=h "NoRule" (by decide)
 obtain ⟨g2,u⟩:=h "NoThing" (by decide)
 obtain ⟨g3,q⟩:=h "NoExchange" (by decide)
 obtain ⟨g4,p⟩:=h "NoChoice" (by decide)
 obtain ⟨g5,o⟩:=h "NoWeights" (by decide)
 unfold c9
 refine fu rfl λi H=>?_
 rw[aE,fY,dy,(aZ lib.read (ak (H.ev (x:="_law_text") rfl) av)).trans ho]
 have isE:∀ {i:St}{x:If}(h:x∈excNames) {g:uq V->Out (V×Mode)},gd (mkC L (n+1)) x=ti g->i "e" = ti (.err "NoRule", .sh)->ev (gd (mkC L (n+1))) (.isE "e" x) i = .ok (sB (decide (x = "NoRule" \/ x = "PickError"))):=λh g k m=>by
  rw[nr,m]
  show pZ _ _ _=_
  unfold pZ
  rw[NZ h,k]; rfl
 have j:(upd i "e" (.err "NoRule", .sh)) "e" = ti (.err "NoRule", .sh):=fx ..
 have e2:=cX (isE (x:="NoChoice") (by decide) p j) λ_=>cX (isE (x:="NoThing") (by decide) u j) λ_=>isE (x:="NoExchange") (by decide) q j
 have l:(upd (upd i "e" (.err "NoRule", .sh)) "_law_other" (sB NY)) "e" = ti (.err "NoRule", .sh):=(N0 (by decide)).trans j
 have e4:=dT (isE (x:="NoRule") (by decide) v l) λ_=>dT (du (kC (z:="_law_other") (fx _ _ _) (r:=sB NY) rfl)) λ_=>du (isE (x:="NoWeights") (by decide) o l)
 have e5:jA (mkC L (n+1)) "NoRule" i [("PickError", .nam "e" [.asg "_law_other" (.or (.isE "e" "NoChoice") (.or (.isE "e" "NoThing") (.isE "e" "NoExchange"))),.ret (.and (.isE "e" "NoRule") (.and (.not (.name "_law_other")) (.not (.isE "e" "NoWeights"))))])] = .ok (sB vj):=by
  simp only[jA,y,am]
  show (exH _ _ _).bind _=_
  simp only[exH]
  rw[NZ (show hOk (.or (.isE "e" "NoChoice") (.or (.isE "e" "NoThing") (.isE "e" "NoExchange")))=vj from rfl),e2]
  show (ev (gd (mkC L (n+1))) (.and (.isE "e" "NoRule") (.and (.not (.name "_law_other")) (.not (.isE "e" "NoWeights")))) (upd (upd i "e" (.err "NoRule", .sh)) "_law_other" (sB NY))).bind _=_
  rw[e4]
  rfl
 simp only[Out.exc_bind,orH]
 rw[e5]
 rfl
def Rw (r:uq N3):Prop:=r.length<=100/\∀ x∈r,0<=x/\x<100
theorem bW (h:0<=x/\x<100):bq (br x)=ti x/\(∀ c∈tl (br x),c∈cR)/\(br x).length<=2/\0<(br x).length:=by
 obtain ⟨n,rfl⟩:=UR h.1
 obtain ⟨k,j,i⟩:=jQ n (Qu.mp h.2)
 refine ⟨by unfold bq; rw[k]; rfl,λc g=>Oy (Pm.mp i c g),?_⟩
 rcases nO j with ⟨a,e⟩ | ⟨a,b,e,_⟩
 ·rw[e]; exact ⟨TN 1,Nat.zero_lt_one⟩
 ·rw[e]; exact ⟨Ow 2,Nat.zero_lt_two⟩
theorem AQ (ha:ev C a σ = .ok (sI x)) (h:0<=x/\x<100):ev C (.bi1 .str a) σ = .ok (sS (br x)):=by
 rw[dh ha]
 show (if x.natAbs<1000000/\(br x).length<=lim then Out.ok (sS (br x)) else .bad)=_
 exact NZ ⟨by lia,vc (bW h).2.2.1 (by decide)⟩
noncomputable def a5 (r:uq N3):Str:=if r=[] then da else O5 sp (r.map br)
noncomputable def bi (c:N3) (u:uq (uq N3)):Str:=br c++co++O5 cs (u.map a5)
theorem rF (hi:be C it σ = .ok (r.map .int,m)) (hr:Rw r):ev C (.sm .join (.str " ") (.comp (.bi1 .str (.name z)) z it)) σ = .ok (sS (O5 sp (r.map br)))/\(O5 sp (r.map br)).length<=300:=by
 have h:r.length*2+r.length*sp.length<=300:=by have:=hr.1; show r.length*2+r.length*1<=300; lia
 refine ae (wd (C:=C) (σ:=σ) (l:=r) (f:=br) (B:=2) xV (nL (a:=.bi1 .str (.name z)) (z:=z) (l:=r) (λx=>.str (br x)) hi λx g=>AQ ((Has.nil.mk z (.d (.int x))).ev (bX _ _ _)) (hr.2 x g)) (λx g=>(bW (hr.2 x g)).2.2.1) (vc h (by decide))) λj i=>?_
 exact ⟨j,vc i h⟩
theorem vQ (hr:Rw r):(a5 r).length<=300:=by
 unfold a5
 by_cases h:r=[]
 ·rw[NZ h]; decide
 ·rw[N0 h]
  refine (rF (C:=λ_=>NI) (σ:=upd (λ_=>NI) "x" (.d (aa r),.deep)) (z:="y") (it:=.e (.name "x")) (m:=.sh) (r:=r) ?_ hr).2
  exact aD (kC (p:=(.d (aa r),.deep)) (fx _ _ _) rfl) (cB r .sh)
theorem s8 (C:Calls) (hr:Rw r):ax C p_choice_text [.d (aa r)] = .ok (sS (a5 r)):=by
 unfold p_choice_text a5
 refine cW rfl λg H=>?_
 refine Runs.ite (cJ (dP (H.ev (x:="choice") rfl)) (ai 0)) (λq=>Runs.ret tE ?_) λq=>Runs.nil (Runs.ret (rF (aD (H.ev (x:="choice") rfl) (cB r .sh)) hr).1 ?_)
 ·rw[NZ (PB (Int.ofNat_inj.mp (Oy q)))]; rfl
 ·rw[N0 λe=>Qq q (by rw[e]; rfl)]
theorem rL (C:Calls) (hr:Rw r):ax C kj [.d (aa r)] = .ok (sS (a5 r)):=by
 unfold kj a5
 refine cW rfl λg H=>?_
 refine Runs.ite (zB (H.ev (x:="_law_choice") rfl) pk) (λq=>Runs.ret tE ?_) λq=>Runs.nil (Runs.ret (rF (aD (H.ev (x:="_law_choice") rfl) (cB r .sh)) hr).1 ?_)
 ·rw[NZ (Oy q)]; rfl
 ·rw[N0 (Qq q)]
theorem ui (hA:ev C A σ = .ok (sI c)) (hc:0<=c/\c<100) (hi:be C it σ = .ok (u.map aa,m)) (hu:u.length<=63) (hr:∀ r∈u,Rw r) (hf:∀ r∈u,∀ σ,Has σ [(z,.d (aa r))]->ev C (.call f (.cons (.name z) .nil)) σ = .ok (sS (a5 r))) :
  ev C (.bin .cat (.bin .cat (.bi1 .str A) (.str ": ")) (.sm .join (.str ", ") (.comp (.call f (.cons (.name z) .nil)) z it))) σ = .ok (sS (bi c u))/\(bi c u).length<=20000:=by
 have i:u.length*300+u.length*cs.length<=19500:=by show u.length*300+u.length*2<=19500; lia
 refine ae (wd (C:=C) (σ:=σ) (l:=u) (f:=a5) (B:=300) xK (nL (a:=.call f (.cons (.name z) .nil)) (z:=z) (l:=u) (λx=>.str (a5 x)) hi λr g=>hf r g _ ((Has.nil.mk z (.d (aa r))))) (λr g=>vQ (hr r g)) (vc i (by decide))) λo n=>?_
 have j:=(bW hc).2.2.1
 have k:(br c++co).length<=4:=by rw[PH]; exact PW j 2
 have h:(br c++co).length+(O5 cs (u.map a5)).length<=20000:=by have:=vc n i; lia
 refine ⟨ko (ko (AQ hA hc) tZ (by rw[<- PH]; exact vc k (by decide))) o (vc h (by decide)),?_⟩
 unfold bi
 rw[PH]; exact h
theorem uF (lib:LibN L) (n:N7) (hc:0<=c/\c<100) (hu:u.length<=63) (hr:∀ r∈u,Rw r):ax (mkC L (n+1)) p_shown [.rule c (af u) k] = .ok (sS (bi c u)):=by
 have h:mkC L (n+1) "Rule" = ti λj=>iZ "Rule" (mkC L n) p_Rule j:=jt lib.rule
 unfold p_shown
 refine cW rfl λi H=>?_
 obtain ⟨o,l,_⟩:=qY (m:=.sh) h (H.ev (x:="rule") rfl)
 exact Runs.ret (ui o hc (aD l (aH u .sh)) hu hr λr g i H=>(aZ lib.ctx (ak (H.ev rfl) av)).trans (s8 _ (hr r g))).1 rfl
theorem fL (hr:Rw r) (h:c∈tl (a5 r)):c∈cR\/c=32\/(c=45/\r=[]):=by
 unfold a5 at h
 by_cases e:r=[]
 ·rw[NZ e] at h
  exact .inr (.inr ⟨N1.mp h,e⟩)
 ·rw[N0 e] at h
  rcases iY h with h | ⟨p,hp,h⟩
  ·exact .inr (.inl (N1.mp h))
  ·refine aB hp λx i g=>?_
   rw[<- g] at h
   exact .inl ((bW (hr.2 x i)).2.1 c h)
theorem k9 {α β:Type}{f:α->NX β}{g:β->α}:∀ {l:uq β},(∀ b∈l,f (g b)=ti b)->bt f (l.map g)=ti l
 | [],_=>rfl
 | b::l,h=>by
  rw[Pe,show bt f (g b::l.map g)=(f (g b)).bind λb=>(bt f (l.map g)).map (b :: ·) from rfl,h b (.head _),k9 λx i=>h x (.tail _ i)]; rfl
theorem qG (hr:Rw r):bf (a5 r)=ti r:=by
 unfold bf
 by_cases e:r=[]
 ·subst e; rfl
 ·have k:(a5 r==da)=false:=Pd.mpr λq=>by
   have:45∈tl (a5 r):=by rw[q]; exact .head _
   rcases fL hr this with h | h | h
   ·exact N5 h (by decide)
   ·cases h
   ·exact e h.2
  rw[k,N0 Qo]
  unfold a5
  rw[N0 e]
  show bt bq (Txt.split (O5 ⟨#[32]⟩ (r.map br)) ⟨#[32]⟩)=_
  rw[wg (λq=>e (Qx.mp q)) λp j h=>?_]
  ·exact k9 λx g=>(bW (hr.2 x g)).1
  ·refine aB j λx g i=>?_
   rw[<- i] at h
   exact N5 ((bW (hr.2 x g)).2.1 _ h) (by decide)
theorem yC {A R:Str}(hA:58∉tl A):∃ r,Tz (A++co++R) co 0 (A++co++R).length 1=A.length::r:=by
 have e:tl (A++co++R)=tl A++58::32::tl R:=by rw[bI,bI,Pk]; rfl
 have j:(A++co++R).length=A.length+(2+R.length):=by rw[PH,PH,PI]; rfl
 have g:RX (A++co++R) co (A++co++R).length A.length:=sub_at.mpr ⟨by rw[j]; show _+2<=_; lia,by
  rw[e,List.drop_append_of_le_length (by rw[bg]; exact Ow _),Tc (by rw[bg]; exact Ow _)]; rfl⟩
 rcases Tj (A++co++R) co 1 (Ow _) with ⟨_,hn⟩ | ⟨i,r,ho,hi,hk⟩
 ·exact N5 g (hn _)
 ·refine ⟨r,?_⟩
  have l:¬ A.length<i:=λq=>hk _ q g
  have k:¬ i<A.length:=λq=>by
   have h:=PG List.head? (sub_at.mp hi).2
   rw[e,List.head?_take,N0 (by decide),List.head?_drop,List.getElem?_append_left (by rw[bg]; exact q)] at h
   exact hA (PF h)
  rw[ho,show i=A.length by lia]
theorem lu {c:N7}{u:uq (uq N3)}(hc:c<100) (hu:u≠[]) (hr:∀ r∈u,Rw r):readS (bi c u)=ti (c,u):=by
 have l:=bW (x:=c) ⟨Ot _,Qu.mpr hc⟩
 obtain ⟨r,k⟩:=yC (A:=br c) (R:=O5 cs (u.map a5)) λh=>N5 (l.2.1 _ h) (by decide)
 unfold readS
 rw[show Tz (bi c u) co 0 (bi c u).length 1=(br c).length::r from k]
 have e:tl (bi c u)=tl (br c)++58::32::tl (O5 cs (u.map a5)):=by
  unfold bi; rw[bI,bI,Pk]; rfl
 have n:Rt (bi c u) 0 (br c).length=br c:=fz (by rw[mP,e,List.take_append_of_le_length (by rw[bg]; exact Ow _),Pr (by rw[bg]; exact Ow _)])
 have m:a6 (bi c u) (br c).length=O5 cs (u.map a5):=fz (by
  unfold a6
  rw[ky,e,<- bg,<- R5,UH,QY,TT]; rfl)
 dsimp only
 rw[n,m,(jQ c hc).1,show Txt.split (O5 cs (u.map a5)) cs=u.map a5 from vz (λq=>hu (Qx.mp q)) λp j h=>?_,k9 λr g=>qG (hr r g)]
 ·rfl
 ·refine aB j λr g i=>?_
  rw[<- i] at h
  rcases fL (hr r g) h with h | h | h
  ·exact N5 h (by decide)
  ·cases h
  ·cases h.1
theorem i8:∀ {l:uq α}{ys:uq β},bt f l=ti ys->ys.length=l.length/\∀ y∈ys,∃ a∈l,f a=ti y
 | [],ys,h=>by cases h; exact ⟨rfl,λ_ h=>nomatch h⟩
 | a::l,ys,h=>by
  rw[show bt f (a::l)=(f a).bind λb=>(bt f l).map (b :: ·) from rfl] at h
  cases hf:f a with
  | none=>rw[hf] at h; cases h
  | some b=>
   rw[hf,R8] at h
   cases hl:bt f l with
   | none=>rw[hl] at h; cases h
   | some zs=>
    rw[hl] at h
    cases h
    obtain ⟨m,k⟩:=i8 hl
    exact ⟨PG (· + 1) m,λy g=>(Ou.mp g).elim (λe=>⟨a,.head _,e▸hf⟩) λg=>ag (k y g) λz j i=>⟨z,.tail _ j,i⟩⟩
theorem lN (h:readS t=ti q):∃ i,tl t=(tl t).take i++58::32::tl (a6 t i)/\bt bf (Txt.split (a6 t i) cs)=ti q.2/\q.1<100:=by
 unfold readS at h
 rcases Tj t co 1 (Ow _) with ⟨ho,_⟩ | ⟨i,r,ho,hA,_⟩
 ·rw[ho] at h; cases h
 ·rw[ho] at h
  dsimp only at h
  cases hn:bx (Rt t 0 i) with
  | none=>rw[hn] at h; cases h
  | some c=>
   rw[hn,R8] at h
   cases ha:bt bf (Txt.split (a6 t i) cs) with
   | none=>rw[ha] at h; cases h
   | some rs=>
    rw[ha] at h
    cases h
    refine ⟨i,?_,ha,(nZ hn).1⟩
    have j:=(sub_at.mp hA).2
    have e:=Pj 2 ((tl t).drop i)
    rw[show ((tl t).drop i).take 2=[58,32] from j,R5] at e
    have g:=Pj i (tl t)
    rw[<- e] at g
    unfold a6
    rw[ky]
    exact g.symm
theorem jg (h:bf p=ti r):(∀ x∈r,0<=x)/\r.length<=p.length+1/\(r=[]↔p=da):=by
 unfold bf at h
 by_cases e:(p==da)=vj
 ·rw[NZ e] at h
  cases h
  exact ⟨λ_ h=>(nomatch h),Pf _,λ_=>Oj.mp e,λ_=>rfl⟩
 ·rw[N0 e] at h
  obtain ⟨i,k⟩:=i8 h
  refine ⟨λx j=>?_,?_,λq=>?_,λq=>N5 (Oj.mpr q) e⟩
  ·obtain ⟨w,_,g⟩:=k x j
   unfold bq at g
   cases hn:bx w with
   | none=>rw[hn] at g; cases g
   | some n=>rw[hn] at g; cases g; exact Ot _
  ·rw[i]
   have:=T9 p sp (Ow 1)
   exact vc (Pa _ _) this
  ·rw[q] at i
   exact N5 (PB i.symm) (f7 p sp)
theorem uI (h:readS t=ti q) (ht:t.length<1000000):q.1<=99/\q.2≠[]/\q.2.length<=(tl t).count 44+1/\∀ r∈q.2,(∀ x∈r,0<=x)/\r.length<=1000000:=by
 obtain ⟨i,u,o,n⟩:=lN h
 obtain ⟨g,m⟩:=i8 o
 refine ⟨OW n,λe=>?_,?_,λr j=>?_⟩
 ·rw[e] at g
  exact f7 _ _ (PB g.symm)
 ·rw[g]
  refine vc (gV (x:=a6 t i) (y:=cs) (c:=44) (by decide)) (O6 ?_)
  rw[u]
  exact Zg 44 (((Va _ _).trans (Va _ _)).trans (List.sublist_append_right _ _))
 ·obtain ⟨p,k,e⟩:=m r j
  obtain ⟨l,v,_⟩:=jg e
  have:p.length<=t.length:=vc (SL k) (sub_short ..)
  exact ⟨l,by lia⟩
structure TX (t:Str):Prop where
 len:t.length<1000000
 com:(tl t).count 44<=62
 emp:∀ q,readS t=ti q->[]∈q.2->∀ r∈q.2,r=[]
theorem sF {c:N7}{u:uq (uq N3)}(hc:c<100) (hu:u≠[]) (hr:∀ r∈u,Rw r):u.length=(tl (bi c u)).count 44+1:=by
 have hn:=bW (x:=c) ⟨Ot _,Qu.mpr hc⟩
 have h0:(tl (br c)).count 44=0:=T5.mpr λh=>N5 (hn.2.1 _ h) (by decide)
 have:=(iJ (y:=cs) (c:=44) (by decide) (l:=u.map a5) λq=>hu (Qx.mp q)).2 λp hp h=>by
  refine aB hp λr hr' oq=>?_
  rw[<- oq] at h
  rcases fL (hr r hr') h with h | h | h
  ·exact N5 h (by decide)
  ·cases h
  ·cases h.1
 rw[Oc] at this
 unfold bi
 rw[bI,bI,Ta,Ta,h0,show (tl co).count 44=0 from by decide,PV]
 exact this
theorem TX.txt {c:N7}{u:uq (uq N3)}(hc:c<100) (hu:u≠[]) (hl:u.length<=63) (hr:∀ r∈u,Rw r) (hE:[]∈u->∀ r∈u,r=[]) (ht:(bi c u).length<=20000):TX (bi c u) where
 len:=N4 ht (by decide)
 com:=UV (vc (OH (sF hc hu hr).symm) hl)
 emp:=λq h=>by
  rw[lu hc hu hr] at h
  cases h
  exact hE
def StF (l:uq N7):Prop:=(∃ d r,l=d::r/\d∈cR)/\Fol 32 (·∈cR) l
theorem Fol.app:∀ {a b:uq N7},Fol c q a->Fol c q b->Fol c q (a++b)
 | [],_,_,h=>h
 | x::a,b,h,h'=>⟨λe=>au (h.1 e) λd r i g=>⟨d,r++b,by rw[i]; rfl,g⟩,Fol.app h.2 h'⟩
theorem StF.app (ha:StF a) (hb:Fol 32 (·∈cR) b):StF (a++b):=⟨au ha.1 λd r e h=>⟨d,r++b,by rw[e]; rfl,h⟩,ha.2.app hb⟩
theorem StF.sp (ha:StF a):Fol 32 (·∈cR) (32::a):=⟨λ_=>ha.1,ha.2⟩
theorem StF.join (hy:∀ {a:uq N7},StF a->Fol 32 (·∈cR) (tl y++a)):∀ {l:uq Str},l≠[]->(∀ p∈l,StF (tl p))->StF (tl (O5 y l))
 | [],h,_=>N5 rfl h
 | [a],_,h=>h a (.head _)
 | a::b::r,_,h=>by
  rw[bQ]
  exact (h a (.head _)).app (hy (StF.join hy (by simp) λp g=>h p (.tail _ g)))
theorem StF.num (h:0<=x/\x<100):StF (tl (br x)):=by
 obtain ⟨_,i,_,g⟩:=bW h
 refine ⟨?_,?_⟩
 ·cases e:tl (br x) with
  | nil=>rw[<- bg,e] at g; cases g
  | cons d r=>exact ⟨d,r,rfl,i d (by rw[e]; exact .head _)⟩
 ·have:=Fol.free (c:=32) (q:=(·∈cR)) (a:=tl (br x)) (l:=[]) (λh=>N5 (i _ h) (by decide)) trivial
  rwa [PU] at this
theorem StF.txt {c:N7}{u:uq (uq N3)}(hc:c<100) (hu:u≠[]) (hr:∀ r∈u,Rw r) (hE:[]∉u):Fol 32 (·∈cR) (tl (bi c u)):=by
 unfold bi
 rw[bI,bI,Pk]
 refine (StF.num (x:=c) ⟨Ot _,Qu.mpr hc⟩).2.app ⟨λe=>(nomatch e),StF.sp ?_⟩
 refine StF.join (y:=cs) (λh=>⟨λe=>(nomatch e),h.sp⟩) (λq=>hu (Qx.mp q)) λp hp=>?_
 refine aB hp λr hr' oq=>?_
 rw[<- oq]
 unfold a5
 rw[N0 (show r≠[] from λe=>hE (e▸hr'))]
 refine StF.join (y:=Internal.sp) (λh=>h.sp) (λq=>hE (Qx.mp q▸hr')) λw hw=>?_
 refine aB hw λx hx oq=>?_
 rw[<- oq]
 exact .num ((hr r hr').2 x hx)
theorem pz:∀ {l:uq Str},da∈l->∃ P Q,tl (O5 cs l)=P++45::Q/\(P=[]\/∃ P',P=P'++[32])/\∀ d r,Q=d::r->d=44
 | [a],h=>⟨[],[],by rw[<- N1.mp h]; rfl,.inl rfl,λ_ _ h=>nomatch h⟩
 | a::b::r,h=>by
  rw[bQ]
  rcases Ou.mp h with h | h
  ·exact ⟨[],44::32::tl (O5 cs (b::r)),by rw[<- h]; rfl,.inl rfl,λ_ _ e=>(PS e).1.symm⟩
  ·obtain ⟨P,Q,e,i,g⟩:=pz h
   refine ⟨tl a++(tl cs++P),Q,by rw[e]; simp,.inr ?_,g⟩
   rcases i with rfl | ⟨P',rfl⟩
   ·exact ⟨tl a++[44],by rw[PU,Pk]; rfl⟩
   ·exact ⟨tl a++(tl cs++P'),by simp⟩
theorem rf:∀ {A B P Q:uq N7},c∉A->c∉B->A++c::B=P++c::Q->A=P/\B=Q
 | [],B,[],Q,_,_,h=>⟨rfl,(PS h).2⟩
 | [],B,x::P,Q,_,hB,h=>N5 (by rw[(PS h).2]; simp) hB
 | x::A,B,[],Q,hA,_,h=>N5 (Ou.mpr (.inl (PS h).1.symm)) hA
 | x::A,B,y::P,Q,hA,hB,h=>by
  obtain ⟨k,j⟩:=PS h
  obtain ⟨i,g⟩:=rf (λq=>hA (.tail _ q)) hB j
  exact ⟨by rw[k,i],g⟩
def Ch (a b:uq N7):Prop:=∃ A B,a=A++B/\(b=A++B.drop 1\/∃ x,b=A++x::B)
theorem Ch.count (h:Ch a b) (p:N7->OF):b.countP p<=a.countP p+1:=by
 obtain ⟨A,B,rfl,rfl | ⟨x,rfl⟩⟩:=h
 ·rw[RG,RG]
  have:=Y9 (p:=p) (S0 1 B)
  lia
 ·rw[RG,RG,RS]
  split<;>lia
theorem TX.change {c:N7}{u:uq (uq N3)}{t:Str}(hc:c<100) (hu:u≠[]) (hl:u.length<=62) (hr:∀ r∈u,Rw r) (hE:[]∈u->u=[[]]) (ht:(bi c u).length<=20000) (h:Ch (tl (bi c u)) (tl t)):TX t:=by
 have hn:=bW (x:=c) ⟨Ot _,Qu.mpr hc⟩
 refine ⟨?_,vc (h.count (· == 44)) (vc (OH (sF hc hu hr).symm) hl),λq hq he=>?_⟩
 ·have:=h.count λ_=>vj
  rw[List.countP_true,bg,bg] at this
  exact N4 (vc this (O6 ht)) (by decide)
 obtain ⟨i,h1,h2,_⟩:=lN hq
 obtain ⟨h3,h4⟩:=i8 h2
 obtain ⟨p,hp,ep⟩:=h4 [] he
 have hda:da∈Txt.split (a6 t i) cs:=((jg ep).2.2.mp rfl)▸hp
 by_cases hb:[]∈u
 ·-- the text is a number,a colon and a bar
  have e0:=hE hb
  have hc0:(tl (bi c u)).countP (λx=>x==32||x==44)=1:=by
   rw[e0]
   show (tl (br c++co++da)).countP _=1
   rw[bI,bI,RG,RG,List.countP_eq_zero.mpr λx hx q=>?_]
   ·decide
   ·rcases V8.mp q with q | q
    ·rw[Oj.mp q] at hx; exact N5 (hn.2.1 _ hx) (by decide)
    ·rw[Oj.mp q] at hx; exact N5 (hn.2.1 _ hx) (by decide)
  have hc1:=h.count λx=>x==32||x==44
  rw[hc0,h1,RG,RS,RS] at hc1
  have hl2:=gV (x:=a6 t i) (y:=cs) (c:=44) (by decide)
  have hl3:=gV (x:=a6 t i) (y:=cs) (c:=32) (by decide)
  have hs:(tl (a6 t i)).count 44+(tl (a6 t i)).count 32<=(tl (a6 t i)).countP λx=>x==32||x==44:=by
   generalize tl (a6 t i)=l
   induction l with
   | nil=>exact Ow _
   | cons x l ih=>
    rw[XS,XS,RS]
    by_cases q1:x=44
    ·subst q1; simp; lia
    ·by_cases q2:x=32
     ·subst q2; simp; lia
     ·simp[q1,q2]; lia
  have hlen:q.2.length<=1:=by simp at hc1; lia
  intro r hr'
  rcases e:q.2 with _ | ⟨a,_ | ⟨b,l⟩⟩
  ·rw[e] at he; cases he
  ·rw[e] at he hr'
   rw[N1.mp hr',<- N1.mp he]
  ·rw[e] at hlen; simp at hlen
 ·-- no sign of the text is a bar
  exfalso
  have h45:45∉tl (bi c u):=λq=>by
   unfold bi at q
   rw[bI,bI,Op,Op] at q
   rcases q with (q | q) | q
   ·exact N5 (hn.2.1 _ q) (by decide)
   ·exact N5 q (by decide)
   ·rcases iY q with q | ⟨p,hp,q⟩
    ·exact N5 q (by decide)
    ·refine aB hp λr hr' oq=>?_
     rw[<- oq] at q
     rcases fL (hr r hr') q with q | q | q
     ·exact N5 q (by decide)
     ·cases q
     ·exact hb (q.2▸hr')
  obtain ⟨P,Q,e1,hP,hQ⟩:=pz hda
  rw[QM] at e1
  rw[e1] at h1
  obtain ⟨A,B,e2,e3 | ⟨x,e3⟩⟩:=h
  ·refine h45 ?_
   rw[e2]
   have:45∈A++B.drop 1:=by rw[<- e3,h1]; simp
   exact (Op.mp this).elim (OV _) λq=>OU _ (Ry q)
  ·have hA:45∉A:=λq=>h45 (by rw[e2]; exact OV _ q)
   have hB:45∉B:=λq=>h45 (by rw[e2]; exact OU _ q)
   have e4:A++x::B=((tl t).take i++58::32::P)++45::Q:=e3.symm.trans (h1.trans (by simp))
   have hx:x=45:=by
    have:45∈A++x::B:=by rw[e4]; simp
    exact ((Op.mp this).resolve_left hA |> Ou.mp).resolve_right hB |>.symm
   subst hx
   obtain ⟨e5,e6⟩:=rf hA hB e4
   have e7:∃ A',A=A'++[32]:=by
    rcases hP with rfl | ⟨P',rfl⟩
    ·exact ⟨(tl t).take i++[58],by rw[e5]; simp⟩
    ·exact ⟨(tl t).take i++58::32::P',by rw[e5]; simp⟩
   obtain ⟨A',e7⟩:=e7
   have hF:=StF.txt hc hu hr hb
   rw[e2,e7,e6,Pk] at hF
   obtain ⟨d,r,e8,hd⟩:=hF.at (k:=A'.length) (by simp)
   rw[UH,QY,TT] at e8
   have e9:Q=d::r:=(PS e8).2
   rw[hQ d r e9] at hd
   exact N5 hd (by decide)
noncomputable def l_row_is:Fn:=⟨["_law_found", "_law_due_here"],
(.cons (.ite (.or (.not (.isi (.name "_law_found") "list")) (.cmp .ne (.bi1 .len (.name "_law_found")) (.bi1 .len (.name "_law_due_here"))))
(.cons (.ret (.bool NY))
.nil)
.nil)
(.cons (.for1 "_law_k" (.r1 (.bi1 .len (.name "_law_due_here")))
(.cons (.ite (.or (.not (.call "_law_whole" (.cons (.sub (.name "_law_found") (.name "_law_k")) .nil))) (.cmp .ne (.sub (.name "_law_found") (.name "_law_k")) (.sub (.name "_law_due_here") (.name "_law_k"))))
(.cons (.ret (.bool NY))
.nil)
.nil)
.nil))
(.cons (.ret (.bool vj))
.nil)))⟩
noncomputable def fP:Fn:=⟨["_law_found", "_law_due_here"],
(.cons (.ite (.or (.not (.isi (.name "_law_found") "list")) (.cmp .ne (.bi1 .len (.name "_law_found")) (.bi1 .len (.name "_law_due_here"))))
(.cons (.ret (.bool NY))
.nil)
.nil)
(.cons (.for1 "_law_k" (.r1 (.bi1 .len (.name "_law_due_here")))
(.cons (.ite (.not (.call "_law_row_is" (.cons (.sub (.name "_law_found") (.name "_law_k")) (.cons (.sub (.name "_law_due_here") (.name "_law_k")) .nil))))
(.cons (.ret (.bool NY))
.nil)
.nil)
.nil))
(.cons (.ret (.bool vj))
.nil)))⟩
noncomputable def fK:Fn:=⟨["_law_cell"],
(.cons (.assign "_law_some" (.list (.cons (.str "") (.cons (.str "3") (.cons (.str "3:") (.cons (.str "3: ") (.cons (.str ": 0") (.cons (.str " 3: 0") (.cons (.str "3 : 0") (.cons (.str "3:0") (.cons (.str "3: 0,1") (.cons (.str "3: 0 ,1") (.cons (.str "3:  0") (.cons (.str "3: 0, ") (.cons (.str "3: -, -") .nil)))))))))))))))
(.cons (.assign "_law_some" (.bin .add (.name "_law_some") (.list (.cons (.str "3: 0 1,  1 2") (.cons (.str "03: 0") (.cons (.str "3: 00") (.cons (.str "3: +1") (.cons (.str "3: --") (.cons (.str "3: 0 -") (.cons (.str "3: 0: 1") .nil))))))))))
(.cons (.ret (.sub (.name "_law_some") (.bin .mod (.name "_law_cell") (.int 20))))
.nil)))⟩
noncomputable def l_sign_by:Fn:=⟨["_law_cell"],
(.cons (.assign "_law_some" (.str " !\"#$&'()*+,-./0123456789:;<=>?@ABCDEFGHIJKLMNOPQRSTUVWXYZ[\\]^_`"))
(.cons (.assign "_law_some" (.bin .cat (.name "_law_some") (.str "abcdefghijklmnopqrstuvwxyz{|}~\n\t")))
(.cons (.ret (.sat (.name "_law_some") (.bin .mod (.name "_law_cell") (.int 96))))
.nil)))⟩
noncomputable def gQ:Fn:=⟨["_law_text", "_law_cell", "_law_low"],
(.cons (.assign "_law_at" (.bin .add (.name "_law_low") (.bin .mod (.bin .fdiv (.name "_law_cell") (.int 768)) (.bin .sub (.bin .add (.bi1 .slen (.name "_law_text")) (.int 1)) (.name "_law_low")))))
(.cons (.ite (.cmp .eq (.bin .mod (.bin .fdiv (.name "_law_cell") (.int 2)) (.int 4)) (.int 0))
(.cons (.assign "_law_at" (.bi1 .slen (.name "_law_text")))
.nil)
.nil)
(.cons (.ite (.cmp .eq (.bin .mod (.bin .fdiv (.name "_law_cell") (.int 8)) (.int 5)) (.int 0))
(.cons (.ret (.bin .cat (.ssl NY (.name "_law_text") (.name "_law_at")) (.ssl vj (.name "_law_text") (.bin .add (.name "_law_at") (.int 1)))))
.nil)
.nil)
(.cons (.ite (.cmp .eq (.bin .mod (.name "_law_cell") (.int 2)) (.int 0))
(.cons (.ret (.bin .cat (.bin .cat (.ssl NY (.name "_law_text") (.name "_law_at")) (.sat (.str "0123456789 ,:-") (.bin .mod (.bin .fdiv (.name "_law_cell") (.int 8)) (.int 14)))) (.ssl vj (.name "_law_text") (.name "_law_at"))))
.nil)
.nil)
(.cons (.ret (.bin .cat (.bin .cat (.ssl NY (.name "_law_text") (.name "_law_at")) (.call "_law_sign_by" (.cons (.bin .fdiv (.name "_law_cell") (.int 8)) .nil))) (.ssl vj (.name "_law_text") (.name "_law_at"))))
.nil)))))⟩
structure LibY (L:uq (If×Fn)):Prop extends LibX L where
 rowIs:L.lookup "_law_row_is" = ti l_row_is
 signBy:L.lookup "_law_sign_by" = ti l_sign_by
theorem rR (lib:Lib L) (n:N7) (r:uq N3) (hl:r.length<=1000):ax (mkC L (n+1)) l_row_is [.d (aa r),.d (aa r)] = .ok (sB vj):=by
 unfold l_row_is
 refine cW rfl λi H=>?_
 refine Runs.no (cX (p:=NY) (q:=NY) (du (t:=vj) (l0 (H.ev (x:="_law_found") rfl) rfl)) λuu=>(gX (dP (H.ev (x:="_law_found") rfl)) (dP (H.ev (x:="_law_due_here") rfl))).trans (by simp)) ?_
 refine Runs.for (g:=Oz) (xs:=a0 r.length) (λj i=>Has i [("_law_found", .d (aa r)),("_law_due_here", .d (aa r))]) (bO (dP (H.ev (x:="_law_due_here") rfl)) (qv hl)) (λu h _=>(h _ H).sub ⟨rfl,rfl,trivial⟩) ?_ λi H=>Runs.ret (dM vj) rfl
 intro j y l z i H
 have k:=mem_upTo.mp (show y∈a0 r.length by rw[z]; simp)
 have H1:=H.mk "_law_k" (.d (.int y))
 obtain ⟨v,m⟩:∃ v,r[y.toNat]? = ti v:=⟨_,Oh (Ag k)⟩
 have o:ev (mkC L (n+1)) (.sub (.name "_law_found") (.name "_law_k")) (upd i "_law_k" (mk (.d (.int y)))) = .ok (sI v):=gy (H1.ev rfl) (H1.ev rfl) k.1 m
 have e2:ev (mkC L (n+1)) (.sub (.name "_law_due_here") (.name "_law_k")) (upd i "_law_k" (mk (.d (.int y)))) = .ok (sI v):=gy (H1.ev rfl) (H1.ev rfl) k.1 m
 exact Runs.no (cX (p:=NY) (q:=NY) (du (t:=vj) (dH lib.whole (ak o av) rfl (lU _ v))) λuu=>(gX o e2).trans (by simp)) (Runs.nil (H1.sub ⟨rfl,rfl,trivial⟩))
theorem oV (lib:LibY L) (n:N7) (t:uq (uq N3)) (hl:t.length<=1000) (hr:∀ r∈t,r.length<=1000):ax (mkC L (n+2)) fP [.d (af t),.d (af t)] = .ok (sB vj):=by
 unfold fP
 refine cW rfl λi H=>?_
 refine Runs.no (cX (p:=NY) (q:=NY) (du (t:=vj) (l0 (H.ev (x:="_law_found") rfl) rfl)) λuu=>(gX (eA (H.ev (x:="_law_found") rfl)) (eA (H.ev (x:="_law_due_here") rfl))).trans (by simp)) ?_
 refine Runs.for (g:=Oz) (xs:=a0 t.length) (λj i=>Has i [("_law_found", .d (af t)),("_law_due_here", .d (af t))]) (bO (eA (H.ev (x:="_law_due_here") rfl)) (qv hl)) (λo h _=>(h _ H).sub ⟨rfl,rfl,trivial⟩) ?_ λi H=>Runs.ret (dM vj) rfl
 intro j y m u i H
 have k:=mem_upTo.mp (show y∈a0 t.length by rw[u]; simp)
 have H1:=H.mk "_law_k" (.d (.int y))
 obtain ⟨v,l⟩:∃ v,t[y.toNat]? = ti v:=⟨_,Oh (Ag k)⟩
 have e1:ev (mkC L (n+2)) (.sub (.name "_law_found") (.name "_law_k")) (upd i "_law_k" (mk (.d (.int y)))) = .ok (.d (aa v),.sh):=lJ (H1.ev rfl) (H1.ev rfl) k.1 l
 have z:ev (mkC L (n+2)) (.sub (.name "_law_due_here") (.name "_law_k")) (upd i "_law_k" (mk (.d (.int y)))) = .ok (.d (aa v),.sh):=lJ (H1.ev rfl) (H1.ev rfl) k.1 l
 exact Runs.no (du (t:=vj) (dH lib.rowIs (ak e1 (ak z av)) rfl (rR lib.toLib n v (hr v (PF l))))) (Runs.nil (H1.sub ⟨rfl,rfl,trivial⟩))
theorem t6 {x:Str}{i:N7}(h:x.length<=i):R1 x (ti (i:N3)) NI=R1 x (ti (x.length:N3)) none:=by
 have e:Vl (ti (i:N3)) NI 1 x.length=Vl (ti (x.length:N3)) NI 1 x.length:=by
  have h1:¬ (i:N3)<0:=Q1.mpr (Ot _)
  have h2:¬ (x.length:N3)<0:=Q1.mpr (Ot _)
  have h3:min (i:N3) x.length=min (x.length:N3) x.length:=by lia
  simp only[Vl,N0 h1,N0 h2,h3,NZ (show (1:N3)>0 by decide)]
 unfold R1
 rw[e]
theorem DA {C:Calls}{σ:St}{a b:E}{x:Str}{i:N7}(ha:ev C a σ = .ok (sS x)) (hb:ev C b σ = .ok (sI i)) (hl:x.length<=1000000):∃ z,ev C (.ssl vj a b) σ = .ok (sS z)/\tl z=(tl x).drop i:=by
 by_cases h:i<=x.length
 ·exact mC ha hb hl h
 ·refine ⟨R1 x (ti (x.length:N3)) NI,?_,?_⟩
  ·simp only[fU,ha,hb,Out.ok_bind]
   show (if x.length<=lim then Out.ok (sS (tA vj x i)) else .bad)=_
   rw[NZ (show x.length<=lim from hl)]
   exact PG (λz=>Out.ok (sS z)) (t6 (Xn h))
  ·rw[lR (Ow _),Tc (by rw[bg]; exact Ow _),Tc (by rw[bg]; exact Xn h)]
theorem tl_len' (h:tl x=l):x.length=l.length:=by rw[<- h,bg]
theorem wN (C:Calls) (k:N3):∃ r,ax C l_sign_by [.d (.int k)] = .ok r/\∃ c:N7,r=sS ⟨#[c]⟩:=by
 unfold l_sign_by
 refine cu rfl λh H=>?_
 refine Runs.set H (eG rfl) λh H _=>?_
 have l:∀ x y:Str,x.length=64->y.length=32->x.length+y.length<=1000000/\(x++y).length=96:=λx y i o=>by rw[PH,i,o]; decide
 refine ae (l (oD " !\"#$&'()*+,-./0123456789:;<=>?@ABCDEFGHIJKLMNOPQRSTUVWXYZ[\\]^_`") (Str.ofString "abcdefghijklmnopqrstuvwxyz{|}~\n\t") (by decide +kernel) (by decide +kernel)) λj g=>?_
 refine Runs.set H (ko (H.ev (x:="_law_some") rfl) (eG rfl) j) λh H _=>?_
 generalize oD " !\"#$&'()*+,-./0123456789:;<=>?@ABCDEFGHIJKLMNOPQRSTUVWXYZ[\\]^_`" ++ Str.ofString "abcdefghijklmnopqrstuvwxyz{|}~\n\t" = z at H g
 have p:=OQ k (show (96:N3)≠0 by decide)
 have i:=O0 k (show (0:N3)<96 by decide)
 obtain ⟨c,m⟩:∃ c,(tl z)[(k%96).toNat]? = ti c:=⟨_,Oh (by rw[bg,g]; lia)⟩
 exact Runs.ret (sY (H.ev (x:="_law_some") rfl) (aY (H.ev (x:="_law_cell") rfl) (ai 96) (by decide)) p (by rw[g]; decide) m) ⟨_,rfl,c,rfl⟩
theorem pR (lib:LibY L) (n:N7) (t:Str) (k:N3) (low:N7) (h1:low<=t.length) (h2:t.length<=20000):∃ r,ax (mkC L (n+1)) gQ [.d (.str t),.d (.int k),.d (.int low)] = .ok r/\∃ z,r=sS z/\Ch (tl t) (tl z):=by
 have o:t.length<=1000000:=vc h2 (by decide)
 unfold gQ
 refine cu rfl λm H=>?_
 have hp:(0:N3)<(t.length:N3)+1-low:=by lia
 have m1:=OQ (k/768) (TM hp)
 have m2:=O0 (k/768) hp
 refine Runs.set H (bU (H.ev (x:="_law_low") rfl) (aY (cY (H.ev (x:="_law_cell") rfl) (ai 768) (by decide) (by decide)) (E3 (bU (mj (H.ev (x:="_law_text") rfl)) (ai 1)) (H.ev (x:="_law_low") rfl)) hp)) λm H _=>?_
 obtain ⟨i,hi⟩:∃ i:N7,(low:N3)+k/768%((t.length:N3)+1-low)=i:=⟨_,(Ph (by lia)).symm⟩
 rw[hi] at H
 have g:i<=t.length:=by lia
 refine Runs.iteTo (λm=>∃ i:N7,i<=t.length/\Has m [("_law_at", .d (.int i)),("_law_text", .d (.str t)),("_law_cell", .d (.int k))]) (cJ (aY (cY (H.ev (x:="_law_cell") rfl) (ai 2) (by decide) (by decide)) (ai 4) (by decide)) (ai 0)) (λ_=>Runs.set H (mj (H.ev (x:="_law_text") rfl)) λm H _=>Runs.nil ⟨rfl,t.length,Ow _,H.sub ⟨rfl,rfl,rfl,trivial⟩⟩) (λ_=>Runs.nil ⟨rfl,i,g,H.sub ⟨rfl,rfl,rfl,trivial⟩⟩) ?_
 rintro m ⟨i,g,H⟩
 have v:=H.ev (C:=mkC L (n+1)) (x:="_law_text") rfl
 have ha:=H.ev (C:=mkC L (n+1)) (x:="_law_at") rfl
 obtain ⟨y,ey,u⟩:=zc (i:=i) v ha o g
 obtain ⟨z,ez,hz⟩:=mC (i:=i) v ha o g
 obtain ⟨z1,ez1,q⟩:=DA (i:=i+1) v (bU ha (ai 1)) o
 have ly:y.length<=20000:=by rw[tl_len' u,QX]; exact vc (Py ..) (vc g h2)
 have ld:∀ {z:Str}{j:N7},tl z=(tl t).drop j->z.length<=20000:=λh=>by rw[tl_len' h,PN,bg]; lia
 have l:∀ {c:N7}{e:E},ev (mkC L (n+1)) e m = .ok (sS ⟨#[c]⟩)->∃ r,ev (mkC L (n+1)) (.bin .cat (.bin .cat (.ssl NY (.name "_law_text") (.name "_law_at")) e) (.ssl vj (.name "_law_text") (.name "_law_at"))) m = .ok r/\∃ z,r=sS z/\Ch (tl t) (tl z):=λ{c} {e} he=>by
  refine ⟨_,ko (ko ey he (show y.length+1<=_ by lia)) ez (by rw[PH]; show y.length+1+_<=_; have:=ld hz; lia),_,rfl,(tl t).take i,(tl t).drop i,(Pj ..).symm,.inr ⟨c,?_⟩⟩
  rw[bI,bI,u,hz,Pk]; rfl
 refine Runs.ite (cJ (aY (cY (H.ev (x:="_law_cell") rfl) (ai 8) (by decide) (by decide)) (ai 5) (by decide)) (ai 0)) (λ_=>?_) λ_=>Runs.nil ?_
 ·refine Runs.ret (ko ey ez1 (by have:=ld q; lia)) ⟨_,rfl,_,rfl,(tl t).take i,(tl t).drop i,(Pj ..).symm,.inl ?_⟩
  rw[bI,u,q,R5]
 ·have q0:=OQ (k/8) (show (14:N3)≠0 by decide)
  have q1:=O0 (k/8) (show (0:N3)<14 by decide)
  refine Runs.ite (cJ (aY (H.ev (x:="_law_cell") rfl) (ai 2) (by decide)) (ai 0)) (λ_=>?_) λ_=>Runs.nil ?_
  ·have p:(oD "0123456789 ,:-").length=14:=by decide +kernel
   obtain ⟨c,hc⟩:∃ c,(tl (oD "0123456789 ,:-"))[(k/8%14).toNat]? = ti c:=⟨_,Oh (by rw[bg,p]; lia)⟩
   refine ag (l (sY (eG rfl) (aY (cY (H.ev (x:="_law_cell") rfl) (ai 8) (by decide) (by decide)) (ai 14) (by decide)) q0 (by rw[p]; decide) hc)) λr e h=>Runs.ret e ⟨r,rfl,h⟩
  ·obtain ⟨_,e,c,rfl⟩:=wN (mkC L n) (k/8)
   refine ag (l ((aZ lib.signBy (ak (cY (H.ev (x:="_law_cell") rfl) (ai 8) (by decide) (by decide)) av)).trans e)) λr e h=>Runs.ret e ⟨r,rfl,h⟩
noncomputable def pe:uq If->Es
 | []=>.nil
 | s::l=>.cons (.str s) (pe l)
theorem pP:∀ l:uq If,evs C (pe l) σ = .ok (l.map λs=>sS (oD s))
 | []=>av
 | s::l=>ak (eG rfl) (pP l)
theorem wA (l:uq If):∃ m,ev C (.list (pe l)) σ = .ok (.d (.list (l.map λs=>.str (oD s))),m):=by
 have:bH (l.map λs=>sS (oD s))=ti (l.map λs=>.str (oD s)):=by
  induction l with
  | nil=>rfl
  | cons s l ih=>rw[Pe,sS,bH,ih]; rfl
 refine ⟨if allDeep (l.map λs=>sS (oD s)) then .deep else .top,?_⟩
 simp only[b8,pP,Out.ok_bind]
 rw[this]
noncomputable def lc:uq String:=["", "3", "3:", "3: ", ": 0", " 3: 0", "3 : 0", "3:0", "3: 0,1", "3: 0 ,1", "3:  0", "3: 0, ", "3: -, -"]
noncomputable def jf:uq String:=["3: 0 1,  1 2", "03: 0", "3: 00", "3: +1", "3: --", "3: 0 -", "3: 0: 1"]
noncomputable def Lz:NX (N7×uq (uq N3))->OF
 | none=>vj
 | some q=>!decide ([]∈q.2)||q.2.all λr=>decide (r=[])
theorem qk:∀ s∈lc++jf,(oD s).length<1000000/\(tl (oD s)).count 44<=62/\Lz (readS (oD s))=true:=by decide +kernel
theorem DQ {s:If}(h:s∈lc++jf):TX (oD s) where
 len:=(qk s h).1
 com:=(qk s h).2.1
 emp:=λq i j r g=>by
  have:=(qk s h).2.2
  rw[i] at this
  rcases V8.mp this with h | h
  ·rw[OA j] at h; cases h
  ·exact Oy (Pm.mp h r g)
theorem xq (C:Calls) (k:N3):∃ r,ax C fK [.d (.int k)] = .ok r/\∃ z,r=sS z/\TX z:=by
 unfold fK
 refine cu rfl λσ H=>?_
 refine al (wA (C:=C) (σ:=σ) lc) λo m=>?_
 refine Runs.set H m λσ H _=>?_
 refine al (wA (C:=C) (σ:=σ) jf) λn l=>?_
 have j:ev C (.bin .add (.name "_law_some") (.list (pe jf))) σ = .ok (.d (.list ((lc++jf).map λs=>.str (oD s))),fresh ((lc++jf).map λs=>.str (oD s))):=by
  rw[dm (H.ev (x:="_law_some") rfl) l,Rs]; rfl
 refine Runs.set H j λσ H _=>?_
 have i:=OQ k (show (20:N3)≠0 by decide)
 have h:=O0 k (show (0:N3)<20 by decide)
 obtain ⟨s,g⟩:∃ s,(lc++jf)[(k%20).toNat]? = ti s:=⟨_,Oh (show _<20 by lia)⟩
 refine Runs.ret (r:=sS (oD s)) ?_ ⟨_,rfl,_,rfl,DQ (PF g)⟩
 rw[ie (H.ev (x:="_law_some") rfl) (aY (H.ev (x:="_law_cell") rfl) (ai 20) (by decide))]
 refine (jw (xs:=(lc++jf).map λs=>.str (oD s)) (k:=(k%20).toNat) (y:=.str (oD s)) (dE i (by rw[Oc]; exact h)) ?_).trans rfl
 rw[Pp,g]; rfl
noncomputable def j4:Fn:=⟨[],.nil⟩
noncomputable def s9:Fn:=⟨["_law_script"],
(.cons (.assign "_law_made" (.call "_law_held" (.cons (.name "_law_script") .nil)))
(.cons (.assign "_law_count" (.sub (.name "_law_made") (.int 0)))
(.cons (.assign "_law_table_here" (.comp (.bi1 .sorted (.name "_law_choice")) "_law_choice" (.e (.sub (.name "_law_made") (.int 1)))))
(.cons (.assign "_law_rule" (.call "Rule" (.cons (.name "_law_count") (.cons (.name "_law_table_here") .nil))))
(.cons (.assign "_law_full" (.list .nil))
(.cons (.for1 "_law_choice" (.e (.bi1 .sorted (.name "_law_table_here")))
(.cons (.ite (.cmp .notin (.name "_law_choice") (.name "_law_full"))
(.cons (.append "_law_full" (.name "_law_choice"))
.nil)
.nil)
.nil))
(.cons (.assign "_law_text" (.bin .cat (.bin .cat (.bi1 .str (.name "_law_count")) (.str ": ")) (.sm .join (.str ", ") (.comp (.call "_law_words" (.cons (.name "_law_choice") .nil)) "_law_choice" (.e (.name "_law_full"))))))
(.cons (.assign "_law_found" (.call "shown" (.cons (.name "_law_rule") .nil)))
(.cons (.ite (.or (.not (.isi (.name "_law_found") "str")) (.cmp .sne (.name "_law_found") (.name "_law_text")))
(.cons (.ret (.bool NY))
.nil)
.nil)
(.cons (.assign "_law_more" (.call "_law_cell_at" (.cons (.name "_law_script") (.cons (.int 3) .nil))))
(.cons (.ite (.cmp .eq (.bin .mod (.name "_law_more") (.int 4)) (.int 1))
(.cons (.assign "_law_turned_rows" (.bin .add (.comp (.rev (.name "_law_choice")) "_law_choice" (.e (.rev (.name "_law_full")))) (.list (.cons (.sub (.name "_law_full") (.bin .mod (.bin .fdiv (.name "_law_more") (.int 4)) (.bi1 .len (.name "_law_full")))) .nil))))
(.cons (.assign "_law_text" (.bin .cat (.bin .cat (.bi1 .str (.name "_law_count")) (.str ": ")) (.sm .join (.str ", ") (.comp (.call "_law_words" (.cons (.name "_law_choice") .nil)) "_law_choice" (.e (.name "_law_turned_rows"))))))
.nil))
.nil)
(.cons (.ite (.cmp .eq (.bin .mod (.name "_law_more") (.int 4)) (.int 2))
(.cons (.assign "_law_text" (.call "_law_changed" (.cons (.name "_law_text") (.cons (.bin .fdiv (.name "_law_more") (.int 4)) (.cons (.bin .mul (.int 2) (.bi1 .intB (.cmp .gt (.bi1 .len (.name "_law_full")) (.int 4)))) .nil)))))
.nil)
.nil)
(.cons (.ite (.cmp .eq (.bin .mod (.name "_law_more") (.int 4)) (.int 3))
(.cons (.assign "_law_text" (.call "_law_odd_line" (.cons (.bin .fdiv (.name "_law_more") (.int 4)) .nil)))
.nil)
.nil)
(.cons (.assign "_law_told_here" (.call "_law_read" (.cons (.name "_law_text") .nil)))
(.cons (.assign "_law_due_here" (.call "_law_due" (.cons (.name "_law_told_here") .nil)))
(.cons (.ite (.cmp .ne (.call "_law_told" (.cons (.name "_law_text") .nil)) (.name "_law_due_here"))
(.cons (.ret (.bool NY))
.nil)
.nil)
(.cons (.ite (.cmp .gt (.name "_law_due_here") (.int 0))
(.cons (.ret (.and (.or (.cmp .gt (.name "_law_due_here") (.int 1)) (.call "_law_refused_alone" (.cons (.name "_law_text") .nil))) (.cmp .seq (.call "shown" (.cons (.call "read" (.cons (.name "_law_found") .nil)) .nil)) (.name "_law_found"))))
.nil)
.nil)
(.cons (.assign "_law_held_here" (.call "read" (.cons (.name "_law_text") .nil)))
(.cons (.assign "_law_other" (.call "read" (.cons (.str "3: 0 1, 0 2, 1 2") .nil)))
(.cons (.assign "_law_full" (.list .nil))
(.cons (.for1 "_law_choice" (.e (.bi1 .sorted (.comp (.bi1 .sorted (.name "_law_choice")) "_law_choice" (.e (.sub (.name "_law_told_here") (.int 1))))))
(.cons (.ite (.cmp .notin (.name "_law_choice") (.name "_law_full"))
(.cons (.append "_law_full" (.name "_law_choice"))
.nil)
.nil)
.nil))
(.cons (.ite (.or (.cmp .sne (.call "shown" (.cons (.name "_law_rule") .nil)) (.name "_law_found")) (.or (.cmp .ne (.attr (.name "_law_other") "full") (.list (.cons (.list (.cons (.int 0) (.cons (.int 1) .nil))) (.cons (.list (.cons (.int 0) (.cons (.int 2) .nil))) (.cons (.list (.cons (.int 1) (.cons (.int 2) .nil))) .nil))))) (.cmp .ne (.attr (.name "_law_other") "count") (.int 3))))
(.cons (.ret (.bool NY))
.nil)
.nil)
(.cons (.ret (.and (.call "_law_whole" (.cons (.attr (.name "_law_held_here") "count") .nil)) (.and (.cmp .eq (.attr (.name "_law_held_here") "count") (.sub (.name "_law_told_here") (.int 0))) (.call "_law_rows_are" (.cons (.attr (.name "_law_held_here") "full") (.cons (.name "_law_full") .nil))))))
.nil)))))))))))))))))))))))⟩
noncomputable def p_L:uq (If×Fn):=[("PickError", j4),("NoChoice", j4),("NoThing", j4),("NoExchange", j4),("NoWeights", j4),("NoRule", j4),("exchanged", p_exchanged),("known_of", p_known_of),("goes", p_goes),("fault", p_fault),("need_row", p_need_row),("Rule", p_Rule),("choice_text", p_choice_text),("shown", p_shown),("number_of", p_number_of),("choice_of", p_choice_of),("read", p_read),("_law_cell_at", l_cell_at),("_law_whole", l_whole),("_law_bit", l_bit),("_law_row_is", l_row_is),("_law_rows_are", fP),("_law_subsets", l_subsets),("_law_apart", l_apart),("_law_parts", l_parts),("_law_few", l_few),("_law_pairs_by", l_pairs_by),("_law_table", l_table),("_law_held", l_held),("_law_can", l_can),("_law_fault", l_fault),("_law_words", kj),("_law_number", l_number),("_law_part", l_part),("_law_read", mF),("_law_sound", l_sound),("_law_due", iK),("_law_told", eK),("_law_refused_alone", c9),("_law_odd_line", fK),("_law_sign_by", l_sign_by),("_law_changed", gQ),("law", s9)]
theorem kI:∀ ds:uq (uq N3),gq (ds.map aa)=ti ds
 | []=>rfl
 | d::ds=>by
  have g:=kI ds
  have:aR (d.map Oz)=ti d:=dJ d
  simp only[Pe,gq,aa,this,g,R8,UC]
theorem nS (ha:ev C a σ = .ok (.d (af ds),m)) (hn:ds≠[]) (hl:ds.length<64):∃ m',ev C (.bi1 .sorted a) σ = .ok (.d (af (bl ds)),m')/\m'≠.sh:=by
 have h:aR (ds.map aa)=none:=by
  cases ds with
  | nil=>exact N5 rfl hn
  | cons d ds=>rfl
 have g:dO (ds.map aa)=none:=by
  cases ds with
  | nil=>exact N5 rfl hn
  | cons d ds=>rfl
 refine (ah (fresh ((bl ds).map aa)) ?_ (by unfold fresh; split<;>simp))
 rw[dh ha]
 show cZ (ds.map aa)=_
 unfold cZ
 rw[NZ (by rw[Oc]; exact hl),h]
 dsimp only
 unfold eY
 rw[g]
 dsimp only
 rw[kI]
 rfl
theorem libH:LibH p_L:=⟨⟨rfl,rfl,rfl,rfl,rfl,rfl,rfl,rfl,rfl,rfl,rfl,rfl,rfl,rfl⟩,rfl,rfl⟩
theorem libY:LibY p_L:=⟨⟨⟨⟨⟨libH.toLib,rfl,rfl,⟨_,rfl⟩⟩,⟨_,rfl⟩⟩,⟨_,rfl⟩,rfl,rfl,rfl,rfl,rfl,rfl,rfl,rfl⟩,λx g=>Sj.mp ((show ∀ x∈excNames,(p_L.lookup x).isSome=vj by decide +kernel) x g)⟩,rfl,rfl⟩
section
theorem ze (xs:uq N3) (t:uq (uq N3)):cq .notin (.d (aa xs)) (.d (af t)) = .ok (!decide (xs∈t)):=by
 show ((inV (aa xs) (.d (af t))).bind λb=>Out.ok (!b))=_
 rw[qo]; rfl
theorem oO (acc pre:uq (uq N3)) (r:uq N3):dq acc (pre++[r])=if r∈dq acc pre then dq acc pre else dq acc pre++[r]:=by
 unfold dq; rw[List.foldl_append]; rfl
theorem Runs.once (H:Has σ hs) (hz:∀ v w,Sub (("_law_full", w)::("_law_choice", v)::hs) hs) (hz':∀ v,Sub (("_law_choice", v)::hs) hs) (hσ:σ "_law_full" = ti (.d (af []),.deep)) (hit:be C it σ = .ok (u.map aa,m)) (hf : "_law_full" ∉ bD it) (hl:u.length<=1000) (k:∀ σ',Has σ' (("_law_full", .d (af (dq [] u)))::hs)->Runs C b σ' Post) :
  Runs C (.cons (.for1 "_law_choice" it (.cons (.ite (.cmp .notin (.name "_law_choice") (.name "_law_full")) (.cons (.append "_law_full" (.name "_law_choice")) .nil) .nil) .nil)) b) σ Post:=by
 refine Runs.for (g:=aa) (xs:=u) (λi σ=>Has σ hs/\∃ m,σ "_law_full" = ti (.d (af (dq [] i)),m)/\m≠.sh) hit (λz h hh=>⟨h _ H,.deep,(hh _ hf).trans hσ,by decide⟩) ?_ ?_
 ·rintro i y t hp σ ⟨H,m,hσ,p⟩
  have H1:=H.mk "_law_choice" (.d (aa y))
  have j:upd σ "_law_choice" (mk (.d (aa y))) "_law_full" = ti (.d (af (dq [] i)),m):=(N0 (by decide)).trans hσ
  have r:ev C (.name "_law_choice") (upd σ "_law_choice" (mk (.d (aa y)))) = .ok (.d (aa y),.sh):=H1.ev (x:="_law_choice") (bX ..)
  generalize upd σ "_law_choice" (mk (.d (aa y)))=σ1 at H1 j r ⊢
  have l:(dq [] i).length<=1000:=by
   refine cg (iR i [] .nil) λs h1 h2 _ _=>?_
   rw[h1]
   have:=h2.length_le
   rw[hp,Ox] at hl
   exact vc this (vc (Os ..) hl)
  refine Runs.ite (a9 r (kC j rfl) (ze y _)) (λq=>?_) λq=>Runs.nil (Runs.nil ?_)
  ·have q:y∉dq [] i:=by simpa using q
   refine Runs.cons (o:=(upd (demote σ1 ["_law_choice"]) "_law_full" (.d (af (dq [] i++[y])),.top),.next)) ?_ (Runs.nil (Runs.nil ?_))
   ·simp only[fN,r,Out.ok_bind,pd,gK,j,jr,N0 p]
    unfold lp
    rw[NZ (by rw[Ox,Oc]; exact O6 (vc l (by decide))),N0 (by decide),N0 (by decide)]
    unfold af; rw[Rs]; rfl
   ·refine ⟨((H1.demote _).upd "_law_full" _ .top).sub (hz _ _),.top,?_,by decide⟩
    rw[oO,N0 q]
    exact fx (demote σ1 ["_law_choice"]) "_law_full" _
  ·have q:y∈dq [] i:=by simpa using q
   refine ⟨H1.sub (hz' _),m,?_,p⟩
   rw[oO,NZ q]
   exact j
 ·rintro σ ⟨H,m,hσ,p⟩
  refine k σ λx v n=>?_
  by_cases e:x = "_law_full"
  ·subst e
   rw[bX] at n
   cases n
   exact ⟨m,hσ⟩
  ·exact H x v ((gT e _ _).symm.trans n)
end
theorem lh (lib:LibY L) (n:N7) (hz:TX z):(readS z=NI/\ax (mkC L (n+5)) p_read [.d (.str z)] = .exc "NoRule") \/
  ∃ c t,readS z=ti (c,t)/\c<=99/\t≠[]/\t.length<=63/\(∀ r∈t,(∀ x∈r,0<=x)/\r.length<=1000000)/\zF c t (ax (mkC L (n+5)) p_read [.d (.str z)]):=by
 have e:=nR lib.toLibN (n+2) z hz.len
 cases h:readS z with
 | none=>exact .inl ⟨rfl,by rw[e,h]; rfl⟩
 | some q=>
  obtain ⟨j,i,l,k⟩:=uI h hz.len
  have g:q.2.length<=63:=vc l (O6 hz.com)
  refine .inr ⟨q.1,q.2,rfl,j,i,g,k,?_⟩
  rw[e,h]
  exact ls lib.toLibQ (n+1) q.1 q.2 j i g (hz.emp q h)
theorem JA:NoF 3 [[0,1],[0,2],[1,2]]:=λh l x v m g k j=>by
 have i:∀ h∈[[0,1],[0,2],[(1:N3),2]],∀ g∈[[0,1],[0,2],[(1:N3),2]],∀ x∈g,x∉h->∃ o∈h,o∉g/\∃ r∈[[0,1],[0,2],[(1:N3),2]],(h.filter (λy=>!decide (y=o))++[x]).Perm r/\r.Pairwise (·<=·):=by decide +kernel
 obtain ⟨o,u,t,r,q,p,n⟩:=i h l g k x j m
 refine UO.mpr ⟨o,u,?_⟩
 rw[OC t,OA (show dg h o x∈[[0,1],[0,2],[(1:N3),2]] by unfold dg; rw[qw p n]; exact q)]; rfl
theorem vP:readS (oD "3: 0 1, 0 2, 1 2")=ti (3,[[0,1],[0,2],[1,2]]):=by decide +kernel
theorem ym (s:uq N3) (hs:s.length<=63):∃ m,ax (mkC p_L 8) s9 [.d (aa s)] = .ok (.d (.bool vj),m):=by
 refine ⟨.deep,?_⟩
 unfold s9
 refine cW rfl λσ H=>?_
 obtain ⟨oq,e1,c,t,hr,hd⟩:=eu (σ:=σ) (n:=7) libH.held (es:=.cons (.name "_law_script") .nil) (ak (H.ev rfl) av) rfl (wE libH 3 s hs)
 obtain ⟨rv,rm⟩:=oq
 cases hr
 have hc:c<=99:=hd.hc
 have hc':0<=(c:N3)/\(c:N3)<100:=⟨Ot _,Qu.mpr (Pv hc)⟩
 have hg:∀ r∈t,Good c r:=λr h=>(hd.rows r h).good
 have hso:t.map aU=t:=(RU λr hr=>li (hd.rows r hr).1).trans (Q0 t)
 have hu:=bP t
 rw[hso] at hu
 have hut:∀ r∈az t,r∈t:=λr hr=>(hu.2.1 r).mp hr
 have hRw:∀ r∈az t,Rw r:=λr hr=>⟨vc (hg r (hut r hr)).len (OX hc),λx hx=>⟨((hg r (hut r hr)).1 x hx).1,SP ((hg r (hut r hr)).1 x hx).2 hc'.2⟩⟩
 have hul:(az t).length<=62:=vc hu.2.2.2 hd.len
 have hun:=ll hd.ne
 have hE:[]∈az t->az t=[[]]:=λq=>by
  have all:=hd.nf.empty hd.rows (hut _ q)
  rcases e:az t with _ | ⟨a,_ | ⟨b,l⟩⟩
  ·exact N5 e hun
  ·rw[all a (hut a (by rw[e]; simp))]
  ·have n:=hu.1
   rw[e,all a (hut a (by rw[e]; simp)),all b (hut b (by rw[e]; simp))] at n
   simp at n
 refine Runs.set H e1 λσ H _=>?_
 refine Runs.set H (kl (m:=.sh) (H.ev (x:="_law_made") (v:=.d (.tuple [.int c,af t])) rfl) (ai 0)) λσ H _=>?_
 obtain ⟨m1,e2,_,_⟩:=cr (C:=mkC p_L 8) (σ:=σ) (g:=aa) (l:=t) (z:="_law_choice") (it:=.e (.sub (.name "_law_made") (.int 1))) (a:=.bi1 .sorted (.name "_law_choice")) aU .deep (aD (iX (m:=.sh) (H.ev (x:="_law_made") (v:=.d (.tuple [.int c,af t])) rfl) (ai 1)) (aH t .sh)) λr hr=>fw ((Has.nil.mk "_law_choice" (.d (aa r))).ev rfl) (N4 (hg r hr).len (N4 hc (by decide))) λi hi=>((hg r hr).1 i hi).1
 rw[hso] at e2
 refine Runs.set H e2 λσ H _=>?_
 clear e1 e2
 have hrule:=ls libY.toLibQ 4 c t hc hd.ne (OX hd.len) λq=>hd.nf.empty hd.rows q
 rcases hrule with ⟨q,_⟩ | ⟨_,q,_⟩ | ⟨_,_,k,er⟩
 ·exact N5 hg q
 ·rw[hso] at q; exact N5 hd.nf q
 refine Runs.set H (BI libY.toLibR (ak (H.ev (x:="_law_count") rfl) (ak (H.ev (x:="_law_table_here") rfl) av)) rfl er) λσ H _=>?_
 refine Runs.set H im λσ H hσ=>?_
 obtain ⟨m2,e3,_⟩:=nS (C:=mkC p_L 8) (H.ev (x:="_law_table_here") rfl) hd.ne (N4 hd.len (by decide))
 refine Runs.once (u:=bl t) (hs:=[("_law_rule", .rule c (af (az t)) k),("_law_count", .d (.int c)),("_law_script", .d (aa s))]) (H.sub ⟨rfl,rfl,rfl,trivial⟩) (λ_ _=>⟨rfl,rfl,rfl,trivial⟩) (λ_=>⟨rfl,rfl,rfl,trivial⟩) hσ (aD e3 (aH _ _)) (by simp[fR,mZ,eQ]) (by rw[jE]; exact vc hd.len (by decide)) λσ H=>?_
 rw[show dq [] (bl t)=az t by unfold az; rw[hso]] at H
 have wf:∀ r,Rw r->∀ σ,Has σ [("_law_choice", .d (aa r))]->ev (mkC p_L 8) (.call "_law_words" (.cons (.name "_law_choice") .nil)) σ = .ok (sS (a5 r)):=λr hr σ H=>(aZ (show p_L.lookup "_law_words" = ti kj from rfl) (ak (H.ev rfl) av)).trans (rL _ hr)
 obtain ⟨e4,htl⟩:=ui (f:="_law_words") (H.ev (C:=mkC p_L 8) (x:="_law_count") rfl) hc' (aD (H.ev (x:="_law_full") rfl) (aH (az t) .sh)) (OX hul) hRw λr hr=>wf r (hRw r hr)
 refine Runs.set H e4 λσ H _=>?_
 have sh:∀ {σ:St}{a:E}{m:Mode}{c:N7}{u:uq (uq N3)}{k:N3},c<=99->u.length<=63->(∀ r∈u,Rw r)->ev (mkC p_L 8) a σ = .ok (.rule c (af u) k,m)->ev (mkC p_L 8) (.call "shown" (.cons a .nil)) σ = .ok (sS (bi c u)):=λh1 h2 h3 h=>(aZ libY.shown (ak h av)).trans (uF libY.toLibN 6 ⟨Ot _,Qu.mpr (Pv h1)⟩ h2 h3)
 refine Runs.set H (sh hc (OX hul) hRw (H.ev (x:="_law_rule") rfl)) λσ H _=>?_
 refine Runs.no (cX (p:=NY) (q:=NY) (du (t:=vj) (l0 (H.ev (x:="_law_found") rfl) rfl)) λ_=>(zC (H.ev (x:="_law_found") rfl) (H.ev (x:="_law_text") rfl)).trans (by rw[Pi]; rfl)) ?_
 refine Runs.set H (cO libH.toLib (H.ev (x:="_law_script") rfl) (ai 3) (by decide)) λσ H _=>?_
 generalize bG s 3=more at H
 have e5:=aY (H.ev (C:=mkC p_L 8) (x:="_law_more") rfl) (ai 4) (by decide)
 refine Runs.iteTo (λσ=>∃ z,Has σ [("_law_text", .d (.str z)),("_law_found", .d (.str (bi c (az t)))),("_law_rule", .rule c (af (az t)) k),("_law_full", .d (af (az t))),("_law_more", .d (.int more))]/\TX z/\(more%4=2->z=bi c (az t))) (cJ e5 (ai 1)) (λq=>?_) (λq=>Runs.nil ⟨rfl,_,H.sub ⟨rfl,rfl,rfl,rfl,rfl,trivial⟩,TX.txt (Pv hc) hun (OX hul) hRw (λq r hr=>by rw[hE q] at hr; exact N1.mp hr) htl,λ_=>rfl⟩) ?_
 ·have hpos:(0:N3)<(az t).length:=Qu.mpr (Sh.mpr hun)
  obtain ⟨m3,e6⟩:=Dq (H.ev (C:=mkC p_L 8) (x:="_law_full") rfl)
  obtain ⟨m4,e7,_,_⟩:=cr (C:=mkC p_L 8) (σ:=σ) (g:=aa) (l:=(az t).reverse) (z:="_law_choice") (it:=.e (.rev (.name "_law_full"))) (a:=.rev (.name "_law_choice")) Vb .deep (aD e6 (aH _ _)) λr hr=>by
   simp only[jU,(Has.nil.mk (σ:=σ) "_law_choice" (.d (aa r))).ev (C:=mkC p_L 8) (x:="_law_choice") rfl,Out.ok_bind]
   show Out.ok (V.d (.list (r.map Oz).reverse),fresh (r.map Oz).reverse)=_
   rw[<- Xm,gS]; rfl
  obtain ⟨w,hw⟩:∃ w,(az t)[(more/4%(az t).length).toNat]? = ti w:=⟨_,Oh (by
   have a:=OQ (more/4) (TM hpos)
   have b:=O0 (more/4) hpos
   lia)⟩
  obtain ⟨m5,e8⟩:=vm (lJ (H.ev (C:=mkC p_L 8) (x:="_law_full") rfl) (aY (cY (H.ev (x:="_law_more") rfl) (ai 4) (by decide) (by decide)) (eA (H.ev (x:="_law_full") rfl)) hpos) (OQ _ (TM hpos)) hw)
  obtain ⟨m6,e9⟩:=ji e7 e8 (by rw[Oc,TI]; exact vc (O6 hul) (by decide))
  refine Runs.set H e9 λσ H _=>?_
  have hw':=PF hw
  have hTl:((az t).reverse.map Vb++[w]).length<=63:=by rw[Ox,Oc,TI]; exact O6 hul
  have hTm:∀ r∈(az t).reverse.map Vb++[w],∃ r'∈az t,r.Perm r':=λr hr=>by
   rcases Op.mp hr with hr | hr
   ·refine aB hr λr' h1 oq=>?_
    rw[<- oq]
    exact ⟨r',Tg.mp h1,Uf r'⟩
   ·rw[N1.mp hr]; exact ⟨w,hw',.refl _⟩
  have hTw:∀ r∈(az t).reverse.map Vb++[w],Rw r:=λr hr=>ag (hTm r hr) λr' h1 p=>⟨by rw[p.length_eq]; exact (hRw r' h1).1,λx hx=>(hRw r' h1).2 x (p.mem_iff.mp hx)⟩
  obtain ⟨e10,hl2⟩:=ui (f:="_law_words") (H.ev (C:=mkC p_L 8) (x:="_law_count") rfl) hc' (aD (H.ev (x:="_law_turned_rows") rfl) (aH _ .sh)) hTl hTw λr hr=>wf r (hTw r hr)
  refine Runs.set H e10 λσ H _=>Runs.nil ⟨rfl,_,H.sub ⟨rfl,rfl,rfl,rfl,rfl,trivial⟩,TX.txt (Pv hc) (by simp) hTl hTw (λq r hr=>?_) hl2,λq'=>?_⟩
  ·obtain ⟨r',h1,p⟩:=hTm _ q
   obtain ⟨r2,h2,p2⟩:=hTm r hr
   rw[hE (p.nil_eq▸h1)] at h2
   rw[N1.mp h2] at p2
   exact p2.eq_nil
  ·have:=Oy q
   rw[q'] at this; exact N5 this (by decide)
 clear H e4 e5
 rintro σ ⟨z,H,hz,hz2⟩
 have e5:=aY (H.ev (C:=mkC p_L 8) (x:="_law_more") rfl) (ai 4) (by decide)
 refine Runs.iteTo (λσ=>∃ z,Has σ [("_law_text", .d (.str z)),("_law_found", .d (.str (bi c (az t)))),("_law_rule", .rule c (af (az t)) k),("_law_more", .d (.int more))]/\TX z) (cJ e5 (ai 2)) (λq=>?_) (λq=>Runs.nil ⟨rfl,_,H.sub ⟨rfl,rfl,rfl,rfl,trivial⟩,hz⟩) ?_
 ·obtain rfl:=hz2 (Oy q)
  have elow:∃ low:N7,low<=2/\ev (mkC p_L 8) (.bin .mul (.int 2) (.bi1 .intB (.cmp .gt (.bi1 .len (.name "_law_full")) (.int 4)))) σ = .ok (sI low):=by
   have e:=gZ (eA (H.ev (C:=mkC p_L 8) (x:="_law_full") rfl)) (ai 4)
   refine ⟨2*(if decide ((4:N3)<(az t).length) then 1 else 0),by split<;>decide,?_⟩
   refine (jO (ai 2) ((dh e).trans rfl) (by decide)).trans ?_
   cases decide ((4:N3)<(az t).length)<;>rfl
  obtain ⟨low,hlow,el⟩:=elow
  have h2:low<=(bi c (az t)).length:=by
   refine vc hlow ?_
   unfold bi
   rw[PH,PH]
   exact vc (Pa 2 _) (Os _ _)
  obtain ⟨_,ec,z,rfl,hz⟩:=pR libY 6 (bi c (az t)) (more/4) low h2 htl
  refine Runs.set H ((aZ (show p_L.lookup "_law_changed" = ti gQ from rfl) (ak (H.ev (x:="_law_text") rfl) (ak (cY (H.ev (x:="_law_more") rfl) (ai 4) (by decide) (by decide)) (ak el av)))).trans ec) λσ H _=>Runs.nil ⟨rfl,z,H.sub ⟨rfl,rfl,rfl,rfl,trivial⟩,TX.change (Pv hc) hun hul hRw hE htl hz⟩
 clear H hz hz2 e5 z
 rintro σ ⟨z,H,hz⟩
 have e5:=aY (H.ev (C:=mkC p_L 8) (x:="_law_more") rfl) (ai 4) (by decide)
 refine Runs.iteTo (λσ=>∃ z,Has σ [("_law_text", .d (.str z)),("_law_found", .d (.str (bi c (az t)))),("_law_rule", .rule c (af (az t)) k)]/\TX z) (cJ e5 (ai 3)) (λq=>?_) (λq=>Runs.nil ⟨rfl,_,H.sub ⟨rfl,rfl,rfl,trivial⟩,hz⟩) ?_
 ·obtain ⟨_,ec,z,rfl,hz⟩:=xq (mkC p_L 7) (more/4)
  refine Runs.set H ((aZ (show p_L.lookup "_law_odd_line" = ti fK from rfl) (ak (cY (H.ev (x:="_law_more") rfl) (ai 4) (by decide) (by decide)) av)).trans ec) λσ H _=>Runs.nil ⟨rfl,z,H.sub ⟨rfl,rfl,rfl,trivial⟩,hz⟩
 clear H hz e5 z
 rintro σ ⟨z,H,hz⟩
 obtain ⟨rd,e6,hrd⟩:=te libY.toLibN 5 z hz.len
 obtain ⟨rv,rm⟩:=rd
 cases hrd
 refine Runs.set H ((aZ (show p_L.lookup "_law_read" = ti mF from rfl) (ak (H.ev (x:="_law_text") rfl) av)).trans e6) λσ H _=>?_
 clear e6
 have back:∀ {σ:St},Has σ [("_law_found", .d (.str (bi c (az t))))]->ev (mkC p_L 8) (.cmp .seq (.call "shown" (.cons (.call "read" (.cons (.name "_law_found") .nil)) .nil)) (.name "_law_found")) σ = .ok (sB vj):=λ{σ} H=>by
  have T:=TX.txt (Pv hc) hun (OX hul) hRw (λq r hr=>by rw[hE q] at hr; exact N1.mp hr) htl
  have hsu:∀ r∈az t,aU r=r:=λr hr=>li (hd.rows r (hut r hr)).1
  have hmu:(az t).map aU=az t:=(RU hsu).trans (Q0 _)
  rcases lh libY 2 T with ⟨q,_⟩ | ⟨c',t',q,_,_,_,_,A⟩
  ·rw[lu (Pv hc) hun hRw] at q; cases q
  ·rw[lu (Pv hc) hun hRw] at q
   cases q
   rcases A with ⟨q,_⟩ | ⟨_,q,_⟩ | ⟨_,_,k',er⟩
   ·exact N5 (λr hr=>hg r (hut r hr)) q
   ·rw[hmu] at q; exact N5 (hd.nf.set λr=>(hu.2.1 r).symm) q
   ·rw[pC hu.1 hsu hu.2.2.1] at er
    refine (iT (sh hc (OX hul) hRw ((aZ libY.read (ak (H.ev (x:="_law_found") rfl) av)).trans er)) (H.ev (x:="_law_found") rfl)).trans (by rw[Pi])
 have td:=vp libY.toLibX 6 z rfl
 have tl_:∀ {σ:St}{i:N3},Has σ [("_law_text", .d (.str z))]->ax (mkC p_L 7) eK [.d (.str z)] = .ok (sI i)->ev (mkC p_L 8) (.call "_law_told" (.cons (.name "_law_text") .nil)) σ = .ok (sI i):=λH h=>(aZ (show p_L.lookup "_law_told" = ti eK from rfl) (ak (H.ev rfl) av)).trans h
 rcases lh libY 1 hz with ⟨hn,ex6⟩ | ⟨c',t',hn,hc1,ht1,hl1,h01,A⟩
 ·-- no rule
  rw[hn] at H
  refine Runs.set H ((aZ (show p_L.lookup "_law_due" = ti iK from rfl) (ak (H.ev (x:="_law_told_here") rfl) av)).trans (xu 7)) λσ H _=>?_
  refine Runs.no ((gX (tl_ (H.sub ⟨rfl,trivial⟩) (td.2.1 ex6)) (H.ev (x:="_law_due_here") rfl)).trans rfl) ?_
  refine Runs.ite (t:=vj) (gZ (H.ev (x:="_law_due_here") rfl) (ai 0)) (λ_=>Runs.ret ((dT (p:=vj) (q:=vj) (cX (p:=NY) (q:=vj) (gZ (H.ev (x:="_law_due_here") rfl) (ai 1)) λ_=>(aZ (show p_L.lookup "_law_refused_alone" = ti c9 from rfl) (ak (H.ev (x:="_law_text") rfl) av)).trans (pV libY.toLibX 6 z ex6)) λ_=>back (H.sub ⟨rfl,trivial⟩))) rfl) λq=>nomatch q
 ·rw[hn] at H
  obtain ⟨_,e7,d,rfl,D⟩:=y7 libY.toLibN 5 c' t' hc1 h01
  refine Runs.set H ((aZ (show p_L.lookup "_law_due" = ti iK from rfl) (ak (H.ev (x:="_law_told_here") rfl) av)).trans e7) λσ H _=>?_
  clear e7
  have two:∀ {i:N3},1<i->Has σ [("_law_due_here", .d (.int i)),("_law_text", .d (.str z)),("_law_found", .d (.str (bi c (az t))))]->ax (mkC p_L 7) eK [.d (.str z)] = .ok (sI i)->∀ {b:Ss},Runs (mkC p_L 8) (.cons (.ite (.cmp .ne (.call "_law_told" (.cons (.name "_law_text") .nil)) (.name "_law_due_here")) (.cons (.ret (.bool NY)) .nil) .nil) (.cons (.ite (.cmp .gt (.name "_law_due_here") (.int 0)) (.cons (.ret (.and (.or (.cmp .gt (.name "_law_due_here") (.int 1)) (.call "_law_refused_alone" (.cons (.name "_law_text") .nil))) (.cmp .seq (.call "shown" (.cons (.call "read" (.cons (.name "_law_found") .nil)) .nil)) (.name "_law_found")))) .nil) .nil) b)) σ (λ_ fl=>fl = .ret (sB vj)):=λ{i} hi H ht b=>by
   refine Runs.no ((gX (tl_ (H.sub ⟨rfl,trivial⟩) ht) (H.ev (x:="_law_due_here") rfl)).trans (by rw[OA rfl]; rfl)) ?_
   refine Runs.ite (t:=vj) ((gZ (H.ev (x:="_law_due_here") rfl) (ai 0)).trans (by rw[OA (SP (by decide) hi)])) (λ_=>Runs.ret ((dT (p:=vj) (q:=vj) (mV ((gZ (H.ev (x:="_law_due_here") rfl) (ai 1)).trans (by rw[OA hi]))) λ_=>back (H.sub ⟨rfl,trivial⟩))) rfl) λq=>nomatch q
  rcases A with ⟨a1,a2⟩ | ⟨a1,a2,a3⟩ | ⟨a1,a2,k1,a3⟩
  ·rcases D with ⟨_,rfl⟩ | ⟨q,_⟩ | ⟨q,_⟩
   ·exact two (by decide) (H.sub ⟨rfl,rfl,rfl,trivial⟩) (td.2.2.1 a2)
   ·exact N5 q a1
   ·exact N5 q a1
  ·rcases D with ⟨q,_⟩ | ⟨_,_,rfl⟩ | ⟨_,q,_⟩
   ·exact N5 a1 q
   ·exact two (by decide) (H.sub ⟨rfl,rfl,rfl,trivial⟩) (td.2.2.2 a3)
   ·exact N5 q a2
  ·rcases D with ⟨q,_⟩ | ⟨_,q,_⟩ | ⟨_,_,rfl⟩
   ·exact N5 a1 q
   ·exact N5 a2 q
   clear two back
   refine Runs.no ((gX (tl_ (H.sub ⟨rfl,trivial⟩) (td.1 ⟨_,a3⟩)) (H.ev (x:="_law_due_here") rfl)).trans rfl) ?_
   refine Runs.no ((gZ (H.ev (x:="_law_due_here") rfl) (ai 0)).trans rfl) ?_
   obtain ⟨k2,e8⟩:∃ k2:N3,ax (mkC p_L 7) p_read [.d (.str z)] = .ok (.rule c' (af (az t')) k2,.deep):=by
    rcases lh libY 2 hz with ⟨q,_⟩ | ⟨c2,t2,q,_,_,_,_,A⟩
    ·rw[hn] at q; cases q
    ·rw[hn] at q
     cases q
     rcases A with ⟨q,_⟩ | ⟨_,q,_⟩ | ⟨_,_,k2,e⟩
     ·exact N5 a1 q
     ·exact N5 a2 q
     ·exact ⟨k2,e⟩
   obtain ⟨k3,e9⟩:∃ k3:N3,ax (mkC p_L 7) p_read [.d (.str (oD "3: 0 1, 0 2, 1 2"))] = .ok (.rule 3 (af [[0,1],[0,2],[1,2]]) k3,.deep):=by
    have e:=nR libY.toLibN 4 (oD "3: 0 1, 0 2, 1 2") (by decide +kernel)
    rw[vP] at e
    have hs3:∀ r∈[[0,1],[0,2],[(1:N3),2]],aU r=r:=λr hr=>li ((show ∀ r∈[[0,1],[0,2],[(1:N3),2]],r.Pairwise (· < ·) by decide) r hr)
    rcases ls libY.toLibQ 3 3 [[0,1],[0,2],[1,2]] (by decide) (by decide) (by decide) (by decide) with ⟨q,_⟩ | ⟨_,q,_⟩ | ⟨_,_,k3,er⟩
    ·exact N5 (show ∀ r∈[[0,1],[0,2],[(1:N3),2]],Good 3 r by unfold Good; decide) q
    ·rw[(RU hs3).trans (Q0 _)] at q; exact N5 JA q
    ·rw[pC (by decide) hs3 (by decide +kernel)] at er
     exact ⟨k3,e.trans er⟩
   refine Runs.set H ((aZ libY.read (ak (H.ev (x:="_law_text") rfl) av)).trans e8) λσ H _=>?_
   refine Runs.set H ((aZ libY.read (ak (eG rfl) av)).trans e9) λσ H _=>?_
   refine Runs.set H im λσ H hσ=>?_
   have hlg:∀ r∈t',r.length<=99:=λr hr=>vc (a1 r hr).len hc1
   obtain ⟨m7,e10,_,_⟩:=cr (C:=mkC p_L 8) (σ:=σ) (g:=aa) (l:=t') (z:="_law_choice") (it:=.e (.sub (.name "_law_told_here") (.int 1))) (a:=.bi1 .sorted (.name "_law_choice")) aU .deep (aD (iX (m:=.sh) (H.ev (x:="_law_told_here") (v:=.d (.tuple [.int c',af t'])) rfl) (ai 1)) (aH t' .sh)) λr hr=>fw ((Has.nil.mk "_law_choice" (.d (aa r))).ev rfl) (N4 (hlg r hr) (by decide)) (h01 r hr).1
   obtain ⟨m8,e11,_⟩:=nS e10 (λq=>ht1 (Qx.mp q)) (by rw[Oc]; exact Pv hl1)
   refine Runs.once (u:=bl (t'.map aU)) (hs:=[("_law_other", .rule 3 (af [[0,1],[0,2],[1,2]]) k3),("_law_held_here", .rule c' (af (az t')) k2),("_law_told_here", .d (.tuple [.int c',af t'])),("_law_found", .d (.str (bi c (az t)))),("_law_rule", .rule c (af (az t)) k)]) (H.sub ⟨rfl,rfl,rfl,rfl,rfl,trivial⟩) (λ_ _=>⟨rfl,rfl,rfl,rfl,rfl,trivial⟩) (λ_=>⟨rfl,rfl,rfl,rfl,rfl,trivial⟩) hσ (aD e11 (aH _ _)) (by simp[fR,mZ,qa,nG,eQ,sM]) (by rw[jE,Oc]; exact vc hl1 (by decide)) λσ H=>?_
   have hRu:mkC p_L 8 "Rule" = ti λvs=>iZ "Rule" (mkC p_L 7) p_Rule vs:=rfl
   obtain ⟨o1,o2,_⟩:=qY (m:=.sh) hRu (H.ev (x:="_law_other") rfl)
   obtain ⟨g1,g2,_⟩:=qY (m:=.sh) hRu (H.ev (x:="_law_held_here") rfl)
   have e12:ev (mkC p_L 8) (.list (.cons (.list (.cons (.int 0) (.cons (.int 1) .nil))) (.cons (.list (.cons (.int 0) (.cons (.int 2) .nil))) (.cons (.list (.cons (.int 1) (.cons (.int 2) .nil))) .nil)))) σ = .ok (.d (af [[0,1],[0,2],[1,2]]),.deep):=by
    simp only[b8,bw,bF,eN,Out.ok_bind]; rfl
   refine Runs.no (cX (p:=NY) (q:=NY) ((zC (sh hc (OX hul) hRw (H.ev (x:="_law_rule") rfl)) (H.ev (x:="_law_found") rfl)).trans (by rw[Pi]; rfl)) λ_=>cX (p:=NY) (q:=NY) ((Fl o2 e12).trans rfl) λ_=>(gX o1 (ai 3)).trans rfl) ?_
   refine Runs.ret (dT (p:=vj) (q:=vj) ((aZ libH.whole (ak g1 av)).trans (lU _ _)) λ_=>dT (p:=vj) (q:=vj) ((cJ g1 (kl (m:=.sh) (H.ev (x:="_law_told_here") (v:=.d (.tuple [.int c',af t'])) rfl) (ai 0))).trans (by rw[OA rfl])) λ_=>(aZ (show p_L.lookup "_law_rows_are" = ti fP from rfl) (ak g2 (ak (H.ev (x:="_law_full") rfl) av))).trans (oV libY 5 (az t') (vc (bP t').2.2.2 (vc hl1 (by decide))) λr hr=>?_)) rfl
   refine aB (((bP t').2.1 r).mp hr) λr' h1 oq=>?_
   rw[<- oq,(cT r').length_eq]
   exact vc (hlg r' h1) (by decide)
open PySem.W
theorem Bg:(defOf zvw (Xv Rb).name).isSome=true:=by kernel_rfl
noncomputable def dw:=(defOf zvw (Xv Rb).name).get Bg
theorem Bz:dw.1.name=oD "law" := by kernel_rfl
theorem zex:bB p_L=excNames:=by kernel_rfl
theorem t1:tP zvw []=true:=by kernel_rfl
theorem t2:(eM zvw []).isSome=true:=by kernel_rfl
theorem t3:j8 zvw [] p_L=true:=by kernel_rfl
theorem zt5:defOf zvw (Xv Rb).name=some (dw.1,dw.2):=by kernel_rfl
theorem zt6:zrw.prog.theDef (Xv Rb).name=some (dw.1.params,dw.1.body,dw.1.scope):=by kernel_rfl
theorem zt7:kwWritten? dw.1.params.kwonlyargs dw.1.params.kw_defaults=some dw.2:=by kernel_rfl
end Internal
set_option tactic.hygienic true
open PySem PySem.W PyProof.Rows
set_option maxRecDepth 100000
set_option maxHeartbeats 8000000
theorem PySem.Challenge.cw_uf050037_13_holds : PySem.Challenge.rw_uf050037_13.Holds := by
  w_on
  refine holds_law (by
    unfold OpenLaw.wellSaid
    iterate 18 (refine look_both ?_ ?_)
    · unfold OpenRow.wellSaid
      iterate 2 (refine look_both ?_ ?_)
      · unfold OpenRow.partSaid
        iterate 12 (refine look_both ?_ ?_)
        · unfold looksOpen
          iterate 5 (refine look_both ?_ ?_)
          all_goals decide +kernel
        all_goals decide +kernel
      all_goals decide +kernel
    all_goals decide +kernel) fun said=>?_
  refine holds_open (q:=Internal.zvw) (loose:=[]) (Xt:=Internal.zxw) (XP:=XL Internal.zvw []) (Yf:=Hook.obs Internal.zhk) (Ya:=Hook.val Internal.zhk) (YP:=Hook.says Internal.zhk) (d:=Internal.dw.1) (kwd:=Internal.dw.2) (N:=5000) Internal.zt4 (Hook.of Internal.zhk) (Hook.keeps Internal.zhk) (fun s e=>xl_of s (Bool.and_eq_true_iff.mp e).1) XL.keeps Internal.zt5 Internal.zt6 Internal.zt7 (fun s e=>recFacts_of (Bool.and_eq_true_iff.mp e).2) (by rfl) (by assumption) (by decide +kernel) ⟨rfl,rfl,rfl,rfl,rfl,by decide +kernel⟩ ?hw ?hc
  case hw=>w_witness2
  intro w s₀ s₁ mg mb G Y fa o pm cd doc dV kV ho hd hcd hD hmg hg args vals as hpre hlay hrd hwl hlo
  refine Ground.open G ?_
  intro T B D TE TW
  clear hd hcd hD
  rw [Internal.Bz] at hmg
  wrow_args hpre hlay hrd hwl hlo
  rename_i ns _ _ _ _ _ _ _ a vs _ hL ra w1 r0 hI hr hc1 hc2
  have e:=Internal.uA (by simpa only [ofPy] using w1) hL
  obtain ⟨m,hsp⟩:=Internal.ym ns (by omega)
  refine Internal.y4 (n:=8) (ns:=ns) T TE (Internal.zex.symm ▸ Y) (L:=Internal.p_L) Internal.t3 Internal.t1 Internal.t2 rfl (.inr (by decide)) rfl hmg (by decide) hsp e hI (by omega) fun h' tk kk=>?_
  refine ⟨.inl ⟨_,.bool true,[],rfl,?_,?_,?_,?_⟩,kk,rfl,.of_eq hg⟩
  · intro cls; first | rfl | exact raisesW_false allW_false_nil
  · exact .bool true
  · wrow_post
  · exact fun _=>⟨.nil,fun _ h=>nomatch h⟩
