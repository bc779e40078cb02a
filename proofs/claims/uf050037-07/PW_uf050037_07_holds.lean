import PyProof.Rows.All
import Wide.All
import Wide.FinOn
import Open.Line
import PyProof.P3Statements
import PyProof.Lay0
import PyProof.P3In
import PyProof.NeData
import PyProof.CompFree
import PyProof.DictRoadsH
import PyProof.DictWalks
import PyProof.Rows.SortShell
import PyProof.Rows.RuleB_xor
import PyProof.Rows.RuleB_small
import PyProof.Rows.RuleB_floordiv
import PyProof.Rows.RuleB_mod
import PyProof.Rows.RuleB_mul
import PyProof.Rows.IntRules
import PyProof.Rows.RuleC_int
import PyProof.Rows.RuleU_int
import PyProof.ListOps
import PyProof.Cells
import PyProof.Calls
import PyProof.SliceMore
import PyProof.TupleOfSeq
import PyProof.ListCopy
import PyProof.CodeObjX
import PyProof.Rows.PlainObj
import PyProof.ExcClass2
import PyProof.ExcArgsOwn
import PyProof.IsInstanceH
import PyProof.ExcAttrAll.ValueError
import PyProof.DictStraight
import PyProof.Rows.StrTemp
import PyProof.TupleOps
import PyProof.ListIndexNeg
import PyProof.Rules3
import PyProof.SliceList
import PyProof.Rows.TupSub
import PyProof.ForRange
import PyProof.Rows.DictMade
import PyProof.WalkInts
import PyProof.SeqI3
import PyProof.SumWalkG
import PyProof.WalksMore
import PyProof.IsiPairs
import PyProof.IsiHeapPairs
import PyProof.ListRange
import PyProof.Rows.SortWalk
import PyProof.IsiNone
import PyProof.Rows.SortRuns
import PyProof.Rows.CallKwBuiltin
import PyProof.DefMake
import PyProof.EvalArms
import PyProof.RangeFor
import PyProof.ListNew
import PyProof.Rows.DictUnroll
import PyProof.Rows.PlainNoArg
import PyProof.LetGo
import PyProof.ForAppend
import PyProof.CallRoads
import PyProof.MeetsSeq
import PyProof.AutoSeq1
import PyProof.ForAny
import PyProof.Raises
import PyProof.RaisesMany
import PyProof.StationsW
import PyProof.ExcBaseAll.ValueError
import PyProof.Rows.TupTab
import PyProof.RulesAs
import PyProof.RulesTry
import PyProof.Rows.TupIter
import PyProof.ObjNew
import PyProof.InstStore
import PyProof.AssignAttr
import PySem.Challenge.RW_uf050037_07
set_option Elab.async false
set_option autoImplicit true
set_option bootstrap.genMatcherCode false
set_option genSizeOf false
set_option genInjectivity false
set_option linter.all false

set_option tactic.hygienic false
set_option linter.unusedVariables false
set_option linter.unusedSectionVars false
universe u0 u1 u2 u3 u4 u5 u6 u7 u8 u9 u10 u11
open Array (mem_def)
namespace Internal
open PySem.Str renaming ofString->mL,ofString_eq_toList->Vv
open Option renaming bind_eq_some_iff->U6,bind_some->TX,getD_some->Xv,isNone_iff_eq_none->R7,isSome_iff_exists->S5,isSome_map->WU,map_eq_some_iff->Sj,map_some->Ta,none->OC,none->Q4,some->rg
open Option.some renaming inj->vj,injEq->Jab
open _root_ renaming Array->OP,Bool->Pr,Decidable->V6,False->PW,ForInStep->Pd,Int->OF,List->vk,Nat->ON,Option->OE,PUnit->W7,StateT->Tn,String->Ot,True->VU,Unit->Ur,absurd->OW,beq_eq_false_iff_ne->Re,beq_iff_eq->OZ,beq_self_eq_true->QH,bne_self_eq_false->UT,congrArg->RM,decide_eq_decide->SN,decide_eq_false->P0,decide_eq_false_iff_not->RO,decide_eq_true->PK,decide_eq_true_eq->Pk,forall_congr'->YS,if_false->P2,if_neg->OB,if_pos->OD,if_true->Ri,imp_congr_right->X6,liftM->ZI,map_eq_pure_bind->Xx,of_decide_eq_false->Rt,of_decide_eq_true->Pp,or_false->Ug
open Bool renaming and_eq_true->OJ,and_eq_true_iff->QT,and_false->Yw,eq_false_iff->Uw,eq_iff_iff->Uj,false->Oz,false_eq_true->Pn,false_ne_true->UI,noConfusion->PN,not_eq_true'->PL,or_eq_false_iff->Tj,or_eq_true->Vo,or_false->YG,or_true->W2,true->Gt
open PySem renaming Addr->O1,Arguments->Xn,Around->Pq,BoolOp->Z2,Builtin->Sr,Builtin->Ut,Comprehension->Wl,Const->Zw,DictEntry->U8,Drawn->Zz,ExceptHandler->S6,Fin->Xy,Flow->ZR,FuncData->ZT,GenState->VV,Heap->PE,IsRange->W0,IsRangeIter->ZC,IsTupleKey->Sx,Keyword->Y7,Model->UO,NameKind->PG,Operator->X8,OsState->WS,OwnTail->Y9,Program->Tz,PyData->OU,Result->Xp,Shared->OA,Stmt->R5,TriplesOk->YT,UnaryOp->Y6,Value->N8,allTrue->WV,argBest->W1,arm_eval_BoolOp->XU,assign->Vn,backTo->Rq,backToKw->ZO,binaryOp->WT,bindArgs->WR,bindC->XK,bindL->XJ,boolOp->Ui,builtinLookup_eq_fast->Rv,builtinsNs->Tl,cLine->UB,call->R3,callEnvC->QJ,callWith->Va,call_range_1->Zc,callerA->Y8,cellOf->Zd,cellsFrom->Ry,checkBuiltinCall->Xq,checkCount->Yr,claimMargin->ZV,closureFor->Vw,codeAmong->U7,codeAny->Us,codeAny_builtin->VD,codeAny_call_builtin->VW,codeAny_of_tree->X0,compPost->Vc,eval->SW,eval->WF,evalEach->VZ,excClassObj->Qy,execs->Yx,firstArgMember->Yt,foldedSetIterable->UR,getItem->WX,holding->Zb,intBits_le_64->YD,intKind->RD,intKind_is->Vr,interactive->SD,keywordEach->XI,leaving->X7,letOwnedTupleGo->VI,load_attr->Y0,lookupAlong->VX,lookupAlong_cons->U9,mainGlobals->Qt,methodCallForm->Yv,methodCallPos->YM,model->OT,name_of_addr->Zj,newFunctionEnv->Sz,operate->WW,plainId_quiet->YK,plainObj_wpAny_Assign_Attribute->RK,pushCells->YW,pushCells_keeps->Rz,pyIter->Xu,rangeSize_one->YF,rawInt->QE,recursionLimit->Q5,relabel->UQ,seqEpoch->Yp,seqIndex?->YU,setField->ZP,sizeLine->Rc,sizeLine_eq->P1,slicePick->YV,sliceRange->Yh,slot_list_getitem->UP,spliced->Vu,starEach->PV,step->Z7,storeName->Vh,storeName_local->X4,subscripted->T9,swapsWith->Vi,sysModules->UC,truthy->Z4,tupleKind->Xo,tupleKind_room_in1->Tm,typeLookup->R8,typeLookup_eq->UZ,typeLookup_type->Tf,unsupported->ZJ,updateSeq->YX,wpAny->OQ,wpAny_Assign_Name->Xh,wpAny_Call_NameR->Xs,wpAny_Call_method->Xi,wpAny_Constant_bool->Wc,wpAny_Constant_int->Wu,wpAny_Constant_str->Wv,wpAny_Expr_any->SE,wpAny_If->ZS,wpAny_Name->Yc,wpAny_Return_some->TK,wpAny_Slice->ZB,wpAny_UnaryOp->Wo,wpAny_allTrue_And_cons->Vt,wpAny_allTrue_Or_cons->VM,wpAny_alloc->ZE,wpAny_assign_Name->TA,wpAny_attempt->T6,wpAny_bind->If,wpAny_call->Ys,wpAny_call_entry->TV,wpAny_classOwn_exc->Wt,wpAny_comprehension_free->U0,wpAny_dictEntries->Xg,wpAny_dictEpoch->X1,wpAny_execs_cons->QI,wpAny_execs_nil->Ti,wpAny_field->Uf,wpAny_holding->P7,wpAny_in_heap->YE,wpAny_in_of->ZA,wpAny_isInstance->XC,wpAny_isOneOf_keyiter->VP,wpAny_isSubtype_exc->Rb,wpAny_isTrue_BoolOp->Wd,wpAny_ite_split->VG,wpAny_items_cons->Qv,wpAny_items_nil->Sp,wpAny_layCells->Yj,wpAny_letGo->ZM,wpAny_list_append_plain->Vb,wpAny_load->WD,wpAny_loadPart_at->PM,wpAny_mono->Qk,wpAny_mroOf_exc->XS,wpAny_newList->Su,wpAny_newObj_type->RF,wpAny_newTuple->V3,wpAny_of_eq->ZQ,wpAny_point->ZN,wpAny_pure->OL,wpAny_pyIter_list->WZ,wpAny_rule->Yo,wpAny_setField->TI,wpAny_setItem_heap->WH,wpAny_setItem_pairs->Wj,wpAny_standAt->S7,wpAny_storeName_cell->V1,wpAny_tests_nil->XV,wpAny_tests_one->XW,wpAny_truthy_bool->RE,wpAny_typeNameOfWhole_keyiter->RT,wpAny_typeNameOf_keyiter->Tc,wpAny_typeOf->W9,wpAny_updateSeq->VH
open Nat renaming add_assoc->Qq,add_comm->SY,add_le_add->RW,add_le_add_left->OS,add_le_add_right->Rn,add_le_of_le_sub'->VK,add_lt_add_left->PT,add_lt_add_right->T8,add_lt_of_lt_sub'->Ru,add_right_comm->Qr,add_sub_add_left->VR,add_sub_cancel'->Uk,add_sub_cancel_left->PX,add_sub_of_le->Pm,add_zero->VS,div_add_mod->XQ,div_lt_self->Uh,eq_zero_of_le_zero->Tu,eq_zero_of_not_pos->R2,le_add_left->Qj,le_add_right->O4,le_antisymm->P3,le_max_right->SK,le_mul_of_pos_left->Rg,le_of_eq->Pg,le_of_lt->O5,le_of_lt_succ->PD,le_of_not_lt->Pj,le_of_sub_eq_zero->RC,le_of_succ_le->SZ,le_refl->Pe,le_sub_of_add_le->QY,le_sub_one_of_lt->P5,le_succ->Vm,le_succ_of_le->Qu,le_total->Zs,le_trans->Lt,lt_add_of_pos_right->QS,lt_irrefl->TR,lt_of_le_of_lt->OH,lt_of_le_of_ne->Pu,lt_of_lt_of_le->OG,lt_of_not_le->RX,lt_of_sub_pos->T1,lt_of_succ_le->T0,lt_of_succ_lt->Tw,lt_or_ge->Y4,lt_sub_of_add_lt->SL,lt_succ_of_le->Rk,lt_succ_of_lt->S4,lt_succ_self->TQ,lt_trans->S0,max_le->Z1,min_eq_left->Rm,min_eq_right->RY,min_le_left->Qi,min_le_right->Xl,min_le_right->Y3,min_self->WN,mul_add->Zu,mul_le_mul_left->SV,ne_of_gt->T7,ne_of_lt->P8,not_le_of_lt->Tv,not_lt->Yg,not_lt_of_le->QM,not_lt_zero->VC,pos_of_ne_zero->Tk,pow_le_pow_right->Ro,pow_succ->VA,sub_add_cancel->R1,sub_eq_zero_of_le->Sv,sub_le->Ux,sub_le_iff_le_add'->RZ,sub_le_of_le_add->Sw,sub_le_sub_left->Sh,sub_le_sub_right->QZ,sub_lt->Uy,sub_lt_left_of_lt_add->QX,sub_one_lt_of_lt->Uc,sub_pos_of_lt->Rl,sub_right_comm->Uz,sub_self->VT,sub_zero->W6,succ_le_of_lt->Qz,succ_le_succ->Qn,succ_pos->Ts,succ_sub_succ->WJ,zero_add->Qm,zero_le->PZ,zero_max->WM
open PyProof.Rows renaming IntsAre->Q8,Keyed->OM,SortKind->Ua,SortSt->O0,Subscript_->Ye,args_list_sort->Yu,args_sorted1->Zh,arrOf->OI,collect_list->Zi,depth_under_make->XE,entry_list_sort->VF,entry_sorted->Xf,failedOf->PJ,firstOfTuple'->YH,general'->ZL,get?_update_seq->RB,getElem?_bubble->XX,getElem?_mirror_all->RL,keyKind'->Yn,kind_sorted->XH,listItems_at->SS,listUpdate_at->RI,list_sort_plain->X3,minRun'->Zf,minRun'_succ->Zg,mirror->U1,oneType'->W3,pendingOf->Px,plain_sorted->Xe,recsOf->X9,reverseSlice'->T5,seqEpoch_at->Ue,seqObj->Ph,setArr->Yk,slot_list_sort->V4,sortRuns'->V7,subscriptTail->S8,tail_any->Yd,tuples'->W8,wpS_bind->OR,wpS_forRange->QQ,wpS_get->SR,wpS_lift->ZK,wpS_modify->To,wpS_mono->Rf,wpS_pure->OX
open List renaming all->Jaj,all_eq_true->P9,all_map->WY,any_eq_true->TY,any_map->Zk,append_assoc->QO,append_eq_nil_iff->TL,append_nil->RH,cons_append->XA,contains_cons->T4,countP_cons->TT,drop->Xz,drop_drop->V8,drop_eq_getElem_cons->Q6,drop_eq_nil_iff->Ub,drop_length->SA,drop_nil->WO,drop_sublist->US,drop_succ_cons->Wf,drop_zero->SQ,exists_mem_of_ne_nil->UM,exists_of_findSome?_eq_some->TN,ext_getElem?->TF,filterMap_cons->Sy,filterMap_map->Ww,filter_cons->Vk,filter_eq_nil_iff->Vy,filter_filter->WI,find?_cons->XT,find?_some->VJ,findSome?_append->VQ,findSome?_cons->Uq,findSome?_eq_none_iff->QR,foldl->Yl,foldl_cons->Wx,forIn_cons->UE,forIn_nil->V9,getElem?_append_right->UH,getElem?_eq_getElem->OY,getElem?_eq_none->Ql,getElem?_eq_some_iff->PF,getElem?_map->PO,getElem?_of_mem->SC,getElem?_range->Un,getElem?_zip_eq_some->Rx,getElem_drop->SP,getElem_mem->SO,getElem_of_mem->SB,getElem_take->Uu,isEmpty_iff->Tq,length_append->O3,length_cons->Pz,length_drop->QU,length_eraseIdx_le->Vj,length_filter_le->Q1,length_map->OV,length_pos_iff->SX,length_pos_of_mem->TB,length_range->UU,length_reverse->We,length_singleton->O6,length_take->RQ,length_zip->TU,lookup->ZX,lookup_cons->PQ,map->Jak,mapM_cons->Ym,mapM_nil->YI,mapM_toArray->Xc,map_append->SI,map_congr_left->Uo,map_cons->Qo,map_drop->YR,map_eq_nil_iff->Wk,map_id'->TM,map_map->Vx,map_nil->Zl,mem_append->O7,mem_append_left->PC,mem_append_right->PA,mem_cons->O9,mem_cons_self->T2,mem_filter->Qs,mem_map->Tx,mem_of_find?_eq_some->SU,mem_of_getElem?->QC,mem_of_mem_drop->So,mem_of_mem_eraseIdx->U4,mem_of_mem_take->QW,mem_range->V0,mem_reverse->Ve,mem_singleton->OK,mergeSort_perm->QA,nil_append->Wz,nodup_append->R9,nodup_cons->Q0,not_mem_nil->RU,of_mem_zip->WE,pairwise_append->Qh,pairwise_cons->S9,pairwise_map->Rj,pairwise_mergeSort->Q9,pairwise_singleton->Vf,perm_append_comm->RN,perm_cons->Yi,range->Qe,reverse_append->Ul,reverse_cons->WP,reverse_perm->W5,reverse_reverse->Ud,size_toArray->Pf,sublist_append_left->Te,take_append_drop->Qw,take_length->Vd,take_nil->YO,take_of_length_le->Qp,take_sublist->W4,take_succ_eq_append_getElem->TC,take_zero->V2,toList_toArray->Wg,zipIdx_cons->Xw,zipIdx_nil->VE,zip_cons_cons->Q2,zip_nil_right->UG
open PySem.Heap renaming SameBut->PR,clsAt_spec->XR,get?_none_of_le->Qa,get?_push_ne->TJ,get?_push_of_some->OO,get?_push_size->Pa,get?_update_ne->Wh,get?_update_other->PI,get?_update_self->PH,lt_size->Rh,size_push->Tr,size_update->XD
open Array renaming append_assoc->Wr,eraseIdxIfInBounds->U2,forIn_toList->WC,getElem?_eq_getElem->Rw,getElem?_eq_some_iff->QP,getElem_extract->VN,getElem_mem->QV,length_toList->O2,mem_toList_iff->UF,perm_iff_toList_perm->Q7,size_extract->WA,size_map->Yq,size_zip->Xd,toList_append->PY,toList_inj->WB,toList_map->Vg,toList_push->RS,toList_reverse->TD
open PySem.PyData renaming canLay0->VY,canLayAll0->UW,depth->Vs,depthAll->Tg,eqv->QN,eqvAll->Q3,int->O8,list->ZW
open PySem.Obj renaming cls_mapFields->UV,data_mapFields->Sf,isFreed_of_fields->TP,mapFields->Td,mapSeq->Pb,putNameByArray->QF,putName_eq->Rs
open Or renaming elim->Pc
open Int renaming add_le_add_left->Wa,add_lt_add_left->Wb,add_nonneg->RG,add_sub_cancel->Wq,emod_lt_of_pos->Qg,emod_nonneg->PS,le_antisymm->Sg,le_of_eq->Tt,le_of_lt->QL,le_refl->UN,le_trans->Pi,lt_of_le_of_lt->QD,lt_of_lt_of_le->Qd,lt_succ->XF,lt_trans->Vl,mul_lt_mul_of_pos_left->UJ,mul_nonneg->YA,natCast_nonneg->Pv,natCast_pos->VB,ne_of_gt->Y1,ne_of_lt->Y5,not_le->Xm,not_lt->Rp,ofNat_le->Qx,ofNat_lt->U5,self_le_toNat->WL,sub_le_self->XO,sub_neg->Zt,toNat_le->WK,toNat_lt->Y2,toNat_natCast->TH,toNat_of_nonneg->P4,toNat_sub->YC
open PySem.Value renaming bool->Z3,builtin->UY,int->Jad,none->Sd,ref->Py,type->Tp
open PySem.Heap.SameBut renaming update->PB
open PySem.Builtin.List renaming listExtendWith->QK,listFitsIndex->SH,listItems->Qf,listLengthHint->Uv,listSameRef->U3,listUpdate->PP
open Pure renaming pure->PU
open Ne renaming symm->P6
open PySem.NameKind renaming cell->T3,free->QB
open PySem.Builtin.Range renaming rangeSize->QG,small->Um
open ForInStep renaming yield->Ra
open List.Pairwise renaming imp->Xk,imp_of_mem->RJ,nil->Jac
open PySem.Challenge renaming rw_uf050037_07->RP
open Inhabited renaming default->R4
open PySem.F renaming args_list_init_2->YL,attrBase_ValueError->VL,called_list->ZZ,entry_list_init->YZ,excBase_ValueError->SJ,plainAttrs_list->Xj,plain_extend_loop->UL,slot_dict_iter->XB,slot_dict_keyiterator_next->Sq,slot_dict_len->Zp,slot_gs_get->Wm,slot_list_insert->WG,slot_list_pop->X5,store_object->ZU,typeCall_list_1->YY,typeOf_object_class->TO
open List.Perm renaming append_left->Zq,eq_of_pairwise->YJ,of_eq->Th,trans->Jai
open PyProof.Rows.SortSt renaming mk'->TS
open Eq renaming symm->TZ,trans->Zv
open PySem.Builtin renaming bitXor->UA
open ForIn renaming forIn->UD
open Classical renaming byContradiction->UK,epsilon->WQ,epsilon_spec->Vp
open List.Sublist renaming append->Z0,refl->UX
open PySem.Env renaming kindOf->Vq
open PySem.Code renaming builtin->Vz,quiet_builtin->Ws
open PySem.Builtin.Dict renaming dictSlotNone->YB,showsAll->VO
open PySem.Around renaming frames_deeper->V5
open PySem.EntryCells renaming newEntry->Wi
open PySem.AutoSeq1 renaming list_insert_list_int_val_1->Wp
open Char renaming toNat->Wy
open PySem.IsRange renaming new->XG
open PySem.Within renaming cons->XM,nil->Yz
open PySem.W.OpenLaw renaming row->XN
open StateT renaming run_pure->XY
open Array.Perm renaming refl->XZ
open PySem.Builtin.Dict_items renaming ownsTuple->X2
open PySem.W renaming same->Yb
open PySem.MeetsSeq renaming list_pop_at->Yy
open PySem.Expr renaming ListComp->YN
open Function renaming comp->YQ
open PyProof renaming noPylong_small->Za
open PySem.IsiPair renaming NoneType_bool->Zn,NoneType_int->ZG,NoneType_list->Zo,NoneType_str->ZH,NoneType_tuple->Ze,tuple_bool->Z8,tuple_list->Z9,tuple_tuple->ZY
open PySem.P renaming getItem_tuple->Zm
open OfNat renaming ofNat->Zr
open PySem.Data renaming fields->Zy
open PySem.Heap.Ns renaming new->ZF
open PySem.Heap.IsSliceOf renaming new->Z5
open PySem.Walks renaming list->Z6
open PySem.IsL renaming update->Jaa
open PySem.DictEntry renaming refKey->Jae
open PySem.Data.fields renaming inj->Jaf
open PySem.Heap.DictOf renaming new->Jag
open List.cons renaming injEq->Jah
open Int.ofNat renaming inj->Jal
open PySem.Value.ref renaming inj->Jam
section
open Nat (add_lt_of_lt_sub le_min mul_two one_pos sub_sub two_mul)
theorem nLe {x n:ON}(h:(x:OF)<=@Zr OF n instOfNat):x<=n:=Qx.mp h
theorem nLm {x n:ON}(h:x<=n):(x:OF)<=@Zr OF n instOfNat:=Qx.mpr h
theorem lte {a b c:ON}(h:a<c) (e:b=c):a<b:=e▸h
theorem lee {a b c:ON}(h:a<=c) (e:b=c):a<=b:=e▸h
theorem elt {a b c:ON}(e:a=c) (h:c<b):a<b:=e▸h
theorem ele {a b c:ON}(e:a=c) (h:c<=b):a<=b:=e▸h
theorem jle {a b c:OF}(e:a=c) (h:c<=b):a<=b:=e▸h
theorem nn {x:OF}{n:ON}(e:x = ↑n):0<=x:=e▸Pv n
theorem m9 {x:OF}{n:ON}(h:7+x/9%3 = ↑n):n<=9:=by lia
theorem m18 {x:OF}{n:ON}(h:7+x%12 = ↑n):n<=18:=by lia
theorem m12 {x:OF}{n:ON}(h:7+x%6 = ↑n):n<=12:=by lia
theorem m4 {x:OF}{n:ON}(h:1+x%4 = ↑n):n<=4:=by lia
theorem m5 {x:OF}{n:ON}(h:x%6 = ↑n):n<=5:=by lia
theorem p9 {x y:OF}(h:1+x/3%9=y):0<y:=by lia
theorem q9 {x y:OF}(h:1+x/3%9=y):y<=9:=by lia
theorem r9 {x y:OF}(h:x/27%9=y):0<=y:=by lia
theorem dbl {a b:ON}(h:a<=b):a+a<=b*2:=by lia
theorem tlt {x:OF}{n:ON}(h0:0<n) (h:x < ↑n):x.toNat<n:=by lia
theorem tln {x:OF}{n:ON}(h0:0<=x) (h:x < ↑n):x.toNat<n:=by lia
theorem nxl {a b c:ON}(h:a+b<c):a<c:=OH (O4 a b) h
theorem nxe {a b c:ON}(h:a+b<=c):a<=c:=Lt (O4 a b) h
theorem adl {a b c d:ON}(h:b<c) (g:a+c<=d):a+b<d:=OG (PT h a) g
theorem adE {a b c d:ON}(h:b<=c) (g:a+c<=d):a+b<=d:=Lt (OS h a) g
theorem qa {a b c:ON}(h:a<c):a-b<c:=OH (Ux a b) h
theorem Cp {a b c:ON}(h:a<=c):a-b<=c:=Lt (Ux a b) h
theorem mne {a b c:ON}(h:b<=c):min a b<=c:=Lt (Xl a b) h
theorem mnl {a b c:ON}(h:a<=c):min a b<=c:=Lt (Qi a b) h
theorem vlo{a b c:ON}:a<=a+b-(a+b-(a+c)):=QY (OS (Lt (Pg (VR a b c)) (Ux b c)) a)
theorem pl {a b:ON}(p:0<a) (h:a<b+1):a-1<b:=OG (Nat.sub_one_lt (T7 p)) (PD h)
theorem sl {a b:ON}(h:1<=b):a+b-1<a+b:=Uy (OG h (Qj _ _)) Nat.one_pos
theorem mn2{a b:ON}:min a b+1+(b-a)=b+1:=by rw[Qr,SY (min a b),Nat.min_comm,Nat.sub_add_min_cancel]
theorem ts {a b:ON}{x:OF}(e:x = ↑b):((a:OF)-(x+1)).toNat=a-(b+1):=by subst e; exact YC a (b+1)
theorem r9b {x y:OF}(h:x/27%9=y):y<=8:=h▸Int.le_of_lt_add_one (Qg _ (by decide))
theorem rm1 {u k c:ON}{b:Prop} [V6 b] (h:u+100*k+(if b then 200 else 300)<c):u+1<c:=OH (RW (O4 u _) (by split<;>decide)) h
theorem na1 {a:OF}(h:a.natAbs<2^63):-2^64<a:=by lia
theorem na2 {a:OF}(h:a.natAbs<2^63):a<2^64:=by lia
theorem wle {a b:ON}(h:1<=b) (e:0+a+(b-a)-1=b-1):a<=b:=(Nat.le_total a b).elim id λg=>by rw[Qm,Sv g,VS] at e; exact Pg (Nat.sub_one_cancel (OG h g) h e)
theorem hf (n:ON):n/2<=n-1:=by
 cases n with
 | zero=>exact Pe _
 | succ n=>exact PD (Uh (Ts n) (by decide))
variable {a b c d e f:ON}
variable {a b c d e f:ON}
variable {a b c d e f:ON}
theorem la1{a:OF}{b:ON}:0<=a->a<b->a.toNat<b:=λp q=>tln p q
theorem la2{a:ON}:0<a->(↑a:OF)≠(0:OF):=λp=>Y1 (VB.mpr p)
theorem la3{a:ON}:0<a->(0:OF)<(↑a:OF):=λp=>VB.mpr p
theorem la4{a:OF}{b:ON}:0<b->a%b<b->(a%(↑b:OF)).toNat<b:=λp q=>tlt p q
theorem la5{a b c:OF}:c<=b->0<=a/\a<c->a<b:=λp q=>Qd q.2 p
theorem la6{a b c:OF}:c<=b->0<=a/\a<c->0<=a/\a<b+1:=λp q=>And.intro q.1 (Qd q.2 (Pi p (QL (XF _))))
theorem la7{a b:OF}:0<=b->b<=a->0<=a/\a<a+1:=λp q=>And.intro (Pi p q) (XF _)
theorem la8{a b c:OF}:c<=b->0<=a/\a<c->0<=a/\a<b:=λp q=>And.intro q.1 (Qd q.2 p)
theorem la9:b=a+(c+1)->a<b:=λp=>lte (QS (Ts _)) p
theorem LA:a<=7->a<=1000000:=λp=>Lt p (by decide)
theorem Cz:b<=7->a<b->a<=6:=λp q=>PD (OG q p)
theorem Ml:b<=7->c<b->a<=c->a+1<=1000000:=λp q r=>Lt (Lt (Qz (OH r q)) p) (by decide)
theorem LP:a<=b->b<=2^6->a+a<=1000000:=λp q=>Lt (dbl (Lt p q)) (by decide)
theorem Cs:a<=b->a+a<=b*2:=λp=>dbl p
theorem C4{a:ON}:(↑a:OF)<=(↑(a+(1:ON)):OF):=Qx.mpr (O4 _ _)
theorem CU{a:ON}{b:OF}:b=a->a<=b:=λp=>Tt (TZ p)
theorem CA{a:OF}{b:ON}:a=b->a+1<=(↑(b+(1:ON)):OF):=λp=>Tt (by rw[p]; rfl)
theorem yg:a<a+(b+1):=QS (Ts _)
theorem K6:a=b->b<=2^6->a+a<=1000000:=λp q=>Lt (dbl (ele p q)) (by decide)
theorem KV:a=b->a+a=b*2:=λp=>by rw[p,mul_two]
theorem Lb:a<=5->a<=1000000:=λp=>Lt p (by decide)
theorem Ll:b<=5->a<b->a<=5:=λp q=>Lt (O5 q) p
theorem Co:b<=5->c<b->a<=c->a+1<=1000000:=λp q r=>Lt (Lt (Qz (OH r q)) p) (by decide)
theorem L1:a<=b->b<=2^5->a+a<=1000000:=λp q=>Lt (dbl (Lt p q)) (by decide)
theorem KY{a:ON}{b:OF}:b=a->2*a<=2*b:=λp=>Tt (by rw[p])
theorem Ld{a:OF}{b:ON}:a=b->2*a+1<=2*(↑(b+(1:ON)):OF):=λh=>by rw[h,Int.natCast_succ,Int.mul_add]; exact Wa (by decide) _
theorem Me{a:ON}{b:OF}:b=a->2*a<=2*b+1:=by intro p; lia
theorem K9{a:OF}{b:ON}:a=b->2*a+1+1<=2*(↑(b+(1:ON)):OF):=by intro p; lia
theorem LM{a:OF}:a%(6:OF)=(↑(a%(6:OF)).toNat:OF):=TZ (P4 (PS _ (by decide)))
theorem LQ{a:ON}{b:OF}:b%6=a->a<=1000000:=λp=>Lt (m5 p) (by decide)
theorem CF{a:OF}{b:ON}:0<=a/\a<b->0<=6+a:=λp=>RG (by decide) p.1
theorem Ci{a:ON}:a<=6->(↑a:OF)<=(100:OF):=λp=>Pi (Qx.mpr p) (by decide)
theorem L9{a:ON}{b:OF}:b%6=a->a<=63:=λp=>Lt (m5 p) (by decide)
theorem CB:b<=6->a<=b->a<=12:=λp q=>Lt q (Lt p (by decide))
theorem LR{a:OF}:(7:OF)+a/(9:OF)%(3:OF)=(↑((7:OF)+a/(9:OF)%(3:OF)).toNat:OF):=(P4 (RG (by decide) (PS _ (by decide)))).symm
theorem Lc{a:ON}{b:OF}:7+b/9%3=a->a<=1000000:=λp=>Lt (m9 p) (by decide)
theorem Mc{a:OF}{b:ON}:a=b->0<=a+1:=λp=>RG (nn p) (by decide)
theorem LO{a b:OF}{c d:ON}:7+b/9%3=c->a=d->d<c->a+1<=1000:=λp q r=>by subst q; exact Qx.mpr (Lt r (Lt (m9 p) (by decide)))
theorem LZ{a:ON}{b:OF}:7+b/9%3=a->(↑a:OF)<=(1000:OF):=λp=>Pi (Qx.mpr (m9 p)) (by decide)
theorem Mg{a:ON}{b:OF}{c:ON}:7+b/9%3=c->a<c->a<=9:=λp q=>Lt (O5 q) (m9 p)
theorem Lr{a b:ON}{c d:OF}{e f:ON}:7+d/9%3=b->a<=e->c=f->e<=36->a+((↑b:OF)-(c+(1:OF))).toNat<=(1000000:ON):=λp q r s=>Lt (RW (Lt q s) (Lt (Pg (ts r)) (Lt (Ux _ _) (m9 p)))) (by decide)
theorem Mx{a b:ON}{c:OF}{d e:ON}{f:OF}:7+f/9%3=b->a<=d->c=e->a+((↑b:OF)-(c+(1:OF))).toNat<=d+((8:ON)-e):=λp q r=>RW q (Lt (Pg (ts r)) (Lt (QZ (m9 p) _) (Pg (WJ 8 _))))
theorem Ma{a:OF}{b:ON}:a<a+1+b:=Qd (XF a) (Int.le_add_of_nonneg_right (Pv b))
theorem LW{a:OF}{b c:ON}:c<b->a=c->0<=a/\a<b:=λp q=>by subst q; exact ⟨Pv _,U5.mpr p⟩
theorem Lk{a:OF}{b c d:ON}:a=d->b<((↑c:OF)-(a+(1:OF))).toNat->0<=a+1+b/\a+1+b<c:=λp q=>And.intro (RG (RG (nn p) (by decide)) (Pv _)) (by subst p; exact U5.mpr (Ru (Nat.lt_of_lt_of_eq q (ts rfl))))
theorem K7{a:ON}{b:OF}:7+b/9%3=a->a<=9:=λp=>m9 p
theorem LS{a:ON}{b:OF}:7+b/9%3=a->(↑a:OF)<=(100:OF):=λp=>Pi (Qx.mpr (m9 p)) (by decide)
theorem Mb:a<=b->b<=36->a<=63:=λp q=>Lt p (Lt q (by decide))
theorem Mq{a:ON}:(0:OF)<(↑a:OF)+(1:OF):=Int.lt_add_one_of_le (Pv _)
theorem L7{a:OF}{b:ON}:b=7->(a/(9:OF)%(7:OF)).toNat<b:=λp=>p▸(Y2 (PS _ (by decide))).mpr (Qg _ (by decide))
theorem LC{a b:OF}:0<=a/\a<=b->a=(↑a.toNat:OF):=λp=>TZ (P4 p.1)
theorem Le{a b:OF}:0<=a/\a<=b->(↑a.toNat:OF)<=b:=λp=>jle (P4 p.1) p.2
theorem Mz{a:OF}:(1:OF)+a%(4:OF)=(↑((1:OF)+a%(4:OF)).toNat:OF):=(P4 (RG (by decide) (PS _ (by decide)))).symm
theorem Lg{a:ON}:a<=63->¬(63:OF)<(↑a:OF):=λp=>Rp.mpr (nLm p)
theorem Mf{a:ON}{b:OF}:1+b%4=a->a<=5:=λp=>Lt (m4 p) (by decide)
theorem L5{a:ON}{b:OF}:1+b%4=a->(2:OF)*(↑a:OF)<=(100:OF):=λp=>Qx.mpr (Lt (SV 2 (m4 p)) (by decide))
theorem Md:a<=32->a<=63:=λp=>Lt p (by decide)
theorem My{a:ON}{b:OF}{c:ON}:1+b%4=c->a<=c->a<=12:=λp q=>Lt q (Lt (m4 p) (by decide))
theorem Mo{a:ON}:(↑a:OF)<=(6:OF)->a<=6:=λp=>nLe p
theorem CQ{a:ON}:(↑a:OF)<=(7:OF)->a<=1000000:=λp=>Lt (nLe p) (by decide)
theorem LB{a b:ON}:(↑b:OF)<=(7:OF)->a<b->a<=6:=λp q=>PD (OG q (nLe p))
theorem Lj{a b c:ON}:(↑b:OF)<=(7:OF)->c<b->a<=c->a+1<=1000000:=λp q r=>Lt (Qn r) (Lt q (Lt (nLe p) (by decide)))
theorem Li:a<=c->c<=2^6->b<=a->a+b<=1000000:=λp q r=>Lt (RW (Lt p q) (Lt r (Lt p q))) (by decide)
theorem Lh:a<=c->b<=a->a+b<=c*2:=λp q=>adE q (dbl p)
theorem CL{a:ON}:(↑a:OF)<=(7:OF)->a<=7:=λp=>nLe p
theorem L6{a:OF}{b c:ON}:b=c->0<=a/\a<c->0<=a/\a<b:=λp q=>p▸q
theorem Ly{a b:ON}:(↑b:OF)<=(7:OF)->a<=b->a<=7:=λp q=>Lt q (nLe p)
theorem Mt:a<=b->b<=63->a<=63:=λp q=>Lt p q
theorem KX{a:ON}:(↑a:OF)<=(7:OF)->(↑a:OF)<=(100:OF):=λp=>Pi p (by decide)
theorem Mm{a b:ON}:(↑b:OF)<=(7:OF)->a<=b->a<=12:=λp q=>Lt q (Lt (nLe p) (by decide))
theorem LD{a b c d:OF}:b*c<b*d->a+b*c<a+b*d:=λp=>Wb p _
theorem Lm{a b c d:OF}:0<=a->0<=b*c->b*c<b*d->0<=a+b*c/\a+b*c<a+b*d:=λp q r=>And.intro (RG p q) (Wb r _)
theorem Dx{a b:ON}:a<b->(↑a:OF)<(↑b:OF):=λp=>U5.mpr p
theorem Mv{a:OF}:(7:OF)+a%(12:OF)=(↑((7:OF)+a%(12:OF)).toNat:OF):=(P4 (RG (by decide) (PS _ (by decide)))).symm
theorem Mj{a:ON}{b:OF}:7+b%12=a->a<=1000000:=λp=>Lt (m18 p) (by decide)
theorem Lf{a:OF}:0<1+a/12%4:=Qd (by decide) (Wa (PS _ (by decide)) 1)
theorem Mr{a:ON}{b:OF}:7+b%12=a->(↑a:OF)<=(100:OF):=λp=>Pi (Qx.mpr (m18 p)) (by decide)
theorem K2{a:ON}{b:OF}{c:ON}:7+b%12=c->a<=c->a<=63:=λp q=>Lt q (Lt (m18 p) (by decide))
theorem CM{a:OF}{b:ON}:0<=a/\a<b->0<=a/\a<b:=by intro p; omega
theorem LY{a:OF}:(7:OF)+a%(6:OF)=(↑((7:OF)+a%(6:OF)).toNat:OF):=(P4 (RG (by decide) (PS _ (by decide)))).symm
theorem Dc{a:ON}{b:OF}:7+b%6=a->a<=1000000:=λp=>Lt (m12 p) (by decide)
theorem KU{a:ON}{b:OF}:7+b%6=a->(↑a:OF)<=(100:OF):=λp=>Pi (Qx.mpr (m12 p)) (by decide)
theorem LV{a:ON}{b:OF}:7+b%6=a->a<=63:=λp=>Lt (m12 p) (by decide)
theorem KW{a:ON}{b:OF}{c:ON}:7+b%6=c->a<=c->a<=12:=λp q=>Lt q (m12 p)
theorem La{a:OF}:¬9<a->a<=9:=λp=>Rp.mp p
theorem Ln{a:ON}:¬(8:OF)<(↑a:OF)->a<=8:=λp=>nLe (Rp.mp p)
theorem Lx:b<=8->a<b->a<1000000:=λp q=>OG q (Lt p (by decide))
theorem Mn{a b:OF}:1+b/3%9=a->0<=a:=λp=>QL (p9 p)
theorem LX{a b:OF}:1+b/3%9=a->a<=9:=λp=>q9 p
theorem K3{a b c d:OF}:d/27%9=a->0<=b*c->0<=a+b*c:=λp q=>RG (r9 p) q
theorem LL{a b c d:OF}:d/27%9=a->b*c<=9*9->a+b*c<=100:=λp q=>Pi (Int.add_le_add (r9b p) q) (by decide)
theorem Mh:a<=8->a<=63:=λp=>Lt p (by decide)
theorem Lz:a<=12->a<=12:=by intro p; omega
theorem LG{a b:OF}:b/27%9=a->0<=a:=λp=>r9 p
theorem LN{a b:OF}:1+b/3%9=a->0<a:=λp=>p9 p
theorem LU:b<63->a<=b->a+1<=1000000:=λp q=>Lt (Qz (OH q p)) (by decide)
theorem LF:b<63->a<=b->a+1<64:=λp q=>T8 (OH q p) _
theorem tH:a<=1000->a<=1000000:=λp=>Lt p (by decide)
theorem Df:b<=1000->a<=b->a<=1000000:=λp q=>Lt q (Lt p (by decide))
theorem Ai:a<=b->a<=b+1:=λp=>Qu p
theorem oO:a<=b->a+1<=b+1:=λp=>Qn p
theorem GI:b<=1000->a<b->a<=1000:=λp q=>Lt (O5 q) p
theorem FS{a:OF}:0<=a->a<0->False:=λp q=>OW q (Rp.mpr p)
theorem IC{a:ON}{b:OF}:b<=a->a<b->False:=λp q=>OW q (Rp.mpr p)
theorem FJ{a:OF}{b:ON}:b<1000000->min a.toNat b+(b-a.toNat+(1:ON))<=(1000000:ON):=λp=>Lt (Pg (by rw[SY (_-_) 1,<- Qq]; exact mn2)) p
theorem IY{a b:OF}:0<=a/\a<b->a<0->False:=λp q=>OW q (Rp.mpr p.1)
theorem HA{a b:OF}:0<=a/\a<b->b<=a->False:=λp q=>OW p.2 (Rp.mpr q)
theorem EW{a b c:OF}:a<c->c<=b->a<=b:=λp q=>Pi (QL p) q
theorem KF{a b c:OF}:¬c<a->c<=b->a<=b:=λp q=>Pi (Rp.mp p) q
theorem zl{a:ON}:(0:OF)<=(↑a:OF):=Pv _
theorem y8{a b:OF}:a<=b->b<=a->a=b:=λp q=>Sg p q
theorem EF{a b:ON}{c:OF}:a=c->c=b->a=b:=λp q=>Jal (p.trans q)
theorem FY{a:OF}{b c d:ON}:c=a->d=b->d<=a->c<=b->a=b:=λp q r s=>by subst p q; exact RM Nat.cast (P3 s (Qx.mp r))
theorem sC:a<=100->a<=1000:=λp=>Lt p (by decide)
theorem JO:a<=100->a<=1000000:=λp=>Lt p (by decide)
theorem Gk{a:OF}:0<=a->a=(↑a.toNat:OF):=λp=>TZ (P4 p)
theorem Fg{a:ON}:(↑a:OF)<=(100:OF)->a<=1000:=λp=>Lt (nLe p) (by decide)
theorem IW:a<=12->a<63:=λp=>OH p (by decide)
theorem Jg{a:OF}{b:ON}:0<=a/\a<b->a=(↑a.toNat:OF):=λp=>TZ (P4 p.1)
theorem Fa{a b:ON}:(↑b:OF)<=(100:OF)->(0:OF)<=(↑a:OF)/\(↑a:OF)<(↑b:OF)->a<=1000:=λp q=>Lt (nLe (Pi (QL q.2) p)) (by decide)
theorem D6{a:ON}:(↑a:OF)<=(100:OF)->a<=1000000:=λp=>Lt (nLe p) (by decide)
theorem Ho{a b:ON}:(↑b:OF)<=(100:OF)->a<=b->a<=100:=λp q=>Lt q (nLe p)
theorem yT{a:ON}:(↑a:OF)<=(100:OF)->a<=100:=λp=>nLe p
theorem IP:a<=12->a<=100:=λp=>Lt p (by decide)
theorem HW:a<=12->a<=60:=λp=>Lt p (by decide)
theorem Jt{a:ON}:(↑a:OF)=(0:OF)->a=0:=λp=>Tu (Qx.mp (jle p (by decide)))
theorem FX:a<=100->a<128:=λp=>OH p (by decide)
theorem GO:a<=63->a<=1000:=λp=>Lt p (by decide)
theorem Ew:b<=63->a<=b->a<=1000000:=λp q=>Lt q (Lt p (by decide))
theorem HO:b<=63->a<=b->a<64:=λp q=>OH q (OH p (by decide))
theorem Je:b<=63->c<=b->a=c->a<=1000:=λp q r=>Lt (Lt (ele r q) p) (by decide)
theorem DS:a+(b+1)<=1000->a<=1000:=λp=>nxe p
theorem He{a b:OF}{c:Prop}:¬(a<0\/b<=a\/c)->0<=a/\a<b:=λp=>And.intro (Rp.mp λg=>p (.inl g)) (Xm.mp λg=>p (.inr (.inl g)))
theorem Gm:a+(b+1)<=1000->a+1+b<=1000:=λp=>by rw[Qr]; exact p
theorem Fc:a<=b-1->0<b->a+1<=b:=λp q=>Qz (OH p (Uy q (by decide)))
theorem DI{a:Prop}{b c:ON}:b<=c->c+1<=b->a:=λp q=>OW q (Tv (Rk p))
theorem ze:b=a->a<=b:=λp=>Pg (TZ p)
theorem GC{a:ON}:a<=1000000->((↑a:OF)-(0:OF)).toNat<=(1000000:ON):=λp=>WK.mpr (Pi (XO _ (UN 0)) (Qx.mpr p))
theorem Fm:-(2:OF)^(60:ON)<=(0:OF):=by decide
theorem Hl:(0:OF)<(2:OF)^(60:ON):=by decide
theorem IL{a:ON}:-(2:OF)^(60:ON)<=(↑a:OF):=by lia
theorem F3{a:ON}:a<=1000000->(↑a:OF)<(2:OF)^(60:ON):=λp=>QD (Qx.mpr p) (by decide)
theorem Io{a b:ON}:a<b->(0:OF)<=(↑a:OF)/\(↑a:OF)<(↑b:OF):=λp=>And.intro (Pv _) (U5.mpr p)
theorem Gj{a:OF}:0<=a->(↑a.toNat:OF)=a:=λp=>P4 p
theorem AB{a:OF}{b:ON}:a.toNat<b->a<b:=λp=>QD (WL _) (U5.mpr p)
theorem EL{a:OF}:0<a->¬a=0:=λp=>Y1 p
theorem AD{a:OF}:0<a->0<=a:=λp=>QL p
theorem zq{a b c:OF}:a<=c->c<=b->a<=b:=λp q=>Pi p q
theorem zH{a b:OF}:a<=b\/b<=a:=Int.le_total _ _
theorem HS{a:ON}:a<=1000000->(↑a:OF)<(2:OF)^(62:ON):=λp=>QD (Qx.mpr p) (by decide)
theorem JS{a b:OF}:0<=b->a<=1000->(a-b).toNat<=(1000000:ON):=λp q=>WK.mpr (Pi (XO _ p) (Pi q (by decide)))
theorem yW{a:OF}:0<=a->-(2:OF)^(60:ON)<=a:=by intro p; lia
theorem Ax{a:OF}:a<=1000->a<(2:OF)^(60:ON):=λp=>QD p (by decide)
theorem Ky{a:OF}{b:ON}:0<=a->a<b->a<0\/b<=a->False:=λp q r=>r.elim (λg=>Rp.mpr p g) (λg=>Xm.mpr q g)
theorem DM{a:ON}:(0:OF)<(↑(a+(1:ON)):OF):=VB.mpr (Ts _)
theorem DZ{a:ON}:(1:OF)<(↑(a+(1:ON)+(1:ON)):OF):=U5.mpr (Nat.succ_lt_succ (Ts _))
theorem AF:a+d<=c->b<d->a+b<c:=λp q=>adl q p
theorem JF:a<=c->a-b<=c-0:=λp=>Lt (Sh (PZ _) _) (QZ p _)
theorem IJ:a<=b->¬a=b->a<b:=λp q=>Pu p q
theorem GZ:a<=b->¬a=b->a+(b-a)/2+1<=b:=λp q=>OG (PT (Uh (Rl (Pu p q)) (by decide)) a) (Pg (Pm p))
theorem DJ:a-b<=c-d->a-(b+(a-b)/2+1)<=c-(d+1):=λp=>QZ (Lt (Lt (Pg (sub_sub _ _ _).symm) (Ux _ _)) p) 1
theorem I0:a<b+(c-b)/2+1->a<=b+(c-b)/2:=λp=>PD p
theorem Ft:a<=b->b<=c->¬a=b->a+(b-a)/2<c:=λp q r=>OG (OG (PT (Uh (Rl (Pu p r)) (by decide)) a) (Pg (Pm p))) q
theorem Gb:a<=a+(b-a)/2:=O4 _ _
theorem Kz:a<=b->b<=c->a+(b-a)/2<=c:=λp q=>Lt (OS (Nat.div_le_self _ _) _) (Lt (Pg (Pm p)) q)
theorem F4:b-a<=c-d->a+(b-a)/2-a<=c-(d+1):=λp=>by rw[PX,<- sub_sub]; exact Lt (hf _) (QZ p 1)
theorem F0:a<=b->b-a<=c-max 0 c->a=b:=λp q=>P3 p (RC (Nat.le_zero.mp (by rw[WM,VT] at q; exact q)))
theorem yU:0<1:=by decide
theorem H0:a<b->a+0<b:=by intro p; omega
theorem y5:0+1<=1:=by decide
theorem zG:¬b≥c-a->a+b<c:=λp=>Ru (RX p)
theorem y0{a:ON}:a<2*a+1:=Rk (Rg a (by decide))
theorem zL{a b:ON}:a+1<=b->a+1+1<=2*b+1:=λh=>Qn (Lt h (Rg b (by decide)))
theorem HK:max 0 a+1<=c->a-b<=c:=λp=>Lt (Qu (Cp (SK _ _))) p
theorem KP:b<c->a+b<d->a+b+1<=a+min c (d-a):=λp q=>OS (le_min.mpr ⟨p,SL (SY a b▸q)⟩) a
theorem Fv:a<c->a+min b (c-a)<=c:=λp=>Lt (OS (Y3 _ _) _) (Pg (Pm (O5 p)))
theorem E5:a<b+c+1->a<=b+c:=λp=>PD p
theorem Fp{a:Prop}{b c d e:ON}:b+min c (d-b)<=e->e<d->d-b<=c->a:=λp q r=>by rw[RY r] at p; exact OW (Lt (RZ.mp (Pe _)) p) (Tv q)
theorem KM:a+min b (d-a)<=c->c<d->a+b<=c:=λp q=>(Zs b (d-a)).elim (λg=>by rw[Rm g] at p; exact p) (λg=>by rw[RY g] at p; exact OW (Lt (RZ.mp (Pe _)) p) (Tv q))
theorem zn:a<b->¬a≥b:=λp=>Tv p
theorem zr:a<b->b<=c->a+(b-a)/2<c:=λp q=>OG (OG (PT (Uh (Rl p) (by decide)) a) (Pg (Pm (O5 p)))) q
theorem Eu:0<=a:=PZ _
theorem zg:a<c->a-b<c:=λp=>qa p
theorem z2:¬a≥b+1->a<=b:=λp=>PD (RX p)
theorem Kk:a<c->max 0 c+1<=b->a+1<=b:=λp q=>Lt p (Lt (SK 0 c) (SZ q))
theorem GT:a<c->a-b<=c:=λp=>O5 (qa p)
theorem Ff:a+1<=b->a+1-min b (a+1)<=a-c:=λp=>by rw[RY p,VT]; exact PZ _
theorem Ec:c<b->a+1-min b (a+1)<=a-c:=λp=>(Zs b (a+1)).elim (λg=>by rw[Rm g]; exact Lt (Sh p _) (Pg (Nat.add_sub_add_right a 1 c))) (λg=>by rw[RY g,VT]; exact PZ _)
theorem GL{a:Prop}{b c d:ON}:b<c+1-min d (c+1)->c+1<=d->a:=λp q=>by rw[RY q,VT] at p; exact OW p (VC _)
theorem IQ{a b c:ON}:a<b+1-min c (b+1)->a<=b-c:=λp=>(Zs c (b+1)).elim (λg=>QY (PD (add_lt_of_lt_sub (by rw[Rm g] at p; exact p)))) (λg=>OW (by rw[RY g,VT] at p; exact p) (VC _))
theorem Aw:a<=b+c->¬a=b+c->a<=b+c-1:=λp q=>P5 (Pu p q)
theorem sO:1<=b->a+b-1<a+b:=λp=>sl p
theorem zV:a<b+(c+1)->¬a=b+c->a<b+c:=λp q=>Pu (PD p) q
theorem JV:a<=c/\c<b->a<=a+b-1-c:=λp=>QY (P5 (PT p.2 _))
theorem IR:a<=c/\c<b->a+b-1-c<b:=λp=>OH (Sh p.1 _) (by rw[Uz,PX]; exact Uy (OH (PZ _) p.2) one_pos)
theorem Hf:d<=a->c<=f->b<d\/f<=b->¬(a<=b/\b<c):=λp q r=>λe=>r.elim (λg=>QM (Lt p e.1) g) (λg=>QM (Lt q g) e.2)
theorem Kh:a+d<=c->b<=d->a+b<=c:=λp q=>adE q p
theorem Ed:c<a+b->a<=a+(a+b)-1-c:=λp=>QY (P5 (PT p _))
theorem J7:d<=c->a+(a+b)-1-c<=a+(a+b)-1-d:=λp=>Sh p _
theorem KO:1<=b->a<=c->a+(a+b)-1-c<a+b:=λp q=>OH (Sh q _) (by rw[Uz,PX]; exact sl p)
theorem Kx:max a b<=b->max a b=b:=λp=>P3 p (SK _ _)
theorem Ay:c+1-(0+1)<=b->b<c+1->a+b=a+(c+1)-1:=λp q=>RM (_ + ·) (P3 (PD q) p)
theorem oP:a+d<=e->b<d->c=e->a+b<c:=λp q r=>lte (adl q p) r
theorem zA:a+d<=e->b<d->c=e->a+b-1<c:=λp q r=>lte (qa (adl q p)) r
theorem At:a+d<=e->b<d->c=e->a+b<=c:=λp q r=>O5 (lte (adl q p) r)
theorem Aj:c+1<=b->a<=a+b-(c+1):=λp=>QY (OS p _)
theorem AG:d+a-(b+1)<=c->a-(b+1)<=c-d:=λp=>Sw (Nat.le_of_add_le_add_left (Lt (Nat.le_add_of_sub_le p) (Lt (Rn (RZ.mp (Pe _)) _) (Pg (Qq _ _ _)))))
theorem zF:d+1<=c->a<b+c->a-b<c:=λp q=>(Y4 a b).elim (λg=>OH (Pg (Sv (O5 g))) (OG (Ts _) p)) (λg=>QX g q)
theorem Aq:c+1<=d->a+d-(c+1)<=b->a+(b-a)=b:=λp q=>Pm (Lt (QY (OS p _)) q)
theorem EZ:¬b<a->¬a<b->a=b:=λp q=>P3 (Pj p) (Pj q)
theorem I7:a+(b+1)-1=a+b:=by rfl
theorem Ip:a+1-(b+1+1)<=c->a-(b+1)<=c:=λp=>WJ _ _▸p
theorem Ev:a<b+1->¬a=b->a<b:=λp q=>Pu (PD p) q
theorem HP:max (a+1) b<=b->max (a+1) b=b:=λp=>P3 p (SK _ _)
theorem yY:a+d<=e->b<=d->c=e->a+b<=c:=λp q r=>lee (adE q p) r
theorem ue:a+b<=d->c=d->a+b<=c:=λp q=>lee p q
theorem Jn:b+1<=a->1<=a:=λp=>Lt (Qj _ _) p
theorem zO:c<=a->a<=b->b<c+1->a=b:=λp q r=>P3 q (Lt (PD r) p)
theorem Ke:max 1 a<=a->max 1 a=a:=λp=>P3 p (SK _ _)
theorem zt:a<=b->a≠b->a<b:=λp q=>Pu p q
theorem Iz:1<=c->a+c<=b->a<b:=λp q=>OG (QS (T0 p)) q
theorem Ia:1<=b->b<=d->a+d<=c->a+b-1<c:=λp q r=>OG (sl p) (Lt (OS q _) r)
theorem JH:a<b+c->a<=b+c-1:=λp=>P5 p
theorem HT:¬c<b->c<=a->a<=b->a=b:=λp q r=>P3 r (Lt (Pj p) q)
theorem zW:b<=d->a+d<=c->a+b<=c:=λp q=>adE p q
theorem Hv:1<=a->¬a>1->a=1:=λp q=>P3 (Pj q) p
theorem J0:a<b->a<=(a+b)/2/\(a+b)/2<b:=λp=>And.intro ((Nat.le_div_iff_mul_le (by decide)).mpr (by rw[mul_two]; exact OS (O5 p) _)) ((Nat.div_lt_iff_lt_mul (by decide)).mpr (by rw[mul_two]; exact T8 p _))
theorem DG:a<b->min a b=a:=λp=>Rm (O5 p)
theorem Hg:c<0->a<=b:=λp=>OW p (VC _)
theorem Eg:c<=d->d<c->a<b:=λp q=>OW q (QM p)
theorem Eh{a b c d e f g:ON}:a+d<=e->f<d->g<=f->c=e->b<g->a+b<c:=λp q r s t=>s▸OG (PT (S0 (OG t r) q) a) p
theorem DH:c<=b->a<c->a<=b:=λp q=>Lt (O5 q) p
theorem KQ:e-b<=c-d->a<e->a-b<=c-(d+1):=λp q=>Lt (QZ (P5 q) _) (Lt (Pg (Uz _ 1 _)) (QZ p 1))
theorem Ee:a-e<=c-d->e<=b->a-(b+1)<=c-(d+1):=λp q=>QZ (Lt (Sh q _) p) 1
theorem Gr:b<c+1->a+b<=a+c:=λp=>OS (PD p) _
theorem Jp:d<=c->b<d->a+b<a+c:=λp q=>PT (OG q p) _
theorem HN:a-c<=d-max 0 d->c<=b->a<=b:=λp q=>Lt (RC (Tu (Lt p (Pg (Sv (SK 0 _)))))) q
theorem J9:c<f->a<b\/b+f<=a->¬a=b+c-(b+c-(b+d)):=λp q=>λe=>q.elim (λg=>QM vlo (e▸g)) (λg=>QM (Lt g (Lt (Pg e) (Ux _ _))) (PT p _))
theorem Jj:b<f->d<a\/a+f<=d->¬(a+b-(a+b-(a+c))<d/\d<=a+b):=λp q=>λe=>q.elim (λg=>QM vlo (S0 e.1 g)) (λg=>QM (Lt g e.2) (PT p _))
theorem FZ:a<b->min (a+1) b=a+1:=λp=>Rm (Qz p)
theorem IN:c<=b->a+b-(a+b-(a+c))=a+c:=λp=>Nat.sub_sub_self (OS p _)
theorem HH:e<=c->c<a+(d+1)->e=a+b->¬c=a+b->a+b<c/\c<=a+d:=λp q r s=>And.intro (Pu (r▸p) (P6 s)) (PD q)
theorem Fr:d<=b->d=c+a->¬b=c+a->a<=b-1-c:=λp q r=>QY (P5 (SY _ _▸Pu (q▸p) (P6 r)))
theorem HG:d<=a->a<b+(c+1)->d=b+e->¬a=b+e->a-1-b<c:=λp q r s=>QX (P5 (OH (O4 _ _) (Pu (r▸p) (P6 s)))) (pl (OH (PZ _) (Pu (r▸p) (P6 s))) q)
theorem Jh:c<=b->c=a+d->¬b=a+d->a+(b-1-a)=b-1:=λp q r=>Pm (P5 (OH (O4 _ _) (Pu (q▸p) (P6 r))))
theorem Fo:c<=f->f=a+b->¬(a+b<c/\c<=a+d):=λp q=>λe=>QM (q▸p) e.1
theorem Gn:b<=a->a<=d->¬a=b+c->d=b+c->a-b<c:=λp q r s=>QX p (Pu (s▸q) r)
theorem jM:a<=b->a+(b-a)=b:=λp=>Uk p
theorem J3:c<=e->e<a+(d+1)->a+b<c->a+b<c/\c<=a+d:=λp q r=>And.intro r (PD (OH p q))
theorem DY:e<=c->c<a+(d+1)->a+b<e->a+b<c/\c<=a+d:=λp q r=>And.intro (OG r p) (PD q)
theorem HI:a+c<b->a<=b-1:=λp=>nxe (P5 p)
theorem J5:a<=b->a-1<=b-1:=λp=>QZ p _
theorem Em:d<=a->a<b+(c+1)->b+e<d->a-1<b+c:=λp q r=>pl (OH (PZ _) (OG r p)) q
theorem y7:¬a+b<c->¬(a+b<c/\c<=a+d):=λp=>λe=>p e.1
theorem EY:c<a+(d+1)->a+b<c->a+b<c/\c<=a+d:=λp q=>And.intro q (PD p)
theorem FF:¬c+d<a->c+d<b->a<=b-1:=λp q=>Lt (Pj p) (P5 q)
theorem Gh:a<b+(c+1)->b+d<a->a-1<b+c:=λp q=>pl (OH (PZ _) q) p
theorem GF:d<=c->¬a=b+d->¬b+d<a->a<b+c:=λp q r=>OG (Pu (Pj r) q) (OS p _)
theorem GQ:min (max (max a 1) b) b=b:=RY (SK _ _)
theorem H9:c<=a->a<=b->b<c+min (max d 1) e->d=0->a=b:=λp q r s=>P3 q (Lt (PD (OG r (OS (Lt (Qi (max d 1) e) (by rw[s]; decide:max d 1<=1)) _))) p)
theorem Fb:a<b+min (max c 1) d->¬c=0->a<b+c:=λp q=>OG p (OS (Lt (Qi _ _) (Z1.mpr ⟨Pe _,Tk q⟩)) _)
theorem Jk{a b c:OF}:a<c->c<b->¬a=b:=λp q=>Y5 (Qd p (QL q))
theorem HJ{a b c:OF}:a<c->c<b->a<b:=λp q=>Qd p (QL q)
theorem Hk{a:Prop}{b c:OF}:¬b=c->¬b<c->¬c<b->a:=λp q r=>OW (Sg (Rp.mp r) (Rp.mp q)) p
theorem G4:a<=b->a<=b+c:=λp=>Lt p (O4 _ _)
theorem FO:a<=b->a<b+1:=λp=>Rk p
theorem GS:a<b->a<b+c:=λp=>OG p (O4 _ _)
theorem JB:a<b->b<a->False:=λp q=>OW q (QM (O5 p))
theorem Hx{a:Prop}{b:ON}:1<=b->0=b->a:=λp q=>OW (lee p q) (by decide)
theorem G9:2<=a->a=a-1+1:=λp=>(R1 (SZ p)).symm
theorem EX:b=a->0+(a-0)<=b:=λp=>by rw[Qm]; exact Pg p.symm
theorem Ha:b=a->0+a<=b:=λp=>by rw[p,Qm]; exact Pe _
theorem Km:a=b->a<=b:=λp=>Pg p
theorem HV{a b:OF}:0<=a->(a.toNat<b.toNat↔a<b):=λp=>by rw[Int.lt_toNat,P4 p]
theorem IK{a:OF}:¬0<=a->a<0:=λp=>Xm.mp p
theorem IT{a:OF}{b:ON}:b<=2^22->a<b->a<(2:OF)^(63:ON):=λp q=>Qd q (Pi (Qx.mpr p) (by decide))
theorem DV{a:OF}{b:ON}:b<=2^22->-b<=a->-(2:OF)^(63:ON)<=a:=λp q=>Pi (Pi (by decide) (Int.neg_le_neg (Qx.mpr p))) q
theorem DL{a:OF}:0<=a->¬a<0:=λp=>Rp.mpr p
theorem F6{a:OF}:-(2:OF)^(22:ON)<=a/\a<(2:OF)^(22:ON)->-(2:OF)^(63:ON)<=a:=λp=>Pi (by decide) p.1
theorem Hz{a:OF}:-(2:OF)^(22:ON)<=a/\a<(2:OF)^(22:ON)->a<(2:OF)^(63:ON):=λp=>Vl p.2 (by decide)
theorem Ak:b<=2^22->a=b->a<=2^24:=λp q=>Lt (ele q p) (by decide)
theorem KL{a:ON}{b:OF}:a<=2^22->a-b.toNat<=(2:ON)^(22:ON):=λp=>Cp p
theorem IF{a:ON}:((↑a:OF)-(1:OF)-(-1:OF)-(-1:OF)-(1:OF)).toNat=a:=by rw[Zt,Zt,Int.sub_add_cancel,Wq]; rfl
theorem HU{a:ON}:¬(↑a:OF)-(1:OF)>(-1:OF)->Int.toNat (0:OF)=a:=λh=>by cases a with | zero=>rfl | succ n=>exact OW (show (-1:OF)<((n:OF)+1)-1 by rw[Wq]; exact Qd (by decide) (Pv n)) h
theorem JE{a b:ON}:((↑a:OF)-(1:OF)+(-1:OF)*(↑b:OF)).toNat=a-(1:ON)-b:=by rw[Int.neg_mul,Int.one_mul,<- Int.sub_eq_add_neg,Int.sub_sub,sub_sub]; exact YC a (1+b)
theorem oE:b=c->a<c->a<b:=λp q=>lte q p
theorem Hn:a=c->¬b<c->min a a<=b:=λp q=>mne (ele p (Pj q))
theorem Ar:¬c<a->min a b<=c:=λp=>mnl (Pj p)
theorem JU:a<64->a<=16777216+1:=λp=>Lt (O5 p) (by decide)
theorem Ac:a<64->a<=16777216:=λp=>Lt (O5 p) (by decide)
theorem EM:a<2->a<=1:=λp=>PD p
theorem FG:¬a<2->1<=a:=λp=>Lt (Qj _ _) (Pj p)
theorem Ej:b=a->¬b<2->¬a<2:=λp q=>QM (Lt (Pj q) (Pg p))
theorem zI:¬a<2->2<=a:=λp=>Pj p
theorem z4:b<=a->¬a<b:=λp=>QM p
theorem Ex:a<=1000000->a<=16777216:=λp=>Lt p (by decide)
theorem AH:a<=1000000->a<=2^22:=λp=>Lt p (by decide)
theorem FD:a=b->a=b:=by intro p; omega
theorem zM:b<64->a=b->a<=16777216:=λp q=>Lt (O5 (elt q p)) (by decide)
theorem Gg:a+200<b->a+1+1<b:=λp=>OH (OS (by decide:2<=200) a) p
theorem zp:b<64->a=b->a<64:=λp q=>elt q p
theorem Al:a<64->a<=2^22:=λp=>Lt (O5 p) (by decide)
theorem Kb{a b:ON}:a=b->b<=2^22->(↑a:OF)<(2:OF)^(63:ON):=λp q=>QD (Qx.mpr (ele p q)) (by decide)
theorem ET{a b:ON}:a=b->b<=2^22->¬(↑a:OF)≥(2:OF)^(63:ON):=λp q=>λg=>OW (Pi g (Qx.mpr (Lt (Pg p) q))) (by decide)
theorem Ez{a b:ON}{c:Prop}:a=b->b<=2^22/\c->a<=2^24:=λp q=>Lt (ele p q.1) (by decide)
theorem oG:a<128->a<=16777216:=λp=>Lt (O5 p) (by decide)
theorem Hh:2<=a->¬a<2:=λp=>QM p
theorem JN:2<=a->2<=a:=by intro p; omega
theorem zS:a<128->a<=16777216+1:=λp=>Lt (O5 p) (by decide)
theorem sT:b<128->a=b->a<=16777216:=λp q=>Lt (O5 (elt q p)) (by decide)
theorem Gf:¬b<64->a=b->2<=a:=λp q=>Lt (Qj _ _) (lee (Pj p) q)
theorem Az:b<128->a=b->a<128:=λp q=>elt q p
theorem z3:a<128->a<=2^22:=λp=>Lt (O5 p) (by decide)
theorem DX:a+100*c+200<b->a+200<b:=λp=>OH (Rn (O4 _ _) 200) p
theorem FV:a+100*c+300<b->a+200<b:=λp=>OH (RW (O4 _ _) (by decide)) p
theorem zc:a+200<d->b+1<=64->a+1+min b c<d:=λp q=>OH (Lt (Pg (Qq _ 1 _)) (OS (Lt (OS (Qi _ _) 1) (Lt (Pg (SY 1 _)) (Lt q (by decide)))) _)) p
theorem zo:a+200<b->a+1<b:=λp=>OH (Qn (O4 _ _)) p
theorem yV:a+200<d->b<=64->a+min b c<d:=λp q=>OH (OS (Lt (Qi _ _) (Lt q (by decide))) _) p
theorem zz{a b:ON}{c:Prop}{d:ON}:b<1000/\c->a=d->d=b->a<=2^24:=λp q r=>Lt (O5 (elt q (elt r p.1))) (by decide)
theorem zB{a b:ON}{c:Prop}{d:ON}:b<1000/\c->d=b->a=d->a<=2^22:=λp q r=>Lt (O5 (elt r (elt q p.1))) (by decide)
theorem Id{a b:OF}:-(2:OF)^(60:ON)<=a/\a<(2:OF)^(60:ON)/\-(2:OF)^(60:ON)<=b/\b<(2:OF)^(60:ON)->-(2:OF)^(62:ON)<=a:=λp=>Pi (by decide) p.1
theorem Ja{a b:OF}:-(2:OF)^(60:ON)<=a/\a<(2:OF)^(60:ON)/\-(2:OF)^(60:ON)<=b/\b<(2:OF)^(60:ON)->a<(2:OF)^(62:ON):=λp=>Vl p.2.1 (by decide)
theorem Kq{a b:OF}:-(2:OF)^(60:ON)<=b/\b<(2:OF)^(60:ON)/\-(2:OF)^(60:ON)<=a/\a<(2:OF)^(60:ON)->-(2:OF)^(62:ON)<=a:=λp=>Pi (by decide) p.2.2.1
theorem Hr{a b:OF}:-(2:OF)^(60:ON)<=b/\b<(2:OF)^(60:ON)/\-(2:OF)^(60:ON)<=a/\a<(2:OF)^(60:ON)->a<(2:OF)^(62:ON):=λp=>Vl p.2.2.2 (by decide)
theorem G2{a b:OF}:(a-b).toNat<=(1000000:ON)->(a-b).toNat<=(2:ON)^(22:ON):=λp=>Lt p (by decide)
theorem so:b<a->a+1-(b+1)<a+1-b:=λp=>Nat.sub_lt_sub_left (S4 p) (TQ _)
theorem JP{a b:ON}{c:Prop}{d:ON}:b<=2^22/\c->a<=d->d<b->a<=2^24:=λp q r=>Lt q (Lt (Lt (O5 r) p.1) (by decide))
theorem yZ:a<=b->¬a<b->a=b:=λp q=>P3 p (Pj q)
theorem Ge:a<=0->a=0:=λp=>Tu p
theorem z7:a<=b+1->¬a=b+1->a<=b:=λp q=>PD (Pu p q)
theorem Iw{a b c:OF}:b>c->a<=c->a<=b:=λp q=>Pi q (QL p)
theorem Fx{a b:OF}:¬a>b->a<=b:=λp=>Rp.mp p
theorem IM:0<b->a<=b-1->a<b:=λp q=>OH q (Uy p (by decide))
theorem uh:a<b->a<=b-1:=λp=>P5 p
theorem zZ{a:ON}:¬(↑a:OF)<(0:OF):=Rp.mpr (Pv _)
theorem lT:¬b<a->a<=b:=λp=>Pj p
theorem FK:a<20->a<30:=λp=>OG p (by decide)
theorem GD:-(2:OF)^(62:ON)<=(0:OF):=by decide
theorem Gy:(0:OF)<(2:OF)^(62:ON):=by decide
theorem sW{a:ON}{b:Prop}:a<=2^22/\b->a<=2^24:=λp=>Lt p.1 (by decide)
theorem Fh{a:OF}{b:Prop}{c:ON}{d:Prop}:¬(b\/a<0\/c<a)->c<=2^22/\d->(-9223372036854775808:OF)<=a/\a<9223372036854775808:=λp q=>And.intro (Pi (by decide) (Rp.mp λg=>p (.inr (.inl g)))) (QD (Rp.mp λg=>p (.inr (.inr g))) (QD (Qx.mpr q.1) (by decide)))
theorem DO{a:OF}{b:Prop}{c:ON}:¬(b\/a<0\/c<a)->¬a<0:=λp=>λg=>p (.inr (.inl g))
theorem GJ{a:OF}{b:ON}{c:Prop}:¬(c\/a<0\/b<a)->min a.toNat b=a.toNat:=λp=>Rm (WK.mpr (Rp.mp λg=>p (.inr (.inr g))))
theorem Hi{a:OF}{b:ON}{c:Prop}{d:ON}:¬(c\/a<0\/d<=a)->b=d->a.toNat<b:=λp q=>q▸(Y2 (Rp.mp λg=>p (.inr (.inl g)))).mpr (Xm.mp λg=>p (.inr (.inr g)))
theorem KI{a:OF}{b:Prop}{c:ON}{d:Prop}:¬(b\/a<0\/c<=a)->c<=2^22/\d->(-9223372036854775808:OF)<=a/\a<9223372036854775808:=λp q=>And.intro (Pi (by decide) (Rp.mp λg=>p (.inr (.inl g)))) (Vl (Xm.mp λg=>p (.inr (.inr g))) (QD (Qx.mpr q.1) (by decide)))
theorem zU:a<=1000000->a<=2^24:=λp=>Lt p (by decide)
theorem JZ:1<=16777216:=by decide
theorem KR:a+2*b+4<c->a+2*b+1<c:=λp=>OH (Qn (O4 _ _)) p
theorem Ji:a+100*b+300<c->a+100*b+200<c:=λp=>OH (OS (Qj _ _) _) p
theorem HM:a+2*b+5<c->a+1+2*b+4<c:=λp=>by rw[Qr _ 1]; exact p
theorem Gs:a+100*b+303<c->a+3+100*b+300<c:=λp=>by rw[Qr _ 3]; exact p
theorem Jb:a+2*(c+1)+4<b/\d+100*(c+1)+300<e->a<b:=λp=>nxl (nxl p.1)
theorem HF:a+100*b+303<=a+100*(b+1)+300:=by lia
theorem GN:a<=8->a<=16777216:=λp=>Lt p (by decide)
theorem GB:a<=1->1+3*a<=50:=λp=>Lt (OS (SV 3 p) 1) (by decide)
theorem Fs:b<=50->a+b<=a+50:=λp=>OS p _
theorem Ga:a+2*(c+1)+4<b->a+1<b:=λp=>OH (RW (O4 _ _) (by decide)) p
theorem KD:a+2*(b+1)+4<c->a+1+2*b+5<c:=λp=>by rw[Qr _ 1]; exact p
theorem Ep:a<=c+50->a+100*b+303<=c+100*(b+1)+300:=by intros; lia
theorem JY:1<=a+1+0/\a+1+0<=a+1/\a+1<=2*(a+1+0):=And.intro (Ts _) (And.intro (Pe _) (Rg _ (by decide)))
theorem Gi{a:ON}:2<=a+1->a=a-1+1:=λp=>(R1 (Nat.le_of_succ_le_succ p)).symm
theorem GR:a+1+1<128->(a+1+1)/2<64:=λp=>Nat.div_lt_of_lt_mul p
theorem KH{a:ON}:1<=(a+1+1)/2+max 0 ((a+1+1)%2)/\(a+1+1)/2+max 0 ((a+1+1)%2)<=a+1+1/\a+1+1<=2*((a+1+1)/2+max 0 ((a+1+1)%2)):=by
 rw[WM,show a+1+1=a+2 from rfl,Nat.add_div_right a (by decide),Nat.add_mod_right]
 exact ⟨Lt (Qj 1 _) (O4 _ _),Lt (Pg (Qr _ 1 _)) (Qu (Qn (Lt (Rn (Rg _ (by decide)) _) (Pg (XQ a 2))))),Lt (Qn (Qn (Pg (XQ a 2).symm))) (Lt (Pg (Qr _ (a%2) 2)) (Lt (OS (Rg (a%2) (by decide:0<2)) (2*(a/2)+2)) (Pg (by rw[Zu,Zu]))))⟩
theorem Ic:c=a->0+min (a-0) b<=c:=λp=>by rw[Qm,p]; exact Qi _ _
theorem Hc:c<=b->a<c->a<=min (b-0) c:=λp q=>le_min.mpr ⟨Lt (O5 q) p,O5 q⟩
theorem GA:b<=a->min (a-0) b=b:=λp=>RY p
theorem Et:a<=b->a≥b->a=b:=λp q=>P3 p q
theorem Fj:¬a≥b->c=b->a+(b-a)<=c:=λp q=>Pg ((Pm (O5 (RX p))).trans q.symm)
theorem D7:¬b≥a->1<=a-b:=λp=>Qz (Rl (RX p))
theorem E3:1<=b->b<=a->1<=a:=λp q=>Lt p q
theorem Hs:c=b->1<=d->d<=b-a->a+(b-a)=c:=λp q r=>(Pm (O5 (T1 (OG q r)))).trans p.symm
theorem FQ:a<=c->c<0+b->a<b:=λp q=>OH p (Qm b▸q)
theorem sD:a<0+b->a<b:=λp=>Qm b▸p
theorem DF:d=b->1<=e->e<=b-a->a+min (b-a) c<=d:=λp q r=>Lt (OS (Qi _ _) _) (Pg ((Pm (O5 (T1 (OG q r)))).trans p.symm))
theorem E8:b<=2*d->d<=c->a<=b-c->a<=min (b-c) d:=λp q r=>le_min.mpr ⟨r,Lt r (Sw (Lt p (two_mul d▸OS q _)))⟩
theorem Jz:a<=2*c->c<=b->min (a-b) c=a-b:=λp q=>Rm (Sw (Lt p (two_mul c▸OS q _)))
theorem KB:b<=2*d->d<=c->a<=b-c->¬a<d->a=b-c:=λp q r s=>P3 r (Lt (Sw (Lt p (two_mul d▸OS q _))) (Pj s))
theorem I8{a b c:Prop}{d:ON}:2<=d->max 0 d=0->a/\(b\/c):=λp q=>by rw[WM] at q; rw[q] at p; exact OW p (by decide)
theorem Gp:2<=b->max 0 b=1\/a=b->a=b:=by intros; lia
theorem IZ:a=2->¬a<=1:=λp=>Tv (lte (TQ _) p)
theorem EG:d=e->a+b=d->c=e->a+b=c:=λp q r=>Zv q (Zv p (TZ r))
theorem Gx{a:ON}{b:Prop}:2<=a->max 0 a=0/\b->False:=by intro p q; lia
theorem KE:a+b<=1000000->a+b<=2^22:=λp=>Lt p (by decide)
theorem Fz:a+b<=1000000->a+b<=2^24:=λp=>Lt p (by decide)
theorem JW{a:ON}{b:OF}:¬(b=0\/(1000000000:ON)<=a)->a<1073741824:=λp=>S0 (RX λg=>p (.inr g)) (by decide)
theorem J8{a:OF}{b:ON}:(0:OF)<=a/\a<=(1000:OF)/\b<(2:ON)^(63:ON)->a<=1000000:=λp=>Pi p.2.1 (by decide)
theorem F1{a:ON}{b:OF}:(0:OF)<=b/\b<=(1000:OF)/\a<(2:ON)^(63:ON)->a<2^64:=λp=>S0 p.2.2 (by decide)
theorem Ka:a<=60->1+300+2*a+4<1000:=λp=>OH (Rn (OS (SV 2 p) _) 4) (by decide)
theorem Fu:a<=60->4+100*a+300<9900:=λp=>OH (Rn (OS (SV 100 p) _) 300) (by decide)
theorem GK:a<=50->a+1<=60:=λp=>Lt (Qn p) (by decide)
theorem FN:b<=1000->a<=b->a<1000000:=λp q=>OH q (OH p (by decide))
theorem As{a:OF}{b:ON}:0<=a/\a<b->a.toNat<b:=λp=>tln p.1 p.2
theorem Kv:a<=1000->a<1000000:=λp=>OH p (by decide)
theorem DQ:a<=b+(a-b):=RZ.mp (Pe _)
theorem y9:¬b<=a->a<=b:=λp=>O5 (RX p)
theorem tC:b<min d (c-a)->a+b<c:=λp=>Ru (OG p (Xl _ _))
theorem E1:a<min b (c-d)->a<b:=λp=>OG p (Qi _ _)
theorem oH:b<c-a->a+b<c:=λp=>Ru p
theorem Kj:b<=d->a+d<c->a+b<c:=λp q=>OH (OS p _) q
theorem Fk:b<=a->d+a<c->a-b<c-(d+b):=λp q=>SL (elt (by rw[Nat.add_left_comm,R1 p]) q)
theorem F8:c<=b->a+b=a+c+(b-c):=λp=>by rw[Qq,Pm p]
theorem AE:a<=c->c<b->a<b:=λp q=>OH p q
theorem y2:a<=c->c<=b->a<=b:=λp q=>Lt p q
theorem EJ:a+1=b->a<b:=λp=>T0 (Pg p)
theorem JI:b+1=a->a<=b+1:=λp=>Pg (TZ p)
theorem F5:a+1=c->c=b->a=b-1:=λp q=>by subst q; subst p; rfl
theorem Aa:a<b->a+1≠b->a+1<b:=λp q=>Pu (Qz p) q
theorem F2:a<=b+c->a+1<=b+(c+1):=λp=>Qn p
theorem zY:a<=b+c->a+1<=b+1+c:=λp=>Lt (Qn p) (Pg (Qr b c 1))
theorem Iv:a+1<b->a+1+1≠b->a+1+1<b:=λp q=>Pu (Qz p) q
theorem Fw:a+1<b->a+1+(b-(a+1))<=b:=λp=>Pg (Uk (O5 p))
theorem Fl:b+1<a->0<a-(b+1):=λp=>Rl p
theorem E6:a+1+b+c<d->a+1+(b+c)<d:=λp=>elt (Qq _ _ _).symm p
theorem zh:a<=a+b:=O4 _ _
theorem Kf:d+1+a+b<e->e=c->a+b<c-(d+1):=λp q=>SL (q▸elt (by rw[SY,<- Qq]) p)
theorem Fe:b<=c-(a+1)->b>0->a+1+b≠c->a+1+b<c:=λp q r=>Pu (VK (O5 (T1 (OG q p))) p) r
theorem HL:a<=b+c->a<=b+(c+1+d):=λp=>Lt p (OS (nxe (O4 _ _)) _)
theorem FA:a<=b+c->a<=b+(c+1):=λp=>Lt p (OS (O4 _ _) _)
theorem DN:a+1<b->a+(b-a)<=b:=λp=>Pg (Pm (O5 (Tw p)))
theorem Jw:b+1<a->0<a-b:=λp=>Rl (nxl p)
theorem FC:a+b+c<d->a+(b+c)<d:=λp=>elt (Qq _ _ _).symm p
theorem II:d+a+b<e->e=c->a+b<c-d:=λp q=>SL (q▸elt (by rw[SY,<- Qq]) p)
theorem JG:b<=c-a->b>0->a+b+1≠c->a+b≠c->a+b+1<c:=λp q r s=>Pu (Pu (VK (O5 (T1 (OG q p))) p) s) r
theorem Jx:a<=b+d->a<=b+c+d:=λp=>Lt p (RW (O4 _ _) (Pe _))
theorem IU:a+b<=c+1->d+1<a->e<b->c<=d+e->False:=λp q r s=>TR _ (OG (Nat.add_lt_add q r) (Lt p (Lt (Qn s) (Pg (Qr d e 1)))))
theorem JK:a+b<=c+1+(a+b)+1:=Qu (Qj _ _)
theorem zj:a+2<=a+1+b+1:=Qn (O4 _ _)
theorem Jr:a+b<=c+2+(a+b)+1:=Qu (Qj _ _)
theorem Ao:a+2<=a+2+b+1:=Qu (O4 _ _)
theorem tU:1<=a->a-1<a:=λp=>Uy (T0 p) (by decide)
theorem Ie:a+b<=1+(a+b)+1:=Qu (Qj _ _)
theorem EA:a+b<=a+b+1+1:=Qu (O4 _ _)
theorem EK:a<=a+1:=O4 _ _
theorem zP:a+1-a=1:=PX _ _
theorem KJ:a<min c b->a<b:=λp=>OG p (Y3 _ _)
theorem GW:a<min b c->a<b:=λp=>OG p (Qi _ _)
theorem GU:a<=f->f+b+c<=d+e->a+b+c<=d+e:=λp q=>Lt (Rn (Rn p _) _) q
theorem EO:a+b<=c->1<d->c+e+d<=a+b->False:=λp q r=>TR c (OG (OH (O4 c e) (QS (S0 one_pos q))) (Lt r p))
theorem tR:a≠0->0<a:=λp=>Tk p
theorem EV:0<a->a≠1->1<a:=λp q=>Pu p (P6 q)
theorem s8:0<a->a<=b->a-1<b:=λp q=>OG (Uy p (by decide)) q
theorem sj:1<a->a<=b->a-1<b:=λp q=>OG (Uy (OH (PZ _) p) (by decide)) q
theorem oJ:a-1<b->a-1<=b:=λp=>O5 p
theorem z6:0<b->a+b+c<=d+e->a+1+(b-1)+c<=d+e:=λp q=>by rw[Qq a 1,Pm p]; exact q
theorem oM:1<a->0<a:=λp=>OH (PZ _) p
theorem JJ:1<a->0<a-1:=λp=>SL p
theorem GY:1<c->a+b+c<=d+e->a+1+b+(c-1)<=d+e:=λp q=>by rw[Qr a 1 b,Qq (a+b) 1,Pm (O5 p)]; exact q
theorem FL:a-1≠0->0<a-1:=λp=>Tk p
theorem Hj:1<a->a-1≠1->1<a-1:=λp q=>Pu (P5 p) (P6 q)
theorem JT:a-1<b->0+(a-1)<=b:=λp=>by rw[Qm]; exact O5 p
theorem FT:1<a-1->a-1-1<a-1:=λp=>Uy (OH (PZ _) p) (by decide)
theorem Ki:a+b+c<=d+e->a+b+(c-1)<=d+e:=λp=>adE (Ux _ _) p
theorem KC:b<c-1-a->a+b<c-1:=λp=>Ru p
theorem Go:a≠1->a≠0->1<a:=λp q=>Pu (Tk q) (P6 p)
theorem Gw:c-1<b->a<=c-1->a<=b:=λp q=>Lt q (O5 p)
theorem Jl:a+b+f<=d+e->f-1-c>0->a+b+c<=d+e:=λp q=>Lt (OS (Lt (O5 (T1 q)) (Ux _ _)) _) p
theorem JR:a<=b-1->¬b-1-a>0->a=b-1:=λp q=>P3 p (RC (R2 q))
theorem Ih:a<=b->0+a<=b:=λp=>by rw[Qm]; exact p
theorem IA:0<a->a-1<a:=λp=>Uy p (by decide)
theorem HY:c<=b->a<=c->a<=b:=λp q=>Lt q p
theorem F9:a+f+c<=d+e->b<=f->a+b+c<=d+e:=λp q=>Lt (RW (OS q _) (Pe _)) p
theorem H8:a<=b->¬b-a>0->a=b:=λp q=>P3 p (RC (R2 q))
theorem GH:a+b<=c+1+(a+b):=Qj _ _
theorem ER:a+b<=c+2+(a+b):=Qj _ _
theorem Ef:a+b<=1+(a+b):=Qj _ _
theorem HE:a+b<=a+b+1:=O4 _ _
theorem KT:a+b+(d+1)<=c->a+b<c:=λp=>OG (QS (Ts _)) p
theorem Jd:a+b+(c+1)<=d->a+(b+1)+c<=d:=λp=>ele (by rw[<- Qq,<- Qq,Qr]) p
theorem Ht:a+(b+1)-(a+b)=1:=by rw[<- Qq,PX]
theorem DU:min (a+b) c<=a+(b+1):=mnl (OS (O4 _ _) _)
theorem J2:min (a+b) c<=a+(b+1)+d:=mnl (Lt (OS (Vm _) _) (O4 _ _))
theorem Is:a+(b+1)+c-(a+b)=c+1:=by rw[<- Qq,Qq (a+b) 1,PX,SY]
theorem Jm:a+b+1+c=a+b+(c+1):=Qr _ _ _
theorem H4:b<min c (d-a)->a+b<a+c:=λp=>PT (OG p (Qi _ _)) _
theorem zv:a<b->a<0+b:=λp=>OG p (Qj _ _)
theorem Kc:b+c=d->a<0+d->a<b+c:=λp q=>by rw[p]; rw[Qm] at q; exact q
theorem Iu:0+a<=a:=by lia
theorem DR:a+c=b->1<=c->a<b:=λp q=>OG (QS (T0 q)) (Pg p)
theorem KN:a+c=b->0+a<=b:=λp=>by subst p; rw[Qm]; exact O4 _ _
theorem HZ:a<=b->b-a=0->a=b:=λp q=>P3 p (RC q)
theorem uk:b+c=d->a<d->a<b+c:=λp q=>lte q p
theorem Ey:b-a≠0->a<b:=λp=>Nat.lt_of_sub_ne_zero p
theorem Hm:b<c->a<b->0+a+(b-a)-1<c:=λp q=>OH (Ux _ _) (by rw[Qm,Pm (O5 q)]; exact p)
theorem DW:a<b->0+a+(b-a)-1=b-1:=λp=>by rw[Qm,Pm (O5 p)]
theorem G0:a+b=c->a+b<=c:=λp=>Pg p
theorem y4:1<=a->a-1<0+a:=λp=>OG (Uy (T0 p) (by decide)) (Qj _ _)
theorem zy:b+c=d->1<=c->a<d->a-b<c:=λp q r=>by subst p; exact (Y4 a b).elim (λg=>by rw[Sv (O5 g)]; exact q) (λg=>QX g r)
theorem HX:a+d=b->min a b-c=a-c:=λp=>by subst p; rw[Rm (O4 _ _)]
theorem J6:a+d=c->b<=d->min (a+b) c-a=b:=λp q=>by subst p; rw[Rm (OS q _),PX]
theorem Jq:1<=b->0+c+(b-c)-1=b-1->a<c+(b-c)->a<0+b:=λp q r=>by rw[Qm]; exact OG r (Pg (Pm (wle p q)))
theorem Ix:b+d=c->a<b->a+(b-a)<=c:=λp q=>by subst p; rw[Pm (O5 q)]; exact O4 _ _
theorem Gc:d<=c->a<b+d->a<b+c:=λp q=>OG q (OS p _)
theorem E2:a+d=c->b<=d->a+b<=c:=λp q=>adE q (Pg p)
theorem zi:0<b->a=b->0<a:=λp q=>lte p q
theorem Am:b<c->a=c-b->a-1<a:=λp q=>Uy (lte (Rl p) q) (by decide)
theorem Ig:d+e=c->1<=d->1<=e->0+a+(d-a)-1=d-1->b=d-a->a+(b-1)<c:=λp q r s t=>by subst p; subst t; exact OH (OS (Ux _ 1) _) (elt (Pm (wle q s)) (QS r))
theorem Im:a<c->b=c-a->a+(b-1)=c-1:=λp q=>by subst q; rw[<- Nat.add_sub_assoc (Rl p),Pm (O5 p)]
theorem HC:1<=b->0+c+(b-c)-1=b-1->a<c+(b-c)->a<b:=λp q r=>OG r (Pg (Pm (wle p q)))
theorem F7:b<=a->a<b+c->a-b<c:=λp q=>QX p q
theorem Ii:b+e=d->1<=b->0+a+(b-a)-1=b-1->c<=e->a+0+(b-a+c)<=d:=λp q r s=>by subst p; rw[VS,<- Qq,Pm (wle q r)]; exact OS s _
theorem z5:1<=b->0+a+(b-a)-1=b-1->a+(b-a+c)=b+c:=λp q=>by rw[<- Qq,Pm (wle p q)]
theorem Hq:1<=b->0+a+(b-a)-1=b-1->a+(b-a)=b:=λp q=>Pm (wle p q)
theorem Ku:1<=b->0+d+(b-d)-1=b-1->a<d+(b-d)->a<b+c:=λp q r=>OG r (Lt (Pg (Pm (wle p q))) (O4 _ _))
theorem Ek:a<c->c<=b->a<=b:=λp q=>Lt (O5 p) q
theorem I9:c+a<=b->a<=b-c:=λp=>QY (ele (SY _ _) p)
theorem J1:a+c<=b->a+(b-a)=b:=λp=>Uk (nxe p)
theorem IV:a<c+d->c+d<=b->a<=b:=λp q=>Lt (O5 p) q
theorem Ju:c<b->a<0+c->a<0+b:=λp q=>OG q (O5 (PT p _))
theorem Kt:c+d=b->a<c->0+a<=b:=λp q=>by subst p; rw[Qm]; exact Lt (O5 q) (O4 _ _)
theorem Hw:c+d=b->e<=d->a<c+e->a<b:=λp q r=>OG r (adE q (Pg p))
theorem ES:a+c<=b->a<=b:=λp=>nxe p
theorem Fy:d<=c->a<b+d+(c-d)->a<b+c:=λp q=>by rw[Qq,Pm p] at q; exact q
theorem Iy:a+c=d->b<=c->a+b+(c-b)<=d:=λp q=>by subst p; rw[Qq,Pm q]; exact Pe _
theorem Jy:b+d=a->a-(b+c)<=d-c:=λp=>by subst p; exact Pg (VR _ _ _)
theorem FR:a<c->c+d<=b->a<=b:=λp q=>Lt (O5 p) (nxe q)
theorem JQ:b<a->1<=a-b:=λp=>Qz (Rl p)
theorem Ag:0<a->1<=a:=λp=>Qz p
theorem IX:¬a-b<=c->1<=a-b:=λp=>Lt (Qj _ _) (Qz (RX p))
theorem EU:a+1+b=a+(b+1):=by lia
theorem JD:a+(b+1)=a+1+b:=by lia
theorem Hp:b=c->a=c->min a b=b:=λp q=>by subst q; subst p; exact WN _
theorem FU:b=c->a=c->b<128->a<=16777216:=λp q r=>by subst q; exact Lt (O5 (p▸r)) (by decide)
theorem DE:a=d->¬c<d->min a b<=c:=λp q=>mnl (ele p (Pj q))
theorem JX:b=c->b<128->a=0+d->d<c->a<=16777216:=λp q r s=>by subst r; rw[Qm]; exact Lt (O5 s) (Lt (O5 (p▸q)) (by decide))
theorem HD:b=c->b<128->a=0+d->d<c->a+1<=16777216+1:=λp q r s=>by subst r; rw[Qm]; exact Qn (Lt (O5 s) (Lt (O5 (p▸q)) (by decide)))
theorem EN:a-b=0->a-b=0:=by intro p; omega
theorem El:c=0+b->¬a<c->a-c=0->a=b:=λp q r=>by subst p; rw[Qm] at q r; exact P3 (RC r) (Pj q)
theorem Fd:0+a=a:=by lia
theorem GG:b<2->min a b<=1:=λp=>mne (PD p)
theorem EC:a=0+b->¬b<2->1<=a:=λp q=>by subst p; rw[Qm]; exact Lt (by decide:1<=2) (Pj q)
theorem HR:a=0+b->min a b=b:=λp=>by subst p; rw[Qm]; exact WN _
theorem Hy{a:ON}:(0:OF)+(↑a:OF)*(1:OF)=(↑a:OF):=by lia
theorem Ib:a<128->a<=2^24:=λp=>Lt (O5 p) (by decide)
theorem Hb:b=c->a=c->a=b:=λp q=>Zv q (TZ p)
theorem D0:a=c->¬b<c->a<=b:=λp q=>ele p (Pj q)
theorem KA{a b:ON}{c d:OF}:c=d/\(↑a:OF)=(↑b:OF)->a=b:=by intro p; lia
theorem Ks{a:ON}:-(2:OF)^(62:ON)<=(↑a:OF):=by lia
theorem HQ{a:ON}:a<128->(↑a:OF)<(2:OF)^(62:ON):=λp=>Qd (U5.mpr p) (by decide)
theorem GM:a+2*c+4<b->a<b:=λp=>nxl (nxl p)
theorem JC:a+2*c+4<b->a+1+2*0+1<b:=λp=>show a+2<b from OH (RW (O4 a _) (by decide:2<=4)) p
theorem Gv:a+100*c+300<b->a+1+1+3+100*0+200<b:=λp=>show a+205<b from OH (RW (O4 a _) (by decide:205<=300)) p
theorem Gz:b<127->a<=b->a+1<=1000000:=λp q=>Lt (Qz (OH q p)) (by decide)
theorem Jo:b<127->a<=b->a+1<128:=λp q=>T8 (OH q p) _
theorem Kg{a b:OF}:0<=b->a.toNat<=b.toNat->a<=b:=λp q=>Pi (WL a) (Pi (Qx.mpr q) (Tt (P4 p)))
theorem Au{a b:OF}:b=a->a<=b:=λp=>Tt (TZ p)
theorem zD{a b:OF}:a<=b->a<=b:=by intro p; omega
theorem zE{a b:ON}:(↑a:OF)=(↑b:OF)->a=b:=by intro p; lia
theorem EI{a b:OF}{c d:ON}:-b<=-a/\(-a = -b->(↑c:OF)<=(↑d:OF))->a<=b:=by intro p; lia
theorem FH{a b:OF}:b=a->-a = -b:=by intro p; lia
theorem Js:b<=100->a=b->a<128:=λp q=>OH (ele q p) (by decide)
theorem zJ{a:OF}{b c:ON}:c=b->0<=a/\a<c->0<=a/\a<b:=by intro p q; lia
theorem EE:b<=100->c=b->a<=c->a<=100:=λp q r=>Lt r (ele q p)
theorem Fi:a<=100->a<=999:=λp=>Lt p (by decide)
theorem Ah:a<=100->a<=999999:=λp=>Lt p (by decide)
theorem zf:a<=100->a<1000000:=λp=>OH p (by decide)
theorem JL:b<=100->c=b->a<=c->a<128:=λp q r=>OH r (OH (ele q p) (by decide))
theorem GP{a:OF}{b:ON}:0<=a/\a<b->0<=13+a:=λp=>RG (by decide) p.1
theorem Kw{a b:OF}:¬b<=a->a<=b:=λp=>QL (Xm.mp p)
theorem DP{a b c d:OF}:¬c<=d->c=d->a<=b:=λp q=>OW (Tt q) p
theorem DK:a+c=b->a<=b:=λp=>nxe (Pg p)
theorem IG{a b:ON}:a<=b->(↑a:OF)<=(↑b:OF):=λp=>Qx.mpr p
theorem EB:b<=100->a=b->a+1<=1000000:=λp q=>Lt (Qn (ele q p)) (by decide)
theorem Eo:a=b->a+1≠b:=λp=>T7 (Rk (Pg (TZ p)))
theorem IB:b<=100->a<=b->a<=100:=λp q=>Lt q p
theorem J4:b<=100->a<=b->a<128:=λp q=>OH q (OH p (by decide))
theorem IS:a=b->0<a->a-1≠b:=λp q=>P8 (OG (Uy q (by decide)) (Pg p))
theorem DT:b<=100->c=b->a<=c->a<=1000:=λp q r=>Lt r (Lt (ele q p) (by decide))
theorem Ik:b<=100->a=b->a<=100:=λp q=>ele q p
end
theorem aB (h0:p0 ) (h1:p1 ):p0/\p1:=⟨h0,h1⟩
theorem cg (h0:p0 ) (h1:p1 ) (h2:p2 ):p0/\p1/\p2:=⟨h0,h1,h2⟩
theorem cX (h0:p0 ) (h1:p1 ) (h2:p2 ) (h3:p3 ):p0/\p1/\p2/\p3:=⟨h0,h1,h2,h3⟩
theorem cr (h0:p0 ) (h1:p1 ) (h2:p2 ) (h3:p3 ) (h4:p4 ):p0/\p1/\p2/\p3/\p4:=⟨h0,h1,h2,h3,h4⟩
theorem lI (h0:p0 ) (h1:p1 ) (h2:p2 ) (h3:p3 ) (h4:p4 ) (h5:p5 ):p0/\p1/\p2/\p3/\p4/\p5:=⟨h0,h1,h2,h3,h4,h5⟩
theorem bx{A:Sort u0}{p:A->Prop}(a:A):p a->∃ a,p a:=λp=>⟨a,p⟩
theorem ag{A:Sort u0}{p q:A->Prop}(a:A):p a->q a->∃ a,p a/\q a:=λp q=>⟨a,p,q⟩
theorem aD{A:Sort u0}{p q r:A->Prop}(a:A):p a->q a->r a->∃ a,p a/\q a/\r a:=λp q r=>⟨a,p,q,r⟩
theorem bp{A:Sort u0}{p q r s:A->Prop}(a:A):p a->q a->r a->s a->∃ a,p a/\q a/\r a/\s a:=λp q r s=>⟨a,p,q,r,s⟩
theorem iU{A:Sort u0}{p q r s t:A->Prop}(a:A):p a->q a->r a->s a->t a->∃ a,p a/\q a/\r a/\s a/\t a:=λp q r s t=>⟨a,p,q,r,s,t⟩
theorem jO{A:Sort u0}{p q r s t u:A->Prop}(a:A):p a->q a->r a->s a->t a->u a->∃ a,p a/\q a/\r a/\s a/\t a/\u a:=λp q r s t u=>⟨a,p,q,r,s,t,u⟩
theorem tP{A:Sort u0}{p q r s t u v:A->Prop}(a:A):p a->q a->r a->s a->t a->u a->v a->∃ a,p a/\q a/\r a/\s a/\t a/\u a/\v a:=λp q r s t u v=>⟨a,p,q,r,s,t,u,v⟩
theorem bG{A:Sort u0}{B:Sort u1}{p:A->B->Prop}(a:A)(b:B):p a b->∃ a b,p a b:=λp=>⟨a,b,p⟩
theorem ay{A:Sort u0}{B:Sort u1}{p q:A->B->Prop}(a:A)(b:B):p a b->q a b->∃ a b,p a b/\q a b:=λp q=>⟨a,b,p,q⟩
theorem aP{A:Sort u0}{B:Sort u1}{p q r:A->B->Prop}(a:A)(b:B):p a b->q a b->r a b->∃ a b,p a b/\q a b/\r a b:=λp q r=>⟨a,b,p,q,r⟩
theorem bF{A:Sort u0}{B:Sort u1}{p q r s:A->B->Prop}(a:A)(b:B):p a b->q a b->r a b->s a b->∃ a b,p a b/\q a b/\r a b/\s a b:=λp q r s=>⟨a,b,p,q,r,s⟩
theorem bC{A:Sort u0}{B:Sort u1}{p q r s t:A->B->Prop}(a:A)(b:B):p a b->q a b->r a b->s a b->t a b->∃ a b,p a b/\q a b/\r a b/\s a b/\t a b:=λp q r s t=>⟨a,b,p,q,r,s,t⟩
theorem oL{A:Sort u0}{B:Sort u1}{p q r s t u:A->B->Prop}(a:A)(b:B):p a b->q a b->r a b->s a b->t a b->u a b->∃ a b,p a b/\q a b/\r a b/\s a b/\t a b/\u a b:=λp q r s t u=>⟨a,b,p,q,r,s,t,u⟩
theorem gT{A:Sort u0}{B:Sort u1}{p q r s t u v:A->B->Prop}(a:A)(b:B):p a b->q a b->r a b->s a b->t a b->u a b->v a b->∃ a b,p a b/\q a b/\r a b/\s a b/\t a b/\u a b/\v a b:=λp q r s t u v=>⟨a,b,p,q,r,s,t,u,v⟩
theorem oU{A:Sort u0}{B:Sort u1}{p q r s t u v w x y:A->B->Prop}(a:A)(b:B):p a b->q a b->r a b->s a b->t a b->u a b->v a b->w a b->x a b->y a b->∃ a b,p a b/\q a b/\r a b/\s a b/\t a b/\u a b/\v a b/\w a b/\x a b/\y a b:=λp q r s t u v w x y=>⟨a,b,p,q,r,s,t,u,v,w,x,y⟩
theorem cf{A:Sort u0}{B:Sort u1}{C:Sort u2}{p q:A->B->C->Prop}(a:A)(b:B)(c:C):p a b c->q a b c->∃ a b c,p a b c/\q a b c:=λp q=>⟨a,b,c,p,q⟩
theorem cU{A:Sort u0}{B:Sort u1}{C:Sort u2}{p q r:A->B->C->Prop}(a:A)(b:B)(c:C):p a b c->q a b c->r a b c->∃ a b c,p a b c/\q a b c/\r a b c:=λp q r=>⟨a,b,c,p,q,r⟩
theorem gK{A:Sort u0}{B:Sort u1}{C:Sort u2}{p q r s:A->B->C->Prop}(a:A)(b:B)(c:C):p a b c->q a b c->r a b c->s a b c->∃ a b c,p a b c/\q a b c/\r a b c/\s a b c:=λp q r s=>⟨a,b,c,p,q,r,s⟩
theorem fI{A:Sort u0}{B:Sort u1}{C:Sort u2}{p q r s t u:A->B->C->Prop}(a:A)(b:B)(c:C):p a b c->q a b c->r a b c->s a b c->t a b c->u a b c->∃ a b c,p a b c/\q a b c/\r a b c/\s a b c/\t a b c/\u a b c:=λp q r s t u=>⟨a,b,c,p,q,r,s,t,u⟩
theorem l6{A:Sort u0}{B:Sort u1}{C:Sort u2}{p q r s t u v:A->B->C->Prop}(a:A)(b:B)(c:C):p a b c->q a b c->r a b c->s a b c->t a b c->u a b c->v a b c->∃ a b c,p a b c/\q a b c/\r a b c/\s a b c/\t a b c/\u a b c/\v a b c:=λp q r s t u v=>⟨a,b,c,p,q,r,s,t,u,v⟩
theorem fO{A:Sort u0}{B:Sort u1}{C:Sort u2}{D:Sort u3}{p q:A->B->C->D->Prop}(a:A)(b:B)(c:C)(d:D):p a b c d->q a b c d->∃ a b c d,p a b c d/\q a b c d:=λp q=>⟨a,b,c,d,p,q⟩
theorem iX{A:Sort u0}{B:Sort u1}{C:Sort u2}{D:Sort u3}{p q r s:A->B->C->D->Prop}(a:A)(b:B)(c:C)(d:D):p a b c d->q a b c d->r a b c d->s a b c d->∃ a b c d,p a b c d/\q a b c d/\r a b c d/\s a b c d:=λp q r s=>⟨a,b,c,d,p,q,r,s⟩
theorem jX{A:Sort u0}{B:Sort u1}{C:Sort u2}{D:Sort u3}{p q r s t:A->B->C->D->Prop}(a:A)(b:B)(c:C)(d:D):p a b c d->q a b c d->r a b c d->s a b c d->t a b c d->∃ a b c d,p a b c d/\q a b c d/\r a b c d/\s a b c d/\t a b c d:=λp q r s t=>⟨a,b,c,d,p,q,r,s,t⟩
theorem pf{A:Sort u0}{B:Sort u1}{C:Sort u2}{D:Sort u3}{p q r s t u v w:A->B->C->D->Prop}(a:A)(b:B)(c:C)(d:D):p a b c d->q a b c d->r a b c d->s a b c d->t a b c d->u a b c d->v a b c d->w a b c d->∃ a b c d,p a b c d/\q a b c d/\r a b c d/\s a b c d/\t a b c d/\u a b c d/\v a b c d/\w a b c d:=λp q r s t u v w=>⟨a,b,c,d,p,q,r,s,t,u,v,w⟩
theorem oF{A:Sort u0}{B:Sort u1}{C:Sort u2}{D:Sort u3}{E:Sort u4}{p q:A->B->C->D->E->Prop}(a:A)(b:B)(c:C)(d:D)(e:E):p a b c d e->q a b c d e->∃ a b c d e,p a b c d e/\q a b c d e:=λp q=>⟨a,b,c,d,e,p,q⟩
theorem lY{A:Sort u0}{B:Sort u1}{C:Sort u2}{D:Sort u3}{E:Sort u4}{p q r s:A->B->C->D->E->Prop}(a:A)(b:B)(c:C)(d:D)(e:E):p a b c d e->q a b c d e->r a b c d e->s a b c d e->∃ a b c d e,p a b c d e/\q a b c d e/\r a b c d e/\s a b c d e:=λp q r s=>⟨a,b,c,d,e,p,q,r,s⟩
theorem vd{A:Sort u0}{B:Sort u1}{C:Sort u2}{D:Sort u3}{E:Sort u4}{p q r s t:A->B->C->D->E->Prop}(a:A)(b:B)(c:C)(d:D)(e:E):p a b c d e->q a b c d e->r a b c d e->s a b c d e->t a b c d e->∃ a b c d e,p a b c d e/\q a b c d e/\r a b c d e/\s a b c d e/\t a b c d e:=λp q r s t=>⟨a,b,c,d,e,p,q,r,s,t⟩
theorem An{A:Sort u0}{B:Sort u1}{C:Sort u2}{D:Sort u3}{E:Sort u4}{F:Sort u5}{p q:A->B->C->D->E->F->Prop}(a:A)(b:B)(c:C)(d:D)(e:E)(f:F):p a b c d e f->q a b c d e f->∃ a b c d e f,p a b c d e f/\q a b c d e f:=λp q=>⟨a,b,c,d,e,f,p,q⟩
theorem jS{A:Sort u0}{B:Sort u1}{C:Sort u2}{D:Sort u3}{E:Sort u4}{F:Sort u5}{H:Sort u6}{p q:A->B->C->D->E->F->H->Prop}(a:A)(b:B)(c:C)(d:D)(e:E)(f:F)(g:H):p a b c d e f g->q a b c d e f g->∃ a b c d e f g,p a b c d e f g/\q a b c d e f g:=λp q=>⟨a,b,c,d,e,f,g,p,q⟩
theorem Cm{A:Sort u0}{B:Sort u1}{C:Sort u2}{D:Sort u3}{E:Sort u4}{F:Sort u5}{H:Sort u6}{p q r s t u v:A->B->C->D->E->F->H->Prop}(a:A)(b:B)(c:C)(d:D)(e:E)(f:F)(g:H):p a b c d e f g->q a b c d e f g->r a b c d e f g->s a b c d e f g->t a b c d e f g->u a b c d e f g->v a b c d e f g->∃ a b c d e f g,p a b c d e f g/\q a b c d e f g/\r a b c d e f g/\s a b c d e f g/\t a b c d e f g/\u a b c d e f g/\v a b c d e f g:=λp q r s t u v=>⟨a,b,c,d,e,f,g,p,q,r,s,t,u,v⟩
theorem DA{A:Sort u0}{B:Sort u1}{C:Sort u2}{D:Sort u3}{E:Sort u4}{F:Sort u5}{H:Sort u6}{I:Sort u7}{p q:A->B->C->D->E->F->H->I->Prop}(a:A)(b:B)(c:C)(d:D)(e:E)(f:F)(g:H)(i:I):p a b c d e f g i->q a b c d e f g i->∃ a b c d e f g i,p a b c d e f g i/\q a b c d e f g i:=λp q=>⟨a,b,c,d,e,f,g,i,p,q⟩
theorem jA{A:Sort u0}{B:Sort u1}{C:Sort u2}{D:Sort u3}{E:Sort u4}{F:Sort u5}{H:Sort u6}{I:Sort u7}{p q r s t u v w x y z R S T:A->B->C->D->E->F->H->I->Prop}(a:A)(b:B)(c:C)(d:D)(e:E)(f:F)(g:H)(i:I):p a b c d e f g i->q a b c d e f g i->r a b c d e f g i->s a b c d e f g i->t a b c d e f g i->u a b c d e f g i->v a b c d e f g i->w a b c d e f g i->x a b c d e f g i->y a b c d e f g i->z a b c d e f g i->R a b c d e f g i->S a b c d e f g i->T a b c d e f g i->∃ a b c d e f g i,p a b c d e f g i/\q a b c d e f g i/\r a b c d e f g i/\s a b c d e f g i/\t a b c d e f g i/\u a b c d e f g i/\v a b c d e f g i/\w a b c d e f g i/\x a b c d e f g i/\y a b c d e f g i/\z a b c d e f g i/\R a b c d e f g i/\S a b c d e f g i/\T a b c d e f g i:=λp q r s t u v w x y z R S T=>⟨a,b,c,d,e,f,g,i,p,q,r,s,t,u,v,w,x,y,z,R,S,T⟩
theorem qb{A:Sort u0}{B:Sort u1}{C:Sort u2}{D:Sort u3}{E:Sort u4}{F:Sort u5}{H:Sort u6}{I:Sort u7}{J:Sort u8}{p q r s t u v w x y z R S T:A->B->C->D->E->F->H->I->J->Prop}(a:A)(b:B)(c:C)(d:D)(e:E)(f:F)(g:H)(i:I)(j:J):p a b c d e f g i j->q a b c d e f g i j->r a b c d e f g i j->s a b c d e f g i j->t a b c d e f g i j->u a b c d e f g i j->v a b c d e f g i j->w a b c d e f g i j->x a b c d e f g i j->y a b c d e f g i j->z a b c d e f g i j->R a b c d e f g i j->S a b c d e f g i j->T a b c d e f g i j->∃ a b c d e f g i j,p a b c d e f g i j/\q a b c d e f g i j/\r a b c d e f g i j/\s a b c d e f g i j/\t a b c d e f g i j/\u a b c d e f g i j/\v a b c d e f g i j/\w a b c d e f g i j/\x a b c d e f g i j/\y a b c d e f g i j/\z a b c d e f g i j/\R a b c d e f g i j/\S a b c d e f g i j/\T a b c d e f g i j:=λp q r s t u v w x y z R S T=>⟨a,b,c,d,e,f,g,i,j,p,q,r,s,t,u,v,w,x,y,z,R,S,T⟩
section
variable {G:Prop}
theorem ae (h:p0/\p1) (k:p0->p1->G):G:=by
 obtain ⟨h0,h1⟩:=h
 exact k h0 h1
theorem aj{A:Sort u0}{p:A->Prop}(h:∃ a,p a)(k:∀ a,p a->G):G:=by obtain ⟨a,p⟩:=h;exact k a p
theorem aH (h:p0/\p1/\p2) (k:p0->p1->p2->G):G:=by
 obtain ⟨h0,h1,h2⟩:=h
 exact k h0 h1 h2
theorem af{A:Sort u0}{p q:A->Prop}(h:∃ a,p a/\q a)(k:∀ a,p a->q a->G):G:=by obtain ⟨a,p,q⟩:=h;exact k a p q
theorem ba{A:Sort u0}{B:Sort u1}{p:A->B->Prop}(h:∃ a b,p a b)(k:∀ a b,p a b->G):G:=by obtain ⟨a,b,p⟩:=h;exact k a b p
theorem du (h:p0/\p1/\p2/\p3) (k:p0->p1->p2->p3->G):G:=by
 obtain ⟨h0,h1,h2,h3⟩:=h
 exact k h0 h1 h2 h3
theorem aq{A:Sort u0}{p q r:A->Prop}(h:∃ a,p a/\q a/\r a)(k:∀ a,p a->q a->r a->G):G:=by obtain ⟨a,p,q,r⟩:=h;exact k a p q r
theorem av{A:Sort u0}{B:Sort u1}{p q:A->B->Prop}(h:∃ a b,p a b/\q a b)(k:∀ a b,p a b->q a b->G):G:=by obtain ⟨a,b,p,q⟩:=h;exact k a b p q
theorem E0{A:Sort u0}{B:Sort u1}{C:Sort u2}{p:A->B->C->Prop}(h:∃ a b c,p a b c)(k:∀ a b c,p a b c->G):G:=by obtain ⟨a,b,c,p⟩:=h;exact k a b c p
theorem bD{A:Sort u0}{p q r s:A->Prop}(h:∃ a,p a/\q a/\r a/\s a)(k:∀ a,p a->q a->r a->s a->G):G:=by obtain ⟨a,p,q,r,s⟩:=h;exact k a p q r s
theorem aw{A:Sort u0}{B:Sort u1}{p q r:A->B->Prop}(h:∃ a b,p a b/\q a b/\r a b)(k:∀ a b,p a b->q a b->r a b->G):G:=by obtain ⟨a,b,p,q,r⟩:=h;exact k a b p q r
theorem bl{A:Sort u0}{B:Sort u1}{C:Sort u2}{p q:A->B->C->Prop}(h:∃ a b c,p a b c/\q a b c)(k:∀ a b c,p a b c->q a b c->G):G:=by obtain ⟨a,b,c,p,q⟩:=h;exact k a b c p q
theorem Ko{A:Sort u0}{B:Sort u1}{C:Sort u2}{D:Sort u3}{p:A->B->C->D->Prop}(h:∃ a b c d,p a b c d)(k:∀ a b c d,p a b c d->G):G:=by obtain ⟨a,b,c,d,p⟩:=h;exact k a b c d p
theorem jZ{A:Sort u0}{p q r s t:A->Prop}(h:∃ a,p a/\q a/\r a/\s a/\t a)(k:∀ a,p a->q a->r a->s a->t a->G):G:=by obtain ⟨a,p,q,r,s,t⟩:=h;exact k a p q r s t
theorem a8{A:Sort u0}{B:Sort u1}{p q r s:A->B->Prop}(h:∃ a b,p a b/\q a b/\r a b/\s a b)(k:∀ a b,p a b->q a b->r a b->s a b->G):G:=by obtain ⟨a,b,p,q,r,s⟩:=h;exact k a b p q r s
theorem aV{A:Sort u0}{B:Sort u1}{C:Sort u2}{p q r:A->B->C->Prop}(h:∃ a b c,p a b c/\q a b c/\r a b c)(k:∀ a b c,p a b c->q a b c->r a b c->G):G:=by obtain ⟨a,b,c,p,q,r⟩:=h;exact k a b c p q r
theorem cR{A:Sort u0}{B:Sort u1}{C:Sort u2}{D:Sort u3}{p q:A->B->C->D->Prop}(h:∃ a b c d,p a b c d/\q a b c d)(k:∀ a b c d,p a b c d->q a b c d->G):G:=by obtain ⟨a,b,c,d,p,q⟩:=h;exact k a b c d p q
theorem iP{A:Sort u0}{p q r s t u:A->Prop}(h:∃ a,p a/\q a/\r a/\s a/\t a/\u a)(k:∀ a,p a->q a->r a->s a->t a->u a->G):G:=by obtain ⟨a,p,q,r,s,t,u⟩:=h;exact k a p q r s t u
theorem jQ{A:Sort u0}{B:Sort u1}{p q r s t:A->B->Prop}(h:∃ a b,p a b/\q a b/\r a b/\s a b/\t a b)(k:∀ a b,p a b->q a b->r a b->s a b->t a b->G):G:=by obtain ⟨a,b,p,q,r,s,t⟩:=h;exact k a b p q r s t
theorem dm{A:Sort u0}{B:Sort u1}{C:Sort u2}{p q r s:A->B->C->Prop}(h:∃ a b c,p a b c/\q a b c/\r a b c/\s a b c)(k:∀ a b c,p a b c->q a b c->r a b c->s a b c->G):G:=by obtain ⟨a,b,c,p,q,r,s⟩:=h;exact k a b c p q r s
theorem zN{A:Sort u0}{B:Sort u1}{C:Sort u2}{D:Sort u3}{p q r:A->B->C->D->Prop}(h:∃ a b c d,p a b c d/\q a b c d/\r a b c d)(k:∀ a b c d,p a b c d->q a b c d->r a b c d->G):G:=by obtain ⟨a,b,c,d,p,q,r⟩:=h;exact k a b c d p q r
theorem iQ{A:Sort u0}{B:Sort u1}{C:Sort u2}{D:Sort u3}{E:Sort u4}{p q:A->B->C->D->E->Prop}(h:∃ a b c d e,p a b c d e/\q a b c d e)(k:∀ a b c d e,p a b c d e->q a b c d e->G):G:=by obtain ⟨a,b,c,d,e,p,q⟩:=h;exact k a b c d e p q
theorem zQ{A:Sort u0}{p q r s t u v:A->Prop}(h:∃ a,p a/\q a/\r a/\s a/\t a/\u a/\v a)(k:∀ a,p a->q a->r a->s a->t a->u a->v a->G):G:=by obtain ⟨a,p,q,r,s,t,u,v⟩:=h;exact k a p q r s t u v
theorem yS{A:Sort u0}{B:Sort u1}{p q r s t u:A->B->Prop}(h:∃ a b,p a b/\q a b/\r a b/\s a b/\t a b/\u a b)(k:∀ a b,p a b->q a b->r a b->s a b->t a b->u a b->G):G:=by obtain ⟨a,b,p,q,r,s,t,u⟩:=h;exact k a b p q r s t u
theorem fK{A:Sort u0}{B:Sort u1}{C:Sort u2}{D:Sort u3}{p q r s:A->B->C->D->Prop}(h:∃ a b c d,p a b c d/\q a b c d/\r a b c d/\s a b c d)(k:∀ a b c d,p a b c d->q a b c d->r a b c d->s a b c d->G):G:=by obtain ⟨a,b,c,d,p,q,r,s⟩:=h;exact k a b c d p q r s
theorem oN{A:Sort u0}{B:Sort u1}{C:Sort u2}{D:Sort u3}{E:Sort u4}{F:Sort u5}{p q:A->B->C->D->E->F->Prop}(h:∃ a b c d e f,p a b c d e f/\q a b c d e f)(k:∀ a b c d e f,p a b c d e f->q a b c d e f->G):G:=by obtain ⟨a,b,c,d,e,f,p,q⟩:=h;exact k a b c d e f p q
theorem tY{A:Sort u0}{B:Sort u1}{p q r s t u v:A->B->Prop}(h:∃ a b,p a b/\q a b/\r a b/\s a b/\t a b/\u a b/\v a b)(k:∀ a b,p a b->q a b->r a b->s a b->t a b->u a b->v a b->G):G:=by obtain ⟨a,b,p,q,r,s,t,u,v⟩:=h;exact k a b p q r s t u v
theorem cH{A:Sort u0}{B:Sort u1}{C:Sort u2}{p q r s t u:A->B->C->Prop}(h:∃ a b c,p a b c/\q a b c/\r a b c/\s a b c/\t a b c/\u a b c)(k:∀ a b c,p a b c->q a b c->r a b c->s a b c->t a b c->u a b c->G):G:=by obtain ⟨a,b,c,p,q,r,s,t,u⟩:=h;exact k a b c p q r s t u
theorem JA{A:Sort u0}{B:Sort u1}{C:Sort u2}{D:Sort u3}{p q r s t:A->B->C->D->Prop}(h:∃ a b c d,p a b c d/\q a b c d/\r a b c d/\s a b c d/\t a b c d)(k:∀ a b c d,p a b c d->q a b c d->r a b c d->s a b c d->t a b c d->G):G:=by obtain ⟨a,b,c,d,p,q,r,s,t⟩:=h;exact k a b c d p q r s t
theorem oK{A:Sort u0}{B:Sort u1}{C:Sort u2}{D:Sort u3}{E:Sort u4}{p q r s:A->B->C->D->E->Prop}(h:∃ a b c d e,p a b c d e/\q a b c d e/\r a b c d e/\s a b c d e)(k:∀ a b c d e,p a b c d e->q a b c d e->r a b c d e->s a b c d e->G):G:=by obtain ⟨a,b,c,d,e,p,q,r,s⟩:=h;exact k a b c d e p q r s
theorem iZ{A:Sort u0}{B:Sort u1}{C:Sort u2}{D:Sort u3}{E:Sort u4}{F:Sort u5}{H:Sort u6}{p q:A->B->C->D->E->F->H->Prop}(h:∃ a b c d e f g,p a b c d e f g/\q a b c d e f g)(k:∀ a b c d e f g,p a b c d e f g->q a b c d e f g->G):G:=by obtain ⟨a,b,c,d,e,f,g,p,q⟩:=h;exact k a b c d e f g p q
theorem uA{A:Sort u0}{B:Sort u1}{C:Sort u2}{p q r s t u v:A->B->C->Prop}(h:∃ a b c,p a b c/\q a b c/\r a b c/\s a b c/\t a b c/\u a b c/\v a b c)(k:∀ a b c,p a b c->q a b c->r a b c->s a b c->t a b c->u a b c->v a b c->G):G:=by obtain ⟨a,b,c,p,q,r,s,t,u,v⟩:=h;exact k a b c p q r s t u v
theorem uL{A:Sort u0}{B:Sort u1}{C:Sort u2}{D:Sort u3}{E:Sort u4}{p q r s t:A->B->C->D->E->Prop}(h:∃ a b c d e,p a b c d e/\q a b c d e/\r a b c d e/\s a b c d e/\t a b c d e)(k:∀ a b c d e,p a b c d e->q a b c d e->r a b c d e->s a b c d e->t a b c d e->G):G:=by obtain ⟨a,b,c,d,e,p,q,r,s,t⟩:=h;exact k a b c d e p q r s t
theorem CN{A:Sort u0}{B:Sort u1}{C:Sort u2}{D:Sort u3}{E:Sort u4}{F:Sort u5}{H:Sort u6}{I:Sort u7}{p q:A->B->C->D->E->F->H->I->Prop}(h:∃ a b c d e f g i,p a b c d e f g i/\q a b c d e f g i)(k:∀ a b c d e f g i,p a b c d e f g i->q a b c d e f g i->G):G:=by obtain ⟨a,b,c,d,e,f,g,i,p,q⟩:=h;exact k a b c d e f g i p q
theorem Dh{A:Sort u0}{B:Sort u1}{C:Sort u2}{D:Sort u3}{E:Sort u4}{p q r s t u:A->B->C->D->E->Prop}(h:∃ a b c d e,p a b c d e/\q a b c d e/\r a b c d e/\s a b c d e/\t a b c d e/\u a b c d e)(k:∀ a b c d e,p a b c d e->q a b c d e->r a b c d e->s a b c d e->t a b c d e->u a b c d e->G):G:=by obtain ⟨a,b,c,d,e,p,q,r,s,t,u⟩:=h;exact k a b c d e p q r s t u
theorem pF{A:Sort u0}{B:Sort u1}{p q r s t u v w x y:A->B->Prop}(h:∃ a b,p a b/\q a b/\r a b/\s a b/\t a b/\u a b/\v a b/\w a b/\x a b/\y a b)(k:∀ a b,p a b->q a b->r a b->s a b->t a b->u a b->v a b->w a b->x a b->y a b->G):G:=by obtain ⟨a,b,p,q,r,s,t,u,v,w,x,y⟩:=h;exact k a b p q r s t u v w x y
theorem v5{A:Sort u0}{B:Sort u1}{C:Sort u2}{D:Sort u3}{p q r s t u v w:A->B->C->D->Prop}(h:∃ a b c d,p a b c d/\q a b c d/\r a b c d/\s a b c d/\t a b c d/\u a b c d/\v a b c d/\w a b c d)(k:∀ a b c d,p a b c d->q a b c d->r a b c d->s a b c d->t a b c d->u a b c d->v a b c d->w a b c d->G):G:=by obtain ⟨a,b,c,d,p,q,r,s,t,u,v,w⟩:=h;exact k a b c d p q r s t u v w
theorem eB{A:Sort u0}{B:Sort u1}{C:Sort u2}{D:Sort u3}{E:Sort u4}{F:Sort u5}{H:Sort u6}{I:Sort u7}{J:Sort u8}{K:Sort u9}{L:Sort u10}{M:Sort u11}{p:A->B->C->D->E->F->H->I->J->K->L->M->Prop}(h:∃ a b c d e f g i j l m n,p a b c d e f g i j l m n)(k:∀ a b c d e f g i j l m n,p a b c d e f g i j l m n->G):G:=by obtain ⟨a,b,c,d,e,f,g,i,j,l,m,n,p⟩:=h;exact k a b c d e f g i j l m n p
theorem pJ{A:Sort u0}{B:Sort u1}{C:Sort u2}{D:Sort u3}{p q r s t u v w x y:A->B->C->D->Prop}(h:∃ a b c d,p a b c d/\q a b c d/\r a b c d/\s a b c d/\t a b c d/\u a b c d/\v a b c d/\w a b c d/\x a b c d/\y a b c d)(k:∀ a b c d,p a b c d->q a b c d->r a b c d->s a b c d->t a b c d->u a b c d->v a b c d->w a b c d->x a b c d->y a b c d->G):G:=by obtain ⟨a,b,c,d,p,q,r,s,t,u,v,w,x,y⟩:=h;exact k a b c d p q r s t u v w x y
theorem uY{A:Sort u0}{B:Sort u1}{p q r s t u v w x y z R S:A->B->Prop}(h:∃ a b,p a b/\q a b/\r a b/\s a b/\t a b/\u a b/\v a b/\w a b/\x a b/\y a b/\z a b/\R a b/\S a b)(k:∀ a b,p a b->q a b->r a b->s a b->t a b->u a b->v a b->w a b->x a b->y a b->z a b->R a b->S a b->G):G:=by obtain ⟨a,b,p,q,r,s,t,u,v,w,x,y,z,R,S⟩:=h;exact k a b p q r s t u v w x y z R S
theorem uW{A:Sort u0}{B:Sort u1}{C:Sort u2}{D:Sort u3}{E:Sort u4}{F:Sort u5}{p q r s t u v w x:A->B->C->D->E->F->Prop}(h:∃ a b c d e f,p a b c d e f/\q a b c d e f/\r a b c d e f/\s a b c d e f/\t a b c d e f/\u a b c d e f/\v a b c d e f/\w a b c d e f/\x a b c d e f)(k:∀ a b c d e f,p a b c d e f->q a b c d e f->r a b c d e f->s a b c d e f->t a b c d e f->u a b c d e f->v a b c d e f->w a b c d e f->x a b c d e f->G):G:=by obtain ⟨a,b,c,d,e,f,p,q,r,s,t,u,v,w,x⟩:=h;exact k a b c d e f p q r s t u v w x
theorem we{A:Sort u0}{B:Sort u1}{C:Sort u2}{D:Sort u3}{E:Sort u4}{F:Sort u5}{H:Sort u6}{p q r s t u v w x:A->B->C->D->E->F->H->Prop}(h:∃ a b c d e f g,p a b c d e f g/\q a b c d e f g/\r a b c d e f g/\s a b c d e f g/\t a b c d e f g/\u a b c d e f g/\v a b c d e f g/\w a b c d e f g/\x a b c d e f g)(k:∀ a b c d e f g,p a b c d e f g->q a b c d e f g->r a b c d e f g->s a b c d e f g->t a b c d e f g->u a b c d e f g->v a b c d e f g->w a b c d e f g->x a b c d e f g->G):G:=by obtain ⟨a,b,c,d,e,f,g,p,q,r,s,t,u,v,w,x⟩:=h;exact k a b c d e f g p q r s t u v w x
theorem C8{A:Sort u0}{B:Sort u1}{C:Sort u2}{D:Sort u3}{E:Sort u4}{F:Sort u5}{H:Sort u6}{I:Sort u7}{p q r s t u v w x:A->B->C->D->E->F->H->I->Prop}(h:∃ a b c d e f g i,p a b c d e f g i/\q a b c d e f g i/\r a b c d e f g i/\s a b c d e f g i/\t a b c d e f g i/\u a b c d e f g i/\v a b c d e f g i/\w a b c d e f g i/\x a b c d e f g i)(k:∀ a b c d e f g i,p a b c d e f g i->q a b c d e f g i->r a b c d e f g i->s a b c d e f g i->t a b c d e f g i->u a b c d e f g i->v a b c d e f g i->w a b c d e f g i->x a b c d e f g i->G):G:=by obtain ⟨a,b,c,d,e,f,g,i,p,q,r,s,t,u,v,w,x⟩:=h;exact k a b c d e f g i p q r s t u v w x
theorem BJ{A:Sort u0}{B:Sort u1}{C:Sort u2}{D:Sort u3}{E:Sort u4}{F:Sort u5}{H:Sort u6}{I:Sort u7}{J:Sort u8}{K:Sort u9}{p q r s t u v w x y z:A->B->C->D->E->F->H->I->J->K->Prop}(h:∃ a b c d e f g i j l,p a b c d e f g i j l/\q a b c d e f g i j l/\r a b c d e f g i j l/\s a b c d e f g i j l/\t a b c d e f g i j l/\u a b c d e f g i j l/\v a b c d e f g i j l/\w a b c d e f g i j l/\x a b c d e f g i j l/\y a b c d e f g i j l/\z a b c d e f g i j l)(k:∀ a b c d e f g i j l,p a b c d e f g i j l->q a b c d e f g i j l->r a b c d e f g i j l->s a b c d e f g i j l->t a b c d e f g i j l->u a b c d e f g i j l->v a b c d e f g i j l->w a b c d e f g i j l->x a b c d e f g i j l->y a b c d e f g i j l->z a b c d e f g i j l->G):G:=by obtain ⟨a,b,c,d,e,f,g,i,j,l,p,q,r,s,t,u,v,w,x,y,z⟩:=h;exact k a b c d e f g i j l p q r s t u v w x y z
theorem jH{A:Sort u0}{B:Sort u1}{C:Sort u2}{D:Sort u3}{E:Sort u4}{F:Sort u5}{H:Sort u6}{I:Sort u7}{p q r s t u v w x y z R S T:A->B->C->D->E->F->H->I->Prop}(h:∃ a b c d e f g i,p a b c d e f g i/\q a b c d e f g i/\r a b c d e f g i/\s a b c d e f g i/\t a b c d e f g i/\u a b c d e f g i/\v a b c d e f g i/\w a b c d e f g i/\x a b c d e f g i/\y a b c d e f g i/\z a b c d e f g i/\R a b c d e f g i/\S a b c d e f g i/\T a b c d e f g i)(k:∀ a b c d e f g i,p a b c d e f g i->q a b c d e f g i->r a b c d e f g i->s a b c d e f g i->t a b c d e f g i->u a b c d e f g i->v a b c d e f g i->w a b c d e f g i->x a b c d e f g i->y a b c d e f g i->z a b c d e f g i->R a b c d e f g i->S a b c d e f g i->T a b c d e f g i->G):G:=by obtain ⟨a,b,c,d,e,f,g,i,p,q,r,s,t,u,v,w,x,y,z,R,S,T⟩:=h;exact k a b c d e f g i p q r s t u v w x y z R S T
theorem Dz{A:Sort u0}{B:Sort u1}{C:Sort u2}{D:Sort u3}{E:Sort u4}{F:Sort u5}{H:Sort u6}{I:Sort u7}{J:Sort u8}{p q r s t u v w x y z R S T:A->B->C->D->E->F->H->I->J->Prop}(h:∃ a b c d e f g i j,p a b c d e f g i j/\q a b c d e f g i j/\r a b c d e f g i j/\s a b c d e f g i j/\t a b c d e f g i j/\u a b c d e f g i j/\v a b c d e f g i j/\w a b c d e f g i j/\x a b c d e f g i j/\y a b c d e f g i j/\z a b c d e f g i j/\R a b c d e f g i j/\S a b c d e f g i j/\T a b c d e f g i j)(k:∀ a b c d e f g i j,p a b c d e f g i j->q a b c d e f g i j->r a b c d e f g i j->s a b c d e f g i j->t a b c d e f g i j->u a b c d e f g i j->v a b c d e f g i j->w a b c d e f g i j->x a b c d e f g i j->y a b c d e f g i j->z a b c d e f g i j->R a b c d e f g i j->S a b c d e f g i j->T a b c d e f g i j->G):G:=by obtain ⟨a,b,c,d,e,f,g,i,j,p,q,r,s,t,u,v,w,x,y,z,R,S,T⟩:=h;exact k a b c d e f g i j p q r s t u v w x y z R S T
theorem bA {a b:Pr}(h:(a&&b)=Gt):a=Gt/\b=true:=QT.mp h
end
theorem aI {α β:Type}{f:α->β}{l:vk α}{b:β}{G:Prop}(h:b∈l.map f) (k:∀ a,a∈l->f a=b->G):G:=af (Tx.mp h) k
theorem be {α β:Type}{o:OE α}{f:α->OE β}{b:β}{G:Prop}(h:o.bind f=rg b) (k:∀ a,o=rg a->f a=rg b->G):G:=af (U6.mp h) k
theorem bk {α β:Type}{o:OE α}{f:α->β}{b:β}{G:Prop}(h:o.map f=rg b) (k:∀ a,o=rg a->f a=b->G):G:=af (Sj.mp h) k
theorem bP {α:Type}{o:OE α}{G:Prop}(h:o.isSome=Gt) (k:∀ a,o=rg a->G):G:=aj (S5.mp h) k
theorem xo {α:Type}{p:α->Pr}{l:vk α}{a:α}{G:Prop}(h:a∈l.filter p) (k:a∈l->p a=Gt->G):G:=ae (Qs.mp h) k
theorem bS {a b:Pr}{G:Prop}(h:(a&&b)=Gt) (k:a=Gt->b=Gt->G):G:=ae (QT.mp h) k
open PySem
inductive Mode where
 | sh | top | deep
 deriving DecidableEq
inductive V where
 | d (x:OU)
 | dic0
 | dicI (ks:vk OF)
 | dicT (ks:vk (vk OF))
 | rule (c:OF) (d:OU) (n:OF)
 | err (c:Ot)
set_option genInjectivity true in
inductive Out (α:Type) where
 | ok (a:α)
 | exc (c:Ot)
 | bad
namespace Out
noncomputable def bind:Out α->(α->Out β)->Out β
 | .ok a,f=>f a
 | .exc c,_=>.exc c
 | .bad,_=>.bad
@[simp] theorem ok_bind (a:α) (f:α->Out β):(Out.ok a).bind f=f a:=rfl
@[simp] theorem exc_bind (c:Ot) (f:α->Out β):(Out.exc c:Out α).bind f = .exc c:=rfl
@[simp] theorem K0 (f:α->Out β):(Out.bad:Out α).bind f = .bad:=rfl
noncomputable def calm:Out α->Out α
 | .ok a=>.ok a
 | _=>.bad
@[simp] theorem calm_ok (a:α):(Out.ok a).calm = .ok a:=rfl
theorem _root_.Internal.nB {α:Type}{a:α}{G:Prop}(h:(Out.bad:Out α) = .ok a):G:=by cases h
theorem _root_.Internal.nE {α:Type}{a:α}{c:Ot}{G:Prop}(h:(Out.exc c:Out α) = .ok a):G:=by cases h
theorem _root_.Internal.nN {α:Type}{a:α}{G:Prop}(h:(OC:OE α)=rg a):G:=by cases h
theorem _root_.Internal.nM {α:Type}{a:α}{G:Prop}(h:rg a=(OC:OE α)):G:=by cases h
theorem _root_.Internal.nF {G:Prop}(h:Oz=Gt):G:=by cases h
theorem _root_.Internal.nT {G:Prop}(h:Gt=Oz):G:=by cases h
theorem Bh {α β:Type}{o:Out α}{f:α->Out β}{b:β}(h:o.bind f = .ok b):∃ a,o = .ok a/\f a = .ok b:=by
 cases o with
 | ok a=>exact ⟨a,rfl,h⟩
 | exc c=>cases h
 | bad=>cases h
theorem bind_k {α β:Type}{o:Out α}{f:α->Out β}{b:β}{G:Prop}(h:o.bind f = .ok b) (k:∀ a,o = .ok a->f a = .ok b->G):G:=af (Bh h) k
end Out
inductive BOp where
 | add | sub | mul | fdiv | mod | pow | xor
 deriving DecidableEq
inductive COp where
 | eq | ne | lt | gt | ge | isin | notin | isnot
 deriving DecidableEq
inductive B1 where
 | len | list | tuple | sorted | max
 deriving DecidableEq
inductive B2 where
mutual
inductive E where
 | name (x:Ot)
 | int (i:OF)
 | str (s:Ot)
 | bool (b:Pr)
 | none
 | bin (o:BOp) (a b:E)
 | neg (a:E)
 | not (a:E)
 | cmp (o:COp) (a b:E)
 | and (a b:E)
 | or (a b:E)
 | list (es:Es)
 | tup (es:Es)
 | edic
 | comp (elt:E) (x:Ot) (it:It)
 | compif (elt:E) (x:Ot) (it:It) (c:E)
 | sub (a i:E)
 | slo (a lo:E)
 | rev (a:E)
 | attr (a:E) (n:Ot)
 | bi1 (f:B1) (a:E)
 | isi (a:E) (t:Ot)
 | call (f:Ot) (es:Es)
 | meth (a:E) (m:Ot) (es:Es)
 | order (x t:Ot)
 | isE (x t:Ot)
inductive Es where
 | nil
 | cons (e:E) (es:Es)
inductive It where
 | e (a:E)
 | r1 (n:E)
 | r2 (a b:E)
end
abbrev St:=Ot->OE (V×Mode)
abbrev Calls:=Ot->OE (vk V->Out (V×Mode))
noncomputable def upd (σ:St) (x:Ot) (v:V×Mode):St:=λy=>if y=x then rg v else σ y
noncomputable def isI:OU->Pr
 | .int _=>Gt
 | _=>Oz
noncomputable def sx:OU->Pr
 | .none | .bool _ | .int _ | .str _=>Gt
 | .tuple xs=>xs.all isI
 | .list _ | .dict _=>Oz
noncomputable def mq:V->Pr
 | .d x=>sx x
 | _=>Oz
noncomputable def mk (v:V):V×Mode:=(v,if mq v then .deep else .sh)
noncomputable def fresh (xs:vk OU):Mode:=if xs.all sx then .deep else .top
noncomputable def lim:Nat:=1000000
noncomputable def okc (d:OU):Bool:=d.canLay0&&decide (d.depth<=64)
noncomputable def sI (i:OF):V×Mode:=(.d (.int i),.deep)
noncomputable def sB (b:Pr):V×Mode:=(.d (.bool b),.deep)
noncomputable def cL:OU->OE OF
 | .int i=>rg i
 | _=>OC
noncomputable def aK:vk OU->OE (vk OF)
 | []=>rg []
 | .int i::r=>(aK r).map (i :: ·)
 | _::_=>OC
noncomputable def eu:OU->OE (vk OF)
 | .tuple xs=>aK xs
 | _=>OC
noncomputable def am (o:OE α) (f:α->Out β):Out β:=match o with
 | some a=>f a
 | none=>.bad
@[simp] theorem fq (a:α) (f:α->Out β):am (rg a) f=f a:=rfl
theorem aS (h:am o f = .ok r):∃ a,o=rg a/\f a = .ok r:=by
 cases o with
 | some a=>exact ⟨a,rfl,h⟩
 | none=>cases h
theorem aU {α β:Type}{o:OE α}{f:α->Out β}{r:β}{G:Prop}(h:am o f = .ok r) (k:∀ a,o=rg a->f a = .ok r->G):G:=af (aS h) k
def NE (o:Out α):Prop:=∀ c,o≠.exc c
theorem NE.ok:NE (Out.ok a):=λuu h=>by cases h
theorem NE.bad:NE (Out.bad:Out α):=λuu h=>by cases h
theorem NE.calm {α:Type}{o:Out α}:NE o.calm:=λc h=>by cases o<;>cases h
theorem NE.opt (h:∀ a,NE (f a)):NE (am o f):=by
 cases o with
 | some a=>exact h a
 | none=>exact .bad
theorem NE.ite [V6 c] (ha:NE a) (hb:NE b):NE (if c then a else b):=by
 by_cases h:c
 ·rw[OD h]; exact ha
 ·rw[OB h]; exact hb
theorem NE.bind (ho:NE o) (h:∀ a,NE (f a)):NE (o.bind f):=by
 cases o with
 | ok a=>exact h a
 | exc c=>exact OW rfl (ho c)
 | bad=>exact .bad
noncomputable def asL:OU->OE (vk OU)
 | .list xs=>rg xs
 | _=>OC
noncomputable def asD:V->OE OU
 | .d x=>rg x
 | _=>OC
@[simp] theorem lA (x:OU):asD (.d x)=rg x:=rfl
noncomputable def isN:OU->Pr
 | .none=>Gt
 | _=>Oz
theorem cE (h:cL x=rg i):x = .int i:=by cases x<;>cases h; rfl
theorem cK (h:asL x=rg i):x = .list i:=by cases x<;>cases h; rfl
theorem bB (h:asD x=rg i):x = .d i:=by cases x<;>cases h; rfl
theorem AM (h:isN x=Gt):x = .none:=by cases x<;>first | rfl | cases h
noncomputable def i2 (x y:OU) (f:OF->OF->Out β):Out β:=am (cL x) λa=>am (cL y) λb=>f a b
theorem e9 (h:i2 x y f = .ok r):∃ a b,x = .int a/\y = .int b/\f a b = .ok r:=by
 refine aU h λa i h=>?_
 refine aU h λb g h=>?_
 exact ⟨a,b,cE i,cE g,h⟩
noncomputable def d2 (x y:V) (f:OU->OU->Out β):Out β:=am (asD x) λa=>am (asD y) λb=>f a b
theorem iN (h:d2 x y f = .ok r):∃ a b,x = .d a/\y = .d b/\f a b = .ok r:=by
 refine aU h λa i h=>?_
 refine aU h λb g h=>?_
 exact ⟨a,b,bB i,bB g,h⟩
noncomputable def o0 (x y:OU):Out (V×Mode):=match asL x with
 | some a=>am (asL y) λb=>if a.length+b.length<=lim then .ok (.d (.list (a++b)),fresh (a++b)) else .bad
 | none=>i2 x y λa b=>.ok (sI (a+b))
noncomputable def dC (o:BOp) (x y:OU):Out (V×Mode):=match o with
 | .add=>o0 x y
 | .sub=>i2 x y λa b=>.ok (sI (a-b))
 | .mul=>i2 x y λa b=>if a.natAbs<2^63\/b.natAbs<2^63 then .ok (sI (a*b)) else .bad
 | .fdiv=>i2 x y λa b=>if b=0\/1000000000<=b.natAbs then .bad else .ok (sI (a.fdiv b))
 | .mod=>i2 x y λa b=>if b=0 then .bad else .ok (sI (a.fmod b))
 | .pow=>i2 x y λa b=>if 0<=b/\b<=1000/\a.natAbs<2^63 then .ok (sI (a^b.toNat)) else .bad
 | .xor=>i2 x y λa b=>.ok (sI (UA a b))
theorem AR:NE (dC o x y):=by
 have h:∀ (f:OF->OF->Out (V×Mode)),(∀ a b,NE (f a b))->NE (i2 x y f):=λf hf=>.opt λa=>.opt λb=>hf a b
 cases o with
 | add=>
  show NE (o0 x y)
  unfold o0
  cases asL x with
  | some a=>exact .opt λb=>.ite .ok .bad
  | none=>exact h _ λuu uu=>.ok
 | sub=>exact h _ λuu uu=>.ok
 | mul=>exact h _ λuu uu=>.ite .ok .bad
 | fdiv=>exact h _ λuu uu=>.ite .bad .ok
 | mod=>exact h _ λuu uu=>.ite .bad .ok
 | pow=>exact h _ λuu uu=>.ite .ok .bad
 | xor=>exact h _ λuu uu=>.ok
noncomputable def inV (k:OU) (c:V):Out Bool:=match c with
 | .d x=>am (asL x) λg=>if okc k&&okc (.list g) then .ok (g.any λy=>QN y k) else .bad
 | .dicI ks=>am (cL k) λi=>.ok (decide (i∈ks))
 | .dicT ks=>am (eu k) λi=>.ok (decide (i∈ks))
 | .dic0=>if (cL k).isSome||(eu k).isSome then .ok Oz else .bad
 | .rule _ _ _=>.bad
 | .err _=>.bad
theorem wj:NE (inV k c):=by
 cases c with
 | d x=>exact .opt λuu=>.ite .ok .bad
 | dicI ks=>exact .opt λuu=>.ok
 | dicT ks=>exact .opt λuu=>.ok
 | dic0=>exact .ite .ok .bad
 | rule _ _ _=>exact .bad
 | err _=>exact .bad
noncomputable def cA (o:COp) (x y:V):Out Bool:=match o with
 | .eq=>d2 x y λa b=>if okc a&&okc b then .ok (QN a b) else .bad
 | .ne=>d2 x y λa b=>if okc a&&okc b then .ok (!PyData.eqv a b) else .bad
 | .lt=>d2 x y λa b=>i2 a b λa b=>.ok (decide (a<b))
 | .gt=>d2 x y λa b=>i2 a b λa b=>.ok (decide (b<a))
 | .ge=>d2 x y λa b=>i2 a b λa b=>.ok (decide (b<=a))
 | .isin=>am (asD x) λk=>inV k y
 | .notin=>d2 x y λk c=>(inV k (.d c)).bind λb=>.ok (!b)
 | .isnot=>d2 x y λa b=>if isN b then .ok (!isN a) else .bad
theorem BM:NE (cA o x y):=by
 have h:∀ (f:OU->OU->Out Pr),(∀ a b,NE (f a b))->NE (d2 x y f):=λf hf=>.opt λa=>.opt λb=>hf a b
 cases o with
 | eq=>exact h _ λuu uu=>.ite .ok .bad
 | ne=>exact h _ λuu uu=>.ite .ok .bad
 | isin=>exact .opt λuu=>wj
 | notin=>exact h _ λuu uu=>.bind wj λuu=>.ok
 | isnot=>exact h _ λuu uu=>.ite .ok .bad
 | _=>exact h _ λuu uu=>.opt λuu=>.opt λuu=>.ok
noncomputable def bI (i:OF) (n:ON):OE Nat:=if 0<=i then (if i<n then rg i.toNat else OC) else (if -(n:OF)<=i then rg (i+n).toNat else OC)
noncomputable def asT:OU->OE (vk OU)
 | .tuple xs=>rg xs
 | _=>OC
theorem mP (h:asT x=rg i):x = .tuple i:=by cases x<;>cases h; rfl
noncomputable def elem (x:OU) (i:OF):OE PyData:=match asL x with
 | some xs=>(bI i xs.length).bind λk=>xs[k]?
 | none=>match asT x with
  | some xs=>(bI i xs.length).bind λk=>xs[k]?
  | none=>OC
noncomputable def eO (x y:OU):Out (V×Mode):=am (cL y) λi=>am (elem x i) λz=>.ok (mk (.d z))
theorem BN:NE (eO x y):=.opt λuu=>.opt λuu=>.ok
noncomputable def iE:OU->OU->Out (V×Mode)
 | .list xs,.int i=>if 0<=i/\i<2^62 then .ok (.d (.list (xs.drop i.toNat)),fresh (xs.drop i.toNat)) else .bad
 | _,_=>.bad
noncomputable def xp:OU->Out (V×Mode)
 | .list xs=>.ok (.d (.list xs.reverse),fresh xs.reverse)
 | _=>.bad
noncomputable def aa (xs:vk OF):PyData:=.list (xs.map .int)
noncomputable def aO (xs:vk OF):PyData:=.tuple (xs.map .int)
noncomputable def ah (t:vk (vk OF)):PyData:=.list (t.map aa)
noncomputable def ltL:vk OF->vk OF->Pr
 | [],[]=>Oz
 | [],_::_=>Gt
 | _::_,[]=>Oz
 | a::as,b::bs=>if a=b then ltL as bs else decide (a<b)
noncomputable def ez:vk OU->OE (vk (vk OF))
 | []=>rg []
 | x::r=>(eu x).bind λk=>(ez r).map (k :: ·)
noncomputable def bL (ks:vk (vk OF)):vk (vk OF):=ks.mergeSort λa b=>!ltL b a
noncomputable def f9 (xs:vk OU):Out (V×Mode):=match ez xs with
 | some ks=>if ks.length<2\/[]∉ks then .ok (.d (.list ((bL ks).map aO)),fresh ((bL ks).map aO)) else .bad
 | none=>.bad
theorem tn:NE (f9 xs):=by
 unfold f9
 cases ez xs with
 | some ks=>exact .ite .ok .bad
 | none=>exact .bad
noncomputable def dW (xs:vk OU):Out (V×Mode) :=
 if xs.length<64 then (match aK xs with
  | some g=>.ok (.d (aa (g.mergeSort (λa b=>decide (a<=b)))),.deep)
  | none=>f9 xs)
 else if xs.length<128 then am (aK xs) λg=>if ∀ i∈g,0<=i then .ok (.d (aa (g.mergeSort (λa b=>decide (a<=b)))),.deep) else .bad
 else .bad
noncomputable def eh:vk OF->OE OF
 | []=>OC
 | x::xs=>rg (xs.foldl (λa b=>if a<b then b else a) x)
noncomputable def b1D (f:B1) (v:V):Out (V×Mode):=am (asD v) λx=>match f with
 | .len=>(match asT x with
  | some g=>.ok (sI g.length)
  | none=>am (asL x) λg=>.ok (sI g.length))
 | .list=>(match asT x with
  | some g=>.ok (.d (.list g),fresh g)
  | none=>am (asL x) λg=>.ok (.d (.list g),fresh g))
 | .tuple=>am (asL x) λg=>.ok (.d (.tuple g),if g.all sx then .deep else .sh)
 | .sorted=>am (asL x) λg=>dW g
 | .max=>am (asL x) λg=>am ((aK g).bind eh) λi=>.ok (sI i)
theorem Dq:NE (b1D f v):=.opt λx=>by
 cases f with
 | len=>
  show NE (match asT x with | some g=>Out.ok (sI g.length) | none=>am (asL x) λg=>.ok (sI g.length))
  cases asT x with
  | some g=>exact .ok
  | none=>exact .opt λuu=>.ok
 | list=>
  show NE (match asT x with | some g=>Out.ok (V.d (.list g),fresh g) | none=>am (asL x) λg=>.ok (V.d (.list g),fresh g))
  cases asT x with
  | some g=>exact .ok
  | none=>exact .opt λuu=>.ok
 | tuple=>exact .opt λuu=>.ok
 | sorted=>
  refine .opt λg=>.ite ?_ (.ite (.opt λuu=>.ite .ok .bad) .bad)
  cases aK g with
  | some ns=>exact .ok
  | none=>exact tn
 | max=>exact .opt λuu=>.opt λuu=>.ok
noncomputable def ui:V->OE (vk (vk OF))
 | .dicT ks=>rg ks
 | _=>OC
theorem xQ (h:ui v=rg ks):v = .dicT ks:=by
 cases v<;>cases h
 rfl
noncomputable def oC (f:B1) (ks:vk (vk OF)):Out (V×Mode):=if f = .list/\ks.length<=lim then .ok (.d (.list (ks.map aO)),fresh (ks.map aO)) else .bad
noncomputable def b1V (f:B1) (v:V):Out (V×Mode):=match ui v with
 | some ks=>oC f ks
 | none=>b1D f v
theorem CD:NE (b1V f v):=by
 unfold b1V
 cases ui v with
 | some ks=>exact .ite .ok .bad
 | none=>exact Dq
noncomputable def qq:OU->ON
 | .none=>0
 | .bool _=>1
 | .int _=>2
 | .str _=>3
 | .list _=>4
 | .tuple _=>5
 | .dict _=>6
noncomputable def mn (t:Ot) (k:ON):OE Bool :=
 if t = "int" then rg (k==2||k==1) else if t = "bool" then rg (k==1) else if t = "list" then rg (k==4) else if t = "tuple" then rg (k==5) else if t = "str" then rg (k==3) else OC
noncomputable def g8 (v:V) (t:Ot):Out Bool:=am (asD v) λx=>am (mn t (qq x)) .ok
theorem oS {t:Ot}{k:ON}{b:Pr}{G:Prop}(h:mn t k=rg b) (c1:t = "int" -> (k==2||k==1)=b->G) (c2:t = "bool" -> (k==1)=b->G) (c3:t = "list" -> (k==4)=b->G) (c4:t = "tuple" -> (k==5)=b->G) (c5:t = "str" -> (k==3)=b->G):G:=by
 unfold mn at h
 by_cases q:t = "int"
 ·rw[OD q] at h; exact c1 q (vj h)
 rw[OB q] at h
 by_cases q:t = "bool"
 ·rw[OD q] at h; exact c2 q (vj h)
 rw[OB q] at h
 by_cases q:t = "list"
 ·rw[OD q] at h; exact c3 q (vj h)
 rw[OB q] at h
 by_cases q:t = "tuple"
 ·rw[OD q] at h; exact c4 q (vj h)
 rw[OB q] at h
 by_cases q:t = "str"
 ·rw[OD q] at h; exact c5 q (vj h)
 rw[OB q] at h
 cases h
theorem xU (h:g8 v t = .ok b):∃ x,v = .d x/\mn t (qq x)=rg b:=by
 obtain ⟨x,i,h⟩:=aS h
 obtain ⟨c,g,h⟩:=aS h
 exact ⟨x,bB i,by rw[g,Out.ok.inj h]⟩
theorem BC:NE (g8 v t):=.opt λuu=>.opt λuu=>.ok
noncomputable def au:V->Out Pr
 | .d (.bool b)=>.ok b
 | _=>.bad
noncomputable def fu:V->OE (OF×OU×OF)
 | .rule c d n=>rg (c,d,n)
 | _=>OC
theorem l5 (h:fu x=rg q):x = .rule q.1 q.2.1 q.2.2:=by cases x<;>cases h; rfl
noncomputable def oB:V->OE Ot
 | .err c=>rg c
 | _=>OC
theorem uv (h:oB x=rg c):x = .err c:=by cases x<;>cases h; rfl
noncomputable def jY (x:V) (n:Ot):Out (V×Mode):=am (fu x) λq=>if n = "count" then .ok (sI q.1) else if n = "full" then .ok (mk (.d q.2.1)) else if n = "size" then .ok (sI q.2.2) else .bad
theorem yJ:NE (jY x n):=.opt λuu=>.ite .ok (.ite .ok (.ite .ok .bad))
noncomputable def methNames:vk String:=["together", "rank", "need_full", "outs", "exchanges"]
noncomputable def aE:vk String:=["PickError", "NoChoice", "NoThing", "NoExchange", "NoWeights", "NoRule"]
noncomputable def wO (C:Calls) (c t:Ot):Out (V×Mode):=if t∈aE then am (C t) λuu=>.ok (sB (decide (t=c\/t = "PickError"))) else .bad
noncomputable def fieldNames:vk String:=["count", "full", "size"]
noncomputable def cZ (a b:OF):vk PyData:=(Qe (b-a).toNat).map λ(k:ON)=>.int (a+k)
noncomputable def ck (a b:OF):Out (vk OU×Mode) :=
 if (b-a).toNat<=lim/\-(2^60)<=a/\a<2^60/\-(2^60)<=b/\b<2^60 then .ok (cZ a b,.deep) else .bad
noncomputable def bE (f:OU->Out (OE (V×Mode))):vk OU->Out (vk OU×Pr)
 | []=>.ok ([],Gt)
 | x::xs=>(f x).bind λr=>(bE f xs).bind λq=>match r with
  | none=>.ok q
  | some (.d y,m)=>.ok (y::q.1,decide (m = .deep)&&q.2)
  | some _=>.bad
noncomputable def bZ:vk (V×Mode)->OE (vk OU)
 | []=>rg []
 | (.d x,_)::r=>(bZ r).map (x :: ·)
 | _::_=>OC
noncomputable def allDeep (l:vk (V×Mode)):Bool:=l.all λp=>decide (p.2 = .deep)
noncomputable def gH:V->OE (vk OU)
 | .d (.list xs)=>rg xs
 | _=>OC
theorem gO (h:gH v=rg xs):v = .d (.list xs):=by
 unfold gH at h
 split at h
 ·cases h; rfl
 ·cases h
noncomputable def itV (r:V×Mode):Out (vk OU×Mode):=match gH r.1 with
 | some xs=>.ok (xs,r.2)
 | none=>.bad
noncomputable def dD (ns:vk OF) (i:ON):vk Int:=[-(ns.getD i 0),(i:OF)]
noncomputable def bN (ns:vk OF):vk Int:=(((Qe ns.length).map λi=>(dD ns i,i)).mergeSort λa b=>!ltL b.1 a.1).map λp=>(p.2:OF)
noncomputable def eF (p:OE (V×Mode)):Out (V×Mode):=am p λq=>am (asD q.1) λd=>am (asL d) λh=>am (aK h) λg=>if g.length<128 then .ok (.d (.list ((bN g).map .int)),.deep) else .bad
mutual
noncomputable def ev (C:Calls):E->St->Out (V×Mode)
 | .name x,σ=>match σ x with | some p=>.ok (mk p.1) | none=>.bad
 | .int i,_=>.ok (sI i)
 | .str s,_=>.ok (.d (.str (mL s)),.deep)
 | .bool b,_=>.ok (sB b)
 | .none,_=>.ok (.d .none,.deep)
 | .bin o a b,σ=>(ev C a σ).bind λx=>(ev C b σ).bind λy=>match x.1,y.1 with | .d x,.d y=>dC o x y | _,_=>.bad
 | .neg a,σ=>(ev C a σ).bind λx=>match x.1 with | .d (.int i)=>.ok (sI (-i)) | _=>.bad
 | .not a,σ=>(ev C a σ).bind λx=>(au x.1).bind λb=>.ok (sB (!b))
 | .cmp o a b,σ=>(ev C a σ).bind λx=>(ev C b σ).bind λy=>(cA o x.1 y.1).bind λb=>.ok (sB b)
 | .and a b,σ=>(ev C a σ).bind λx=>(au x.1).bind λt=>if t then (ev C b σ).bind λy=>(au y.1).bind λu=>.ok (sB u) else .ok (sB Oz)
 | .or a b,σ=>(ev C a σ).bind λx=>(au x.1).bind λt=>if t then .ok (sB Gt) else (ev C b σ).bind λy=>(au y.1).bind λu=>.ok (sB u)
 | .list es,σ=>(evs C es σ).bind λl=>match bZ l with
  | some xs=>.ok (.d (.list xs),if allDeep l then .deep else .top)
  | none=>.bad
 | .tup es,σ=>(evs C es σ).bind λl=>match bZ l with
  | some xs=>.ok (.d (.tuple xs),if allDeep l then .deep else .sh)
  | none=>.bad
 | .edic,_=>.ok (.dic0,.deep)
 | .comp elt x it,σ=>(bh C it σ).bind λq=>(bE (λy=>(ev C elt (upd σ x (mk (.d y)))).bind λr=>.ok (rg r)) q.1).calm.bind λr=>.ok (.d (.list r.1),if r.2 then .deep else .top)
 | .compif elt x it c,σ=>(bh C it σ).bind λq=>(bE (λy=>(ev C c (upd σ x (mk (.d y)))).bind λt=>(au t.1).bind λb=>if b then (ev C elt (upd σ x (mk (.d y)))).bind λr=>.ok (rg r) else .ok OC) q.1).calm.bind λr=>.ok (.d (.list r.1),if r.2 then .deep else .top)
 | .sub a i,σ=>(ev C a σ).bind λx=>(ev C i σ).bind λy=>match x.1,y.1 with | .d x,.d y=>eO x y | _,_=>.bad
 | .slo a i,σ=>(ev C a σ).bind λx=>(ev C i σ).bind λy=>match x.1,y.1 with | .d x,.d y=>iE x y | _,_=>.bad
 | .rev a,σ=>(ev C a σ).bind λx=>match x.1 with | .d x=>xp x | _=>.bad
 | .attr a n,σ=>am (C "Rule") λuu=>(ev C a σ).bind λx=>jY x.1 n
 | .bi1 f a,σ=>(ev C a σ).bind λx=>b1V f x.1
 | .isi a t,σ=>(ev C a σ).bind λx=>(g8 x.1 t).bind λb=>.ok (sB b)
 | .call f es,σ=>match C f with
  | some g=>(evs C es σ).bind λl=>g (l.map (·.1))
  | none=>.bad
 | .meth a m es,σ=>(ev C a σ).bind λx=>am (fu x.1) λuu=>am (C m) λg=>(evs C es σ).bind λl=>g (x.1::l.map (·.1))
 | .order x _,σ=>am (C "law") λuu=>eF (σ x)
 | .isE x t,σ=>am (σ x) λp=>am (oB p.1) λc=>wO C c t
noncomputable def evs (C:Calls):Es->St->Out (vk (V×Mode))
 | .nil,_=>.ok []
 | .cons e es,σ=>(ev C e σ).bind λx=>(evs C es σ).bind λl=>.ok (x::l)
noncomputable def bh (C:Calls):It->St->Out (vk OU×Mode)
 | .e a,σ=>(ev C a σ).bind itV
 | .r1 n,σ=>(ev C n σ).bind λx=>match x.1 with | .d (.int n)=>ck 0 n | _=>.bad
 | .r2 a b,σ=>(ev C a σ).bind λx=>(ev C b σ).bind λy=>match x.1,y.1 with | .d (.int a),.d (.int b)=>ck a b | _,_=>.bad
end
theorem ce (C:Calls) (x:Ot) (σ:St):ev C (.name x) σ=(match σ x with | some p=>.ok (mk p.1) | none=>.bad):=rfl
theorem eJ (C:Calls) (i:OF) (σ0:St):ev C (.int i) σ0=(.ok (sI i)):=rfl
theorem j8 (C:Calls) (s:Ot) (σ0:St):ev C (.str s) σ0=(.ok (.d (.str (mL s)),.deep)):=rfl
theorem gu (C:Calls) (b:Pr) (σ0:St):ev C (.bool b) σ0=(.ok (sB b)):=rfl
theorem gy (C:Calls) (σ0:St):ev C .none σ0=(.ok (.d .none,.deep)):=rfl
theorem fS (C:Calls) (o:BOp) (a:E) (b:E) (σ:St):ev C (.bin o a b) σ=((ev C a σ).bind λx=>(ev C b σ).bind λy=>match x.1,y.1 with | .d x,.d y=>dC o x y | _,_=>.bad):=rfl
theorem fY (C:Calls) (a:E) (σ:St):ev C (.neg a) σ=((ev C a σ).bind λx=>match x.1 with | .d (.int i)=>.ok (sI (-i)) | _=>.bad):=rfl
theorem d8 (C:Calls) (a:E) (σ:St):ev C (.not a) σ=((ev C a σ).bind λx=>(au x.1).bind λb=>.ok (sB (!b))):=rfl
theorem ed (C:Calls) (o:COp) (a:E) (b:E) (σ:St):ev C (.cmp o a b) σ=((ev C a σ).bind λx=>(ev C b σ).bind λy=>(cA o x.1 y.1).bind λb=>.ok (sB b)):=rfl
theorem d7 (C:Calls) (a:E) (b:E) (σ:St):ev C (.and a b) σ=((ev C a σ).bind λx=>(au x.1).bind λt=>if t then (ev C b σ).bind λy=>(au y.1).bind λu=>.ok (sB u) else .ok (sB Oz)):=rfl
theorem fx (C:Calls) (a:E) (b:E) (σ:St):ev C (.or a b) σ=((ev C a σ).bind λx=>(au x.1).bind λt=>if t then .ok (sB Gt) else (ev C b σ).bind λy=>(au y.1).bind λu=>.ok (sB u)):=rfl
theorem bO (C:Calls) (es:Es) (σ:St):ev C (.list es) σ=((evs C es σ).bind λl=>match bZ l with
  | some xs=>.ok (.d (.list xs),if allDeep l then .deep else .top)
  | none=>.bad):=rfl
theorem eS (C:Calls) (es:Es) (σ:St):ev C (.tup es) σ=((evs C es σ).bind λl=>match bZ l with
  | some xs=>.ok (.d (.tuple xs),if allDeep l then .deep else .sh)
  | none=>.bad):=rfl
theorem gv (C:Calls) (σ0:St):ev C .edic σ0=(.ok (.dic0,.deep)):=rfl
theorem dS (C:Calls) (elt:E) (x:Ot) (it:It) (σ:St):ev C (.comp elt x it) σ=((bh C it σ).bind λq=>(bE (λy=>(ev C elt (upd σ x (mk (.d y)))).bind λr=>.ok (rg r)) q.1).calm.bind λr=>.ok (.d (.list r.1),if r.2 then .deep else .top)):=rfl
theorem cQ (C:Calls) (elt:E) (x:Ot) (it:It) (c:E) (σ:St):ev C (.compif elt x it c) σ=((bh C it σ).bind λq=>(bE (λy=>(ev C c (upd σ x (mk (.d y)))).bind λt=>(au t.1).bind λb=>if b then (ev C elt (upd σ x (mk (.d y)))).bind λr=>.ok (rg r) else .ok OC) q.1).calm.bind λr=>.ok (.d (.list r.1),if r.2 then .deep else .top)):=rfl
theorem eQ (C:Calls) (a:E) (i:E) (σ:St):ev C (.sub a i) σ=((ev C a σ).bind λx=>(ev C i σ).bind λy=>match x.1,y.1 with | .d x,.d y=>eO x y | _,_=>.bad):=rfl
theorem f8 (C:Calls) (a:E) (i:E) (σ:St):ev C (.slo a i) σ=((ev C a σ).bind λx=>(ev C i σ).bind λy=>match x.1,y.1 with | .d x,.d y=>iE x y | _,_=>.bad):=rfl
theorem fU (C:Calls) (a:E) (σ:St):ev C (.rev a) σ=((ev C a σ).bind λx=>match x.1 with | .d x=>xp x | _=>.bad):=rfl
theorem eM (C:Calls) (a:E) (n:Ot) (σ:St):ev C (.attr a n) σ=(am (C "Rule") λuu=>(ev C a σ).bind λx=>jY x.1 n):=rfl
theorem eE (C:Calls) (f:B1) (a:E) (σ:St):ev C (.bi1 f a) σ=((ev C a σ).bind λx=>b1V f x.1):=rfl
theorem f7 (C:Calls) (a:E) (t:Ot) (σ:St):ev C (.isi a t) σ=((ev C a σ).bind λx=>(g8 x.1 t).bind λb=>.ok (sB b)):=rfl
theorem eP (C:Calls) (f:Ot) (es:Es) (σ:St):ev C (.call f es) σ=(match C f with
  | some g=>(evs C es σ).bind λl=>g (l.map (·.1))
  | none=>.bad):=rfl
theorem dR (C:Calls) (a:E) (m:Ot) (es:Es) (σ:St):ev C (.meth a m es) σ=((ev C a σ).bind λx=>am (fu x.1) λuu=>am (C m) λg=>(evs C es σ).bind λl=>g (x.1::l.map (·.1))):=rfl
theorem rP (C:Calls) (x:Ot) (t:Ot) (σ:St):ev C (.isE x t) σ=(am (σ x) λp=>am (oB p.1) λc=>wO C c t):=rfl
theorem fm (C:Calls) (x:Ot) (z1:Ot) (σ:St):ev C (.order x z1) σ=(am (C "law") λuu=>eF (σ x)):=rfl
theorem bi (C:Calls) (σ0:St):evs C .nil σ0=(.ok []):=rfl
theorem a9 (C:Calls) (e:E) (es:Es) (σ:St):evs C (.cons e es) σ=((ev C e σ).bind λx=>(evs C es σ).bind λl=>.ok (x::l)):=rfl
theorem ie (C:Calls) (a:E) (σ:St):bh C (.e a) σ=((ev C a σ).bind itV):=rfl
theorem gf (C:Calls) (n:E) (σ:St):bh C (.r1 n) σ=((ev C n σ).bind λx=>match x.1 with | .d (.int n)=>ck 0 n | _=>.bad):=rfl
theorem gw (C:Calls) (a:E) (b:E) (σ:St):bh C (.r2 a b) σ=((ev C a σ).bind λx=>(ev C b σ).bind λy=>match x.1,y.1 with | .d (.int a),.d (.int b)=>ck a b | _,_=>.bad):=rfl
mutual
noncomputable def fv:E->vk Ot
 | .name x=>[x]
 | .int _ | .str _ | .bool _ | .none | .edic=>[]
 | .bin _ a b | .cmp _ a b | .and a b | .or a b | .sub a b | .slo a b=>fv a++fv b
 | .neg a | .not a | .rev a | .attr a _ | .bi1 _ a | .isi a _=>fv a
 | .list es | .tup es | .call _ es=>fvs es
 | .comp elt _ it=>bK it++fv elt
 | .compif elt _ it c=>bK it++(fv c++fv elt)
 | .meth a _ es=>fv a++fvs es
 | .order x _=>[x]
 | .isE x _=>[x]
noncomputable def fvs:Es->vk Ot
 | .nil=>[]
 | .cons e es=>fv e++fvs es
noncomputable def bK:It->vk Ot
 | .e a=>fv a
 | .r1 n=>fv n
 | .r2 a b=>fv a++fv b
end
theorem dO (x:Ot):fv (.name x)=([x]):=rfl
theorem Cd (z0:OF):fv (.int z0)=([]):=rfl
theorem MB (z0:Ot):fv (.str z0)=([]):=rfl
theorem L8 (z0:Pr):fv (.bool z0)=([]):=rfl
theorem K8:fv .none=([]):=rfl
theorem Mu:fv .edic=([]):=rfl
theorem Bf (z0:BOp) (a:E) (b:E):fv (.bin z0 a b)=(fv a++fv b):=rfl
theorem Bo (z0:COp) (a:E) (b:E):fv (.cmp z0 a b)=(fv a++fv b):=rfl
theorem Bm (a:E) (b:E):fv (.and a b)=(fv a++fv b):=rfl
theorem CP (a:E) (b:E):fv (.or a b)=(fv a++fv b):=rfl
theorem rW (a:E) (b:E):fv (.sub a b)=(fv a++fv b):=rfl
theorem BK (a:E) (b:E):fv (.slo a b)=(fv a++fv b):=rfl
theorem By (a:E):fv (.neg a)=(fv a):=rfl
theorem B8 (a:E):fv (.not a)=(fv a):=rfl
theorem Bx (a:E):fv (.rev a)=(fv a):=rfl
theorem yr (a:E) (z1:Ot):fv (.attr a z1)=(fv a):=rfl
theorem rX (z0:B1) (a:E):fv (.bi1 z0 a)=(fv a):=rfl
theorem A1 (a:E) (z1:Ot):fv (.isi a z1)=(fv a):=rfl
theorem yK (es:Es):fv (.list es)=(fvs es):=rfl
theorem Bu (es:Es):fv (.tup es)=(fvs es):=rfl
theorem kJ (z0:Ot) (es:Es):fv (.call z0 es)=(fvs es):=rfl
theorem yG (elt:E) (z1:Ot) (it:It):fv (.comp elt z1 it)=(bK it++fv elt):=rfl
theorem s7 (elt:E) (z1:Ot) (it:It) (c:E):fv (.compif elt z1 it c)=(bK it++(fv c++fv elt)):=rfl
theorem x8 (a:E) (z1:Ot) (es:Es):fv (.meth a z1 es)=(fv a++fvs es):=rfl
theorem BP (x:Ot) (z1:Ot):fv (.isE x z1)=([x]):=rfl
theorem vI (x:Ot) (z1:Ot):fv (.order x z1)=([x]):=rfl
theorem o9:fvs .nil=([]):=rfl
theorem jm (e:E) (es:Es):fvs (.cons e es)=(fv e++fvs es):=rfl
theorem fQ (a:E):bK (.e a)=(fv a):=rfl
theorem pM (n:E):bK (.r1 n)=(fv n):=rfl
theorem xT (a:E) (b:E):bK (.r2 a b)=(fv a++fv b):=rfl
inductive H1 where
 | asg (x:Ot) (e:E)
 | ret (e:E)
mutual
inductive S where
 | assign (x:Ot) (e:E)
 | setitem (x:Ot) (k:E)
 | append (x:Ot) (e:E)
 | insert (x:Ot) (i e:E)
 | pop (x:Ot) (i:E)
 | expr (e:E)
 | ret (e:E)
 | retn (x:Ot)
 | ite (c:E) (a b:Ss)
 | for1 (x:Ot) (it:It) (b:Ss)
 | raise (c:Ot)
 | tryS (b:S) (d x:Ot) (r:vk H1)
 | bad
inductive Ss where
 | nil
 | cons (s:S) (r:Ss)
end
mutual
noncomputable def asg:S->vk Ot
 | .assign x _ | .setitem x _ | .append x _ | .insert x _ _ | .pop x _=>[x]
 | .expr _ | .ret _ | .retn _ | .raise _ | .bad=>[]
 | .ite _ a b=>g7 a++g7 b
 | .for1 x _ b=>x::g7 b
 | .tryS b _ _ _=>asg b
noncomputable def g7:Ss->vk Ot
 | .nil=>[]
 | .cons s r=>asg s++g7 r
end
inductive Flw where
 | next
 | ret (v:V×Mode)
noncomputable def demote (σ:St) (ns:vk Ot):St:=λy=>if y∈ns then (σ y).map λp=>mk p.1 else σ y
noncomputable def consume (σ:St) (ns:vk Ot) (m:Mode):St:=if m = .deep then σ else demote σ ns
noncomputable def cF (f:OU->St->Out (St×Flw)):vk OU->St->Out (St×Flw)
 | [],σ=>.ok (σ,.next)
 | x::xs,σ=>(f x σ).bind λr=>match r.2 with
  | .next=>cF f xs r.1
  | .ret v=>.ok (r.1,.ret v)
noncomputable def jC (σ:St) (x:Ot) (ns:vk Ot) (mx:Mode) (xs:vk OU) (m:Mode):Out (St×Flw) :=
 if xs.length<=lim then
  if m = .deep then .ok (upd σ x (.d (.list xs),mx),.next)
  else if x∈ns then .bad else .ok (upd (demote σ ns) x (.d (.list xs),.top),.next)
 else .bad
noncomputable def g9 (σ:St) (x:Ot):V->OU->Out (St×Flw)
 | .dic0,k=>match cL k with
  | some i=>.ok (upd σ x (.dicI [i],.deep),.next)
  | none=>match eu k with
   | some t=>.ok (upd σ x (.dicT [t],.deep),.next)
   | none=>.bad
 | .dicI ks,k=>match cL k with
  | some i=>if ks.length<=lim then .ok (upd σ x (.dicI (if i∈ks then ks else ks++[i]),.deep),.next) else .bad
  | none=>.bad
 | .dicT ks,k=>match eu k with
  | some i=>if ks.length<=lim then .ok (upd σ x (.dicT (if i∈ks then ks else ks++[i]),.deep),.next) else .bad
  | none=>.bad
 | _,_=>.bad
noncomputable def ic:E->Pr
 | .comp _ _ _ | .compif _ _ _ _=>Gt
 | _=>Oz
noncomputable def evA (C:Calls) (e:E) (σ:St):Out (V×Mode):=if ic e then (ev C e σ).calm else ev C e σ
theorem l7 (h:ev C e σ = .ok r):evA C e σ = .ok r:=by
 unfold evA; rw[h]; split<;>rfl
theorem Dg (h:evA C e σ = .ok r):ev C e σ = .ok r:=by
 unfold evA at h
 split at h
 ·cases q:ev C e σ with
  | ok a=>rw[q] at h; exact h
  | exc c=>rw[q] at h; cases h
  | bad=>rw[q] at h; cases h
 ·exact h
theorem AW (h:evA C e σ = .exc c):ev C e σ = .exc c/\ic e=false:=by
 unfold evA at h
 split at h
 ·cases q:ev C e σ<;>rw[q] at h<;>cases h
 ·rename_i q
  exact ⟨h,by cases hc:ic e with | true=>exact OW hc q | false=>rfl⟩
noncomputable def hOk:E->Pr
 | .name _ | .isE _ _=>Gt
 | .and a b | .or a b=>hOk a&&hOk b
 | .not a=>hOk a
 | _=>Oz
noncomputable def kI (C:Calls):Calls:=λf=>if f∈aE then C f else OC
noncomputable def exH (C:Calls):vk H1->St->Out (V×Mode)
 | [],_=>.bad
 | .asg x e::r,σ=>if hOk e then (ev (kI C) e σ).bind λq=>exH C r (upd (consume σ (fv e) q.2) x q) else .bad
 | .ret e::_,σ=>if hOk e then ev (kI C) e σ else .bad
noncomputable def ql (C:Calls) (c d x:Ot) (r:vk H1) (σ:St):Out (V×Mode):=am (C d) λuu=>if d∈aE/\(d=c\/d = "PickError") then (exH C r (upd σ x (.err c,.sh))).bind λq=>if mq q.1=Gt then .ok q else .bad else .bad
noncomputable def tj:S->Pr
 | .expr _=>Gt
 | _=>Oz
noncomputable def orH (C:Calls) (b:S) (d x:Ot) (r:vk H1) (σ:St):Out (St×Flw)->Out (St×Flw)
 | .ok o=>.ok o
 | .exc c=>if tj b then (ql C c d x r σ).calm.bind λq=>.ok (σ,.ret q) else .bad
 | .bad=>.bad
mutual
noncomputable def ex (C:Calls):S->St->Out (St×Flw)
 | .assign x e,g=>(evA C e g).bind λr=>.ok (upd (consume g (fv e) r.2) x r,.next)
 | .setitem x k,g=>((ev C k g).bind λr=>am (asD r.1) λd=>am (g x) λp=>if p.2 = .deep then g9 g x p.1 d else .bad).calm
 | .append x e,g=>((ev C e g).bind λr=>am (asD r.1) λy=>am (g x) λp=>am (gH p.1) λh=>if p.2 = .sh then .bad else jC g x (fv e) p.2 (h++[y]) r.2).calm
 | .insert x i e,g=>((ev C i g).bind λq=>(ev C e g).bind λr=>am (asD q.1) λd=>am (cL d) λi=>am (asD r.1) λy=>am (g x) λp=>am (gH p.1) λh=>if p.2 = .sh\/i<0\/(h.length:OF)<i then .bad else jC g x (fv e) p.2 (h.take i.toNat++y::h.drop i.toNat) r.2).calm
 | .pop x i,g=>((ev C i g).bind λq=>am (asD q.1) λd=>am (cL d) λi=>am (g x) λp=>am (gH p.1) λh=>if p.2 = .sh\/i<0\/(h.length:OF)<=i then .bad else .ok (upd g x (.d (.list (h.eraseIdx i.toNat)),.top),.next)).calm
 | .expr e,g=>(ev C e g).bind λr=>.ok (consume g (fv e) r.2,.next)
 | .retn x,g=>match g x with
  | some r=>.ok (g,.ret r)
  | none=>.bad
 | .ret e,g=>(ev C e g).bind λr=>.ok (g,.ret r)
 | .ite c a b,g=>(ev C c g).bind λr=>(au r.1).bind λt=>if t then exs C a g else exs C b g
 | .for1 x it b,g=>(bh C it g).bind λq=>cF (λy g=>exs C b (upd g x (mk (.d y)))) q.1 (consume g (bK it) q.2)
 | .raise c,_=>am (C c) λuu=>if c∈aE then .exc c else .bad
 | .tryS b d x r,g=>orH C b d x r g (ex C b g)
 | .bad,_=>.bad
noncomputable def exs (C:Calls):Ss->St->Out (St×Flw)
 | .nil,σ=>.ok (σ,.next)
 | .cons s r,σ=>(ex C s σ).bind λq=>match q.2 with
  | .next=>exs C r q.1
  | .ret v=>.ok (q.1,.ret v)
end
theorem dv (C:Calls) (x:Ot) (e:E) (σ:St):ex C (.assign x e) σ=((evA C e σ).bind λr=>.ok (upd (consume σ (fv e) r.2) x r,.next)):=rfl
theorem cV (C:Calls) (x:Ot) (k:E) (σ:St):ex C (.setitem x k) σ=((ev C k σ).bind λr=>am (asD r.1) λd=>am (σ x) λp=>if p.2 = .deep then g9 σ x p.1 d else .bad).calm:=rfl
theorem fE (C:Calls) (x:Ot) (e:E) (σ:St):ex C (.append x e) σ=((ev C e σ).bind λr=>am (asD r.1) λy=>am (σ x) λp=>am (gH p.1) λxs=>if p.2 = .sh then .bad else jC σ x (fv e) p.2 (xs++[y]) r.2).calm:=rfl
theorem jb (C:Calls) (x:Ot) (i:E) (e:E) (σ:St):ex C (.insert x i e) σ=((ev C i σ).bind λq=>(ev C e σ).bind λr=>am (asD q.1) λd=>am (cL d) λi=>am (asD r.1) λy=>am (σ x) λp=>am (gH p.1) λxs=>if p.2 = .sh\/i<0\/(xs.length:OF)<i then .bad else jC σ x (fv e) p.2 (xs.take i.toNat++y::xs.drop i.toNat) r.2).calm:=rfl
theorem mJ (C:Calls) (x:Ot) (i:E) (σ:St):ex C (.pop x i) σ=((ev C i σ).bind λq=>am (asD q.1) λd=>am (cL d) λi=>am (σ x) λp=>am (gH p.1) λxs=>if p.2 = .sh\/i<0\/(xs.length:OF)<=i then .bad else .ok (upd σ x (.d (.list (xs.eraseIdx i.toNat)),.top),.next)).calm:=rfl
theorem eY (C:Calls) (e:E) (σ:St):ex C (.expr e) σ=((ev C e σ).bind λr=>.ok (consume σ (fv e) r.2,.next)):=rfl
theorem kK (C:Calls) (x:Ot) (σ:St):ex C (.retn x) σ=(match σ x with
  | some r=>.ok (σ,.ret r)
  | none=>.bad):=rfl
theorem hW (C:Calls) (e:E) (σ:St):ex C (.ret e) σ=((ev C e σ).bind λr=>.ok (σ,.ret r)):=rfl
theorem fV (C:Calls) (c:E) (a:Ss) (b:Ss) (σ:St):ex C (.ite c a b) σ=((ev C c σ).bind λr=>(au r.1).bind λt=>if t then exs C a σ else exs C b σ):=rfl
theorem pQ (C:Calls) (x:Ot) (it:It) (b:Ss) (σ:St):ex C (.for1 x it b) σ=((bh C it σ).bind λq=>cF (λy σ=>exs C b (upd σ x (mk (.d y)))) q.1 (consume σ (bK it) q.2)):=rfl
theorem fo (C:Calls) (c:Ot) (σ0:St):ex C (.raise c) σ0=(am (C c) λuu=>if c∈aE then .exc c else .bad):=rfl
theorem kP (C:Calls) (b:S) (d x:Ot) (r:vk H1) (σ:St):ex C (.tryS b d x r) σ=(orH C b d x r σ (ex C b σ)):=rfl
theorem A8 (C:Calls) (σ0:St):ex C .bad σ0=(.bad):=rfl
theorem cP (C:Calls) (σ:St):exs C .nil σ=(.ok (σ,.next)):=rfl
theorem b0 (C:Calls) (s:S) (r:Ss) (σ:St):exs C (.cons s r) σ=((ex C s σ).bind λq=>match q.2 with
  | .next=>exs C r q.1
  | .ret v=>.ok (q.1,.ret v)):=rfl
structure Fn where
 params:vk Ot
 body:Ss
noncomputable def bw:vk Ot->vk V->OE St
 | [],[]=>rg λuu=>OC
 | p::ps,v::vs=>(bw ps vs).map λg=>upd g p (mk v)
 | _,_=>OC
noncomputable def aA (C:Calls) (f:Fn) (vs:vk V):Out (V×Mode):=match bw f.params vs with
 | some σ=>(exs C f.body σ).bind λr=>match r.2 with
  | .ret v=>.ok v
  | .next=>.ok (.d .none,.deep)
 | none=>.bad
noncomputable def aM (C:Calls):Calls:=λf=>if f = "law" then OC else C f
noncomputable def fj (σ:St):Out (V×Mode):=am (σ "count") λp=>am (asD p.1) λc=>am (cL c) λc=>am (σ "full") λq=>am (asD q.1) λd=>am (asL d) λg=>am (g[0]?) λx=>am (asL x) λh=>
 if q.2 = .deep then .ok (.rule c (.list g) h.length,.deep) else .bad
noncomputable def c6 (C:Calls) (f:Fn) (vs:vk V):Out (V×Mode):=match bw f.params vs with
 | some σ=>(exs C f.body σ).bind λr=>match r.2 with
  | .next=>fj r.1
  | .ret _=>.bad
 | none=>.bad
noncomputable def cy (f:Ot) (C:Calls) (fn:Fn) (vs:vk V):Out (V×Mode):=if f = "Rule" then c6 (aM C) fn vs else if f∈methNames then aA (aM C) fn vs else aA C fn vs
noncomputable def mkC (L:vk (Ot×Fn)):ON->Calls
 | 0=>λuu=>OC
 | n+1=>λf=>(L.lookup f).map λh g=>cy f (mkC L n) h g
open PyProof.Rows
mutual
inductive R (h:PE):N8->OU->vk O1->Prop
 | none:R h .none .none []
 | bool (b:Pr):R h (.bool b) (.bool b) []
 | int (i:OF) (t:Tok):R h (.int i t) (.int i) []
 | str (x:Str) (t:Tok):R h (.str x t) (.str x) []
 | list {a:O1}{n:ON}{xs:vk OU}{as:vk O1}{vs:vk N8}:h.get? a=rg ⟨.type "list", Q4,.seq vs.toArray n,#[]⟩->RA h vs xs as->R h (.ref a) (.list xs) (a::as)
 | tuple {a:O1}{n:ON}{xs:vk OU}{as:vk O1}{vs:vk N8}:h.get? a=rg ⟨.type "tuple", Q4,.seq vs.toArray n,#[]⟩->RA h vs xs as->R h (.ref a) (.tuple xs) as
inductive RA (h:PE):vk N8->vk OU->vk O1->Prop
 | nil:RA h [] [] []
 | cons {v:N8}{vs:vk N8}{d:OU}{ds:vk OU}{as bs:vk O1}:R h v d as->RA h vs ds bs->RA h (v::vs) (d::ds) (as++bs)
end
theorem R.ind {h:PE}{M:N8->OU->vk O1->Prop}{N:vk N8->vk OU->vk O1->Prop}(h1:M .none .none []) (h2:∀ b,M (.bool b) (.bool b) []) (h3:∀ i t,M (.int i t) (.int i) []) (h4:∀ x t,M (.str x t) (.str x) [])
  (h5:∀ {a:O1}{n:ON}{xs:vk OU}{as:vk O1}{vs:vk N8},h.get? a=rg ⟨.type "list", Q4,.seq vs.toArray n,#[]⟩->RA h vs xs as->N vs xs as->M (.ref a) (.list xs) (a::as))
  (h6:∀ {a:O1}{n:ON}{xs:vk OU}{as:vk O1}{vs:vk N8},h.get? a=rg ⟨.type "tuple", Q4,.seq vs.toArray n,#[]⟩->RA h vs xs as->N vs xs as->M (.ref a) (.tuple xs) as)
  (h7:N [] [] []) (h8:∀ {v:N8}{vs:vk N8}{d:OU}{ds:vk OU}{as bs:vk O1},R h v d as->RA h vs ds bs->M v d as->N vs ds bs->N (v::vs) (d::ds) (as++bs)) :
  (∀ {v:N8}{d:OU}{as:vk O1},R h v d as->M v d as)/\(∀ {vs:vk N8}{ds:vk OU}{as:vk O1},RA h vs ds as->N vs ds as) :=
 ⟨λr=>R.rec (motive_1:=λv d as _=>M v d as) (motive_2:=λvs ds as _=>N vs ds as) h1 h2 h3 h4 (λe r i=>h5 e r i) (λe r i=>h6 e r i) h7 (λx r i j=>h8 x r i j) r,
  λr=>RA.rec (motive_1:=λv d as _=>M v d as) (motive_2:=λvs ds as _=>N vs ds as) h1 h2 h3 h4 (λe r i=>h5 e r i) (λe r i=>h6 e r i) h7 (λx r i j=>h8 x r i j) r⟩
theorem RA.ind {h:PE}{N:vk N8->vk OU->vk O1->Prop}(h7:N [] [] []) (h8:∀ {v:N8}{vs:vk N8}{d:OU}{ds:vk OU}{as bs:vk O1},R h v d as->RA h vs ds bs->N vs ds bs->N (v::vs) (d::ds) (as++bs))
  {vs:vk N8}{ds:vk OU}{as:vk O1}(r:RA h vs ds as):N vs ds as :=
 (R.ind (M:=λuu uu uu=>VU) (N:=N) trivial (λuu=>trivial) (λuu uu=>trivial) (λuu uu=>trivial) (λuu uu uu=>trivial) (λuu uu uu=>trivial) h7 λx r _ j=>h8 x r j).2 r
noncomputable def Kps (h h':PE) (as:vk O1):Prop:=∀ b o,(b∈as\/o.cls = .type "tuple")->(∃ vs n,o.data = .seq vs n)->h.get? b=rg o->h'.get? b=rg o
theorem R.onB:(∀ {v:N8}{d:OU}{as:vk O1},R h v d as->Kps h h' as->R h' v d as)/\(∀ {vs:vk N8}{ds:vk OU}{as:vk O1},RA h vs ds as->Kps h h' as->RA h' vs ds as) :=
 R.ind (M:=λv d as=>Kps h h' as->R h' v d as) (N:=λvs ds as=>Kps h h' as->RA h' vs ds as) (λuu=>.none) (λb _=>.bool b) (λi t _=>.int i t) (λx t _=>.str x t)
  (λe _ l k=>.list (k _ _ (.inl (.head _)) (bG _ _ rfl) e) (l λb o g=>k b o (g.imp (.tail _) id))) (λe _ l k=>.tuple (k _ _ (.inr rfl) (bG _ _ rfl) e) (l k))
  (λuu=>.nil) (λuu uu i j k=>.cons (i λb o g=>k b o (g.imp (PC _) id)) (j λb o g=>k b o (g.imp (PA _) id)))
section
variable {h h':PE}{v:N8}{d:OU}{as:vk O1}{vs:vk N8}{ds:vk OU}
theorem R.on2 (r:R h v d as) (k:∀ b o,(b∈as\/o.cls = .type "tuple")->(∃ vs n,o.data = .seq vs n)->h.get? b=rg o->h'.get? b=rg o):R h' v d as:=R.onB.1 r k
theorem RA.on2 (r:RA h vs ds as) (k:∀ b o,(b∈as\/o.cls = .type "tuple")->(∃ vs n,o.data = .seq vs n)->h.get? b=rg o->h'.get? b=rg o):RA h' vs ds as:=R.onB.2 r k
theorem R.on (r:R h v d as) (k:∀ b o,(b∈as\/o.cls = .type "tuple")->h.get? b=rg o->h'.get? b=rg o):R h' v d as:=r.on2 λb o q _=>k b o q
theorem RA.on (r:RA h vs ds as) (k:∀ b o,(b∈as\/o.cls = .type "tuple")->h.get? b=rg o->h'.get? b=rg o):RA h' vs ds as:=r.on2 λb o q _=>k b o q
end
noncomputable def Off (h:PE) (as wr:vk O1):Prop:=∀ b∈wr,∀ o,h.get? b=rg o->(∀ vs n,o.data≠.seq vs n)\/(o.cls≠.type "tuple" /\ b∉as)
theorem R.off (r:R h v d as) (hw:Off h as wr) (kp:∀ b o,b∉wr->h.get? b=rg o->h'.get? b=rg o):R h' v d as :=
 r.on2 λb o k ⟨i,n,e⟩ g=>kp b o (λj=>(hw b j o g).elim (λq=>q i n e) λq=>k.elim q.2 q.1) g
theorem RA.off (r:RA h vs ds as) (hw:Off h as wr) (kp:∀ b o,b∉wr->h.get? b=rg o->h'.get? b=rg o):RA h' vs ds as :=
 r.on2 λb o j ⟨vs,n,e⟩ g=>kp b o (λi=>(hw b i o g).elim (λq=>q vs n e) λq=>j.elim q.2 q.1) g
section
variable {h h':PE}{v:N8}{d:OU}{as:vk O1}{vs:vk N8}{ds:vk OU}
theorem R.keep (r:R h v d as) (k:∀ b o,h.get? b=rg o->h'.get? b=rg o):R h' v d as:=r.on λb o _=>k b o
theorem RA.keep (r:RA h vs ds as) (k:∀ b o,h.get? b=rg o->h'.get? b=rg o):RA h' vs ds as:=r.on λb o _=>k b o
end
theorem R.readsB:(∀ {v:N8}{d:OU}{as:vk O1},R h v d as->Reads h v d as)/\(∀ {vs:vk N8}{ds:vk OU}{as:vk O1},RA h vs ds as->ReadsAll h vs ds as) :=
 R.ind (M:=λv d as=>Reads h v d as) (N:=λvs ds as=>ReadsAll h vs ds as) .none (λb=>.bool b) (λi t=>.int i t) (λx t=>.str x t) (λe _ i=>.list e rfl rfl (by simpa using i)) (λe _ i=>.tuple e rfl rfl (by simpa using i)) .nil (λuu uu i j=>.cons i j)
theorem R.reads (r:R h v d as):Reads h v d as:=R.readsB.1 r
noncomputable def oQ (h:PE) (as:vk O1):Prop:=∀ a∈as,∃ vs n,h.get? a=rg ⟨.type "list", Q4,.seq vs n,#[]⟩
theorem R.thereB:(∀ {v:N8}{d:OU}{as:vk O1},R h v d as->oQ h as)/\(∀ {vs:vk N8}{ds:vk OU}{as:vk O1},RA h vs ds as->oQ h as) :=
 R.ind (M:=λuu uu as=>oQ h as) (N:=λuu uu as=>oQ h as) (λuu g=>nomatch g) (λuu uu g=>nomatch g) (λuu uu uu g=>nomatch g) (λuu uu uu g=>nomatch g)
  (λe _ i a g=>(O9.mp g).elim (λq=>q▸(bG _ _ e)) (i a)) (λuu uu i=>i) (λuu g=>nomatch g) (λuu uu i j a g=>(O7.mp g).elim (i a) (j a))
theorem R.there (r:R h v d as):∀ a∈as,∃ vs n,h.get? a=rg ⟨.type "list", Q4,.seq vs n,#[]⟩:=R.thereB.1 r
theorem RA.there (r:RA h vs ds as):∀ a∈as,∃ vs n,h.get? a=rg ⟨.type "list", Q4,.seq vs n,#[]⟩:=R.thereB.2 r
theorem R.isInt (r:R h v (.int i) as):∃ t,v = .int i t/\as=[]:=by
 cases r; exact (ag _ rfl rfl)
theorem R.isInt_k {h:PE}{v:N8}{i:OF}{as:vk O1}{G:Prop}(r:R h v (.int i) as) (k:∀ t,v = .int i t->as=[]->G):G:=af (R.isInt r) k
theorem R.isBool (r:R h v (.bool b) as):v = .bool b/\as=[]:=by
 cases r; exact ⟨rfl,rfl⟩
theorem R.isNone (r:R h v .none as):v = .none/\as=[]:=by
 cases r; exact ⟨rfl,rfl⟩
theorem R.isI_nil (r:R h v d as) (hs:isI d=Gt):as=[]:=by
 cases d with
 | int i=>exact R.isInt_k r λ_ _ e=>e
 | _=>exact nF hs
theorem RA.isI_nil (r:RA h vs ds as):ds.all isI=Gt->as=[] :=
 RA.ind (N:=λuu ds as=>ds.all isI=Gt->as=[]) (λuu=>rfl) (λx _ i g=>by
  refine bS (show (isI _&&Jaj _ isI)=Gt from g) λk j=>?_
  rw[x.isI_nil k,i j]; rfl) r
theorem R.sx_nil (r:R h v d as) (hs:sx d=Gt):as=[]:=by
 cases r with
 | tuple e ra=>exact ra.isI_nil hs
 | list=>exact nF hs
 | _=>rfl
theorem RA.length (r:RA h vs ds as):vs.length=ds.length :=
 RA.ind (N:=λvs ds _=>vs.length=ds.length) rfl (λuu uu i=>RM (· + 1) i) r
theorem RA.append (r:RA h vs ds as) (q:RA h ws es bs):RA h (vs++ws) (ds++es) (as++bs) :=
 RA.ind (N:=λvs ds as=>RA h (vs++ws) (ds++es) (as++bs)) q (λx _ i=>by rw[QO]; exact .cons x i) r
theorem RA.sx_nil (r:RA h vs ds as):ds.all sx=Gt->as=[] :=
 RA.ind (N:=λuu ds as=>ds.all sx=Gt->as=[]) (λuu=>rfl) (λx _ i g=>by
  refine bS (show (sx _&&Jaj _ sx)=Gt from g) λk j=>?_
  rw[x.sx_nil k,i j]; rfl) r
theorem RA.get (r:RA h vs ds as):∀ {k:ON}{d:OU},ds[k]? = rg d->∃ v bs,vs[k]? = rg v/\R h v d bs/\∀ b∈bs,b∈as:=by
 have g:∀ (k:ON) (d:OU),ds[k]? = rg d->∃ v bs,vs[k]? = rg v/\R h v d bs/\∀ b∈bs,b∈as:=by
  refine RA.ind (N:=λvs ds as=>∀ (k:ON) (d:OU),ds[k]? = rg d->∃ v bs,vs[k]? = rg v/\R h v d bs/\∀ b∈bs,b∈as) (λk d hk=>by cases hk) (λx _ i k d hk=>?_) r
  cases k with
  | zero=>(have l:=vj hk; clear hk; subst l); exact (aP _ _ rfl x (λb j=>PC _ j))
  | succ k=>
   refine aw (i k d hk) λv bs o n m=>?_
   exact (aP v bs o n (λb j=>PA _ (m b j)))
 exact λ{k d}=>g k d
theorem RA.get' {h:PE}{vs:vk N8}{ds:vk OU}{as:vk O1}(r:RA h vs ds as) {k:ON}{v:N8}(hk:vs[k]? = rg v):∃ d bs,ds[k]? = rg d/\R h v d bs/\∀ b∈bs,b∈as:=by
 have i:k<ds.length:=by rw[<- r.length]; exact (PF.mp hk).1
 refine aw (r.get (OY i)) λn bs g m l=>?_
 rw[hk] at g; (have j:=vj g; clear g; subst j)
 exact (aP _ bs (OY i) m l)
theorem RA.drop (n:ON) (r:RA h vs ds as):∃ bs,RA h (vs.drop n) (ds.drop n) bs/\(∀ b∈bs,b∈as):=by
 refine RA.ind (N:=λvs ds as=>∀ n,∃ bs,RA h (vs.drop n) (ds.drop n) bs/\(∀ b∈bs,b∈as)) (λn=>(ag ([]) (by rw[WO,WO]; exact .nil) (λuu g=>nomatch g))) (λx r i n=>?_) r n
 cases n with
 | zero=>exact (ag _ (.cons x r) (λuu g=>g))
 | succ n=>
  refine af (i n) λbs q j=>?_
  exact (ag bs q (λb g=>PA _ (j b g)))
theorem RA.reverse (r:RA h vs ds as):∃ bs,RA h vs.reverse ds.reverse bs/\(∀ b∈bs,b∈as):=by
 refine RA.ind (N:=λvs ds as=>∃ bs,RA h vs.reverse ds.reverse bs/\(∀ b∈bs,b∈as)) (ag ([]) .nil (λuu hb=>nomatch hb)) (λ{v vs d ds as j} x r i=>?_) r
 refine af (i) λbs q g=>?_
 clear i
 refine (ag (bs++(as++[])) (by rw[WP,WP]; exact q.append (.cons x .nil)) (λb hb=>?_))
 rcases O7.mp hb with hb | hb
 ·exact PA _ (g b hb)
 ·exact PC _ (by rwa [RH] at hb)
theorem RA.ints (r:RA h vs ds as) (e:aK ds=rg ns):Q8 vs ns/\as=[]/\ds=ns.map .int:=by
 refine RA.ind (N:=λvs ds as=>∀ ns,aK ds=rg ns->Q8 vs ns/\as=[]/\ds=ns.map .int) (λns e=>?_) (λ{v vs d ds as p} x r i ns e=>?_) r ns e
 ·(have m:=vj e; clear e; subst m); exact ⟨.nil,rfl,rfl⟩
 ·cases x with
  | int j t=>
   refine bk (show (aK ds).map (j :: ·)=rg ns from e) λn o l=>?_
   (clear e; subst l)
   refine aH (i n o) λa k g=>?_
   (clear i r; subst k)
   subst g
   exact ⟨.cons j t a,rfl,rfl⟩
  | _=>exact nN e
theorem RA.of_ints (r:Q8 vs ns):RA h vs (ns.map .int) []:=by
 induction r with
 | nil=>exact .nil
 | cons i t r ih=>exact .cons (as:=[]) (.int i t) ih
mutual
noncomputable def sz:OU->Pr
 | .none | .bool _ | .int _=>Gt
 | .str x=>decide (x.length<=2^22)
 | .list xs | .tuple xs=>decide (xs.length<=2^22)&&szs xs
 | .dict _=>Oz
noncomputable def szs:vk OU->Pr
 | []=>Gt
 | x::xs=>sz x&&szs xs
end
theorem rV:szs xs=Gt↔∀ x∈xs,sz x=true:=by
 induction xs with
 | nil=>simp[szs]
 | cons x xs ih=>simp[szs,ih]
theorem sz_list:sz (.list xs)=Gt↔xs.length<=2^22/\∀ x∈xs,sz x=true:=by simp[sz,rV]
theorem sz_tuple:sz (.tuple xs)=Gt↔xs.length<=2^22/\∀ x∈xs,sz x=true:=by simp[sz,rV]
theorem gD (ns:vk OF):∀ x∈ns.map O8,sz x=true:=by
 intro x hx; obtain ⟨i,_,rfl⟩:=Tx.mp hx; rfl
noncomputable def varK (ns:vk (Str×PG)) (x:Ot):Bool:=!(mL x==mL ".0")&&(match ns.lookup (mL x) with
 | some .local | some .cell | some .free=>Gt
 | _=>Oz)
noncomputable def bJ (ns:vk (Str×PG)) (x:Ot):Bool:=ns.lookup (mL x)==rg .globalImplicit
noncomputable def aT (x:Ot):Bool:=!(mL x==("__debug__" : Str)) && !(mL x==("__classdict__" : Str))
noncomputable def bOp:BOp->X8
 | .add=>.Add | .sub=>.Sub | .mul=>.Mult | .fdiv=>.FloorDiv | .mod=>.Mod | .pow=>.Pow | .xor=>.BitXor
noncomputable def cOp:COp->CmpOp
 | .eq=>.Eq | .ne=>.NotEq | .lt=>.Lt | .gt=>.Gt | .ge=>.GtE | .isin=>.In | .notin=>.NotIn | .isnot=>.IsNot
noncomputable def opB (o:BOp) (p:X8):Bool:=decide (p=bOp o)
noncomputable def opC (o:COp) (p:CmpOp):Bool:=decide (p=cOp o)
noncomputable def b1n:B1->Ot
 | .len => "len" | .list => "list" | .tuple => "tuple" | .sorted => "sorted" | .max => "max"
noncomputable def fA (outer inner:vk (Str×PG)):vk (Str×PG) :=
 inner.map λ(n,k)=>if k == .free&&outer.lookup n==rg .cell then (n,.cell) else (n,k)
noncomputable def hU (ns:vk (Str×PG)) (sc:Scope) (x:Ot):Bool :=
 sc.kind == .function&&decide ((sc.names.map (·.1)).Nodup)&&(sc.names.lookup (mL x)==rg .local||sc.names.lookup (mL x)==rg .cell) &&
 sc.names.all λp=>(p.2 == .local&&(p.1==mL x||p.1==mL ".0"))||p.2 == .globalImplicit||(p.2 == .cell&&p.1==mL x)||(p.2 == .free&&(ns.lookup p.1==rg .cell||ns.lookup p.1==rg .free))
noncomputable def al (o:OE α) (f:α->Pr):Bool:=match o with
 | some a=>f a
 | none=>Oz
theorem iF (h:al o f=Gt):∃ a,o=rg a/\f a=true:=by
 cases o with
 | none=>exact nF h
 | some a=>exact (ag a rfl h)
theorem ai {α:Type}{o:OE α}{f:α->Pr}{G:Prop}(h:al o f=Gt) (k:∀ a,o=rg a->f a=Gt->G):G:=af (iF h) k
structure Pt where
 tag:Nat:=0
 e1:Expr:=R4
 e2:Expr:=R4
 es:vk Expr:=[]
 st:Str:=R4
 co:Const:=R4
 n:Nat:=0
 op:Operator:=R4
 un:UnaryOp:=R4
 bo:BoolOp:=R4
 cs:vk CmpOp:=[]
 ks:vk (OE Expr):=[]
 gs:vk Comprehension:=[]
 sc:Scope:=R4
 o1:OE Expr:=OC
 o2:OE Expr:=OC
 o3:OE Expr:=OC
 kw:vk Keyword:=[]
 pos:Pos:=R4
noncomputable def pt:Expr->Pt
 | .Name x0 x1=>{tag:=1,st:=x0,pos:=x1 }
 | .Constant x0 x1 x2=>{tag:=2,co:=x0,n:=x1,pos:=x2 }
 | .BinOp x0 x1 x2 x3=>{tag:=3,e1:=x0,op:=x1,e2:=x2,pos:=x3 }
 | .UnaryOp x0 x1 x2=>{tag:=4,un:=x0,e1:=x1,pos:=x2 }
 | .Compare x0 x1 x2 x3=>{tag:=5,e1:=x0,cs:=x1,es:=x2,pos:=x3 }
 | .BoolOp x0 x1 x2=>{tag:=6,bo:=x0,es:=x1,pos:=x2 }
 | .List x0 x1=>{tag:=7,es:=x0,pos:=x1 }
 | .Tuple x0 x1 x2=>{tag:=8,es:=x0,n:=x1,pos:=x2 }
 | .Dict x0 x1 x2=>{tag:=9,ks:=x0,es:=x1,pos:=x2 }
 | .ListComp x0 x1 x2 x3=>{tag:=10,e1:=x0,gs:=x1,sc:=x2,pos:=x3 }
 | .Subscript x0 x1 x2=>{tag:=11,e1:=x0,e2:=x1,pos:=x2 }
 | .Slice x0 x1 x2 x3=>{tag:=12,o1:=x0,o2:=x1,o3:=x2,pos:=x3 }
 | .Call x0 x1 x2 x3=>{tag:=13,e1:=x0,es:=x1,kw:=x2,pos:=x3 }
 | .Attribute x0 x1 x2=>{tag:=14,e1:=x0,st:=x1,pos:=x2 }
 | _=>{}
noncomputable def ptB (n:ON) (p:Pt):Expr:=match n with
 | 1=>.Name p.st p.pos
 | 2=>.Constant p.co p.n p.pos
 | 3=>.BinOp p.e1 p.op p.e2 p.pos
 | 4=>.UnaryOp p.un p.e1 p.pos
 | 5=>.Compare p.e1 p.cs p.es p.pos
 | 6=>.BoolOp p.bo p.es p.pos
 | 7=>.List p.es p.pos
 | 8=>.Tuple p.es p.n p.pos
 | 9=>.Dict p.ks p.es p.pos
 | 10=>.ListComp p.e1 p.gs p.sc p.pos
 | 11=>.Subscript p.e1 p.e2 p.pos
 | 12=>.Slice p.o1 p.o2 p.o3 p.pos
 | 13=>.Call p.e1 p.es p.kw p.pos
 | 14=>.Attribute p.e1 p.st p.pos
 | _=>R4
theorem AU (e:Expr):(pt e).tag=0\/ptB (pt e).tag (pt e)=e:=by cases e<;>first | exact .inr rfl | exact .inl rfl
theorem cu (hn:n≠0) (h:(pt e).tag=n):e=ptB n (pt e):=by
 rcases AU e with q | q
 ·exact OW (h.symm.trans q) hn
 ·rw[h] at q; exact q.symm
noncomputable def ifN (m n:ON) (a:α):OE α:=if m=n then rg a else OC
theorem AN {α:Type}{m n:ON}{a b:α}(h:ifN m n a=rg b):m=n/\a=b:=by
 unfold ifN at h
 by_cases q:m=n
 ·rw[OD q] at h; exact ⟨q,vj h⟩
 ·rw[OB q] at h; exact nN h
theorem bW {α:Type}{m n:ON}{a b:α}{G:Prop}(h:ifN m n a=rg b) (k:m=n->a=b->G):G:=ae (AN h) k
noncomputable def bU (e:Expr):OE (Str×Pos):=ifN (pt e).tag 1 ((pt e).st,(pt e).pos)
noncomputable def fk (e:Expr):OE (Zw×ON×Pos):=ifN (pt e).tag 2 ((pt e).co,(pt e).n,(pt e).pos)
noncomputable def CG (e:Expr):OE (Expr×X8×Expr×Pos):=ifN (pt e).tag 3 ((pt e).e1,(pt e).op,(pt e).e2,(pt e).pos)
noncomputable def dUn (e:Expr):OE (Y6×Expr×Pos):=ifN (pt e).tag 4 ((pt e).un,(pt e).e1,(pt e).pos)
noncomputable def Cg (e:Expr):OE (Expr×vk CmpOp×vk Expr×Pos):=ifN (pt e).tag 5 ((pt e).e1,(pt e).cs,(pt e).es,(pt e).pos)
noncomputable def sK (e:Expr):OE (Z2×vk Expr×Pos):=ifN (pt e).tag 6 ((pt e).bo,(pt e).es,(pt e).pos)
noncomputable def AC (e:Expr):OE (vk Expr×Pos):=ifN (pt e).tag 7 ((pt e).es,(pt e).pos)
noncomputable def yd (e:Expr):OE (vk Expr×ON×Pos):=ifN (pt e).tag 8 ((pt e).es,(pt e).n,(pt e).pos)
noncomputable def Af (e:Expr):OE (vk (OE Expr)×vk Expr×Pos):=ifN (pt e).tag 9 ((pt e).ks,(pt e).es,(pt e).pos)
noncomputable def dLC (e:Expr):OE (Expr×vk Wl×Scope×Pos):=ifN (pt e).tag 10 ((pt e).e1,(pt e).gs,(pt e).sc,(pt e).pos)
noncomputable def pH (e:Expr):OE (Expr×Expr×Pos):=ifN (pt e).tag 11 ((pt e).e1,(pt e).e2,(pt e).pos)
noncomputable def vA (e:Expr):OE (OE Expr×OE Expr×OE Expr×Pos):=ifN (pt e).tag 12 ((pt e).o1,(pt e).o2,(pt e).o3,(pt e).pos)
noncomputable def jc (e:Expr):OE (Expr×vk Expr×vk Y7×Pos):=ifN (pt e).tag 13 ((pt e).e1,(pt e).es,(pt e).kw,(pt e).pos)
noncomputable def l0 (e:Expr):OE (Expr×Str×Pos):=ifN (pt e).tag 14 ((pt e).e1,(pt e).st,(pt e).pos)
noncomputable def yp:Zw->OE OF
 | .int i=>rg i
 | _=>OC
noncomputable def yH:Zw->OE Str
 | .str i=>rg i
 | _=>OC
noncomputable def tE:Zw->OE Pr
 | .bool i=>rg i
 | _=>OC
noncomputable def zK:Zw->OE Ur
 | .none=>rg ()
 | _=>OC
noncomputable def bH:vk α->OE α
 | [x]=>rg x
 | _=>OC
noncomputable def pS:vk α->OE (α×α)
 | [x,y]=>rg (x,y)
 | _=>OC
noncomputable def dT:vk α->OE Ur
 | []=>rg ()
 | _=>OC
noncomputable def fb:vk α->OE (α×vk α)
 | x::y=>rg (x,y)
 | _=>OC
section
variable {e:Expr}
theorem a0 (h:bU e=rg q):e = .Name q.1 q.2:=by
 refine bW h λi g=>?_
 (clear h; subst g)
 exact cu (by decide) i
theorem cO (h:fk e=rg q):e = .Constant q.1 q.2.1 q.2.2:=by
 refine bW h λi g=>?_
 (clear h; subst g)
 exact cu (by decide) i
theorem x5 (h:CG e=rg q):e = .BinOp q.1 q.2.1 q.2.2.1 q.2.2.2:=by
 refine bW h λi g=>?_
 (clear h; subst g)
 exact cu (by decide) i
theorem mu (h:dUn e=rg q):e = .UnaryOp q.1 q.2.1 q.2.2:=by
 refine bW h λi g=>?_
 (clear h; subst g)
 exact cu (by decide) i
theorem xq (h:Cg e=rg q):e = .Compare q.1 q.2.1 q.2.2.1 q.2.2.2:=by
 refine bW h λi g=>?_
 (clear h; subst g)
 exact cu (by decide) i
theorem m7 (h:sK e=rg q):e = .BoolOp q.1 q.2.1 q.2.2:=by
 refine bW h λi g=>?_
 (clear h; subst g)
 exact cu (by decide) i
theorem v6 (h:AC e=rg q):e = .List q.1 q.2:=by
 refine bW h λi g=>?_
 (clear h; subst g)
 exact cu (by decide) i
theorem wN (h:yd e=rg q):e = .Tuple q.1 q.2.1 q.2.2:=by
 refine bW h λi g=>?_
 (clear h; subst g)
 exact cu (by decide) i
theorem uQ (h:Af e=rg q):e = .Dict q.1 q.2.1 q.2.2:=by
 refine bW h λi g=>?_
 (clear h; subst g)
 exact cu (by decide) i
theorem BH (h:dLC e=rg q):e = .ListComp q.1 q.2.1 q.2.2.1 q.2.2.2:=by
 refine bW h λi g=>?_
 (clear h; subst g)
 exact cu (by decide) i
theorem k7 (h:pH e=rg q):e = .Subscript q.1 q.2.1 q.2.2:=by
 refine bW h λi g=>?_
 (clear h; subst g)
 exact cu (by decide) i
theorem tA (h:vA e=rg q):e = .Slice q.1 q.2.1 q.2.2.1 q.2.2.2:=by
 refine bW h λi g=>?_
 (clear h; subst g)
 exact cu (by decide) i
theorem di (h:jc e=rg q):e = .Call q.1 q.2.1 q.2.2.1 q.2.2.2:=by
 refine bW h λi g=>?_
 (clear h; subst g)
 exact cu (by decide) i
theorem gN (h:l0 e=rg q):e = .Attribute q.1 q.2.1 q.2.2:=by
 refine bW h λi g=>?_
 (clear h; subst g)
 exact cu (by decide) i
theorem pG (h:yp c=rg q):c = .int q:=by cases c<;>cases h; rfl
theorem qF (h:yH c=rg q):c = .str q:=by cases c<;>cases h; rfl
theorem n6 (h:tE c=rg q):c = .bool q:=by cases c<;>cases h; rfl
theorem vq (h:zK c=rg q):c = .none:=by cases c<;>cases h; rfl
variable {α:Type}{l:vk α}
theorem cC (h:dT l=rg q):l=[]:=by
 cases l with
 | nil=>rfl
 | cons=>exact nN h
theorem db {q:α×vk α}(h:fb l=rg q):l=q.1::q.2:=by
 cases l with
 | nil=>exact nN h
 | cons=>(have oc:=vj h; clear h; subst oc); rfl
theorem aZ {q:α}(h:bH l=rg q):l=[q]:=by
 cases l with
 | nil=>exact nN h
 | cons x l=>
  cases l with
  | nil=>(have oc:=vj h; clear h; subst oc); rfl
  | cons=>exact nN h
theorem kN {q:α×α}(h:pS l=rg q):l=[q.1,q.2]:=by
 cases l with
 | nil=>exact nN h
 | cons x l=>
  cases l with
  | nil=>exact nN h
  | cons y l=>
   cases l with
   | nil=>(have oc:=vj h; clear h; subst oc); rfl
   | cons=>exact nN h
end
noncomputable def dFn (e:Expr):OE (Str×Pos×vk Expr×Pos):=(jc e).bind λq=>(dT q.2.2.1).bind λuu=>(bU q.1).map λn=>(n.1,n.2,q.2.1,q.2.2.2)
theorem fZ (h:dFn e=rg q):e = .Call (.Name q.1 q.2.1) q.2.2.1 [] q.2.2.2:=by
 refine be h λc j h=>?_
 refine be h λu i h=>?_
 refine bk h λn g h=>?_
 subst h
 rw[di j,cC i,a0 g]
noncomputable def sL (e:Expr):OE (Expr×Str×Pos×Expr×vk Expr×Scope×Pos):=(dLC e).bind λq=>(bH q.2.1).bind λg=>(bU g.target).bind λn=>if g.is_async=0 then rg (q.1,n.1,n.2,g.iter,g.ifs,q.2.2.1,q.2.2.2) else OC
theorem nr (h:sL e=rg q):e = .ListComp q.1 [⟨.Name q.2.1 q.2.2.1,q.2.2.2.1,q.2.2.2.2.1,0⟩] q.2.2.2.2.2.1 q.2.2.2.2.2.2:=by
 refine be h λc m h=>?_
 refine be h λg l h=>?_
 obtain ⟨o,p,r,t⟩:=g
 refine be h λn i h=>?_
 dsimp only at h i
 split at h
 ·rename_i k
  (have j:=vj h; clear h; subst j)
  rw[BH m,aZ l,a0 i,k]
 ·exact nN h
noncomputable def dSl (e:Expr):OE (Expr×OE Expr×OE Expr×OE Expr×Pos×Pos):=(pH e).bind λq=>(vA q.2.1).map λs=>(q.1,s.1,s.2.1,s.2.2.1,s.2.2.2,q.2.2)
theorem rZ (h:dSl e=rg q):e = .Subscript q.1 (.Slice q.2.1 q.2.2.1 q.2.2.2.1 q.2.2.2.2.1) q.2.2.2.2.2:=by
 refine be h λc i h=>?_
 refine bk h λn g h=>?_
 subst h
 rw[k7 i,tA g]
noncomputable def C3:Expr->OE (Xn×Expr×Scope×Pos)
 | .Lambda a b s p=>rg (a,b,s,p)
 | _=>OC
theorem wU (h:C3 e=rg q):e = .Lambda q.1 q.2.1 q.2.2.1 q.2.2.2:=by
 cases e<;>first | (cases h; rfl) | exact nN h
noncomputable def pB (ns:vk (Str×PG)) (x:Ot) (ex:Expr):Bool:=al (bU ex) λq=>q.1==mL x&&varK ns x&&aT x
noncomputable def wl (ns:vk (Str×PG)) (x:Ot) (ex:Expr):Bool:=al (dFn ex) λq=>al (bH q.2.2.1) λy=>q.1==mL (b1n .len)&&bJ ns (b1n .len)&&pB ns x y
noncomputable def Cu (ns:vk (Str×PG)) (x t:Ot) (ex:Expr):Bool:=al (yd ex) λq=>decide (q.1.length<1000)&&al (fb q.1) λy=>(al (dUn y.1) λu=>decide (u.1 = .USub)&&al (pH u.2.1) λz=>pB ns x z.1&&pB ns t z.2.1)&&al (fb y.2) λv=>pB ns t v.1&&(dT v.2).isSome
noncomputable def xy (ns:vk (Str×PG)) (x t:Ot) (a:Xn) (sc:Scope):Bool :=
 a.posonlyargs.isEmpty&&decide (a.args.map (·.arg)=[mL t])&&a.vararg.isNone&&a.kwonlyargs.isEmpty&&a.kw_defaults.isEmpty&&a.kwarg.isNone&&a.defaults.isEmpty &&
 decide (sc.kind = .function) && !sc.isGenerator && !sc.isCoroutine&&decide (sc.names=[(mL t,.local),(mL x,.free)])&&decide (x≠t)&&decide (ns.lookup (mL x)=rg .cell)
noncomputable def Dp (ns:vk (Str×PG)) (x t:Ot) (ex:Expr):Bool:=al (jc ex) λq=>al (bU q.1) λf=>al (bH q.2.1) λh=>al (bH q.2.2.1) λg=>al (dFn h) λr=>al (bH r.2.2.1) λy=>al (C3 g.value) λl=>
 f.1==mL "sorted" && bJ ns "sorted" && decide (g.arg=rg (mL "key"))&&r.1==mL "range" && bJ ns "range" && wl ns x y&&xy ns x t l.1 l.2.2.1&&Cu l.2.2.1.names x t l.2.1
noncomputable def lU:E->Pr
 | .name _=>Gt
 | .call _ _=>Gt
 | _=>Oz
mutual
noncomputable def okE (ns:vk (Str×PG)):E->Expr->Pr
 | .name x,ex=>al (bU ex) λq=>q.1==mL x&&varK ns x&&aT x
 | .int i,ex=>al (fk ex) λq=>al (yp q.1) λj=>i==j
 | .str s,ex=>al (fk ex) λq=>al (yH q.1) λt=>mL s==t&&decide (t.length<=2^22)
 | .bool b,ex=>al (fk ex) λq=>al (tE q.1) λc=>b==c
 | .none,ex=>al (fk ex) λq=>(zK q.1).isSome
 | .bin o a b,ex=>al (CG ex) λq=>opB o q.2.1&&okE ns a q.1&&okE ns b q.2.2.1
 | .neg a,ex=>al (dUn ex) λq=>decide (q.1 = .USub)&&okE ns a q.2.1
 | .not a,ex=>al (dUn ex) λq=>decide (q.1 = .Not)&&okE ns a q.2.1
 | .cmp o a b,ex=>al (Cg ex) λq=>al (bH q.2.1) λg=>al (bH q.2.2.1) λr=>opC o g&&okE ns a q.1&&okE ns b r
 | .and a b,ex=>al (sK ex) λq=>decide (q.1 = .And)&&al (fb q.2.1) λv=>okE ns a v.1&&(match bH v.2 with | some u=>okE ns b u | none=>okA ns b v.2)
 | .or a b,ex=>al (sK ex) λq=>decide (q.1 = .Or)&&al (fb q.2.1) λv=>okE ns a v.1&&(match bH v.2 with | some u=>okE ns b u | none=>okO ns b v.2)
 | .list es,ex=>al (AC ex) λq=>decide (q.1.length<1000)&&dj ns es q.1
 | .tup es,ex=>al (yd ex) λq=>decide (q.1.length<1000)&&dj ns es q.1
 | .edic,ex=>al (Af ex) λq=>(dT q.1).isSome&&(dT q.2.1).isSome
 | .comp elt x it,ex=>al (sL ex) λq=>al (dT q.2.2.2.2.1) λuu=>q.2.1==mL x&&hU ns q.2.2.2.2.2.1 x&&eV ns it q.2.2.2.1&&okE (fA ns q.2.2.2.2.2.1.names) elt q.1
 | .compif elt x it c,ex=>al (sL ex) λq=>al (bH q.2.2.2.2.1) λf=>q.2.1==mL x&&hU ns q.2.2.2.2.2.1 x&&eV ns it q.2.2.2.1&&okE (fA ns q.2.2.2.2.2.1.names) c f&&okE (fA ns q.2.2.2.2.2.1.names) elt q.1
 | .sub a i,ex=>al (pH ex) λq=>okE ns a q.1&&okE ns i q.2.1
 | .slo a i,ex=>al (dSl ex) λq=>al q.2.1 λl=>q.2.2.1.isNone&&q.2.2.2.1.isNone&&(okE ns a q.1&&okE ns i l)
 | .rev a,ex=>al (dSl ex) λq=>al q.2.2.2.1 λl=>q.2.1.isNone&&q.2.2.1.isNone&&(al (dUn l) λu=>decide (u.1 = .USub)&&al (fk u.2.1) λc=>al (yp c.1) λi=>i==1&&okE ns a q.1)
 | .attr a n,ex=>al (l0 ex) λq=>q.2.1==mL n&&decide (n∈fieldNames)&&lU a&&okE ns a q.1
 | .bi1 f a,ex=>al (dFn ex) λq=>al (bH q.2.2.1) λx=>q.1==mL (b1n f)&&bJ ns (b1n f)&&okE ns a x
 | .isi a t,ex=>al (dFn ex) λq=>al (pS q.2.2.1) λx=>al (bU x.2) λc=>q.1==mL "isinstance" && bJ ns "isinstance" && okE ns a x.1&&c.1==mL t&&bJ ns t&&aT t
 | .isE x t,ex=>al (dFn ex) λq=>al (pS q.2.2.1) λy=>al (bU y.2) λc=>q.1==mL "isinstance" && bJ ns "isinstance" && pB ns x y.1&&c.1==mL t&&bJ ns t&&aT t
 | .call f es,ex=>al (dFn ex) λq=>q.1==mL f&&bJ ns f&&aT f && !decide (f∈methNames) && !decide (f∈aE) && !q.2.2.1.isEmpty&&decide (q.2.2.1.length<20)&&dj ns es q.2.2.1
 | .meth a m es,ex=>al (jc ex) λq=>al (dT q.2.2.1) λuu=>al (l0 q.1) λf=>f.2.1==mL m&&(f.2.2.endLine==q.2.2.2.line)&&decide (m∈methNames) && !q.2.1.isEmpty&&decide (q.2.1.length<20)&&lU a&&okE ns a f.1&&dj ns es q.2.1
 | .order x t,ex=>Dp ns x t ex
termination_by structural e=>e
noncomputable def okA (ns:vk (Str×PG)):E->vk Expr->Pr
 | .and a b,ex=>al (fb ex) λv=>okE ns a v.1&&(match bH v.2 with | some u=>okE ns b u | none=>okA ns b v.2)
 | _,_=>Oz
termination_by structural e=>e
noncomputable def okO (ns:vk (Str×PG)):E->vk Expr->Pr
 | .or a b,ex=>al (fb ex) λv=>okE ns a v.1&&(match bH v.2 with | some u=>okE ns b u | none=>okO ns b v.2)
 | _,_=>Oz
termination_by structural e=>e
noncomputable def dj (ns:vk (Str×PG)):Es->vk Expr->Pr
 | .nil,ex=>(dT ex).isSome
 | .cons e es,ex=>al (fb ex) λq=>okE ns e q.1&&dj ns es q.2
termination_by structural e=>e
noncomputable def eV (ns:vk (Str×PG)):It->Expr->Pr
 | .e a,x=>okE ns a x
 | .r1 n,ex=>al (dFn ex) λq=>al (bH q.2.2.1) λx=>q.1==mL "range" && bJ ns "range" && okE ns n x
 | .r2 a b,ex=>al (dFn ex) λq=>al (pS q.2.2.1) λx=>q.1==mL "range" && bJ ns "range" && okE ns a x.1&&okE ns b x.2
termination_by structural e=>e
end
section
variable {ns:vk (Str×PG)}{ex:Expr}{a b c:E}
theorem v7 (h:okE ns (.name x) ex=Gt):(∃ id p,ex = .Name id p/\(id==mL x&&varK ns x&&aT x)=Gt)\/False:=by
 refine ai h λq e h=>?_
 exact .inl (ay q.1 q.2 (a0 e) h)
theorem D9 (h:okE ns (.int i) ex=Gt):(∃ j k p,ex = .Constant (.int j) k p/\(i==j)=Gt)\/False:=by
 refine ai h λq e h=>?_
 refine ai h λj g h=>?_
 exact .inl (cf j q.2.1 q.2.2 (by rw[cO e,pG g]) h)
theorem Ij (h:okE ns (.str s) ex=Gt):(∃ t k p,ex = .Constant (.str t) k p/\(mL s==t&&decide (t.length<=2^22))=Gt)\/False:=by
 refine ai h λq e h=>?_
 refine ai h λj g h=>?_
 exact .inl (cf j q.2.1 q.2.2 (by rw[cO e,qF g]) h)
theorem CX (h:okE ns (.bool s) ex=Gt):(∃ t k p,ex = .Constant (.bool t) k p/\(s==t)=Gt)\/False:=by
 refine ai h λq e h=>?_
 refine ai h λj g h=>?_
 exact .inl (cf j q.2.1 q.2.2 (by rw[cO e,n6 g]) h)
theorem C1 (h:okE ns .none ex=Gt):(∃ k p,ex = .Constant .none k p/\VU)\/False:=by
 refine ai h λq e h=>?_
 refine bP h λj g=>?_
 exact .inl (ay q.2.1 q.2.2 (by rw[cO e,vq g]) trivial)
theorem IE (h:okE ns (.bin o a b) ex=Gt):(∃ l op r p,ex = .BinOp l op r p/\(opB o op&&okE ns a l&&okE ns b r)=Gt)\/False:=by
 refine ai h λq e h=>?_
 exact .inl (fO _ _ _ _ (x5 e) h)
theorem zx (h:okE ns (.neg a) ex=Gt):(∃ x p,ex = .UnaryOp .USub x p/\okE ns a x=Gt)\/False:=by
 refine ai h λq e h=>?_
 refine bS h λi g=>?_
 exact .inl (ay _ _ (by rw[mu e,Pp i]) g)
theorem EH (h:okE ns (.not a) ex=Gt):(∃ x p,ex = .UnaryOp .Not x p/\okE ns a x=Gt)\/False:=by
 refine ai h λq e h=>?_
 refine bS h λi g=>?_
 exact .inl (ay _ _ (by rw[mu e,Pp i]) g)
theorem Kr (h:okE ns (.cmp o a b) ex=Gt):(∃ l op r p,ex = .Compare l [op] [r] p/\(opC o op&&okE ns a l&&okE ns b r)=Gt)\/False:=by
 refine ai h λq e h=>?_
 refine ai h λop i h=>?_
 refine ai h λr g h=>?_
 exact .inl (fO _ op r _ (by rw[xq e,aZ i,aZ g]) h)
noncomputable def okA' (ns:vk (Str×PG)) (b:E) (vs:vk Expr):Bool:=match bH vs with | some u=>okE ns b u | none=>okA ns b vs
noncomputable def okO' (ns:vk (Str×PG)) (b:E) (vs:vk Expr):Bool:=match bH vs with | some u=>okE ns b u | none=>okO ns b vs
theorem GV (h:okE ns (.and a b) ex=Gt):(∃ v vs p,ex = .BoolOp .And (v::vs) p/\(okE ns a v&&okA' ns b vs)=Gt)\/False:=by
 refine ai h λq e h=>?_
 refine bS h λi g=>?_
 refine ai g λv j h=>?_
 exact .inl (cf _ _ _ (by rw[m7 e,Pp i,db j]) h)
theorem LI (h:okE ns (.or a b) ex=Gt):(∃ v vs p,ex = .BoolOp .Or (v::vs) p/\(okE ns a v&&okO' ns b vs)=Gt)\/False:=by
 refine ai h λq e h=>?_
 refine bS h λi g=>?_
 refine ai g λv j h=>?_
 exact .inl (cf _ _ _ (by rw[m7 e,Pp i,db j]) h)
theorem i_A (h:okA ns (.and a b) xs=Gt):(∃ v vs,xs=v::vs/\(okE ns a v&&okA' ns b vs)=Gt)\/False:=by
 refine ai h λq e h=>?_
 exact .inl (ay _ _ (db e) h)
theorem i_O (h:okO ns (.or a b) xs=Gt):(∃ v vs,xs=v::vs/\(okE ns a v&&okO' ns b vs)=Gt)\/False:=by
 refine ai h λq e h=>?_
 exact .inl (ay _ _ (db e) h)
theorem CJ (h:okE ns (.list es) ex=Gt):(∃ xs p,ex = .List xs p/\(decide (xs.length<1000)&&dj ns es xs)=Gt)\/False:=by
 refine ai h λq e h=>?_
 exact .inl (ay _ _ (v6 e) h)
theorem E9 (h:okE ns (.tup es) ex=Gt):(∃ xs k p,ex = .Tuple xs k p/\(decide (xs.length<1000)&&dj ns es xs)=Gt)\/False:=by
 refine ai h λq e h=>?_
 exact .inl (cf _ _ _ (wN e) h)
theorem Ck (h:okE ns .edic ex=Gt):(∃ p,ex = .Dict [] [] p/\VU)\/False:=by
 refine ai h λq e h=>?_
 refine bS h λi g=>?_
 refine bP i λuu k=>?_
 refine bP g λuu j=>?_
 exact .inl (ag _ (by rw[uQ e,cC k,cC j]) trivial)
theorem v0 (h:okE ns (.comp a x it) ex=Gt):(∃ e t pt i sc p,ex = .ListComp e [⟨.Name t pt,i,[],0⟩] sc p/\(t==mL x&&hU ns sc x&&eV ns it i&&okE (fA ns sc.names) a e)=Gt)\/False:=by
 refine ai h λq e h=>?_
 refine ai h λuu g h=>?_
 exact .inl (An _ _ _ _ _ _ (by rw[nr e,cC g]) h)
theorem pY (h:okE ns (.compif a x it c) ex=Gt):(∃ e t pt i f sc p,ex = .ListComp e [⟨.Name t pt,i,[f],0⟩] sc p/\(t==mL x&&hU ns sc x&&eV ns it i&&okE (fA ns sc.names) c f&&okE (fA ns sc.names) a e)=Gt)\/False:=by
 refine ai h λq e h=>?_
 refine ai h λuu g h=>?_
 exact .inl (jS _ _ _ _ _ _ _ (by rw[nr e,aZ g]) h)
theorem G1 (h:okE ns (.sub a b) ex=Gt):(∃ v s p,ex = .Subscript v s p/\(okE ns a v&&okE ns b s)=Gt)\/False:=by
 refine ai h λq e h=>?_
 exact .inl (cf _ _ _ (k7 e) h)
theorem fN (h:o.isNone=Gt):o=none:=by cases o with | none=>rfl | some=>exact nF h
theorem Kl (h:okE ns (.slo a b) ex=Gt):(∃ v l p pos,ex = .Subscript v (.Slice (rg l) OC OC p) pos/\(okE ns a v&&okE ns b l)=Gt)\/False:=by
 refine ai h λq e h=>?_
 refine ai h λl m h=>?_
 refine bS h λk j=>?_
 refine bS k λi g=>?_
 exact .inl (fO _ l _ _ (by rw[rZ e,m,fN i,fN g]) j)
theorem HB (h:okE ns (.rev a) ex=Gt):(∃ v i n1 p1 p2 p pos,ex = .Subscript v (.Slice OC OC (rg (.UnaryOp .USub (.Constant (.int i) n1 p1) p2)) p) pos/\(i==1&&okE ns a v)=Gt)\/False:=by
 refine ai h λq e h=>?_
 refine ai h λl y h=>?_
 refine bS h λo n=>?_
 refine bS o λm k=>?_
 refine ai n λu x h=>?_
 refine bS h λj g=>?_
 refine ai g λc t h=>?_
 refine ai h λi r h=>?_
 exact .inl (jS _ i _ _ _ _ _ (by rw[rZ e,y,fN m,fN k,mu x,Pp j,cO t,pG r]) h)
theorem zR (h:okE ns (.bi1 f a) ex=Gt):(∃ id p x pos,ex = .Call (.Name id p) [x] [] pos/\(id==mL (b1n f)&&bJ ns (b1n f)&&okE ns a x)=Gt)\/False:=by
 refine ai h λq e h=>?_
 refine ai h λx g h=>?_
 exact .inl (fO _ _ x _ (by rw[fZ e,aZ g]) h)
theorem zm (h:okE ns (.isi a t) ex=Gt):(∃ id p x c pc pos,ex = .Call (.Name id p) [x,.Name c pc] [] pos/\(id==mL "isinstance" && bJ ns "isinstance" && okE ns a x&&c==mL t&&bJ ns t&&aT t)=Gt)\/False:=by
 refine ai h λq e h=>?_
 refine ai h λx i h=>?_
 refine ai h λc g h=>?_
 exact .inl (An _ _ x.1 c.1 c.2 _ (by rw[fZ e,kN i,a0 g]) h)
theorem I6 (h:okE ns (.isE x t) ex=Gt):okE ns (.isi (.name x) t) ex=true:=h
theorem vS (h:okE ns (.call f es) ex=Gt):(∃ id p xs pos,ex = .Call (.Name id p) xs [] pos/\(id==mL f&&bJ ns f&&aT f && !decide (f∈methNames) && !decide (f∈aE) && !xs.isEmpty&&decide (xs.length<20)&&dj ns es xs)=Gt)\/False:=by
 refine ai h λq e h=>?_
 exact .inl (fO _ _ _ _ (fZ e) h)
theorem Dy (h:okE ns (.attr a n) ex=Gt):(∃ v p,ex = .Attribute v (mL n) p/\n∈fieldNames/\lU a=Gt/\okE ns a v=Gt)\/False:=by
 refine ai h λq e h=>?_
 simp only[OJ,OZ,Pk] at h
 exact .inl (bF q.1 q.2.2 (by rw[gN e,h.1.1.1]) h.1.1.2 h.1.2 h.2)
theorem CH (h:okE ns (.meth a m es) ex=Gt):(∃ v p xs pos,ex = .Call (.Attribute v (mL m) p) xs [] pos/\(p.endLine==pos.line)=Gt/\m∈methNames/\xs.isEmpty=Oz/\xs.length<20/\lU a=Gt/\okE ns a v=Gt/\dj ns es xs=Gt)\/False:=by
 refine ai h λq e h=>?_
 refine ai h λuu e1 h=>?_
 refine ai h λf e2 h=>?_
 simp only[OJ,OZ,Pk,PL] at h
 refine ae (h) λn o=>?_
 clear h
 refine ae (n) λl r=>?_
 clear n
 refine ae (l) λk t=>?_
 clear l
 refine ae (k) λj u=>?_
 clear k
 refine ae (j) λi x=>?_
 clear j
 refine ae (i) λg y=>?_
 clear i
 refine ae (g) λh1 z=>?_
 clear g
 exact .inl (pf f.1 f.2.2 q.2.1 q.2.2.2 (by rw[di e,cC e1,gN e2,h1]) (OZ.mpr z) y x u t r o)
noncomputable def lq (x t:Ot):E:=.tup (.cons (.neg (.sub (.name x) (.name t))) (.cons (.name t) .nil))
theorem B9 (h:okE ns (.order x t) ex=Gt):(∃ id p jd p2 y p3 ar body sc p4 p5 pos,ex = .Call (.Name id p) [.Call (.Name jd p2) [y] [] p3] [⟨rg (mL "key"),.Lambda ar body sc p4,p5⟩] pos /\
  (id==mL "sorted" && bJ ns "sorted" && jd==mL "range" && bJ ns "range" && wl ns x y&&xy ns x t ar sc&&Cu sc.names x t body)=Gt)\/False:=by
 refine ai (show Dp ns x t ex=Gt from h) λq e h=>?_
 refine ai h λf e1 h=>?_
 refine ai h λrg e2 h=>?_
 refine ai h λo e3 h=>?_
 obtain ⟨ka,kv,z⟩:=o
 refine ai h λr e4 h=>?_
 refine ai h λy e5 h=>?_
 refine ai h λl v h=>?_
 simp only[OJ,Pk,OZ] at h
 refine ae (h) λn h8=>?_
 clear h
 refine ae (n) λm h7=>?_
 clear n
 refine ae (m) λk h6=>?_
 clear m
 refine ae (k) λj h5=>?_
 clear k
 refine ae (j) λi h4=>?_
 clear j
 refine ae (i) λg u=>?_
 clear i
 refine ae (g) λh1 h2=>?_
 clear g
 dsimp only at u v
 refine .inl ⟨f.1,f.2,r.1,r.2.1,y,r.2.2.2,l.1,l.2.1,l.2.2.1,l.2.2.2,z,q.2.2.2,?_,?_⟩
 ·rw[di e,a0 e1,aZ e2,aZ e3,fZ e4,aZ e5,wU v,u]
 ·simp only[OJ,OZ]
  exact ⟨⟨⟨⟨⟨⟨h1,h2⟩,h4⟩,h5⟩,h6⟩,h7⟩,h8⟩
theorem sM (h:dj ns .nil xs=Gt):(xs=[]/\VU)\/False:=by
 refine bP (show (dT xs).isSome=Gt from h) λuu e=>?_
 exact .inl ⟨cC e,trivial⟩
theorem qe (h:dj ns (.cons a es) xs=Gt):(∃ x ys,xs=x::ys/\(okE ns a x&&dj ns es ys)=Gt)\/False:=by
 refine ai h λq e h=>?_
 exact .inl (ay _ _ (db e) h)
theorem KZ (h:eV ns (.r1 a) ex=Gt):(∃ id p x pos,ex = .Call (.Name id p) [x] [] pos/\(id==mL "range" && bJ ns "range" && okE ns a x)=Gt)\/False:=by
 refine ai h λq e h=>?_
 refine ai h λx g h=>?_
 exact .inl (fO _ _ x _ (by rw[fZ e,aZ g]) h)
theorem Lq (h:eV ns (.r2 a b) ex=Gt):(∃ id p x y pos,ex = .Call (.Name id p) [x,y] [] pos/\(id==mL "range" && bJ ns "range" && okE ns a x&&okE ns b y)=Gt)\/False:=by
 refine ai h λq e h=>?_
 refine ai h λx g h=>?_
 exact .inl (oF _ _ x.1 x.2 _ (by rw[fZ e,kN g]) h)
end
noncomputable def bnames:vk String:=["len", "list", "tuple", "sorted", "max", "min", "sum", "range", "isinstance", "int", "bool", "str", "ValueError"]
noncomputable def qn:vk Str:=["__getattribute__", "__getattr__", "__class__"]
noncomputable def bmV:vk Value:=[.type "ValueError", .type "Exception", .type "BaseException", .type "object"]
noncomputable def bv (ns:vk (Str×PG)) (x:Ot):Bool:=varK ns x&&aT x&&(ns.lookup (mL x)==rg .local||ns.lookup (mL x)==rg .cell)
structure Ps where
 tag:Nat:=0
 e1:Expr:=R4
 e2:Expr:=R4
 es:vk Expr:=[]
 o1:OE Expr:=OC
 o2:OE Expr:=OC
 s1:vk Stmt:=[]
 s2:vk Stmt:=[]
 s3:vk Stmt:=[]
 hs:vk ExceptHandler:=[]
 pos:Pos:=R4
noncomputable def ps:R5->Ps
 | .Assign x0 x1 x2=>{tag:=1,es:=x0,e1:=x1,pos:=x2 }
 | .Expr x0 x1=>{tag:=2,e1:=x0,pos:=x1 }
 | .Return x0 x1=>{tag:=3,o1:=x0,pos:=x1 }
 | .If x0 x1 x2 x3=>{tag:=4,e1:=x0,s1:=x1,s2:=x2,pos:=x3 }
 | .For x0 x1 x2 x3 x4=>{tag:=5,e1:=x0,e2:=x1,s1:=x2,s2:=x3,pos:=x4 }
 | .While x0 x1 x2 x3=>{tag:=6,e1:=x0,s1:=x1,s2:=x2,pos:=x3 }
 | .Raise x0 x1 x2=>{tag:=7,o1:=x0,o2:=x1,pos:=x2 }
 | .Try x0 x1 x2 x3 x4=>{tag:=8,s1:=x0,hs:=x1,s2:=x2,s3:=x3,pos:=x4 }
 | _=>{}
noncomputable def psB (n:ON) (p:Ps):Stmt:=match n with
 | 1=>.Assign p.es p.e1 p.pos
 | 2=>.Expr p.e1 p.pos
 | 3=>.Return p.o1 p.pos
 | 4=>.If p.e1 p.s1 p.s2 p.pos
 | 5=>.For p.e1 p.e2 p.s1 p.s2 p.pos
 | 6=>.While p.e1 p.s1 p.s2 p.pos
 | 7=>.Raise p.o1 p.o2 p.pos
 | 8=>.Try p.s1 p.hs p.s2 p.s3 p.pos
 | _=>R4
theorem BF (e:R5):(ps e).tag=0\/psB (ps e).tag (ps e)=e:=by cases e<;>first | exact .inr rfl | exact .inl rfl
theorem gj (hn:n≠0) (h:(ps e).tag=n):e=psB n (ps e):=by
 rcases BF e with q | q
 ·exact OW (h.symm.trans q) hn
 ·rw[h] at q; exact q.symm
noncomputable def iS:vk α->OE (α×vk α)
 | []=>OC
 | a::l=>rg (a,l)
theorem dU {α:Type}{l:vk α}{q:α×vk α}(h:iS l=rg q):l=q.1::q.2:=by
 cases l with
 | nil=>exact nN h
 | cons a l=>exact vj h▸rfl
noncomputable def xa (s:R5):OE Expr:=if (ps s).tag=7/\(ps s).o2.isNone=Gt then (ps s).o1 else OC
theorem xx (h:xa s=rg e):∃ p,s = .Raise (rg e) OC p:=by
 unfold xa at h
 by_cases c:(ps s).tag=7/\(ps s).o2.isNone=Gt
 ·rw[OD c] at h
  refine ⟨(ps s).pos,(gj (by decide) c.1).trans ?_⟩
  show Stmt.Raise _ _ _=_
  rw[h,R7.mp c.2]
 ·rw[OB c] at h; exact nN h
noncomputable def xN (s:R5):OE (R5×S6×vk S6):=if (ps s).tag=8/\(ps s).s2.isEmpty=Gt/\(ps s).s3.isEmpty=Gt then (iS (ps s).s1).bind λb=>if b.2.isEmpty=Gt then (iS (ps s).hs).map λq=>(b.1,q.1,q.2) else OC else OC
theorem xt (h:xN s=rg q):∃ p,s = .Try [q.1] (q.2.1::q.2.2) [] [] p:=by
 unfold xN at h
 by_cases c:(ps s).tag=8/\(ps s).s2.isEmpty=Gt/\(ps s).s3.isEmpty=Gt
 ·rw[OD c] at h
  obtain ⟨b,i,h⟩:=U6.mp h
  by_cases d:b.2.isEmpty=Gt
  ·rw[OD d] at h
   obtain ⟨r,g,e⟩:=Sj.mp h
   refine ⟨(ps s).pos,(gj (by decide) c.1).trans ?_⟩
   show Stmt.Try _ _ _ _ _=_
   rw[dU i,dU g,Tq.mp d,Tq.mp c.2.1,Tq.mp c.2.2,<- e]
  ·rw[OB d] at h; exact nN h
 ·rw[OB c] at h; exact nN h
noncomputable def dH0:S6->OE Expr×OE Str×vk R5×Pos
 | .ExceptHandler a b c p=>(a,b,c,p)
noncomputable def DB (s:S6):OE (Expr×R5×vk R5×OE Str):=(dH0 s).1.bind λt=>(iS (dH0 s).2.2.1).map λq=>(t,q.1,q.2,(dH0 s).2.1)
theorem yt (h:DB s=rg q):∃ p,s = .ExceptHandler (rg q.1) q.2.2.2 (q.2.1::q.2.2.1) p:=by
 refine be h λt i h=>?_
 refine bk h λr j e=>?_
 have g:s = .ExceptHandler (dH0 s).1 (dH0 s).2.1 (dH0 s).2.2.1 (dH0 s).2.2.2:=by cases s; rfl
 exact ⟨(dH0 s).2.2.2,g.trans (by rw[i,dU j,<- e])⟩
noncomputable def mz (s:R5):OE (vk Expr×Expr×Pos):=ifN (ps s).tag 1 ((ps s).es,(ps s).e1,(ps s).pos)
noncomputable def xR (s:R5):OE (Expr×Pos):=ifN (ps s).tag 2 ((ps s).e1,(ps s).pos)
noncomputable def tV (s:R5):OE (OE Expr×Pos):=ifN (ps s).tag 3 ((ps s).o1,(ps s).pos)
noncomputable def sIf (s:R5):OE (Expr×vk R5×vk R5×Pos):=ifN (ps s).tag 4 ((ps s).e1,(ps s).s1,(ps s).s2,(ps s).pos)
noncomputable def Cj (s:R5):OE (Expr×Expr×vk R5×vk R5×Pos):=ifN (ps s).tag 5 ((ps s).e1,(ps s).e2,(ps s).s1,(ps s).s2,(ps s).pos)
theorem kH (h:mz s=rg q):s = .Assign q.1 q.2.1 q.2.2:=by
 refine bW h λi g=>?_
 (clear h; subst g)
 exact gj (by decide) i
theorem qg (h:xR s=rg q):s = .Expr q.1 q.2:=by
 refine bW h λi g=>?_
 (clear h; subst g)
 exact gj (by decide) i
theorem pT (h:tV s=rg q):s = .Return q.1 q.2:=by
 refine bW h λi g=>?_
 (clear h; subst g)
 exact gj (by decide) i
theorem AL (h:sIf s=rg q):s = .If q.1 q.2.1 q.2.2.1 q.2.2.2:=by
 refine bW h λi g=>?_
 (clear h; subst g)
 exact gj (by decide) i
theorem yI (h:Cj s=rg q):s = .For q.1 q.2.1 q.2.2.1 q.2.2.2.1 q.2.2.2.2:=by
 refine bW h λi g=>?_
 (clear h; subst g)
 exact gj (by decide) i
noncomputable def sE (s:R5):OE (Expr×Str×Pos×vk Expr×Pos×Pos):=(xR s).bind λq=>(jc q.1).bind λc=>(dT c.2.2.1).bind λuu=>(l0 c.1).map λa=>(a.1,a.2.1,a.2.2,c.2.1,c.2.2.2,q.2)
theorem kW (h:sE s=rg q):s = .Expr (.Call (.Attribute q.1 q.2.1 q.2.2.1) q.2.2.2.1 [] q.2.2.2.2.1) q.2.2.2.2.2:=by
 refine be h λc k h=>?_
 refine be h λu j h=>?_
 refine be h λuu i h=>?_
 refine bk h λn g h=>?_
 subst h
 rw[qg k,di j,cC i,gN g]
noncomputable def Mi (ns:vk (Str×PG)):H1->R5->Pr
 | .asg x e,st=>al (mz st) λq=>al (bH q.1) λt=>al (bU t) λn=>n.1==mL x&&bv ns x&&okE ns e q.2.1
 | .ret e,st=>al (tV st) λq=>al q.1 λv=>okE ns e v
noncomputable def yz (ns:vk (Str×PG)):vk H1->vk R5->Pr
 | [],st=>(dT st).isSome
 | s::r,st=>al (fb st) λq=>Mi ns s q.1&&yz ns r q.2
noncomputable def yk (ns:vk (Str×PG)) (d x:Ot) (r:vk H1) (h:S6):Bool:=al (DB h) λq=>al (bU q.1) λn=>(n.1==mL d&&(bJ ns d&&aT d))&&((q.2.2.2==rg (mL x)&&(bv ns x&&ns.lookup (mL x)==rg .local))&&yz ns r (q.2.1::q.2.2.1))
mutual
noncomputable def okS (ns:vk (Str×PG)):S->R5->Pr
 | .assign x e,st=>al (mz st) λq=>al (bH q.1) λt=>al (bU t) λn=>n.1==mL x&&bv ns x&&okE ns e q.2.1
 | .setitem x e,st=>al (mz st) λq=>al (bH q.1) λt=>al (pH t) λu=>al (bU u.1) λn=>al (fk q.2.1) λc=>al (tE c.1) λb=>b&&(n.1==mL x&&bv ns x&&okE ns e u.2.1)
 | .append x e,st=>al (sE st) λq=>al (bU q.1) λn=>al (bH q.2.2.2.1) λv=>q.2.1==mL "append" && (q.2.2.1.endLine==q.2.2.2.2.1.line)&&n.1==mL x&&bv ns x&&okE ns e v
 | .insert x i e,st=>al (sE st) λq=>al (bU q.1) λn=>al (pS q.2.2.2.1) λv=>q.2.1==mL "insert" && (q.2.2.1.endLine==q.2.2.2.2.1.line)&&n.1==mL x&&bv ns x&&okE ns i v.1&&okE ns e v.2
 | .pop x i,st=>al (sE st) λq=>al (bU q.1) λn=>al (bH q.2.2.2.1) λv=>q.2.1==mL "pop" && (q.2.2.1.endLine==q.2.2.2.2.1.line)&&n.1==mL x&&bv ns x&&okE ns i v
 | .expr e,st=>al (xR st) λq=>(jc q.1).isSome&&okE ns e q.1
 | .ret e,st=>al (tV st) λq=>al q.1 λv=>okE ns e v
 | .retn x,st=>al (tV st) λq=>al q.1 λv=>al (bU v) λn=>n.1==mL x&&bv ns x
 | .ite c a b,st=>al (sIf st) λq=>okE ns c q.1&&cz ns a q.2.1&&cz ns b q.2.2.1
 | .for1 x it b,st=>al (Cj st) λq=>al (dT q.2.2.2.1) λuu=>al (bU q.1) λn=>n.1==mL x&&bv ns x&&eV ns it q.2.1&&cz ns b q.2.2.1
 | .raise c,st=>al (xa st) λq=>al (jc q) λa=>al (dT a.2.2.1) λuu=>al (bU a.1) λn=>al (bH a.2.1) λm=>al (fk m) λk=>al (yH k.1) λt=>n.1==mL c&&bJ ns c&&aT c&&decide (t.length<=1000)
 | .tryS b d x r,st=>al (xN st) λq=>q.2.2.isEmpty&&(okS ns b q.1&&yk ns d x r q.2.1)
 | .bad,_=>Oz
termination_by structural s=>s
noncomputable def cz (ns:vk (Str×PG)):Ss->vk R5->Pr
 | .nil,st=>(dT st).isSome
 | .cons s r,st=>al (fb st) λq=>okS ns s q.1&&cz ns r q.2
termination_by structural s=>s
end
section
variable {ns:vk (Str×PG)}{st:R5}{x:Ot}{e i c:E}{a b:Ss}
theorem nL (h:okS ns (.assign x e) st=Gt):(∃ t pt v p,st = .Assign [.Name t pt] v p/\(t==mL x&&bv ns x&&okE ns e v)=Gt)\/False:=by
 refine ai h λq j h=>?_
 refine ai h λt i h=>?_
 refine ai h λn g h=>?_
 exact .inl (fO _ _ _ _ (by rw[kH j,aZ i,a0 g]) h)
theorem tb (h:okS ns (.setitem x e) st=Gt):(∃ t pt i p1 k p2 p,st = .Assign [.Subscript (.Name t pt) i p1] (.Constant (.bool Gt) k p2) p/\(t==mL x&&bv ns x&&okE ns e i)=Gt)\/False:=by
 refine ai h λq v h=>?_
 refine ai h λt r h=>?_
 refine ai h λu o h=>?_
 refine ai h λn m h=>?_
 refine ai h λc l h=>?_
 refine ai h λb j h=>?_
 refine bS h λg h=>?_
 subst g
 exact .inl (jS _ _ _ _ _ _ _ (by rw[kH v,aZ r,k7 o,a0 m,cO l,n6 j]) h)
theorem vB (h:okS ns (.append x e) st=Gt):(∃ t pt m ap v pos sp,st = .Expr (.Call (.Attribute (.Name t pt) m ap) [v] [] pos) sp/\(m==mL "append" && (ap.endLine==pos.line)&&t==mL x&&bv ns x&&okE ns e v)=Gt)\/False:=by
 refine ai h λq j h=>?_
 refine ai h λn i h=>?_
 refine ai h λv g h=>?_
 exact .inl (jS _ _ _ _ v _ _ (by rw[kW j,a0 i,aZ g]) h)
theorem Ds (h:okS ns (.pop x e) st=Gt):(∃ t pt m ap v pos sp,st = .Expr (.Call (.Attribute (.Name t pt) m ap) [v] [] pos) sp/\(m==mL "pop" && (ap.endLine==pos.line)&&t==mL x&&bv ns x&&okE ns e v)=Gt)\/False:=by
 refine ai h λq j h=>?_
 refine ai h λn i h=>?_
 refine ai h λv g h=>?_
 exact .inl (jS _ _ _ _ v _ _ (by rw[kW j,a0 i,aZ g]) h)
theorem ve (h:okS ns (.insert x i e) st=Gt):(∃ t pt m ap u v pos sp,st = .Expr (.Call (.Attribute (.Name t pt) m ap) [u,v] [] pos) sp/\(m==mL "insert" && (ap.endLine==pos.line)&&t==mL x&&bv ns x&&okE ns i u&&okE ns e v)=Gt)\/False:=by
 refine ai h λq k h=>?_
 refine ai h λn j h=>?_
 refine ai h λv g h=>?_
 exact .inl (DA _ _ _ _ v.1 v.2 _ _ (by rw[kW k,a0 j,kN g]) h)
theorem mB (h:okS ns (.expr e) st=Gt):(∃ f xs ks p sp,st = .Expr (.Call f xs ks p) sp/\okE ns e (.Call f xs ks p)=Gt)\/False:=by
 refine ai h λq k h=>?_
 refine bS h λj g=>?_
 refine bP j λc i=>?_
 rw[di i] at g
 exact .inl (oF _ _ _ _ _ (by rw[qg k,di i]) g)
theorem qk (h:okS ns (.ret e) st=Gt):(∃ v p,st = .Return (rg v) p/\okE ns e v=Gt)\/False:=by
 refine ai h λq i h=>?_
 refine ai h λv g h=>?_
 exact .inl (ay v _ (by rw[pT i,g]) h)
theorem A9 (h:okS ns (.retn x) st=Gt):(∃ t pt p,st = .Return (rg (.Name t pt)) p/\(t==mL x&&bv ns x)=Gt)\/False:=by
 refine ai h λq j h=>?_
 refine ai h λv i h=>?_
 refine ai h λn g h=>?_
 exact .inl (cf _ _ _ (by rw[pT j,i,a0 g]) h)
theorem uU (h:okS ns (.ite c a b) st=Gt):(∃ t u v p,st = .If t u v p/\(okE ns c t&&cz ns a u&&cz ns b v)=Gt)\/False:=by
 refine ai h λq g h=>?_
 exact .inl (fO _ _ _ _ (AL g) h)
theorem sf (h:okS ns (.for1 x it b) st=Gt):(∃ t pt i u p,st = .For (.Name t pt) i u [] p/\(t==mL x&&bv ns x&&eV ns it i&&cz ns b u)=Gt)\/False:=by
 refine ai h λq k h=>?_
 refine ai h λuu j h=>?_
 refine ai h λn g h=>?_
 exact .inl (oF _ _ _ _ _ (by rw[yI k,cC j,a0 g]) h)
theorem yM {c:Ot}(h:okS ns (.raise c) st=Gt):(∃ n p t k p2 cp pos,st = .Raise (rg (.Call (.Name n p) [.Constant (.str t) k p2] [] cp)) OC pos/\(n==mL c&&bJ ns c&&aT c&&decide (t.length<=1000))=Gt)\/False:=by
 refine ai h λq u h=>?_
 refine ai h λa r h=>?_
 refine ai h λuu o h=>?_
 refine ai h λn l h=>?_
 refine ai h λm j h=>?_
 refine ai h λk i h=>?_
 refine ai h λt g h=>?_
 refine aj (xx u) λp v=>?_
 exact .inl (jS n.1 n.2 t k.2.1 k.2.2 a.2.2.2 p (by rw[v,di r,cC o,a0 l,aZ j,cO i,qF g]) h)
theorem Dj {b:S}{d x:Ot}{r:vk H1}(h:okS ns (.tryS b d x r) st=Gt):∃ t u p,st = .Try [t] [u] [] [] p/\okS ns b t=Gt/\yk ns d x r u=true:=by
 refine ai h λq j h=>?_
 refine aj (xt j) λp e=>?_
 refine bS h λi g=>?_
 rw[Tq.mp i] at e
 exact (cf _ _ p e (QT.mp g))
theorem Db (h:cz ns .nil l=Gt):(l=[]/\VU)\/False:=by
 refine bP (show (dT l).isSome=Gt from h) λuu e=>?_
 exact .inl ⟨cC e,trivial⟩
theorem rF (h:cz ns (.cons s a) l=Gt):(∃ t u,l=t::u/\(okS ns s t&&cz ns a u)=Gt)\/False:=by
 refine ai h λq g h=>?_
 exact .inl (ay _ _ (db g) h)
end
structure FnT where
 params:vk Ot
 body:vk R5
 scope:Scope
 lam:Pr
noncomputable def okF (ft:FnT) (f:Fn):Bool:=decide (ft.params=f.params)&&f.params.all (bv ft.scope.names)&&decide f.params.Nodup&&cz ft.scope.names f.body ft.body&&ft.scope.names.all λp=>p.2 != .free
noncomputable def eL (ns:vk (Str×PG)) (n:Ot) (e:E) (st:R5):Bool:=al (mz st) λq=>al (bH q.1) λt=>al (l0 t) λu=>al (bU u.1) λm=>m.1==mL "self" && u.2.1==mL n&&okE ns e q.2.1
theorem k6 {ns:vk (Str×PG)}{n:Ot}{e:E}{st:R5}(h:eL ns n e st=Gt):∃ p1 p2 v p,st = .Assign [.Attribute (.Name (mL "self") p1) (mL n) p2] v p/\okE ns e v=true:=by
 refine ai h λq k h=>?_
 refine ai h λt j h=>?_
 refine ai h λu i h=>?_
 refine ai h λm g h=>?_
 simp only[OJ,OZ] at h
 refine (fO m.2 u.2.2 q.2.1 q.2.2 ?_ h.2)
 rw[kH k,aZ j,gN i,a0 g,h.1.1,h.1.2]
noncomputable def eH:E:=.bi1 .len (.sub (.name "full") (.int 0))
noncomputable def ok3 (ns:vk (Str×PG)) (l:vk R5):Bool:=al (iS l) λp=>al (iS p.2) λq=>al (iS q.2) λr=>r.2.isEmpty&&(eL ns "count" (.name "count") p.1&&(eL ns "full" (.name "full") q.1&&eL ns "size" eH r.1))
theorem AP (h:ok3 ns l=Gt):∃ a b c,l=[a,b,c]/\eL ns "count" (.name "count") a=Gt/\eL ns "full" (.name "full") b=Gt/\eL ns "size" eH c=true:=by
 obtain ⟨p,m,h⟩:=iF h
 obtain ⟨q,k,h⟩:=iF h
 obtain ⟨r,j,h⟩:=iF h
 have e:=bA h
 have i:=bA e.2
 have g:=bA i.2
 refine (gK p.1 q.1 r.1 ?_ i.1 g.1 g.2)
 rw[dU m,dU k,dU j,Tq.mp e.1]
noncomputable def okI (ft:FnT) (f:Fn):Bool:=decide (ft.params = "self" :: f.params)&&ft.params.all (bv ft.scope.names)&&decide ft.params.Nodup&&cz ft.scope.names f.body (ft.body.take (ft.body.length-3))&&ok3 ft.scope.names (ft.body.drop (ft.body.length-3))&&decide ("self" ∉ g7 f.body)&&(ft.scope.names.all λp=>p.2 != .free) && !ft.lam
structure Soft where
 tab:O1->Prop
 old:O1->Prop
 rule:O1
 exc:Ot->O1
 excN:vk Ot
structure Gl where
 prog:Tz
 w:World
 SF:Soft
noncomputable def kL (h:PE) (c:Ot):Addr:=match h.clsAt Qt (mL c) with
 | some x=>x.1
 | none=>0
noncomputable def CZ (h:PE) (c:Ot):OE (vk N8):=(h.clsAt Qt (mL c)).map λx=>x.2.2.mro
noncomputable def JM (h:PE) (c:Ot):vk Value:=if c = "PickError" then bmV else .ref (kL h "PickError")::bmV
noncomputable def Ls (h:PE) (c:Ot):Bool:=al (h.clsAt Qt (mL c)) λx=>h.isNs x.2.2.ns&&qn.all λn=>(h.nsMap x.2.2.ns n).isNone
noncomputable def ph (cs:vk Ot) (h:PE):Bool:=h.isNs Qt&&(cs.all λc=>CZ h c==rg (.ref (kL h c)::JM h c)&&Ls h c)&&(cs.all λc=>cs.all λg=>kL h c != kL h g||c==g) &&
 match h.clsAt Qt "Rule" with
 | some x=>h.isNs x.2.2.ns&&fieldNames.all λn=>(h.nsMap x.2.2.ns (mL n)).isNone
 | none=>Oz
noncomputable def gV (cs:vk Ot) (h:PE):Prop:=∃ mg,h.Ns Qt mg/\∃ ad:Ot->O1,(∀ c∈cs,∃ o cd,mg (mL c)=rg (.ref (ad c))/\h.get? (ad c)=rg o/\o.data = .cls cd/\cd.mro = .ref (ad c)::(if c = "PickError" then bmV else .ref (ad "PickError")::bmV)/\∃ mN,h.Ns cd.ns mN/\∀ n∈qn,mN n=OC) /\
 (∀ c∈cs,∀ c'∈cs,ad c=ad c'->c=c')/\∃ C o cd mN,mg "Rule" = rg (.ref C)/\h.get? C=rg o/\o.data = .cls cd/\h.Ns cd.ns mN/\∀ n∈fieldNames,mN (mL n)=OC
set_option tactic.hygienic true in
theorem B7 (e:ph cs h=Gt):gV cs h:=by
 unfold ph at e
 simp only[OJ,P9] at e
 refine ae (e) λi k=>?_
 clear e
 refine ae (i) λg h3=>?_
 clear i
 refine ae (g) λh1 h2=>?_
 clear g
 refine ⟨h.nsMap Qt,.of_isNs h1,kL h,λc l=>?_,λc l c' r q=>?_,?_⟩
 ·have:=OZ.mp (h2 c l).1
  refine ai (h2 c l).2 λy m p=>?_
  simp only[OJ,P9,R7] at p
  unfold CZ at this
  refine bk this λx j hm=>?_
  obtain ⟨C,o,z⟩:=x
  refine aH (XR j) λv u t=>?_
  have ea:kL h c=C:=by unfold kL; rw[j]
  rw[ea] at hm ⊢
  rw[j] at m; (have oc:=vj m; clear m; subst oc)
  exact ⟨o,z,v,u,t,hm,_,.of_isNs p.1,p.2⟩
 ·have:=h3 c l c' r
  simp only[Vo,bne_iff_ne,OZ] at this
  exact this.resolve_left λn=>n q
 ·split at k
  ·rename_i x j
   obtain ⟨C,o,z⟩:=x
   refine aH (XR j) λv u t=>?_
   simp only[OJ,P9,R7] at k
   exact ⟨C,o,z,_,v,u,t,.of_isNs k.1,k.2⟩
  ·exact nF k
noncomputable def Lu (cs:vk Ot):PySem.W.Hook:=⟨Pr,λs=>ph cs s.heap,λuu=>Gt,λuu h=>gV cs h,λuu uu e=>B7 e,λuu h h' x k=>af (x) λn q y=>aq (y) λad a1 a2 z=>JA (z) λC o i g b1 b2 b3 b4 v=>⟨n,q.keeps k,ad,λc p=>a8 (a1 c p) λo i u t r j=>⟨o,i,u,k _ _ t,r,j.1,af j.2 λg m l=>⟨g,m.keeps k,l⟩⟩,a2,C,o,i,g,b1,k _ _ b2,b3,b4.keeps k,v⟩⟩
noncomputable def zrw:PySem.W.RowW:=PySem.W.OpenRow.toRowW (XN RP)
noncomputable def zvw:PySem.Program:={zrw.prog with main:={zrw.prog.main with body:=zrw.prog.main.body.filter λs=>(mz s).isNone } }
noncomputable def zxw:PySem.Shared->Bool:=λs=>PySem.W.xlAt zvw [] s && PySem.W.recOk (PySem.W.RowW.records zrw) s
noncomputable def zhk:=Lu aE
set_option maxRecDepth 100000 in
theorem zt4:PySem.W.LeftO zrw.prog zvw [] zxw (PySem.W.Hook.obs zhk) (PySem.W.Hook.val zhk) 5000:=λw=>by kernel_rfl
noncomputable def gz (a:Xn) (ps:vk Ot):Bool:=a.posonlyargs.isEmpty&&(a.args.map (·.arg)==ps.map mL)&&a.vararg.isNone&&a.kwonlyargs.isEmpty&&a.kwarg.isNone
noncomputable def gd (sc:Scope):Bool:=!sc.isCoroutine && !sc.isGenerator&&sc.kind == .function
noncomputable def fW (p:Tz) (loose:vk Str):OE ClsRec:=(plainsOf p loose).find? λc=>c.name==mL "Rule"
noncomputable def dZ (p:Tz) (loose:vk Str) (m:Ot):OE MethRec:=(fW p loose).bind λc=>c.meths.find? λr=>r.name==mL m
noncomputable def iu (p:Tz) (loose:vk Str) (f:Ot) (fn:Fn):Bool :=
 if f∈aE then specOf p (mL f)==rg ("ValueError.__new__", bmV)
 else if f = "Rule" then al (dZ p loose "__init__") λr=>okI ⟨"self" :: fn.params,r.body,r.scope,Oz⟩ fn&&gz r.params ("self" :: fn.params)&&gd r.scope
 else if f∈methNames then al (dZ p loose f) λr=>okF ⟨fn.params,r.body,r.scope,Oz⟩ fn&&gz r.params fn.params&&gd r.scope
 else al ((X9 p).find? λd=>d.name==mL f) λd=>okF ⟨fn.params,d.body,d.scope,Gt⟩ fn&&gz d.params fn.params&&gd d.scope
noncomputable def l9 (p:Tz) (loose:vk Str) (L:vk (Ot×Fn)):Bool:=L.all λq=>iu p loose q.1 q.2
noncomputable def bn (L:vk (Ot×Fn)):vk String:=(L.map (·.1)).filter λf=>decide (f∈aE)
noncomputable def xP (p:Tz) (loose:vk Str):Bool:=bnames.all λx=>!startupNames.contains (mL x) && !loose.contains (mL x) && !((X9 p).map (·.name)).contains (mL x) && !((litsOf p).map (·.1)).contains (mL x) && !((clssOf p loose).map (·.name)).contains (mL x)
noncomputable def gG (v:OE N8):OE Addr:=match v with
 | some (.ref a)=>rg a
 | _=>OC
noncomputable def o8 (mg:Str->OE N8) (L:vk (Ot×Fn)) (h:PE):Soft:=⟨λP=>∃ c,h.TableAt c P #[],λb=>∃ o,h.get? b=rg o,(gG (mg "Rule")).getD 0,λc=>(gG (mg (mL c))).getD 0,bn L⟩
noncomputable def qf (g:Gl):Prop:=∀ {p:Tz}{loose:vk Str}{mean:ExcName->OE N8}{mg mb:Str->OE N8}{L:vk (Ot×Fn)}{s:OA}{fn:Fn}{fa a:O1}{n:ON}{ns:vk OF}{vs:vk N8}{m:Mode}{Q:N8->OA->Prop}{Er:N8->OA->Prop},g.SF=o8 mg L s.heap ->
  Top p loose mean mg mb s.heap->TopE p loose mg s.heap->gV (bn L) s.heap->l9 p loose L=Gt->xP p loose=Gt->(fW p loose).isSome=Gt->(L.lookup "Rule").isSome=Gt->(bn L=[] \/ "PickError" ∈ bn L) ->
  L.lookup "law" = rg fn->mg (mL "law")=rg (.ref fa)->n<=50->aA (mkC L n) fn [.d (aa ns)] = .ok (.d (.bool Gt),m)->s.heap.get? a=rg {cls:=.type "list", data:=.seq vs.toArray }->Q8 vs ns->ns.length<=2^22 ->
  (∀ h' tk,OldK s.heap h'->Q (.bool Gt) {s with heap:=h',toks:=tk })->OQ (OT g.prog g.w) Y8 (R3 (.ref fa) [.ref a]) Q Er s
noncomputable def gl0:Gl:=⟨R4,⟨λ_ _=>0,{strHash:=λ_=>0,shareClass:=λ_=>0,mergeTok:=id,idOf:=λ_=>0,idOfShared:=λ_ _=>0,followText:=λ_=>Oz,idOfImm:=λ_=>0 }⟩,⟨λ_=>VU,λ_=>VU,0,λ_=>0,[]⟩⟩
noncomputable def gl:Gl:=@WQ Gl ⟨gl0⟩ λg=>¬ qf g
theorem CK (h:qf gl) (g:Gl):qf g:=by
 apply UK
 intro n
 exact @Vp Gl (λg=>¬ qf g) ⟨g,n⟩ h
noncomputable def prog:Program:=gl.prog
noncomputable def w:World:=gl.w
noncomputable def SF:Soft:=gl.SF
noncomputable def Room (hb:Pr) (k:ON) (A:Pq):Prop:=(hb=Oz->A.handled=OC)/\A.depth+2*k+(if hb then 1 else 4)<Q5/\A.units+100*k+(if hb then 200 else 300)<UB
noncomputable def tabO (ps:OP N8):Obj:={cls:=.none,data:=.fields ps }
noncomputable def CodesG (h:PE) (ps:OP N8):Prop:=YT ps.toList/\∀ pos cv,U7 pos ps.toList=rg cv->∃ c o vs q t,cv = .ref c/\h.get? c=rg o/\o.cls = .type "code" /\ o.data = .fields vs/\vs[1]? = rg (.str q t)
noncomputable def Stay (o:Obj):Prop:=(o.cls = .type "code" /\ ∃ fs,o.data = .fields fs)\/(o.cls = .type "tuple" /\ ∃ vs n,o.data = .seq vs n)
section
inductive Like (h h':PE) (b:O1) (o o':Obj):Prop
 | same:o' = o->Like h h' b o o'
 | tab (ps more:OP N8):SF.tab b->o=tabO ps->o' = tabO (ps++more)->(CodesG h ps->CodesG h' (ps++more))->Like h h' b o o'
 | frame (es:OP U8) (ep:ON):¬ SF.old b->o.cls = .type "frame" -> o.data = .dict es ep->o'.cls=o.cls->o'.data=o.data->o'.dict=o.dict->Like h h' b o o'
noncomputable def KG (G:O1->Prop) (h h':PE):Prop:=∀ b o,G b\/Stay o->h.get? b=rg o->∃ o',h'.get? b=rg o'/\Like h h' b o o'
noncomputable def hardB (o:Obj):Bool:=match o.cls with | .none=>Oz | .type n=>n != "frame" | _=>Gt
theorem Like.hard (l:Like h h' b o o') (hh:hardB o=Gt):o' = o:=by
 cases l with
 | same e=>exact e
 | tab ps more _ e _ _=>subst e; exact nF hh
 | frame _ _ _ e _ _ _ _=>unfold hardB at hh; rw[e] at hh; simp at hh
theorem Like.exact (l:Like h h' b o o') (h1:∀ fs,o.data≠.fields fs) (h2:∀ es ep,o.data≠.dict es ep):o' = o:=by
 cases l with
 | same e=>exact e
 | tab ps more _ e _ _=>(clear h2; subst e); exact OW rfl (h1 ps)
 | frame es ep _ _ e _ _ _=>exact OW e (h2 es ep)
theorem Like.cls (l:Like h h' b o o'):o'.cls=o.cls:=by
 cases l with
 | same e=>rw[e]
 | tab ps more _ e e' _=>rw[e,e']; rfl
 | frame _ _ _ _ _ e _ _=>exact e
theorem Like.data (l:Like h h' b o o') (hn:∀ fs,o.data≠.fields fs):o'.data=o.data:=by
 cases l with
 | same e=>rw[e]
 | tab ps more _ e e' _=>exact OW (by rw[e]; rfl) (hn ps)
 | frame _ _ _ _ _ _ e _=>exact e
theorem Stay.hard (x:Stay o):hardB o=true:=by
 unfold hardB
 rcases x with x | x
 ·rw[x.1]; decide
 ·rw[x.1]; decide
section
theorem KG.of (k:∀ b o,G b\/Stay o->h.get? b=rg o->h'.get? b=rg o):KG G h h':=λb o g e=>(ag o (k b o g e) (.same rfl))
theorem KG.refl:KG G h h:=.of λuu uu uu e=>e
theorem KG.hard (k:KG G h h') (hb:G b\/Stay o) (e:h.get? b=rg o) (hh:hardB o=Gt):h'.get? b=rg o:=by
 refine af (k b o hb e) λi g l=>?_
 rw[g,l.hard hh]
theorem KG.stay (k:KG G h h') (e:h.get? b=rg o) (x:Stay o):h'.get? b=rg o:=k.hard (.inr x) e x.hard
theorem KG.codes (k:KG G h h') {ps:OP N8}(x:CodesG h ps):CodesG h' ps :=
 ⟨x.1,λg n m=>oK (x.2 g n m) λc o l q t r p j i=>(lY c o l q t r (k.stay p (.inl (aB j (bx _ i.1)))) j i)⟩
theorem KG.trans (a:KG G h h') (b:KG G h' h''):KG G h h'':=λc o i e=>by
 refine af (a c o i e) λn p l=>?_
 have g:G c\/Stay n:=i.imp id λx=>by rw[l.hard x.hard]; exact x
 refine af (b c n g p) λj m k=>?_
 refine (ag j m ?_)
 cases l with
 | same e1=>
  (clear e i; subst e1)
  cases k with
  | same e2=>exact .same e2
  | tab ps more t1 t2 t3 t4=>exact .tab ps more t1 t2 t3 λx=>t4 (a.codes x)
  | frame es ep f1 f2 f3 f4 f5 f6=>exact .frame es ep f1 f2 f3 f4 f5 f6
 | tab ps more t1 t2 t3 t4=>
  (clear e i; subst t2 t3)
  cases k with
  | same e2=>exact .tab ps more t1 rfl e2 λx=>b.codes (t4 x)
  | tab ps' more' u1 u2 u3 u4=>
   have:ps' = ps++more:=by injection u2 with _ _ u; injection u with u; exact u.symm
   (clear u2; subst this)
   exact .tab ps (more++more') t1 rfl (by rw[u3,Wr]) λx=>by rw[<- Wr]; exact u4 (t4 x)
  | frame _ _ _ f2 _ _ _ _=>cases f2
 | frame es ep f1 f2 f0 f3 f4 f5=>
  cases k with
  | same e2=>(clear p g; subst e2); exact .frame es ep f1 f2 f0 f3 f4 f5
  | tab ps' more' u1 u2 u3 u4=>rw[f2,u2] at f3; cases f3
  | frame _ _ g1 g2 g0 g3 g4 g5=>exact .frame es ep f1 f2 f0 (g3.trans f3) (g4.trans f4) (g5.trans f5)
theorem KG.mono (k:KG G h h') (hg:∀ b,G' b->G b):KG G' h h':=λb o g e=>k b o (g.imp (hg b) id) e
end
theorem Stay.not_data (h1:∀ fs,o.data≠.fields fs) (h2:∀ vs n,o.data≠.seq vs n):¬ Stay o:=λx=>x.elim (λx=>let ⟨_,fs,e⟩:=x; h1 fs e) λx=>let ⟨_,vs,n,e⟩:=x; h2 vs n e
theorem Stay.not_list:¬ Stay ⟨.type "list", d,.seq vs n,x⟩:=λx=>x.elim (λx=>by simp at x) λx=>by simp at x
theorem Stay.not_dict (h:o.data = .dict es ep):¬ Stay o:=Stay.not_data (λuu q=>by rw[h] at q; cases q) λuu uu q=>by rw[h] at q; cases q
theorem Stay.not_cls (h1:o.cls≠.type "code") (h2:o.cls≠.type "tuple"):¬ Stay o:=λx=>x.elim (λx=>h1 x.1) λx=>h2 x.1
theorem KG.ofW {wr:vk O1}{h h':PE}(k:∀ b o,b∉wr->h.get? b=rg o->h'.get? b=rg o) (n:∀ b∈wr,∀ o,h.get? b=rg o->¬ Stay o):KG (λb=>b∉wr) h h' :=
 .of λb o i e=>k b o (λg=>i.elim (λx=>x g) (n b g o e)) e
theorem KG.same (hs:PR a h h') (hz:¬ G a) (hn:∀ o,h.get? a=rg o->¬ Stay o):KG G h h' :=
 .of λb o g e=>hs.extBut b o (λq=>by (clear hs; subst q); exact g.elim hz (hn o e)) e
noncomputable abbrev K (h h':PE):Prop:=KG (λuu=>VU) h h'
section
theorem K.of (k:∀ b o,h.get? b=rg o->h'.get? b=rg o):K h h':=KG.of λb o _ e=>k b o e
theorem K.get (k:K h h') (e:h.get? b=rg o) (hh:hardB o=Gt):h'.get? b=rg o:=KG.hard k (.inl trivial) e hh
theorem K.step (a:K h h') (b:KG G h' h'') (hg:∀ b o,h.get? b=rg o->G b):K h h'':=λc o _ e=>
 (KG.trans (KG.mono (G':=λb=>∃ o,h.get? b=rg o) a λuu uu=>trivial) (KG.mono b λb ⟨o,e⟩=>hg b o e)) c o (.inl ⟨o,e⟩) e
theorem K.same (k:K h h') (hs:PR a h' h'') (ha:h.get? a=OC) (hn:∀ o,h'.get? a=rg o->¬ Stay o):K h h'' :=
 K.step k (G:=λb=>b≠a) (KG.same hs (λq=>q rfl) hn) λb o e q=>by rw[q,ha] at e; exact nN e
theorem K.there (k:K h h') (e:h.get? b=rg o):∃ o',h'.get? b=rg o':=af (k b o (.inl trivial) e) λo' g uu=>⟨o',g⟩
theorem KG.dataG (k:KG G h h') (g:G b\/Stay o) (e:h.get? b=rg o) (hn:∀ fs,o.data≠.fields fs):∃ o',h'.get? b=rg o'/\o'.data=o.data/\o'.cls=o.cls :=
 af (k b o g e) λo' i l=>(aD o' i (l.data hn) l.cls)
theorem K.data (k:K h h') (e:h.get? b=rg o) (hn:∀ fs,o.data≠.fields fs):∃ o',h'.get? b=rg o'/\o'.data=o.data/\o'.cls=o.cls:=KG.dataG k (.inl trivial) e hn
theorem K.exact (k:K h h') (e:h.get? b=rg o) (h1:∀ fs,o.data≠.fields fs) (h2:∀ es ep,o.data≠.dict es ep):h'.get? b=rg o :=
 af (k b o (.inl trivial) e) λi g l=>(l.exact h1 h2)▸g
theorem FM (k:KG G h h') (g:G a) (x:h.Ns a m):h'.Ns a m:=by
 refine aV (x) λo n p e j r=>?_
 clear x
 obtain ⟨l,t,i,_⟩:=k.dataG (.inl g) e λu q=>by rw[j] at q; cases q
 exact (cU l n p t (i.trans j) r)
theorem eZ (x:h.Ns a m) (k:K h h'):h'.Ns a m:=FM k trivial x
theorem BG (k:KG G h h') (g:G c) (x:h.IsCell c v):h'.IsCell c v:=by
 refine af (x) λo e j=>?_
 clear x
 obtain ⟨l,m,i,_⟩:=k.dataG (.inl g) e λn q=>by rw[j] at q; cases q
 exact (ag l m (i.trans j))
theorem ij (x:h.IsCell c v) (k:K h h'):h'.IsCell c v:=BG k trivial x
theorem j7 (x:h.NoLimit) (k:K h h'):h'.NoLimit:=af (x) λg a b=>(ag g (eZ a k) b)
theorem z9 (k:KG G h h'):(∀ {v:N8}{d:OU}{as:vk O1},R h v d as->(∀ a∈as,G a)->R h' v d as)/\(∀ {vs:vk N8}{ds:vk OU}{as:vk O1},RA h vs ds as->(∀ a∈as,G a)->RA h' vs ds as) :=
 R.ind (M:=λv d as=>(∀ a∈as,G a)->R h' v d as) (N:=λvs ds as=>(∀ a∈as,G a)->RA h' vs ds as) (λuu=>.none) (λb _=>.bool b) (λi t _=>.int i t) (λx t _=>.str x t)
  (λe _ m g=>.list (k.hard (.inl (g _ (.head _))) e rfl) (m λb l=>g b (.tail _ l))) (λe _ m g=>.tuple (k.stay e (.inr (aB rfl (bG _ _ rfl)))) (m g))
  (λuu=>.nil) (λuu uu i j g=>.cons (i λb l=>g b (PC _ l)) (j λb l=>g b (PA _ l)))
theorem R.onG (r:R h v d as) (k:KG G h h') (g:∀ a∈as,G a):R h' v d as:=(z9 k).1 r g
theorem RA.onG (r:RA h vs ds as) (k:KG G h h') (g:∀ a∈as,G a):RA h' vs ds as:=(z9 k).2 r g
theorem R.k (r:R h v d as) (k:K h h'):R h' v d as:=r.onG k λuu uu=>trivial
theorem RA.k (r:RA h vs ds as) (k:K h h'):RA h' vs ds as:=r.onG k λuu uu=>trivial
noncomputable def CodeOk (h:PE) (cd:N8) (q:Str):Prop:=∃ c P ps,cd = .ref c/\h.CodeRec cd q/\h.IsCode c P ps/\h.TableAt c P ps/\CodesG h ps/\SF.tab P
theorem CodeOk.k (x:CodeOk h cd q) (k:K h h'):CodeOk h' cd q:=by
 refine cH (x) λc P ps MU p n m G sP=>?_
 clear x
 subst MU
 refine fK (p) λc' o' y t' e0 e1 e2 e3=>?_
 clear p
 refine BJ (n) λo vs t tf g tg inF i tt op i1 i2 i3 i4 i5 i6 i7 i8 i9 i10 i11=>?_
 clear n
 refine ae (m) λj t5=>?_
 clear m
 refine a8 (j) λoc vc t1 t2 z t4=>?_
 clear j
 cases e0
 rw[i1] at e1 t1
 rw[<- vj e1] at e2
 rw[<- vj t1] at t2 z
 have kc:h'.get? c=rg o:=k.stay i1 (.inl (aB t2 (bx _ z)))
 refine af (k P _ (.inl trivial) t5) λo' e' l=>?_
 have r:∃ v,h'.get? P=rg {cls:=.none,data:=.fields v }/\CodesG h' v:=by
  cases l with
  | same e=>subst e; exact (ag ps e' (KG.codes k G))
  | tab ps' more u1 u2 u3 u4=>
   have:ps' = ps:=by injection u2 with _ _ u; injection u with u; exact u.symm
   (clear i10 i9 t5 u2; subst this)
   exact (ag _ (by rw[e',u3]; rfl) (u4 G))
  | frame _ _ _ f _ _ _ _=>cases f
 refine af (r) λv eq Gq=>?_
 clear r
 exact (fI c P v rfl (iX c o y t' rfl kc e2 e3) ⟨o,vs,t,tf,g,tg,inF,i,tt,_,kc,i2,i3,i4,i5,i6,i7,eq,rfl,Gq.1,i11⟩ ⟨(bF o vc kc t2 z t4),eq⟩ Gq sP)
end
end
noncomputable def bval (x:Ot):Value:=if x∈["list", "tuple", "range", "int", "bool", "str", "ValueError"] then .type x else .builtin x
structure Fns where
 fn:Ot->OE (O1×FnT)
 mth:Ot->OE (O1×FnT)
 init:OE (O1×FnT)
 lam:Pr
 hand:Pr
noncomputable def adr (fns:Fns) (f:Ot):OE Addr:=if f = "Rule" then fns.init.map λuu=>SF.rule else if f∈methNames then (fns.mth f).map (·.1) else (fns.fn f).map (·.1)
theorem v4 (h1:f ≠ "Rule") (h2:f∉methNames):adr fns f=(fns.fn f).map (·.1):=by unfold adr; rw[OB h1,OB h2]
theorem rG (h1:f ≠ "Rule") (h2:f∈methNames):adr fns f=(fns.mth f).map (·.1):=by unfold adr; rw[OB h1,OD h2]
noncomputable def FnAt (h:PE) (ft:FnT) (a:O1):Prop:=∃ o fd,h.get? a=rg o/\o.data = .func fd/\fd.body = .stmts ft.body/\fd.scope=ft.scope/\fd.globals=Qt/\fd.closure=[]/\fd.builtins=Tl/\h.CodeRec fd.code fd.qualname/\(ft.lam=Gt->CodeOk h fd.code fd.qualname) /\
 (∀ vals,vals.length=ft.params.length->WR fd ⟨vals,[]⟩=PU ((ft.params.map mL).zip vals))/\fd.scope.isCoroutine=Oz/\fd.scope.isGenerator=Oz/\fd.scope.kind = .function
theorem vK (x:h.CodeRec cd q) (k:K h h'):h'.CodeRec cd q:=by
 refine fK (x) λc o m t g e j i=>?_
 clear x
 subst g
 refine af (k c o (.inl trivial) e) λp n l=>?_
 cases l with
 | same q=>(clear e; subst q); exact (iX c _ m t rfl n j i)
 | tab ps more _ q1 q2 _=>
  (clear e; subst q1 q2)
  obtain rfl:=Jaf (show Zy ps=Zy m from j)
  exact (iX c _ (ps++more) t rfl n rfl (by rw[Array.getElem?_append_left (QP.mp i).1]; exact i))
 | frame es ep _ _ q _ _ _=>rw[j] at q; cases q
theorem FnAt.k (x:FnAt h ft a) (k:K h h'):FnAt h' ft a:=by
 refine pF (x) λo z y i v u t r p n m g=>?_
 clear x
 obtain ⟨j,e',l,_⟩:=K.data k y λfs q=>by rw[i] at q; cases q
 exact (oU j z e' (l.trans i) v u t r p (vK n k) (λq=>(m q).k k) g)
theorem rx (x:ClsAt h C N mN) (k:K h h'):ClsAt h' C N mN:=by
 obtain ⟨g,u⟩:=x
 refine eB (g) λm q y l i j v t r p o n e=>?_
 clear g
 exact ⟨⟨m,q,y,l,i,j,v,t,r,p,o,n,K.get k e rfl⟩,eZ u k⟩
noncomputable def RuleAt (fns:Fns) (h:PE):Prop:=∃ N mN,ClsAt h SF.rule N mN/\(∀ n∈["__setattr__", "__getattribute__", "__getattr__", "count", "full", "size"],mN (mL n)=OC) /\
 (∃ p o,fns.init=rg p/\mN "__init__" = rg (.ref p.1)/\FnAt h p.2 p.1/\h.get? p.1=rg o/\o.cls = .type "function") /\
 ∀ m p,fns.mth m=rg p->∃ o,mN (mL m)=rg (.ref p.1)/\FnAt h p.2 p.1/\h.get? p.1=rg o/\o.cls = .type "function"
theorem rH (k:K h h') (e:h.get? a=rg o) (c:o.cls = .type "function"):∃ o',h'.get? a=rg o'/\o'.cls = .type "function" :=
 af (k a o (.inl trivial) e) λo' g l=>(ag o' g (l.cls.trans c))
theorem RuleAt.k (x:RuleAt fns h) (k:K h h'):RuleAt fns h':=by
 refine a8 (x) λN n h1 h2 g h4=>?_
 clear x
 refine jQ (g) λp o i1 i2 z y v=>?_
 clear g
 refine af (rH k y v) λi j l=>?_
 refine (bF N n (rx h1 k) h2 (bC p i i1 i2 (z.k k) j l) (λm p hp=>?_))
 refine bD (h4 m p hp) λo u t r q=>?_
 refine af (rH k r q) λi j l=>?_
 exact (bp i u (t.k k) j l)
noncomputable def b9 (c:Ot):vk Value:=if c = "PickError" then bmV else .ref (SF.exc "PickError")::bmV
theorem v8 (T:Y9 h bm tl) (k:K h h'):Y9 h' bm tl:=by
 induction T with
 | base=>exact .base
 | own hA hN hq _ ih=>exact .own (K.exact k hA (λuu q=>by cases q) λuu uu q=>by cases q) (eZ hN k) hq ih
noncomputable def ExcAt0 (h:PE) (c:Ot):Prop:=∃ N nm q bs hdct sn sub ab col dd k0 k1 k2 k3 k5 mN,h.get? (SF.exc c)=rg (Qy nm q (SF.exc c) N bs (b9 c) hdct sn sub ab col dd k0 k1 k2 k3 k5 "ValueError.__new__")/\h.Ns N mN/\mN "__init__" = OC/\Y9 h bmV (b9 c)
theorem ExcAt0.use {h:PE}{c:Ot}{G:Prop}(x:ExcAt0 h c) (k:∀ {N:O1}{nm q:Str}{bs:vk N8}{hdct:Pr}{sn:vk Str}{sub:vk N8}{ab:Pr}{col:OE Pr}{dd:OE O1}{k0 k1 k2 k3 k5:OE N8}{mN:Str->OE N8},h.get? (SF.exc c)=rg (Qy nm q (SF.exc c) N bs (b9 c) hdct sn sub ab col dd k0 k1 k2 k3 k5 "ValueError.__new__")->h.Ns N mN->mN "__init__" = OC->Y9 h bmV (b9 c)->G):G:=by
 obtain ⟨N,nm,q,bs,hdct,sn,sub,ab,col,dd,k0,k1,k2,k3,k5,mN,l,j,i,g⟩:=x
 exact k l j i g
theorem ExcAt0.k (x:ExcAt0 h c) (k:K h h'):ExcAt0 h' c :=
 x.use λl j i g=>⟨_,_,_,_,_,_,_,_,_,_,_,_,_,_,_,_,K.exact k l (λuu q=>by cases q) (λuu uu q=>by cases q),eZ j k,i,v8 g k⟩
noncomputable def QtAt (h:PE) (c:Ot):Prop:=∃ o cd mN,h.get? (SF.exc c)=rg o/\o.data = .cls cd/\h.Ns cd.ns mN/\∀ n∈qn,mN n=OC
theorem QtAt.k (x:QtAt h c) (k:K h h'):QtAt h' c:=by
 obtain ⟨o,n,i,m,g,l,j⟩:=x
 exact ⟨o,n,i,K.exact k m (λuu q=>by rw[g] at q; cases q) (λuu uu q=>by rw[g] at q; cases q),g,eZ l k,j⟩
noncomputable def ExcAt (h:PE) (c:Ot):Prop:=ExcAt0 h c/\QtAt h c/\QtAt h "PickError"
theorem ExcAt.k (x:ExcAt h c) (k:K h h'):ExcAt h' c:=⟨x.1.k k,x.2.1.k k,x.2.2.k k⟩
structure GE (fns:Fns) (h:PE):Prop where
 glob:∃ mg,h.Ns Qt mg/\(∀ f a,f∉methNames->adr fns f=rg a->mg (mL f)=rg (.ref a))/\∀ x∈bnames,mg (mL x)=OC
 funs:∀ f p,fns.fn f=rg p->FnAt h p.2 p.1
 cls:(∃ f p,fns.mth f=rg p)\/fns.init.isSome=Gt->RuleAt fns h
 blt:∃ mb,h.Ns Tl mb/\∀ x∈bnames,mb (mL x)=rg (bval x)
 nolim:h.NoLimit
 old:∀ b,SF.old b->∃ o,h.get? b=rg o
 exc:∃ mg,h.Ns Qt mg/\(∀ c∈SF.excN,mg (mL c)=rg (.ref (SF.exc c))/\ExcAt h c)/\∀ c∈SF.excN,∀ c' ∈ "PickError" :: SF.excN,SF.exc c=SF.exc c'->c=c'
 bm:∃ mg bm ob,h.Ns Qt mg/\mg "__builtins__" = rg (.ref bm)/\bm≠Tl/\h.get? bm=rg ob/\ob.cls = .type "module" /\ ob.dict=rg Tl/\ob.data = .plain
theorem GE.k {fns:Fns}{h h':PE}(G:GE fns h) (k:K h h'):GE fns h' where
 glob:=af (G.glob) λi a b=>(ag i (eZ a k) b)
 funs:=λf p e=>(G.funs f p e).k k
 cls:=λe=>(G.cls e).k k
 blt:=af (G.blt) λm a b=>(ag m (eZ a k) b)
 nolim:=j7 G.nolim k
 old:=λb n=>aj (G.old b n) λuu e=>K.there k e
 exc:=aq (G.exc) λi a b c=>(aD i (eZ a k) (λc j=>⟨(b c j).1,(b c j).2.k k⟩) c)
 bm:=uA (G.bm) λi bm l a b c d e f g=>(l6 i bm l (eZ a k) b c (K.get k d (by unfold hardB; rw[e]; decide)) e f g)
theorem GE.flag (G:GE fns h) (a b:Pr):GE {fns with lam:=a,hand:=b } h:=⟨G.glob,G.funs,G.cls,G.blt,G.nolim,G.old,G.exc,G.bm⟩
noncomputable def FrOk (h:PE) (l:vk Env):Prop:=∀ env∈l,env.scope.kind = .function/\∃ L o es ep,env.frame=rg L/\¬ SF.old L/\h.get? L=rg o/\o.cls = .type "frame" /\ o.data = .dict es ep
theorem FrOk.k (x:FrOk h l) (k:K h h'):FrOk h' l:=λg m=>by
 obtain ⟨u,L,o,v,y,t,r,p,n,i⟩:=x g m
 refine af (k L o (.inl trivial) p) λj z l=>?_
 exact (aB u (jX L j v y t r z (l.cls.trans n) ((l.data λfs q=>by rw[i] at q; cases q).trans i)))
section
noncomputable def RV (h:PE) (v:N8):V->vk O1->Prop
 | .d x,as=>R h v x as/\sz x=Gt
 | .dic0,as=>∃ a,v = .ref a/\as=[a]/\(a==UC)=Oz/\h.DictOf (RD prog w) a []/\h.DictOfH (Xo (RD prog w)) a []
 | .dicI ks,as=>∃ a,v = .ref a/\as=[a]/\(a==UC)=Oz/\h.DictOf (RD prog w) a (ks.map λk=>(k,.bool Gt))
 | .dicT ks,as=>∃ a xs,v = .ref a/\as=[a]/\(a==UC)=Oz/\h.DictOfH (Xo (RD prog w)) a xs/\xs.map (·.1)=ks/\(∀ k∈ks,k.length<=2^22)/\∀ x∈xs,R h (.ref x.2.1) (aO x.1) []
 | .rule c d n,as=>∃ x D o vf bs t u mA,v = .ref x/\as=x::D::bs/\h.get? x=rg o/\o.cls = .ref SF.rule/\(∀ c,o.data≠.cls c)/\o.dict=rg D/\D≠x/\h.Ns1 D mA/\mA "count" = rg (.int c t)/\mA "full" = rg vf/\mA "size" = rg (.int n u)/\(∀ m∈methNames,mA (mL m)=OC)/\R h vf d bs/\sz d=Gt
 | .err c,as=>∃ x o,v = .ref x/\as=[x]/\h.get? x=rg o/\o.cls = .ref (SF.exc c)/\c∈SF.excN
inductive RVs (h:PE):vk V->vk N8->vk O1->Prop
 | nil:RVs h [] [] []
 | cons {x:V}{xs:vk V}{v:N8}{vs:vk N8}{as bs:vk O1}:RV h v x as->RVs h xs vs bs->RVs h (x::xs) (v::vs) (as++bs)
end
inductive VarIs (h:PE) (env:Env) (x:Str) (v:N8):Prop
 | loc (m:Str->OE N8):env.kindOf x=rg .local->h.Ns env.locals m->m x=rg v->VarIs h env x v
 | cell (c:O1):env.kindOf x=rg .cell\/env.kindOf x=rg .free->env.cells.lookup x=rg c->h.IsCell c (rg v)->VarIs h env x v
structure EnvOk (env:Env):Prop where
 kind:env.scope.kind = .function
 glob:env.globals=Qt
 blt:env.builtins=Tl
 cells:∀ n,env.kindOf n=rg .cell\/env.kindOf n=rg .free->∃ c,env.cells.lookup n=rg c
section
theorem LH (x:Sx (RD prog w) h ks a) (k:KG G h h'):Sx (RD prog w) h' ks a :=
 aV (x) λo j n l i g=>(cU o j n (k.stay l (.inr (aB i (bG _ _ g.1)))) i g)
theorem iC (x:o.ExactDict):hardB o=true:=by unfold hardB; rw[x.1]; decide
theorem pL (x:h.DictOf (RD prog w) a kvs) (k:KG G h h') (g:G a):h'.DictOf (RD prog w) a kvs :=
 bl (x) λo i j l r=>(cf o i j (k.hard (.inl g) l (iC r.1)) r)
theorem mR (x:h.DictOfH (Xo (RD prog w)) a xs) (k:KG G h h') (g:G a):h'.DictOfH (Xo (RD prog w)) a xs :=
 cH (x) λo l m t i r q p n=>(fI o l m (k.hard (.inl g) t (iC i)) i r q (λy j=>LH (p y j) k) n)
theorem RV.onG (r:RV h v x as) (k:KG G h h') (g:∀ a∈as,G a):RV h' v x as:=by
 cases x with
 | d x=>exact ⟨r.1.onG k g,r.2⟩
 | dic0=>obtain ⟨a,l,rfl,j,i,p⟩:=r; exact (iU a l rfl j (pL i k (g a (.head _))) (mR p k (g a (.head _))))
 | dicI ks=>obtain ⟨a,l,rfl,j,i⟩:=r; exact (bp a l rfl j (pL i k (g a (.head _))))
 | dicT ks=>obtain ⟨a,xs,l,rfl,j,i,p,h6,h7⟩:=r; exact (gT a xs l rfl j (mR i k (g a (.head _))) p h6 (λx hx=>(h7 x hx).onG k λuu h=>nomatch h))
 | rule c d n=>
  refine jH (r) λx D o vf bs t u mA l y j i p h6 h7 m h9 h10 h11 h12 h13 h14=>?_
  clear r
  subst y
  refine bl (m) λoD es ep e hd=>?_
  clear m
  obtain ⟨z,eD,q,_⟩:=k.dataG (.inl (g D (.tail _ (.head _)))) e λfs q=>by rw[hd.1] at q; cases q
  exact (jA x D o vf bs t u mA l rfl (k.hard (.inl (g x (.head _))) j (by unfold hardB; rw[i])) i p h6 h7 (cU z es ep eD (q.trans hd.1) hd.2) h9 h10 h11 h12 (h13.onG k λa ha=>g a (.tail _ (.tail _ ha))) h14)
 | err c=>obtain ⟨x,o,l,rfl,j,i,p⟩:=r; exact (bC x o l rfl (k.hard (.inl (g x (.head _))) j (by unfold hardB; rw[i])) i p)
theorem RV.k (r:RV h v x as) (k:K h h'):RV h' v x as:=r.onG k λuu uu=>trivial
theorem VarIs.k (r:VarIs h env x v) (k:K h h'):VarIs h' env x v:=by
 cases r with
 | loc m a b c=>exact .loc m a (eZ b k) c
 | cell c a b d=>exact .cell c a b (ij d k)
theorem RV.keep (r:RV h v x as) (k:∀ b o,h.get? b=rg o->h'.get? b=rg o):RV h' v x as:=r.k (.of k)
noncomputable def Kp (s s':OA):Prop:=∃ h' tk,s' = {s with heap:=h',toks:=tk }/\K s.heap h'
theorem Kp.refl (s:OA):Kp s s:=(ay s.heap s.toks rfl KG.refl)
theorem Kp.trans (a:Kp s s₁) (b:Kp s₁ n):Kp s n:=by
 refine av (a) λh t i k=>?_
 clear a
 subst i
 refine av (b) λm j g l=>?_
 clear b
 subst g
 exact (ay m j rfl (KG.trans k l))
theorem Kp.k (a:Kp s s₁):K s.heap s₁.heap:=by
 obtain ⟨h,t,rfl,k⟩:=a; exact k
theorem Kp.of (k:∀ b o,s.heap.get? b=rg o->h'.get? b=rg o):Kp s {s with heap:=h',toks:=tk }:=(ay h' tk rfl (.of k))
theorem Kp.toks (s:OA) (t:ON):Kp s {s with toks:=t }:=.of (s:=s) λuu uu e=>e
theorem Kp.push (s:OA) (o:Obj) (t:ON):Kp s {s with heap:=s.heap.push o,toks:=t }:=.of λuu uu e=>OO _ e
theorem Kp.none (a:Kp s s₁) (e:s₁.heap.get? b=OC):s.heap.get? b=none:=by
 cases q:s.heap.get? b with
 | none=>rfl
 | some o=>obtain ⟨h,g⟩:=a.k.there q; rw[g] at e; exact nM e
structure Cx (fns:Fns) (k:ON) (A:Pq) (P:O1->Prop) (h:PE) (env:Env) (σ:St):Prop where
 room:Room fns.hand k A
 eok:EnvOk env
 ge:GE fns h
 code:fns.lam=Gt->∃ q,CodeOk h env.code q
 frm:fns.hand=Oz->∃ l,A.frames=rg l/\FrOk h l
 vars:∀ x p,σ x=rg p->varK env.scope.names x=Gt->∃ v as,VarIs h env (mL x) v/\RV h v p.1 as/\∀ a∈as,P a
inductive EP (P:O1->Prop) (s:OA) (r:V×Mode) (v:N8) (s':OA):Prop
 | mk (kp:Kp s s') (as:vk O1) (rv:RV s'.heap v r.1 as) (own:∀ a∈as,P a\/s.heap.get? a=OC) (top:r.2 = .top->∃ a bs,as=a::bs/\s.heap.get? a=OC/\a∉bs) (deep:r.2 = .deep->(∀ a∈as,s.heap.get? a=OC)/\as.Nodup):EP P s r v s'
inductive EPs (P:O1->Prop) (s:OA) (l:vk (V×Mode)) (vs:vk N8) (s':OA):Prop
 | mk (kp:Kp s s') (as:vk O1) (rv:RVs s'.heap (l.map (·.1)) vs as) (own:∀ a∈as,P a\/s.heap.get? a=OC) (deep:allDeep l=Gt->(∀ a∈as,s.heap.get? a=OC)/\as.Nodup):EPs P s l vs s'
theorem EP.keeps (e:EP P s r v s'):Kp s s':=by cases e; assumption
theorem EPs.keeps (e:EPs P s l vs s'):Kp s s':=by cases e; assumption
theorem Cx.k {fns:Fns}{k:ON}{A:Pq}{P:O1->Prop}{h h':PE}{env:Env}{σ:St}(X:Cx fns k A P h env σ) (kp:K h h'):Cx fns k A P h' env σ where
 room:=X.room
 eok:=X.eok
 ge:=X.ge.k kp
 code:=λhk=>aj (X.code hk) λq c=>⟨q,c.k kp⟩
 frm:=λq=>af (X.frm q) λl a b=>(ag l a (b.k kp))
 vars:=λx p i g=>aw (X.vars x p i g) λv as a b c=>(aP v as (a.k kp) (b.k kp) c)
theorem EP.scalar (k:Kp s s') (r:R s'.heap v x []) (z:sz x=Gt) (hm:m≠.top):EP P s (.d x,m) v s' :=
 ⟨k,[],⟨r,z⟩,λuu h=>(nomatch h),λh=>OW h hm,λuu=>⟨λuu h=>(nomatch h),.nil⟩⟩
theorem EP.int (k:Kp s s'):EP P s (sI i) (.int i t) s':=.scalar k (.int i t) rfl (by simp)
theorem EP.bool (k:Kp s s'):EP P s (sB b) (.bool b) s':=.scalar k (.bool b) rfl (by simp)
theorem EP.after (k:Kp s s₁) (e:EP P s₁ r v s'):EP P s r v s':=by
 obtain ⟨i,as,a,b,c,d⟩:=e
 exact ⟨k.trans i,as,a,λx h=>(b x h).imp id k.none,λg=>aw (c g) λa n m l j=>(aP a n m (k.none l) j),λg=>⟨λx h=>k.none ((d g).1 x h),(d g).2⟩⟩
end
set_option maxRecDepth 100000
open PySem PyProof.Rows
section
variable {prog:Tz}{w:World}{A:Pq}{E:N8->OA->Prop}{h:PE}{g:OP VV}{d:Zz}{t:ON}{os:WS}{a:O1}{o:Obj}
 {nm q:Str}{C N:O1}{bs bm:vk N8}{hdct:Pr}{sn:vk Str}{sub:vk N8}{ab:Pr}{col:OE Pr}{dd:OE O1}{k0 k1 k2 k3 k5:OE N8}{newId:Ot}
noncomputable def Quiet (h:PE) (C:O1):Prop:=∀ ⦃M:UO⦄ ⦃A:Pq⦄ ⦃E:N8->OA->Prop⦄ ⦃g:OP VV⦄ ⦃d:Zz⦄ ⦃t:ON⦄ ⦃os:WS⦄ ⦃n:Str⦄ ⦃y:OE N8⦄ ⦃Q:OE N8->OA->Prop⦄,n∈qn->R8 (.type "ValueError") n=PU y->Q y ⟨h,g,d,t,os⟩->OQ M A (R8 (.ref C) n) Q E ⟨h,g,d,t,os⟩
theorem Quiet.lk (hL:Quiet h C) (hn:n∈qn) (hy:R8 (.type "ValueError") n=PU y) (hq:Q y ⟨h,g,d,t,os⟩):OQ M A (R8 (.ref C) n) Q E ⟨h,g,d,t,os⟩:=hL hn hy hq
theorem qG:R8 (.type "ValueError") "__class__" = PU (rg (.builtin "object.__class__")):=by rw[Tf,Rv]; kernel_rfl
theorem ol {R:Xp->OA->Prop}(hC:h.get? C=rg (Qy nm q C N bs bm hdct sn sub ab col dd k0 k1 k2 k3 k5 newId)) (hO:(Py C::bm).contains (.type "object")=Gt)
  (hx:h.get? a=rg o) (hc:o.cls = .ref C) (hq:R (.ok (.ret (.ref C))) ⟨h,g,d,t,os⟩) :
  Us (OT prog w) A (.call (.builtin "getset_descriptor.__get__") ⟨[.builtin "object.__class__", .ref a,.ref C],[]⟩) R ⟨h,g,d,t,os⟩:=by
 have j:(⟨h,g,d,t,os⟩:OA).TypeIs (.builtin "object.__class__") "getset_descriptor" := TO
 have i:(Py C::bm).contains (.type (".".intercalate ("object.__class__".cutAt '.').dropLast))=true:=by rw[F.owner_object_class]; exact hO
 refine VW Wm.plain F.entry_gs_get (Wm.check _ _ _ _ _ _ _ _ j (F.args_gs_get _ _ _) ?_)
 repeat (any_goals (first | assumption | (with_reducible refine PM hx ?_; rw[hc]) | (with_reducible refine Rb hC ?_; rw[i]) | wp_step))
 refine ⟨Ws _ (by decide +kernel),VD F.entry_object_class ?_⟩
 repeat (any_goals (first | assumption | (with_reducible refine PM hx ?_; rw[hc]) | wp_step))
theorem lO (hC:h.get? C=rg (Qy nm q C N bs bm hdct sn sub ab col dd k0 k1 k2 k3 k5 newId)) (hO:(Py C::bm).contains (.type "object")=Gt) (hL:Quiet h C)
  (hx:h.get? a=rg o) (hc:o.cls = .ref C) (hq:Q (.done (.ret (.ref C))) ⟨h,g,d,t,os⟩) :
  OQ (OT prog w) A (Ut.«object.__getattribute__» ⟨[.ref a,.str "__class__" tk],[]⟩) Q E ⟨h,g,d,t,os⟩:=by
 have j:(⟨h,g,d,t,os⟩:OA).TypeIs (.builtin "object.__class__") "getset_descriptor" := TO
 have m:=TO
 have l:=Wm.lookup
 have k:=F.slot_gs_set.lookup
 have i:("__class__" : Str)∈qn:=.tail _ (.tail _ (.head _))
 repeat (any_goals (first | assumption | (with_reducible refine PM hx ?_; rw[hc]) | with_reducible refine Quiet.lk hL i qG ?_ | wp_step))
 refine ol hC hO hx hc ?_
 repeat (any_goals (first | assumption | wp_step))
theorem qA (hC:h.get? C=rg (Qy nm q C N bs bm hdct sn sub ab col dd k0 k1 k2 k3 k5 newId)) (hcB:(Py C::bm).contains (.type "BaseException")=Gt)
  (hx:h.get? a=rg o) (hc:o.cls = .ref C) (hq:Q () ⟨h,g,d,t,os⟩):OQ M A (Xq "BaseException.__getattribute__" ⟨[.ref a,nameV],[]⟩) Q E ⟨h,g,d,t,os⟩:=by
 have hk:builtinKind "BaseException.__getattribute__" = rg .slot:=by decide +kernel
 have i:splitId "BaseException.__getattribute__" = rg ("BaseException", "__getattribute__"):=by decide +kernel
 have j:=F.args_bexc_ga (.ref a) nameV
 simp only[Xq,hk,i]
 refine If ?_
 ·unfold isInstance
  repeat (first | (with_reducible refine PM hx ?_; rw[hc]) | (with_reducible refine Rb hC ?_; rw[hcB]) | wp_step)
  exact hq
theorem qr (hC:h.get? C=rg (Qy nm q C N bs bm hdct sn sub ab col dd k0 k1 k2 k3 k5 newId)) (hO:(Py C::bm).contains (.type "object")=Gt) (hcB:(Py C::bm).contains (.type "BaseException")=Gt) (hL:Quiet h C)
  (hx:h.get? a=rg o) (hc:o.cls = .ref C) (hq:Q (.ref C) ⟨h,g,d,t,os⟩):OQ (OT prog w) A (getAttrBy (.ref a) (.str "__class__" tk) Oz) Q E ⟨h,g,d,t,os⟩:=by
 have FB:=VL
 have m:=FB.ga.bind (.ref a)
 have i:(UY "BaseException.__getattribute__" == UY "object.__getattribute__")=false:=by decide +kernel
 have l:(onTheHeap (Py C)&&UY "BaseException.__getattribute__" == UY "object.__getattribute__")=false:=by rw[i]; rfl
 have k:("__getattribute__" : Str)∈qn:=.head _
 have j:("__getattr__" : Str)∈qn:=.tail _ (.head _)
 repeat (any_goals (first | assumption | (with_reducible refine PM hx ?_; rw[hc]) | with_reducible refine Quiet.lk hL k FB.ga.lookup ?_ | with_reducible refine Quiet.lk hL j FB.noGetattr ?_ | wp_step))
 refine VW FB.ga.plain F.entry_bexc_ga (qA hC hcB hx hc (lO hC hO hL hx hc ?_))
 repeat (any_goals (first | assumption | wp_step))
theorem mt (hC:h.get? C=rg (Qy nm q C N bs bm hdct sn sub ab col dd k0 k1 k2 k3 k5 newId)) (hO:(Py C::bm).contains (.type "object")=Gt) (hcB:(Py C::bm).contains (.type "BaseException")=Gt) (hL:Quiet h C)
  (hx:h.get? a=rg o) (hc:o.cls = .ref C) (hq:Q (rg (.ref C)) ⟨h,g,d,t+1,os⟩):OQ (OT prog w) A (getAttr? (.ref a) "__class__") Q E ⟨h,g,d,t,os⟩:=by
 unfold getAttr? getAttrBy?
 repeat (any_goals (first | assumption | with_reducible apply qr hC hO hcB hL hx hc | wp_step))
theorem mF
  (hC:h.get? C=rg (Qy nm q C N bs bm hdct sn sub ab col dd k0 k1 k2 k3 k5 newId)) (hO:(Py C::bm).contains (.type "object")=Gt) (hcB:(Py C::bm).contains (.type "BaseException")=Gt) (hL:Quiet h C)
  (hD:h.get? D=rg (Qy nm' q' D N' bs' bm' hdct' sn' sub' ab' col' dd' j0 j1 j2 j3 j5 newId')) (hx:h.get? a=rg o) (hc:o.cls = .ref C) (hq:∀ t',Q (.done (.ret (.bool ((Py C::bm).contains (.ref D))))) ⟨h,g,d,t',os⟩) :
  OQ (OT prog w) A (Ut.«isinstance.nested» ⟨[.ref a,.ref D,.int dep tk],[]⟩) Q E ⟨h,g,d,t,os⟩:=by
 have i:=hq t
 have j:=hq (t+1)
 by_cases he:C=D
 ·subst he
  rw[show (Py C::bm).contains (.ref C)=Gt by simp] at i
  repeat (any_goals (first | assumption | (with_reducible refine PM hx ?_; rw[hc]) | wp_step))
 ·have k:(Py C==Py D)=false:=by simpa using he
  cases hb:(Py C::bm).contains (.ref D) with
  | true=>
   rw[hb] at i
   repeat (any_goals (first | assumption | (with_reducible refine PM hx ?_; rw[hc]) | with_reducible refine PM hD ?_ | (with_reducible refine Rb hC ?_; rw[hb]) | wp_step))
  | false=>
   rw[hb] at j
   repeat (any_goals (first | assumption | (with_reducible refine PM hx ?_; rw[hc]) | with_reducible refine PM hD ?_ | with_reducible refine PM hC ?_ | (with_reducible refine Rb hC ?_; rw[hb]) | with_reducible apply mt hC hO hcB hL hx hc | wp_step))
theorem Bp
  (hC:h.get? C=rg (Qy nm q C N bs bm hdct sn sub ab col dd k0 k1 k2 k3 k5 newId)) (hO:(Py C::bm).contains (.type "object")=Gt) (hcB:(Py C::bm).contains (.type "BaseException")=Gt) (hL:Quiet h C)
  (hD:h.get? D=rg (Qy nm' q' D N' bs' bm' hdct' sn' sub' ab' col' dd' j0 j1 j2 j3 j5 newId')) (hx:h.get? a=rg o) (hc:o.cls = .ref C) (hq:∀ t',Q (.bool ((Py C::bm).contains (.ref D))) ⟨h,g,d,t',os⟩) :
  OQ (OT prog w) A (R3 (.builtin "isinstance") [.ref a,.ref D]) Q E ⟨h,g,d,t,os⟩:=by
 refine call_isinstance (S:=λA R s=>s.heap=h/\∀ t',R (.ok (.ret (.bool ((Py C::bm).contains (.ref D))))) {s with toks:=t' }) (λprog w A R s hs=>?_) ⟨rfl,hq⟩
 obtain ⟨h',g,d,t,os⟩:=s
 obtain ⟨e,hR⟩:=hs
 cases e
 exact isinstance_outer (mF hC hO hcB hL hD hx hc hR) (by intro e; cases e)
theorem rM:mroOf (.type "ValueError")=PU bmV:=VL.mro
theorem vo (hC:h.get? C=rg (Qy nm q C N bs bmV hdct sn sub ab col dd k0 k1 k2 k3 k5 newId)) (hN:h.Ns N mN) (hm:∀ n∈qn,mN n=OC):Quiet h C:=by
 intro M A E g d t m n y Q l j k
 have i:VX bmV n=PU y:=by rw[UZ,rM] at j; exact j
 rw[UZ]
 refine If (XS hC ?_)
 rw[U9]
 refine If (Wt hC hN ?_)
 rw[hm n l]
 rw[i]
 exact OL k
theorem uB {sl:OP (OE N8)}(hC:h.get? C=rg (Qy nm q C N bs (.ref D::bmV) hdct sn sub ab col dd k0 k1 k2 k3 k5 newId)) (hN:h.Ns N mN) (hm:∀ n∈qn,mN n=OC)
  (hD:h.get? D=rg {cls:=c0,dict:=dd',data:=.cls cd,slots:=sl }) (hDN:h.Ns cd.ns mD) (hmD:∀ n∈qn,mD n=OC):Quiet h C:=by
 intro M A E g d t m n y Q j k l
 have i:VX bmV n=PU y:=by rw[UZ,rM] at k; exact k
 rw[UZ]
 refine If (XS hC ?_)
 rw[U9]
 refine If (Wt hC hN ?_)
 rw[hm n j]
 show OQ M A (VX (.ref D::bmV) n) Q E _
 rw[U9]
 refine If (wpAny_classOwn_cls hD hDN ?_)
 rw[hmD n j]
 show OQ M A (VX bmV n) Q E _
 rw[i]
 exact OL l
end
section
variable (fns:Fns) (k:ON) (C:Calls) (XP:Ot->OA->N8->OA->Prop)
noncomputable def SimE (e:E):Prop:=∀ {ex:Expr}{A:Pq}{env:Env}{σ:St}{P:O1->Prop}{s:OA}{Q:N8->OA->Prop}{Er:N8->OA->Prop},
 okE env.scope.names e ex=Gt->Cx fns k A P s.heap env σ->ev C e σ≠.bad ->
 (∀ r,ev C e σ = .ok r->∀ v s',EP P s r v s'->Q v s')->(∀ c,ev C e σ = .exc c->∀ x s',XP c s x s'->Er x s') ->
 OQ (OT prog w) A (SW ex env) Q Er s
noncomputable def SimT (e:E):Prop:=∀ {ex:Expr}{A:Pq}{env:Env}{σ:St}{P:O1->Prop}{s:OA}{Q:Pr->OA->Prop}{Er:N8->OA->Prop},
 okE env.scope.names e ex=Gt->Cx fns k A P s.heap env σ->((ev C e σ).bind λr=>au r.1)≠.bad ->
 (∀ b,((ev C e σ).bind λr=>au r.1) = .ok b->∀ s',Kp s s'->Q b s')->(∀ c,ev C e σ = .exc c->∀ x s',XP c s x s'->Er x s') ->
 OQ (OT prog w) A (isTrue ex env (SW ex env)) Q Er s
end
theorem bf {α β:Type}{o:Out α}{f:α->Out β}(h:o.bind f≠.bad):o≠.bad/\∀ a,o = .ok a->f a≠.bad:=by
 cases o with
 | ok a=>exact ⟨λe=>(by cases e),λuu e=>by (have g:=Out.ok.inj e; clear e; subst g); exact h⟩
 | exc c=>exact ⟨λe=>(by cases e),λuu e=>by cases e⟩
 | bad=>exact OW rfl h
theorem aN {α β:Type}{o:Out α}{f:α->Out β}{G:Prop}(h:o.bind f≠.bad) (k:o≠.bad->(∀ a,o = .ok a->f a≠.bad)->G):G:=ae (bf h) k
theorem j6 {α:Type}{o:Out α}{b:α}(h:o.calm = .ok b):o = .ok b:=by
 cases o with
 | ok a=>exact h
 | exc c=>exact nB h
 | bad=>exact nB h
theorem cb {α β:Type}{o:Out α}{f:α->Out β}{c:Ot}(h:o.bind f = .exc c):o = .exc c\/∃ a,o = .ok a/\f a = .exc c:=by
 cases o with
 | ok a=>exact .inr (ag a rfl h)
 | exc c=>cases h; exact .inl rfl
 | bad=>cases h
section
theorem LK (hXP:∀ c s s₁ x s',Kp s s₁->XP c s₁ x s'->XP c s x s') {a b:E}(Sa:SimE fns k C XP a) (Sb:SimE fns k C XP b)
  {ea eb:Expr}{A:Pq}{env:Env}{σ:St}{P:O1->Prop}{s:OA}{G:N8->N8->OA->Prop}{Er:N8->OA->Prop}
  (oa:okE env.scope.names a ea=Gt) (ob:okE env.scope.names b eb=Gt) (X:Cx fns k A P s.heap env σ)
  (na:ev C a σ≠.bad) (nb:∀ x,ev C a σ = .ok x->ev C b σ≠.bad)
  (hE:∀ c,(ev C a σ = .exc c\/∃ x,ev C a σ = .ok x/\ev C b σ = .exc c)->∀ x s',XP c s x s'->Er x s')
  (hG:∀ x y,ev C a σ = .ok x->ev C b σ = .ok y->∀ va vb s₁ l,EP P s x va s₁->EP P s₁ y vb l->G va vb l) :
  OQ (OT prog w) A (SW ea env) (λva s₁=>OQ (OT prog w) A (SW eb env) (λvb l=>G va vb l) Er s₁) Er s :=
 Sa oa X na (λx g va s₁ Ea=>Sb ob (X.k Ea.keeps.k) (nb x g) (λy j vb l Eb=>hG x y g j va vb s₁ l Ea Eb)
  λc h z s' i=>hE c (.inr (ag x g h)) z s' (hXP c s s₁ z s' Ea.keeps i)) λc h=>hE c (.inl h)
theorem qs {env:Env}{x:Ot}(h:varK env.scope.names x=Gt):env.kindOf (mL x)=rg .local\/env.kindOf (mL x)=rg .cell\/env.kindOf (mL x)=rg .free:=by
 unfold varK at h
 unfold Vq
 replace h:=(QT.mp h).2
 split at h<;>first | (rename_i e; exact .inl e) | (rename_i e; exact .inr (.inl e)) | (rename_i e; exact .inr (.inr e)) | exact nF h
theorem cY (hk:env.scope.kind = .function) (hd:aT x=Gt)
  (hv:VarIs s.heap env (mL x) v) (h:Q v s):OQ (OT prog w) A (SW (.Name (mL x) pos) env) Q Er s:=by
 unfold aT at hd
 simp only[OJ,PL] at hd
 cases hv with
 | loc m a b c=>exact Yc (wpAny_loadName_local hk a b c h) hd.1
 | cell c a b d=>
  rcases a with a | a
  ·exact Yc (wpAny_loadName_cell hk a b d h) hd.1
  ·exact Yc (wpAny_loadName_free hk a b d h hd.2) hd.1
theorem tN (r:RV s.heap v x as) (h:∀ a∈as,P a):EP P s (mk x) v s:=by
 refine ⟨.refl s,as,r,λa j=>.inl (h a j),λg=>?_,λg=>?_⟩
 ·unfold mk at g; dsimp only at g; split at g<;>cases g
 ·cases x with
  | d x=>
   unfold mk at g; dsimp only at g
   split at g
   ·rename_i i
    have:as=[]:=r.1.sx_nil i
    (clear h r; subst this)
    exact ⟨λuu h=>(nomatch h),.nil⟩
   ·cases g
  | _=>simp[mk,mq] at g
theorem kG {ex:Expr}(h:okE ns (.name x) ex=Gt):∃ p,ex = .Name (mL x) p/\varK ns x=Gt/\aT x=true:=by
 replace h:=v7 h
 revert h; refine λg=>Pc g (λi=>?_) (λh=>?_)
 ·clear g
  refine av (i) λm l j h=>?_
  clear i
  subst j
  simp only[OJ,OZ] at h
  refine ae (h) λk o=>?_
  clear h
  refine ae (k) λn q=>?_
  clear k
  subst n
  exact (aD _ rfl q o)
 ·cases h
theorem dg (x:Ot):SimE fns k C XP (.name x):=by
 intro ex A u i P s Q Er h X j n y
 refine aq (kG h) λp g l m=>?_
 (clear h; subst g)
 cases hσ:i x with
 | none=>exact OW (by simp[ce,hσ]) j
 | some q=>
  refine aw (X.vars x q hσ l) λv as t r o=>?_
  exact cY X.eok.kind m t (n (mk q.1) (by simp[ce,hσ]) v s (tN r o))
theorem rE (i:OF):SimE fns k C XP (.int i):=by
 intro ex A q r P s Q Er j X t p u
 replace j:=D9 j
 revert j; refine λg=>Pc g (λh=>?_) (λj=>?_)
 ·clear g
  refine bl (h) λo n m l j=>?_
  clear h
  subst l
  simp only[OZ] at j
  subst j
  exact Wu (p (sI i) rfl _ _ (.int (.toks s _)))
 ·cases j
theorem Bv (x:Ot):SimE fns k C XP (.str x):=by
 intro ex A r t P s Q Er g X u q v
 replace g:=Ij g
 revert g; refine λh=>Pc h (λi=>?_) (λg=>?_)
 ·clear h
  refine bl (i) λn m l j g=>?_
  clear i
  subst j
  simp only[OJ,OZ,Pk] at g
  refine ae (g) λo p=>?_
  clear g
  subst o
  exact Wv (q (.d (.str (mL x)),.deep) rfl _ _ (.scalar (.toks s _) (.str _ _) (by simpa [sz] using p) (by simp)))
 ·cases g
theorem xL (b:Pr):SimE fns k C XP (.bool b):=by
 intro ex A p q P s Q Er i X r o t
 replace i:=CX i
 revert i; refine λg=>Pc g (λh=>?_) (λi=>?_)
 ·clear g
  refine bl (h) λn m l j i=>?_
  clear h
  subst j
  simp only[OZ] at i
  subst i
  exact Wc (o (sB b) rfl _ _ (.bool (.refl s)))
 ·cases i
theorem xG:SimE fns k C XP .none:=by
 intro ex A o p P s Q Er j X q n r
 replace j:=C1 j
 revert j; refine λg=>Pc g (λh=>?_) (λj=>?_)
 ·clear g
  refine av (h) λm l i j=>?_
  clear h
  subst i
  exact wpAny_Constant_none (n (.d .none,.deep) rfl _ _ (.scalar (.refl s) .none rfl (by simp)))
 ·cases j
theorem bj (h:PE):h.get? h.objs.size=none:=Qa (Pe _)
theorem eK {h:PE}{a:O1}{o:Obj}(e:h.get? a=rg o):a≠h.objs.size:=P8 (Rh e)
theorem EP.newList (r:RA s.heap vs xs as) (hl:xs.length<=2^22) (hz:∀ x∈xs,sz x=Gt) (ha:∀ a∈as,P a) :
  EP P s (.d (.list xs),fresh xs) (.ref s.heap.objs.size) {s with heap:=s.heap.push {cls:=.type "list", data:=.seq vs.toArray },toks:=t }:=by
 refine ⟨.push s _ _,s.heap.objs.size::as,⟨.list (Pa _ rfl) (r.keep λuu uu e=>OO _ e),sz_list.mpr ⟨hl,hz⟩⟩,?_,?_,?_⟩
 ·intro a h
  rcases O9.mp h with rfl | h
  ·exact .inr (bj _)
  ·exact .inl (ha a h)
 ·intro _
  exact (aP _ _ rfl (bj _) (λh=>ba (r.there _ h) λuu uu e=>eK e rfl))
 ·intro i
  have g:xs.all sx=true:=by
   unfold fresh at i; dsimp only at i; split at i
   ·assumption
   ·cases i
  rw[r.sx_nil g]
  refine ⟨λa h=>?_,by simp⟩
  rcases O9.mp h with rfl | h
  ·exact bj _
  ·cases h
section
theorem xf (ra:R s.heap va (.list xs) as) (za:sz (.list xs)=Gt) (rb:R s.heap vb (.list ys) bs) (zb:sz (.list ys)=Gt) (ha:∀ a∈as,P a) (hb:∀ a∈bs,P a) (hl:xs.length+ys.length<=lim)
  (hQ:∀ v s',EP P s (.d (.list (xs++ys)),fresh (xs++ys)) v s'->Q v s'):OQ (OT prog w) A (WT .Add va vb) Q Er s:=by
 cases ra with
 | list ea ra=>
 cases rb with
 | list eb rb=>
 unfold lim at hl
 rw[sz_list] at za zb
 have j:=ra.length
 have i:=rb.length
 refine PySem.P.add_list ea eb ?_ ?_
 ·have:=EP.newList (P:=P) (t:=s.toks) (ra.append rb) (by rw[O3]; exact KE hl) (λz g=>(O7.mp g).elim (za.2 z) (zb.2 z)) λa h=>(O7.mp h).elim (λh=>ha a (.tail _ h)) λh=>hb a (.tail _ h)
  exact hQ _ _ (by simpa using this)
 ·rw[Pf,Pf,j,i]
  unfold Rc; exact Fz hl
theorem BE (h:a.natAbs<2^63\/b.natAbs<2^63) (hQ:∀ v s',EP P s (sI (a*b)) v s'->Q v s'):OQ (OT prog w) A (WT .Mult (.int a t) (.int b u)) Q Er s:=by
 refine mul_int (hQ _ _ (.int (.toks s _))) ?_
 rcases h with hl | hl
 ·exact IntMulOk.of_left (YD (by exact na1 ‹_›) (by exact na2 ‹_›))
 ·exact IntMulOk.of_right (YD (by exact na1 ‹_›) (by exact na2 ‹_›))
theorem yb (h:¬ (b=0\/1000000000<=b.natAbs)) (hQ:∀ v s',EP P s (sI (a.fdiv b)) v s'->Q v s'):OQ (OT prog w) A (WT .FloorDiv (.int a t) (.int b u)) Q Er s :=
 floordiv_int (λe=>h (.inl e)) (hQ _ _ (.int (.toks s _))) (.inl (Za (JW h)))
theorem Bn (h:0<=b/\b<=1000/\a.natAbs<2^63) (hQ:∀ v s',EP P s (sI (a^b.toNat)) v s'->Q v s'):OQ (OT prog w) A (WT .Pow (.int a t) (.int b u)) Q Er s :=
 pow_int_small h.1 (J8 h) (F1 h) (hQ _ _ (.int (.toks s _)))
theorem wu
  (ho:opB o op=Gt) (he:dC o x y = .ok r) (ra:R s.heap va x as) (za:sz x=Gt) (rb:R s.heap vb y bs) (zb:sz y=Gt) (ha:∀ a∈as,P a) (hb:∀ a∈bs,P a)
  (hQ:∀ v s',EP P s r v s'->Q v s'):OQ (OT prog w) A (WT op va vb) Q Er s:=by
 cases Pp ho
 cases o with
 | add=>
  replace he:o0 x y = .ok r:=he
  unfold o0 at he
  cases hx:asL x with
  | some xs=>
   rw[hx] at he
   replace he:=aS he
   revert he; intro n
   refine af (n) λys hy he=>?_
   clear n
   cases cK hx
   cases cK hy
   clear hx hy
   split at he<;>cases he
   exact xf ra za rb zb ha hb ‹_› hQ
  | none=>
   rw[hx] at he
   replace he:=e9 he
   revert he; intro m
   refine aw (m) λa b MQ MW he=>?_
   clear m
   (clear hx za; subst MQ)
   (clear zb; subst MW)
   (have oc:=Out.ok.inj he; clear he; subst oc); obtain ⟨_,rfl,rfl⟩:=ra.isInt; obtain ⟨_,rfl,rfl⟩:=rb.isInt
   exact add_int (hQ _ _ (.int (.toks s _)))
 | sub=>
  replace he:=e9 he
  revert he; intro l
  refine aw (l) λa b M0 MS he=>?_
  clear l
  (clear za; subst M0)
  (clear zb; subst MS)
  (have oc:=Out.ok.inj he; clear he; subst oc); obtain ⟨_,rfl,rfl⟩:=ra.isInt; obtain ⟨_,rfl,rfl⟩:=rb.isInt
  exact sub_int (hQ _ _ (.int (.toks s _)))
 | mul=>
  replace he:=e9 he
  revert he; intro k
  refine aw (k) λa b MP MT he=>?_
  clear k
  (clear za; subst MP)
  (clear zb; subst MT)
  split at he<;>cases he
  obtain ⟨_,rfl,rfl⟩:=ra.isInt; obtain ⟨_,rfl,rfl⟩:=rb.isInt
  exact BE ‹_› hQ
 | fdiv=>
  replace he:=e9 he
  revert he; intro j
  refine aw (j) λa b MX MY he=>?_
  clear j
  (clear za; subst MX)
  (clear zb; subst MY)
  split at he<;>cases he
  obtain ⟨_,rfl,rfl⟩:=ra.isInt; obtain ⟨_,rfl,rfl⟩:=rb.isInt
  exact yb ‹_› hQ
 | mod=>
  replace he:=e9 he
  revert he; intro i
  refine aw (i) λa b M1 z he=>?_
  clear i
  (clear za; subst M1)
  (clear zb; subst z)
  split at he<;>cases he
  obtain ⟨_,rfl,rfl⟩:=ra.isInt; obtain ⟨_,rfl,rfl⟩:=rb.isInt
  exact mod_int' ‹_› (hQ _ _ (.int (.toks s _)))
 | pow=>
  replace he:=e9 he
  revert he; intro h
  refine aw (h) λa b u t he=>?_
  clear h
  (clear za; subst u)
  (clear zb; subst t)
  split at he<;>cases he
  obtain ⟨_,rfl,rfl⟩:=ra.isInt; obtain ⟨_,rfl,rfl⟩:=rb.isInt
  exact Bn ‹_› hQ
 | xor=>
  replace he:=e9 he
  revert he; intro g
  refine aw (g) λa b q p he=>?_
  clear g
  (clear za; subst q)
  (clear zb; subst p)
  (have oc:=Out.ok.inj he; clear he; subst oc); obtain ⟨_,rfl,rfl⟩:=ra.isInt; obtain ⟨_,rfl,rfl⟩:=rb.isInt
  exact xor_int (hQ _ _ (.int (.toks s _)))
end
end
section
theorem Room.units (h:Room hb k A):A.units+200<cLine:=by
 revert h; intro g
 refine aH (g) λuu uu h=>?_
 clear g
 cases hb with
 | true=>rw[OD rfl] at h; exact DX h
 | false=>rw[OB (by decide)] at h; exact FV h
theorem Room.at (h:Room hb k A) (hf:hb=Oz):A.depth+2*k+4<Q5/\A.units+100*k+300<cLine:=by
 subst hf; exact h.2
theorem jW:okc d=Gt↔d.canLay0=Gt/\d.depth<=64:=by simp[okc]
theorem ov (h:Q8 vs ns):ItemsAre (RD prog w) ns vs:=by
 induction h with
 | nil=>exact .nil
 | cons n t _ ih=>exact .cons (Vr prog w n t) ih
theorem fc (r:R h v x as) (e:eu x=rg ks):∃ a,v = .ref a/\Sx (RD prog w) h ks a:=by
 cases r with
 | tuple ea ra=>
  refine aH (ra.ints e) λg _ _=>?_
  exact (ag _ rfl (gK _ _ _ ea rfl rfl (by simpa using ov g)))
 | _=>exact nN e
theorem rU (r:R h v x as) (e:eu x=rg ks):R h v (aO ks) []:=by
 cases r with
 | tuple ea ra=>
  refine aH (ra.ints e) λuu i g=>?_
  subst i
  (clear e; subst g)
  exact .tuple ea ra
 | _=>exact nN e
theorem jD {K:Type} [DecidableEq K] (xs:vk (K×O1×N8)) (k:K):(atKey xs k).isSome=decide (k∈xs.map (·.1)):=by
 unfold atKey
 rw[WU]
 induction xs with
 | nil=>rfl
 | cons x xs ih=>
  by_cases hk:x.1=k
  ·simp[hk]
  ·rw[XT,show decide (x.1=k)=Oz from P0 hk]
   dsimp only
   rw[ih,Qo]
   simp[O9,P6 hk]
theorem ml (ks:vk OF) (k:OF):(valueAt (ks.map λk=>(k,Z3 Gt)) k).isSome=decide (k∈ks):=by
 unfold valueAt
 rw[WU]
 induction ks with
 | nil=>rfl
 | cons x xs ih=>
  by_cases hk:x=k
  ·simp[hk]
  ·rw[Qo,XT]
   simp only[hk,decide_false,O9,P6 hk,false_or]
   exact ih
theorem A6 (hu:A.units+200<UB) (he:inV x c = .ok b) (ra:R s.heap va x as) (rb:RV s.heap vb c bs)
  (hQ:∀ s',Kp s s'->Q (.bool b) s'):OQ (OT prog w) A (compareOp .In va vb) Q Er s:=by
 cases c with
 | d y=>
  replace he:=aS he
  revert he; intro l
  refine af (l) λxs hy he=>?_
  clear l
  cases cK hy
  split at he<;>cases he
  rename_i j
  simp only[OJ,jW] at j
  refine aH (j) λm b1 b2=>?_
  clear j
  refine ae (m) λa1 a2=>?_
  clear m
  simp only[VY,Vs] at b1 b2
  exact SeqAt.in_list_reads rb.1.reads ra.reads b1 a1 (by have:=Qi (Tg ‹_›) x.depth; exact zc hu b2) (hQ s (.refl s))
 | dicI ks=>
  replace he:=aS he
  revert he; intro k
  refine af (k) λi r he=>?_
  clear k
  (have oc:=Out.ok.inj he; clear he; subst oc)
  refine bD (rb) λa MV _ h t=>?_
  clear rb
  subst MV
  cases cE r
  refine ra.isInt_k λuu MQ MW=>?_
  (clear ra; subst MQ)
  subst MW
  refine ZA (Vr prog w _ _) h t.mapOf ?_
  rw[ml]
  exact hQ _ (.toks s _)
 | dicT ks=>
  replace he:=aS he
  revert he; intro g
  refine af (g) λi r he=>?_
  clear g
  (have oc:=Out.ok.inj he; clear he; subst oc)
  refine yS (rb) λa xs z _ h t v _=>?_
  clear rb
  subst z
  subst v
  refine af (fc ra r) λa' u hk=>?_
  (clear ra; subst u)
  refine YE (Tm (zo hu)) hk h t ?_
  rw[jD]
  exact Eq.mp (RM (λb=>Q (.bool b) _) (SN.mpr Iff.rfl)) (hQ _ (.toks s _))
 | dic0=>
  replace he:(if (cL x).isSome||(eu x).isSome then Out.ok Oz else .bad) = .ok b:=he
  split at he<;>cases he
  rename_i j
  refine jZ (rb) λa q _ h t hd'=>?_
  clear rb
  subst q
  cases h2:cL x with
  | some i=>
   cases cE h2
   refine ra.isInt_k λuu p o=>?_
   (clear ra; subst p)
   subst o
   exact ZA (Vr prog w _ _) h t.mapOf (hQ _ (.toks s _))
  | none=>
   rw[h2] at j
   refine bP (by simpa using j) λi r=>?_
   refine af (fc ra r) λa' n hk=>?_
   (clear ra; subst n)
   exact YE (Tm (zo hu)) hk h hd' (hQ _ (.toks s _))
 | rule _ _ _=>exact nB he
 | err _=>exact nB he
theorem o7 (hu:A.units+200<UB) (ho:opC o op=Gt) (he:cA o x y = .ok b) (ra:RV s.heap va x as) (rb:RV s.heap vb y bs)
  (hQ:∀ s',Kp s s'->Q (.bool b) s'):OQ (OT prog w) A (compareOp op va vb) Q Er s:=by
 cases Pp ho
 cases o with
 | eq=>
  replace he:=iN he
  revert he; intro z
  refine aw (z) λx y M2 M3 he=>?_
  clear z
  subst M2
  subst M3
  split at he<;>cases he
  rename_i g
  simp only[OJ,jW] at g
  refine aH (g) λM5 b1 b2=>?_
  clear g
  refine ae (M5) λa1 a2=>?_
  clear M5
  exact SeqAt.compareEq_reads ra.1.reads rb.1.reads a1 b1 (by have:=Qi x.depth y.depth; exact yV hu a2) (hQ s (.refl s))
 | ne=>
  replace he:=iN he
  revert he; intro v
  refine aw (v) λx y M6 M8 he=>?_
  clear v
  subst M6
  subst M8
  split at he<;>cases he
  rename_i g
  simp only[OJ,jW] at g
  refine aH (g) λM9 b1 b2=>?_
  clear g
  refine ae (M9) λa1 a2=>?_
  clear M9
  exact SeqAt.compareNe_reads ra.1.reads rb.1.reads a1 b1 (by have:=Qi x.depth y.depth; exact yV hu a2) (hQ s (.refl s))
 | lt=>
  replace he:=iN he
  revert he; intro u
  refine aw (u) λx y Na Nh he=>?_
  clear u
  subst Na
  subst Nh
  replace he:=e9 he
  revert he; intro t
  refine aw (t) λi j Nj Nd he=>?_
  clear t
  subst Nj
  subst Nd
  (have oc:=Out.ok.inj he; clear he; subst oc); obtain ⟨_,rfl,rfl⟩:=ra.1.isInt; obtain ⟨_,rfl,rfl⟩:=rb.1.isInt
  exact lt_int (hQ s (.refl s))
 | gt=>
  replace he:=iN he
  revert he; intro r
  refine aw (r) λx y Nw NG he=>?_
  clear r
  subst Nw
  subst NG
  replace he:=e9 he
  revert he; intro q
  refine aw (q) λi j NA NF he=>?_
  clear q
  subst NA
  subst NF
  (have oc:=Out.ok.inj he; clear he; subst oc); obtain ⟨_,rfl,rfl⟩:=ra.1.isInt; obtain ⟨_,rfl,rfl⟩:=rb.1.isInt
  exact gt_int (hQ s (.refl s))
 | ge=>
  replace he:=iN he
  revert he; intro p
  refine aw (p) λx y NI Nr he=>?_
  clear p
  subst NI
  subst Nr
  replace he:=e9 he
  revert he; intro n
  refine aw (n) λi j ND NH he=>?_
  clear n
  subst ND
  subst NH
  (have oc:=Out.ok.inj he; clear he; subst oc); obtain ⟨_,rfl,rfl⟩:=ra.1.isInt; obtain ⟨_,rfl,rfl⟩:=rb.1.isInt
  exact ge_int (hQ s (.refl s))
 | isin=>
  replace he:=aS he
  revert he; intro m
  refine af (m) λx hx he=>?_
  clear m
  cases bB hx
  exact A6 hu he ra.1 rb hQ
 | notin=>
  replace he:=iN he
  revert he; intro l
  refine aw (l) λkx y Nk Nn he=>?_
  clear l
  subst Nk
  subst Nn
  refine Out.bind_k he λb' g h2=>?_
  (have oc:=Out.ok.inj h2; clear h2; (clear he; subst oc))
  replace g:=aS g
  revert g; intro k
  refine af (k) λxs hy g=>?_
  clear k
  cases cK hy
  split at g<;>cases g
  rename_i g
  simp only[OJ,jW] at g
  refine aH (g) λNg b1 b2=>?_
  clear g
  refine ae (Ng) λa1 a2=>?_
  clear Ng
  simp only[VY,Vs] at b1 b2
  exact SeqAt.notIn_list_reads rb.1.reads ra.1.reads b1 a1 (by have:=Qi (Tg xs) kx.depth; exact zc hu b2) (hQ s (.refl s))
 | isnot=>
  replace he:=iN he
  revert he; intro h
  refine aw (h) λx y Oc NB he=>?_
  clear h
  subst Oc
  subst NB
  split at he<;>cases he
  cases AM ‹_›
  obtain ⟨ra,_⟩:=ra; obtain ⟨rfl,rfl⟩:=rb.1.isNone
  refine isNot_none ?_
  cases ra<;>exact hQ s (.refl s)
end
section
theorem EP.shift (kp:Kp s o) (e:EP (λa=>P a\/s.heap.get? a=OC) o r v sc):EP P s r v sc:=by
 obtain ⟨j,as,a,b,c,d⟩:=e
 refine ⟨kp.trans j,as,a,λx i=>?_,λg=>aw (c g) λa n m l k=>(aP a n m (kp.none l) k),λg=>⟨λx i=>kp.none ((d g).1 x i),(d g).2⟩⟩
 rcases b x i with h | h
 ·exact h
 ·exact .inr (kp.none h)
theorem lW (hXP:∀ c s s₁ x s',Kp s s₁->XP c s₁ x s'->XP c s x s') {a b:E}(Sa:SimE fns k C XP a) (Sb:SimE fns k C XP b)
  {ea eb:Expr}{A:Pq}{env:Env}{σ:St}{P:O1->Prop}{s:OA}{Er:N8->OA->Prop}{G:N8->N8->OA->Prop}{f:V->V->Out (V×Mode)}
  (oa:okE env.scope.names a ea=Gt) (ob:okE env.scope.names b eb=Gt) (X:Cx fns k A P s.heap env σ)
  (nb:((ev C a σ).bind λx=>(ev C b σ).bind λy=>f x.1 y.1)≠.bad)
  (hE:∀ c,((ev C a σ).bind λx=>(ev C b σ).bind λy=>f x.1 y.1) = .exc c->∀ x s',XP c s x s'->Er x s') (hf:∀ x y c,f x y≠.exc c)
  (hG:∀ x y r,((ev C a σ).bind λx=>(ev C b σ).bind λy=>f x.1 y.1) = .ok r->f x y = .ok r->∀ va vb s₂ as bs,Kp s s₂->RV s₂.heap va x as->RV s₂.heap vb y bs ->
   (∀ a∈as,P a\/s.heap.get? a=OC)->(∀ a∈bs,P a\/s.heap.get? a=OC)->G va vb s₂) :
  OQ (OT prog w) A (SW ea env) (λva s₁=>OQ (OT prog w) A (SW eb env) (λvb s₂=>G va vb s₂) Er s₁) Er s:=by
 refine aN nb λp i=>?_
 refine LK hXP Sa Sb oa ob X p (λx g=>(bf (i x g)).1) (λc h=>hE c ?_) λx y g m va vb s₁ s₂ Ea Eb=>?_
 ·rcases h with h | ⟨x,g,h⟩
  ·rw[h]; rfl
  ·rw[g,Out.ok_bind,h]; rfl
 ·have v:=(bf (i x g)).2 y m
  cases hr:f x.1 y.1 with
  | bad=>exact OW hr v
  | exc c=>exact OW hr (hf _ _ _)
  | ok r=>
   obtain ⟨l,as,o,u,_⟩:=Ea
   obtain ⟨j,bs,n,t,_⟩:=Eb
   exact hG x.1 y.1 r (by rw[g,Out.ok_bind,m,Out.ok_bind]; exact hr) hr va vb s₂ as bs (l.trans j) (o.k j.k) n u λz q=>(t z q).imp id l.none
theorem xB:dC o x y≠.exc c:=AR c
theorem po:cA o x y≠.exc c:=BM c
theorem Bz {ex:Expr}(h:okE ns (.bin o a b) ex=Gt):∃ l op r p,ex = .BinOp l op r p/\opB o op=Gt/\okE ns a l=Gt/\okE ns b r=true:=by
 replace h:=IE h
 revert h; refine λg=>Pc g (λi=>?_) (λh=>?_)
 ·clear g
  refine cR (i) λq n m k j h=>?_
  clear i
  subst j
  simp only[OJ] at h
  exact (iX _ _ _ _ rfl h.1.1 h.1.2 h.2)
 ·cases h
theorem Ca (hXP:∀ c s s₁ x s',Kp s s₁->XP c s₁ x s'->XP c s x s') {o:BOp}{a b:E}(Sa:SimE fns k C XP a) (Sb:SimE fns k C XP b):SimE fns k C XP (.bin o a b):=by
 intro ex A env σ P s Q Er m X n q t
 refine fK (Bz m) λl op r p g ho z u=>?_
 (clear m; subst g)
 simp only[fS] at n q t
 refine wpAny_BinOp (lW hXP Sa Sb (f:=λx y=>match x,y with | .d x,.d y=>dC o x y | _,_=>.bad) z u X n t (λx y c=>?_) λx y r hr hf va vb h as bs kp j i ha hb=>?_)
 ·split
  ·exact xB
  ·simp
 ·split at hf
  ·exact wu ho hf j.1 j.2 i.1 i.2 ha hb λv s' e=>q r hr v s' (.shift kp e)
  ·exact nB hf
theorem rt {ex:Expr}(h:okE ns (.cmp o a b) ex=Gt):∃ l op r p,ex = .Compare l [op] [r] p/\opC o op=Gt/\okE ns a l=Gt/\okE ns b r=true:=by
 replace h:=Kr h
 revert h; refine λg=>Pc g (λi=>?_) (λh=>?_)
 ·clear g
  refine cR (i) λq n m k j h=>?_
  clear i
  subst j
  simp only[OJ] at h
  exact (iX _ _ _ _ rfl h.1.1 h.1.2 h.2)
 ·cases h
theorem Bw:okE ns e (.Set es n p)=false:=by cases e<;>rfl
theorem pD (h:okE ns e x=Gt):behindInMarks op x=false:=by
 cases x<;>first | rfl | (rw[Bw] at h; cases h)
theorem Bg (hXP:∀ c s s₁ x s',Kp s s₁->XP c s₁ x s'->XP c s x s') {o:COp}{a b:E}(Sa:SimE fns k C XP a) (Sb:SimE fns k C XP b):SimE fns k C XP (.cmp o a b):=by
 intro ex A env σ P s Q Er ok X m n q
 refine fK (rt ok) λl op r p g ho oa j=>?_
 (clear ok; subst g)
 simp only[ed] at m n q
 refine wpAny_Compare1 (lW hXP Sa Sb (f:=λx y=>(cA o x y).bind λb=>.ok (sB b)) oa j X m q (λx y c h=>?_) λx y r hr hf va vb i as bs kp z v ha hb=>?_) (pD j)
 ·rcases cb h with h | ⟨_,_,h⟩
  ·exact po h
  ·cases h
 ·refine Out.bind_k hf λt h1 u=>?_
  (have oc:=Out.ok.inj u; clear u; (clear hf; subst oc))
  exact o7 X.room.units ho h1 z v λs' e=>n _ hr _ s' (.bool (kp.trans e))
theorem ym (hXP:∀ c s s₁ x s',Kp s s₁->XP c s₁ x s'->XP c s x s') {o:COp}{a b:E}(Sa:SimE fns k C XP a) (Sb:SimE fns k C XP b):SimT fns k C XP (.cmp o a b):=by
 intro ex A env z P s Q Er ok X nb hQ u
 refine fK (rt ok) λl op r p j ho oa q=>?_
 (clear ok; subst j)
 have g:=(bf nb).1
 have i:∀ r,ev C (.cmp o a b) z = .ok r->∀ b,au r.1 = .ok b->∀ s',Kp s s'->Q b s':=λr m t ht=>hQ t (by rw[m]; exact ht)
 simp only[ed] at g i u
 refine wpAny_isTrue_Compare1 (lW hXP Sa Sb (f:=λx y=>(cA o x y).bind λb=>.ok (sB b)) oa q X g u (λx y c h=>?_) λx y r m hf va vb n as bs kp ra rb ha hb=>?_) (pD q)
 ·rcases cb h with h | ⟨_,_,h⟩
  ·exact po h
  ·cases h
 ·refine Out.bind_k hf λt h1 v=>?_
  (have oc:=Out.ok.inj v; clear v; (clear hf; subst oc))
  exact o7 X.room.units ho h1 ra rb λs' e=>RE (i _ m _ rfl s' (kp.trans e))
theorem rJ (Sa:SimE fns k C XP a):SimE fns k C XP (.neg a):=by
 intro ex A env σ P s Q Er j X u y z
 replace j:=zx j
 revert j; refine λg=>Pc g (λh=>?_) (λj=>?_)
 ·clear g
  refine av (h) λo n i j=>?_
  clear h
  subst i
  simp only[fY] at u y z
  refine aN u λn1 n2=>?_
  refine Wo (Sa j X n1 (λx v va l Ea=>?_) λc hc=>z c (by rw[hc]; rfl))
  have t:=n2 x v
  obtain ⟨ka,as,p,_⟩:=Ea
  obtain ⟨x,m⟩:=x
  dsimp only at t p
  split at t
  ·refine p.1.isInt_k λuu r q=>?_
   (clear p; subst r)
   subst q
   exact neg_int (y _ (by rw[v]; rfl) _ _ (.int (ka.trans (.toks l _))))
  ·exact OW rfl t
 ·cases j
theorem tW (S:SimE fns k C XP e) (hp:∀ ns ex env (t:Sem N8),okE ns e ex=Gt->isTrue ex env t=(do let v <- t; standAt ex.pos; Zb [v] (Z4 v))):SimT fns k C XP e:=by
 intro ex A env z P s Q Er n X o u y
 refine wpAny_isTrue_value (S n X (bf o).1 (λr p v s' E=>?_) y) (hp _ _ _ _ n)
 have h:=(bf o).2 r p
 obtain ⟨x,m⟩:=r
 dsimp only at h
 unfold au at h
 split at h
 ·obtain ⟨q,as,g,_⟩:=E
  refine ae (g) λl _=>?_
  clear g
  refine ae (l.isBool) λj i=>?_
  (clear l; subst j)
  subst i
  exact RE (u _ (by rw[p]; rfl) _ q)
 ·exact OW rfl h
theorem rS {ex:Expr}(h:okE ns (.not a) ex=Gt):∃ x p,ex = .UnaryOp .Not x p/\okE ns a x=true:=by
 replace h:=EH h
 revert h; refine λg=>Pc g (λi=>?_) (λh=>?_)
 ·clear g
  refine av (i) λl k j h=>?_
  clear i
  subst j
  exact (ay _ _ rfl h)
 ·cases h
theorem r8 (Sa:SimE fns k C XP a):SimE fns k C XP (.not a):=by
 intro ex A env σ P s Q Er o X q t u
 refine av (rS o) λx p l v=>?_
 (clear o; subst l)
 simp only[d8] at q t u
 refine aN q λz y=>?_
 refine Wo (Sa v X z (λx r va n Ea=>?_) λc hc=>u c (by rw[hc]; rfl))
 have i:=(bf (y x r)).1
 obtain ⟨ka,as,j,_⟩:=Ea
 obtain ⟨x,m⟩:=x
 dsimp only at i j
 unfold au at i
 split at i
 ·refine ae (j.1.isBool) λh g=>?_
  (clear j; subst h)
  subst g
  exact not_value (RE (t _ (by rw[r]; rfl) _ _ (.bool ka)))
 ·exact OW rfl i
theorem pz (Sa:SimT fns k C XP a):SimT fns k C XP (.not a):=by
 intro ex A u h P s Q Er ok X i j t
 refine av (rS ok) λx p g m=>?_
 (clear ok; subst g)
 have e:((ev C (.not a) h).bind λr=>au r.1)=((ev C a h).bind λr=>au r.1).bind λb=>.ok (!b):=by
  simp only[d8]
  cases ev C a h with
  | ok r=>simp only[Out.ok_bind]; cases au r.1<;>rfl
  | exc c=>rfl
  | bad=>rfl
 rw[e] at i j
 refine wpAny_isTrue_Not (Sa m X (bf i).1 (λb q l n=>j (!b) (by rw[q]; rfl) l n) λc o=>t c (by simp only[d8]; rw[o]; rfl))
end
section
variable (fns:Fns) (k:ON) (C:Calls) (XP:Ot->OA->N8->OA->Prop)
noncomputable def SimA (e:E):Prop:=∀ {vs:vk Expr}{pos:Pos}{A:Pq}{env:Env}{σ:St}{P:O1->Prop}{s:OA}{Q:N8->OA->Prop}{Er:N8->OA->Prop},
 okA' env.scope.names e vs=Gt->Cx fns k A P s.heap env σ->((ev C e σ).bind λr=>au r.1)≠.bad ->
 (∀ b,((ev C e σ).bind λr=>au r.1) = .ok b->∀ s',Kp s s'->Q (.bool b) s')->(∀ c,ev C e σ = .exc c->∀ x s',XP c s x s'->Er x s') ->
 OQ (OT prog w) A (Ui pos .And (VZ vs env)) Q Er s
noncomputable def SimTA (e:E):Prop:=∀ {vs:vk Expr}{A:Pq}{env:Env}{σ:St}{P:O1->Prop}{s:OA}{Q:Pr->OA->Prop}{Er:N8->OA->Prop},
 okA' env.scope.names e vs=Gt->Cx fns k A P s.heap env σ->((ev C e σ).bind λr=>au r.1)≠.bad ->
 (∀ b,((ev C e σ).bind λr=>au r.1) = .ok b->∀ s',Kp s s'->Q b s')->(∀ c,ev C e σ = .exc c->∀ x s',XP c s x s'->Er x s') ->
 OQ (OT prog w) A (WV .And vs env) Q Er s
noncomputable def SimO (e:E):Prop:=∀ {vs:vk Expr}{pos:Pos}{A:Pq}{env:Env}{σ:St}{P:O1->Prop}{s:OA}{Q:N8->OA->Prop}{Er:N8->OA->Prop},
 okO' env.scope.names e vs=Gt->Cx fns k A P s.heap env σ->((ev C e σ).bind λr=>au r.1)≠.bad ->
 (∀ b,((ev C e σ).bind λr=>au r.1) = .ok b->∀ s',Kp s s'->Q (.bool b) s')->(∀ c,ev C e σ = .exc c->∀ x s',XP c s x s'->Er x s') ->
 OQ (OT prog w) A (Ui pos .Or (VZ vs env)) Q Er s
noncomputable def SimTO (e:E):Prop:=∀ {vs:vk Expr}{A:Pq}{env:Env}{σ:St}{P:O1->Prop}{s:OA}{Q:Pr->OA->Prop}{Er:N8->OA->Prop},
 okO' env.scope.names e vs=Gt->Cx fns k A P s.heap env σ->((ev C e σ).bind λr=>au r.1)≠.bad ->
 (∀ b,((ev C e σ).bind λr=>au r.1) = .ok b->∀ s',Kp s s'->Q b s')->(∀ c,ev C e σ = .exc c->∀ x s',XP c s x s'->Er x s') ->
 OQ (OT prog w) A (WV .Or vs env) Q Er s
end
section
variable {fns:Fns}{k:ON}{C:Calls}{XP:Ot->OA->N8->OA->Prop}
theorem wM (E:EP P s r v s') (h:au r.1 = .ok t):v = .bool t/\Kp s s':=by
 obtain ⟨x,m⟩:=r
 dsimp only at h
 unfold au at h
 split at h
 ·(have j:=Out.ok.inj h; clear h; subst j)
  obtain ⟨k,as,g,_⟩:=E
  refine ae (g) λi _=>?_
  clear g
  cases i
  exact ⟨rfl,k⟩
 ·exact nB h
theorem nA:au v≠.exc c:=by unfold au; split<;>simp
theorem tG (S:SimE fns k C XP e) {ex:Expr}
  (ok:okE env.scope.names e ex=Gt) (X:Cx fns k A P s.heap env σ) (nb:((ev C e σ).bind λr=>au r.1)≠.bad)
  (hQ:∀ b,((ev C e σ).bind λr=>au r.1) = .ok b->∀ s',Kp s s'->Q (.bool b) s') (hE:∀ c,ev C e σ = .exc c->∀ x s',XP c s x s'->Er x s'):OQ (OT prog w) A (SW ex env) Q Er s:=by
 refine aN nb λj i=>?_
 refine S ok X j (λr h v s' E=>?_) hE
 cases ht:au r.1 with
 | bad=>exact OW ht (i r h)
 | exc c=>exact OW ht nA
 | ok t=>
  refine ae (wM E ht) λg l=>?_
  (clear E; subst g)
  exact hQ t (by rw[h]; exact ht) s' l
theorem ma {M:UO}{A:Pq}{pos:Pos}{op:Z2}{x:Sem N8}{Q:N8->OA->Prop}{E:N8->OA->Prop}{s:OA}(h:OQ M A x Q E s):OQ M A (Ui pos op [x]) Q E s:=h
theorem sN {M:UO}{A:Pq}{pos:Pos}{x y:Sem N8}{r:vk (Sem N8)}{Q:N8->OA->Prop}{E:N8->OA->Prop}{s:OA}
  (h:OQ M A x (λv s₁=>OQ M A (Z4 v) (λt j=>if t then OQ M A (Ui pos .And (y::r)) Q E j else Q v j) E s₁) E s):OQ M A (Ui pos .And (x::y::r)) Q E s:=by
 rw[Ui]
 ·refine If (Qk h (λv s₁ i=>If (S7 (If (P7 (Qk i (λt j g=>?_) λuu uu e=>e))))) λuu uu e=>e)
  cases t with
  | false=>exact OL g
  | true=>exact g
 ·simp
theorem vX {M:UO}{A:Pq}{pos:Pos}{x y:Sem N8}{r:vk (Sem N8)}{Q:N8->OA->Prop}{E:N8->OA->Prop}{s:OA}
  (h:OQ M A x (λv s₁=>OQ M A (Z4 v) (λt j=>if t then Q v j else OQ M A (Ui pos .Or (y::r)) Q E j) E s₁) E s):OQ M A (Ui pos .Or (x::y::r)) Q E s:=by
 rw[Ui]
 ·refine If (Qk h (λv s₁ i=>If (S7 (If (P7 (Qk i (λt j g=>?_) λuu uu e=>e))))) λuu uu e=>e)
  cases t with
  | false=>exact g
  | true=>exact OL g
 ·simp
theorem okA'_inv (h:okA' ns b vs=Gt):(∃ u,vs=[u]/\okE ns b u=Gt)\/okA ns b vs=true:=by
 unfold okA' at h
 cases e:bH vs with
 | some u=>rw[e] at h; exact .inl (ag u (aZ e) h)
 | none=>rw[e] at h; exact .inr h
theorem okA'_ne (h:okA' ns b vs=Gt):∃ y r,vs=y::r:=by
 cases vs with
 | nil=>cases b<;>exact PN (show Oz=Gt from h)
 | cons y r=>exact (bG y r rfl)
theorem okO'_inv (h:okO' ns b vs=Gt):(∃ u,vs=[u]/\okE ns b u=Gt)\/okO ns b vs=true:=by
 unfold okO' at h
 cases e:bH vs with
 | some u=>rw[e] at h; exact .inl (ag u (aZ e) h)
 | none=>rw[e] at h; exact .inr h
theorem okO'_ne (h:okO' ns b vs=Gt):∃ y r,vs=y::r:=by
 cases vs with
 | nil=>cases b<;>exact PN (show Oz=Gt from h)
 | cons y r=>exact (bG y r rfl)
theorem mU (a b:E) (σ:St):((ev C (.and a b) σ).bind λr=>au r.1)=((ev C a σ).bind λr=>au r.1).bind λt=>if t then (ev C b σ).bind λr=>au r.1 else .ok false:=by
 simp only[d7]
 cases ev C a σ with
 | ok r=>
  simp only[Out.ok_bind]
  cases au r.1 with
  | ok t=>
   cases t with
   | false=>rfl
   | true=>
    simp only[Out.ok_bind,Ri]
    cases ev C b σ with
    | ok q=>simp only[Out.ok_bind]; cases au q.1<;>rfl
    | exc c=>rfl
    | bad=>rfl
  | exc c=>rfl
  | bad=>rfl
 | exc c=>rfl
 | bad=>rfl
theorem pU (a b:E) (σ:St):((ev C (.or a b) σ).bind λr=>au r.1)=((ev C a σ).bind λr=>au r.1).bind λt=>if t then .ok Gt else (ev C b σ).bind λr=>au r.1:=by
 simp only[fx]
 cases ev C a σ with
 | ok r=>
  simp only[Out.ok_bind]
  cases au r.1 with
  | ok t=>
   cases t with
   | true=>rfl
   | false=>
    simp only[Out.ok_bind,Pn,P2]
    cases ev C b σ with
    | ok q=>simp only[Out.ok_bind]; cases au q.1<;>rfl
    | exc c=>rfl
    | bad=>rfl
  | exc c=>rfl
  | bad=>rfl
 | exc c=>rfl
 | bad=>rfl
theorem rQ (h:ev C (.and a b) σ = .ok r):∃ t,r=sB t:=by
 simp only[d7] at h
 refine Out.bind_k h λx _ h=>?_
 refine Out.bind_k h λt _ h=>?_
 cases t with
 | false=>exact ⟨Oz,by simpa using h.symm⟩
 | true=>
  simp only[Ri] at h
  refine Out.bind_k h λy _ h=>?_
  refine Out.bind_k h λu _ h=>?_
  (have g:=Out.ok.inj h; clear h; subst g); exact ⟨u,rfl⟩
theorem uV (h:ev C (.or a b) σ = .ok r):∃ t,r=sB t:=by
 simp only[fx] at h
 refine Out.bind_k h λx _ h=>?_
 refine Out.bind_k h λt _ h=>?_
 cases t with
 | true=>exact ⟨Gt,by simpa using h.symm⟩
 | false=>
  simp only[Pn,P2] at h
  refine Out.bind_k h λy _ h=>?_
  refine Out.bind_k h λu _ h=>?_
  (have g:=Out.ok.inj h; clear h; subst g); exact ⟨u,rfl⟩
theorem dk {o:Out (V×Mode)}{c:Ot}(h:(o.bind λr=>au r.1) = .exc c):o = .exc c:=by
 rcases cb h with h | ⟨_,_,h⟩
 ·exact h
 ·exact OW h nA
section
variable (hXP:∀ c s s₁ x s',Kp s s₁->XP c s₁ x s'->XP c s x s')
include hXP
theorem Di (Sa:SimE fns k C XP a) (Ab:SimA fns k C XP b)
  (oa:okE env.scope.names a v=Gt) (ob:okA' env.scope.names b vs=Gt) (X:Cx fns k A P s.heap env σ) (nb:((ev C (.and a b) σ).bind λr=>au r.1)≠.bad)
  (hQ:∀ t,((ev C (.and a b) σ).bind λr=>au r.1) = .ok t->∀ s',Kp s s'->Q (.bool t) s') (hE:∀ c,ev C (.and a b) σ = .exc c->∀ x s',XP c s x s'->Er x s') :
  OQ (OT prog w) A (Ui pos .And (VZ (v::vs) env)) Q Er s:=by
 refine ba (okA'_ne ob) λy r o=>?_
 subst o
 have j:∀ c,((ev C (.and a b) σ).bind λr=>au r.1) = .exc c->∀ x s',XP c s x s'->Er x s':=λc h=>hE c (dk h)
 rw[mU] at nb hQ j
 refine aN nb λn1 z=>?_
 refine sN (tG Sa oa X n1 (λt n i g=>RE ?_) λc q=>j c (by rw[q]; rfl))
 cases t with
 | false=>exact hQ Oz (by rw[n]; rfl) i g
 | true=>
  have u:=z Gt n
  simp only[Ri] at u ⊢
  refine Ab ob (X.k g.k) u (λt p l m=>hQ t (by rw[n]; simpa using p) l (g.trans m)) λc q x s' hx=>j c (by rw[n]; simp[q]) x s' (hXP c s i x s' g hx)
theorem orL (Sa:SimE fns k C XP a) (Ab:SimO fns k C XP b)
  (oa:okE env.scope.names a v=Gt) (ob:okO' env.scope.names b vs=Gt) (X:Cx fns k A P s.heap env σ) (nb:((ev C (.or a b) σ).bind λr=>au r.1)≠.bad)
  (hQ:∀ t,((ev C (.or a b) σ).bind λr=>au r.1) = .ok t->∀ s',Kp s s'->Q (.bool t) s') (hE:∀ c,ev C (.or a b) σ = .exc c->∀ x s',XP c s x s'->Er x s') :
  OQ (OT prog w) A (Ui pos .Or (VZ (v::vs) env)) Q Er s:=by
 refine ba (okO'_ne ob) λy r o=>?_
 subst o
 have j:∀ c,((ev C (.or a b) σ).bind λr=>au r.1) = .exc c->∀ x s',XP c s x s'->Er x s':=λc h=>hE c (dk h)
 rw[pU] at nb hQ j
 refine aN nb λn1 z=>?_
 refine vX (tG Sa oa X n1 (λt n i g=>RE ?_) λc q=>j c (by rw[q]; rfl))
 cases t with
 | true=>exact hQ Gt (by rw[n]; rfl) i g
 | false=>
  have u:=z Oz n
  simp only[Pn,P2] at u ⊢
  refine Ab ob (X.k g.k) u (λt p l m=>hQ t (by rw[n]; simpa using p) l (g.trans m)) λc q x s' hx=>j c (by rw[n]; simp[q]) x s' (hXP c s i x s' g hx)
theorem zC (Sa:SimT fns k C XP a) (Ab:SimTA fns k C XP b)
  (oa:okE env.scope.names a v=Gt) (ob:okA' env.scope.names b vs=Gt) (X:Cx fns k A P s.heap env σ) (nb:((ev C (.and a b) σ).bind λr=>au r.1)≠.bad)
  (hQ:∀ t,((ev C (.and a b) σ).bind λr=>au r.1) = .ok t->∀ s',Kp s s'->Q t s') (hE:∀ c,ev C (.and a b) σ = .exc c->∀ x s',XP c s x s'->Er x s') :
  OQ (OT prog w) A (WV .And (v::vs) env) Q Er s:=by
 have j:∀ c,((ev C (.and a b) σ).bind λr=>au r.1) = .exc c->∀ x s',XP c s x s'->Er x s':=λc h=>hE c (dk h)
 rw[mU] at nb hQ j
 refine aN nb λy u=>?_
 refine Vt (Sa oa X y (λt n i g=>?_) λc p=>j c (by rw[p]; rfl))
 cases t with
 | false=>exact hQ Oz (by rw[n]; rfl) i g
 | true=>
  have q:=u Gt n
  simp only[Ri] at q ⊢
  refine Ab ob (X.k g.k) q (λt o l m=>hQ t (by rw[n]; simpa using o) l (g.trans m)) λc p x s' z=>j c (by rw[n]; simp[p]) x s' (hXP c s i x s' g z)
theorem Du (Sa:SimT fns k C XP a) (Ab:SimTO fns k C XP b)
  (oa:okE env.scope.names a v=Gt) (ob:okO' env.scope.names b vs=Gt) (X:Cx fns k A P s.heap env σ) (nb:((ev C (.or a b) σ).bind λr=>au r.1)≠.bad)
  (hQ:∀ t,((ev C (.or a b) σ).bind λr=>au r.1) = .ok t->∀ s',Kp s s'->Q t s') (hE:∀ c,ev C (.or a b) σ = .exc c->∀ x s',XP c s x s'->Er x s') :
  OQ (OT prog w) A (WV .Or (v::vs) env) Q Er s:=by
 have j:∀ c,((ev C (.or a b) σ).bind λr=>au r.1) = .exc c->∀ x s',XP c s x s'->Er x s':=λc h=>hE c (dk h)
 rw[pU] at nb hQ j
 refine aN nb λy u=>?_
 refine VM (Sa oa X y (λt n i g=>?_) λc p=>j c (by rw[p]; rfl))
 cases t with
 | true=>exact hQ Gt (by rw[n]; rfl) i g
 | false=>
  have q:=u Oz n
  simp only[Pn,P2] at q ⊢
  refine Ab ob (X.k g.k) q (λt o l m=>hQ t (by rw[n]; simpa using o) l (g.trans m)) λc p x s' z=>j c (by rw[n]; simp[p]) x s' (hXP c s i x s' g z)
theorem si {ex:Expr}(h:okE ns (.and a b) ex=Gt):∃ v vs p,ex = .BoolOp .And (v::vs) p/\okE ns a v=Gt/\okA' ns b vs=true:=by
 replace h:=GV h
 revert h; refine λg=>Pc g (λi=>?_) (λh=>?_)
 ·clear g
  refine bl (i) λm l k j h=>?_
  clear i
  subst j
  simp only[OJ] at h
  exact (cU _ _ _ rfl h.1 h.2)
 ·cases h
theorem vz {ex:Expr}(h:okE ns (.or a b) ex=Gt):∃ v vs p,ex = .BoolOp .Or (v::vs) p/\okE ns a v=Gt/\okO' ns b vs=true:=by
 replace h:=LI h
 revert h; refine λg=>Pc g (λi=>?_) (λh=>?_)
 ·clear g
  refine bl (i) λm l k j h=>?_
  clear i
  subst j
  simp only[OJ] at h
  exact (cU _ _ _ rfl h.1 h.2)
 ·cases h
theorem AI (Sa:SimE fns k C XP a) (Ab:SimA fns k C XP b):SimE fns k C XP (.and a b):=by
 intro ex A env m P s Q Er ok X y hQ hE
 refine aV (si hXP ok) λv vs p j x q=>?_
 (clear ok; subst j)
 rw[XU]
 refine Di hXP Sa Ab x q X (λh=>?_) (λt g n z=>?_) hE
 ·cases e:ev C (.and a b) m with
  | ok r=>rw[e] at h; obtain ⟨t,rfl⟩:=rQ e; cases h
  | exc c=>rw[e] at h; cases h
  | bad=>exact y e
 ·refine Out.bind_k g λr l g=>?_
  refine aj (rQ l) λu i=>?_
  subst i
  (have o:=Out.ok.inj g; clear g; subst o)
  exact hQ _ l _ n (.bool z)
theorem Cf (Sa:SimE fns k C XP a) (Ab:SimO fns k C XP b):SimE fns k C XP (.or a b):=by
 intro ex A env m P s Q Er ok X y hQ hE
 refine aV (vz hXP ok) λv vs p j x q=>?_
 (clear ok; subst j)
 rw[XU]
 refine orL hXP Sa Ab x q X (λh=>?_) (λt g n z=>?_) hE
 ·cases e:ev C (.or a b) m with
  | ok r=>rw[e] at h; obtain ⟨t,rfl⟩:=uV e; cases h
  | exc c=>rw[e] at h; cases h
  | bad=>exact y e
 ·refine Out.bind_k g λr l g=>?_
  refine aj (uV l) λu i=>?_
  subst i
  (have o:=Out.ok.inj g; clear g; subst o)
  exact hQ _ l _ n (.bool z)
theorem xH (Sa:SimT fns k C XP a) (Ab:SimTA fns k C XP b):SimT fns k C XP (.and a b):=by
 intro ex A o q P s Q Er h X l m n
 refine aV (si hXP h) λv r p g j i=>?_
 (clear h; subst g)
 exact Wd (zC hXP Sa Ab j i X l m n)
theorem B6 (Sa:SimT fns k C XP a) (Ab:SimTO fns k C XP b):SimT fns k C XP (.or a b):=by
 intro ex A o q P s Q Er h X l m n
 refine aV (vz hXP h) λv r p g j i=>?_
 (clear h; subst g)
 exact Wd (Du hXP Sa Ab j i X l m n)
end
theorem kF (S:SimE fns k C XP e) (h:∀ {vs:vk Expr}{pos:Pos}{A:Pq}{env:Env}{σ:St}{P:O1->Prop}{s:OA}{Q:N8->OA->Prop}{Er:N8->OA->Prop},
  okA env.scope.names e vs=Gt->Cx fns k A P s.heap env σ->((ev C e σ).bind λr=>au r.1)≠.bad ->
  (∀ b,((ev C e σ).bind λr=>au r.1) = .ok b->∀ s',Kp s s'->Q (.bool b) s')->(∀ c,ev C e σ = .exc c->∀ x s',XP c s x s'->Er x s')->OQ (OT prog w) A (Ui pos .And (VZ vs env)) Q Er s):SimA fns k C XP e:=by
 intro vs pos A env σ P s Q Er ok X m n o
 replace ok:=okA'_inv ok
 revert ok; refine λg=>Pc g (λi=>?_) (λok=>?_)
 ·clear g
  refine af (i) λl j ok=>?_
  clear i
  subst j
  exact ma (tG S ok X m n o)
 ·exact h ok X m n o
theorem kX (S:SimE fns k C XP e) (h:∀ {vs:vk Expr}{pos:Pos}{A:Pq}{env:Env}{σ:St}{P:O1->Prop}{s:OA}{Q:N8->OA->Prop}{Er:N8->OA->Prop},
  okO env.scope.names e vs=Gt->Cx fns k A P s.heap env σ->((ev C e σ).bind λr=>au r.1)≠.bad ->
  (∀ b,((ev C e σ).bind λr=>au r.1) = .ok b->∀ s',Kp s s'->Q (.bool b) s')->(∀ c,ev C e σ = .exc c->∀ x s',XP c s x s'->Er x s')->OQ (OT prog w) A (Ui pos .Or (VZ vs env)) Q Er s):SimO fns k C XP e:=by
 intro vs pos A env σ P s Q Er ok X m n o
 replace ok:=okO'_inv ok
 revert ok; refine λg=>Pc g (λi=>?_) (λok=>?_)
 ·clear g
  refine af (i) λl j ok=>?_
  clear i
  subst j
  exact ma (tG S ok X m n o)
 ·exact h ok X m n o
theorem jv (S:SimT fns k C XP e) (h:∀ {vs:vk Expr}{A:Pq}{env:Env}{σ:St}{P:O1->Prop}{s:OA}{Q:Pr->OA->Prop}{Er:N8->OA->Prop},
  okA env.scope.names e vs=Gt->Cx fns k A P s.heap env σ->((ev C e σ).bind λr=>au r.1)≠.bad ->
  (∀ b,((ev C e σ).bind λr=>au r.1) = .ok b->∀ s',Kp s s'->Q b s')->(∀ c,ev C e σ = .exc c->∀ x s',XP c s x s'->Er x s')->OQ (OT prog w) A (WV .And vs env) Q Er s):SimTA fns k C XP e:=by
 intro vs A env σ P s Q Er ok X n m q
 replace ok:=okA'_inv ok
 revert ok; refine λg=>Pc g (λi=>?_) (λok=>?_)
 ·clear g
  refine af (i) λl j ok=>?_
  clear i
  subst j
  refine Vt (S ok X n (λt p s' o=>?_) q)
  cases t with
  | false=>exact m _ p s' o
  | true=>exact wpAny_allTrue_And_nil (m _ p s' o)
 ·exact h ok X n m q
theorem jJ (S:SimT fns k C XP e) (h:∀ {vs:vk Expr}{A:Pq}{env:Env}{σ:St}{P:O1->Prop}{s:OA}{Q:Pr->OA->Prop}{Er:N8->OA->Prop},
  okO env.scope.names e vs=Gt->Cx fns k A P s.heap env σ->((ev C e σ).bind λr=>au r.1)≠.bad ->
  (∀ b,((ev C e σ).bind λr=>au r.1) = .ok b->∀ s',Kp s s'->Q b s')->(∀ c,ev C e σ = .exc c->∀ x s',XP c s x s'->Er x s')->OQ (OT prog w) A (WV .Or vs env) Q Er s):SimTO fns k C XP e:=by
 intro vs A env σ P s Q Er ok X n m q
 replace ok:=okO'_inv ok
 revert ok; refine λg=>Pc g (λi=>?_) (λok=>?_)
 ·clear g
  refine af (i) λl j ok=>?_
  clear i
  subst j
  refine VM (S ok X n (λt p s' o=>?_) q)
  cases t with
  | false=>exact wpAny_allTrue_Or_nil (m _ p s' o)
  | true=>exact m _ p s' o
 ·exact h ok X n m q
end
section
theorem EP.aList (kp:Kp s s') (hn:s.heap.get? a=OC)
  (ha:s'.heap.get? a=rg ⟨.type "list", OC,.seq vs.toArray n,#[]⟩) (r:RA s'.heap vs xs as) (hl:xs.length<=2^22) (hz:∀ x∈xs,sz x=Gt) (hP:∀ b∈as,P b/\b≠a) :
  EP P s (.d (.list xs),fresh xs) (.ref a) s':=by
 refine ⟨kp,a::as,⟨.list ha r,sz_list.mpr ⟨hl,hz⟩⟩,?_,?_,?_⟩
 ·intro b h
  rcases O9.mp h with rfl | h
  ·exact .inr hn
  ·exact .inl (hP b h).1
 ·intro _
  exact (aP _ _ rfl hn (λh=>(hP a h).2 rfl))
 ·intro i
  have g:xs.all sx=true:=by
   unfold fresh at i; dsimp only at i; split at i
   ·assumption
   ·cases i
  rw[r.sx_nil g]
  refine ⟨λb h=>?_,by simp⟩
  rcases O9.mp h with rfl | h
  ·exact hn
  ·cases h
theorem R.isList (r:R h v (.list xs) as):∃ a vs n bs,v = .ref a/\h.get? a=rg ⟨.type "list", Q4,.seq vs.toArray n,#[]⟩/\RA h vs xs bs/\as=a::bs:=by
 cases r with
 | list e r=>exact (iX _ _ _ _ rfl e r rfl)
theorem R.isList_k {h:PE}{v:N8}{xs:vk OU}{as:vk O1}{G:Prop}(r:R h v (.list xs) as) (k:∀ a vs n bs,v = .ref a->h.get? a=rg ⟨.type "list", Q4,.seq vs.toArray n,#[]⟩->RA h vs xs bs->as=a::bs->G):G:=fK (R.isList r) k
theorem R.isTup (r:R h v (.tuple xs) as):∃ a vs n,v = .ref a/\h.get? a=rg ⟨.type "tuple", Q4,.seq vs.toArray n,#[]⟩/\RA h vs xs as:=by
 cases r with
 | tuple e r=>exact (cU _ _ _ rfl e r)
theorem isL {h:PE}{a:O1}{vs:vk N8}{n:ON}(e:h.get? a=rg ⟨.type "list", OC,.seq vs.toArray n,#[]⟩):h.IsList a vs.toArray:=(aD _ e rfl (bx n rfl))
theorem wa:okE ns e (.Slice a b c p)=false:=by cases e<;>rfl
theorem rn:okE ns e (.Starred a p)=false:=by cases e<;>rfl
theorem j9 (h:okE ns e x=Gt) (o i:N8):T9 x Oz o i=WW [o,i] (WX o i):=by
 cases x<;>first | rfl | (rw[wa] at h; cases h)
theorem aG (h:okE ns e x=Gt) (rest:vk Expr) (env:Env):PV (x::rest) env=(Oz,SW x env)::PV rest env:=by
 cases x<;>first | rfl | (rw[rn] at h; cases h)
section
variable {va vb:N8}{as bs:vk O1}{A:Pq}{P:O1->Prop}{s:OA}{Q:N8->OA->Prop}{Er:N8->OA->Prop}
theorem Iq (r:R s.heap v y bs) (z:sz y=Gt) (h:∀ b∈bs,P b):EP P s (mk (.d y)) v s:=tN (x:=.d y) ⟨r,z⟩ h
def FE (h:PE) (v:N8) (i:OF) (u:N8):Prop:=∃ (a:O1) (T:Ot) (vs:vk N8) (n k:ON),v = .ref a/\h.get? a=rg ⟨.type T,OC,.seq vs.toArray n,#[]⟩/\bI i vs.length=rg k/\vs[k]? = rg u
theorem gp (h:bI i n=rg k):(0<=i/\i<n/\k=i.toNat)\/(i<0/\-(n:OF)<=i/\k=(i+n).toNat):=by
 unfold bI at h
 by_cases h0:0<=i
 ·rw[OD h0] at h
  by_cases h1:i<n
  ·rw[OD h1] at h; exact .inl ⟨h0,h1,(vj h).symm⟩
  ·rw[OB h1] at h; exact nN h
 ·rw[OB h0] at h
  by_cases h1:-(n:OF)<=i
  ·rw[OD h1] at h; exact .inr ⟨by exact IK h0,h1,(vj h).symm⟩
  ·rw[OB h1] at h; exact nN h
theorem xF {value slice:Expr}{a:O1}{vs:vk N8}{n k:ON}{i:OF}{t:Tok}{v:N8}(hs:∀ o i,T9 slice Oz o i=WW [o,i] (WX o i)) (ea:s.heap.get? a=rg ⟨.type "list", OC,.seq vs.toArray n,#[]⟩) (hl:vs.length<=2^22)
  (hk:bI i vs.length=rg k) (hv:vs[k]? = rg v) (hQ:Q v s):OQ (OT prog w) A (S8 value slice (.ref a) (.int i t)) Q Er s:=by
 rcases gp hk with ⟨h0,h1,rfl⟩ | ⟨h0,h1,rfl⟩
 ·exact Yd (isL ea).typeIs UP.lookup (wpAny_getItem_list (isL ea) h0 (IT hl h1) (by simpa using hv) hQ) (hs _ _)
 ·refine Yd (isL ea).typeIs UP.lookup (wpAny_getItem_list_neg (isL ea) h0 (by rw[Pf]; exact h1) (DV hl h1) ?_ hQ) (hs _ _)
  rw[Pf]
  simpa using hv
theorem A4 {value slice:Expr}{a:O1}{vs:vk N8}{n k:ON}{i:OF}{t:Tok}{v:N8}(hs:∀ o i,T9 slice Oz o i=WW [o,i] (WX o i)) (ea:s.heap.get? a=rg ⟨.type "tuple", OC,.seq vs.toArray n,#[]⟩) (hl:vs.length<=2^22)
  (hk:bI i vs.length=rg k) (hv:vs[k]? = rg v) (hQ:Q v s):OQ (OT prog w) A (S8 value slice (.ref a) (.int i t)) Q Er s:=by
 have h:YU i (vs.toArray).size=rg k:=by
  rw[Pf]
  rcases gp hk with ⟨h0,h1,rfl⟩ | ⟨h0,h1,rfl⟩
  ·have j:¬ i<0:=by exact DL h0
   simp[YU,j,h0,h1]
  ·exact seqIndex_neg h0 h1
 have g:-(2^22)<=i/\i<2^22:=by rcases gp hk with ⟨h0,h1,_⟩ | ⟨h0,h1,_⟩<;>lia
 exact Yd (ag _ ea rfl) slot_tuple_getitem.lookup (Zm ea (F6 g) (Hz g) h (by simpa using hv) hQ) (hs _ _)
theorem wW (hs:∀ o i,T9 slice Oz o i=WW [o,i] (WX o i)) (he:elem x i=rg y) (ra:R s.heap va x as) (za:sz x=Gt)
  (hQ:∀ v ds,FE s.heap va i v->R s.heap v y ds->sz y=Gt->(∀ b∈ds,b∈as)->Q v s):OQ (OT prog w) A (S8 value slice va (.int i t)) Q Er s:=by
 unfold elem at he
 cases hx:asL x with
 | some xs=>
  rw[hx] at he
  cases cK hx
  refine be he λk hk j=>?_
  refine ra.isList_k λa p n cs z m g u=>?_
  (clear ra; subst z)
  subst u
  refine aw (g.get j) λv ds l q hd=>?_
  have h:=sz_list.mp za
  have hl:=g.length
  rw[<- hl] at hk h
  exact xF hs m h.1 hk l (hQ v ds (lY a _ p n k rfl m hk l) q (h.2 y (QC j)) λb hb=>.tail _ (hd b hb))
 | none=>
  rw[hx] at he
  cases ht:asT x with
  | none=>rw[ht] at he; exact nN he
  | some xs=>
   rw[ht] at he
   cases mP ht
   refine be he λk hk j=>?_
   refine aV (ra.isTup) λa p n r m g=>?_
   (clear ra; subst r)
   refine aw (g.get j) λv ds l q hd=>?_
   have h:=sz_tuple.mp za
   have hl:=g.length
   rw[<- hl] at hk h
   exact A4 hs m h.1 hk l (hQ v ds (lY a _ p n k rfl m hk l) q (h.2 y (QC j)) hd)
theorem yq (hs:∀ o i,T9 slice Oz o i=WW [o,i] (WX o i)) (he:eO x i = .ok r) (ra:R s.heap va x as) (za:sz x=Gt) (rb:R s.heap vb i bs) (ha:∀ a∈as,P a)
  (hQ:∀ v s',EP P s r v s'->Q v s'):OQ (OT prog w) A (S8 value slice va vb) Q Er s:=by
 refine aU he λk hk he=>?_
 refine aU he λy m he=>?_
 (have l:=Out.ok.inj he; clear he; subst l)
 cases cE hk
 refine rb.isInt_k λuu h g=>?_
 (clear rb; subst h)
 subst g
 exact wW hs m ra za λv q _ j z n=>hQ v s (Iq j z λb p=>ha b (n b p))
end
theorem wE:eO x y≠.exc c:=BN c
theorem mj (hXP:∀ c s s₁ x s',Kp s s₁->XP c s₁ x s'->XP c s x s') {a b:E}(Sa:SimE fns k C XP a) (Sb:SimE fns k C XP b):SimE fns k C XP (.sub a b):=by
 intro ex A env σ P s Q Er g X q t u
 replace g:=G1 g
 revert g; refine λh=>Pc h (λi=>?_) (λg=>?_)
 ·clear h
  refine bl (i) λn m l j g=>?_
  clear i
  subst j
  simp only[OJ] at g
  simp only[eQ] at q t u
  refine Ye (lW hXP Sa Sb (f:=λx y=>match x,y with | .d x,.d y=>eO x y | _,_=>.bad) g.1 g.2 X q u (λx y c=>?_) λx y r hr hf va vb o as bs kp p z ha hb=>?_)
  ·split
   ·exact wE
   ·simp
  ·split at hf
   ·exact yq (j9 g.2) hf p.1 p.2 z.1 ha λv s' e=>t r hr v s' (.shift kp e)
   ·exact nB hf
 ·cases g
theorem ii {M:UO}{A:Pq}{env:Env}{e:Expr}{Q:N8->OA->Prop}{E:N8->OA->Prop}{s:OA}(h:OQ M A (SW e env) Q E s):OQ M A (evalPart (rg e) env) Q E s:=by rw[evalPart_some]; exact h
theorem dq {M:UO}{A:Pq}{env:Env}{Q:N8->OA->Prop}{E:N8->OA->Prop}{s:OA}(h:Q .none s):OQ M A (evalPart OC env) Q E s:=by rw[evalPart_none]; exact OL h
section
theorem lN {value slice:Expr}{xs ys:vk OU}{lo hi st:OE OF}(hs:∃ ops:N8->N8->vk N8,∀ o i,T9 slice Oz o i=WW (ops o i) (WX o i)) (ra:R s.heap va (.list xs) as) (za:sz (.list xs)=Gt) (ha:∀ a∈as,P a)
  (pl:IsPart vl lo) (pu:IsPart vu hi) (pt:IsPart vt st) (h0:st≠rg 0) (hy:∀ vs cs,RA s.heap vs xs cs->∃ ws ds,YV vs.toArray lo hi st=ws.toArray/\RA s.heap ws ys ds/\∀ b∈ds,b∈cs) (hz:∀ y∈ys,sz y=Gt) (hl:ys.length<=2^22)
  (hQ:∀ v s',EP P s (.d (.list ys),fresh ys) v s'->Q v s') :
  OQ (OT prog w) A (S8 value slice va (.ref s.heap.objs.size)) Q Er {s with heap:=s.heap.push {cls:=.type "slice", data:=.fields #[vl,vu,vt] } }:=by
 refine ra.isList_k λa vs n cs m t j l=>?_
 (clear ra; subst m)
 subst l
 refine aw (hy vs cs j) λws ds e1 h u=>?_
 revert hs; intro g
 refine aj (g) λops hs=>?_
 clear g
 have k:=(sz_list.mp za).1
 have z:=j.length
 refine Yd ((isL t).push _).typeIs UP.lookup (wpAny_getItem_list_slice ((isL t).push _) (Z5 ..) pl pu pt h0 ?_ (by rw[Pf]; unfold Rc; exact Ak k z)) (hs _ _)
 rw[e1]
 refine hQ _ _ (EP.aList (n:=0) (as:=ds) ((Kp.push s _ s.toks).trans (Kp.push _ _ s.toks)) ?_ (Pa _ rfl) ((h.keep λuu uu e=>OO _ e).keep λuu uu e=>OO _ e) hl hz λb p=>⟨ha b (.tail _ (u b p)),?_⟩)
 ·exact Qa (by simp)
 ·refine ba (h.there b p) λuu uu e=>?_
  have r:=Rh e
  intro q
  have x:b=s.heap.objs.size+1:=q.trans (Tr ..)
  rw[x] at r
  exact Yg.mpr (Vm _) r
end
theorem xW:iE x y≠.exc c:=by unfold iE; split<;>(try split)<;>simp
set_option tactic.hygienic true in
theorem BY (hXP:∀ c s s₁ x s',Kp s s₁->XP c s₁ x s'->XP c s x s') {a b:E}(Sa:SimE fns k C XP a) (Sb:SimE fns k C XP b):SimE fns k C XP (.slo a b):=by
 intro ex A env σ P s Q Er h X nb hQ hE
 replace h:=Kl h
 revert h; refine λm=>Pc m (λn=>?_) (λh=>?_)
 ·clear m
  refine cR (n) λv l p pos q h=>?_
  clear n
  subst q
  simp only[OJ] at h
  simp only[f8] at nb hQ hE
  have t:=lW hXP Sa Sb (f:=λx y=>match x,y with | .d x,.d y=>iE x y | _,_=>.bad) (G:=λva vb g=>OQ (OT prog w) A (S8 v (.Slice (rg l) OC OC p) va (.ref g.heap.objs.size)) Q Er
    {g with heap:=g.heap.push {cls:=.type "slice", data:=.fields #[vb,.none,.none] } }) h.1 h.2 X nb hE (λx y c=>by split; exact xW; simp) λx y r hr hf va vb g as bs kp ra rb ha hb=>by
   split at hf
   ·unfold iE at hf
    split at hf
    ·split at hf<;>cases hf
     rename_i xs i hi
     revert rb; intro j
     refine ae (j) λrb _=>?_
     clear j
     refine rb.isInt_k λuu MS MP=>?_
     (clear rb; subst MS)
     subst MP
     refine lN (lo:=rg i) (hi:=OC) (st:=OC) ⟨λo i=>[i,o],λuu uu=>rfl⟩ ra.1 ra.2 ha (.int _ _) .none .none (by simp) (λvs cs r=>?_) (λy hy=>(sz_list.mp ra.2).2 y (So hy)) (by have:=(sz_list.mp ra.2).1; rw[QU]; exact KL this) λv s' e=>hQ _ hr v s' (.shift kp e)
     refine af (r.drop i.toNat) λds rd hd=>?_
     refine (aP _ ds ?_ rd hd)
     have:=slicePick_from' vs.toArray i.toNat
     rw[P4 hi.1] at this
     exact this
    ·exact nB hf
   ·exact nB hf
  exact Ye (Qk t (λo s₁ z=>ZB (ii (Qk z (λvb g u=>dq (dq u)) λuu uu e=>e))) λuu uu e=>e)
 ·cases h
theorem qz:∀ l:vk N8,(Qe l.length).filterMap (l[·]?)=l
 | []=>rfl
 | x::l=>by
  rw[Pz,List.range_succ_eq_map,Sy,Ww]
  exact RM (x :: ·) (qz l)
theorem o6 {α β:Type}{f g:α->OE β}:∀ {l:vk α},(∀ x∈l,f x=g x)->l.filterMap f=l.filterMap g
 | [],_=>rfl
 | x::l,h=>by rw[Sy,Sy,h x (.head _),o6 λy i=>h y (.tail _ i)]
theorem w2 (l:vk N8):YV l.toArray OC OC (rg (-1))=l.reverse.toArray:=by
 have j:Yh ((l.length:OF)-1) (-1) (-1)=(Qe l.length).map λ(k:ON)=>((l.length:OF)-1 + -1*(k:OF)).toNat:=by
  unfold Yh
  dsimp only
  congr 2
  rw[OB (by decide)]
  by_cases h:(l.length:OF)-1 > -1
  ·rw[OD h,show (- -1:OF)=1 by decide,Int.ediv_one]; exact IF
  ·rw[OB h]; exact HU h
 have i:YV l.toArray OC OC (rg (-1))=((Yh ((l.length:OF)-1) (-1) (-1)).filterMap (l.toArray[·]?)).toArray:=rfl
 rw[i,j,Ww]
 congr 1
 have g:=qz l.reverse
 rw[We] at g
 rw[<- g]
 refine o6 λk hk=>?_
 have hk:=V0.mp hk
 show l.toArray[((l.length:OF)-1 + -1*(k:OF)).toNat]? = _
 rw[List.getElem?_toArray,List.getElem?_reverse hk]
 congr 1
 exact JE
theorem Bq (Sa:SimE fns k C XP a):SimE fns k C XP (.rev a):=by
 intro ex A env σ P s Q Er h X nb hQ hE
 replace h:=HB h
 revert h; refine λj=>Pc j (λl=>?_) (λh=>?_)
 ·clear j
  refine iZ (l) λv i n1 p1 p2 p pos n h=>?_
  clear l
  subst n
  simp only[OJ,OZ] at h
  refine ae (h) λu oa=>?_
  clear h
  subst u
  simp only[fU] at nb hQ hE
  refine aN nb λn1 n2=>?_
  refine Ye (Sa oa X n1 (λx hx va g Ea=>?_) λc hc=>hE c (by rw[hc]; rfl))
  have q:=n2 x hx
  obtain ⟨ka,as,t,ha,ht,z⟩:=Ea
  clear ht z
  obtain ⟨x,m⟩:=x
  dsimp only at q t
  split at q
  ·unfold xp at q
   split at q
   ·rename_i xs
    refine ZB (dq (dq (ii (Wo (Wu (neg_int ?_))))))
    refine lN (s:={g with toks:=g.toks+1+1 }) (P:=λa=>P a\/s.heap.get? a=OC) (ys:=xs.reverse) (lo:=OC) (hi:=OC) (st:=rg (-1)) ⟨λo i=>[o,i],λuu uu=>rfl⟩ t.1 t.2 ha .none .none (.int _ _) (by simp) (λvs cs r=>?_) (λy hy=>(sz_list.mp t.2).2 y (by simpa using hy)) (by simpa using (sz_list.mp t.2).1) λv s' e=>hQ _ (by rw[hx]; rfl) v s' (.shift (ka.trans (.toks g _)) e)
    refine af (r.reverse) λds rd hd=>?_
    exact (aP _ ds (w2 vs) rd hd)
   ·exact OW rfl q
  ·exact OW rfl q
 ·cases h
end
section
variable (fns:Fns) (k:ON) (C:Calls) (XP:Ot->OA->N8->OA->Prop)
noncomputable def fg (es:Es):Prop:=∀ {xs:vk Expr}{pos:Pos}{A:Pq}{env:Env}{σ:St}{P:O1->Prop}{s:OA}{Q:vk N8->OA->Prop}{Er:N8->OA->Prop},
 dj env.scope.names es xs=Gt->Cx fns k A P s.heap env σ->evs C es σ≠.bad ->
 (∀ l,evs C es σ = .ok l->∀ vs s',EPs P s l vs s'->Q vs s')->(∀ c,evs C es σ = .exc c->∀ x s',XP c s x s'->Er x s') ->
 OQ (OT prog w) A (Vu (Rq pos (PV xs env))) Q Er s
end
section
theorem mW:fg fns k C XP .nil:=by
 intro q m A o p P s Q Er l X r n t
 replace l:=sM l
 revert l; refine λg=>Pc g (λi=>?_) (λl=>?_)
 ·clear g
  refine ae (i) λj l=>?_
  clear i
  subst j
  exact Sp (n [] rfl [] s ⟨.refl s,[],.nil,λuu h=>(nomatch h),λuu=>⟨λuu h=>(nomatch h),.nil⟩⟩)
 ·cases l
theorem RV.there (r:RV h v x as):∀ a∈as,∃ o,h.get? a=rg o:=by
 intro a ha
 cases x with
 | d x=>obtain ⟨_,_,e⟩:=r.1.there a ha; exact ⟨_,e⟩
 | dic0=>obtain ⟨b,_,rfl,_,⟨o,_,_,e,_⟩,_⟩:=r; rw[OK.mp ha]; exact ⟨o,e⟩
 | dicI ks=>obtain ⟨b,_,rfl,_,⟨o,_,_,e,_⟩⟩:=r; rw[OK.mp ha]; exact ⟨o,e⟩
 | dicT ks=>obtain ⟨b,_,_,rfl,_,⟨o,_,_,e,_⟩,_⟩:=r; rw[OK.mp ha]; exact ⟨o,e⟩
 | rule c d n=>
  refine C8 (r) λx D o m bs t u p h1 i l h4 h5 z y g k=>?_
  clear r
  subst i
  refine bl (g) λj es ep e q=>?_
  clear g
  rcases O9.mp ha with rfl | ha
  ·exact ⟨o,l⟩
  ·rcases O9.mp ha with rfl | ha
   ·exact ⟨j,e⟩
   ·obtain ⟨_,_,e⟩:=k.2.2.2.2.1.there a ha; exact ⟨_,e⟩
 | err c=>obtain ⟨b,o,_,rfl,e,_⟩:=r; rw[OK.mp ha]; exact ⟨o,e⟩
theorem RVs.length (r:RVs h xs vs as):vs.length=xs.length:=by
 induction r with
 | nil=>rfl
 | cons a q ih=>exact RM (· + 1) ih
theorem iH (hXP:∀ c s s₁ x s',Kp s s₁->XP c s₁ x s'->XP c s x s') {e:E}{es:Es}(S:SimE fns k C XP e) (Ss:fg fns k C XP es):fg fns k C XP (.cons e es):=by
 intro xs pos A env σ P s Q Er g X nb hQ hE
 replace g:=qe g
 revert g; refine λi=>Pc i (λj=>?_) (λg=>?_)
 ·clear i
  refine av (j) λx xs m g=>?_
  clear j
  subst m
  simp only[OJ] at g
  simp only[a9] at nb hQ hE
  refine aN nb λn1 n2=>?_
  refine Qv (S g.1 X n1 (λr q v s₁ Ea=>?_) λc y=>hE c (by rw[y]; rfl)) (aG g.1 xs env)
  refine aN (n2 r q) λn3 _=>?_
  refine Ss g.2 (X.k Ea.keeps.k) n3 (λl hl vs n Eb=>?_) λc y z s' hz=>hE c (by rw[q,Out.ok_bind,y]; rfl) z s' (hXP c s s₁ z s' Ea.keeps hz)
  obtain ⟨p,as,ra,ha,_,hd⟩:=Ea
  obtain ⟨kb,bs,rb,hb,u⟩:=Eb
  refine hQ (r::l) (by rw[q,Out.ok_bind,hl]; rfl) (v::vs) n ⟨p.trans kb,as++bs,.cons (ra.k kb.k) rb,λa h=>(O7.mp h).elim (ha a) λh=>(hb a h).imp id p.none,λt=>?_⟩
  simp only[allDeep,List.all_cons,OJ,Pk] at t
  have d1:=hd t.1
  have d2:=u t.2
  refine ⟨λa h=>(O7.mp h).elim (d1.1 a) λh=>p.none (d2.1 a h),R9.mpr ⟨d1.2,d2.2,λa h1 b h2 e=>?_⟩⟩
  subst e
  refine aj (ra.there a h1) λo ho=>?_
  rw[d2.1 a h2] at ho; exact nN ho
 ·cases g
theorem qo:∀ {l:vk (V×Mode)}{ds:vk OU}{vs:vk N8}{as:vk O1},bZ l=rg ds->RVs h (l.map (·.1)) vs as->RA h vs ds as/\∀ x∈ds,sz x=Gt
 | [],ds,_,_,e,r=>by
  cases r; simp[bZ] at e; subst e
  exact ⟨.nil,λuu h=>nomatch h⟩
 | (.d x,m)::l,ds,_,_,e,r=>by
  simp only[bZ,Sj] at e
  revert e; intro g
  refine af (g) λk e i=>?_
  clear g
  subst i
  cases r with
  | cons r q=>
   refine ae (qo e q) λa b=>?_
   exact ⟨.cons r.1 a,λy j=>(O9.mp j).elim (λq=>q▸r.2) (b y)⟩
 | (.dic0,m)::l,ds,_,_,e,r=>by simp[bZ] at e
 | (.dicI _,m)::l,ds,_,_,e,r=>by simp[bZ] at e
 | (.dicT _,m)::l,ds,_,_,e,r=>by simp[bZ] at e
 | (.rule _ _ _,m)::l,ds,_,_,e,r=>by simp[bZ] at e
theorem g6:∀ {l:vk (V×Mode)}{ds:vk OU},bZ l=rg ds->ds.length=l.length
 | [],ds,e=>by simp[bZ] at e; subst e; rfl
 | (.d x,m)::l,ds,e=>by
  simp only[bZ,Sj] at e
  revert e; intro g
  refine af (g) λi e h=>?_
  clear g
  subst h
  rw[Pz,Pz,g6 e]
 | (.dic0,m)::l,ds,e=>by simp[bZ] at e
 | (.dicI _,m)::l,ds,e=>by simp[bZ] at e
 | (.dicT _,m)::l,ds,e=>by simp[bZ] at e
 | (.rule _ _ _,m)::l,ds,e=>by simp[bZ] at e
theorem iL:∀ {es:Es}{ns:vk (Str×PG)}{xs:vk Expr}{σ:St}{l:vk (V×Mode)},dj ns es xs=Gt->evs C es σ = .ok l->l.length=xs.length
 | .nil,ns,xs,σ,l,ok,e=>by
  replace ok:=sM ok
  revert ok; refine λh=>Pc h (λj=>?_) (λok=>?_)
  ·clear h
   refine ae (j) λm ok=>?_
   clear j
   subst m
   simp only[bi] at e; (have p:=Out.ok.inj e; clear e; subst p); rfl
  ·cases ok
 | .cons a es,ns,xs,σ,l,ok,e=>by
  replace ok:=qe ok
  revert ok; refine λg=>Pc g (λi=>?_) (λok=>?_)
  ·clear g
   refine av (i) λo n k ok=>?_
   clear i
   subst k
   simp only[OJ] at ok
   simp only[a9] at e
   refine Out.bind_k e λx _ e=>?_
   refine Out.bind_k e λr q e=>?_
   (have p:=Out.ok.inj e; clear e; subst p)
   rw[Pz,Pz,iL ok.2 q]
  ·cases ok
set_option tactic.hygienic true in
theorem yy {es:Es}(Ss:fg fns k C XP es):SimE fns k C XP (.list es):=by
 intro ex A env σ P s Q Er g X nb hQ hE
 replace g:=CJ g
 revert g; refine λj=>Pc j (λm=>?_) (λg=>?_)
 ·clear j
  refine av (m) λu t o g=>?_
  clear m
  subst o
  simp only[OJ,Pk] at g
  simp only[bO] at nb hQ hE
  refine aN nb λn1 n2=>?_
  refine wpAny_List (Ss g.2 X n1 (λl x vs i Ea=>?_) λc hc=>hE c (by rw[hc]; rfl))
  have n3:=n2 l x
  split at n3
  ·rename_i ds p
   obtain ⟨q,as,y,ha,hd⟩:=Ea
   refine ae (qo p y) λr z=>?_
   have e1:=y.length
   rw[OV] at e1
   have e2:=iL g.2 x
   have e3:=g6 p
   refine ⟨by unfold Rc; exact zz g e1 e2,hQ (.d (.list ds),if allDeep l then .deep else .top) (by rw[x,Out.ok_bind,p]) _ _ ⟨q.trans (.push i _ _),i.heap.objs.size::as,⟨.list (Pa _ rfl) (r.keep λuu uu e=>OO _ e),sz_list.mpr ⟨by exact zB g e2 e3,z⟩⟩,?_,?_,?_⟩⟩
   ·intro a h
    rcases O9.mp h with rfl | h
    ·exact .inr (q.none (bj _))
    ·exact ha a h
   ·intro _
    exact (aP _ _ rfl (q.none (bj _)) (λh=>ba (r.there _ h) λuu uu e=>eK e rfl))
   ·intro v
    have n:allDeep l=true:=by
     dsimp only at v
     split at v
     ·assumption
     ·cases v
    refine ⟨λa h=>?_,Q0.mpr ⟨λh=>ba (r.there _ h) λuu uu e=>eK e rfl,(hd n).2⟩⟩
    rcases O9.mp h with rfl | h
    ·exact q.none (bj _)
    ·exact (hd n).1 a h
  ·exact OW rfl n3
 ·cases g
set_option tactic.hygienic true in
theorem rL (Ss:fg fns k C XP es):SimE fns k C XP (.tup es):=by
 intro ex A env σ P s Q Er g X y hQ hE
 replace g:=E9 g
 revert g; refine λh=>Pc h (λi=>?_) (λg=>?_)
 ·clear h
  refine bl (i) λu t q j g=>?_
  clear i
  subst j
  simp only[OJ,Pk] at g
  simp only[eS] at y hQ hE
  refine aN y λn1 n2=>?_
  refine wpAny_Tuple (Ss g.2 X n1 (λl v vs o Ea=>?_) λc hc=>hE c (by rw[hc]; rfl))
  have n3:=n2 l v
  split at n3
  ·rename_i ds n
   obtain ⟨ka,as,x,ha,hd⟩:=Ea
   refine ae (qo n x) λr z=>?_
   have e1:=x.length
   rw[OV] at e1
   have e2:=iL g.2 v
   have e3:=g6 n
   refine ⟨by unfold Rc; exact zz g e1 e2,hQ (.d (.tuple ds),if allDeep l then .deep else .sh) (by rw[v,Out.ok_bind,n]) _ _ ⟨ka.trans (.push o _ _),as,⟨.tuple (Pa _ rfl) (r.keep λuu uu e=>OO _ e),sz_tuple.mpr ⟨by exact zB g e2 e3,z⟩⟩,ha,?_,?_⟩⟩
   ·intro m
    dsimp only at m
    split at m<;>cases m
   ·intro m
    have p:allDeep l=true:=by
     dsimp only at m
     split at m
     ·assumption
     ·cases m
    exact hd p
  ·exact OW rfl n3
 ·cases g
theorem yP:SimE fns k C XP .edic:=by
 intro ex A p q P s Q Er l X r o t
 replace l:=Ck l
 revert l; refine λg=>Pc g (λi=>?_) (λl=>?_)
 ·clear g
  refine af (i) λm j l=>?_
  clear i
  subst j
  have n:=modules_low X.ge.nolim
  refine wpAny_Dict_empty (o (.dic0,.deep) rfl _ _ ⟨.push s _ _,[s.heap.objs.size],(iU _ rfl rfl (Re.mpr (T7 n)) (Jag _) ?_),λa h=>.inr ?_,λh=>(by cases h),λuu=>⟨λa h=>?_,by simp⟩⟩)
  ·exact (fI _ (#[]) 0 (Pa _ rfl) ⟨rfl,rfl,rfl⟩ rfl rfl (λuu h=>(nomatch h)) .nil)
  ·rw[OK.mp h]; exact bj _
  ·rw[OK.mp h]; exact bj _
 ·cases l
end
theorem gi {α:Type}{r:α->α->Prop}(anti:∀ a b,r a b->r b a->a=b):∀ {l l':vk α},l.Perm l'->l.Pairwise r->l'.Pairwise r->l=l'
 | [],l',p,_,_=>by rw[p.nil_eq]
 | a::l,[],p,_,_=>by cases p.eq_nil
 | a::l,b::l',p,h,h'=>by
  refine ae (S9.mp h) λk j=>?_
  refine ae (S9.mp h') λg i=>?_
  have e:a=b:=by
   rcases O9.mp (p.mem_iff.mp (T2 (a:=a) (l:=l))) with e | e
   ·exact e
   ·rcases O9.mp (p.mem_iff.mpr (T2 (a:=b) (l:=l'))) with e' | e'
    ·exact e'.symm
    ·exact anti a b (k b e') (g a e)
  (clear h' g; subst e)
  rw[gi anti ((Yi a).mp p) j i]
theorem ig (ns:vk OF):(ns.mergeSort (λa b=>decide (a<=b))).Pairwise (·<=·):=by
 have:=Q9 (le:=λa b:OF=>decide (a<=b)) (λa b c h1 h2=>by simp at *; exact zq h1 h2) (λa b=>by simp; exact zH) ns
 exact this.imp (by intro a b h; simpa using h)
theorem nC:∀ {xs:vk OF}{m:OF},eh xs=rg m->m∈xs/\∀ x∈xs,x<=m
 | [],_,h=>by simp[eh] at h
 | x::xs,m,h=>by
  simp only[eh,Jab] at h
  have key:∀ (l:vk OF) (a:OF),(l.foldl (λa b=>if a<b then b else a) a=a\/l.foldl (λa b=>if a<b then b else a) a∈l)/\a<=l.foldl (λa b=>if a<b then b else a) a/\∀ y∈l,y<=l.foldl (λa b=>if a<b then b else a) a:=by
   intro l
   induction l with
   | nil=>intro a; simp
   | cons b l ih=>
    intro a
    rw[Wx]
    refine aH (ih (if a<b then b else a)) λh1 h2 h3=>?_
    refine ⟨?_,?_,λy hy=>?_⟩
    ·rcases h1 with h1 | h1
     ·rw[h1]; split<;>simp
     ·exact .inr (.tail _ h1)
    ·split at h2<;>rename_i hc<;>simp only[hc,Ri,P2]<;>lia
    ·rcases O9.mp hy with rfl | hy
     ·split at h2<;>rename_i hc<;>simp only[hc,Ri,P2]<;>lia
     ·exact h3 y hy
  refine aH (key xs x) λh1 h2 h3=>?_
  rw[h] at h1 h2 h3
  exact ⟨h1.elim (λe=>e▸.head _) (.tail _),λy hy=>(O9.mp hy).elim (λe=>e▸h2) (h3 y)⟩
section
theorem dQ {env:Env}{x:Ot}(h:bJ env.scope.names x=Gt):env.kindOf (mL x)=rg .globalImplicit:=by
 unfold bJ at h
 exact OZ.mp h
theorem nd (h:aT x=Gt):(mL x==("__debug__" : Str))=false:=by
 unfold aT at h
 simp only[OJ,PL] at h
 exact h.1
section
theorem e7 {id:Ot}{args:vk Expr}(eok:EnvOk env) (ge:GE fns s.heap) (hm:id∈bnames) (hg:bJ env.scope.names id=Gt) (hd:(mL id==("__debug__" : Str))=Oz)
  (h:OQ (OT prog w) A (Va pos (bval id) [] (Rq pos (PV args env)) []) Q Er s):OQ (OT prog w) A (SW (.Call (.Name (mL id) p) args [] pos) env) Q Er s:=by
 refine aq (ge.glob) λl i _ g=>?_
 refine af (ge.blt) λm k j=>?_
 exact Xs (Calls.Name_function_global eok.kind (dQ hg) (Calls.loadGlobal_builtin (eok.glob▸i) (g id hm) (eok.blt▸k) (j id hm) h) hd)
theorem kO {id:Ot}{x:Expr}{xs:vk Expr}{e:E}(ns:vk (Str×PG)) (hx:okE ns e x=Gt) (ha:(Rq pos (PV xs env)).any (·.1)=Oz)
  (h:OQ (OT prog w) A (Vu (Rq pos (PV (x::xs) env))) (λvs s₁=>OQ (OT prog w) A (R3 (.builtin id) vs) Q Er s₁) Er s):OQ (OT prog w) A (Va pos (.builtin id) [] (Rq pos (PV (x::xs) env)) []) Q Er s:=by
 rw[aG hx] at h ⊢
 exact Calls.callWith_builtin ha (Calls.evalArgs_plain (Qk h (λvs s₁ g=>g) λuu uu e=>e))
theorem gq (ns:vk (Str×PG)) (hx:okE ns e x=Gt) (ha:(Rq pos (PV xs env)).any (·.1)=Oz)
  (h:OQ (OT prog w) A (Vu (Rq pos (PV (x::xs) env))) (λvs s₁=>OQ (OT prog w) A (R3 (.type T) vs) Q Er s₁) Er s):OQ (OT prog w) A (Va pos (.type T) [] (Rq pos (PV (x::xs) env)) []) Q Er s:=by
 rw[aG hx] at h ⊢
 exact PySem.callWith_type ha (Calls.evalArgs_plain (Qk h (λvs s₁ g=>g) λuu uu e=>e))
theorem ir (ns:vk (Str×PG)) (hx:okE ns e x=Gt) (h:OQ (OT prog w) A (SW x env) (λv s₁=>G [v] s₁) Er s):OQ (OT prog w) A (Vu (Rq pos (PV [x] env))) G Er s :=
 Qv (Qk h (λuu uu g=>Sp g) λuu uu e=>e) (aG hx [] env)
end
section
theorem yv (he:b1D .len x = .ok r) (ra:RV s.heap va x as) (hQ:∀ v s',EP P s r v s'->Q v s'):OQ (OT prog w) A (R3 (.builtin "len") [va]) Q Er s:=by
 replace he:=aS he
 revert he; intro i
 refine af (i) λy z he=>?_
 clear i
 cases bB z
 cases ht:asT y with
 | none=>
  simp only[ht] at he
  replace he:=aS he
  revert he; intro h
  refine af (h) λt hx he=>?_
  clear h
  cases cK hx
  (have o:=Out.ok.inj he; clear he; subst o)
  refine ra.1.isList_k λa u n cs m q g l=>?_
  subst m
  subst l
  have j:=g.length
  have p:=(sz_list.mp ra.2).1
  refine Calls.call_len_list (isL q) (by rw[Pf]; exact Kb j p) (hQ _ _ ?_)
  rw[Pf,j]
  exact .int (.toks s _)
 | some t=>
  simp only[ht] at he
  (have o:=Out.ok.inj he; clear he; subst o)
  cases mP ht
  refine aV (ra.1.isTup) λa u n k q g=>?_
  subst k
  have j:=g.length
  have p:=(sz_tuple.mp ra.2).1
  refine PySem.P.len_tuple q (by rw[Pf]; exact ET j p) (hQ _ _ ?_)
  rw[Pf,j]
  exact .int (.toks s _)
theorem nZ (hT:T = "list" \/ T = "tuple") (ea:s.heap.get? a=rg ⟨.type T,OC,.seq vs.toArray n,#[]⟩) (ra:RA s.heap vs xs cs) (hl:xs.length<=2^22)
  (hz:∀ x∈xs,sz x=Gt) (ha:∀ b∈cs,P b) (hQ:∀ v s',EP P s (.d (.list xs),fresh xs) v s'->Q v s'):OQ (OT prog w) A (R3 (.type "list") [.ref a]) Q Er s:=by
 have e:=ra.length
 refine call_list_seq a hT ea rfl rfl (λj l h k=>hQ _ _ ?_) (by rw[Pf]; unfold Rc; exact Ak hl e)
 have g:Kp s {s with heap:=j }:=(ay j s.toks rfl (.of h))
 refine EP.aList g (bj _) k (ra.keep h) hl hz λb i=>⟨ha b i,?_⟩
 refine ba (ra.there b i) λuu uu e=>?_
 exact eK e
theorem wL (ra:R s.heap va (.list xs) as) (za:sz (.list xs)=Gt) (ha:∀ b∈as,P b) (hQ:∀ v s',EP P s (.d (.tuple xs),if xs.all sx then .deep else .sh) v s'->Q v s'):OQ (OT prog w) A (R3 (.type "tuple") [va]) Q Er s:=by
 refine ra.isList_k λa t n z l y g k=>?_
 (clear ra; subst l)
 subst k
 have e:=g.length
 have r:=sz_list.mp za
 refine call_tuple_list (isL y) (λx p=>hQ _ _ ?_) (by rw[Pf]; unfold Rc; exact Ez e r)
 have m:Kp s {s with heap:=x.push {cls:=.type "tuple", data:=.seq t.toArray } }:=(ay _ s.toks rfl (.of λb o q=>OO _ (p b o q)))
 refine ⟨m,z,⟨.tuple (Pa _ rfl) ((g.keep p).keep λuu uu e=>OO _ e),sz_tuple.mpr r⟩,λb u=>.inl (ha b (.tail _ u)),λi=>?_,λi=>?_⟩
 ·dsimp only at i; split at i<;>cases i
 ·have j:xs.all sx=true:=by
   dsimp only at i
   split at i
   ·assumption
   ·cases i
  rw[g.sx_nil j]
  exact ⟨λuu h=>(nomatch h),.nil⟩
theorem sG (ra:R s.heap va (.list xs) as) (hi:aK xs=rg ns) (h64:xs.length<64) (hQ:∀ v s',EP P s (.d (aa (ns.mergeSort (λa b=>decide (a<=b)))),.deep) v s'->Q v s') :
  OQ (OT prog w) A (R3 (.builtin "sorted") [va]) Q Er s:=by
 refine ra.isList_k λa vs n cs m ea i l=>?_
 (clear ra; subst m)
 subst l
 have e:=i.length
 refine aH (i.ints hi) λy k j=>?_
 subst k
 subst j
 rw[OV] at e h64
 refine sorted_ints (isL ea) y (zp h64 e) λg o z r p=>hQ _ _ ?_
 have e':o=ns.mergeSort (λa b=>decide (a<=b)):=gi (λa b h h'=>Sg h h') (r.trans (QA ns _).symm) p (ig ns)
 (clear r p; subst e')
 refine aj (sortedAll_at s.heap vs g) λe x=>?_
 have u:=List.length_mergeSort (le:=λa b:OF=>decide (a<=b)) ns
 have t:EP P s (.d (.list ((ns.mergeSort (λa b=>decide (a<=b))).map .int)),fresh ((ns.mergeSort (λa b=>decide (a<=b))).map .int)) (.ref (s.heap.objs.size+1)) {s with heap:=sortedAll s.heap vs g } :=
  EP.aList (vs:=g.toList) (n:=e) (as:=[]) (ay _ s.toks rfl (.of λuu uu q=>sortedAll_old q)) (Qa (Vm _)) (by simpa [Ph] using x) (RA.of_ints z) (by rw[OV,u]; exact Al h64) (gD _) λuu h=>(nomatch h)
 have ef:fresh ((ns.mergeSort (λa b=>decide (a<=b))).map .int) = .deep:=by
  unfold fresh
  rw[OD]
  rw[WY,P9]
  intro _ _; rfl
 rw[ef] at t
 exact t
end
end
section
noncomputable def noIt (c:N8):Bool:=match c with
 | .type n=>!(["code", "enumerate", "zip", "dict_itemiterator", "dict_reverseitemiterator", "odict_iterator", "itertools.zip_longest", "itertools.pairwise"].contains n)
 | _=>Gt
theorem noIt.code (h:noIt c=Gt) (e:c = .type "code"):False:=by subst e; revert h; decide
structure ItP (A:Pq) (P:O1->Prop) (s:OA) (ds:vk OU) (m:Mode) (it:N8) (s':OA):Prop where
 keeps:Kp s s'
 walk:∃ (I:O1) (fp wr:vk O1) (Pw:ON->N8->Prop) (St:ON->PE->Prop) (F:vk O1),(it = .ref I/\I∈wr)/\Walks prog w A I fp wr ds.length Pw St/\St 0 s'.heap /\
  (∀ b∈wr,s.heap.get? b=OC/\b∉F/\∀ i h,St i h->∃ o,h.get? b=rg o/\(hardB o=Gt/\noIt o.cls=Gt/\∀ C,o.cls≠.ref C)/\∃ fs,o.data = .fields fs)/\(∀ b∈fp,b∈wr\/b∈F)/\(∀ i v,Pw i v->∀ d,ds[i]? = rg d->∃ bs,R s'.heap v d bs/\∀ b∈bs,b∈F) /\
  (∀ b∈F,∃ vs n,s'.heap.get? b=rg ⟨.type "list", OC,.seq vs n,#[]⟩)/\(∀ a∈F,P a\/s.heap.get? a=OC)/\(m = .deep->∀ a∈F,s.heap.get? a=OC)
 small:ds.length<=2^22/\∀ d∈ds,sz d=Gt
variable (fns:Fns) (k:ON) (C:Calls) (XP:Ot->OA->N8->OA->Prop)
noncomputable def dy (it:It):Prop:=∀ {ex:Expr}{A:Pq}{env:Env}{σ:St}{P:O1->Prop}{s:OA}{Q:N8->OA->Prop}{Er:N8->OA->Prop},
 eV env.scope.names it ex=Gt->Cx fns k A P s.heap env σ->bh C it σ≠.bad ->
 (∀ q,bh C it σ = .ok q->∀ i s',ItP A P s q.1 q.2 i s'->Q i s')->(∀ c,bh C it σ = .exc c->∀ x s',XP c s x s'->Er x s') ->
 OQ (OT prog w) A (SW ex env) (λx g=>OQ (OT prog w) A (Xu x) Q Er g) Er s
end
section
theorem wc (ko:Kp s₀ s) (hh:A.handled=OC) (ra:R s.heap va (.list xs) as) (za:sz (.list xs)=Gt)
  (ha:∀ a∈as,P a\/s₀.heap.get? a=OC) (hm:m = .deep->∀ a∈as,s₀.heap.get? a=OC) (hQ:∀ it s',ItP A P s₀ xs m it s'->Q it s'):OQ (OT prog w) A (Xu va) Q Er s:=by
 refine ra.isList_k λa j n cs p x g l=>?_
 subst p
 subst l
 refine WZ (isL x) (hQ _ _ ⟨ko.trans (.push s _ _),⟨s.heap.objs.size,[s.heap.objs.size,a],[s.heap.objs.size],(λi v=>j.toArray[i]? = rg v),(λi h=>h.IsListIter s.heap.objs.size a i/\h.IsList a j.toArray),a::cs,⟨rfl,.head _⟩,?_,⟨(aD _ (Pa _ rfl) rfl rfl),(isL x).push _⟩,?_,?_,?_,?_,ha,hm⟩,sz_list.mp za⟩)
 ·have:=Z6 (prog:=prog) (w:=w) (A:=A) hh s.heap.objs.size a (eK x) j.toArray
  have e:j.toArray.size=xs.length:=by rw[Pf,g.length]
  rw[e] at this
  exact this
 ·intro b hb
  rw[OK.mp hb]
  refine ⟨ko.none (bj _),λh=>?_,λi h r=>?_⟩
  ·refine ba (ra.there _ h) λuu uu e=>?_
   exact eK e rfl
  ·refine aq (r.1) λo e1 u e2=>?_
   exact (aD o e1 ⟨by unfold hardB; rw[u]; decide,by rw[u]; decide,λuu q=>by rw[u] at q; cases q⟩ (bx _ e2))
 ·intro b hb
  rcases O9.mp hb with rfl | hb
  ·exact .inl (.head _)
  ·rw[OK.mp hb]; exact .inr (.head _)
 ·intro i v hv d hd
  refine aw (g.get' (by simpa using hv)) λd' bs t h2 h3=>?_
  rw[hd] at t; (have y:=vj t; clear t; subst y)
  exact (ag bs (h2.keep λuu uu e=>OO _ e) (λb hb=>.tail _ (h3 b hb)))
 ·intro b hb
  refine ba (ra.there b hb) λk z e=>?_
  exact (bG k z (OO _ e))
theorem tK {a b:OF}{i:ON}{d:OU}(h:(cZ a b)[i]? = rg d):d = .int (a+i):=by
 unfold cZ at h
 rw[PO] at h
 refine bk h λj m g=>?_
 subst g
 have:j=i:=by
  have l:=(PF.mp m)
  refine aj (l) λn k=>?_
  clear l
  rw[List.getElem_range] at k
  exact k.symm
 rw[this]
theorem ji (a b:OF):(cZ a b).length=(b-a).toNat:=by simp[cZ]
theorem vQ (a b:OF):∀ d∈cZ a b,sz d=true:=by
 intro d h
 unfold cZ at h
 refine aI h λj _ g=>?_
 (clear h; subst g)
 rfl
theorem lf (ko:Kp s₀ s) (hh:A.handled=OC) (hr:W0 s.heap r a b 1 t u v)
  (hn:(b-a).toNat<=lim) (ha:-(2^60)<=a/\a<2^60/\-(2^60)<=b/\b<2^60) (hQ:∀ it s',ItP A P s₀ (cZ a b) .deep it s'->Q it s'):OQ (OT prog w) A (Xu (.ref r)) Q Er s:=by
 have g:QG a b 1=((b-a).toNat:OF):=by rw[YF]; split<;>lia
 refine wpAny_pyIter_range hr (small_one (Id ha) (Ja ha) (Kq ha) (Hr ha)) (hQ _ _ ⟨ko.trans (.push s _ _),⟨s.heap.objs.size,[s.heap.objs.size],[s.heap.objs.size],(λi v=>∃ t,v = .int (a+i*1) t),(λi h=>ZC h s.heap.objs.size (a+(i:ON)*1) (((b-a).toNat:OF)-(i:ON)) 1),[],⟨rfl,.head _⟩,?_,?_,?_,λb k=>.inl k,?_,λuu h=>(nomatch h),λuu h=>(nomatch h),λuu uu h=>(nomatch h)⟩,⟨by rw[ji]; unfold lim at hn; exact G2 hn,vQ a b⟩⟩)
 ·have:=Walks.range (prog:=prog) (w:=w) (A:=A) hh s.heap.objs.size a 1 (b-a).toNat
  rw[ji]
  exact this
 ·have n:(a+((0:ON):OF)*1)=a:=by simp
  have m:(((b-a).toNat:OF)-((0:ON):OF))=QG a b 1:=by rw[g]; simp
  show ZC _ _ (a+((0:ON):OF)*1) (((b-a).toNat:OF)-((0:ON):OF)) 1
  rw[n,m]
  exact Pa _ rfl
 ·intro b k
  rw[OK.mp k]
  exact ⟨ko.none (bj _),λh=>(nomatch h),λi h j=>(aD _ j ⟨rfl,rfl,by simp⟩ (bx _ rfl))⟩
 ·rintro i v ⟨t,rfl⟩ d l
  rw[tK l]
  exact (ag ([]) (by simpa using R.int (a+i) t) (λuu h=>(nomatch h)))
set_option tactic.hygienic true in
theorem BO (hf:fns.hand=Oz) (Sa:SimE fns k C XP a):dy fns k C XP (.e a):=by
 intro ex A j σ P s Q Er i X n q t
 replace i:okE j.scope.names a ex=true:=i
 simp only[ie,gf,gw] at n q t
 refine aN n λn1 z=>?_
 refine Sa i X n1 (λr o v l Ea=>?_) λc hc=>t c (by rw[hc]; rfl)
 have g:=z r o
 obtain ⟨x,m⟩:=r
 obtain ⟨ka,as,h,ha,ht,p⟩:=Ea
 unfold itV at g
 dsimp only at g h p
 split at g
 ·rename_i u hx
  cases gO hx
  exact wc (m:=m) ka (X.room.1 hf) h.1 h.2 ha (λhm=>(p hm).1) λit y I=>q (u,m) (by rw[o]; rfl) it y I
 ·exact OW rfl g
theorem nR (h:ck a b = .ok q):q=(cZ a b,.deep)/\(b-a).toNat<=lim/\-(2^60)<=a/\a<2^60/\-(2^60)<=b/\b<2^60:=by
 unfold ck at h
 split at h
 ·rename_i i; (have g:=Out.ok.inj h; clear h; subst g); exact ⟨rfl,i⟩
 ·exact nB h
theorem lg:ck a b≠.exc c:=by unfold ck; split<;>simp
set_option tactic.hygienic true in
theorem wx (hf:fns.hand=Oz) (Sn:SimE fns k C XP n):dy fns k C XP (.r1 n):=by
 intro ex A env σ P s Q Er ok X nb hQ hE
 replace ok:=KZ ok
 revert ok; refine λg=>Pc g (λh=>?_) (λok=>?_)
 ·clear g
  refine cR (h) λz y u t j ok=>?_
  clear h
  subst j
  simp only[OJ,OZ] at ok
  refine ae (ok) λo on=>?_
  clear ok
  refine ae (o) λMW hg=>?_
  clear o
  subst MW
  simp only[ie,gf,gw] at nb hQ hE
  refine aN nb λn1 n2=>?_
  refine e7 X.eok X.ge (by decide) hg (by decide) (gq (T:="range") _ on rfl (ir _ on (Sn on X n1 (λr hr v l Ea=>?_) λc hc=>hE c (by rw[hc]; rfl))))
  have p:=n2 r hr
  obtain ⟨x,m⟩:=r
  obtain ⟨ka,as,ra,hx1,hx2,hx3⟩:=Ea
  clear hx1 hx2 hx3
  dsimp only at p ra
  split at p
  ·rename_i i
   cases hq:ck 0 i with
   | bad=>exact OW hq p
   | exc c=>exact OW hq lg
   | ok q=>
    refine aH (nR hq) λM0 h1 h2=>?_
    subst M0
    refine ra.1.isInt_k λuu MS MP=>?_
    (clear ra; subst MS)
    subst MP
    exact Zc (lf (ka.trans (.push l _ _)) (X.room.1 hf) (XG ..) h1 h2 λit s' I=>hQ _ (by rw[hr]; exact hq) it s' I)
  ·exact OW rfl p
 ·cases ok
set_option tactic.hygienic true in
theorem xh (hf:fns.hand=Oz) (hXP:∀ c s s₁ x s',Kp s s₁->XP c s₁ x s'->XP c s x s') {a b:E}(Sa:SimE fns k C XP a) (Sb:SimE fns k C XP b):dy fns k C XP (.r2 a b):=by
 intro ex A env σ P s Q Er ok X nb hQ hE
 replace ok:=Lq ok
 revert ok; refine λl=>Pc l (λm=>?_) (λok=>?_)
 ·clear l
  refine iQ (m) λOg Ok NN N5 N7 p ok=>?_
  clear m
  subst p
  simp only[OJ,OZ] at ok
  refine ae (ok) λo ob=>?_
  clear ok
  refine ae (o) λn oa=>?_
  clear o
  refine ae (n) λu hg=>?_
  clear n
  subst u
  simp only[ie,gf,gw] at nb hQ hE
  refine aN nb λn1 n2=>?_
  refine e7 X.eok X.ge (by decide) hg (by decide) (gq (T:="range") _ oa (by rw[aG ob]; rfl) (Qv ?_ (aG oa _ env)))
  refine Sa oa X n1 (λx hx va s₁ Ea=>?_) λc hc=>hE c (by rw[hc]; rfl)
  refine aN (n2 x hx) λn3 n4=>?_
  refine ir _ ob (Sb ob (X.k Ea.keeps.k) n3 (λy hy vb r Eb=>?_) λc hc z s' hz=>hE c (by rw[hx,Out.ok_bind,hc]; rfl) z s' (hXP c s s₁ z s' Ea.keeps hz))
  have n5:=n4 y hy
  obtain ⟨x,mx⟩:=x
  obtain ⟨y,my⟩:=y
  obtain ⟨ka,as,ra,hx1,hx2,hx3⟩:=Ea
  obtain ⟨kb,bs,v,hx4,hx5,hx6⟩:=Eb
  clear hx1 hx2 hx3 hx4 hx5 hx6
  dsimp only at n5 ra v
  split at n5
  ·rename_i i j
   cases hq:ck i j with
   | bad=>exact OW hq n5
   | exc c=>exact OW hq lg
   | ok q=>
    refine aH (nR hq) λt h1 h2=>?_
    subst t
    revert ra; intro h
    refine ae (h) λra _=>?_
    clear h
    revert v; intro g
    refine ae (g) λv _=>?_
    clear g
    cases ra; cases v
    exact call_range_2 (lf ((ka.trans kb).trans (.push r _ _)) (X.room.1 hf) (XG ..) h1 h2 λit s' I=>hQ _ (by rw[hx,Out.ok_bind,hy]; exact hq) it s' I)
  ·exact OW rfl n5
 ·cases ok
end
theorem ca (h:mL x=mL y):x=y:=by
 rw[Vv,Vv] at h
 have k:(x.toList.map Wy).toArray=(y.toList.map Wy).toArray:=by injection h
 have g:x.toList.map Wy=y.toList.map Char.toNat:=by simpa using k
 have j:x.toList=y.toList:=by
  have i:∀ a b:Char,a.toNat=b.toNat->a=b:=λa b e=>Char.ext (UInt32.toNat_inj.mp e)
  generalize x.toList=l at g
  generalize y.toList=m at g
  induction l generalizing m with
  | nil=>cases m with
   | nil=>rfl
   | cons b m=>simp at g
  | cons a l ih=>cases m with
   | nil=>simp at g
   | cons b m=>
    simp only[Qo,Jah] at g
    rw[i a b g.1,ih m g.2]
 exact String.toList_inj.mp j
section
theorem lj (hf:∀ p∈scope.names,p.2 = .free->∃ c,env.cells.lookup p.1=rg c) :
  ∃ cl,Vw scope env=PU cl/\∀ n,(n,QB)∈scope.names->cl.lookup n=env.cells.lookup n:=by
 suffices H:∀ (names:vk (Str×PG)) (g:vk (Str×O1)),(∀ p∈names,p.2 = .free->∃ c,env.cells.lookup p.1=rg c)->(∀ n c,g.lookup n=rg c->env.cells.lookup n=rg c) ->
   ∃ cl,(UD names g (λ(x:Str×PG) (z:vk (Str×O1))=>(if (x.2==QB)=Gt then (do let c <- Zd env x.1; PU (Ra ((x.1,c)::z))) else PU (Ra z):Sem (Pd (vk (Str×O1))))))=PU cl /\
    (∀ n c,cl.lookup n=rg c->env.cells.lookup n=rg c)/\(∀ n,(n,QB)∈names\/(g.lookup n).isSome->(cl.lookup n).isSome) by
  refine aq (H scope.names [] hf (λn c h=>by simp at h)) λcl l k j=>?_
  refine (ag cl ?_ (λn v=>?_))
  ·unfold Vw
   have e:(UD scope.names ([]:vk (Str×O1)) λ(x:Str×PG) (r:vk (Str×O1))=>match x with
     | (name,kind)=>if (kind==QB)=Gt then (do let c <- Zd env name; PU (Ra ((name,c)::r))) else (PU (Ra r):Sem (Pd (vk (Str×O1)))))=PU cl:=l
   exact RM (λt:Sem (vk (Str×O1))=>t>>=λq=>PU q) e
  ·refine bP (j n (.inl v)) λc i=>?_
   rw[i,k n c i]
 intro names
 induction names with
 | nil=>intro g _ o; exact (aD g rfl o (λn v=>v.elim (λh=>nomatch h) id))
 | cons p r ih=>
  intro g hf o
  obtain ⟨n,y⟩:=p
  by_cases hk:y = .free
  ·subst hk
   refine aj (hf (n,.free) (.head _) rfl) λc i=>?_
   obtain ⟨cl,l,k,j⟩:=ih ((n,c)::g) (λp u=>hf p (.tail _ u)) (λm d h=>by
    rw[PQ] at h
    split at h
    ·rename_i e; (have oc:=vj h; clear h; subst oc); rw[OZ.mp e]; exact i
    ·exact o m d h)
   refine (aD cl ?_ k (λm hm=>j m ?_))
   ·rw[UE,<- l]
    simp only[QH,Ri,Zd,i]
    rfl
   ·rcases hm with hm | hm
    ·rcases O9.mp hm with e | hm
     ·cases e; right; simp
     ·exact .inl hm
    ·right
     rw[PQ]
     split
     ·rfl
     ·exact hm
  ·refine aq (ih g (λp u=>hf p (.tail _ u)) o) λcl l k j=>?_
   refine (aD cl ?_ k (λm hm=>j m (hm.imp (λhm=>?_) id)))
   ·rw[UE,<- l]
    have:(y==QB)=false:=by simpa using hk
    simp only[this,Pn,P2]
    rfl
   ·rcases O9.mp hm with e | hm
    ·cases e; exact OW rfl hk
    ·exact hm
theorem jr:∀ (names:vk (Str×PG)) (h:PE) (acc:vk (Str×O1)),(∀ p∈names,p.2 = .cell->p.1=X)->(names.map (·.1)).Nodup ->
  (∀ m,m≠X->(Ry h.objs.size names acc).lookup m=acc.lookup m) /\
  (names.lookup X=rg .cell->∃ c,(Ry h.objs.size names acc).lookup X=rg c/\(YW h names).IsCell c OC/\h.objs.size<=c)/\(names.lookup X≠rg .cell->Ry h.objs.size names acc=acc)
 | [],h,acc,_,_=>⟨λuu uu=>rfl,λe=>(by cases e),λuu=>rfl⟩
 | (n,kd)::r,h,acc,hc,hn=>by
  rw[Qo,Q0] at hn
  unfold Ry YW
  by_cases hk:kd = .cell
  ·subst hk
   have e:n=X:=hc (n,.cell) (.head _) rfl
   subst e
   have hr:∀ p∈r,p.2≠.cell:=λp hp e=>hn.1 (Tx.mpr (ag p hp (hc p (.tail _ hp) e)))
   have hl:r.lookup n≠rg .cell:=λe=>hr _ (mem_of_lookup e) rfl
   simp only[QH,Ri]
   have ih:=jr (X:=n) r (h.push {cls:=.type "cell", data:=.cell OC }) ((n,h.objs.size)::acc) (λp hp e=>OW e (hr p hp)) hn.2
   rw[Tr] at ih
   rw[ih.2.2 hl]
   refine ⟨λm hm=>?_,λuu=>(aD h.objs.size (by simp) (ag _ (Rz r _ _ _ (Pa _ rfl)) rfl) (Pe _)),λhh=>?_⟩
   ·rw[PQ]
    have:(m==n)=false:=by simpa using hm
    rw[this]
   ·exact OW (by simp) hh
  ·have hb:(kd==T3)=false:=by simpa using hk
   simp only[hb,Pn,P2]
   refine aH (jr r h acc (λp hp=>hc p (.tail _ hp)) hn.2) λh1 h2 h3=>?_
   have e:((n,kd)::r).lookup X=rg .cell↔r.lookup X=rg .cell:=by
    rw[PQ]
    by_cases hx:X=n
    ·(clear hc; subst hx)
     simp only[QH]
     constructor
     ·intro e; (have oc:=vj e; clear e; subst oc); exact OW rfl hk
     ·intro e; exact OW (Tx.mpr (ag _ (mem_of_lookup e) rfl)) hn.1
    ·have:(X==n)=false:=by simpa using hx
     rw[this]
   exact ⟨h1,λq=>h2 (e.mp q),λq=>h3 λz=>q (e.mpr z)⟩
theorem B5
  (h:∀ h',h' = YW (s.heap.push {cls:=.type "dict", data:=.dict #[] }) scope.names->Q {scope,locals:=s.heap.objs.size,globals:=env.globals,cells:=Ry (s.heap.objs.size+1) scope.names cl,qual:=env.qual,func:=OC,code:=env.code,frame:=env.frame,builtins:=env.builtins } {s with heap:=h' }) :
  OQ (OT prog w) A (Sz scope env.globals cl [] env.qual OC .none (rg env)) Q Er s:=by
 simp only[Sz,Option.isSome_some,Ri]
 refine If (ZE ?_)
 refine If (Yj _ (λi g cells=>by cases hkc:g==T3<;>simp) _ _ _ _ ?_)
 rw[show ({s with heap:=s.heap.push {cls:=.type "dict", data:=.dict #[] } }:OA).heap.objs.size=s.heap.objs.size+1 from Tr ..]
 exact If (OL (OL (h _ rfl)))
end
section
theorem jf (h:hU ns sc x=Gt):sc.kind = .function/\(sc.names.map (·.1)).Nodup/\(sc.names.lookup (mL x)=rg .local\/sc.names.lookup (mL x)=rg .cell) /\
  ∀ p∈sc.names,(p.2 = .local/\(p.1=mL x\/p.1=mL ".0"))\/p.2 = .globalImplicit\/(p.2 = .cell/\p.1=mL x)\/(p.2 = .free/\(ns.lookup p.1=rg .cell\/ns.lookup p.1=rg .free)):=by
 unfold hU at h
 simp only[OJ,OZ,Pk,Vo,P9] at h
 refine ae (h) λi k=>?_
 clear h
 refine ae (i) λg l=>?_
 clear i
 refine ae (g) λn m=>?_
 clear g
 refine (cX n m l (λp j=>?_))
 rcases k p j with ((h | h) | h) | h
 ·exact .inl h
 ·exact .inr (.inl h)
 ·exact .inr (.inr (.inl h))
 ·exact .inr (.inr (.inr h))
theorem iK {α:Type}{l:vk (Str×α)}{n:Str}{c:α}(hn:(l.map (·.1)).Nodup) (h:(n,c)∈l):l.lookup n=rg c:=by
 induction l with
 | nil=>cases h
 | cons p r ih=>
  rw[Qo,Q0] at hn
  rw[PQ]
  rcases O9.mp h with e | h
  ·(clear h; subst e); simp
  ·have:(n==p.1)=false:=Re.mpr λe=>hn.1 (e▸Tx.mpr (ag _ h rfl))
   rw[this]
   exact ih hn.2 h
theorem hH:∀ {inner:vk (Str×PG)}{n:Str},(fA outer inner).lookup n=(inner.lookup n).map λkd=>if kd == .free&&outer.lookup n==rg .cell then .cell else kd
 | [],n=>rfl
 | (m,kd)::r,n=>by
  have h:=@hH outer r n
  unfold fA at h ⊢
  rw[Qo,PQ,PQ]
  by_cases e:n=m
  ·subst e
   by_cases hc:(kd==QB&&outer.lookup n==rg .cell)=Gt
   ·rw[OD hc]; simp only[QH,Ta]; rw[OD hc]
   ·rw[OB hc]; simp only[QH,Ta]; rw[OB hc]
  ·have i:(n==m)=false:=by simpa using e
   have g:(n==(if (kd==QB&&outer.lookup m==rg .cell)=Gt then (m,T3) else (m,kd)).1)=false:=by split<;>exact i
   simp only[i,g]
   exact h
theorem fB (hk:env.scope.kind = .function):(UQ scope env).names=fA env.scope.names scope.names:=by
 unfold UQ fA Vq
 simp[hk]
theorem t7 (h:bE f (d::ds) = .ok q) :
  ∃ r q',f d = .ok r/\bE f ds = .ok q'/\((r=OC/\q=q')\/∃ y m,r=rg (.d y,m)/\q=(y::q'.1,decide (m = .deep)&&q'.2)):=by
 simp only[bE] at h
 refine Out.bind_k h λr j h=>?_
 refine Out.bind_k h λq' i h=>?_
 refine (aP r q' j i ?_)
 split at h
 ·(have g:=Out.ok.inj h; clear h; subst g); exact .inl ⟨rfl,rfl⟩
 ·(have g:=Out.ok.inj h; clear h; subst g); exact .inr (ay _ _ rfl rfl)
 ·exact nB h
theorem Bj
  (hsc:hU env.scope.names sc x=Gt) (hN:cenv.scope.names=fA env.scope.names sc.names) (hk:cenv.scope.kind = .function) (hg:cenv.globals=env.globals) (hb:cenv.builtins=env.builtins)
  (hc:∀ n,(n,QB)∈sc.names->cenv.cells.lookup n=env.cells.lookup n) (hx:sc.names.lookup (mL x)=rg .cell->∃ c,cenv.cells.lookup (mL x)=rg c)
  (hcd:cenv.code=env.code) (X:Cx fns k A P h env σ) (kp:K h h') (hv:VarIs h' cenv (mL x) v) (hr:R h' v d as) (hz:sz d=Gt) (has:∀ a∈as,P' a) (hP:∀ a,P a->(∃ o,h.get? a=rg o)->P' a) :
  Cx fns k A P' h' cenv (upd σ x (mk (.d d))):=by
 refine du (jf hsc) λuu hnd htg g=>?_
 have z:∀ n,cenv.kindOf n=(sc.names.lookup n).map λkd=>if kd == .free&&env.scope.names.lookup n==rg .cell then .cell else kd:=λn=>by
  show cenv.scope.names.lookup n=_
  rw[hN]; exact hH
 refine ⟨X.room,⟨hk,hg.trans X.eok.glob,hb.trans X.eok.blt,λn u=>?_⟩,X.ge.k kp,(λh1=>aj (X.code h1) λq c=>⟨q,hcd▸c.k kp⟩),(λq=>af (X.frm q) λl a b=>(ag l a (b.k kp))),λy p hp j=>?_⟩
 ·rw[z] at u
  cases e:sc.names.lookup n with
  | none=>rw[e] at u; simp at u
  | some kd=>
   have hm:=mem_of_lookup e
   rcases g _ hm with h1 | h1 | h1 | h1
   ·rw[e,show kd=_ from h1.1] at u; simp at u
   ·dsimp only at h1; rw[e,h1] at u; simp at u
   ·revert h1; intro NL
    refine ae (NL) λh1 h2=>?_
    clear NL
    dsimp only at h1 h2
    (clear hm; subst h2)
    exact hx (by rw[e,h1])
   ·revert h1; intro Nq
    refine ae (Nq) λh1 h2=>?_
    clear Nq
    dsimp only at h1 h2
    (clear e; subst h1)
    refine aj (X.eok.cells n h2) λc hcc=>?_
    exact ⟨c,by rw[hc n hm,hcc]⟩
 ·unfold upd at hp
  by_cases hy:y=x
  ·(clear g hsc htg hx; subst hy)
   rw[OD rfl] at hp
   (have oc:=vj hp; clear hp; subst oc)
   exact (aP v as hv ⟨hr,hz⟩ has)
  ·rw[OB hy] at hp
   have i:=qs j
   rw[z] at i
   have t:mL y≠mL ".0" := by
    unfold varK at j
    intro e
    rw[e] at j
    simp at j
   cases e:sc.names.lookup (mL y) with
   | none=>rw[e] at i; simp at i
   | some kd=>
    have hm:=mem_of_lookup e
    rcases g _ hm with h1 | h1 | h1 | h1
    ·exact OW h1.2 (by
      rintro (h2 | h2)
      ·exact hy (ca h2)
      ·exact t h2)
    ·dsimp only at h1; rw[e,h1] at i; simp at i
    ·exact OW (ca h1.2) hy
    ·revert h1; intro r
     refine ae (r) λh1 h2=>?_
     clear r
     dsimp only at h1 h2
     subst h1
     have hvo:varK env.scope.names y=true:=by
      unfold varK
      rw[OJ]
      refine ⟨by simpa using t,?_⟩
      rcases h2 with h2 | h2<;>rw[h2]
     refine aw (X.vars y p hp hvo) λv' as' a1 a2 a3=>?_
     refine (aP v' as' ?_ (a2.k kp) (λa ha=>hP a (a3 a ha) (a2.there a ha)))
     cases a1 with
     | loc m b1 b2 b3=>exact OW b1 (by unfold Vq; rcases h2 with h2 | h2<;>rw[h2]<;>simp)
     | cell c b1 b2 b3=>
      refine .cell c ?_ (by rw[hc _ hm,b2]) (ij b3 kp)
      rw[z,e]
      rcases h2 with h2 | h2<;>rw[h2]<;>simp
noncomputable def Tgt (cenv:Env) (X:Str) (T:O1) (h:PE):Prop :=
 (∃ m,h.Ns cenv.locals m)/\((cenv.kindOf X=rg .local/\T=cenv.locals)\/(cenv.kindOf X=rg .cell/\cenv.cells.lookup X=rg T/\T≠cenv.locals/\∃ g,h.IsCell T g))
theorem Tgt.at (t:Tgt cenv X T h) (k1:∀ o,h.get? T=rg o->h'.get? T=rg o) (k2:∀ o,h.get? cenv.locals=rg o->h'.get? cenv.locals=rg o):Tgt cenv X T h':=by
 revert t; intro i
 refine ae (i) λk t=>?_
 clear i
 refine aj (k) λm l=>?_
 clear k
 refine ⟨⟨m,l.at' k2⟩,t.imp id λt=>?_⟩
 refine du (t) λa b c g=>?_
 clear t
 refine av (g) λj o e d=>?_
 clear g
 exact (cX a b c (ay j o (k1 _ e) d))
theorem Tgt.onK (t:Tgt cenv X T h) (k:K h h'):Tgt cenv X T h':=by
 revert t; intro i
 refine ae (i) λl t=>?_
 clear i
 refine aj (l) λm n=>?_
 clear l
 refine ⟨⟨m,eZ n k⟩,t.imp id λt=>?_⟩
 refine du (t) λa b c g=>?_
 clear t
 refine aj (g) λj d=>?_
 clear g
 exact (cX a b c (bx j (ij d k)))
theorem Tgt.nostay (t:Tgt cenv X T h) (o:Obj) (e:h.get? T=rg o):¬ Stay o:=by
 revert t; intro i
 refine ae (i) λj t=>?_
 clear i
 refine zN (j) λm x y z v r _=>?_
 clear j
 rcases t with t | t
 ·rw[t.2,v] at e; (have l:=vj e; clear e; subst l); exact Stay.not_data (λuu q=>by rw[r] at q; cases q) λuu uu q=>by rw[r] at q; cases q
 ·refine du (t) λuu uu uu g=>?_
  clear t
  refine av (g) λp u n k=>?_
  clear g
  rw[n] at e; (have l:=vj e; clear e; subst l); exact Stay.not_data (λuu q=>by rw[k] at q; cases q) λuu uu q=>by rw[k] at q; cases q
theorem Tgt.noseq (t:Tgt cenv X T h) (o:Obj) (e:h.get? T=rg o) (vs:OP N8) (n:ON):o.data≠.seq vs n:=by
 revert t; intro i
 refine ae (i) λj t=>?_
 clear i
 refine zN (j) λm y z ep x v _=>?_
 clear j
 intro q
 rcases t with t | t
 ·rw[t.2,x] at e; (have k:=vj e; clear e; subst k); rw[v] at q; cases q
 ·refine du (t) λuu uu uu g=>?_
  clear t
  refine av (g) λr u p l=>?_
  clear g
  rw[p] at e; (have k:=vj e; clear e; subst k); rw[l] at q; cases q
theorem uH (hk:cenv.scope.kind = .function) (t:Tgt cenv X T s.heap)
  (h:∀ h' tk,PR T s.heap h'->Tgt cenv X T h'->VarIs h' cenv X v->Q () {s with heap:=h',toks:=tk }):OQ (OT prog w) A (Vn (.Name X px) cenv v) Q Er s:=by
 revert t; intro g
 refine ae (g) λi t=>?_
 clear g
 refine aj (i) λm l=>?_
 clear i
 rcases t with ⟨t1,rfl⟩ | ⟨t1,t2,t3,n,t4⟩
 ·exact TA (wpAny_storeName_local t1 l (λh' j k=>h h' _ k ⟨⟨_,j⟩,.inl ⟨t1,rfl⟩⟩ (.loc _ t1 j (by simp))) (by rw[hk]; rfl))
 ·exact TA (V1 hk t1 t2 t4 λh' j k=>h h' s.toks k ⟨⟨m,l.sameBut k (P6 t3)⟩,.inr (cX t1 t2 t3 (bx _ j))⟩ (.cell T (.inl t1) t2 j))
noncomputable def CI (f:OU->Out (OE (V×Mode))) (x:Ot) (cenv:Env) (P:O1->Prop) (s sc:OA) (ds:vk OU) (res:vk OU×Pr) (D T:O1) (wr:vk O1) (St:ON->PE->Prop) (n:ON) (s':OA):Prop :=
 ∃ (h:PE) (tk:ON) (j:ON) (vs:vk N8) (ys:vk OU) (as:vk O1) (zs:vk OU) (dp b':Pr),s' = {sc with heap:=h,toks:=tk }/\St j h/\j<=ds.length/\n=ds.length+1-j/\h.PlainList D vs.toArray/\RA h vs ys as/\(∀ y∈ys,sz y=Gt)/\ys.length<=j /\
   (∀ a∈as,a≠D/\(P a\/s.heap.get? a=OC))/\(dp=Gt->(∀ a∈as,s.heap.get? a=OC)/\as.Nodup)/\Tgt cenv (mL x) T h/\KG (λb=>b∉D::T::wr) sc.heap h /\
   bE f (ds.drop j) = .ok (zs,b')/\res=(ys++zs,dp&&b')
set_option maxHeartbeats 2000000 in
theorem vP {f:OU->Out (OE (V×Mode))}{x:Ot}{px:Pos}{elt iter:Expr}{ifs:vk Expr}{sc:Scope}{pos:Pos}{A:Pq}{cenv:Env}{P:O1->Prop}{s s₃:OA}{Rr:Xp->OA->Prop}
  {ds:vk OU}{res:vk OU×Pr}{I D T:O1}{fp wr F:vk O1}{Pw:ON->N8->Prop}{St:ON->PE->Prop}
  (W:Walks prog w A I fp wr ds.length Pw St) (hst:St 0 s₃.heap) (hk:cenv.scope.kind = .function) (ks:K s.heap s₃.heap)
  (hwr:∀ b∈wr,s.heap.get? b=OC/\b∉F/\∀ i h,St i h->∃ o,h.get? b=rg o/\(hardB o=Gt/\noIt o.cls=Gt/\∀ C,o.cls≠.ref C)/\∃ fs,o.data = .fields fs) (hFl:∀ b∈F,∃ vs n,s₃.heap.get? b=rg ⟨.type "list", OC,.seq vs n,#[]⟩) (hfp:∀ b∈fp,b∈wr\/b∈F)
  (hPw:∀ i v,Pw i v->∀ d,ds[i]? = rg d->∃ bs,R s₃.heap v d bs/\∀ b∈bs,b∈F) (hFP:∀ a∈F,P a\/s.heap.get? a=OC)
  (hFo:∀ b∈F,b≠D/\b≠T/\b≠cenv.locals) (hwo:∀ b∈wr,b≠D/\b≠T/\b≠cenv.locals) (hDT:D≠T) (hDL:D≠cenv.locals) (fD:s.heap.get? D=OC) (fT:s.heap.get? T=OC)
  (hsm:ds.length<=2^22/\∀ d∈ds,sz d=Gt) (hres:bE f ds = .ok res) (hD:s₃.heap.PlainList D #[]) (hT:Tgt cenv (mL x) T s₃.heap)
  (Z7:∀ d r,f d = .ok r->sz d=Gt->∀ {s₄:OA}{Q₁:OA->Prop}{Qb:N8->OA->Prop}{Er':N8->OA->Prop}(v:N8) (bs:vk O1),VarIs s₄.heap cenv (mL x) v->R s₄.heap v d bs->(∀ b∈bs,(P b\/s.heap.get? b=OC)/\b≠D)->K s.heap s₄.heap ->
   (r=OC->∀ s₅,Kp s₄ s₅->Q₁ s₅)->(∀ y,r=rg y->∀ u s₅,EP (λb=>(P b\/s.heap.get? b=OC)/\b≠D) s₄ y u s₅->Qb u s₅) ->
   OQ (OT prog w) A (UD ifs Gt λc r=>if r=Gt then do let ok <- isTrue c cenv (SW c cenv); PU (Ra ok) else PU (Ra r)) (λok s₅=>if ok=Gt then OQ (OT prog w) A (SW elt cenv) Qb Er' s₅ else Q₁ s₅) Er' s₄)
  (hR:∀ h tk vs as,h.PlainList D vs.toArray->RA h vs res.1 as->(∀ y∈res.1,sz y=Gt)->res.1.length<=2^22->(∀ a∈as,a≠D/\(P a\/s.heap.get? a=OC))->(res.2=Gt->(∀ a∈as,s.heap.get? a=OC)/\as.Nodup)->(∃ m,h.Ns cenv.locals m) ->
   K s.heap h->Rr (.ok .next) {s₃ with heap:=h,toks:=tk }) :
  Us (OT prog w) A (.compLoop (.ListComp elt [⟨.Name (mL x) px,iter,ifs,0⟩] sc pos) 0 (.ref I) (.ref D) cenv) Rr s₃:=by
 have offw:∀ i h as,St i h->Off h as wr:=λi h as hs b hb o e=>by
  refine aq ((hwr b hb).2.2 i h hs) λo' e' _ Nc=>?_
  refine aj (Nc) λfs q=>?_
  clear Nc
  rw[e] at e'; (have oc:=vj e'; clear e'; subst oc); exact .inl λvs n q'=>by rw[q] at q'; cases q'
 have offT:∀ h as,Tgt cenv (mL x) T h->Off h as [T]:=λh as t b hb o e=>by
  rw[OK.mp hb] at e
  exact .inl (t.noseq o e)
 have offD:∀ h as vs,Heap.PlainList h D vs->(∀ a∈as,a≠D)->Off h as [D]:=λh as vs t hn b hb o e=>by
  rw[OK.mp hb] at e ⊢
  revert t; intro NR
  refine aj (NR) λn t=>?_
  clear NR
  rw[t] at e; (have oc:=vj e; clear e; subst oc)
  exact .inr ⟨by simp,λhm=>hn D hm rfl⟩
 have notw:∀ i h,St i h->∀ b∈wr,∀ o,h.get? b=rg o->¬ Stay o:=λi h hs b hb o e=>by
  refine aq ((hwr b hb).2.2 i h hs) λo' e' MS NU=>?_
  refine aj (NU) λfs q=>?_
  clear NU
  refine ae (MS) λuu hc=>?_
  clear MS
  rw[e] at e'; (have oc:=vj e'; clear e'; (clear uu; subst oc))
  exact λx=>x.elim (λx=>noIt.code hc.1 x.1) λx=>let ⟨_,vs,n,e⟩:=x; by rw[q] at e; cases e
 have outs:∀ b o,s.heap.get? b=rg o->b∉D::T::wr:=λb o e hb=>by
  rcases O9.mp hb with rfl | hb
  ·rw[fD] at e; exact nN e
  rcases O9.mp hb with rfl | hb
  ·rw[fT] at e; exact nN e
  ·rw[(hwr b hb).1] at e; exact nN e
 have outF:∀ b∈F,b∉D::T::wr:=λb hF hb=>by
  rcases O9.mp hb with rfl | hb
  ·exact (hFo _ hF).1 rfl
  rcases O9.mp hb with rfl | hb
  ·exact (hFo _ hF).2.1 rfl
  ·exact (hwr b hb).2.1 hF
 refine codeAny_compLoop_tests
  (CI f x cenv P s s₃ ds res D T wr St) ?_ (ds.length+1)
  (qb s₃.heap s₃.toks 0 ([]) ([]) ([]) res.1 Gt res.2 rfl hst (PZ _) rfl hD .nil (λuu h=>(nomatch h)) (Pe _) (λuu h=>(nomatch h)) (λuu=>⟨λuu h=>(nomatch h),.nil⟩) hT KG.refl (by simpa using hres) (by simp))
 intro n s' MP
 refine Dz (MP) λh tk j vs ys as zs dp b' MT hst' hj MX hD' hra hys hyl has hdp hT' hkp hcl hrs=>?_
 clear MP
 subst MT
 subst MX
 have hDw:D∉wr:=λh=>(hwo D h).1 rfl
 have hTw:T∉wr:=λh=>(hwo T h).2.1 rfl
 have hLw:cenv.locals∉wr:=λh=>(hwo _ h).2.2 rfl
 have kps:K s.heap h:=ks.step hkp outs
 by_cases hlt:j<ds.length
 ·obtain ⟨d,hd⟩:∃ d,ds[j]? = rg d:=⟨_,OY hlt⟩
  have hdd:ds.drop j=d::ds.drop (j+1):=by
   rw[Q6 hlt]
   rw[OY hlt] at hd
   (have oc:=vj hd; clear hd; subst oc); rfl
  rw[hdd] at hcl
  refine aw (t7 hcl) λr q' hf hq l=>?_
  refine W.item j _ _ _ hlt hst' λv h₁ tka hPv hsta hka=>?_
  have g:∀ b o,b∉wr->h.get? b=rg o->h₁.get? b=rg o:=hka
  refine uH hk (hT'.at (λo e=>g _ o hTw e) λo e=>g _ o hLw e) λh₂ tkb hsb hTb hvb=>?_
  have hsb':∀ b o,b∉[T]->h₁.get? b=rg o->h₂.get? b=rg o:=λb o hb e=>hsb.extBut b o (λq=>hb (by simp[q])) e
  have hstb:St (j+1) h₂:=W.frame _ _ _ hsta λb hb o e=>hsb' b o (λq=>by
   rw[OK.mp q] at hb
   rcases hfp _ hb with hb | hb
   ·exact hTw hb
   ·exact (hFo _ hb).2.1 rfl) e
  have hrab:RA h₂ vs ys as:=(hra.off (offw j h as hst') g).off (offT h₁ as (hT'.at (λo e=>g _ o hTw e) λo e=>g _ o hLw e)) hsb'
  have kT:KG (λb=>b∉[T]) h₁ h₂:=.ofW hsb' λb hb o e=>by
   rw[OK.mp hb] at e
   exact (hT'.at (λo e=>g _ o hTw e) λo e=>g _ o hLw e).nostay o e
  have hkpb:KG (λb=>b∉D::T::wr) s₃.heap h₂:=(hkp.trans ((KG.ofW g (notw j h hst')).mono λb hb q=>hb (by simp[q]))).trans (kT.mono λb hb q=>hb (by rw[OK.mp q]; simp))
  refine af (hPw j v hPv d hd) λbs hrv hbs=>?_
  have hrvb:R h₂ v d bs:=hrv.onG hkpb λb hb=>outF b (hbs b hb)
  have kpsb:K s.heap h₂:=ks.step hkpb outs
  have hfpH:∀ b∈fp,∀ o,h₂.get? b=rg o->hardB o=true:=λb hb o e=>by
   rcases hfp b hb with hb | hb
   ·refine aq ((hwr b hb).2.2 _ _ hstb) λo' e' MY _=>?_
    refine ae (MY) λhh _=>?_
    clear MY
    rw[e] at e'; (have oc:=vj e'; clear e'; subst oc); exact hh
   ·refine ba (hFl b hb) λvs' n' e'=>?_
    rw[hkpb.hard (.inl (outF b hb)) e' rfl] at e
    (have oc:=vj e; clear e; subst oc); rfl
  have hDb:h₂.PlainList D vs.toArray:=(hD'.at λo e=>g _ o hDw e).at λo e=>hsb' _ o (by simpa using hDT) e
  have hzd:sz d=true:=hsm.2 d (QC hd)
  refine Z7 d r hf hzd (s₄:={s₃ with heap:=h₂,toks:=tkb }) v bs hvb hrvb (λb hb=>⟨hFP b (hbs b hb),(hFo b (hbs b hb)).1⟩) kpsb (λhr s₅ k₅=>?_) λy hy u s₅ E₅=>?_
  ·(clear hf; subst hr)
   refine av (k₅) λhe tke M1 p=>?_
   clear k₅
   subst M1
   rcases l with ⟨_,l⟩ | ⟨_,_,l,_⟩
   ·subst l
    refine (ag (ds.length+1-(j+1)) (so hlt) (qb he tke (j+1) vs ys as zs dp b' rfl (W.frame _ _ _ hstb λb hb o e=>p.get e (hfpH b hb o e)) hlt rfl (aj (hDb) λn e=>⟨n,p.get e rfl⟩) (hrab.k p) hys (by exact Qu ‹_›) has hdp (hTb.onK p) (hkpb.trans (p.mono λuu uu=>trivial)) hq hrs))
   ·exact nN l
  ·obtain ⟨M2,bs',hrve,hb1,hb2,hb3⟩:=E₅
   refine av (M2) λhe tke M3 p=>?_
   clear M2
   subst M3
   dsimp only at p hrve hb1 hb2 hb3
   rcases l with ⟨l,_⟩ | ⟨z,m,l,hq2⟩
   ·rw[hy] at l; exact nM l
   ·rw[hy] at l; (have oc:=vj l; clear l; (clear hb2 hy; subst oc))
    revert hrve; intro NJ
    refine ae (NJ) λhrve hze=>?_
    clear NJ
    have hDe:he.PlainList D vs.toArray:=aj (hDb) λn e=>⟨n,p.get e rfl⟩
    have hbD:∀ a∈bs',a≠D:=λa ha q=>by
     rcases hb1 a ha with h | h
     ·exact h.2 q
     ·refine aj (hDb) λn e=>?_
      clear hDb
      rw[q,e] at h; exact nM h
    have hrae:=(hrab.k p).append (.cons hrve .nil)
    have hl:vs.length=ys.length:=hra.length
    refine Vb (hsz:=by rw[Pf,hl]; unfold Rc; exact JP hsm hyl hlt) hDe λh₆ hlf hsf=>?_
    have hsf':∀ b o,b∉[D]->he.get? b=rg o->h₆.get? b=rg o:=λb o hb e=>hsf.extBut b o (λq=>hb (by simp[q])) e
    have hne:∀ a∈as++(bs'++[]),a≠D:=λa ha=>by
     rcases O7.mp ha with ha | ha
     ·exact (has a ha).1
     ·exact hbD a (by simpa using ha)
    cases hq2
    refine (ag (ds.length+1-(j+1)) (so hlt) (qb h₆ tke (j+1) (vs++[u]) (ys++[z]) (as++(bs'++[])) q'.1 (dp&&decide (m = .deep)) q'.2 rfl ?_ hlt rfl ?_ (hrae.off (offD he _ _ hDe hne) hsf') ?_ ?_ ?_ ?_ ?_ ?_ ?_ ?_))
    ·refine W.frame _ _ _ hstb λb hb o e=>hsf' b o (λq=>?_) (p.get e (hfpH b hb o e))
     rw[OK.mp q] at hb
     rcases hfp _ hb with hb | hb
     ·exact hDw hb
     ·exact (hFo _ hb).1 rfl
    ·simpa using hlf
    ·intro y hy'
     rcases O7.mp hy' with h | h
     ·exact hys y h
     ·rw[OK.mp h]; exact hze
    ·rw[O3,O6]; exact oO hyl
    ·intro a ha
     refine ⟨hne a ha,?_⟩
     rcases O7.mp ha with ha | ha
     ·exact (has a ha).2
     ·rcases hb1 a (by simpa using ha) with h | h
      ·exact h.1
      ·right
       cases e:s.heap.get? a with
       | none=>rfl
       | some o=>obtain ⟨_,e'⟩:=kpsb.there e; rw[e'] at h; exact nM h
    ·intro hdm
     simp only[OJ,Pk] at hdm
     refine ae (hdm) λhd1 hd2=>?_
     clear hdm
     refine ae (hdp hd1) λg1 g2=>?_
     refine ae (hb3 hd2) λg3 g4=>?_
     refine ⟨λa ha=>?_,?_⟩
     ·rcases O7.mp ha with ha | ha
      ·exact g1 a ha
      ·have h:=g3 a (by simpa using ha)
       cases e:s.heap.get? a with
       | none=>rfl
       | some o=>obtain ⟨_,e'⟩:=kpsb.there e; rw[e'] at h; exact nM h
     ·rw[RH,R9]
      refine ⟨g2,g4,λa ha b hb q=>?_⟩
      subst q
      refine ba (hrab.there a ha) λuu uu e=>?_
      rw[g3 a hb] at e; exact nN e
    ·exact (hTb.onK p).at (λo e=>hsf' _ o (by simpa using Ne.symm hDT) e) λo e=>hsf' _ o (by simpa using Ne.symm hDL) e
    ·refine (hkpb.trans (p.mono λuu uu=>trivial)).trans ((KG.ofW hsf' λb hb o e=>?_).mono λb hb q=>hb (by rw[OK.mp q]; simp))
     refine aj (hDe) λn ee=>?_
     clear hDe
     rw[OK.mp hb,ee] at e
     (have oc:=vj e; clear e; subst oc)
     exact Stay.not_cls (by simp) (by simp)
    ·exact hq
    ·rw[hrs]; simp[Bool.and_assoc]
 ·have hjl:j=ds.length:=by exact yZ hj hlt
  (clear hj hlt; subst hjl)
  rw[SA] at hcl
  cases hcl
  refine W.done _ _ _ hst' λh₁ tka hka=>?_
  have g:∀ b o,b∉wr->h.get? b=rg o->h₁.get? b=rg o:=hka
  have e1:res=(ys,dp):=by rw[hrs]; simp
  (clear hres hrs; subst e1)
  refine hR h₁ tka vs as (hD'.at λo e=>g _ o hDw e) (hra.off (offw _ h as hst') g) hys (Lt hyl hsm.1) has hdp ((hT'.at (λo e=>g _ o hTw e) λo e=>g _ o hLw e).1) (kps.step (KG.ofW g (notw _ h hst')) λb o e q=>by rw[(hwr b q).1] at e; cases e)
end
section
theorem mH {ex:Expr}(ok:eV ns it ex=Gt) (env:Env) (v:N8):UR ex env v=PU v:=by
 cases ex with
 | Set es p=>
  cases it with
  | e a=>exfalso; cases a<;>exact PN (show Oz=Gt from ok)
  | r1 n=>exact PN (show Oz=Gt from ok)
  | r2 a b=>exact PN (show Oz=Gt from ok)
 | _=>rfl
set_option maxHeartbeats 1000000 in
theorem fL {RR:N8->O1->Xp->OA->Prop}{f:OU->Out (OE (V×Mode))}{x:Ot}{px:Pos}{elt iter:Expr}{ifs:vk Expr}{sc:Scope}{pos:Pos}{A:Pq}{env:Env}{σ:St}{P:O1->Prop}{s:OA}{Er:N8->OA->Prop}
  {ds:vk OU}{res:vk OU×Pr}(hsc:hU env.scope.names sc x=Gt) (X:Cx fns k A P s.heap env σ) (hres:bE f ds = .ok res)
  (Z7:∀ d r,f d = .ok r->∀ {cenv:Env}{s₃:OA}{P':O1->Prop}{Q₁:OA->Prop}{Qb:N8->OA->Prop}{Er':N8->OA->Prop},cenv.scope.names=fA env.scope.names sc.names->Cx fns k A P' s₃.heap cenv (upd σ x (mk (.d d))) ->
   (r=OC->∀ s₄,Kp s₃ s₄->Q₁ s₄)->(∀ y,r=rg y->∀ v s₄,EP P' s₃ y v s₄->Qb v s₄) ->
   OQ (OT prog w) A (UD ifs Gt λc r=>if r=Gt then do let ok <- isTrue c cenv (SW c cenv); PU (Ra ok) else PU (Ra r)) (λok s₄=>if ok=Gt then OQ (OT prog w) A (SW elt cenv) Qb Er' s₄ else Q₁ s₄) Er' s₃)
  {m:Mode}{i:N8}{s₂:OA}(I:ItP A P s ds m i s₂)
  (hR:∀ D C h tk m,EP P s (.d (.list res.1),if res.2 then .deep else .top) (.ref D) {s₂ with heap:=h,toks:=tk }->h.Ns C m->s.heap.get? C=OC->RR (.ref D) C (.ok .next) {s₂ with heap:=h,toks:=tk }) {cl:vk (Str×O1)}(hcl:∀ n,(n,QB)∈sc.names->cl.lookup n=env.cells.lookup n) :
  OQ (OT prog w) A (newObj (.type "list") (.seq #[]) OC) (λacc s₃=>
   OQ (OT prog w) A (Sz sc env.globals cl [] env.qual OC .none (rg env)) (λcenv s₄=>
    Us (OT prog w) A (.compStart (.ListComp elt [⟨.Name (mL x) px,iter,ifs,0⟩] sc pos) 0 i acc {cenv with scope:=UQ sc env }) (RR acc cenv.locals) s₄) Er s₃) Er s₂:=by
 refine du (jf hsc) λhk hnd htg hnames=>?_
 obtain ⟨t,MU,hsm⟩:=I
 refine uW (MU) λI fp wr Pw St F MR W hst hwr hfp hPw hF hFP _=>?_
 clear MU
 replace MR:=MR.1
 subst MR
 refine RF (B5 λu j=>?_)
 have hsz:(s₂.heap.push {cls:=.type "list", data:=.seq #[] }).objs.size=s₂.heap.objs.size+1:=Tr ..
 dsimp only at j ⊢
 rw[hsz]
 generalize hD:s₂.heap.objs.size=D at *
 obtain ⟨c1,c2,c3⟩:=jr (X:=mL x) sc.names ((s₂.heap.push {cls:=.type "list", data:=.seq #[] }).push {cls:=.type "dict", data:=.dict #[] }) cl (λp hp e=>by
  rcases hnames p hp with h | h | h | h
  ·rw[h.1] at e; cases e
  ·rw[h] at e; cases e
  ·exact h.2
  ·rw[h.1] at e; cases e) hnd
 rw[Tr,hsz] at c1 c2 c3
 rw[<- j] at c2
 have l:∀ b o,s₂.heap.get? b=rg o->u.get? b=rg o:=λb o e=>by
  rw[j]; exact Rz _ _ _ _ (OO _ (OO _ e))
 have hDc:u.PlainList D #[]:=⟨0,by rw[j]; exact Rz _ _ _ _ (OO _ (hD▸Pa _ rfl))⟩
 have z:u.Ns (D+1) (λuu=>OC):=by
  have:=ZF (s₂.heap.push {cls:=.type "list", data:=.seq #[] }) (.type "dict")
  rw[hsz] at this
  rw[j]
  exact this.keeps (Rz _ _)
 have old:∀ b,(∃ o,s₂.heap.get? b=rg o)->b<D:=λb ⟨o,e⟩=>hD▸Rh e
 have g:∀ b,D<=b->s.heap.get? b=none:=λb hb=>by
  cases e:s.heap.get? b with
  | none=>rfl
  | some o=>exact OW (old b (t.k.there e)) (Yg.mpr hb)
 obtain ⟨T,hT,hTD,hkc⟩:∃ T,Tgt {scope:=UQ sc env,locals:=D+1,globals:=env.globals,cells:=Ry (D+1+1) sc.names cl,qual:=env.qual,func:=OC,code:=env.code,frame:=env.frame,builtins:=env.builtins } (mL x) T u/\D+1<=T /\
   (sc.names.lookup (mL x)=rg .cell->(Ry (D+1+1) sc.names cl).lookup (mL x)=rg T):=by
  have hkd:(UQ sc env).names.lookup (mL x)=(sc.names.lookup (mL x)).map λkd=>if kd == .free&&env.scope.names.lookup (mL x)==rg .cell then .cell else kd:=by
   rw[fB X.eok.kind]; exact hH
  rcases htg with ht | ht
  ·refine (aD (D+1) ⟨⟨_,z⟩,.inl ⟨?_,rfl⟩⟩ (Pe _) (λq=>?_))
   ·show (UQ sc env).names.lookup _=_
    rw[hkd,ht]; rfl
   ·rw[ht] at q; cases q
  ·refine aq (c2 ht) λc g1 g2 g3=>?_
   refine (aD c ⟨⟨_,z⟩,.inr (cX ?_ g1 ?_ (bx _ g2))⟩ (SZ g3) (λuu=>g1))
   ·show (UQ sc env).names.lookup _=_
    rw[hkd,ht]; rfl
   ·exact T7 g3
 have hstc:St 0 u:=W.frame _ _ _ hst λb _ o e=>l b o e
 refine codeAny_compStart_list ?_ ?_
 all_goals
  first
  | (refine W.self 0 _ _ _ hstc ?_)
  | skip
 all_goals
  refine vP (s:=s) (P:=P) (T:=T) W hstc hk (KG.trans t.k (K.of l)) hwr (λb hb=>ba (hF b hb) λvs n e=>(bG vs n (l _ _ e))) hfp (λi v hv d hd=>af (hPw i v hv d hd) λbs h1 h2=>(ag bs (h1.keep l) h2)) hFP (λb hb=>?_) (λb hb=>?_) (P8 hTD) (P8 (TQ D)) (g D (Pe _)) (g T (SZ hTD)) hsm hres hDc hT ?_ ?_
  ·refine ba (hF b hb) λuu uu e=>?_
   have:=old b ⟨_,e⟩
   exact ⟨P8 this,P8 (OG this (SZ hTD)),P8 (S4 this)⟩
  ·refine af ((hwr b hb).2.2 0 _ hst) λo e _=>?_
   have:=old b ⟨_,e⟩
   exact ⟨P8 this,P8 (OG this (SZ hTD)),P8 (S4 this)⟩
  ·intro d r hf hz s₄ Q₁ Qb Er' v bs hv hr hbs kps h1 h2
   refine Z7 d r hf (fB X.eok.kind) (Bj hsc (fB X.eok.kind) hk rfl rfl (λn hn=>?_) (λq=>⟨T,hkc q⟩) rfl X kps hv hr hz hbs λa ha hex=>⟨.inl ha,λq=>?_⟩) h1 h2
   ·show (Ry (D+1+1) sc.names cl).lookup n=_
    rw[c1 n λq=>?_,hcl n hn]
    subst q
    have:=iK hnd hn
    rw[this] at htg
    rcases htg with q | q<;>cases q
   ·(clear h2 hDc z hT hTD hbs hkc hsz hv old; subst q)
    refine aj (hex) λo e=>?_
    clear hex
    rw[g _ (Pe _)] at e; exact nN e
  ·intro h tk vs as hp hra hys hyl has hdp hm hkp
   revert hm; intro Nq
   refine aj (Nq) λm' hm=>?_
   clear Nq
   refine aj (hp) λn hpl=>?_
   clear hp
   refine hR D (D+1) h tk m' ?_ hm (g _ (Vm D))
   refine av (t) λhhb tkb MZ hkkb=>?_
   clear t
   (clear j hF hPw hR l hst hsz old; subst MZ)
   refine ⟨(ay h tk rfl hkp),D::as,⟨.list hpl hra,sz_list.mpr ⟨hyl,hys⟩⟩,?_,?_,?_⟩
   ·intro a ha
    rcases O9.mp ha with rfl | ha
    ·exact .inr (g _ (Pe _))
    ·exact (has a ha).2
   ·exact λuu=>(aP D as rfl (g _ (Pe _)) (λq=>(has D q).1 rfl))
   ·intro hm'
    dsimp only at hm'
    have hb:res.2=true:=by
     cases e:res.2 with
     | true=>rfl
     | false=>rw[e] at hm'; cases hm'
    refine ⟨λa ha=>?_,Q0.mpr ⟨λq=>(has D q).1 rfl,(hdp hb).2⟩⟩
    rcases O9.mp ha with rfl | ha
    ·exact g _ (Pe _)
    ·exact (hdp hb).1 a ha
theorem R.sameBut {h h':PE}{C:O1}{m:Str->OE N8}{v:N8}{d:OU}{as:vk O1}(r:R h v d as) (hm:h.Ns C m) (hs:PR C h h'):R h' v d as:=by
 refine r.off (wr:=[C]) (λb g o e=>?_) λb o g e=>hs.extBut b o (λq=>g (by simp[q])) e
 rw[OK.mp g] at e
 refine aV (hm) λp t u k j _=>?_
 clear hm
 rw[k] at e; (have i:=vj e; clear e; subst i)
 exact .inl λl n q=>by rw[j] at q; cases q
theorem EP.sameBut {P:O1->Prop}{s s₂:OA}{h h':PE}{tk:ON}{C:O1}{m:Str->OE N8}{d:OU}{md:Mode}{v:N8}(E:EP P s (.d d,md) v {s₂ with heap:=h,toks:=tk }) (hm:h.Ns C m) (hC:s.heap.get? C=OC) (hs:PR C h h') :
  EP P s (.d d,md) v {s₂ with heap:=h',toks:=tk }:=by
 obtain ⟨i,as,g,t,p,n⟩:=E
 refine av (i) λhh l e x=>?_
 clear i
 refine ae (g) λr z=>?_
 clear g
 cases s₂; cases s; cases e
 refine aV (id hm) λo' es ep y k _=>?_
 refine ⟨(ay h' tk rfl (K.step x (KG.ofW (wr:=[C]) (λb o j e=>hs.extBut b o (λq=>j (by simp[q])) e) λb j o e=>?_) λb o e q=>?_)),as,⟨R.sameBut r hm hs,z⟩,t,p,n⟩
 ·rw[OK.mp j,y] at e; (have u:=vj e; clear e; subst u)
  exact Stay.not_data (λuu q=>by rw[k] at q; cases q) λuu uu q=>by rw[k] at q; cases q
 ·rw[OK.mp q,hC] at e; exact nN e
theorem nO {elt iter:Expr}
  (hsc:hU env.scope.names sc x=Gt) (X:Cx fns k A P h env σ) (hset:∀ v,UR iter env v=PU v)
  (h:∀ cl:vk (Str×O1),(∀ n,(n,QB)∈sc.names->cl.lookup n=env.cells.lookup n)->OQ (OT prog w) A (SW iter env) (λv s₁=>OQ (OT prog w) A (Xu v) (λi t=>OQ (OT prog w) A (newObj (.type "list") (.seq #[]) OC) (λacc u=>
   OQ (OT prog w) A (Sz sc env.globals cl [] env.qual OC .none (rg env)) (λcenv s₄=>
    Us (OT prog w) A (.compStart (.ListComp elt [⟨.Name (mL x) px,iter,ifs,0⟩] sc pos) 0 i acc {cenv with scope:=UQ sc env }) (Vc (OT prog w) A Er OC Q acc cenv.locals) s₄) Er u) Er t) Er s₁) Er s) :
  OQ (OT prog w) A (SW (.ListComp elt [⟨.Name (mL x) px,iter,ifs,0⟩] sc pos) env) Q Er s:=by
 refine du (jf hsc) λhk l q g=>?_
 obtain ⟨cl,m,j⟩:=lj (scope:=sc) (env:=env) (λp r e=>by
  rcases g p r with h | h | h | h
  ·rw[h.1] at e; cases e
  ·rw[h] at e; cases e
  ·rw[h.1] at e; cases e
  ·exact X.eok.cells p.1 h.2)
 rw[eval_ListComp]
 exact U0 (use:=OC) rfl hset m hk (λy o e=>by rw[<- e]; exact iK l o) (h cl j)
theorem e8 {α:Type}{o:Out α}(h:o.calm≠.bad):∃ a,o = .ok a:=by
 cases o with
 | ok a=>exact ⟨a,rfl⟩
 | exc c=>exact OW rfl h
 | bad=>exact OW rfl h
theorem xM {elt:E}(Si:dy fns k C XP it) (Se:SimE fns k C XP elt):SimE fns k C XP (.comp elt x it):=by
 intro ex A env σ P s Q Er ok X nb hQ hE
 replace ok:=v0 ok
 revert ok; refine λg=>Pc g (λj=>?_) (λok=>?_)
 ·clear g
  refine oN (j) λNz Od N6 Oe Ow z n ok=>?_
  clear j
  subst n
  simp only[OJ,OZ] at ok
  refine ae (ok) λp oe=>?_
  clear ok
  refine ae (p) λo oi=>?_
  clear p
  refine ae (o) λMS t=>?_
  clear o
  subst MS
  simp only[dS] at nb hQ hE
  refine aN nb λn1 n2=>?_
  refine nO t X (mH oi env) λcl hcl=>Si oi X n1 (λq hq i s₂ I=>?_) λc u=>hE c (by rw[u]; rfl)
  refine aj (e8 (bf (n2 q hq)).1) λres l=>?_
  refine fL (RR:=λacc C=>Vc (OT prog w) A Er OC Q acc C) (ds:=q.1) t X l (λd r hf cenv sc P' Q₁ Qb Er' hN X' h1 h2=>XV ?_) I (λD C h tk m E hm hC=>(ag m hm (λh' hs=>hQ _ (by rw[hq,Out.ok_bind,l]; rfl) _ _ (E.sameBut hm hC hs)))) hcl
  rw[OD rfl]
  refine Out.bind_k hf λy hy e=>?_
  (have oc:=Out.ok.inj e; clear e; (clear h1 hf; subst oc))
  refine Se (hN▸oe) X' (by rw[hy]; simp) (λr hr v s' E=>h2 r (by rw[hy] at hr; (have oc:=Out.ok.inj hr; clear hr; (clear E; subst oc)); rfl) v s' E) λc u=>by rw[hy] at u; cases u
 ·cases ok
theorem sU {elt c:E}(Si:dy fns k C XP it) (Se:SimE fns k C XP elt) (Sc:SimT fns k C XP c):SimE fns k C XP (.compif elt x it c):=by
 intro ex A env σ P s Q Er ok X nb hQ hE
 replace ok:=pY ok
 revert ok; refine λl=>Pc l (λn=>?_) (λok=>?_)
 ·clear l
  refine iZ (n) λNN N5 N7 Ov Ou Oq Ox z ok=>?_
  clear n
  subst z
  simp only[OJ,OZ] at ok
  refine ae (ok) λMP oe=>?_
  clear ok
  refine ae (MP) λp j=>?_
  clear MP
  refine ae (p) λo oi=>?_
  clear p
  refine ae (o) λMY hsc=>?_
  clear o
  subst MY
  simp only[cQ] at nb hQ hE
  refine aN nb λn1 n2=>?_
  refine nO hsc X (mH oi env) λcl hcl=>Si oi X n1 (λq hq i s₂ I=>?_) λc hc=>hE c (by rw[hc]; rfl)
  refine aj (e8 (bf (n2 q hq)).1) λres u=>?_
  refine fL (RR:=λacc C=>Vc (OT prog w) A Er OC Q acc C) (ds:=q.1) hsc X u (λd r hf cenv sc P' Q₁ Qb Er' hN X' h1 h2=>XW ?_) I (λD C h tk m E hm hC=>(ag m hm (λh' hs=>hQ _ (by rw[hq,Out.ok_bind,u]; rfl) _ _ (E.sameBut hm hC hs)))) hcl
  refine Out.bind_k hf λt ht hf=>?_
  refine Out.bind_k hf λb hb hf=>?_
  refine Sc (hN▸j) X' (by rw[ht,Out.ok_bind,hb]; simp) (λb' hb' s₄ g=>?_) λc hc=>by rw[ht] at hc; cases hc
  rw[ht,Out.ok_bind,hb] at hb'
  (have j:=Out.ok.inj hb'; clear hb'; subst j)
  cases b with
  | false=>(have j:=Out.ok.inj hf; clear hf; (clear h2; subst j)); simpa using h1 rfl s₄ g
  | true=>
   rw[OD rfl] at hf ⊢
   refine Out.bind_k hf λy hy e=>?_
   (have j:=Out.ok.inj e; clear e; (clear h1; subst j))
   exact Se (hN▸oe) (X'.k g.k) (by rw[hy]; simp) (λr hr v s' E=>h2 r (by rw[hy] at hr; (have j:=Out.ok.inj hr; clear hr; (clear E; subst j)); rfl) v s' (E.after g)) λc hc=>by rw[hy] at hc; cases hc
 ·cases ok
end
theorem jn (val:ON->OF):∀ k,W1 (λi j=>decide (val i>val j)) k<=k/\∀ j,j<=k->val j<=val (W1 (λi j=>decide (val i>val j)) k)
 | 0=>⟨Pe _,λj g=>by
  have:j=0:=by exact Ge g
  (clear g; subst this)
  exact UN _⟩
 | k+1=>by
  refine ae (jn val k) λl h=>?_
  unfold W1
  by_cases hc:val (k+1)>val (W1 (λi j=>decide (val i>val j)) k)
  ·rw[OD (by simpa using hc)]
   refine ⟨Pe _,λj g=>?_⟩
   by_cases e:j=k+1
   ·(clear g; subst e); exact UN _
   ·have:=h j (z7 g e); exact Iw hc this
  ·rw[OB (by simpa using hc)]
   refine ⟨by exact Qu ‹_›,λj g=>?_⟩
   by_cases e:j=k+1
   ·(clear g; subst e); exact Fx hc
   ·exact h j (z7 g e)
theorem pR (h:eh ns=rg m):ns[W1 (λi j=>decide (ns[i]?.getD 0>ns[j]?.getD 0)) (ns.length-1)]?.getD 0=m:=by
 refine ae (jn (λi=>ns[i]?.getD 0) (ns.length-1)) λu t=>?_
 refine ae (nC h) λl o=>?_
 have r:0<ns.length:=TB l
 generalize W1 (λi j=>decide (ns[i]?.getD 0>ns[j]?.getD 0)) (ns.length-1)=b at *
 have q:ns[b]? = rg ns[b]:=OY (IM r u)
 rw[q]
 dsimp only [Xv]
 have n:=o ns[b] (SO _)
 refine aj (SB l) λj g=>?_
 refine aj (g) λp e=>?_
 clear g
 have k:=t j (uh p)
 rw[q,OY p,e] at k
 simp only[Xv] at k
 exact y8 n k
section
theorem AS (h:Q8 vs ns):∀ {i:ON}{v:N8},vs[i]? = rg v->∃ t,v = .int (ns[i]?.getD 0) t:=by
 induction h with
 | nil=>intro i v h; simp at h
 | cons n t _ ih=>
  intro i v h
  cases i with
  | zero=>simp at h; exact ⟨t,by simp[<- h]⟩
  | succ i=>simpa using ih (by simpa using h)
theorem uZ (hh:A.handled=OC) (ra:R s.heap va (.list xs) as) (hi:aK xs=rg ns)
  (hG:∀ I fp wr Pw St y,Walks prog w A I fp wr ns.length Pw St->St 0 y.heap->(∀ b∈fp,b<y.heap.objs.size)->(∀ i v,Pw i v->∃ t,v = .int (ns[i]?.getD 0) t)->(∀ b∈wr,s.heap.get? b=OC/\∀ o,y.heap.get? b=rg o->¬ Stay o)->Kp s y->G (.ref I) y) :
  OQ (OT prog w) A (Xu va) G Er s:=by
 refine ra.isList_k λa p n x m h g l=>?_
 (clear ra; subst m)
 subst l
 refine aH (g.ints hi) λu k j=>?_
 subst k
 subst j
 have e:p.toArray.size=ns.length:=by rw[Pf,g.length,OV]
 have W:=Z6 (prog:=prog) (w:=w) (A:=A) hh s.heap.objs.size a (eK h) p.toArray
 rw[e] at W
 refine WZ (isL h) (hG _ _ _ _ _ _ W ⟨(aD _ (Pa _ rfl) rfl rfl),(isL h).push _⟩ ?_ ?_ ?_ (.push s _ _))
 ·intro b hb
  rw[show _=s.heap.objs.size+1 from Tr ..]
  rcases O9.mp hb with rfl | hb
  ·exact TQ _
  ·rw[OK.mp hb]; exact S4 (Rh h)
 ·intro i v r
  exact AS u (by simpa using r)
 ·intro b hb
  rw[OK.mp hb]
  refine ⟨bj _,λo e=>?_⟩
  rw[show _=rg _ from Pa _ rfl] at e
  (have q:=vj e; clear e; subst q)
  exact Stay.not_cls (by simp) (by simp)
theorem Kp.after {s j:OA}{h':PE}{tk:ON}{wr:vk O1}(kp:Kp s j) (hwr:∀ b∈wr,s.heap.get? b=Q4/\∀ o,j.heap.get? b=rg o->¬ Stay o) (hk:∀ b o,b∉wr->j.heap.get? b=rg o->h'.get? b=rg o):Kp s {j with heap:=h',toks:=tk }:=by
 refine av (kp) λh t g k=>?_
 clear kp
 subst g
 exact (ay h' tk rfl (K.step k (KG.ofW hk λb i=>(hwr b i).2) λb o e i=>by rw[(hwr b i).1] at e; cases e))
theorem x6 (hh:A.handled=OC) (ra:R s.heap va (.list xs) as) (hi:aK xs=rg ns) (hm:eh ns=rg m) (hQ:∀ v s',EP P s (sI m) v s'->Q v s'):OQ (OT prog w) A (R3 (.builtin "max") [va]) Q Er s:=by
 refine call_max_walk (uZ (A:=A.in1) hh ra hi λI q o Pw St l W j k g i p=>(Cm I q o _ Pw St _ rfl W j k (TB (nC hm).1) (CmpOf.ints_gt _ g) (λv u r n hk=>?_)))
 refine aj (g _ _ n) λt h=>?_
 (clear n; subst h)
 rw[pR hm]
 exact hQ _ _ (.int (p.after i hk))
noncomputable def Isi (s:OA) (t:Ot) (v:N8) (b:Pr):Prop:=∀ (A:Pq) (Q:N8->OA->Prop) (Er:N8->OA->Prop),(∀ s',Kp s s'->Q (.bool b) s')->OQ (OT prog w) A (R3 (.builtin "isinstance") [v,.type t]) Q Er s
theorem jw {t:Ot}{f:ON->Pr}(h0:Isi s t .none (f 0)) (h1:∀ b,Isi s t (.bool b) (f 1)) (h2:∀ i u,Isi s t (.int i u) (f 2)) (h3:∀ x u,Isi s t (.str x u) (f 3))
  (h4:∀ {a:O1}{n:ON}{vs:vk N8},s.heap.get? a=rg ⟨.type "list", OC,.seq vs.toArray n,#[]⟩->Isi s t (.ref a) (f 4)) (h5:∀ {a:O1}{n:ON}{vs:vk N8},s.heap.get? a=rg ⟨.type "tuple", OC,.seq vs.toArray n,#[]⟩->Isi s t (.ref a) (f 5))
  {x:OU}(ra:R s.heap va x as):Isi s t va (f (qq x)) :=
 (R.ind (M:=λv d _=>Isi s t v (f (qq d))) (N:=λuu uu uu=>VU) h0 h1 h2 h3 (λe _ _=>h4 e) (λe _ _=>h5 e) trivial λuu uu uu uu=>trivial).1 ra
theorem yB (he:mn t (qq x)=rg b) (ra:R s.heap va x as) (hQ:∀ s',Kp s s'->Q (.bool b) s'):OQ (OT prog w) A (R3 (.builtin "isinstance") [va,.type t]) Q Er s :=
 have l:=Kp.refl s
 have g:=Kp.toks s (s.toks+1)
 oS he (λq j=>q▸(jw (t:="int") (f:=λk=>(k==2||k==1)) (λA Q Er h=>ZG (h _ g)) (λuu A Q Er h=>IsiPair.bool_int (h _ l)) (λuu i A Q Er h=>IsiPair.int_int (h _ l)) (λuu i A Q Er h=>IsiPair.str_int (h _ g)) (λe A Q Er h=>IsiPair.list_int e rfl (h _ g)) (λe A Q Er h=>IsiPair.tuple_int e rfl (h _ g)) ra) _ _ _ (j▸hQ))
  (λq j=>q▸(jw (t:="bool") (f:=λk=>(k==1)) (λA Q Er h=>Zn (h _ g)) (λuu A Q Er h=>IsiPair.bool_bool (h _ l)) (λuu i A Q Er h=>IsiPair.int_bool (h _ g)) (λuu i A Q Er h=>IsiPair.str_bool (h _ g)) (λe A Q Er h=>IsiPair.list_bool e rfl (h _ g)) (λe A Q Er h=>Z8 e rfl (h _ g)) ra) _ _ _ (j▸hQ))
  (λq j=>q▸(jw (t:="list") (f:=λk=>(k==4)) (λA Q Er h=>Zo (h _ g)) (λuu A Q Er h=>IsiPair.bool_list (h _ g)) (λuu i A Q Er h=>IsiPair.int_list (h _ g)) (λuu i A Q Er h=>IsiPair.str_list (h _ g)) (λe A Q Er h=>IsiPair.list_list e rfl (h _ l)) (λe A Q Er h=>Z9 e rfl (h _ g)) ra) _ _ _ (j▸hQ))
  (λq j=>q▸(jw (t:="tuple") (f:=λk=>(k==5)) (λA Q Er h=>Ze (h _ g)) (λuu A Q Er h=>IsiPair.bool_tuple (h _ g)) (λuu i A Q Er h=>IsiPair.int_tuple (h _ g)) (λuu i A Q Er h=>IsiPair.str_tuple (h _ g)) (λe A Q Er h=>IsiPair.list_tuple e rfl (h _ g)) (λe A Q Er h=>ZY e rfl (h _ l)) ra) _ _ _ (j▸hQ))
  (λq j=>q▸(jw (t:="str") (f:=λk=>(k==3)) (λA Q Er h=>ZH (h _ g)) (λuu A Q Er h=>IsiPair.bool_str (h _ g)) (λuu i A Q Er h=>IsiPair.int_str (h _ g)) (λuu i A Q Er h=>IsiPair.str_str (h _ l)) (λe A Q Er h=>IsiPair.list_str e rfl (h _ g)) (λe A Q Er h=>IsiPair.tuple_str e rfl (h _ g)) ra) _ _ _ (j▸hQ))
end
section
theorem qm (inj:∀ c∈SF.excN,∀ c' ∈ "PickError" :: SF.excN,SF.exc c=SF.exc c'->c=c') (hc:c∈SF.excN) (hd:d∈SF.excN):(Py (SF.exc c)::b9 c).contains (.ref (SF.exc d))=decide (d=c\/d = "PickError"):=by
 have g:bmV.contains (.ref (SF.exc d))=false:=by unfold bmV; simp
 by_cases h1:d=c
 ·(clear hc; subst h1); simp
 ·have h:SF.exc d≠SF.exc c:=λq=>h1 (inj d hd c (.tail _ hc) q)
  rw[T4]
  have i:(Py (SF.exc d)==Py (SF.exc c))=false:=by simpa using h
  rw[i,Bool.false_or]
  unfold b9
  by_cases h2:d = "PickError"
  ·(clear i g hd h; subst h2)
   have:c ≠ "PickError" := λq=>h1 q.symm
   rw[OB this]
   simp
  ·have j:SF.exc d≠SF.exc "PickError" := λq=>h2 (inj d hd _ (.head _) q)
   have:decide (d=c\/d = "PickError")=false:=by simp[h1,h2]
   rw[this]
   split
   ·exact g
   ·rw[T4,g,YG]
    simpa using j
theorem sd (h:bmV.contains v=Gt):(Py (SF.exc c)::b9 c).contains v=true:=by
 rw[T4]
 have:(b9 c).contains v=true:=by
  unfold b9
  split
  ·exact h
  ·rw[T4,h,W2]
 rw[this,W2]
theorem yE (X:ExcAt h c):Quiet h (SF.exc c):=by
 obtain ⟨⟨N,nm,q,bs,x,sn,y,ab,col,dd,k0,k1,k2,k3,k5,u,g,m,h3,h4⟩,j,i⟩:=X
 refine dm (j) λo cd l k q2 q3 q4=>?_
 clear j
 refine dm (i) λo' cd' mN2 r1 p r3 z=>?_
 clear i
 have v:∀ n∈qn,u n=none:=by
  rw[g] at k; (have t:=vj k; clear k; subst t)
  cases q2
  have hN:l=u:=q3.eq_nsMap.trans m.eq_nsMap.symm
  rw[<- hN]; exact q4
 unfold b9 at g
 by_cases hc:c = "PickError"
 ·rw[OD hc] at g
  exact vo g m v
 ·rw[OB hc] at g
  obtain ⟨t,od,r,os⟩:=o'
  dsimp only at p
  subst p
  exact uB g m v r1 r3 z
theorem yF (inj:∀ c∈SF.excN,∀ c' ∈ "PickError" :: SF.excN,SF.exc c=SF.exc c'->c=c') (X:∀ c∈SF.excN,ExcAt s.heap c) (ht:t∈SF.excN) (ra:RV s.heap va (.err c) as)
  (hQ:∀ s',Kp s s'->Q (.bool (decide (t=c\/t = "PickError"))) s'):OQ (OT prog w) A (R3 (.builtin "isinstance") [va,.ref (SF.exc t)]) Q Er s:=by
 refine jQ (ra) λa o x _ v u h=>?_
 clear ra
 subst x
 have Qc:=yE (X c h)
 obtain ⟨⟨N,nm,q,bs,j,sn,l,ab,col,dd,k0,k1,k2,k3,k5,mN,r,h2,_⟩,_⟩:=X c h
 obtain ⟨⟨N',n,q',bs',g,m,i,ab',k,y,j0,j1,j2,j3,j5,p,z,_⟩,_⟩:=X t ht
 refine Bp r (sd (by unfold bmV; simp)) (sd (by unfold bmV; simp)) Qc z v u λt'=>?_
 rw[qm inj h ht]
 exact hQ _ (.toks s _)
end
noncomputable def rkA (rk:OM->ON) (arr:OP OM) (i:ON):Nat:=match arr[i]? with
 | some p=>rk p
 | none=>0
noncomputable def bq (M:UO) (A:Pq) (E:N8->OA->Prop) (s:OA) (rk:OM->ON) (ok:OM->Prop) (κ:Ua):Prop :=
 ∀ {x y:OM}{st:O0}{Q:OE Pr->O0->Prop},ok x->ok y->kindOf st=κ->Q (rg (decide (rk x<rk y))) st->wpS M A E s (lt' x y) Q st
noncomputable def Up (rk:OM->ON) (l:vk OM):Prop:=l.Pairwise λx y=>rk x<=rk y
structure Gd (rk:OM->ON) (ok:OM->Prop) (κ:Ua) (st:O0):Prop where
 ok:∀ p∈OI st,ok p
 kind:kindOf st=κ
noncomputable def SegUp (rk:OM->ON) (arr:OP OM) (lo n:ON):Prop:=∀ i j,lo<=i->i<=j->j<lo+n->rkA rk arr i<=rkA rk arr j
structure SG where
 A:Pq
 E:N8->OA->Prop
 s:OA
 rk:OM->ON
 ok:OM->Prop
 κ:Ua
noncomputable def gM:Model:=OT prog w
noncomputable def SP3 (x:SG):Prop:=bq gM x.A x.E x.s x.rk x.ok x.κ->∀ {st:O0}{Q:Ur->O0->Prop},Gd x.rk x.ok x.κ st->2<=(OI st).size->(OI st).size<128->Px st = #[]->PJ st=OC->(∀ st',(OI st').Perm (OI st)->Up x.rk (OI st').toList->PJ st' = OC->Q () st')->wpS gM x.A x.E x.s V7 Q st
noncomputable def lm (x:SG):Prop:=SP3 x
noncomputable def sg:SG:=@WQ SG ⟨⟨{},λ_ _=>VU,{},λ_=>0,λ_=>VU,W3⟩⟩ λx=>¬ lm x
theorem uP (h:lm sg):∀ x,lm x:=λx=>UK λn=>@Vp SG (λx=>¬ lm x) ⟨x,n⟩ h
noncomputable def gA:Around:=sg.A
noncomputable def gE:N8->OA->Prop:=sg.E
noncomputable def gs:Shared:=sg.s
noncomputable def gr:OM->Nat:=sg.rk
noncomputable def go:OM->Prop:=sg.ok
noncomputable def gk:SortKind:=sg.κ
noncomputable def gallop':Pr->OM->OP OM->ON->ON->ON->Tn O0 Sem (OE ON):=sortPriv% PySem.Builtin.gallop
section
theorem aL {arr:OP OM}{i:ON}{st:O0}{Q:OM->O0->Prop}(hi:i<arr.size) (h:Q arr[i] st):wpS gM gA gE gs (elem' arr i) Q st:=by
 rw[elem'_eq,Rw hi]
 exact OX h
theorem eN (hi:i<arr.size):rkA gr arr i=gr arr[i]:=by unfold rkA; rw[Rw hi]
theorem B0 (hlt:bq gM gA gE gs gr go gk) {left:Pr}{key:OM}{arr:OP OM}{i:ON}{st:O0}{Q:OE Pr->O0->Prop}(hi:i<arr.size) (hok:∀ p∈arr,go p) (hkey:go key) (hk:kindOf st=gk)
  (h:Q (rg (if left then decide (rkA gr arr i<gr key) else !decide (gr key<rkA gr arr i))) st):wpS gM gA gE gs (do let x <- elem' arr i; if left=Gt then lt' x key else do let r <- lt' key x; PU (r.map λb=>!b)) Q st:=by
 refine OR (aL hi ?_)
 rw[eN hi] at h
 have g:=hok arr[i] (QV hi)
 cases left with
 | true=>rw[OD rfl] at h ⊢; exact hlt g hkey hk h
 | false=>
  rw[OB (by decide)] at h ⊢
  exact OR (hlt hkey g hk (OX h))
theorem ll (hlt:bq gM gA gE gs gr go gk) {left:Pr}{key:OM}{arr:OP OM}{base n hint:ON}{st:O0}{Q:OE ON->O0->Prop}(hn:base+n<=arr.size) (hh:hint<n) (hok:∀ p∈arr,go p) (hkey:go key) (hk:kindOf st=gk)
  (bey:ON->Pr) (hb:∀ i,bey i=if left then decide (rkA gr arr (base+i)<gr key) else !decide (gr key<rkA gr arr (base+i))) (hm:∀ i j,i<=j->j<n->bey j=Gt->bey i=Gt)
  (h:∀ k,k<=n->(∀ i,i<k->bey i=Gt)->(∀ i,k<=i->i<n->bey i=Oz)->Q (rg k) st):wpS gM gA gE gs (gallop' left key arr base n hint) Q st:=by
 unfold gallop'
 have look:∀ {i:ON}{st:O0}{Q:OE Pr->O0->Prop},i<n->kindOf st=gk->Q (rg (bey i)) st->wpS gM gA gE gs (do let x <- elem' arr (base+i); if left=Gt then lt' x key else do let r <- lt' key x; PU (r.map λb=>!b)) Q st:=λ{i st Q} m hk h=>B0 hlt (AF hn m) hok hkey hk (by rw[<- hb]; exact h)
 have hm':∀ i j,i<=j->j<n->bey i=Oz->bey j=false:=λi j z y h3=>by
  cases q:bey j with
  | false=>rfl
  | true=>rw[hm i j z y q] at h3; cases h3
 have fin:∀ (g m:ON) {R:OE (OE ON)×ON×ON->O0->Prop}{f:ON->OE (OE ON)×ON×ON->Tn O0 Sem (Pd (OE (OE ON)×ON×ON))},g<=m->m<=n->(∀ i,i<g->bey i=Gt)->(∀ i,m<=i->i<n->bey i=Oz) ->
   (∀ x g m {Q:Pd (OE (OE ON)×ON×ON)->O0->Prop} , g<m->m<=n->Q (.yield (OC,if bey (g+(m-g)/2) then g+(m-g)/2+1 else g,if bey (g+(m-g)/2) then m else g+(m-g)/2)) st->wpS gM gA gE gs (f x (OC,g,m)) Q st) ->
   (∀ x g {Q:Pd (OE (OE ON)×ON×ON)->O0->Prop},Q (.done (OC,g,g)) st->wpS gM gA gE gs (f x (OC,g,g)) Q st) ->
   (∀ k,k<=n->(∀ i,i<k->bey i=Gt)->(∀ i,k<=i->i<n->bey i=Oz)->R (OC,k,k) st)->wpS gM gA gE gs (UD [0:n] (OC,g,m) f) R st:=by
  intro g m R f z y h3 h4 hs hd hR
  refine QQ (I:=λx c o=>o=st/\∃ g m,c=(OC,g,m)/\g<=m/\m<=n/\m-g<=n-x/\(∀ i,i<g->bey i=Gt)/\(∀ i,m<=i->i<n->bey i=Oz)) ?_ ?_ (aB rfl (oL g m rfl z y (JF y) h3 h4))
  ·rintro x c o _ hx ⟨rfl,g,m,rfl,u,v,g3,g4,g5⟩
   by_cases e:g=m
   ·(clear u g3; subst e)
    exact hd x g (hR g v g4 g5)
   ·refine hs x g m (IJ u e) v (aB rfl (ay _ _ rfl ?_))
    cases q:bey (g+(m-g)/2) with
    | true=>
     simp only[Ri]
     exact (cr (GZ u e) v (DJ g3) (λi hi'=>hm i _ (I0 hi') (Ft u v e) q) g5)
    | false=>
     simp only[Pn,P2]
     exact (cr Gb (Kz u v) (F4 g3) g4 (λi z y=>hm' _ i z y q))
  ·rintro c o ⟨rfl,g,m,rfl,u,v,g3,g4,g5⟩
   have:g=m:=by exact F0 u g3
   (clear u g3; subst this)
   exact hR g v g4 g5
 refine OR (look hh hk ?_)
 dsimp only
 cases hr:bey hint with
 | true=>
  rw[OD rfl]
  refine OR (Rf (QQ (I:=λx c o=>o=st/\∃ t l,c=(OC,t,l)/\t<l/\hint+t<n/\bey (hint+t)=Gt/\x+1<=l)
   (Q:=λc o=>o=st/\∃ t l,c=(OC,t,l)/\t<l/\hint+t<n/\bey (hint+t)=Gt/\(n-hint<=l\/bey (hint+l)=Oz)) ?_ ?_ (aB rfl (bC 0 1 rfl yU (H0 hh) hr y5))) ?_)
  ·rintro x c o _ hx ⟨rfl,t,l,rfl,u,v,g3,g4⟩
   dsimp only
   by_cases e:l≥n-hint
   ·rw[OD e]; exact OX (aB rfl (bC t l rfl u v g3 (.inl e)))
   ·rw[OB e]
    refine OR (look (zG e) hk ?_)
    dsimp only
    cases q:bey (hint+l) with
    | false=>exact OX (aB rfl (bC t l rfl u v g3 (.inr q)))
    | true=>exact OX (aB rfl (bC l (2*l+1) rfl y0 (zG e) q (zL g4)))
  ·rintro c o ⟨rfl,t,l,rfl,u,v,g3,g4⟩
   exact (aB rfl (bC t l rfl u v g3 (.inl (HK g4))))
  ·rintro c o ⟨rfl,t,l,rfl,u,v,g3,g4⟩
   dsimp only
   refine OR (fin _ _ (KP u v) (Fv hh) (λi m=>hm i _ (E5 m) v g3) (λi z y=>?_) (λx g m Q z y hQ=>?_) (λx g Q hQ=>?_) λk z y h3=>OX (h k z y h3))
   ·rcases g4 with g4 | g4
    ·exact Fp z y g4
    ·exact hm' _ i (KM z y) y g4
   ·dsimp only
    rw[OB (zn z)]
    refine OR (look (zr z y) hk ?_)
    dsimp only
    cases q:bey (g+(m-g)/2) with
    | true=>rw[q] at hQ; exact OX hQ
    | false=>rw[q] at hQ; exact OX hQ
   ·dsimp only
    rw[OD (Pe _)]
    exact OX hQ
 | false=>
  rw[OB (by decide)]
  refine OR (Rf (QQ (I:=λx c o=>o=st/\∃ t l,c=(OC,t,l)/\t<l/\t<=hint/\bey (hint-t)=Oz/\x+1<=l)
   (Q:=λc o=>o=st/\∃ t l,c=(OC,t,l)/\t<l/\t<=hint/\bey (hint-t)=Oz/\(hint+1<=l\/(l<=hint/\bey (hint-l)=Gt))) ?_ ?_ (aB rfl (bC 0 1 rfl yU Eu hr y5))) ?_)
  ·rintro x c o _ hx ⟨rfl,t,l,rfl,u,v,g3,g4⟩
   dsimp only
   by_cases e:l≥hint+1
   ·rw[OD e]; exact OX (aB rfl (bC t l rfl u v g3 (.inl e)))
   ·rw[OB e]
    refine OR (look (zg hh) hk ?_)
    dsimp only
    cases q:bey (hint-l) with
    | true=>exact OX (aB rfl (bC t l rfl u v g3 (.inr ⟨by exact z2 e,q⟩)))
    | false=>exact OX (aB rfl (bC l (2*l+1) rfl y0 (z2 e) q (zL g4)))
  ·rintro c o ⟨rfl,t,l,rfl,u,v,g3,g4⟩
   exact (aB rfl (bC t l rfl u v g3 (.inl (Kk hh g4))))
  ·rintro c o ⟨rfl,t,l,rfl,u,v,g3,g4⟩
   dsimp only
   refine OR (fin _ _ ?_ (GT hh) (λi m=>?_) (λi z y=>hm' _ i z y g3) (λx g m Q z y hQ=>?_) (λx g Q hQ=>?_) λk z y h3=>OX (h k z y h3))
   ·rcases g4 with g4 | ⟨g4,g5⟩
    ·exact Ff g4
    ·exact Ec u
   ·rcases g4 with g4 | ⟨g4,g5⟩
    ·exact GL m g4
    ·exact hm i (hint-l) (IQ m) (zg hh) g5
   ·dsimp only
    rw[OB (zn z)]
    refine OR (look (zr z y) hk ?_)
    dsimp only
    cases q:bey (g+(m-g)/2) with
    | true=>rw[q] at hQ; exact OX hQ
    | false=>rw[q] at hQ; exact OX hQ
   ·dsimp only
    rw[OD (Pe _)]
    exact OX hQ
end
noncomputable def mergeLo':OP OM->OP OM->Tn O0 Sem (OP OM):=sortPriv% PySem.Builtin.mergeLo
theorem Up.le {gr:OM->ON}(h:Up gr l) (hi:i<l.length):∀ y∈l.drop i,gr l[i]<=gr y:=by
 intro y hy
 rw[Q6 hi] at hy
 rcases O9.mp hy with rfl | hy
 ·exact Pe _
 ·have:=Qh.mp (show (l.take (i+1)++l.drop (i+1)).Pairwise _ by rw[Qw]; exact h)
  exact this.2.2 l[i] (by rw[TC hi]; exact PA _ (.head _)) y hy
structure MI (gr:OM->ON) (a b o:vk OM) (i j:ON):Prop where
 perm:o.Perm (a.take i++b.take j)
 sorted:Up gr o
 la:∀ x∈o,∀ y∈a.drop i,gr x<=gr y
 lb:∀ x∈o,∀ y∈b.drop j,gr x<=gr y
section
theorem take_add' (l:vk α) (i k:ON):l.take (i+k)=l.take i++(l.drop i).take k:=List.take_add ..
theorem MI.swap (h:MI gr a b o i j):MI gr b a o j i:=⟨h.perm.trans RN,h.sorted,h.lb,h.la⟩
theorem MI.blockB (h:MI gr a b o i j) (ub:Up gr b) (k:ON) (hlt:∀ x∈(b.drop j).take k,∀ y∈a.drop i,gr x<=gr y):MI gr a b (o++(b.drop j).take k) i (j+k) where
 perm:=by
  rw[take_add',<- QO]
  exact h.perm.append_right _
 sorted:=Qh.mpr ⟨h.sorted,(ub.sublist (US j b)).sublist (W4 ..),λx l y g=>h.lb x l y (QW g)⟩
 la:=λx l y g=>(O7.mp l).elim (λq=>h.la x q y g) λq=>hlt x q y g
 lb:=λx l y g=>(O7.mp l).elim (λq=>h.lb x q y (by rw[<- V8] at g; exact So g)) λq=>by
  have:=Qh.mp (show ((b.drop j).take k++(b.drop j).drop k).Pairwise _ by rw[Qw]; exact ub.sublist (US j b))
  exact this.2.2 x q y (by rw[V8]; exact g)
theorem MI.blockA (h:MI gr a b o i j) (ua:Up gr a) (k:ON) (hlt:∀ x∈(a.drop i).take k,∀ y∈b.drop j,gr x<=gr y):MI gr a b (o++(a.drop i).take k) (i+k) j:=(h.swap.blockB ua k hlt).swap
theorem gh {α:Type}{l:vk α}{i:ON}(hi:i<l.length):(l.drop i).take 1=[l[i]]:=by rw[Q6 hi]; rfl
theorem MI.pushB (h:MI gr a b o i j) (ub:Up gr b) (hj:j<b.length) (hlt:∀ y∈a.drop i,gr b[j]<=gr y):MI gr a b (o++[b[j]]) i (j+1):=by
 have:=h.blockB ub 1 (by rw[gh hj]; intro x g; rw[OK.mp g]; exact hlt)
 rwa [gh hj] at this
theorem MI.pushA (h:MI gr a b o i j) (ua:Up gr a) (hi:i<a.length) (hlt:∀ y∈b.drop j,gr a[i]<=gr y):MI gr a b (o++[a[i]]) (i+1) j:=(h.swap.pushB ua hi hlt).swap
def Mgd (gr:OM->ON) (a b:vk OM) (r:OP OM):Prop:=r.toList.Perm (a++b)/\Up gr r.toList
theorem MI.doneB (h:MI gr a b o i b.length) (ua:Up gr a):(o++a.drop i).Perm (a++b)/\Up gr (o++a.drop i):=by
 have:=h.blockA ua (a.length-i) (λx _ y g=>by rw[SA] at g; cases g)
 rw[Qp (by rw[QU]; exact Pe _)] at this
 refine ⟨this.perm.trans ?_,this.sorted⟩
 rw[Vd,Qp (show a.length<=i+(a.length-i) by exact DQ)]
theorem MI.doneA (h:MI gr a b o a.length j) (ub:Up gr b):(o++b.drop j).Perm (a++b)/\Up gr (o++b.drop j):=by
 obtain ⟨i,g⟩:=h.swap.doneB ub
 exact ⟨i.trans RN,g⟩
theorem MI.last (h:MI gr a b o i j) (ua:Up gr a) (ub:Up gr b) (hi:i+1=a.length) (ht:∀ x∈b,∀ y∈a.drop i,gr x<=gr y):(o++b.drop j++a.drop i).Perm (a++b)/\Up gr (o++b.drop j++a.drop i):=by
 have:=h.blockB ub (b.length-j) (λx k y g=>ht x (So (QW k)) y g)
 rw[Qp (show (b.drop j).length<=b.length-j by rw[QU]; exact Pe _)] at this
 by_cases hj:j<=b.length
 ·rw[show j+(b.length-j)=b.length by exact jM hj] at this
  exact this.doneB ua
 ·have e:b.drop j=[]:=Ub.mpr (y9 hj)
  have l:MI gr a b o i b.length:=⟨h.perm.trans (by rw[Qp (show b.length<=j by exact y9 hj),Vd]),h.sorted,h.la,λx _ y g=>by rw[SA] at g; cases g⟩
  rw[e,RH]
  exact l.doneB ua
end
section
def Sm (st st':O0):Prop:=kindOf st' = kindOf st/\OI st' = OI st/\Px st' = Px st/\PJ st' = PJ st
theorem Sm.refl (st:O0):Sm st st:=⟨rfl,rfl,rfl,rfl⟩
theorem Sm.trans (h:Sm x y) (g:Sm y z):Sm x z:=⟨g.1.trans h.1,g.2.1.trans h.2.1,g.2.2.1.trans h.2.2.1,g.2.2.2.trans h.2.2.2⟩
theorem dP {x:Ot}{st:O0}{Q:Ur->O0->Prop}(h:Q () st):wpS gM gA gE gs (ZI (rule x):Tn O0 Sem Ur) Q st:=OX (M:=gM) (E:=gE) h
noncomputable def setMin':ON->Tn O0 Sem Unit:=sortPriv% PySem.Builtin.setMinGallop
theorem fH {g:ON}{st:O0}{Q:Ur->O0->Prop}(h:∀ st',Sm st st'->Q () st'):wpS gM gA gE gs (setMin' g) Q st:=To (h _ ⟨rfl,rfl,rfl,rfl⟩)
theorem gB {l:vk OM}{i n:ON}{P:OM->Prop}(h:∀ q (hq:i+q<l.length),q<n->P l[i+q]):∀ x∈(l.drop i).take n,P x:=by
 intro x g
 obtain ⟨q,hq,rfl⟩:=SB g
 rw[RQ,QU] at hq
 rw[Uu,SP]
 exact h q (tC hq) (E1 hq)
theorem drop_mem' {l:vk OM}{i:ON}{P:OM->Prop}(h:∀ q (hq:i+q<l.length),P l[i+q]):∀ x∈l.drop i,P x:=by
 intro x g
 obtain ⟨q,hq,rfl⟩:=SB g
 rw[QU] at hq
 rw[SP]
 exact h q (oH hq)
theorem cw (hi:i<arr.toList.length):rkA gr arr i=gr arr.toList[i]:=by rw[O2] at hi; rw[eN hi]; rfl
theorem bV (a:OP OM) (i j:ON):(a.extract i j).toList=(a.toList.drop i).take (j-i):=by
 rw[Array.toList_extract,List.extract_eq_take_drop]
theorem eI (a:OP OM) (i:ON):(a.extract i a.size).toList=a.toList.drop i:=by
 rw[bV,Qp (by rw[QU,O2]; exact Pe _)]
theorem dN (hlt:bq gM gA gE gs gr go gk) {left:Pr}{key:OM}{arr:OP OM}{base n hint:ON}{st:O0}{Q:OE ON->O0->Prop}(hn:base+n<=arr.size) (hh:hint<n) (hok:∀ p∈arr,go p) (hkey:go key) (hk:kindOf st=gk) (up:Up gr arr.toList)
  (h:∀ k,k<=n->(∀ q (hq:base+q<arr.toList.length),q<k->if left then gr arr.toList[base+q]<gr key else gr arr.toList[base+q]<=gr key)->(∀ q (hq:base+q<arr.toList.length),k<=q->q<n->if left then gr key<=gr arr.toList[base+q] else gr key<gr arr.toList[base+q])->Q (rg k) st) :
  wpS gM gA gE gs (gallop' left key arr base n hint) Q st:=by
 refine ll hlt hn hh hok hkey hk (λi=>if left then decide (rkA gr arr (base+i)<gr key) else !decide (gr key<rkA gr arr (base+i))) (λ_=>rfl) (λi j o u l=>?_) λk o u l=>h k o (λq hq g=>?_) λq hq g r=>?_
 ·have t:base+j<arr.toList.length:=by rw[O2]; exact AF hn u
  have v:base+i<arr.toList.length:=by exact Kj o t
  have m:rkA gr arr (base+i)<=rkA gr arr (base+j):=by
   rw[cw v,cw t]
   exact up.le v _ (by
    have e:arr.toList[base+j]=(arr.toList.drop (base+i))[j-i]'(by rw[QU]; exact Fk o t):=by
     rw[SP]; congr 1; exact F8 o
    rw[e]; exact SO _)
  cases left with
  | true=>simp at l ⊢; exact AE m l
  | false=>simp at l ⊢; exact y2 m l
 ·have:=u q g
  rw[cw hq] at this
  cases left with
  | true=>simpa using this
  | false=>simpa using this
 ·have:=l q g r
  rw[cw hq] at this
  cases left with
  | true=>simpa using this
  | false=>simpa using this
end
noncomputable def elem':OP OM->ON->Tn O0 Sem Keyed:=sortPriv% PySem.Builtin.elem
noncomputable def lt':OM->OM->Tn O0 Sem (OE Pr):=sortPriv% PySem.Builtin.lt
abbrev G5:Type:=OE (OP OM)×OP OM×ON×ON×ON
abbrev G6:Type:=OE (OP OM)×OP OM×ON×ON×ON×ON
abbrev G7:Type:=OE (OP OM)×OP OM×ON×ON×ON×ON×ON
abbrev SM (α:Type):Type:=Tn O0 Sem α
noncomputable def loD (a b out:OP OM) (ia ib:ON):OP Keyed:=out++a.extract ia a.size++b.extract ib b.size
noncomputable def loL (a b out:OP OM) (ia ib:ON):OP Keyed:=out++b.extract ib b.size++a.extract ia a.size
noncomputable def Av (a b:OP OM) (mg:ON) (out:OP OM) (ia ib bc:ON):SM (Pd G6) :=
 if (ib==b.size)=Gt then PU (.done (rg (loD a b out ia ib),out,ia,ib,0,bc)) else if bc≥mg then PU (.done (OC,out,ia,ib,0,bc)) else PU (.yield (OC,out,ia,ib,0,bc))
noncomputable def y6 (a b:OP OM) (mg:ON) (out:OP OM) (ia ib ac:ON):SM (Pd G6) :=
 if (ia+1==a.size)=Gt then PU (.done (rg (loL a b out ia ib),out,ia,ib,ac,0)) else if ac≥mg then PU (.done (OC,out,ia,ib,ac,0)) else PU (.yield (OC,out,ia,ib,ac,0))
noncomputable def CV (a b:OP OM) (mg:ON) (out:OP OM) (ia ib ac bc:ON) (w:Pr):SM (Pd G6) :=
 if w=Gt then elem' b ib>>=λx=>Av a b mg (out.push x) ia (ib+1) (bc+1) else elem' a ia>>=λx=>y6 a b mg (out.push x) (ia+1) ib (ac+1)
noncomputable def K1 (a b:OP OM) (mg:ON) (out:OP OM) (ia ib ac bc:ON):OE Pr->SM (Pd G6)
 | some w=>CV a b mg out ia ib ac bc w
 | _=>PU (.done (rg (loD a b out ia ib),out,ia,ib,ac,bc))
noncomputable def loW (a b:OP OM) (mg:ON) (c:G6):SM (Pd G6) :=
 elem' b c.2.2.2.1>>=λp=>elem' a c.2.2.1>>=λq=>lt' p q>>=K1 a b mg c.2.1 c.2.2.1 c.2.2.2.1 c.2.2.2.2.1 c.2.2.2.2.2
noncomputable def loT4' (a b:OP OM) (mg k l:ON) (out:OP OM) (ia ib:ON):SM (Pd G7) :=
 if (ia+1==a.size)=Gt then PU (.done (rg (loL a b out ia ib),out,ia,ib,mg,k,l))
 else if (decide (k<7)&&decide (l<7))=Gt then PU (.done (OC,out,ia,ib,mg,k,l)) else PU (.yield (OC,out,ia,ib,mg,k,l))
noncomputable def yu (a b:OP OM) (mg k l:ON) (out:OP OM) (ia ib:ON):SM (Pd G7):=elem' a ia>>=λx=>loT4' a b mg k l (out.push x) (ia+1) ib
noncomputable def loT3' (a b:OP OM) (mg k l:ON) (out:OP OM) (ia ib:ON):SM (Pd G7) :=
 if (ib==b.size)=Gt then PU (.done (rg (loD a b out ia ib),out,ia,ib,mg,k,l)) else yu a b mg k l out ia ib
noncomputable def Do (a b:OP OM) (mg k l:ON) (out:OP OM) (ia ib:ON):SM (Pd G7) :=
 if l>0 then loT3' a b mg k l (out++b.extract ib (ib+l)) ia (ib+l) else yu a b mg k l out ia ib
noncomputable def Jv (a b:OP OM) (mg k bc:ON) (out:OP OM) (ia ib:ON):OE ON->SM (Pd G7)
 | some l=>Do a b mg k l out ia ib
 | _=>PU (.done (rg (loD a b out ia ib),out,ia,ib,mg,k,bc))
noncomputable def loT2' (a b:OP OM) (mg k bc:ON) (out:OP OM) (ia ib:ON):SM (Pd G7) :=
 if (ib==b.size)=Gt then PU (.done (rg (loD a b out ia ib),out,ia,ib,mg,k,bc)) else elem' a ia>>=λy=>gallop' Gt y b ib (b.size-ib) 0>>=Jv a b mg k bc out ia ib
noncomputable def td (a b:OP OM) (mg k bc:ON) (out:OP OM) (ia ib:ON):SM (Pd G7):=elem' b ib>>=λx=>loT2' a b mg k bc (out.push x) ia (ib+1)
noncomputable def loT1' (a b:OP OM) (mg k bc:ON) (out:OP OM) (ia ib:ON):SM (Pd G7) :=
 if (ia+1==a.size)=Gt then PU (.done (rg (loL a b out ia ib),out,ia,ib,mg,k,bc))
 else if (ia==a.size)=Gt then PU (.done (rg (loD a b out ia ib),out,ia,ib,mg,k,bc)) else td a b mg k bc out ia ib
noncomputable def Jf (a b:OP OM) (mg ac bc:ON) (out:OP OM) (ia ib:ON):OE ON->SM (Pd G7)
 | some k=>if k>0 then loT1' a b mg k bc (out++a.extract ia (ia+k)) (ia+k) ib else td a b mg k bc out ia ib
 | _=>PU (.done (rg (loD a b out ia ib),out,ia,ib,mg,ac,bc))
noncomputable def xS (a b:OP OM) (ac bc:ON) (out:OP OM) (ia ib mg:ON):SM (Pd G7) :=
 setMin' mg>>=λ_=>elem' b ib>>=λx=>gallop' Oz x a ia (a.size-ia) 0>>=Jf a b mg ac bc out ia ib
noncomputable def loG (a b:OP OM) (c:G7):SM (Pd G7) :=
 if c.2.2.2.2.1>1 then xS a b c.2.2.2.2.2.1 c.2.2.2.2.2.2 c.2.1 c.2.2.1 c.2.2.2.1 (c.2.2.2.2.1-1) else xS a b c.2.2.2.2.2.1 c.2.2.2.2.2.2 c.2.1 c.2.2.1 c.2.2.2.1 c.2.2.2.2.1
noncomputable def Lp (c:G7):OE (OP OM)->SM (Pd G5)
 | some r=>PU (.done (rg r,c.2.1,c.2.2.1,c.2.2.2.1,c.2.2.2.2.1))
 | none=>setMin' (c.2.2.2.2.1+1)>>=λ_=>PU (.yield (OC,c.2.1,c.2.2.1,c.2.2.2.1,c.2.2.2.2.1+1))
noncomputable def L0 (a b:OP OM) (mg:ON) (c:G6):OE (OP OM)->SM (Pd G5)
 | some r=>PU (.done (rg r,c.2.1,c.2.2.1,c.2.2.2.1,mg))
 | none=>(ZI (rule "list.sort.gallop"):SM Ur)>>=λ_=>UD [:a.size+b.size] ((OC,c.2.1,c.2.2.1,c.2.2.2.1,mg+1,c.2.2.2.2.1,c.2.2.2.2.2):G7) (λ_ c=>loG a b c)>>=λd=>Lp d d.1
noncomputable def loB (a b:OP OM) (c:G5):SM (Pd G5) :=
 UD [:a.size+b.size] ((OC,c.2.1,c.2.2.1,c.2.2.2.1,0,0):G6) (λ_ d=>loW a b c.2.2.2.2 d)>>=λd=>L0 a b c.2.2.2.2 d d.1
noncomputable def loE (c:OE (OP OM)):SM (OP OM):=match c with
 | some r=>PU r
 | none=>ZI (ZJ "internal:list.sort.merge-bound" : Sem (OP OM))
noncomputable def CE:O0->Nat:=sortPriv% PySem.Builtin.SortState.minGallop
noncomputable def loM (a b:OP OM) (x:OM):SM (OP OM) :=
 if (1==b.size)=Gt then PU (loD a b #[x] 0 1) else if (0+1==a.size)=Gt then PU (loL a b #[x] 0 1) else (get:SM O0)>>=λg=>UD [:a.size+b.size] ((OC,#[x],0,1,CE g):G5) (λ_ c=>loB a b c)>>=λc=>loE c.1
noncomputable def ID (a b:OP OM):SM (OP OM):=(ZI (rule "list.sort.merge-lo"):SM Ur)>>=λ_=>elem' b 0>>=loM a b
theorem sJ (a b:OP OM):mergeLo' a b=ID a b:=by kernel_rfl
section
theorem aF {σ α:Type}{c:Prop} [V6 c] {x y:Tn σ Sem α}{Q:α->σ->Prop}{st:σ}(h1:c->wpS gM gA gE gs x Q st) (h2:¬ c->wpS gM gA gE gs y Q st):wpS gM gA gE gs (if c then x else y) Q st:=by
 by_cases h:c
 ·rw[OD h]; exact h1 h
 ·rw[OB h]; exact h2 h
structure Two (gr:OM->ON) (go:OM->Prop) (a b:OP OM):Prop where
 ha:1<=a.size
 hb:1<=b.size
 oa:∀ p∈a,go p
 ob:∀ p∈b,go p
 ua:Up gr a.toList
 ub:Up gr b.toList
 h0:∀ y∈a.toList,gr (b[0]'hb)<=gr y
 h1:∀ x∈b.toList,gr x<=gr (a[a.size-1]'(Uc ha))
structure LoS (gr:OM->ON) (a b:OP OM) (st:O0) (n:ON) (out:OP OM) (ia ib:ON) (st':O0):Prop where
 sm:Sm st st'
 mi:MI gr a.toList b.toList out.toList ia ib
 ga:ia+1<a.size
 gb:ib<b.size
 gn:n<=ia+ib
def LoR (gr:OM->ON) (a b:OP OM) (st:O0) (r:OP OM) (st':O0):Prop:=Sm st st'/\Mgd gr a.toList b.toList r
def Lo6 (gr:OM->ON) (a b:OP OM) (st:O0) (n:ON) (c:G6) (st':O0):Prop:=c.1=OC/\LoS gr a b st n c.2.1 c.2.2.1 c.2.2.2.1 st'
def Lo7 (gr:OM->ON) (a b:OP OM) (st:O0) (n:ON) (c:G7) (st':O0):Prop:=c.1=OC/\LoS gr a b st n c.2.1 c.2.2.1 c.2.2.2.1 st'
def En (I:ON->OE (OP OM)×α->O0->Prop) (n:ON) (R:OP OM->O0->Prop) (c:OE (OP OM)×α) (st':O0):Prop:=(∃ r,c.1=rg r/\R r st')\/I n c st'
def Po (I:ON->OE (OP OM)×α->O0->Prop) (n m:ON) (R:OP OM->O0->Prop) (r:Pd (OE (OP OM)×α)) (st':O0):Prop:=match r with
 | .done c=>En I n R c st'
 | .yield c=>I m c st'
theorem LoS.less {a b out:OP OM}{st st':O0}{n m ia ib:ON}(h:LoS gr a b st n out ia ib st') (hm:m<=n):LoS gr a b st m out ia ib st':=⟨h.sm,h.mi,h.ga,h.gb,Lt hm h.gn⟩
section
variable {a b:OP OM}{st st':O0}{out:OP OM}{ia ib n m x mg k l ac bc:ON}
theorem jN (T:Two gr go a b) (sm:Sm st st') (mi:MI gr a.toList b.toList out.toList ia ib) (e:(ib==b.size)=Gt):LoR gr a b st (loD a b out ia ib) st':=by
 have e:ib=b.toList.length:=by rw[O2]; exact OZ.mp e
 subst e
 have:=mi.doneB T.ua
 refine ⟨sm,?_⟩
 unfold Mgd loD
 rw[PY,PY,eI,eI,SA,RH]
 exact this
theorem BT (T:Two gr go a b) (sm:Sm st st') (mi:MI gr a.toList b.toList out.toList ia ib) (e:(ia==a.size)=Gt):LoR gr a b st (loD a b out ia ib) st':=by
 have e:ia=a.toList.length:=by rw[O2]; exact OZ.mp e
 subst e
 have:=mi.doneA T.ub
 refine ⟨sm,?_⟩
 unfold Mgd loD
 rw[PY,PY,eI,eI,SA,RH]
 exact this
theorem jL (T:Two gr go a b) (sm:Sm st st') (mi:MI gr a.toList b.toList out.toList ia ib) (e:(ia+1==a.size)=Gt):LoR gr a b st (loL a b out ia ib) st':=by
 have e:ia+1=a.toList.length:=by rw[O2]; exact OZ.mp e
 have h:a.toList.length=a.size:=O2 ..
 have:=mi.last T.ua T.ub e (λx i y g=>by
  have j:a.toList.drop ia=[a[a.size-1]'(Uc T.ha)]:=by
   rw[Q6 (EJ e),Ub.mpr (JI e)]
   congr 1
   rw[Array.getElem_toList]; congr 1; exact F5 e h
  rw[j] at g
  rw[OK.mp g]
  exact T.h1 x i)
 refine ⟨sm,?_⟩
 unfold Mgd loL
 rw[PY,PY,eI,eI]
 exact this
theorem aR (h:¬ (x==y)=Gt):x≠y:=λe=>h (OZ.mpr e)
theorem wk (T:Two gr go a b) (hn:x<=m) (sm:Sm st st') (mi:MI gr a.toList b.toList out.toList ia ib) (ga:ia+1<a.size) (gb:ib<=b.size) (gn:m<=ia+ib):wpS gM gA gE gs (Av a b mg out ia ib bc) (Po (Lo6 gr a b st) x m (LoR gr a b st)) st' :=
 aF (λc=>OX (.inl ⟨_,rfl,jN T sm mi c⟩)) λc=>by
  have S:LoS gr a b st m out ia ib st':=⟨sm,mi,ga,by have:=aR c; exact zt gb this,gn⟩
  exact aF (λ_=>OX (.inr ⟨rfl,S.less hn⟩)) λ_=>OX ⟨rfl,S⟩
theorem vE (T:Two gr go a b) (hn:x<=m) (sm:Sm st st') (mi:MI gr a.toList b.toList out.toList ia ib) (ga:ia<a.size) (gb:ib<b.size) (gn:m<=ia+ib):wpS gM gA gE gs (y6 a b mg out ia ib ac) (Po (Lo6 gr a b st) x m (LoR gr a b st)) st' :=
 aF (λc=>OX (.inl ⟨_,rfl,jL T sm mi c⟩)) λc=>by
  have S:LoS gr a b st m out ia ib st':=⟨sm,mi,by have:=aR c; exact Aa ga this,gb,gn⟩
  exact aF (λ_=>OX (.inr ⟨rfl,S.less hn⟩)) λ_=>OX ⟨rfl,S⟩
theorem Ba (hlt:bq gM gA gE gs gr go gk) (T:Two gr go a b) (hk:kindOf st=gk) (hn:x<=n+1) (S:Lo6 gr a b st n c st'):wpS gM gA gE gs (loW a b mg c) (Po (Lo6 gr a b st) x (n+1) (LoR gr a b st)) st':=by
 obtain ⟨z,l,i,o,v,u⟩:=c
 obtain ⟨t,k,m,j,h,r⟩:=S
 dsimp only at t m j h r
 have g:i<a.size:=Tw j
 refine OR (aL h (OR (aL g (OR (hlt (T.ob _ (QV _)) (T.oa _ (QV _)) (k.1.trans hk) ?_)))))
 show wpS gM gA gE gs (CV a b mg l i o v u (decide (gr b[o]<gr a[i]))) _ st'
 refine aF (λw=>OR (aL h ?_)) λw=>OR (aL g ?_)
 ·replace w:=Pp w
  refine wk T hn k ?_ j h (F2 r)
  rw[RS]
  exact m.pushB T.ub (by rw[O2]; exact h) (λy p=>Lt (O5 w) (T.ua.le (by rw[O2]; exact g) y p))
 ·replace w:¬ gr b[o]<gr a[i]:=λq=>w (PK q)
  refine vE T hn k ?_ j h (zY r)
  rw[RS]
  exact m.pushA T.ua (by rw[O2]; exact g) (λy p=>Lt (Pj w) (T.ub.le (by rw[O2]; exact h) y p))
theorem pK (T:Two gr go a b) (hn:x<=n+1) (S:LoS gr a b st n out ia ib st') (kA:∀ y∈b.toList.drop ib,∀ h:ia<a.size,gr a[ia]<=gr y):wpS gM gA gE gs (yu a b mg k l out ia ib) (Po (Lo7 gr a b st) x (n+1) (LoR gr a b st)) st':=by
 obtain ⟨j,o,m,r,q⟩:=S
 have g:ia<a.size:=Tw m
 refine OR (aL g ?_)
 have i:MI gr a.toList b.toList (out.push a[ia]).toList (ia+1) ib:=by
  rw[RS]
  exact o.pushA T.ua (by rw[O2]; exact g) λy p=>kA y p g
 refine aF (λc=>OX (.inl ⟨_,rfl,jL T j i c⟩)) λc=>?_
 have S:LoS gr a b st (n+1) (out.push a[ia]) (ia+1) ib st':=⟨j,i,by have:=aR c; exact Iv m this,r,by exact zY q⟩
 exact aF (λ_=>OX (.inr ⟨rfl,S.less hn⟩)) λ_=>OX ⟨rfl,S⟩
theorem qj (hlt:bq gM gA gE gs gr go gk) (T:Two gr go a b) (hk:kindOf st=gk) (hn:x<=n+1) (S:LoS gr a b st n out ia ib st') (kB:∀ y∈a.toList.drop ia,∀ h:ib<b.size,gr b[ib]<=gr y):wpS gM gA gE gs (td a b mg k bc out ia ib) (Po (Lo7 gr a b st) x (n+1) (LoR gr a b st)) st':=by
 obtain ⟨r,mi,ga,t,gn⟩:=S
 have o:ia<a.size:=Tw ga
 refine OR (aL t ?_)
 have g:MI gr a.toList b.toList (out.push b[ib]).toList ia (ib+1):=by
  rw[RS]
  exact mi.pushB T.ub (by rw[O2]; exact t) λy i=>kB y i t
 generalize out.push b[ib]=out2 at g ⊢
 refine aF (λc=>OX (.inl ⟨_,rfl,jN T r g c⟩)) λc=>?_
 have m:ib+1<b.size:=by have:=aR c; exact Aa t this
 clear c mi
 refine OR (aL o (OR (dN hlt (Fw m) (Fl m) T.ob (T.oa _ (QV _)) (r.1.trans hk) T.ub λl l1 v l3=>?_)))
 simp only[Ri] at v l3
 have z:∀ y∈b.toList.drop (ib+1+l),∀ h:ia<a.size,gr a[ia]<=gr y:=λy i _=>drop_mem' (P:=λy=>gr a[ia]<=gr y) (λq p=>by
  have lb:b.toList.length=b.size:=O2 ..
  have:=l3 (l+q) (E6 p) zh (Kf p lb)
  simp only[<- Qq] at this
  exact this) y i
 show wpS gM gA gE gs (Do a b mg k l out2 ia (ib+1)) _ st'
 refine aF (λu=>aF (λc=>OX (.inl ⟨_,rfl,jN T r ?_ c⟩)) λc=>pK T hn ⟨r,?_,ga,by have:=aR c; exact Fe l1 u this,by exact HL gn⟩ z) λu=>pK T hn ⟨r,g,ga,m,by exact FA gn⟩ ?_
 ·rw[PY,bV,PX]
  exact g.blockB T.ub l (gB λq p j y i=>Lt (O5 (v q p j)) (T.ua.le (by rw[O2]; exact o) y i))
 ·rw[PY,bV,PX]
  exact g.blockB T.ub l (gB λq p j y i=>Lt (O5 (v q p j)) (T.ua.le (by rw[O2]; exact o) y i))
 ·have e0:l=0:=R2 u
  rw[e0,VS] at z
  exact z
theorem pj (hlt:bq gM gA gE gs gr go gk) (T:Two gr go a b) (hk:kindOf st=gk) (hn:x<=n+1) (S:LoS gr a b st n out ia ib st'):wpS gM gA gE gs (xS a b ac bc out ia ib mg) (Po (Lo7 gr a b st) x (n+1) (LoR gr a b st)) st':=by
 obtain ⟨i,mi,v,m,gn⟩:=S
 refine OR (fH λg o=>?_)
 replace i:=i.trans o
 refine OR (aL m (OR (dN hlt (DN v) (Jw v) T.oa (T.ob _ (QV _)) (i.1.trans hk) T.ua λk k1 k2 k3=>?_)))
 simp only[Pn,P2] at k2 k3
 have p:∀ y∈a.toList.drop (ia+k),∀ h:ib<b.size,gr b[ib]<=gr y:=λy t _=>drop_mem' (P:=λy=>gr b[ib]<=gr y) (λq l=>by
  have la:a.toList.length=a.size:=O2 ..
  have:=k3 (k+q) (FC l) zh (II l la)
  simp only[<- Qq] at this
  exact O5 this) y t
 show wpS gM gA gE gs (if k>0 then loT1' a b mg k bc (out++a.extract ia (ia+k)) (ia+k) ib else td a b mg k bc out ia ib) _ g
 refine aF (λr=>?_) λr=>qj hlt T hk hn ⟨i,mi,v,m,gn⟩ ?_
 ·have j:MI gr a.toList b.toList (out++a.extract ia (ia+k)).toList (ia+k) ib:=by
   rw[PY,bV,PX]
   exact mi.blockA T.ua k (gB λq l u y t=>Lt (k2 q l u) (T.ub.le (by rw[O2]; exact m) y t))
  exact aF (λc=>OX (.inl ⟨_,rfl,jL T i j c⟩)) λc=>aF (λz=>OX (.inl ⟨_,rfl,BT T i j z⟩)) λz=>qj hlt T hk hn ⟨i,j,by have:=aR c; have:=aR z; exact JG k1 r ‹_› this,m,by exact Jx gn⟩ p
 ·have e0:k=0:=R2 r
  rw[e0,VS] at p
  exact p
theorem AV (hlt:bq gM gA gE gs gr go gk) (T:Two gr go a b) (hk:kindOf st=gk) (hn:x<=n+1) (S:Lo7 gr a b st n c st'):wpS gM gA gE gs (loG a b c) (Po (Lo7 gr a b st) x (n+1) (LoR gr a b st)) st' :=
 aF (λ_=>pj hlt T hk hn S.2) λ_=>pj hlt T hk hn S.2
theorem d0 {α:Type}{I:ON->OE (OP OM)×α->O0->Prop}{R:OP OM->O0->Prop}{t n z:ON}{f:OE (OP OM)×α->SM (Pd (OE (OP OM)×α))}{c:OE (OP OM)×α}(h0:I n c st') (hend:∀ c st',¬ I (n+t) c st')
  (hs:∀ y c st',y<t->I (n+y) c st'->wpS gM gA gE gs (f c) (Po I z (n+y+1) R) st'):wpS gM gA gE gs (UD [:t] c λ_ c=>f c) (En I z R) st' :=
 QQ (λy c st'=>I (n+y) c st') (λy c st' _ g i=>Rf (hs y c st' g i) λr st' h=>by cases r<;>exact h) (λc st' h=>OW (by rwa [Nat.max_eq_right (PZ t)] at h) (hend c st')) h0
def Lo5 (gr:OM->ON) (a b:OP OM) (st:O0) (n:ON) (c:G5) (st':O0):Prop:=c.1=OC/\LoS gr a b st n c.2.1 c.2.2.1 c.2.2.2.1 st'
theorem LoS.over (S:LoS gr a b st n out ia ib st') (h:a.size+b.size<=n+1):False:=by have:=S.ga; have:=S.gb; have:=S.gn; exact IU h ‹_› ‹_› this
theorem AT (hlt:bq gM gA gE gs gr go gk) (T:Two gr go a b) (hk:kindOf st=gk) (z:ON) (S:Lo5 gr a b st (n+1) c st'):wpS gM gA gE gs (loB a b c) (Po (Lo5 gr a b st) z (n+2) (LoR gr a b st)) st':=by
 refine OR (Rf (d0 (I:=Lo6 gr a b st) (n:=n+1) (z:=n+2) (R:=LoR gr a b st) ⟨rfl,S.2⟩ (λc st' h=>h.2.over JK) λy c st' k h=>Ba hlt T hk zj h) λd g h=>?_)
 rcases h with ⟨r,e,h⟩ | ⟨e,S⟩
 ·rw[e]; exact OX (.inl ⟨r,rfl,h⟩)
 ·rw[e]
  refine OR (dP (OR (Rf (d0 (I:=Lo7 gr a b st) (n:=n+2) (z:=n+2) (R:=LoR gr a b st) ⟨rfl,S⟩ (λc st' h=>h.2.over Jr) λy c st' k h=>AV hlt T hk Ao h) λd g h=>?_)))
  rcases h with ⟨r,e,h⟩ | ⟨e,S⟩
  ·rw[e]; exact OX (.inl ⟨r,rfl,h⟩)
  ·rw[e]
   exact OR (fH λi j=>OX ⟨rfl,S.sm.trans j,S.mi,S.ga,S.gb,S.gn⟩)
end
theorem qN (hlt:bq gM gA gE gs gr go gk) {a b:OP OM}{st:O0}{Q:OP OM->O0->Prop}(ha:1<=a.size) (hb:1<=b.size) (oa:∀ p∈a,go p) (ob:∀ p∈b,go p) (hk:kindOf st=gk) (ua:Up gr a.toList) (ub:Up gr b.toList)
  (h0:∀ y∈a.toList,gr (b[0]'hb)<=gr y) (h1:∀ x∈b.toList,gr x<=gr (a[a.size-1]'(by exact tU ha))) (h:∀ r st',Sm st st'->Mgd gr a.toList b.toList r->Q r st'):wpS gM gA gE gs (mergeLo' a b) Q st:=by
 have T:Two gr go a b:=⟨ha,hb,oa,ob,ua,ub,h0,h1⟩
 rw[sJ]
 refine OR (dP (OR (aL hb ?_)))
 have j:MI gr a.toList b.toList (#[b[0]'hb]:OP OM).toList 0 1:=by
  have l:MI gr a.toList b.toList [] 0 0:=⟨.nil,.nil,λ_ h=>(nomatch h),λ_ h=>(nomatch h)⟩
  exact l.pushB ub (by rw[O2]; exact hb) (by rw[SQ]; exact h0)
 have g:∀ r st',LoR gr a b st r st'->Q r st':=λr st' q=>h r st' q.1 q.2
 refine aF (λc=>OX (g _ _ (jN T (.refl st) j c))) λc=>aF (λk=>OX (g _ _ (jL T (.refl st) j k))) λk=>?_
 refine OR (SR (OR (Rf (d0 (I:=Lo5 gr a b st) (n:=1) (z:=a.size+b.size+1) (R:=LoR gr a b st) ⟨rfl,.refl st,j,by have:=aR k; lia,by have:=aR c; lia,Pe _⟩ (λc st' h=>h.2.over Ie) λy c st' m h=>?_) λd i h=>?_)))
 ·rw[SY 1 y] at h ⊢
  exact AT hlt T hk _ h
 ·rcases h with ⟨r,e,h⟩ | ⟨e,S⟩
  ·rw[e]; exact OX (g _ _ h)
  ·exact (S.over EA).elim
end
noncomputable def mergeHi':OP OM->OP OM->Tn O0 Sem (OP OM):=sortPriv% PySem.Builtin.mergeHi
theorem Up.ge {gr:OM->ON}(h:Up gr l) (hi:i<l.length):∀ y∈l.take (i+1),gr y<=gr l[i]:=by
 intro y hy
 rw[TC hi] at hy
 rcases O7.mp hy with hy | hy
 ·have:=Qh.mp (show (l.take i++l.drop i).Pairwise _ by rw[Qw]; exact h)
  exact this.2.2 y hy l[i] (by rw[Q6 hi]; exact .head _)
 ·rw[OK.mp hy]; exact Pe _
structure MH (gr:OM->ON) (a b o:vk OM) (i j:ON):Prop where
 perm:o.Perm (a.drop i++b.drop j)
 sorted:Up gr o.reverse
 la:∀ x∈a.take i,∀ y∈o,gr x<=gr y
 lb:∀ x∈b.take j,∀ y∈o,gr x<=gr y
section
theorem MH.swap (h:MH gr a b o i j):MH gr b a o j i:=⟨h.perm.trans RN,h.sorted,h.lb,h.la⟩
theorem qw {α:Type}{l:vk α}{c i:ON}(hc:c<=i):l.take i=l.take c++(l.drop c).take (i-c):=by
 have:=take_add' l c (i-c)
 rwa [show c+(i-c)=i by exact jM hc] at this
theorem wK {α:Type}{l:vk α}{c i:ON}(hc:c<=i):l.drop c=(l.drop c).take (i-c)++l.drop i:=by
 have:=(Qw (i-c) (l.drop c)).symm
 rwa [V8,show c+(i-c)=i by exact jM hc] at this
theorem MH.blockA (h:MH gr a b o i j) (ua:Up gr a) (c:ON) (hc:c<=i) (hlt:∀ x∈(a.drop c).take (i-c),∀ y∈b.take j,gr y<=gr x):MH gr a b (o++((a.drop c).take (i-c)).reverse) c j where
 perm:=by
  have e:a.drop c++b.drop j=(a.drop c).take (i-c)++(a.drop i++b.drop j):=by
   rw[<- QO]
   exact RM (· ++ b.drop j) (wK hc)
  rw[e]
  exact (h.perm.append (W5 _)).trans RN
 sorted:=by
  rw[Ul,Ud]
  refine Qh.mpr ⟨(ua.sublist (US c a)).sublist (W4 ..),h.sorted,λx hx y hy=>h.la x ?_ y (Ve.mp hy)⟩
  rw[qw hc]; exact PA _ hx
 la:=λx hx y hy=>(O7.mp hy).elim (λq=>h.la x (by rw[qw hc]; exact PC _ hx) y q) λq=>by
  have:=Qh.mp (show (a.take c++a.drop c).Pairwise _ by rw[Qw]; exact ua)
  exact this.2.2 x hx y (QW (Ve.mp q))
 lb:=λx hx y hy=>(O7.mp hy).elim (λq=>h.lb x hx y q) λq=>hlt y (Ve.mp q) x hx
theorem MH.blockB (h:MH gr a b o i j) (ub:Up gr b) (c:ON) (hc:c<=j) (hlt:∀ x∈(b.drop c).take (j-c),∀ y∈a.take i,gr y<=gr x):MH gr a b (o++((b.drop c).take (j-c)).reverse) i c:=(h.swap.blockA ub c hc hlt).swap
theorem MH.pushA (h:MH gr a b o (i+1) j) (ua:Up gr a) (hi:i<a.length) (hlt:∀ y∈b.take j,gr y<=gr a[i]):MH gr a b (o++[a[i]]) i j:=by
 have:=h.blockA ua i EK (by rw[show i+1-i=1 by exact zP,gh hi]; intro x g; rw[OK.mp g]; exact hlt)
 rwa [show i+1-i=1 by exact zP,gh hi] at this
theorem MH.pushA' (h:MH gr a b o i j) (ua:Up gr a) (h0:0<i) (hi:i-1<a.length) (hlt:∀ y∈b.take j,gr y<=gr a[i-1]):MH gr a b (o++[a[i-1]]) (i-1) j :=
 MH.pushA (by rw[R1 h0]; exact h) ua hi hlt
theorem MH.pushB' (h:MH gr a b o i j) (ub:Up gr b) (h0:0<j) (hj:j-1<b.length) (hlt:∀ y∈a.take i,gr y<=gr b[j-1]):MH gr a b (o++[b[j-1]]) i (j-1):=(h.swap.pushA' ub h0 hj hlt).swap
theorem MH.doneA (h:MH gr a b o 0 j) (ub:Up gr b):(b.take j++o.reverse).Perm (a++b)/\Up gr (b.take j++o.reverse):=by
 have:=h.blockB ub 0 (PZ _) (λx _ y g=>by rw[V2] at g; cases g)
 rw[SQ,W6] at this
 have e:(o++(b.take j).reverse).reverse=b.take j++o.reverse:=by rw[Ul,Ud]
 rw[<- e]
 exact ⟨(W5 _).trans (by have:=this.perm; rwa [SQ] at this),this.sorted⟩
theorem MH.doneB (h:MH gr a b o i 0) (ua:Up gr a):(a.take i++o.reverse).Perm (a++b)/\Up gr (a.take i++o.reverse):=by
 obtain ⟨j,g⟩:=h.swap.doneA ua
 exact ⟨j.trans RN,g⟩
theorem MH.first (h:MH gr a b o i 1) (ua:Up gr a) (ub:Up gr b) (ht:∀ x∈b.take 1,∀ y∈a,gr x<=gr y):(b.take 1++a.take i++o.reverse).Perm (a++b)/\Up gr (b.take 1++a.take i++o.reverse):=by
 have:=h.blockA ua 0 (PZ _) (λx j y g=>ht y g x (QW j))
 rw[SQ,W6] at this
 have:=this.doneA ub
 rwa [Ul,Ud,<- QO] at this
end
section
theorem d9 (a:OP OM) (i:ON):(a.extract 0 i).toList=a.toList.take i:=by rw[bV,SQ,W6]
theorem pA {l:vk OM}{n:ON}{P:OM->Prop}(h:∀ q (hq:q<l.length),q<n->P l[q]):∀ x∈l.take n,P x:=by
 intro x g
 obtain ⟨q,hq,rfl⟩:=SB g
 rw[RQ] at hq
 rw[Uu]
 exact h q (KJ hq) (GW hq)
abbrev H5:Type:=OE (OP OM)×ON×ON×OP OM×ON
abbrev H6:Type:=OE (OP OM)×ON×ON×OP OM×ON×ON
abbrev H7:Type:=OE (OP OM)×ON×ON×OP OM×ON×ON×ON
noncomputable def hiD (a b out:OP OM) (na nb:ON):OP Keyed:=a.extract 0 na++b.extract 0 nb++out.reverse
noncomputable def hiF (a b out:OP OM) (na nb:ON):OP Keyed:=b.extract 0 nb++a.extract 0 na++out.reverse
noncomputable def zT (a b:OP OM) (mg na nb:ON) (out:OP OM) (ac:ON):SM (Pd H6) :=
 if (na==0)=Gt then PU (.done (rg (hiD a b out na nb),na,nb,out,ac,0)) else if ac≥mg then PU (.done (OC,na,nb,out,ac,0)) else PU (.yield (OC,na,nb,out,ac,0))
noncomputable def yX (a b:OP OM) (mg na nb:ON) (out:OP OM) (bc:ON):SM (Pd H6) :=
 if (nb==1)=Gt then PU (.done (rg (hiF a b out na nb),na,nb,out,0,bc)) else if bc≥mg then PU (.done (OC,na,nb,out,0,bc)) else PU (.yield (OC,na,nb,out,0,bc))
noncomputable def C2 (a b:OP OM) (mg na nb:ON) (out:OP OM) (ac bc:ON) (w:Pr):SM (Pd H6) :=
 if w=Gt then elem' a (na-1)>>=λx=>zT a b mg (na-1) nb (out.push x) (ac+1) else elem' b (nb-1)>>=λx=>yX a b mg na (nb-1) (out.push x) (bc+1)
noncomputable def Mp (a b:OP OM) (mg na nb:ON) (out:OP OM) (ac bc:ON):OE Pr->SM (Pd H6)
 | some w=>C2 a b mg na nb out ac bc w
 | _=>PU (.done (rg (hiD a b out na nb),na,nb,out,ac,bc))
noncomputable def hiW (a b:OP OM) (mg:ON) (c:H6):SM (Pd H6) :=
 elem' b (c.2.2.1-1)>>=λp=>elem' a (c.2.1-1)>>=λq=>lt' p q>>=Mp a b mg c.2.1 c.2.2.1 c.2.2.2.1 c.2.2.2.2.1 c.2.2.2.2.2
noncomputable def hiT4' (a b:OP OM) (mg k l na nb:ON) (out:OP OM):SM (Pd H7) :=
 if (na==0)=Gt then PU (.done (rg (hiD a b out na nb),na,nb,out,mg,k,l))
 else if (decide (k<7)&&decide (l<7))=Gt then PU (.done (OC,na,nb,out,mg,k,l)) else PU (.yield (OC,na,nb,out,mg,k,l))
noncomputable def sF (a b:OP OM) (mg k l na nb:ON) (out:OP OM):SM (Pd H7):=elem' a (na-1)>>=λx=>hiT4' a b mg k l (na-1) nb (out.push x)
noncomputable def hiT3' (a b:OP OM) (mg k l na nb:ON) (out:OP OM):SM (Pd H7) :=
 if (nb==1)=Gt then PU (.done (rg (hiF a b out na nb),na,nb,out,mg,k,l)) else if (nb==0)=Gt then PU (.done (rg (hiD a b out na nb),na,nb,out,mg,k,l)) else sF a b mg k l na nb out
noncomputable def Hu (a b:OP OM) (mg k bc na nb:ON) (out:OP OM):OE ON->SM (Pd H7)
 | some l=>if nb-l>0 then hiT3' a b mg k (nb-l) na l (out++(b.extract l nb).reverse) else sF a b mg k (nb-l) na nb out
 | _=>PU (.done (rg (hiD a b out na nb),na,nb,out,mg,k,bc))
noncomputable def hiT2' (a b:OP OM) (mg k bc na nb:ON) (out:OP OM):SM (Pd H7) :=
 if (nb==1)=Gt then PU (.done (rg (hiF a b out na nb),na,nb,out,mg,k,bc)) else elem' a (na-1)>>=λy=>gallop' Gt y b 0 nb (nb-1)>>=Hu a b mg k bc na nb out
noncomputable def ss (a b:OP OM) (mg k bc na nb:ON) (out:OP OM):SM (Pd H7):=elem' b (nb-1)>>=λx=>hiT2' a b mg k bc na (nb-1) (out.push x)
noncomputable def hiT1' (a b:OP OM) (mg k bc na nb:ON) (out:OP OM):SM (Pd H7) :=
 if (na==0)=Gt then PU (.done (rg (hiD a b out na nb),na,nb,out,mg,k,bc)) else ss a b mg k bc na nb out
noncomputable def E7 (a b:OP OM) (mg ac bc na nb:ON) (out:OP OM):OE ON->SM (Pd H7)
 | some k=>if na-k>0 then hiT1' a b mg (na-k) bc k nb (out++(a.extract k na).reverse) else ss a b mg (na-k) bc na nb out
 | _=>PU (.done (rg (hiD a b out na nb),na,nb,out,mg,ac,bc))
noncomputable def ye (a b:OP OM) (ac bc na nb:ON) (out:OP OM) (mg:ON):SM (Pd H7) :=
 setMin' mg>>=λ_=>elem' b (nb-1)>>=λx=>gallop' Oz x a 0 na (na-1)>>=E7 a b mg ac bc na nb out
noncomputable def hiG (a b:OP OM) (c:H7):SM (Pd H7) :=
 if c.2.2.2.2.1>1 then ye a b c.2.2.2.2.2.1 c.2.2.2.2.2.2 c.2.1 c.2.2.1 c.2.2.2.1 (c.2.2.2.2.1-1) else ye a b c.2.2.2.2.2.1 c.2.2.2.2.2.2 c.2.1 c.2.2.1 c.2.2.2.1 c.2.2.2.2.1
noncomputable def Mw (c:H7):OE (OP OM)->SM (Pd H5)
 | some r=>PU (.done (rg r,c.2.1,c.2.2.1,c.2.2.2.1,c.2.2.2.2.1))
 | none=>setMin' (c.2.2.2.2.1+1)>>=λ_=>PU (.yield (OC,c.2.1,c.2.2.1,c.2.2.2.1,c.2.2.2.2.1+1))
noncomputable def Ms (a b:OP OM) (mg:ON) (c:H6):OE (OP OM)->SM (Pd H5)
 | some r=>PU (.done (rg r,c.2.1,c.2.2.1,c.2.2.2.1,mg))
 | none=>(ZI (rule "list.sort.gallop"):SM Ur)>>=λ_=>UD [:a.size+b.size] ((OC,c.2.1,c.2.2.1,c.2.2.2.1,mg+1,c.2.2.2.2.1,c.2.2.2.2.2):H7) (λ_ c=>hiG a b c)>>=λd=>Mw d d.1
noncomputable def hiB (a b:OP OM) (c:H5):SM (Pd H5) :=
 UD [:a.size+b.size] ((OC,c.2.1,c.2.2.1,c.2.2.2.1,0,0):H6) (λ_ d=>hiW a b c.2.2.2.2 d)>>=λd=>Ms a b c.2.2.2.2 d d.1
noncomputable def hiM (a b:OP OM) (x:OM):SM (OP OM) :=
 if (a.size-1==0)=Gt then PU (hiD a b #[x] (a.size-1) b.size) else if (b.size==1)=Gt then PU (hiF a b #[x] (a.size-1) b.size) else (get:SM O0)>>=λg=>UD [:a.size+b.size] ((OC,a.size-1,b.size,#[x],CE g):H5) (λ_ c=>hiB a b c)>>=λc=>loE c.1
noncomputable def ED (a b:OP OM):SM (OP OM):=(ZI (rule "list.sort.merge-hi"):SM Ur)>>=λ_=>elem' a (a.size-1)>>=hiM a b
theorem tJ (a b:OP OM):mergeHi' a b=ED a b:=by kernel_rfl
structure HiS (gr:OM->ON) (a b:OP OM) (st:O0) (n na nb:ON) (out:OP OM) (st':O0):Prop where
 sm:Sm st st'
 mi:MH gr a.toList b.toList out.toList na nb
 ga:0<na
 ga':na<=a.size
 gb:1<nb
 gb':nb<=b.size
 gn:n+na+nb<=a.size+b.size
def Hi5 (gr:OM->ON) (a b:OP OM) (st:O0) (n:ON) (c:H5) (st':O0):Prop:=c.1=OC/\HiS gr a b st n c.2.1 c.2.2.1 c.2.2.2.1 st'
def Hi6 (gr:OM->ON) (a b:OP OM) (st:O0) (n:ON) (c:H6) (st':O0):Prop:=c.1=OC/\HiS gr a b st n c.2.1 c.2.2.1 c.2.2.2.1 st'
def Hi7 (gr:OM->ON) (a b:OP OM) (st:O0) (n:ON) (c:H7) (st':O0):Prop:=c.1=OC/\HiS gr a b st n c.2.1 c.2.2.1 c.2.2.2.1 st'
section
variable {a b:OP OM}{st st':O0}{out:OP OM}{na nb n m x mg k l ac bc:ON}
theorem HiS.less (h:HiS gr a b st n na nb out st') (hm:m<=n):HiS gr a b st m na nb out st':=⟨h.sm,h.mi,h.ga,h.ga',h.gb,h.gb',by have:=h.gn; exact GU hm this⟩
theorem HiS.over (S:HiS gr a b st n na nb out st') (h:a.size+b.size<=n):False:=by have:=S.ga; have:=S.gb; have:=S.gn; exact EO h ‹_› this
theorem jR (T:Two gr go a b) (sm:Sm st st') (m:MH gr a.toList b.toList out.toList na nb) (e:(na==0)=Gt):LoR gr a b st (hiD a b out na nb) st':=by
 cases OZ.mp e
 have:=m.doneA T.ub
 refine ⟨sm,?_⟩
 unfold Mgd hiD
 rw[PY,PY,d9,d9,V2,Wz,TD]
 exact this
theorem A2 (T:Two gr go a b) (sm:Sm st st') (m:MH gr a.toList b.toList out.toList na nb) (e:(nb==0)=Gt):LoR gr a b st (hiD a b out na nb) st':=by
 cases OZ.mp e
 have:=m.doneB T.ua
 refine ⟨sm,?_⟩
 unfold Mgd hiD
 rw[PY,PY,d9,d9,V2,RH,TD]
 exact this
theorem j4 (T:Two gr go a b) (sm:Sm st st') (m:MH gr a.toList b.toList out.toList na nb) (e:(nb==1)=Gt):LoR gr a b st (hiF a b out na nb) st':=by
 cases OZ.mp e
 have:=m.first T.ua T.ub (λx g y h=>by
  have j:b.toList.take 1=[b[0]'T.hb]:=by
   have:=gh (l:=b.toList) (i:=0) (by rw[O2]; exact T.hb)
   rw[SQ] at this
   rw[this]; rfl
  rw[j] at g
  rw[OK.mp g]
  exact T.h0 y h)
 refine ⟨sm,?_⟩
 unfold Mgd hiF
 rw[PY,PY,d9,d9,TD]
 exact this
theorem jT {c:OP OM}(u:Up gr c.toList) {i:ON}(h0:0<i) (hi:i-1<c.size):∀ y∈c.toList.take i,gr y<=gr c[i-1]:=λy g=>u.ge (i:=i-1) (by rw[O2]; exact hi) y (by rwa [R1 h0])
theorem vF (T:Two gr go a b) (hn:x<=m) (sm:Sm st st') (mi:MH gr a.toList b.toList out.toList na nb) (ga':na<=a.size) (gb:1<nb) (gb':nb<=b.size) (gn:m+na+nb<=a.size+b.size):wpS gM gA gE gs (zT a b mg na nb out ac) (Po (Hi6 gr a b st) x m (LoR gr a b st)) st' :=
 aF (λc=>OX (.inl ⟨_,rfl,jR T sm mi c⟩)) λc=>by
  have S:HiS gr a b st m na nb out st':=⟨sm,mi,by have:=aR c; exact tR this,ga',gb,gb',gn⟩
  exact aF (λ_=>OX (.inr ⟨rfl,S.less hn⟩)) λ_=>OX ⟨rfl,S⟩
theorem uo (T:Two gr go a b) (hn:x<=m) (sm:Sm st st') (mi:MH gr a.toList b.toList out.toList na nb) (ga:0<na) (ga':na<=a.size) (gb:0<nb) (gb':nb<=b.size) (gn:m+na+nb<=a.size+b.size):wpS gM gA gE gs (yX a b mg na nb out bc) (Po (Hi6 gr a b st) x m (LoR gr a b st)) st' :=
 aF (λc=>OX (.inl ⟨_,rfl,j4 T sm mi c⟩)) λc=>by
  have S:HiS gr a b st m na nb out st':=⟨sm,mi,ga,ga',by have:=aR c; exact EV gb this,gb',gn⟩
  exact aF (λ_=>OX (.inr ⟨rfl,S.less hn⟩)) λ_=>OX ⟨rfl,S⟩
theorem BL (hlt:bq gM gA gE gs gr go gk) (T:Two gr go a b) (hk:kindOf st=gk) (hn:x<=n+1) (S:Hi6 gr a b st n c st'):wpS gM gA gE gs (hiW a b mg c) (Po (Hi6 gr a b st) x (n+1) (LoR gr a b st)) st':=by
 obtain ⟨c0,m,l,p,ac,z⟩:=c
 obtain ⟨v,o,r,j,i,h,g,u⟩:=S
 dsimp only at v r j i h g u
 have k:m-1<a.size:=by exact s8 j i
 have pb:l-1<b.size:=by exact sj h g
 refine OR (aL pb (OR (aL k (OR (hlt (T.ob _ (QV _)) (T.oa _ (QV _)) (o.1.trans hk) ?_)))))
 show wpS gM gA gE gs (C2 a b mg m l p ac z (decide (gr b[l-1]<gr a[m-1]))) _ st'
 refine aF (λw=>OR (aL k ?_)) λw=>OR (aL pb ?_)
 ·replace w:=Pp w
  refine vF T hn o ?_ (oJ k) h g (z6 j u)
  rw[RS]
  exact r.pushA' T.ua j (by rw[O2]; exact k) (λy t=>Lt (jT T.ub (oM h) pb y t) (O5 w))
 ·replace w:¬ gr b[l-1]<gr a[m-1]:=λq=>w (PK q)
  refine uo T hn o ?_ j i (JJ h) (oJ pb) (GY h u)
  rw[RS]
  exact r.pushB' T.ub (oM h) (by rw[O2]; exact pb) (λy t=>Lt (jT T.ua j k y t) (Pj w))
theorem pI (T:Two gr go a b) (hn:x<=n+1) (S:HiS gr a b st n na nb out st') (kA:∀ y∈b.toList.take nb,∀ h:na-1<a.size,gr y<=gr a[na-1]):wpS gM gA gE gs (sF a b mg k l na nb out) (Po (Hi7 gr a b st) x (n+1) (LoR gr a b st)) st':=by
 obtain ⟨p,q,o,m,u,j,t⟩:=S
 have i:na-1<a.size:=by exact s8 o m
 refine OR (aL i ?_)
 have g:MH gr a.toList b.toList (out.push a[na-1]).toList (na-1) nb:=by
  rw[RS]
  exact q.pushA' T.ua o (by rw[O2]; exact i) λy r=>kA y r i
 refine aF (λc=>OX (.inl ⟨_,rfl,jR T p g c⟩)) λc=>?_
 have S:HiS gr a b st (n+1) (na-1) nb (out.push a[na-1]) st':=⟨p,g,by have:=aR c; exact FL this,by exact oJ i,u,j,by exact z6 o t⟩
 exact aF (λ_=>OX (.inr ⟨rfl,S.less hn⟩)) λ_=>OX ⟨rfl,S⟩
theorem oW (hlt:bq gM gA gE gs gr go gk) (T:Two gr go a b) (hk:kindOf st=gk) (hn:x<=n+1) (S:HiS gr a b st n na nb out st') (kB:∀ y∈a.toList.take na,∀ h:nb-1<b.size,gr y<=gr b[nb-1]):wpS gM gA gE gs (ss a b mg k bc na nb out) (Po (Hi7 gr a b st) x (n+1) (LoR gr a b st)) st':=by
 obtain ⟨o,mi,t,m,gb,gb',gn⟩:=S
 have pa:na-1<a.size:=by exact s8 t m
 have pb:nb-1<b.size:=by exact sj gb gb'
 refine OR (aL pb ?_)
 have g:MH gr a.toList b.toList (out.push b[nb-1]).toList na (nb-1):=by
  rw[RS]
  exact mi.pushB' T.ub (oM gb) (by rw[O2]; exact pb) λy p=>kB y p pb
 generalize out.push b[nb-1]=out2 at g ⊢
 refine aF (λc=>OX (.inl ⟨_,rfl,j4 T o g c⟩)) λc=>?_
 have r:1<nb-1:=by have:=aR c; exact Hj gb this
 clear c mi kB
 refine OR (aL pa (OR (dN hlt (JT pb) (FT r) T.ob (T.oa _ (QV _)) (o.1.trans hk) T.ub λl v l2 l3=>?_)))
 simp only[Ri,Qm] at l2 l3
 have z:∀ y∈b.toList.take l,∀ h:na-1<a.size,gr y<=gr a[na-1]:=λy p _=>pA (P:=λy=>gr y<=gr a[na-1]) (λq hq j=>O5 (l2 q hq j)) y p
 show wpS gM gA gE gs (if nb-1-l>0 then hiT3' a b mg k (nb-1-l) na l (out2++(b.extract l (nb-1)).reverse) else sF a b mg k (nb-1-l) na (nb-1) out2) _ st'
 refine aF (λu=>?_) λu=>pI T hn ⟨o,g,t,m,r,by exact oJ pb,by exact Ki gn⟩ ?_
 ·have i:MH gr a.toList b.toList (out2++(b.extract l (nb-1)).reverse).toList na l:=by
   rw[PY,TD,bV]
   exact g.blockB T.ub l v (gB λq hq j y p=>Lt (jT T.ua t pa y p) (l3 (l+q) hq (O4 l q) (KC j)))
  exact aF (λc=>OX (.inl ⟨_,rfl,j4 T o i c⟩)) λc=>aF (λc'=>OX (.inl ⟨_,rfl,A2 T o i c'⟩)) λc'=>pI T hn ⟨o,i,t,m,by have:=aR c; have:=aR c'; exact Go ‹_› this,by exact Gw pb v,by exact Jl gn u⟩ z
 ·have e0:l=nb-1:=by exact JR v u
  rw[e0] at z
  exact z
theorem pV (hlt:bq gM gA gE gs gr go gk) (T:Two gr go a b) (hk:kindOf st=gk) (hn:x<=n+1) (S:HiS gr a b st n na nb out st'):wpS gM gA gE gs (ye a b ac bc na nb out mg) (Po (Hi7 gr a b st) x (n+1) (LoR gr a b st)) st':=by
 obtain ⟨m,mi,ga,l,r,j,gn⟩:=S
 have pb:nb-1<b.size:=by exact sj r j
 refine OR (fH λg t=>?_)
 replace m:=m.trans t
 refine OR (aL pb (OR (dN hlt (Ih l) (IA ga) T.oa (T.ob _ (QV _)) (m.1.trans hk) T.ua λk p k2 k3=>?_)))
 simp only[Pn,P2,Qm] at k2 k3
 have u:∀ y∈a.toList.take k,∀ h:nb-1<b.size,gr y<=gr b[nb-1]:=λy v _=>pA (P:=λy=>gr y<=gr b[nb-1]) (λq z i=>k2 q z i) y v
 show wpS gM gA gE gs (if na-k>0 then hiT1' a b mg (na-k) bc k nb (out++(a.extract k na).reverse) else ss a b mg (na-k) bc na nb out) _ g
 refine aF (λk0=>?_) λk0=>oW hlt T hk hn ⟨m,mi,ga,l,r,j,gn⟩ ?_
 ·have o:MH gr a.toList b.toList (out++(a.extract k na).reverse).toList k nb:=by
   rw[PY,TD,bV]
   exact mi.blockA T.ua k p (gB λq z i y v=>Lt (jT T.ub (oM r) pb y v) (O5 (k3 (k+q) z (O4 k q) (oH i))))
  exact aF (λc=>OX (.inl ⟨_,rfl,jR T m o c⟩)) λc=>oW hlt T hk hn ⟨m,o,by have:=aR c; exact tR this,by exact HY l p,r,j,by exact F9 gn p⟩ u
 ·have e0:k=na:=by exact H8 p k0
  rw[e0] at u
  exact u
theorem BB (hlt:bq gM gA gE gs gr go gk) (T:Two gr go a b) (hk:kindOf st=gk) (hn:x<=n+1) (S:Hi7 gr a b st n c st'):wpS gM gA gE gs (hiG a b c) (Po (Hi7 gr a b st) x (n+1) (LoR gr a b st)) st' :=
 aF (λ_=>pV hlt T hk hn S.2) λ_=>pV hlt T hk hn S.2
theorem A0 (hlt:bq gM gA gE gs gr go gk) (T:Two gr go a b) (hk:kindOf st=gk) (z:ON) (S:Hi5 gr a b st (n+1) c st'):wpS gM gA gE gs (hiB a b c) (Po (Hi5 gr a b st) z (n+2) (LoR gr a b st)) st':=by
 refine OR (Rf (d0 (I:=Hi6 gr a b st) (n:=n+1) (z:=n+2) (R:=LoR gr a b st) ⟨rfl,S.2⟩ (λc st' h=>h.2.over GH) λy c st' k h=>BL hlt T hk zj h) λd g h=>?_)
 rcases h with ⟨r,e,h⟩ | ⟨e,S⟩
 ·rw[e]; exact OX (.inl ⟨r,rfl,h⟩)
 ·rw[e]
  refine OR (dP (OR (Rf (d0 (I:=Hi7 gr a b st) (n:=n+2) (z:=n+2) (R:=LoR gr a b st) ⟨rfl,S⟩ (λc st' h=>h.2.over ER) λy c st' k h=>BB hlt T hk Ao h) λd g h=>?_)))
  rcases h with ⟨r,e,h⟩ | ⟨e,S⟩
  ·rw[e]; exact OX (.inl ⟨r,rfl,h⟩)
  ·rw[e]
   exact OR (fH λi j=>OX ⟨rfl,S.sm.trans j,S.mi,S.ga,S.ga',S.gb,S.gb',S.gn⟩)
end
theorem qV (hlt:bq gM gA gE gs gr go gk) {a b:OP OM}{st:O0}{Q:OP OM->O0->Prop}(ha:1<=a.size) (hb:1<=b.size) (oa:∀ p∈a,go p) (ob:∀ p∈b,go p) (hk:kindOf st=gk) (ua:Up gr a.toList) (ub:Up gr b.toList)
  (h0:∀ y∈a.toList,gr (b[0]'hb)<=gr y) (h1:∀ x∈b.toList,gr x<=gr (a[a.size-1]'(by exact tU ha))) (h:∀ r st',Sm st st'->Mgd gr a.toList b.toList r->Q r st'):wpS gM gA gE gs (mergeHi' a b) Q st:=by
 have T:Two gr go a b:=⟨ha,hb,oa,ob,ua,ub,h0,h1⟩
 rw[tJ]
 have i:a.size-1<a.size:=Uc ha
 refine OR (dP (OR (aL i ?_)))
 have k:MH gr a.toList b.toList (#[a[a.size-1]]:OP OM).toList (a.size-1) b.size:=by
  have o:MH gr a.toList b.toList [] a.size b.size:=⟨by rw[<- O2,<- O2,SA,SA]; exact .nil,.nil,λ_ _ _ h=>(nomatch h),λ_ _ _ h=>(nomatch h)⟩
  exact o.pushA' ua ha (by rw[O2]; exact i) (λy m=>h1 y (QW m))
 have g:∀ r st',LoR gr a b st r st'->Q r st':=λr st' q=>h r st' q.1 q.2
 refine aF (λc=>OX (g _ _ (jR T (.refl st) k c))) λc=>aF (λl=>OX (g _ _ (j4 T (.refl st) k l))) λl=>?_
 refine OR (SR (OR (Rf (d0 (I:=Hi5 gr a b st) (n:=1) (z:=a.size+b.size+1) (R:=LoR gr a b st) ⟨rfl,.refl st,k,by have:=aR c; lia,by lia,by have:=aR l; lia,Pe _,by lia⟩ (λc st' h=>h.2.over Ef) λy c st' m h=>?_) λd j h=>?_)))
 ·rw[SY 1 y] at h ⊢
  exact A0 hlt T hk _ h
 ·rcases h with ⟨r,e,h⟩ | ⟨e,S⟩
  ·rw[e]; exact OX (g _ _ h)
  ·exact (S.over HE).elim
end
section
structure Wn (lo hi:ON) (st st':O0):Prop where
 kind:kindOf st' = kindOf st
 pend:Px st' = Px st
 fail:PJ st' = PJ st
 perm:(OI st').Perm (OI st)
 out:∀ k,(k<lo\/hi<=k)->(OI st')[k]? = (OI st)[k]?
theorem Wn.refl (lo hi:ON) (st:O0):Wn lo hi st st:=⟨rfl,rfl,rfl,.refl _,λuu uu=>rfl⟩
theorem Wn.trans {lo hi:ON}{x y z:O0}(h:Wn lo hi x y) (g:Wn lo hi y z):Wn lo hi x z:=⟨g.kind.trans h.kind,g.pend.trans h.pend,g.fail.trans h.fail,g.perm.trans h.perm,λk hk=>(g.out k hk).trans (h.out k hk)⟩
theorem Gd.of {lo hi:ON}{st st':O0}(g:Gd gr go gk st) (h:Wn lo hi st st'):Gd gr go gk st':=⟨λp i=>g.ok p (h.perm.mem_iff.mp i),h.kind.trans g.kind⟩
theorem Wn.size {lo hi:ON}{st st':O0}(h:Wn lo hi st st'):(OI st').size=(OI st).size:=h.perm.size_eq
theorem cq (h:xs[i]? = ys[j]?):rkA gr xs i=rkA gr ys j:=by unfold rkA; rw[h]
theorem iy (hlt:bq gM gA gE gs gr go gk) {st:O0}{i j:ON}{Q:OE Pr->O0->Prop}(g:Gd gr go gk st) (hi:i<(OI st).size) (hj:j<(OI st).size) (h:Q (rg (decide (rkA gr (OI st) i<rkA gr (OI st) j))) st):wpS gM gA gE gs (ltAt' i j) Q st:=by
 rw[ltAt'_eq]
 refine OR (SR (OR (aL hi (OR (aL hj (hlt (g.ok _ (QV _)) (g.ok _ (QV _)) g.kind ?_))))))
 rw[eN hi,eN hj] at h
 exact h
def SegDn (gr:OM->ON) (arr:OP OM) (lo n:ON):Prop:=∀ i j,lo<=i->i<=j->j<lo+n->rkA gr arr j<=rkA gr arr i
theorem SegUp.succ {arr:OP OM}{lo n:ON}(h:SegUp gr arr lo n) (h1:1<=n) (hn:rkA gr arr (lo+n-1)<=rkA gr arr (lo+n)):SegUp gr arr lo (n+1):=by
 intro i j k g l
 by_cases e:j=lo+n
 ·(clear l; subst e)
  by_cases e':i=lo+n
  ·(clear k g; subst e'); exact Pe _
  ·exact Lt (h i (lo+n-1) k (Aw g e') (sO h1)) hn
 ·exact h i j k g (zV l e)
theorem SegDn.succ {arr:OP OM}{lo n:ON}(h:SegDn gr arr lo n) (h1:1<=n) (hn:rkA gr arr (lo+n)<=rkA gr arr (lo+n-1)):SegDn gr arr lo (n+1):=by
 intro i j k g l
 by_cases e:j=lo+n
 ·(clear l; subst e)
  by_cases e':i=lo+n
  ·(clear k g; subst e'); exact Pe _
  ·exact Lt hn (h i (lo+n-1) k (Aw g e') (sO h1))
 ·exact h i j k g (zV l e)
theorem jU {i j:ON}{st:O0}{Q:Ur->O0->Prop}(h:Q () (Yk st (U1 (OI st) i j ((j-i)/2)))):wpS gM gA gE gs (T5 i j) Q st:=by
 rw[reverseSlice'_eq]; exact To h
noncomputable def ut (lo nrem n:ON):Tn O0 Sem (OE ON):=do
 let mut n:=n
 T5 lo (lo+n)
 for _ in [n:nrem] do
  let rg smaller <- ltAt' (lo+n) (lo+n-1) | return OC
  if smaller then break
  n:=n+1
 return rg n
noncomputable def vM (lo nrem n:ON):Tn O0 Sem (OE ON):=do
 let mut n:=n
 rule "list.sort.descending-run"
 n:=n+1
 let mut neq:=0
 for _ in [n:nrem] do
  let rg smaller <- ltAt' (lo+n) (lo+n-1) | return OC
  if smaller then
   if neq>0 then T5 (lo+n-(neq+1)) (lo+n)
   neq:=0
  else
   let rg larger <- ltAt' (lo+n-1) (lo+n) | return OC
   if larger then break
   neq:=neq+1
  n:=n+1
 if neq>0 then T5 (lo+n-(neq+1)) (lo+n)
 T5 lo (lo+n)
 for _ in [n:nrem] do
  let rg smaller <- ltAt' (lo+n) (lo+n-1) | return OC
  if smaller then break
  n:=n+1
 return rg n
theorem iV (hj:j<=xs.size) (he:∀ k,i<=k->k<j->rkA gr xs k=rkA gr xs (j-1)) (k:ON):rkA gr (U1 xs i j ((j-i)/2)) k=rkA gr xs k:=by
 by_cases c:i<=k/\k<j
 ·rw[cq (j:=i+j-1-k) (ys:=xs) (by rw[RL hj,OD c]),he (i+j-1-k) (JV c) (IR c),he k c.1 c.2]
 ·exact cq (by rw[RL hj,OB c])
theorem gJ {lo hi i j:ON}{st:O0}(hj:j<=(OI st).size) (h1:lo<=i) (h2:j<=hi):Wn lo hi st (Yk st (U1 (OI st) i j ((j-i)/2))):=⟨rfl,rfl,rfl,mirror_perm _ _ _ _,λk hk=>by
 show (U1 _ _ _ _)[k]? = _
 rw[RL hj,OB (Hf h1 h2 hk)]⟩
theorem ld (hlt:bq gM gA gE gs gr go gk) {lo nrem n:ON}{st:O0}{Q:OE ON->O0->Prop}(g:Gd gr go gk st) (hn:lo+nrem<=(OI st).size) (h1:1<=n) (h2:n<=nrem) (dn:SegDn gr (OI st) lo n)
  (h:∀ n st',1<=n->n<=nrem->Wn lo (lo+nrem) st st'->SegUp gr (OI st') lo n->Q (rg n) st'):wpS gM gA gE gs (ut lo nrem n) Q st:=by
 unfold ut
 refine OR (jU ?_)
 have m:lo+n<=(OI st).size:=by exact Kh hn h2
 have o:Wn lo (lo+nrem) st (Yk st (U1 (OI st) lo (lo+n) ((lo+n-lo)/2))):=gJ m (Pe _) (by exact OS ‹_› _)
 have k:SegUp gr (U1 (OI st) lo (lo+n) ((lo+n-lo)/2)) lo n:=by
  intro i j hi hij hj
  rw[cq (j:=lo+(lo+n)-1-i) (ys:=OI st) (by rw[RL m,OD ⟨hi,by exact OH ‹_› ‹_›⟩]),cq (i:=j) (j:=lo+(lo+n)-1-j) (ys:=OI st) (by rw[RL m,OD ⟨by exact Lt ‹_› ‹_›,hj⟩])]
  exact dn _ _ (Ed hj) (J7 hij) (KO h1 hi)
 generalize hst:Yk st (U1 (OI st) lo (lo+n) ((lo+n-lo)/2))=st2 at o ⊢
 have k:SegUp gr (OI st2) lo n:=by rw[<- hst]; exact k
 have g2:=g.of o
 have l:=o.size
 refine OR (Rf (QQ (I:=λx c st'=>st' = st2/\c=(OC,x)/\x<=nrem/\SegUp gr (OI st2) lo x)
  (Q:=λc st'=>st' = st2/\∃ n,c=(OC,n)/\1<=n/\n<=nrem/\SegUp gr (OI st2) lo n) ?_ ?_ (cX rfl rfl h2 k)) ?_)
 ·intro x c st' hx1 r q
  refine du (q) λMR MZ gx t=>?_
  clear q
  (clear k o; subst MR)
  subst MZ
  refine OR (iy hlt g2 (adl r (Lt hn (Pg l.symm))) (qa (adl r (Lt hn (Pg l.symm)))) ?_)
  dsimp only
  by_cases w:rkA gr (OI st') (lo+x)<rkA gr (OI st') (lo+x-1)
  ·rw[PK w,OD rfl]
   exact OX (aB rfl (bp x rfl (by exact OG ‹_› ‹_›) gx t))
  ·rw[P0 w,OB (by decide)]
   exact OX (cX rfl rfl ‹_› (t.succ (by exact OG ‹_› ‹_›) (Pj w)))
 ·intro c st' p
  refine du (p) λMQ MW gx t=>?_
  clear p
  (clear g2 l k o; subst MQ)
  subst MW
  rw[show max n nrem=nrem by exact Kx gx] at *
  exact (aB rfl (bp nrem rfl (by exact OG ‹_› ‹_›) (Pe _) t))
 ·intro c st' z
  obtain ⟨y,n',v,p1,p2,u⟩:=z
  (clear g2 l k; subst y)
  subst v
  exact OX (h n' st' p1 p2 o u)
theorem SegDn.congr {xs ys:OP OM}{lo n:ON}(h:SegDn gr xs lo n) (e:∀ k,rkA gr ys k=rkA gr xs k):SegDn gr ys lo n:=λi j a b c=>by rw[e,e]; exact h i j a b c
theorem lS (hlt:bq gM gA gE gs gr go gk) {lo nrem n:ON}{st:O0}{Q:OE ON->O0->Prop}(g:Gd gr go gk st) (hn:lo+nrem<=(OI st).size) (h1:1<=n) (h2:n<nrem) (dn:SegDn gr (OI st) lo (n+1))
  (h:∀ n st',1<=n->n<=nrem->Wn lo (lo+nrem) st st'->SegUp gr (OI st') lo n->Q (rg n) st'):wpS gM gA gE gs (vM lo nrem n) Q st:=by
 unfold vM
 refine OR (dP ?_)
 refine OR (Rf (QQ (I:=λx c m=>∃ l,c=(OC,x,l)/\Wn lo (lo+nrem) st m/\(∀ k,rkA gr (OI m) k=rkA gr (OI st) k)/\x<=nrem/\l+1<=x/\SegDn gr (OI st) lo x/\∀ k,x-(l+1)<=k->k<x->rkA gr (OI st) (lo+k)=rkA gr (OI st) (lo+x-1))
  (Q:=λc m=>∃ x l,c=(OC,x,l)/\Wn lo (lo+nrem) st m/\(∀ k,rkA gr (OI m) k=rkA gr (OI st) k)/\x<=nrem/\l+1<=x/\SegDn gr (OI st) lo x/\∀ k,x-(l+1)<=k->k<x->rkA gr (OI st) (lo+k)=rkA gr (OI st) (lo+x-1)) ?_ ?_ (tP 0 rfl (.refl ..) (λuu=>rfl) ‹_› (Ts _) dn (λk v z=>by rw[show lo+k=lo+(n+1)-1 by exact Ay v z]))) ?_)
 ·intro x c m hx1 r MT
  refine zQ (MT) λl MX p e gx y dn eq=>?_
  clear MT
  subst MX
  have g':=g.of p
  have o:=p.size
  dsimp only
  refine OR (iy hlt g' (oP hn r o) (zA hn r o) ?_)
  dsimp only
  rw[e,e]
  by_cases w:rkA gr (OI st) (lo+x)<rkA gr (OI st) (lo+x-1)
  ·rw[PK w,OD rfl]
   have fin:∀ t,Wn lo (lo+nrem) st t->(∀ k,rkA gr (OI t) k=rkA gr (OI st) k)->∃ neq',((OC:OE (OE ON)),x+1,0)=(OC,x+1,neq')/\Wn lo (lo+nrem) st t/\(∀ k,rkA gr (OI t) k=rkA gr (OI st) k)/\x+1<=nrem/\neq'+1<=x+1/\SegDn gr (OI st) lo (x+1)/\∀ k,x+1-(neq'+1)<=k->k<x+1->rkA gr (OI st) (lo+k)=rkA gr (OI st) (lo+(x+1)-1) :=
    λt w3 e3=>(tP 0 rfl w3 e3 ‹_› (Ts _) (dn.succ (by exact S0 ‹_› ‹_›) (O5 w)) (λk v z=>by rw[show lo+k=lo+(x+1)-1 by exact Ay v z]))
   by_cases c1:l>0
   ·rw[OD c1]
    refine OR (jU (OX (fin _ (p.trans (gJ (At hn r o) (Aj y) (by exact OS ‹_› _))) λk=>?_)))
    show rkA gr (U1 _ _ _ _) k=_
    rw[iV (At hn r o) λk v z=>by rw[e,e]; have:=eq (k-lo) (AG v) (zF hx1 z); rwa [show lo+(k-lo)=k by exact Aq y v] at this]
    exact e k
   ·rw[OB c1]
    exact OX (fin _ p e)
  ·rw[P0 w,OB (by decide)]
   refine OR (iy hlt g' (zA hn r o) (oP hn r o) ?_)
   dsimp only
   rw[e,e]
   by_cases w':rkA gr (OI st) (lo+x-1)<rkA gr (OI st) (lo+x)
   ·rw[PK w',OD rfl]
    exact OX (gT x l rfl p e gx y dn eq)
   ·rw[P0 w',OB (by decide)]
    refine OX (tP (l+1) rfl p e ‹_› (by exact Rk ‹_›) (dn.succ (by exact S0 ‹_› ‹_›) (Pj w')) (λk v z=>?_))
    have q:rkA gr (OI st) (lo+x-1)=rkA gr (OI st) (lo+x):=by exact EZ w w'
    rw[show lo+(x+1)-1=lo+x by exact I7]
    by_cases e':k=x
    ·rw[e']
    ·rw[<- q]; exact eq k (Ip v) (Ev z e')
 ·intro c m MY
  refine zQ (MY) λl M1 p e gx y dn eq=>?_
  clear MY
  subst M1
  rw[show max (n+1) nrem=nrem by exact HP gx] at *
  exact (gT nrem l rfl p e gx y dn eq)
 ·intro c m M2
  refine tY (M2) λx l M3 p e gx y dn eq=>?_
  clear M2
  subst M3
  have g':=g.of p
  have o:=p.size
  dsimp only
  by_cases c1:l>0
  ·rw[OD c1]
   have w3:=p.trans (gJ (lo:=lo) (hi:=lo+nrem) (i:=lo+x-(l+1)) (j:=lo+x) (st:=m) (yY hn gx o) (Aj y) (by exact OS ‹_› _))
   refine OR (jU ?_)
   refine ld hlt (g.of w3) (by have:=w3.size; exact ue hn this) (by exact S0 ‹_› ‹_›) gx (dn.congr λk=>?_) λn st' a b w4 u=>h n st' a b (w3.trans w4) u
   show rkA gr (U1 _ _ _ _) k=_
   rw[iV (yY hn gx o) λk v z=>by rw[e,e]; have:=eq (k-lo) (AG v) (zF y z); rwa [show lo+(k-lo)=k by exact Aq y v] at this]
   exact e k
  ·rw[OB c1]
   exact ld hlt g' (ue hn o) (Jn y) gx (dn.congr e) λn st' a b w4 u=>h n st' a b (p.trans w4) u
theorem kE (hlt:bq gM gA gE gs gr go gk) {lo nrem:ON}{st:O0}{Q:OE ON->O0->Prop}(g:Gd gr go gk st) (hn:lo+nrem<=(OI st).size) (h1:1<=nrem)
  (h:∀ n st',1<=n->n<=nrem->Wn lo (lo+nrem) st st'->SegUp gr (OI st') lo n->Q (rg n) st'):wpS gM gA gE gs (countRun' lo nrem) Q st:=by
 rw[countRun'_eq]
 refine OR (Rf (QQ (I:=λx c st'=>st' = st/\c=(OC,x)/\x<=nrem/\SegUp gr (OI st) lo x)
  (Q:=λc st'=>st' = st/\∃ n,c=(OC,n)/\1<=n/\n<=nrem/\SegUp gr (OI st) lo n/\(n=nrem\/rkA gr (OI st) (lo+n)<rkA gr (OI st) (lo+n-1))) ?_ ?_ (cX rfl rfl h1 (λi j _ _ _=>by rw[show i=j by exact zO ‹_› ‹_› ‹_›]; exact Pe _))) ?_)
 ·intro x c st' hx1 hx2 o
  refine du (o) λM6 M8 gx l=>?_
  clear o
  (clear h; subst M6)
  subst M8
  refine OR (iy hlt g (by exact adl hx2 ‹_›) (by exact qa (adl hx2 ‹_›)) ?_)
  dsimp only
  by_cases w:rkA gr (OI st') (lo+x)<rkA gr (OI st') (lo+x-1)
  ·rw[PK w,OD rfl]
   exact OX (aB rfl (iU x rfl hx1 gx l (.inr w)))
  ·rw[P0 w,OB (by decide)]
   exact OX (cX rfl rfl ‹_› (l.succ hx1 (Pj w)))
 ·intro c st' m
  refine du (m) λNa z gx l=>?_
  clear m
  (clear g h hn; subst Na)
  subst z
  rw[show max 1 nrem=nrem by exact Ke gx] at *
  exact (aB rfl (iU nrem rfl h1 (Pe _) l (.inl rfl)))
 ·intro c st' y
  obtain ⟨v,n,t,p,r,l,q⟩:=y
  subst v
  subst t
  dsimp only
  by_cases c1:(n==nrem)=Gt
  ·rw[OD c1]
   exact OX (h n st' p r (.refl ..) l)
  rw[OB c1]
  have hn3:n<nrem:=by have:n≠nrem:=λe=>c1 (OZ.mpr e); exact zt r this
  have hdn:=q.resolve_left (by exact P8 ‹_›)
  by_cases c2:n>1
  ·rw[OD c2]
   refine OR (iy hlt g (Iz h1 hn) (Ia p r hn) ?_)
   dsimp only
   by_cases w:rkA gr (OI st') lo<rkA gr (OI st') (lo+n-1)
   ·rw[PK w,OD rfl]
    exact OX (h n st' p r (.refl ..) l)
   rw[P0 w,OB (by decide)]
   have eq:∀ k,lo<=k->k<lo+n->rkA gr (OI st') k=rkA gr (OI st') (lo+n-1):=λk k1 k2=>by
    have a:=l lo k (Pe _) k1 k2
    have b:=l k (lo+n-1) k1 (JH k2) (sO p)
    exact HT w a b
   have w3:Wn lo (lo+nrem) st' (Yk st' (U1 (OI st') lo (lo+n) ((lo+n-lo)/2))):=gJ (zW r hn) (Pe _) (by exact OS ‹_› _)
   have e3:∀ k,rkA gr (U1 (OI st') lo (lo+n) ((lo+n-lo)/2)) k=rkA gr (OI st') k:=iV (zW r hn) eq
   refine OR (jU ?_)
   refine lS hlt (g.of w3) (by have:=w3.size; exact ue hn this) p hn3 ?_ λn st' a b w4 u=>h n st' a b (w3.trans w4) u
   have d1:SegDn gr (OI st') lo n:=λi j a b c=>by rw[eq i a (by exact OH ‹_› ‹_›),eq j (by exact Lt ‹_› ‹_›) c]; exact Pe _
   exact (d1.succ p (O5 hdn)).congr e3
  rw[OB c2]
  have e1:n=1:=by exact Hv p c2
  (clear c1 c2 q r l; subst e1)
  refine lS hlt g hn p hn3 ?_ h
  have d1:SegDn gr (OI st') lo 1:=λi j _ _ _=>by rw[show i=j by exact zO ‹_› ‹_› ‹_›]; exact Pe _
  exact d1.succ (Pe _) (O5 hdn)
theorem yw {src dst:ON}{st:O0}{Q:Ur->O0->Prop}(h:Q () (Yk st (bubble (OI st) src (src-dst)))):wpS gM gA gE gs (moveDown' src dst) Q st:=by
 rw[moveDown'_eq]; exact To h
theorem Dw (h:l<r):l<=(l+r)/2/\(l+r)/2<r:=by exact J0 h
theorem n8 (hlt:bq gM gA gE gs gr go gk) {lo n oo:ON}{st:O0}{Q:Pr->O0->Prop}(g:Gd gr go gk st) (hn:lo+n<=(OI st).size) (hok:oo<=n) (hs:SegUp gr (OI st) lo oo)
  (h:∀ st',Wn lo (lo+n) st st'->SegUp gr (OI st') lo n->Q Gt st'):wpS gM gA gE gs (binarySort' lo n oo) Q st:=by
 rw[binarySort'_eq]
 refine OR (Rf (QQ (I:=λk c st'=>c=(OC,())/\Wn lo (lo+n) st st'/\SegUp gr (OI st') lo (min k n))
  (Q:=λc st'=>c=(OC,())/\Wn lo (lo+n) st st'/\SegUp gr (OI st') lo n) ?_ ?_ ⟨rfl,.refl ..,?_⟩) ?_)
 ·intro k c st' hk1 q Ni
  refine aH (Ni) λNf z y=>?_
  clear Ni
  subst Nf
  have g':=g.of z
  have hsz:=z.size
  rw[show min k n=k by exact DG q] at y
  refine OR (Rf (QQ (I:=λx c o=>o=st'/\∃ l r,c=(OC,l,r)/\l<=r/\r<=k/\r-l<=k-x/\(∀ i,i<l->rkA gr (OI st') (lo+i)<=rkA gr (OI st') (lo+k))/\(∀ i,r<=i->i<k->rkA gr (OI st') (lo+k)<rkA gr (OI st') (lo+i)))
   (Q:=λc o=>o=st'/\∃ l r,c=(OC,l,r)/\l<=k/\(∀ i,i<l->rkA gr (OI st') (lo+i)<=rkA gr (OI st') (lo+k))/\(∀ i,l<=i->i<k->rkA gr (OI st') (lo+k)<rkA gr (OI st') (lo+i))) ?_ ?_ (aB rfl (oL 0 k rfl (PZ _) (Pe _) (Pe _) (λi hi=>by exact Hg hi) (λi h1 h2=>by exact Eg h1 h2)))) ?_)
  ·intro x c o _ hx Nl
   obtain ⟨Nw,l,r,NG,lr,rk',pr,t,v⟩:=Nl
   (clear z; subst Nw)
   subst NG
   dsimp only
   by_cases c1:l≥r
   ·rw[OD c1]
    exact OX (aB rfl (bF l r rfl (by exact Lt ‹_› ‹_›) t (λi h1 h2=>v i (by exact Lt ‹_› ‹_›) h2)))
   rw[OB c1]
   refine ae (Dw (RX c1)) λm1 m2=>?_
   generalize (l+r)/2=m at m1 m2 ⊢
   refine OR (iy hlt g' (oP hn q hsz) (Eh hn q rk' hsz m2) ?_)
   dsimp only
   by_cases w:rkA gr (OI o) (lo+k)<rkA gr (OI o) (lo+m)
   ·rw[PK w,OD rfl]
    exact OX (aB rfl (oL _ _ rfl ‹_› (DH rk' m2) (KQ pr m2) t (λi h1 h2=>OG w (y _ _ (O4 _ _) (by exact OS ‹_› _) (by exact OS ‹_› _)))))
   ·rw[P0 w,OB (by decide)]
    exact OX (aB rfl (oL _ _ rfl ‹_› ‹_› (Ee pr m1) (λi h1=>Lt (y _ (lo+m) (O4 _ _) (Gr h1) (Jp rk' m2)) (Pj w)) v))
  ·intro c o NA
   obtain ⟨NF,l,r,NI,lr,rk',pr,t,v⟩:=NA
   (clear g' hsz z; subst NF)
   subst NI
   exact (aB rfl (bF l r rfl (by exact Lt ‹_› ‹_›) t (λi h1 h2=>v i (HN pr h1) h2)))
  ·intro c o Nr
   obtain ⟨ND,l,r,NH,lk,t,v⟩:=Nr
   (clear g'; subst ND)
   subst NH
   dsimp only
   have hsrc:lo+k<(OI o).size:=by exact oP hn q hsz
   refine OR (yw (OX ⟨rfl,z.trans ⟨rfl,rfl,rfl,bubble_perm _ _ _,λj u=>?_⟩,?_⟩))
   ·show (bubble _ _ _)[j]? = _
    rw[XX hsrc _ (Ux _ _),OB (J9 q u),OB (Jj q u)]
   ·rw[show min (k+1) n=k+1 by exact FZ q]
    show SegUp gr (bubble (OI o) (lo+k) (lo+k-(lo+l))) lo (k+1)
    have at':∀ j,rkA gr (bubble (OI o) (lo+k) (lo+k-(lo+l))) j=if j=lo+l then rkA gr (OI o) (lo+k) else if lo+l<j/\j<=lo+k then rkA gr (OI o) (j-1) else rkA gr (OI o) j:=λj=>by
     have:=XX hsrc (lo+k-(lo+l)) (Ux _ _) j
     rw[show lo+k-(lo+k-(lo+l))=lo+l by exact IN lk] at this
     by_cases e1:j=lo+l
     ·rw[OD e1] at this ⊢; exact cq this
     ·rw[OB e1] at this ⊢
      by_cases e2:lo+l<j/\j<=lo+k
      ·rw[OD e2] at this ⊢; exact cq this
      ·rw[OB e2] at this ⊢; exact cq this
    intro i j hi p u
    rw[at',at']
    by_cases e1:i=lo+l
    ·rw[OD e1]
     by_cases e2:j=lo+l
     ·rw[OD e2]; exact Pe _
     ·rw[OB e2,OD (HH p u e1 e2)]
      have:=v (j-1-lo) (Fr p e1 e2) (HG p u e1 e2)
      rw[show lo+(j-1-lo)=j-1 by exact Jh p e1 e2] at this
      exact O5 this
    ·rw[OB e1]
     by_cases e2:j=lo+l
     ·rw[OD e2,OB (Fo p e2)]
      have:=t (i-lo) (Gn hi p e1 e2)
      rwa [show lo+(i-lo)=i by exact jM hi] at this
     ·rw[OB e2]
      by_cases e3:lo+l<i
      ·rw[OD (J3 p u e3),OD (DY p u e3)]
       exact y _ _ (HI e3) (J5 p) (Em p u e3)
      ·rw[OB (y7 e3)]
       by_cases e4:lo+l<j
       ·rw[OD (EY u e4)]
        exact y _ _ ‹_› (FF e3 e4) (Gh u e4)
       ·rw[OB (y7 e4)]
        exact y _ _ ‹_› ‹_› (GF lk e2 e4)
 ·intro c st' Nk
  refine aH (Nk) λNn z y=>?_
  clear Nk
  subst Nn
  rw[show min (max (max oo 1) n) n=n by exact GQ] at y
  exact ⟨rfl,z,y⟩
 ·intro i j hi p u
  by_cases e:oo=0
  ·rw[show i=j by exact H9 hi p u e]; exact Pe _
  ·exact hs i j hi p (Fb u e)
 ·intro c st' Ng
  refine aH (Ng) λNy z y=>?_
  clear Ng
  subst Ny
  exact OX (h st' z y)
end
section
theorem qB (base:ON) (hf:∀ a p j,f a (p,j)=a.setIfInBounds (base+j) p):∀ (r:vk OM) (off:ON) (arr:OP OM),base+off+r.length<=arr.size ->
  ((r.zipIdx off).foldl f arr).toList=arr.toList.take (base+off)++r++arr.toList.drop (base+off+r.length)
 | [],off,arr,_=>by rw[VE,List.foldl_nil,RH,List.length_nil,VS,Qw]
 | p::r,off,arr,h=>by
  rw[Pz] at h
  have g:base+off<arr.toList.length:=by rw[O2]; exact KT h
  rw[Xw,Wx,hf,qB base hf r (off+1) _ (by rw[Array.size_setIfInBounds]; exact Jd h),Array.toList_setIfInBounds,List.set_eq_take_append_cons_drop,OD g]
  have k:(arr.toList.take (base+off)++p::arr.toList.drop (base+off+1)).take (base+(off+1))=arr.toList.take (base+off)++[p]:=by
   rw[List.take_append,RQ,Rm (O5 g),show base+(off+1)-(base+off)=1 by exact Ht,Qp (by rw[RQ]; exact DU)]
   rfl
  have i:(arr.toList.take (base+off)++p::arr.toList.drop (base+off+1)).drop (base+(off+1)+r.length)=arr.toList.drop (base+off+(p::r).length):=by
   rw[List.drop_append,RQ,Rm (O5 g),Ub.mpr (by rw[RQ]; exact J2),Wz,show base+(off+1)+r.length-(base+off)=r.length+1 by exact Is,Wf,V8]
   congr 1
   rw[Pz]; exact Jm
  rw[k,i,QO,QO,QO]
  rfl
theorem ik {arr:OP OM}{lo n:ON}(h:SegUp gr arr lo n) (hn:lo+n<=arr.size):Up gr ((arr.toList.drop lo).take n):=by
 unfold Up
 rw[List.pairwise_iff_getElem]
 intro i j l g k
 rw[RQ,QU,O2] at l g
 rw[Uu,Uu,SP,SP]
 have:=h (lo+i) (lo+j) (O4 _ _) (OS (O5 k) lo) (PT (OG g (Qi _ _)) lo)
 rwa [cw (by rw[O2]; exact OG (PT (OG l (Qi _ _)) lo) hn),cw (by rw[O2]; exact OG (PT (OG g (Qi _ _)) lo) hn)] at this
theorem ip (hlt:bq gM gA gE gs gr go gk) {left:Pr}{key:OM}{arr:OP OM}{base n hint:ON}{st:O0}{Q:OE ON->O0->Prop}(hn:base+n<=arr.size) (hh:hint<n) (hok:∀ p∈arr,go p) (hkey:go key) (hk:kindOf st=gk) (up:SegUp gr arr base n)
  (h:∀ k,k<=n->(∀ q,q<k->if left then rkA gr arr (base+q)<gr key else rkA gr arr (base+q)<=gr key)->(∀ q,k<=q->q<n->if left then gr key<=rkA gr arr (base+q) else gr key<rkA gr arr (base+q))->Q (rg k) st) :
  wpS gM gA gE gs (gallop' left key arr base n hint) Q st:=by
 refine ll hlt hn hh hok hkey hk (λi=>if left then decide (rkA gr arr (base+i)<gr key) else !decide (gr key<rkA gr arr (base+i))) (λuu=>rfl) (λi j t r l=>?_) λk t r l=>h k t (λq g=>?_) λq g o=>?_
 ·have m:=up (base+i) (base+j) (O4 _ _) (by exact OS ‹_› _) (by exact OS ‹_› _)
  cases left with
  | true=>simp at l ⊢; exact AE m l
  | false=>simp at l ⊢; exact y2 m l
 ·have:=r q g
  cases left with
  | true=>simpa using this
  | false=>simpa using this
 ·have:=l q g o
  cases left with
  | true=>simpa using this
  | false=>simpa using this
theorem iA {arr:OP OM}{lo n:ON}{x:OM}(hx:x∈(arr.toList.drop lo).take n):∃ i,lo<=i/\i<lo+n/\i<arr.size/\gr x=rkA gr arr i:=by
 obtain ⟨q,g,h⟩:=SB hx
 subst h
 rw[RQ,QU,O2] at g
 refine ⟨lo+q,by exact O4 _ _,by exact H4 g,by exact tC g,?_⟩
 rw[cw (by rw[O2]; exact tC g),Uu,SP]
theorem m0 (hx:x∈arr.toList.take n):∃ i,i<n/\i<arr.size/\gr x=rkA gr arr i:=by
 obtain ⟨i,_,j,h,g⟩:=iA (lo:=0) (n:=n) (by rw[SQ]; exact hx)
 exact ⟨i,by exact sD j,h,g⟩
theorem wP (hx:x∈arr.toList.drop n):∃ i,n<=i/\i<arr.size/\gr x=rkA gr arr i:=by
 obtain ⟨q,h,g⟩:=SB hx
 subst g
 rw[QU,O2] at h
 refine ⟨n+q,by exact O4 _ _,by exact oH h,?_⟩
 rw[cw (by rw[O2]; exact oH h),SP]
theorem Bt {st st':O0}{Q:W7->O0->Prop}(h:Q ⟨⟩ st'):wpS gM gA gE gs (set st':Tn O0 Sem W7) Q st:=by
 unfold wpS; rw[StateT.run_set]; exact OL ⟨rfl,h⟩
theorem wpS_set' {st x:O0}{Q:W7->O0->Prop}(h:∀ st',kindOf st' = kindOf x->OI st' = OI x->Px st' = Px x->PJ st' = PJ x->Q ⟨⟩ st'):wpS gM gA gE gs (set x:Tn O0 Sem W7) Q st:=Bt (h x rfl rfl rfl rfl)
theorem CY (hsz:n1+n2=arr.size) (u1:SegUp gr arr 0 n1) (u2:SegUp gr arr n1 n2) (h:∀ i j,i<n1->n1<=j->j<arr.size->rkA gr arr i<=rkA gr arr j):Up gr arr.toList:=by
 have l:SegUp gr arr 0 arr.size:=by
  intro i j _ g k
  by_cases e1:j<n1
  ·exact u1 i j (PZ _) g (zv e1)
  ·by_cases e2:i<n1
   ·exact h i j e2 (by exact Pj ‹_›) (sD k)
   ·exact u2 i j (by exact Pj ‹_›) g (Kc hsz k)
 have:=ik l Iu
 rwa [SQ,Qp (by rw[O2]; exact Pe _)] at this
theorem qT (hlt:bq gM gA gE gs gr go gk) {st:O0}{n1 n2 p1 p2:ON}{Q:Pr->O0->Prop}(g:Gd gr go gk st) (hp:Px st = #[(0,n1,p1),(n1,n2,p2)]) (hsz:n1+n2=(OI st).size) (h1:1<=n1) (h2:1<=n2) (u1:SegUp gr (OI st) 0 n1) (u2:SegUp gr (OI st) n1 n2) (hf:PJ st=OC)
  (h:∀ st',(OI st').Perm (OI st)->Up gr (OI st').toList->(Px st').size=1->PJ st' = OC->kindOf st' = gk->Q Gt st'):wpS gM gA gE gs (mergeAt' 0) Q st:=by
 unfold mergeAt'
 refine OR (SR ?_)
 have q0:(Px st)[0]? = rg (0,n1,p1):=by rw[hp]; rfl
 have q1:(Px st)[0+1]? = rg (n1,n2,p2):=by rw[hp]; rfl
 rw[q0,q1]
 dsimp only
 refine OR (wpS_set' λst1 f1 f2 f3 f4=>?_)
 have a1:OI st1=OI st:=f2
 have a2:kindOf st1=gk:=f1.trans g.kind
 have a3:(Px st1).size=1:=by
  rw[f3]
  show (((Px st).setIfInBounds 0 (0,n1+n2,p1)).eraseIdxIfInBounds (0+1)).size=1
  rw[hp]; simp[U2]
 have a4:PJ st1=none:=f4.trans hf
 clear f1 f2 f3 f4 q0 q1 hp
 have hn1:n1<(OI st).size:=by exact DR hsz h2
 refine OR (aL hn1 (OR (ip (arr:=OI st) hlt (KN hsz) ‹_› g.ok (g.ok _ (QV _)) a2 u1 λk k1 k2 k3=>?_)))
 dsimp only
 simp only[Pn,P2,Qm] at k2 k3
 have eb:gr (OI st)[n1]=rkA gr (OI st) n1:=(eN hn1).symm
 rw[eb] at k2 k3
 have plain:∀ (_:∀ i j,i<n1->n1<=j->j<(OI st).size->rkA gr (OI st) i<=rkA gr (OI st) j),Q Gt st1:=λhh=>h st1 (by rw[a1]) (by rw[a1]; exact CY hsz u1 u2 hh) a3 a4 a2
 by_cases c1:(n1-k==0)=Gt
 ·rw[OD c1]
  have e:k=n1:=by have:=OZ.mp c1; exact HZ k1 this
  subst e
  exact OX (plain λi j hi v u=>Lt (k2 i hi) (u2 _ _ (Pe _) v (uk hsz u)))
 rw[OB c1]
 have o:k<n1:=by have:n1-k≠0:=λe=>c1 (OZ.mpr e); exact Ey this
 have hla:0+k+(n1-k)-1<(OI st).size:=by exact Hm hn1 o
 have t:0+k+(n1-k)-1=n1-1:=by exact DW o
 refine OR (aL hla (OR (ip (arr:=OI st) hlt (G0 hsz) (tU h2) g.ok (g.ok _ (QV _)) a2 u2 λl l1 l2 l3=>?_)))
 dsimp only
 simp only[Ri] at l2 l3
 have el:gr (OI st)[0+k+(n1-k)-1]=rkA gr (OI st) (n1-1):=(eN hla).symm.trans (by rw[t])
 rw[el] at l2 l3
 by_cases c2:(l==0)=Gt
 ·rw[OD c2]
  have e:=OZ.mp c2
  subst e
  refine OX (plain λi j hi v u=>Lt (u1 i (n1-1) (PZ _) (uh hi) (y4 h1)) ?_)
  have:=l3 (j-n1) (PZ _) (zy hsz h2 u)
  rwa [show n1+(j-n1)=j by exact jM v] at this
 rw[OB c2]
 have hl0:0<l:=by have:l≠0:=λe=>c2 (OZ.mpr e); exact tR this
 rw[Qm]
 have lx:((OI st).extract k n1).toList=((OI st).toList.drop k).take (n1-k):=bV ..
 have ly:((OI st).extract n1 (n1+l)).toList=((OI st).toList.drop n1).take l:=by rw[bV,PX]
 have sx:((OI st).extract k n1).size=n1-k:=by rw[WA]; exact HX hsz
 have sy:((OI st).extract n1 (n1+l)).size=l:=by rw[WA]; exact J6 hsz l1
 have ux:Up gr ((OI st).extract k n1).toList:=by
  rw[lx]
  exact ik (λi j hi hij v=>u1 i j (PZ _) hij (Jq h1 t v)) (Ix hsz o)
 have uy:Up gr ((OI st).extract n1 (n1+l)).toList:=by
  rw[ly]
  exact ik (λi j hi hij v=>u2 i j hi hij (Gc l1 v)) (E2 hsz l1)
 have ox:∀ p∈(OI st).extract k n1,go p:=λp hp=>g.ok p (by
  have:p∈((OI st).extract k n1).toList:=UF.mpr hp
  rw[lx] at this
  exact UF.mp (So (QW this)))
 have oy:∀ p∈(OI st).extract n1 (n1+l),go p:=λp hp=>g.ok p (by
  have:p∈((OI st).extract n1 (n1+l)).toList:=UF.mpr hp
  rw[ly] at this
  exact UF.mp (So (QW this)))
 have hy0:gr (((OI st).extract n1 (n1+l))[0]'(zi hl0 sy))=rkA gr (OI st) n1:=by rw[VN,<- eb]; rfl
 have hx1:gr (((OI st).extract k n1)[((OI st).extract k n1).size-1]'(Am o sx))=rkA gr (OI st) (n1-1):=by
  rw[VN,<- eN (arr:=OI st) (i:=k+(((OI st).extract k n1).size-1)) (Ig hsz h1 h2 t sx)]
  congr 1
  exact Im o sx
 have p0:∀ y∈((OI st).extract k n1).toList,gr (((OI st).extract n1 (n1+l))[0]'(zi hl0 sy))<=gr y:=λy hy=>by
  rw[lx] at hy
  refine bD (iA hy) λi i1 i2 i3 i4=>?_
  rw[hy0,i4]
  exact O5 (k3 i i1 (HC h1 t i2))
 have p1:∀ x∈((OI st).extract n1 (n1+l)).toList,gr x<=gr (((OI st).extract k n1)[((OI st).extract k n1).size-1]'(Am o sx)):=λx hx=>by
  rw[ly] at hx
  refine bD (iA hx) λi i1 i2 i3 i4=>?_
  rw[hx1,i4]
  have:=l2 (i-n1) (F7 i1 i2)
  rw[show n1+(i-n1)=i by exact jM i1] at this
  exact O5 this
 have fin:∀ (r:OP OM) (z:O0) (f:OP OM->OM×ON->OP OM),(∀ a p j,f a (p,j)=a.setIfInBounds (k+j) p)->Mgd gr ((OI st).extract k n1).toList ((OI st).extract n1 (n1+l)).toList r->OI z=Yl f (OI st) r.toList.zipIdx->(Px z).size=1->PJ z=OC->kindOf z=gk->Q Gt z:=λr z f hf' hm e1 e2 e3 e4=>by
  have hlen:r.toList.length=n1-k+l:=by
   have:=hm.1.length_eq
   simp only[O3,O2,sx,sy] at this
   rw[O2]; exact this
  have hto:=qB k hf' r.toList 0 (OI st) (by rw[hlen]; exact Ii hsz h1 t l1)
  rw[<- e1,VS,hlen,show k+(n1-k+l)=n1+l by exact z5 h1 t] at hto
  have hL:(OI st).toList=(OI st).toList.take k++(((OI st).toList.drop k).take (n1-k)++((OI st).toList.drop n1).take l)++(OI st).toList.drop (n1+l):=by
   have e5:((OI st).toList.drop k).take (n1-k)++((OI st).toList.drop n1).take l=((OI st).toList.drop k).take (n1-k+l):=by
    rw[take_add' ((OI st).toList.drop k) (n1-k) l,V8,show k+(n1-k)=n1 by exact Hq h1 t]
   rw[e5,<- take_add',show k+(n1-k+l)=n1+l by exact z5 h1 t,Qw]
  refine h z ?_ ?_ e2 e3 e4
  ·refine Q7.mpr ?_
   rw[hto]
   have:=hm.1
   rw[lx,ly] at this
   refine Jai ?_ (Th hL.symm)
   exact (this.append_left _).append_right _
  ·rw[hto]
   have inXY:∀ x∈r.toList,∃ i,k<=i/\i<n1+l/\gr x=rkA gr (OI st) i:=λx hx=>by
    have:=hm.1.mem_iff.mp hx
    rw[lx,ly] at this
    rcases O7.mp this with q | q
    ·refine bD (iA q) λi i1 i2 _ i4=>?_
     exact ⟨i,i1,by exact Ku h1 t i2,i4⟩
    ·refine bD (iA q) λi i1 i2 _ i4=>?_
     exact ⟨i,by exact Lt ‹_› ‹_›,by assumption,i4⟩
   have lowXY:∀ i j,i<k->k<=j->j<(OI st).size->rkA gr (OI st) i<=rkA gr (OI st) j:=λi j hi v u=>by
    by_cases e:j<n1
    ·exact u1 i j (PZ _) (Ek hi v) (zv e)
    ·exact Lt (k2 i hi) (u2 _ _ (Pe _) (by exact Pj ‹_›) (uk hsz u))
   have highXY:∀ i j,i<n1+l->n1+l<=j->j<(OI st).size->rkA gr (OI st) i<=rkA gr (OI st) j:=λi j hi v u=>by
    by_cases e:i<n1
    ·refine Lt (u1 i (n1-1) (PZ _) (uh e) (y4 h1)) ?_
     have:=l3 (j-n1) (I9 v) (zy hsz h2 u)
     rwa [show n1+(j-n1)=j by exact J1 v] at this
    ·exact u2 i j (by exact Pj ‹_›) (IV hi v) (uk hsz u)
   refine Qh.mpr ⟨Qh.mpr ⟨?_,hm.2,λx hx y hy=>?_⟩,?_,λx hx y hy=>?_⟩
   ·have:=ik (arr:=OI st) (lo:=0) (n:=k) (λi j hi hij v=>u1 i j hi hij (Ju o v)) (Kt hsz o)
    rwa [SQ] at this
   ·refine aq (m0 hx) λi i1 i2 i3=>?_
    refine aq (inXY y hy) λj j1 j2 j3=>?_
    rw[i3,j3]
    exact lowXY i j i1 j1 (Hw hsz l1 j2)
   ·have:=ik (arr:=OI st) (lo:=n1+l) (n:=n2-l) (λi j hi hij v=>u2 i j (ES hi) hij (Fy l1 v)) (Iy hsz l1)
    rwa [Qp (by rw[QU,O2]; exact Jy hsz)] at this
   ·refine aq (wP hy) λj j1 j2 j3=>?_
    rw[j3]
    rcases O7.mp hx with hx | hx
    ·refine aq (m0 hx) λi i1 i2 i3=>?_
     rw[i3]
     exact lowXY i j i1 (FR o j1) j2
    ·refine aq (inXY x hx) λi i1 i2 i3=>?_
     rw[i3]
     exact highXY i j i2 j1 j2
 by_cases c3:n1-k<=l
 all_goals first
  | (
   rw[OD c3]
   refine OR (qN (a:=(OI st).extract k n1) (b:=(OI st).extract n1 (n1+l)) hlt (by rw[sx]; exact JQ o) (by rw[sy]; exact Ag hl0) ox oy a2 ux uy p0 p1 λr m sm hm=>?_))
  | (
   rw[OB c3]
   refine OR (qV (a:=(OI st).extract k n1) (b:=(OI st).extract n1 (n1+l)) hlt (by rw[sx]; exact IX c3) (by rw[sy]; exact Ag hl0) ox oy a2 ux uy p0 p1 λr m sm hm=>?_))
 all_goals
  refine OR (To (OR (SR ?_)))
  have ef:PJ m=none:=sm.2.2.2.trans a4
  have key:=fin r (TS (kindOf m) (Yl (λa x=>match x with | (p,j)=>a.setIfInBounds (k+j) p) (OI m) r.toList.zipIdx) (Px m) (gallopOf m) (PJ m)) (λa x=>match x with | (p,j)=>a.setIfInBounds (k+j) p) (λuu uu uu=>rfl) hm (by show Yl _ (OI m) _=_; rw[sm.2.1,a1]) (by show (Px m).size=1; rw[sm.2.2.1]; exact a3) ef (sm.1.trans a2)
  refine OX ?_
  show Q (PJ m).isNone _
  rw[show (PJ m).isNone=Gt by rw[ef]; rfl]
  exact key
end
section
theorem qL (h2:2<=n) (h:n<128):1<=Zf n n 0/\Zf n n 0<=n/\n<=2*Zf n n 0:=by
 obtain ⟨f,rfl⟩:∃ f,n=f+1:=⟨n-1,by exact G9 h2⟩
 rw[Zg]
 by_cases c:f+1<64
 ·rw[OD c]; exact JY
 ·rw[OB c]
  obtain ⟨e,rfl⟩:∃ e,f=e+1:=⟨f-1,by exact Gi h2⟩
  rw[Zg,OD (GR h)]
  exact KH
structure Ph1 (gr:OM->ON) (st st':O0) (n1:ON):Prop where
 perm:(OI st').Perm (OI st)
 kind:kindOf st' = kindOf st
 fail:PJ st' = OC
 pend:Px st' = #[(0,n1,0)]
 up:SegUp gr (OI st') 0 n1
structure Ph2 (gr:OM->ON) (st st':O0):Prop where
 perm:(OI st').Perm (OI st)
 kind:kindOf st' = kindOf st
 fail:PJ st' = OC
 runs:∃ n1 n2 pw,Px st' = #[(0,n1,pw),(n1,n2,0)]/\1<=n1/\1<=n2/\n1+n2=(OI st).size/\SegUp gr (OI st') 0 n1/\SegUp gr (OI st') n1 n2
structure Dn (gr:OM->ON) (st st':O0):Prop where
 perm:(OI st').Perm (OI st)
 fail:PJ st' = OC
 pend:(Px st').size=1
 up:Up gr (OI st').toList
theorem Gd.perm {st st':O0}(g:Gd gr go gk st) (hp:(OI st').Perm (OI st)) (hk:kindOf st' = kindOf st):Gd gr go gk st':=⟨λp h=>g.ok p (hp.mem_iff.mp h),hk.trans g.kind⟩
theorem Cn {α:Type}{c:Prop}{dc:V6 c}{A:Tn O0 Sem α}{jp:ON->Tn O0 Sem α}{n:ON}(m:ON) (P:O0->Prop) {st:O0}{Q:α->O0->Prop}(h1:c->(∀ st2,P st2->wpS gM gA gE gs (jp m) Q st2)->wpS gM gA gE gs A Q st) (h2:¬ c->n=m/\P st) (J:∀ st2,P st2->wpS gM gA gE gs (jp m) Q st2) :
  wpS gM gA gE gs (@ite _ c dc A (jp n)) Q st:=by
 by_cases q:c
 ·rw[OD q]
  exact h1 q J
 ·rw[OB q,(h2 q).1]
  exact J st (h2 q).2
theorem sX (hlt:bq gM gA gE gs gr go gk) {st:O0}{Q:Ur->O0->Prop}(g:Gd gr go gk st) (h2:2<=(OI st).size) (h128:(OI st).size<128) (hp:Px st = #[]) (hf:PJ st=OC)
  (h:∀ st',(OI st').Perm (OI st)->Up gr (OI st').toList->PJ st' = OC->Q () st'):wpS gM gA gE gs V7 Q st:=by
 rw[sortRuns'_eq]
 refine OR (SR ?_)
 refine aH (qL h2 h128) λm1 m2 m3=>?_
 dsimp only
 generalize hN:(OI st).size=N at *
 generalize Zf N N 0=mr at *
 refine OR (Rf (QQ (I:=λx c st'=>(x=0/\c=(OC,0)/\st' = st)\/(∃ l,c=(OC,l)/\Ph1 gr st st' l/\mr<=l/\l<=N/\(x=1\/l=N))\/(c=(OC,N)/\Ph2 gr st st'))
  (Q:=λc st'=>c=(OC,N)/\(Ph1 gr st st' N\/Ph2 gr st st')) ?_ ?_ (.inl ⟨rfl,rfl,rfl⟩)) ?_)
 ·rintro x c st' _ hx (⟨rfl,rfl,rfl⟩ | ⟨l,rfl,p,q1,q2,q3⟩ | ⟨rfl,p2⟩)
  ·dsimp only
   rw[OB (by exact Tv ‹_›)]
   refine OR (kE hlt g (EX hN) ‹_› λn o l n2 t up=>?_)
   dsimp only
   by_cases c:n<mr
   ·rw[OD c]
    refine OR (dP (OR (n8 hlt (g.of t) (by rw[t.size]; exact Ic hN) (Hc m2 c) up λk r u=>?_)))
    rw[OB (by decide)]
    refine OR (SR ?_)
    have ep:Px k = #[]:=by rw[r.pend,t.pend,hp]
    have em:min (N-0) mr=mr:=by exact GA m2
    rw[em] at u ⊢
    rw[show (Px k).back? = OC by rw[ep]; rfl]
    refine OR (To (OX (.inr (.inl ⟨mr,by rw[Qm],⟨r.perm.trans t.perm,r.kind.trans t.kind,r.fail.trans (t.fail.trans hf),?_,u⟩,Pe _,m2,.inl rfl⟩))))
    show (Px k).push (0,mr,0)=_
    rw[ep]; rfl
   ·rw[OB c]
    refine OR (SR ?_)
    have ep:Px o = #[]:=by rw[t.pend,hp]
    rw[show (Px o).back? = OC by rw[ep]; rfl]
    refine OR (To (OX (.inr (.inl ⟨n,by rw[Qm],⟨t.perm,t.kind,t.fail.trans hf,?_,up⟩,by exact Pj ‹_›,by assumption,.inl rfl⟩))))
    show (Px o).push (0,n,0)=_
    rw[ep]; rfl
  ·dsimp only
   by_cases c0:l≥N
   ·rw[OD c0]
    have e:l=N:=by exact Et q2 c0
    subst e
    exact OX ⟨rfl,.inl p⟩
   rw[OB c0]
   have g1:=g.perm p.perm p.kind
   have v:(OI st').size=N:=by rw[p.perm.size_eq,hN]
   refine OR (kE hlt g1 (Fj c0 v) (D7 c0) λn o k1 k2 t up=>?_)
   dsimp only
   have fin:∀ (k:O0) (pw:ON),Wn l (l+(N-l)) st' k->SegUp gr (OI k) l (N-l)->Ph2 gr st (setPending (setPending k ((Px k).modify ((Px k).size-1) λx=>(x.1,x.2.1,pw))) (((Px k).modify ((Px k).size-1) λx=>(x.1,x.2.1,pw)).push (l,N-l,0))):=λk pw z u2=>by
    refine ⟨z.perm.trans p.perm,z.kind.trans p.kind,z.fail.trans p.fail,l,N-l,pw,?_,by exact E3 m1 q1,by exact OG ‹_› ‹_›,by exact Hs hN k1 k2,?_,u2⟩
    ·show ((Px k).modify ((Px k).size-1) λx=>(x.1,x.2.1,pw)).push (l,N-l,0)=_
     rw[z.pend,p.pend]
     apply WB.mp
     rw[RS,Array.toList_modify]
     rfl
    ·intro i j hi hij hj
     show rkA gr (OI k) i<=rkA gr (OI k) j
     rw[cq (z.out i (.inl (FQ hij hj))),cq (z.out j (.inl (sD hj)))]
     exact p.up i j hi hij hj
   apply Cn (n:=n) (N-l) (λk=>Wn l (l+(N-l)) st' k/\SegUp gr (OI k) l (N-l))
   ·intro c J
    refine OR (dP (OR (n8 hlt (g1.of t) (by rw[t.size]; exact DF v k1 k2) (E8 m3 q1 k2) up λk r u=>?_)))
    rw[OB (by decide)]
    have em:min (N-l) mr=N-l:=Jz m3 q1
    rw[em] at r u ⊢
    exact J k ⟨t.trans r,u⟩
   ·intro c
    have em:n=N-l:=KB m3 q1 k2 c
    clear fin
    refine ⟨em,t,?_⟩
    rw[em] at up
    exact up
   ·intro k hI
    refine ae hI λz u=>?_
    clear hI
    refine OR (SR ?_)
    have ep:Px k = #[(0,l,0)]:=by rw[z.pend,p.pend]
    rw[show (Px k).back? = rg (0,l,0) by rw[ep]; rfl]
    dsimp only
    refine OR (Rf (QQ (I:=λx c m=>m=k/\c=(OC,())) (Q:=λc m=>m=k/\c=(OC,())) ?_ ?_ ⟨rfl,rfl⟩) ?_)
    ·intro x c m _ _ MU
     refine ae (MU) λMR MZ=>?_
     clear MU
     subst MR
     subst MZ
     refine OR (SR ?_)
     rw[OB (λq=>by rw[ep] at q; exact OW q (TR 1))]
     exact OX ⟨rfl,rfl⟩
    ·rintro c m h; exact h
    ·intro c m MV
     refine ae (MV) λMQ MW=>?_
     clear MV
     subst MQ
     subst MW
     dsimp only
     refine OR (To (OR (To (OX (.inr (.inr ⟨by rw[show l+(N-l)=N by lia],fin m _ z u⟩))))))
  ·dsimp only
   rw[OD (Pe _)]
   exact OX ⟨rfl,.inr p2⟩
 ·rintro c st' (⟨e,_⟩ | ⟨l,rfl,p,q1,q2,q3⟩ | ⟨rfl,p2⟩)
  ·exact I8 h2 e
  ·have e:l=N:=by exact Gp h2 q3
   subst e
   exact ⟨rfl,.inl p⟩
  ·exact ⟨rfl,.inr p2⟩
 ·intro c st' M0
  refine ae (M0) λMS hph=>?_
  clear M0
  subst MS
  dsimp only
  refine OR (Rf (QQ (I:=λx c st'=>c=(OC,())/\(Dn gr st st'\/(x=0/\Ph2 gr st st'))) (Q:=λc st'=>c=(OC,())/\Dn gr st st') ?_ ?_ ⟨rfl,?_⟩) ?_)
  ·intro x c o _ hx MP
   refine ae (MP) λMT y=>?_
   clear MP
   subst MT
   refine OR (SR ?_)
   rcases y with y | ⟨rfl,p2⟩
   ·rw[OD (by rw[y.pend]; exact Pe _)]
    exact OX ⟨rfl,y⟩
   ·refine cH (p2.runs) λl n2 pw e1 e2 e3 e4 e5 e6=>?_
    have es:(Px o).size=2:=by rw[e1]; rfl
    rw[OB (IZ es),es]
    have v:(OI o).size=N:=by rw[p2.perm.size_eq,hN]
    refine OR (qT hlt (g.perm p2.perm p2.kind) e1 (EG hN e4 v) e2 e3 e5 e6 p2.fail λk f1 f2 f3 f4 f5=>?_)
    exact OX ⟨rfl,.inl ⟨f1.trans p2.perm,f4,f3,f2⟩⟩
  ·intro c o MX
   refine ae (MX) λMY y=>?_
   clear MX
   subst MY
   refine ⟨rfl,y.resolve_right λq=>?_⟩
   have:=q.1
   exact Gx h2 q
  ·rcases hph with p | p2
   ·left
    refine ⟨p.perm,p.fail,by rw[p.pend]; rfl,?_⟩
    have v:(OI st').size=N:=by rw[p.perm.size_eq,hN]
    have:=ik p.up (Ha v)
    rwa [SQ,Qp (by rw[O2]; exact Km v)] at this
   ·exact .inr ⟨rfl,p2⟩
  ·intro c o M1
   refine ae (M1) λM2 y=>?_
   clear M1
   subst M2
   exact OX (h o y.perm y.up y.fail)
end
theorem il:∀ a:vk OF,ltL a a=Oz
 | []=>rfl
 | a::as=>by simp[ltL,il as]
theorem cM:∀ {a b c:vk OF},ltL a b=Gt->ltL b c=Gt->ltL a c=Gt
 | [],[],_,h,_=>by simp[ltL] at h
 | [],_::_,[],_,h=>by simp[ltL] at h
 | [],_::_,_::_,_,_=>rfl
 | _::_,[],_,h,_=>by simp[ltL] at h
 | _::_,_::_,[],_,h=>by simp[ltL] at h
 | a::as,b::bs,c::cs,h1,h2=>by
  unfold ltL at h1 h2 ⊢
  by_cases e1:a=b
  ·subst e1
   rw[OD rfl] at h1
   by_cases e2:a=c
   ·rw[OD e2] at h2 ⊢; exact cM h1 h2
   ·rw[OB e2] at h2 ⊢; exact h2
  ·rw[OB e1] at h1
   by_cases e2:b=c
   ·subst e2; rw[OB e1]; exact h1
   ·rw[OB e2] at h2
    simp only[Pk] at h1 h2
    rw[OB (Jk h1 h2)]
    simp only[Pk]; exact HJ h1 h2
theorem eW:∀ {a b:vk OF},ltL a b=Oz->ltL b a=Oz->a=b
 | [],[],_,_=>rfl
 | [],_::_,h,_=>by simp[ltL] at h
 | _::_,[],_,h=>by simp[ltL] at h
 | a::as,b::bs,h1,h2=>by
  unfold ltL at h1 h2
  by_cases e:a=b
  ·subst e
   rw[OD rfl] at h1 h2
   rw[eW h1 h2]
  ·rw[OB e] at h1
   rw[OB (P6 e)] at h2
   simp only[RO] at h1 h2
   exact Hk e h1 h2
noncomputable def rkL (ks:vk (vk OF)) (k:vk OF):Nat:=ks.countP λx=>ltL x k
theorem nY:∀ {l:vk α},(∀ x∈l,p x=Gt->q x=Gt)->l.countP p<=l.countP q
 | [],_=>Pe _
 | x::l,h=>by
  have g:=nY λy i=>h y (.tail _ i)
  rw[TT,TT]
  cases hp:p x with
  | true=>rw[h x (.head _) hp]; simp; exact g
  | false=>simp; exact G4 g
theorem oj:∀ {l:vk α}{y:α},(∀ x∈l,p x=Gt->q x=Gt)->y∈l->p y=Oz->q y=Gt->l.countP p<l.countP q
 | x::l,y,h,hy,h1,h2=>by
  rw[TT,TT]
  rcases O9.mp hy with rfl | hy
  ·rw[h1,h2]
   have:=nY λz g=>h z (.tail _ g)
   simp; exact FO this
  ·have i:=oj (λz g=>h z (.tail _ g)) hy h1 h2
   cases hp:p x with
   | true=>rw[h x (.head _) hp]; simp; exact i
   | false=>simp; exact GS i
theorem l8 (ha:a∈ks) (hb:b∈ks):ltL a b=decide (rkL ks a<rkL ks b):=by
 have g:∀ {a b:vk OF},a∈ks->ltL a b=Gt->rkL ks a<rkL ks b:=λ{a b} ha h=>oj (λx _ i=>cM i h) ha (il a) h
 cases h:ltL a b with
 | true=>rw[PK (g ha h)]
 | false=>
  refine (P0 λq=>?_).symm
  cases h':ltL b a with
  | true=>have:=g hb h'; exact JB q this
  | false=>rw[eW h h'] at q; exact TR _ q
theorem xj (ks:vk (vk OF)):(bL ks).Pairwise λa b=>ltL b a=false:=by
 have:=Q9 (le:=λa b:vk OF=>!ltL b a) (λa b c g i=>by
  simp only[PL] at g i ⊢
  cases q:ltL c a with
  | false=>rfl
  | true=>
   cases q2:ltL b c with
   | true=>rw[cM q2 q] at g; exact nT g
   | false=>rw[eW i q2,g] at q; cases q) (λa b=>by
  cases q:ltL b a with
  | false=>rfl
  | true=>
   cases q2:ltL a b with
   | false=>rfl
   | true=>have:=cM q q2; rw[il] at this; cases this) ks
 exact this.imp λh=>by simpa using h
noncomputable def iR:vk OF->vk OF->OE Pr
 | a::as,b::bs=>if a=b then iR as bs else rg (decide (a<b))
 | _,_=>OC
theorem qd:∀ a b:vk OF,ltL a b=(iR a b).getD (decide (a.length<b.length))
 | [],[]=>rfl
 | [],_::_=>by simp[ltL,iR]
 | _::_,[]=>by simp[ltL,iR]
 | a::as,b::bs=>by
  unfold ltL iR
  by_cases e:a=b
  ·rw[OD e,OD e,qd as bs]; simp
  ·rw[OB e,OB e]; rfl
noncomputable def KeyOf (h:PE) (v:N8) (k:vk OF):Prop:=∃ a vs n,v = .ref a/\h.get? a=rg ⟨.type "tuple", OC,.seq vs.toArray n,#[]⟩/\Q8 vs k
noncomputable def jz (v:N8):Int:=match v with
 | .int i _=>i
 | _=>0
theorem IntsAre.read (h:Q8 vs k):k=vs.map jz:=by
 induction h with
 | nil=>rfl
 | cons n t r ih=>exact RM (n :: ·) ih
theorem IntsAre.fn (a:Q8 vs k) (b:Q8 vs k'):k=k':=(IntsAre.read a).trans (IntsAre.read b).symm
theorem KeyOf.fn (a:KeyOf h v k) (b:KeyOf h v k'):k=k':=by
 refine aV (a) λx m n j e i=>?_
 clear a
 subst j
 refine aV (b) λuu g p q l o=>?_
 clear b
 cases q
 rw[e] at l
 have:m=g:=by cases l; rfl
 subst this
 exact IntsAre.fn i o
theorem KeyOf.ofR (r:R h v (.tuple (k.map .int)) as):KeyOf h v k:=by
 cases r with
 | @tuple a n xs as vs e ra=>
  have g:aK (k.map O8)=rg k:=by
   clear ra e
   induction k with
   | nil=>rfl
   | cons x k ih=>show (aK (k.map O8)).map (x :: ·)=_; rw[ih]; rfl
  exact (cU a vs n rfl e ((ra.ints g).1))
theorem KeyOf.stays (x:KeyOf h v k) (g:KG G h h'):KeyOf h' v k :=
 aV (x) λa j n e l i=>(cU a j n e (g.stay l (.inr (aB rfl (bG _ _ rfl)))) i)
open Classical in
noncomputable def cI (h:PE) (v:N8):vk Int:=if q:∃ k,KeyOf h v k then q.choose else []
theorem et (x:KeyOf h v k):cI h v=k:=by
 unfold cI
 have q:∃ k,KeyOf h v k:=⟨k,x⟩
 rw[dif_pos q]
 exact q.choose_spec.fn x
section
variable {A:Pq}{E:N8->OA->Prop}{s:OA}
theorem k8 (c:Pr) (h:Q (decide (a<b)) s):OQ (OT prog w) A (oneLt' c (.int a t) (.int b u)) Q E s:=by
 cases c with
 | true=>exact oneLt_int h
 | false=>
  rw[oneLt'_eq]
  simp only[Pn,P2]
  exact If (wpAny_lt_int (RE h))
theorem pP (c:Pr) (x y:N8):keyLt' (W8 c) x y=(do
  let xs <- Qf x; let ys <- Qf y
  for ((p,q),i) in (xs.toList.zip ys.toList).zipIdx do
   if !(<- eqBool p q) then return <- oneLt' (c&&i==0) p q
  return xs.size<ys.size):=rfl
theorem xK {body:(N8×N8)×ON->OE Pr×Ur->Sem (Pd (OE Pr×Ur))}{R:OE Pr×Ur->OA->Prop}
  (hb:∀ (a b:OF) (t u:Tok) (i:ON) (R':Pd (OE Pr×Ur)->OA->Prop),R' (if a=b then .yield (OC,()) else .done (rg (decide (a<b)),())) s->OQ (OT prog w) A (body ((.int a t,.int b u),i) (OC,())) R' E s)
  {vs:vk N8}{k:vk OF}(ia:Q8 vs k):∀ {us:vk N8}{k':vk OF}(i:ON),Q8 us k'->R (iR k k',()) s->OQ (OT prog w) A (UD ((vs.zip us).zipIdx i) (OC,()) body) R E s:=by
 induction ia with
 | nil=>
  intro us k' i g h
  rw[List.zip_nil_left,VE,V9]
  exact OL h
 | cons a t r ih=>
  intro us k' i g h
  induction g with
  | nil=>
   rw[UG,VE,V9]
   exact OL h
  | cons b u q ih'=>
   rw[Q2,Xw,UE]
   refine If (hb a b t u i _ ?_)
   by_cases e:a=b
   ·rw[OD e]
    exact ih (i+1) q (by rw[iR,OD e] at h; exact h)
   ·rw[OB e]
    exact OL (by rw[iR,OB e] at h; exact h)
theorem nc (c:Pr) (hx:KeyOf s.heap x k) (hy:KeyOf s.heap y k') (h:Q (ltL k k') s):OQ (OT prog w) A (keyLt' (W8 c) x y) Q E s:=by
 refine aV (hx) λa vs n l ea v=>?_
 clear hx
 subst l
 refine aV (hy) λb us m j eb o=>?_
 clear hy
 subst j
 rw[pP]
 refine If (SS ea rfl (If (SS eb rfl ?_)))
 simp only[Wg]
 refine If (xK (λp q t u i R' g=>?_) v 0 o ?_)
 ·dsimp only
  refine If (wpAny_eqBool_int ?_)
  by_cases e:p=q
  ·subst e
   rw[OD rfl] at g
   rw[OB (by simp)]
   exact OL g
  ·rw[OB e] at g
   rw[OD (by simpa using e)]
   exact If (k8 _ (OL g))
 ·rw[qd] at h
  have l1:=v.length
  have z:=o.length
  cases e:iR k k' with
  | none=>
   rw[e] at h
   refine OL ?_
   simp only[Pf]
   rw[<- l1,<- z] at h
   exact h
  | some r=>rw[e] at h; exact OL h
theorem vr (c:Pr) (ks:vk (vk OF)):bq (OT prog w) A E s (λp=>rkL ks (cI s.heap p.1)) (λp=>∃ k∈ks,KeyOf s.heap p.1 k) (W8 c):=by
 intro x y q Q l j hk h
 revert l; intro i
 refine af (i) λk o l=>?_
 clear i
 revert j; intro g
 refine af (g) λn m j=>?_
 clear g
 have e:(rg (decide ((λp:OM=>rkL ks (cI s.heap p.1)) x<(λp:OM=>rkL ks (cI s.heap p.1)) y)))=rg (ltL k n):=by
  rw[l8 o m,<- et l,<- et j]
 rw[e] at h
 rw[lt'_eq]
 refine OR (SR ?_)
 rw[hk]
 refine OR (ZK (T6 (nc c l j ⟨rfl,?_⟩)))
 exact OX h
theorem wq (v:N8):YH v=(do
  if (<- typeOf v) != .type "tuple" then return OC
  return (<- Qf v)[0]?):=rfl
theorem ke:∀ {ks:vk (vk OF)}{vs:vk N8},vs.length=ks.length->(∀ (i:ON) (v:N8) (k:vk OF),vs[i]? = rg v->ks[i]? = rg k->KeyOf s.heap v k/\k≠[])->(∀ fs:vk N8,fs.length=vs.length->(∀ f∈fs,∃ a t,f = .int a t)->Q (fs.map rg) s)->OQ (OT prog w) A (vs.mapM YH) Q E s
 | [],[],_,_,h=>by rw[YI]; exact OL (h [] rfl λuu q=>nomatch q)
 | [],_::_,hl,_,_=>by simp at hl
 | _::_,[],hl,_,_=>by simp at hl
 | k::ks,v::vs,hl,hk,h=>by
  refine ae (hk 0 v k rfl rfl) λg l=>?_
  refine aV (g) λa us n j p u=>?_
  clear g
  subst j
  rw[Ym]
  refine If ?_
  rw[wq]
  refine If (W9 (T:="tuple") (ag _ p rfl) ?_)
  rw[OB (by decide)]
  refine If (SS p rfl (OL ?_))
  cases u with
  | nil=>exact OW rfl l
  | cons x t r=>
   refine If (ke (ks:=ks) (vs:=vs) (by simpa using hl) (λi v k z y=>hk (i+1) v k (by simpa using z) (by simpa using y)) λfs o m=>OL ?_)
   have:=h (.int x t::fs) (by simp[o]) (λf hf=>(O9.mp hf).elim (λe=>(bG x t e)) (m f))
   simpa using this
theorem nK:∀ {fs:vk N8},(∀ f∈fs,∃ a t,f = .int a t)->Q (fs.map λuu=>.type "int") s->OQ (OT prog w) A (fs.mapM typeOf) Q E s
 | [],_,h=>by rw[YI]; exact OL h
 | f::fs,hf,h=>by
  refine ba (hf f (.head _)) λa t g=>?_
  subst g
  rw[Ym]
  refine If (OL (If (nK (fs:=fs) (λf h=>hf f (.tail _ h)) (OL h))))
theorem nw {ks:vk (vk OF)}{vs:vk N8}{Q:Ua->OA->Prop}(hl:vs.length=ks.length) (h1:1<=vs.length) (hk:∀ (i:ON) (v:N8) (k:vk OF),vs[i]? = rg v->ks[i]? = rg k->KeyOf s.heap v k/\k≠[]) (h:Q (W8 Gt) s):OQ (OT prog w) A (Yn vs.toArray) Q E s:=by
 rw[keyKind'_eq,Xc,Xx]
 refine If (If (ke hl hk λo m p=>OL ?_))
 have n:((o.map rg).toArray.all λx=>x.isSome)=true:=by simp
 rw[OD n]
 refine If (Yo ?_)
 have q:((o.map rg).toArray.filterMap id)=o.toArray:=by simp
 rw[q,oneTypeOnly'_eq,Xc,Xx]
 refine If (If (If (nK p (OL ?_))))
 obtain ⟨g,l,rfl⟩:∃ g l,o=g::l:=by
  cases o with
  | nil=>simp at m; exact Hx h1 m
  | cons g l=>exact (bG g l rfl)
 have j:((Jak (λuu=>Tp "int") (g::l)).toArray.all λx=>x==Tp "int")=true:=by
  simp only[List.all_toArray,WY,P9]
  intro _ _
  rfl
 have r:(Jak (λuu=>Tp "int") (g::l)).toArray[0]? = rg (Tp "int"):=by simp
 rw[r]
 simp only[j,Ri]
 exact OL (OL h)
end
section
end
theorem rR:lm sg:=λj _ _ g l i k hf h=>sX j g l i k hf h
section
variable {A:Pq}{E:N8->OA->Prop}{s:OA}{rk:OM->ON}{ok:OM->Prop}{κ:Ua}
theorem tX (hlt:bq (OT prog w) A E s rk ok κ) {st:O0}{Q:Ur->O0->Prop}(g:Gd rk ok κ st) (h2:2<=(OI st).size) (h64:(OI st).size<64) (hp:Px st = #[]) (hf:PJ st=OC)
  (h:∀ st',(OI st').Perm (OI st)->Up rk (OI st').toList->PJ st' = OC->Q () st'):wpS (OT prog w) A E s V7 Q st:=uP rR ⟨A,E,s,rk,ok,κ⟩ hlt g h2 (S0 h64 (by decide)) hp hf h
theorem jo (hlt:bq (OT prog w) A E s rk ok κ) {st:O0}{Q:Ur->O0->Prop}(g:Gd rk ok κ st) (h2:2<=(OI st).size) (h128:(OI st).size<128) (hp:Px st = #[]) (hf:PJ st=OC)
  (h:∀ st',(OI st').Perm (OI st)->Up rk (OI st').toList->PJ st' = OC->Q () st'):wpS (OT prog w) A E s V7 Q st:=uP rR ⟨A,E,s,rk,ok,κ⟩ hlt g h2 h128 hp hf h
end
section
variable {A:Pq}{E:N8->OA->Prop}{s:OA}
noncomputable def mE (v:N8):Nat:=match v with
 | .int i _=>i.toNat
 | _=>0
theorem uC (x y:N8):keyLt' W3 x y=oneLt' Gt x y:=rfl
theorem uR:bq (OT prog w) A E s (λp=>mE p.1) (λp=>∃ i t,p.1 = .int i t/\0<=i) oneType':=by
 intro x y n Q k g hk h
 refine av (k) λi t ex m=>?_
 clear k
 refine av (g) λj u l o=>?_
 clear g
 have e:(rg (decide (mE x.1<mE y.1)))=rg (decide (i<j)):=by
  rw[ex,l]
  show rg (decide (i.toNat<j.toNat))=_
  rw[SN.mpr (show i.toNat<j.toNat↔i<j by exact HV m)]
 dsimp only at h
 rw[e] at h
 rw[lt'_eq]
 refine OR (SR ?_)
 rw[hk,ex,l,uC]
 refine OR (ZK (T6 (k8 Gt ⟨rfl,?_⟩)))
 exact OX h
end
theorem qO (q a:O1):Ut.«list.sort» ⟨[.ref a],[(mL "key", .ref q)]⟩=(do
  let items <- Qf (.ref a)
  PP (.ref a) λuu=>#[]
  let before <- Yp a
  let held <- newTuple items.toList
  let store <- newList []
  Zb [held,store] (do
   rule "list.sort.key"
   for x in items do
    match <- (R3 (.ref q) [x]).attempt with
    | .ok k=>PP store (·.push k)
    | .error e=>
     rule "list.sort.key-raised"
     let made <- Qf store
     PP store λuu=>#[]
     letGo made.toList.reverse [e]
     PP (.ref a) λuu=>items; throw e
   let keys <- Qf store
   let kind <- if items.size<2 then PU ZL else Yn keys
   let ((),s) <- (if items.size<2 then PU () else V7).run (TS kind (keys.zip items) #[] 7 OC)
   let sorted:=(OI s).map (·.2)
   PP store λuu=>#[]
   letGo ((OI s).map (·.1)).toList (PJ s).toList
   let touched:=(<- Yp a) != before
   PP (.ref a) λuu=>sorted
   if let rg e:=PJ s then rule "list.sort.comparison-raised"; throw e
   if touched then rule "list.sort.modified"; raiseError "ValueError" "list modified during sort"
   ret .none)):=rfl
theorem qx {M:UO}{A:Pq}{E:N8->OA->Prop}{body:N8->W7->Sem (Pd W7)}{Q:W7->OA->Prop}(I:ON->OA->Prop):∀ (vs:vk N8) (i:ON) (s:OA),I i s ->
  (∀ (j:ON) (x:N8) (s':OA),vs[j]? = rg x->I (i+j) s'->OQ M A (body x ⟨⟩) (λr s''=>r = .yield ⟨⟩/\I (i+j+1) s'') E s')->(∀ s',I (i+vs.length) s'->Q ⟨⟩ s')->OQ M A (UD vs PUnit.unit body) Q E s
 | [],i,s,h,_,fin=>by
  rw[V9]; exact OL (fin s h)
 | x::vs,i,s,h,Z7,fin=>by
  rw[UE]
  refine If (Qk (Z7 0 x s rfl h) (λr s' l=>?_) λuu uu e=>e)
  refine ae (l) λk n=>?_
  clear l
  subst k
  refine qx I vs (i+1) s' n (λj y s'' m g=>?_) λs'' g=>fin s'' ?_
  ·have e:i+1+j=i+(j+1):=by exact EU
   rw[e] at g ⊢
   exact Z7 (j+1) y s'' (by simpa using m) g
  ·have e:i+(x::vs).length=i+1+vs.length:=by rw[Pz]; exact JD
   rw[e]; exact g
section
variable {A:Pq}{E:N8->OA->Prop}
theorem Kp.wr (k:Kp s0 s) (e:s.heap.get? a=rg (Ph "list" xs n)) (h0:s0.heap.get? a=Q4) (hs:PR a s.heap h'):Kp s0 {s with heap:=h' }:=by
 revert k; intro g
 refine av (g) λh j i k=>?_
 clear g
 subst i
 refine ⟨h',j,rfl,K.same k hs h0 λo q=>?_⟩
 rw[e] at q; (have l:=vj q; clear q; subst l); exact Stay.not_list
theorem qc {α:Type}{R:α->α->Prop}{l:vk α}(h:l.length<=1):l.Pairwise R:=by
 rcases l with _ | ⟨x,_ | ⟨y,l⟩⟩
 ·exact .nil
 ·exact Vf ..
 ·cases h with
  | step h=>cases h
theorem cB (a:OP α) (b:vk β):(a.zip b.toArray).toList=a.toList.zip b:=by
 first
  | simp
  | (cases a; simp)
theorem im {α β:Type}{a:vk α}{b:vk β}{i:ON}{x:α}{y:β}(h1:a[i]? = rg x) (h2:b[i]? = rg y):(a.zip b)[i]? = rg (x,y):=Rx.mpr ⟨h1,h2⟩
set_option maxHeartbeats 4000000 in
theorem sb {s0 s:OA}{D kS:O1}{vs keys:vk N8}{ks:vk (vk OF)}{e e1:ON}{st:O0}{P:Xy->OA->Prop}(k0:Kp s0 s) (hk:s.heap.get? kS=rg (Ph "list" keys.toArray e)) (hD:s.heap.get? D=rg (Ph "list" #[] e1)) (f1:s0.heap.get? kS=OC) (f2:s0.heap.get? D=OC) (hne:kS≠D)
  (hl:vs.length=ks.length) (hlk:keys.length=ks.length) (h128:vs.length<128) (hkey:∀ (i:ON) (v:N8) (k:vk OF),keys[i]? = rg v->ks[i]? = rg k->KeyOf s.heap v k)
  (hp:(OI st).Perm (keys.toArray.zip vs.toArray)) (hu:(OI st).toList.Pairwise λx y=>ltL (cI s.heap y.1) (cI s.heap x.1)=Oz) (hf:PJ st=OC)
  (h:∀ s' out c,Kp s0 s'->s'.heap.get? D=rg (Ph "list" out c)->(∃ ps:vk (vk OF×N8),ps.Perm (ks.zip vs)/\out.toList=ps.map (·.2)/\ps.Pairwise λx y=>ltL y.1 x.1=Oz)->P (.done (.ret .none)) s') :
  OQ (OT prog w) A (do
   let sorted:=(OI st).map (·.2)
   PP (.ref kS) λuu=>#[]
   letGo ((OI st).map (·.1)).toList (PJ st).toList
   let touched:=(<- Yp D) != e1
   PP (.ref D) λuu=>sorted
   if let rg e:=PJ st then rule "list.sort.comparison-raised"; throw e
   if touched then rule "list.sort.modified"; raiseError "ValueError" "list modified during sort"
   ret .none) P E s:=by
 have o:=PB s.heap kS (Pb λuu=>(#[]:OP N8))
 have g:(s.heap.update kS (Pb λuu=>(#[]:OP N8))).get? D=rg (Ph "list" #[] e1):=(o.2 D hne.symm).trans hD
 have u:=PB (s.heap.update kS (Pb λuu=>(#[]:OP N8))) D (Pb λuu=>(OI st).map (·.2))
 obtain ⟨n,m⟩:∃ n,((s.heap.update kS (Pb λuu=>(#[]:OP N8))).update D (Pb λuu=>(OI st).map (·.2))).get? D=rg (Ph "list" ((OI st).map (·.2)) n):=⟨_,RB g λuu=>(OI st).map (·.2)⟩
 have j:(OI st).size=vs.length:=by rw[hp.size_eq,Xd]; simp; exact Hp hl hlk
 have k1:=Kp.wr k0 hk f1 o
 have z:=Kp.wr (s:={s with heap:=s.heap.update kS (Pb λuu=>(#[]:OP N8)) }) k1 g f2 u
 dsimp only
 refine If (RI hk rfl ?_ (by rw[Pf,P1]; exact FU hl hlk h128) (PZ _))
 refine If (ZM ?_)
 refine If (Ue g rfl ?_)
 refine If (RI g rfl ?_ (PZ _) (by rw[Yq,j,P1]; exact zS h128))
 rw[hf]
 simp only[UT,Pn,P2]
 refine OL (h _ _ n z m ⟨(OI st).toList.map λp=>(cI s.heap p.1,p.2),?_,?_,?_⟩)
 ·have l:(OI st).toList.Perm (keys.zip vs):=by
   have:=Q7.mp hp
   rwa [cB] at this
  refine (l.map _).trans (Th ?_)
  apply TF
  intro i
  rw[PO]
  by_cases hi:i<ks.length
  ·have t:keys[i]? = rg keys[i]:=OY (oE hlk hi)
   have r:ks[i]? = rg ks[i]:=OY hi
   have q:vs[i]? = rg vs[i]:=OY (oE hl hi)
   rw[im t q,im r q]
   simp only[Ta]
   rw[et (hkey i _ _ t r)]
  ·rw[Ql (by rw[TU]; exact DE hlk hi),Ql (by rw[TU]; exact Ar hi)]
   rfl
 ·rw[Vg,Vx]; rfl
 ·rw[Rj]; exact hu
set_option maxHeartbeats 4000000 in
theorem xV {s0 s:OA}{D q:O1}{vs:vk N8}{ks:vk (vk OF)}{n:ON}{P:Xy->OA->Prop}(ho:s.heap.get? D=rg (Ph "list" vs.toArray n)) (f2:s0.heap.get? D=OC) (k0:Kp s0 s)
  (hl:vs.length=ks.length) (h128:vs.length<128) (hne:∀ k∈ks,k≠[])
  (hcall:∀ (i:ON) (x:N8) (k:vk OF) (s':OA) (Q:N8->OA->Prop) (Er:N8->OA->Prop),vs[i]? = rg x->ks[i]? = rg k->Kp s0 s'->(∀ v s'',Kp s' s''->KeyOf s''.heap v k->Q v s'')->OQ (OT prog w) A (R3 (.ref q) [x]) Q Er s')
  (h:∀ s' out c,Kp s0 s'->s'.heap.get? D=rg (Ph "list" out c)->(∃ ps:vk (vk OF×N8),ps.Perm (ks.zip vs)/\out.toList=ps.map (·.2)/\ps.Pairwise λx y=>ltL y.1 x.1=Oz)->P (.done (.ret .none)) s') :
  OQ (OT prog w) A (Ut.«list.sort» ⟨[.ref D],[(mL "key", .ref q)]⟩) P E s:=by
 rw[qO]
 have s1:=PB s.heap D (Pb λuu=>(#[]:OP N8))
 obtain ⟨e1,ho1⟩:∃ e1,(s.heap.update D (Pb λuu=>(#[]:OP N8))).get? D=rg (Ph "list" #[] e1):=⟨_,RB ho λuu=>#[]⟩
 have k1:=Kp.wr k0 ho f2 s1
 refine If (SS ho rfl ?_)
 refine If (RI ho rfl ?_ (by rw[Pf,P1]; exact oG h128) (PZ _))
 refine If (Ue ho1 rfl ?_)
 refine If (V3 ?_ (by show vs.length<=_; rw[P1]; exact oG h128))
 refine If (Su ?_ (PZ _))
 refine P7 ?_
 generalize hkS:((s.heap.update D (Pb λuu=>(#[]:OP N8))).push (Ph "tuple" vs.toArray 0)).objs.size=kS
 have k3:Kp s0 {s with heap:=((s.heap.update D (Pb λuu=>(#[]:OP N8))).push (Ph "tuple" vs.toArray 0)).push (Ph "list" #[] 0) }:=(k1.trans (.push _ _ s.toks)).trans (.push _ _ s.toks)
 have hD3:(((s.heap.update D (Pb λuu=>(#[]:OP N8))).push (Ph "tuple" vs.toArray 0)).push (Ph "list" #[] 0)).get? D=rg (Ph "list" #[] e1):=OO _ (OO _ ho1)
 have hK3:(((s.heap.update D (Pb λuu=>(#[]:OP N8))).push (Ph "tuple" vs.toArray 0)).push (Ph "list" #[] 0)).get? kS=rg (Ph "list" #[] 0):=by rw[<- hkS]; exact Pa _ rfl
 have hDk:kS≠D:=by
  rw[<- hkS]
  exact T7 (Rh (OO _ ho1))
 have f1:s0.heap.get? kS=none:=by
  refine (k1.trans (.push _ (Ph "tuple" vs.toArray 0) s.toks)).none ?_
  rw[<- hkS]
  exact Qa (Pe _)
 refine If (Yo ?_)
 first
  | rw[List.forIn_toArray]
  | (rw[<- WC]; simp only[Wg])
  | rw[<- WC]
 refine If (qx (λi s'=>Kp s0 s'/\s'.heap.get? D=rg (Ph "list" #[] e1)/\∃ (g:vk N8) (e:ON),g.length=i/\s'.heap.get? kS=rg (Ph "list" g.toArray e)/\∀ (j:ON) (v:N8) (k:vk OF),g[j]? = rg v->ks[j]? = rg k->KeyOf s'.heap v k) vs 0 _ ⟨k3,hD3,[],0,rfl,hK3,λj v k hj=>by simp at hj⟩ (λj x s' hj hI=>?_) λs' hI=>?_)
 ·obtain ⟨kp,hD',g,e,m,t,l⟩:=hI
  have hjl:j<ks.length:=by rw[<- hl]; exact (PF.mp hj).1
  have hkj:ks[j]? = rg ks[j]:=OY hjl
  refine If (T6 (hcall j x _ s' _ _ hj hkj kp λv s'' k'' kv=>?_))
  have z:=k''.k.get t rfl
  have hD'':=k''.k.get hD' rfl
  have sk:=PB s''.heap kS (Pb (·.push v))
  have ea:g.toArray.push v=(g++[v]).toArray:=by simp
  obtain ⟨c2,hc2⟩:∃ c2,(s''.heap.update kS (Pb (·.push v))).get? kS=rg (Ph "list" (g++[v]).toArray c2):=⟨_,by rw[<- ea]; exact RB z (·.push v)⟩
  have kg:KG (λb=>b≠kS) s''.heap (s''.heap.update kS (Pb (·.push v))):=KG.same sk (λq=>q rfl) λo q=>by rw[z] at q; (have oc:=vj q; clear q; subst oc); exact Stay.not_list
  dsimp only
  refine If (RI z rfl ?_ (by rw[Pf,P1]; exact JX hl h128 m hjl) (Lt (Pg (Array.size_push ..)) (by rw[Pf,P1]; exact HD hl h128 m hjl)))
  refine OL ⟨rfl,Kp.wr (kp.trans k'') z f1 sk,(sk.2 D hDk.symm).trans hD'',g++[v],c2,by rw[O3,O6,m],hc2,λi u k hi r=>?_⟩
  by_cases hik:i<g.length
  ·rw[List.getElem?_append_left hik] at hi
   exact ((l i u k hi r).stays k''.k).stays kg
  ·rw[UH (lT hik)] at hi
   have:i-g.length=0:=by
    have:=(PF.mp hi).1
    simp at this; exact EN this
   rw[this] at hi
   simp at hi
   subst hi
   have hij:i=j:=by exact El m hik this
   subst hij
   rw[hkj] at r; (have oc:=vj r; clear r; subst oc)
   exact kv.stays kg
 ·obtain ⟨kp,hD',g,e,m,t,l⟩:=hI
  have hlk:g.length=ks.length:=by rw[m,<- hl]; exact Fd
  refine If (SS t rfl ?_)
  by_cases h2:vs.toArray.size<2
  ·rw[OD h2,OD h2]
   refine If (OL ?_)
   dsimp only
   rw[XY]
   refine If (OL ?_)
   dsimp only
   refine sb (st:=TS ZL (g.toArray.zip vs.toArray) #[] 7 OC) kp t hD' f1 f2 hDk hl hlk h128 l (XZ _) ?_ rfl h
   have hz:(g.toArray.zip vs.toArray).toList.length<=1:=by
    rw[cB,TU]; rw[Pf] at h2; exact GG h2
   show ((g.toArray.zip vs.toArray).toList).Pairwise _
   exact qc hz
  ·rw[OB h2,OB h2]
   rw[Pf] at h2
   refine If (nw (ks:=ks) hlk (EC m h2) (λi v k hi r=>⟨l i v k hi r,hne k (QC r)⟩) ?_)
   have hzs:(g.toArray.zip vs.toArray).size=vs.length:=by rw[Xd]; simp; exact HR m
   have mem:∀ p∈g.zip vs,∃ k∈ks,KeyOf s'.heap p.1 k:=λp hp=>by
    refine aj (SC hp) λi hi=>?_
    refine ae (Rx.mp hi) λq1 q2=>?_
    have hil:i<ks.length:=by rw[<- hlk]; exact (PF.mp q1).1
    exact ⟨ks[i],SO hil,l i _ _ q1 (OY hil)⟩
   refine If (Qk (jo (vr (E:=E) (s:=s') Gt ks) (st:=TS (W8 Gt) (g.toArray.zip vs.toArray) #[] 7 OC)
    (Q:=λuu st'=>(OI st').Perm (g.toArray.zip vs.toArray)/\PJ st' = OC/\Up (λp=>rkL ks (cI s'.heap p.1)) (OI st').toList) ⟨λp hp=>?_,rfl⟩ (by show 2<=(g.toArray.zip vs.toArray).size; rw[hzs]; exact zI h2) (by show (g.toArray.zip vs.toArray).size<128; rw[hzs]; exact h128) rfl rfl λst' a1 a2 a3=>⟨a1,a3,a2⟩) ?_ λuu uu e=>e)
   ·have hp':p∈(g.toArray.zip vs.toArray).toList:=mem_def.mp hp
    rw[cB] at hp'
    exact mem p hp'
   ·rintro ⟨⟨⟩,st'⟩ s'' ⟨rfl,hp,hf,hu⟩
    dsimp only
    refine sb kp t hD' f1 f2 hDk hl hlk h128 l hp ?_ hf h
    have hm:∀ p∈(OI st').toList,∃ k∈ks,KeyOf s''.heap p.1 k:=λp hp'=>by
     have:=(Q7.mp hp).mem_iff.mp hp'
     rw[cB] at this
     exact mem p this
    refine RJ (λ{a b} ha hb hab=>?_) hu
    refine af (hm a ha) λk hk x=>?_
    refine af (hm b hb) λk' t y=>?_
    have hab':rkL ks (cI s''.heap a.1)<=rkL ks (cI s''.heap b.1):=hab
    rw[et x,et y] at hab' ⊢
    rw[l8 t hk]
    exact P0 (z4 hab')
end
section
variable {A:Pq}{E:N8->OA->Prop}{s:OA}
theorem oZ {R:Xp->OA->Prop}{r:O1}{n:ON}{t u v:Tok}(hh:A.handled=OC) (hr:W0 s.heap r 0 n 1 t u v) (hsmall:Um 0 n 1=Gt) (hn:QG 0 n 1=n) (hlen:n<=2^24)
  (h:∀ h' tk acc' c',(∀ b o,s.heap.get? b=rg o->h'.get? b=rg o)->h'.get? s.heap.objs.size=rg {cls:=.type "list", dict:=OC,data:=.seq acc' c',slots:=#[] }->ItemsOf (λi v=>∃ t,v = .int (0+i*1) t) acc' n->R (.ok (.ret (.ref s.heap.objs.size))) {s with heap:=h',toks:=tk }) :
  Us (OT prog w) A (.builtin "proto.collect" ⟨[.ref r],[]⟩) R s:=by
 refine VD entry_proto_collect' ?_
 show OQ _ _ (do again (.builtin "list.__iadd__" ⟨[<- newList [],.ref r],[]⟩)) _ _ s
 refine If (Su (OL ⟨Ws _ (by decide +kernel),VD entry_list_iadd' ?_⟩))
 show OQ _ _ (QK (.ref s.heap.objs.size) (.ref r) (.ref s.heap.objs.size)) _ _ {s with heap:=s.heap.push (Ph "list" #[] 0) }
 rw[Around.under_plainId (by decide +kernel)]
 exact wpAny_extend_range (A:=A) (s:={s with heap:=s.heap.push (Ph "list" #[] 0) }) (R:=R) hh (OO _ hr) hsmall hn hlen s.heap.objs.size (.ref s.heap.objs.size) 0 (Pa _ rfl) λh' tk acc' c' hk j g=>
  h h' tk acc' c' (λb o e=>hk b o (P8 (Rh e)) (OO _ e)) j g
theorem ou {r:O1}{n:ON}{t u v:Tok}{Q:vk N8->OA->Prop}(hh:A.handled=OC) (hr:W0 s.heap r 0 n 1 t u v) (hsmall:Um 0 n 1=Gt) (hn:QG 0 n 1=n) (hlen:n<=2^24)
  (h:∀ h' tk (vs:vk N8),(∀ b o,s.heap.get? b=rg o->h'.get? b=rg o)->vs.length=n->(∀ (j:ON) (v:N8),vs[j]? = rg v->∃ t,v = .int j t)->Q vs {s with heap:=h',toks:=tk }):OQ (OT prog w) A (collect (.ref r)) Q E s:=by
 unfold collect
 refine If (wpAny_runValue (oZ hh hr hsmall hn hlen λh' tk acc' c' hk hS hacc=>?_))
 show OQ (OT prog w) A (do
   let o <- load s.heap.objs.size
   match o.data with
   | .seq xs _=>PU xs.toList
   | _=>ZJ "internal:collect") Q E {s with heap:=h',toks:=tk }
 refine If (WD hS ?_)
 refine OL (h h' tk acc'.toList hk (by rw[O2]; exact hacc.1) λj v hj=>?_)
 refine aj (hacc.2 j v (by simpa using hj)) λt e=>?_
 have q:(0+(j:OF)*1)=j:=by exact Hy
 exact ⟨t,by rw[e,q]⟩
noncomputable def um:N8->ON
 | .int i _=>i.toNat
 | _=>0
theorem rB:∀ (l:vk (vk OF×N8)),(∀ p∈l,∃ (i:ON) (t:Tok),p.2 = .int i t)->Q8 (l.map (·.2)) ((l.map λp=>(p.1,um p.2)).map λp=>(p.2:OF))
 | [],_=>.nil
 | p::l,h=>by
  refine ba (h p (.head _)) λi t e=>?_
  simp only[Qo]
  rw[e]
  exact .cons _ t (rB l λq g=>h q (.tail _ g))
theorem pd (a v:N8):argsOk "sorted" ⟨[a],[(mL "key", v)]⟩:=by unfold argsOk; kernel_rfl
theorem sZ (a v:N8):argsOk "list.sort" ⟨[a],[(mL "key", v)]⟩:=by unfold argsOk; kernel_rfl
theorem kY {r q:O1}{n:ON}{t u v:Tok}{ks:vk (vk OF)}{Q:N8->OA->Prop}(hh:A.handled=OC) (hr:W0 s.heap r 0 n 1 t u v) (hsmall:Um 0 n 1=Gt) (hn:QG 0 n 1=n)
  (hl:ks.length=n) (h128:n<128) (hne:∀ k∈ks,k≠[])
  (hcall:∀ (i:ON) (x:N8) (k:vk OF) (s':OA) (Q:N8->OA->Prop) (Er:N8->OA->Prop),(∃ t,x = .int i t)->ks[i]? = rg k->Kp s s'->(∀ v s'',Kp s' s''->KeyOf s''.heap v k->Q v s'')->OQ (OT prog w) A.in1.in1 (R3 (.ref q) [x]) Q Er s')
  (h:∀ (D:O1) (s':OA) (vs:vk N8) (c:ON) (ns:vk OF),Kp s s'->s.heap.get? D=OC->s'.heap.get? D=rg (Ph "list" vs.toArray c)->Q8 vs ns->(∃ ps:vk (vk OF×ON),ps.Perm (ks.zip (Qe n))/\ns=ps.map (λp=>(p.2:OF))/\ps.Pairwise λx y=>ltL y.1 x.1=Oz)->Q (.ref D) s') :
  OQ (OT prog w) A (R3 (.builtin "sorted") [.ref r] [(mL "key", .ref q)]) Q E s:=by
 refine call_function_entry_kw XH Xe Xf (pd _ _) ?_
 unfold Ut.«sorted»
 refine If (m:=Yr "sorted" 1 1 _) (OL ?_)
 refine If (ou (A:=A.in1) hh hr hsmall hn (by exact Ib h128) λh1 tk1 vs kp hvl hvs=>?_)
 refine If (Su ?_ (by rw[P1]; exact sT h128 hvl))
 have hoL:(h1.push (Ph "list" vs.toArray 0)).get? h1.objs.size=rg (Ph "list" vs.toArray 0):=Pa _ rfl
 have k1:Kp s {s with heap:=h1,toks:=tk1 }:=.of kp
 have k2:Kp s {s with heap:=h1.push (Ph "list" vs.toArray 0),toks:=tk1 }:=k1.trans (.push _ _ _)
 have f2:s.heap.get? h1.objs.size=none:=k1.none (Qa (Pe _))
 refine If (P7 (wpAny_call_entry_kw V4 ⟨_,hoL,rfl⟩ VF ?body (sZ _ _)))
 case body=>
  refine xV (s0:=s) (ks:=ks) hoL f2 k2 (by exact Hb hl hvl) (by exact Az h128 hvl) hne (λi x k s' Q Er hx hk kp' hQ=>hcall i x k s' Q Er (hvs i x hx) hk kp' hQ) λs' out c kp' ho hps=>⟨_,rfl,OL ⟨_,rfl,?_⟩⟩
  refine aq (hps) λps p1 p2 p3=>?_
  clear hps
  have hm:∀ p∈ps,∃ (i:ON) (t:Tok),p.2 = .int i t:=λp hp=>by
   have hp':=p1.mem_iff.mp hp
   refine aj (SC (WE hp').2) λi hi=>?_
   refine aj (hvs i _ hi) λt e=>?_
   exact ⟨i,t,e⟩
  have hmap:vs.map um=Qe n:=by
   apply TF
   intro i
   rw[PO]
   by_cases hi:i<n
   ·have q:vs[i]? = rg vs[i]:=OY (by exact oE hvl hi)
    refine aj (hvs i _ q) λt e=>?_
    rw[q,Un hi]
    simp only[Ta]
    rw[e]; rfl
   ·rw[Ql (by exact D0 hvl hi),Ql (by simp; exact lT hi)]; rfl
  have ho':s'.heap.get? h1.objs.size=rg (Ph "list" out.toList.toArray c):=by rw[Array.toArray_toList]; exact ho
  refine h h1.objs.size s' out.toList c _ kp' f2 ho' (by rw[p2]; exact rB ps hm) ⟨ps.map λp=>(p.1,um p.2),?_,rfl,?_⟩
  ·refine (p1.map _).trans (Th ?_)
   rw[<- hmap,List.zip_map_right]
   exact Uo λ⟨x,y⟩ _=>rfl
  ·rw[Rj]; exact p3
end
theorem gX:∀ {ns:vk Str}{vs:vk α}{n:Str},vs.length=ns.length->n∈ns->((ns.zip vs).lookup n).isNone=Oz
 | [],_,_,_,h=>nomatch h
 | m::ns,[],_,h,_=>by simp at h
 | m::ns,v::vs,n,hl,h=>by
  rw[Q2,PQ]
  by_cases e:n=m
  ·(clear h hl; subst e); simp
  ·have g:(n==m)=false:=by simpa using e
   rw[g]
   exact gX (by simpa using hl) ((O9.mp h).resolve_left e)
theorem jh:∀ {ns:vk Str}{vs:vk N8},ns.Nodup->vs.length=ns.length->(ns.filterMap λn=>((ns.zip vs).lookup n).map (n,·))=ns.zip vs
 | [],_,_,_=>rfl
 | m::ns,[],_,h=>by simp at h
 | m::ns,v::vs,hn,hl=>by
  rw[Q0] at hn
  rw[Sy]
  simp only[Q2,PQ,QH,Ta]
  congr 1
  have k:=jh hn.2 (vs:=vs) (by simpa using hl)
  have i:∀ (l:vk Str),(∀ n∈l,n≠m)->(l.filterMap λn=>(match n==m with | true=>rg v | false=>(ns.zip vs).lookup n).map (n,·))=l.filterMap λn=>((ns.zip vs).lookup n).map (n,·):=by
   intro l g
   induction l with
   | nil=>rfl
   | cons n l ihl=>
    have p:(n==m)=false:=Re.mpr (g n (.head _))
    rw[Sy,Sy,ihl λx o=>g x (.tail _ o)]
    simp only[p]
  exact (i ns λn j e=>hn.1 (e▸j)).trans k
theorem pb (a:α) (f:α->Sem β):((PU a:Sem α)>>=f)=f a:=rfl
theorem C6 {α β γ:Type}{l:vk α}{i:β}{f:α->β->Sem (Pd β)}{k:β->Sem γ}{z:Sem γ}(h:l=[]) (e:k i=z):(UD l i f>>=k)=z:=by subst h; exact e
theorem vW [V6 c] (h:¬ c) (e:y=z):(if c then x else y)=z:=(OB h).trans e
theorem me {ps:vk Str}(h1:fd.params.posonlyargs=[]) (h2:fd.params.args.map (·.arg)=ps) (h3:fd.params.vararg=OC) (h4:fd.params.kwonlyargs=[]) (h5:fd.params.kwarg=OC) (h6:fd.defaults = .none)
  (hn:ps.Nodup) (hl:vals.length=ps.length):WR fd ⟨vals,[]⟩=PU (ps.zip vals):=by
 obtain ⟨u,qn,⟨r,g,p,y,z,v,df⟩,bd,q,gl,cl,de,j,o,t,an,cd,ct,bu⟩:=fd
 dsimp only at h1 h2 h3 h4 h5 h6
 subst h1 h3 h4 h5 h6
 have m:(ps.take ps.length).filter (λn=>((ps.zip vals).lookup n).isNone)=[]:=by
  rw[Vd,Vy]
  intro n h
  rw[gX hl h]
  simp
 have k:(ps++[]).filterMap (λn=>((ps.zip vals).lookup n).map λx=>(n,x))=ps.zip vals:=by rw[RH]; exact jh hn hl
 subst h2
 refine vW (c:=(decide (vals.length>(g.map (·.arg)).length)&&Gt)=Gt) (by rw[hl]; simp) ?_
 have i:Xz (0-(g.map (·.arg)).length) ([]:vk N8)=[]:=WO
 refine vW (c:=(!(((g.map (·.arg)).take ((g.map (·.arg)).length-(Xz (0-(g.map (·.arg)).length) ([]:vk N8)).length)).filter λn=>(((g.map (·.arg)).zip vals).lookup n).isNone).isEmpty)=Gt) (by rw[i]; show ¬ (!(((g.map (·.arg)).take (g.map (·.arg)).length).filter λn=>(((g.map (·.arg)).zip vals).lookup n).isNone).isEmpty)=Gt; rw[m]; simp) ?_
 refine C6 (l:=((g.map (·.arg)).drop ((g.map (·.arg)).length-(Xz (0-(g.map (·.arg)).length) ([]:vk N8)).length)).zip (Xz (0-(g.map (·.arg)).length) ([]:vk N8))) (by rw[i]; exact UG) ?_
 exact RM (λx=>(PU x:Sem _)) k
noncomputable def CodeV (h:PE) (cv:N8):Prop:=∃ c o vs q t,cv = .ref c/\h.get? c=rg o/\o.cls = .type "code" /\ o.data = .fields vs/\vs[1]? = rg (.str q t)
theorem CodeV.onG (x:CodeV h cv) (k:KG G h h'):CodeV h' cv :=
 oK (x) λc o j q t m l i g=>(lY c o j q t m (k.stay l (.inl (aB i (bx _ g.1)))) i g)
theorem uf {pos p:Pos}{c x:N8}(l:vk N8) (h:YT l) (hx:U7 p (l++[QE pos.line,QE pos.col,c])=rg x):U7 p l=rg x\/x=c:=by
 fun_induction YT l with
 | case1=>
  simp only[Wz,U7,QE] at hx
  split at hx
  ·(have oc:=vj hx; clear hx; subst oc); exact .inr rfl
  ·exact nN hx
 | case2 a t b u y rest ih=>
  simp only[XA,U7] at hx ⊢
  split at hx
  ·rename_i hc; rw[OD hc]; exact .inl hx
  ·rename_i hc; rw[OB hc]; exact ih h hx
 | case3 l h1 h2=>exact h.elim
section
variable {M:UO}{A:Pq}{E:N8->OA->Prop}{s:OA}
theorem AO (X:CodeOk s.heap env.code q)
  (h:∀ cv h' tk,K s.heap h'->CodeV h' cv->Q cv {s with heap:=h',toks:=tk }):OQ M A (functionCode env pos firstLine name qualname p scope body) Q E s:=by
 refine cH (X) λc P ps hc _ hI hT hG hP=>?_
 clear X
 cases hf:U7 pos ps.toList with
 | some cv=>
  refine iQ (hG.2 pos cv hf) λm o vs q' t MU r=>?_
  subst MU
  exact wpAny_functionCode_hit hc hI hf (h _ s.heap s.toks KG.refl (oF m o vs q' t rfl r))
 | none=>
  refine wpAny_functionCodeX hc hI hT hf λm h' tk hx hge hlt hI' j hT' k=>?_
  have g:=hT.2
  have hcv:CodeV h' (.ref m):=by
   refine aq (k) λuu uu uu x=>?_
   clear k
   refine ae (x) λv _=>?_
   clear x
   refine a8 (v) λy vc hoc hcc hdc _=>?_
   clear v
   refine fK (j) λc₂ ob n u eb i d₂ z=>?_
   clear j
   cases eb
   rw[hoc] at i; (have y:=vj i; clear i; subst y)
   exact (vd _ y n _ u rfl hoc hcc d₂ z)
  refine h _ h' tk (λb o _ e=>?_) hcv
  by_cases hb:b=P
  ·(clear hI hI' hT; subst hb)
   rw[g] at e
   have eo:=vj e
   refine (ag _ hT'.2 (.tab ps #[QE pos.line,QE pos.col,.ref m] hP eo.symm rfl λG=>⟨?_,λp cv l=>?_⟩))
   ·have hl:(ps ++ #[QE pos.line,QE pos.col,Py m]).toList=ps.toList++[QE pos.line,QE pos.col,.ref m]:=by simp
    rw[hl]; exact TriplesOk_snoc _ _ _ _ G.1
   ·have hl:(ps ++ #[QE pos.line,QE pos.col,Py m]).toList=ps.toList++[QE pos.line,QE pos.col,.ref m]:=by simp
    rw[hl] at l
    rcases uf _ G.1 l with hh | hh
    ·refine oK (G.2 p cv hh) λc1 o1 vs1 q1 t1 a1 a2 a3 a4=>?_
     refine (lY c1 o1 vs1 q1 t1 a1 (hx c1 o1 (λq=>?_) a2) a3 a4)
     rw[q,g] at a2; (have y:=vj a2; clear a2; (clear a4; subst y)); cases a3
    ·subst hh; exact hcv
  ·exact (ag o (hx b o hb e) (.same rfl))
noncomputable def LamAt (h:PE) (f:O1) (params:Xn) (body:Expr) (scope:Scope) (clos:vk (Str×O1)):Prop :=
 ∃ o fd,h.get? f=rg o/\o.data = .func fd/\fd.params=params/\fd.body = .expr body/\fd.scope=scope/\fd.closure=clos/\fd.globals=Qt/\fd.builtins=Tl/\fd.defaults = .none/\CodeV h fd.code
theorem LamAt.k (x:LamAt h f params body scope clos) (k:K h h'):LamAt h' f params body scope clos :=
 pF x λo j v g u t r p n m l i=>
 (oU o j (K.exact k v (λuu q=>by rw[g] at q; cases q) (λuu uu q=>by rw[g] at q; cases q)) g u t r p n m l (i.onG k))
theorem wo (G:GE fns s.heap) (X:CodeOk s.heap env.code q) (hg:env.globals=Qt)
  (hd:defaultsOf params env=([],[])) (hcl:Vw scope env=PU [(x,c)])
  (h:∀ f s',Kp s s'->LamAt s'.heap f params body scope [(x,c)]->Q (.ref f) s'):OQ M A (SW (.Lambda params body scope pos) env) Q E s:=by
 rw[arm_eval_Lambda,hd]
 refine If (OL (If (P7 (OL ?_))))
 rw[makeFunction_eq]
 simp only[UG,List.filterMap_nil,List.isEmpty_nil,Ri,pure_bind]
 unfold makeTail
 rw[hcl,hg]
 refine If (OL ?_)
 simp only[List.isEmpty_cons,Pn,P2]
 refine If (wpAny_newTextTuple ?_)
 have m:∀ o:Obj,Kp s {s with heap:=s.heap.push o }:=λo=>.push s o s.toks
 refine If (AO (X.k (m _).k) λcv n j r l=>?_)
 have g:=(m _).trans (ay n j rfl r)
 refine uA (G.bm) λmg bm ob b1 z y v p u t=>?_
 have i:=eZ b1 g.k
 refine If (wpAny_builtinsFor i z y (g.k.get v (by unfold hardB; rw[p]; decide)) p u t ?_)
 refine If (wpAny_nsGet i ?_)
 refine If (OL (RF (h _ _ (g.trans (.push _ _ j)) ?_) (by size_fits)))
 exact (oU _ _ (Pa _ rfl) rfl rfl rfl rfl rfl rfl rfl rfl (l.onG (Kp.push {s with heap:=n,toks:=j } _ j).k))
end
section
theorem vC {R:Xp->OA->Prop}{e:Expr}{env:Env}
  (h:OQ (OT prog w) (A.deeper env) (SW e env) (λv s'=>R (.ok (.ret v)) s') (λuu uu=>PW) s):Us (OT prog w) A (.expr e env) R s:=by
 refine X0 ?_
 show OQ _ (A.deeper env) (do point; ret (<- (SW e env).onRaise (X7 env))) _ _ s
 exact If (ZN (If (wpAny_onRaise (Qk h (λv s' g=>OL g) λuu uu g=>g.elim))))
theorem x9 (hroom:A.depth<Q5) (nl:s.heap.NoLimit) (L:LamAt s.heap f params body scope [(x,c)])
  (h1:params.posonlyargs=[]) (h2:params.args.map (·.arg)=[t]) (h3:params.vararg=OC) (h4:params.kwonlyargs=[]) (h5:params.kwarg=OC)
  (hk:scope.kind = .function) (hg:scope.isGenerator=Oz) (hc:scope.isCoroutine=Oz) (hn:scope.names=[(t,.local),(x,.free)]) (hxt:x≠t)
  (h:∀ env s',Kp s s'->env.scope=scope->env.globals=Qt->env.builtins=Tl->env.cells=[(x,c)]->s'.heap.Ns env.locals (λy=>[(t,v)].reverse.lookup y)->CodeV s'.heap env.code ->
   OQ (OT prog w) (A.deeper env) (SW body env) Q (λuu uu=>PW) s'):OQ (OT prog w) A (R3 (.ref f) [v]) Q Er s:=by
 refine pF (L) λo j ho hd n p2 l p4 p5 p6 p7 p8=>?_
 clear L
 have hb:WR j ⟨[v],[]⟩=PU ([t].zip [v]):=me (by rw[n]; exact h1) (by rw[n]; exact h2) (by rw[n]; exact h3) (by rw[n]; exact h4) (by rw[n]; exact h5) p7 (by simp) rfl
 refine Ys (X0 ?_)
 show OQ _ A.in1 (callAny (.ref f) ⟨[v],[]⟩) _ _ s
 simp only[callAny]
 refine If (WD ho ?_)
 refine uL (p8) λc' oc vs q tq hc' p u i hq=>?_
 clear p8
 have r:j.scope.isGenerator=false:=by rw[l]; exact hg
 have hco:j.scope.isCoroutine=false:=by rw[l]; exact hc
 simp only[hd,callFunction,hco,r,p2,hc']
 refine If (m:=field (.ref c') 1) (Uf p i hq (If (OL ?_)))
 rw[hb]
 refine If (OL (If (wpAny_newFunctionEnv (λy hy=>?_) (λy hy=>?_) (λg hns hsb=>?_) (by rw[l]; exact hk))))
 ·rw[l,hn] at hy
  rcases O9.mp hy with rfl | hy
  ·exact λq=>by cases q
  ·rw[OK.mp hy]; exact λq=>by cases q
 ·rw[l,hn]
  have:y=(t,v):=by simpa using hy
  rw[this]; simp
 ·have z:Kp s {s with heap:=g,toks:=s.toks+([t].zip [v]).length }:=(ay g _ rfl (.of λb o e=>hsb.extBut b o (P8 (Rh e)) (OO _ e)))
  refine If (wpAny_enterFrame (j7 nl z.k) hroom (OL ⟨rfl,vC ?_⟩))
  exact h (newEnv j.scope s.heap.objs.size j.globals j.closure (q ++ ".<locals>.") (rg f) (.ref c') OC j.builtins) _ z l p5 p6 p4 hns (vd c' oc vs q tq rfl (z.k.stay p (.inl (aB u (bx _ i)))) u i hq)
end
theorem wy (h:dD ns i=dD ns j):i=j:=by
 unfold dD at h
 simp at h
 have:=h.2
 exact KA h
theorem tQ {ps:vk (vk OF×ON)}(hp:ps.Perm (((Qe ns.length).map (dD ns)).zip (Qe ns.length))) (hu:ps.Pairwise λx y=>ltL y.1 x.1=Oz):(ps.map λp=>(p.2:OF))=bN ns:=by
 have o:((Qe ns.length).map (dD ns)).zip (Qe ns.length)=(Qe ns.length).map λi=>(dD ns i,i):=by
  apply TF
  intro i
  by_cases hi:i<ns.length
  ·rw[im (x:=dD ns i) (y:=i) (by simp[hi]) (by simp[hi])]
   simp[hi]
  ·rw[Ql (by simp; exact lT hi),Ql (by simp; exact lT hi)]
 rw[o] at hp
 unfold bN
 congr 1
 have n:=QA ((Qe ns.length).map λi=>(dD ns i,i)) (λa b=>!ltL b.1 a.1)
 have t:=Q9 (le:=λ(a b:vk OF×ON)=>!ltL b.1 a.1) (λa b c k g=>by
  simp only[PL] at k g ⊢
  cases q:ltL c.1 a.1 with
  | false=>rfl
  | true=>
   cases r:ltL a.1 b.1 with
   | true=>rw[cM q r] at g; exact nT g
   | false=>rw[<- eW r k,q] at g; cases g) (λa b=>by
  cases q:ltL b.1 a.1 with
  | false=>simp
  | true=>
   cases r:ltL a.1 b.1 with
   | true=>have:=cM q r; rw[il] at this; exact nF this
   | false=>simp) ((Qe ns.length).map λi=>(dD ns i,i))
 refine YJ (le:=λa b=>ltL b.1 a.1=Oz) (λa b v u k g=>?_) hu (t.imp λh=>by simpa using h) (hp.trans n.symm)
 have e:=eW g k
 refine aI (hp.mem_iff.mp v) λi _ m=>?_
 subst m
 refine aI (n.mem_iff.mp u) λj _ l=>?_
 subst l
 have:=wy e
 subst this
 rfl
theorem xC (ns:vk OF):(bN ns).length=ns.length:=by
 unfold bN
 rw[OV,(QA _ _).length_eq,OV,UU]
theorem yc (h:aK xs=rg ns):xs=ns.map .int:=by
 induction xs generalizing ns with
 | nil=>(have i:=vj h; clear h; subst i); rfl
 | cons x xs ih=>
  cases x with
  | int j=>
   refine bk (show (aK xs).map (j :: ·)=rg ns from h) λl k g=>?_
   subst g
   rw[ih k]; rfl
  | _=>exact nN h
noncomputable def oV (x t:Ot) (xs:vk OU) (i:ON):St:=λy=>if y=x then rg (.d (.list xs),.sh) else if y=t then rg (mk (.d (.int i))) else OC
theorem BR (hxt:x≠t) (hi:i<ns.length):∃ m,ev (λ_=>OC) (lq x t) (oV x t (ns.map .int) i) = .ok (.d (.tuple ((dD ns i).map .int)),m):=by
 have h:oV x t (ns.map .int) i x=rg (.d (.list (ns.map .int)),.sh):=OD rfl
 have g:oV x t (ns.map .int) i t=rg (mk (.d (.int i))):=(OB (P6 hxt)).trans (OD rfl)
 have j:eO (.list (ns.map .int)) (.int i) = .ok (mk (.d (.int (ns.getD i 0)))):=by
  have:elem (.list (ns.map .int)) i=rg (.int (ns.getD i 0)):=by
   show (bI (i:OF) (ns.map O8).length).bind (λk=>(ns.map O8)[k]?)=_
   unfold bI
   rw[OD zl,OD (by rw[OV]; exact Dx hi)]
   simp[hi]
  show am (cL (.int (i:OF))) _=_
  show am (elem (.list (ns.map .int)) i) _=_
  rw[this]; rfl
 refine ⟨.deep,?_⟩
 unfold lq
 simp only[ce,eJ,j8,gu,gy,fS,fY,d8,ed,d7,fx,bO,eS,gv,dS,cQ,eQ,f8,fU,eM,eE,f7,eP,dR,fm,bi,a9,h,g,Out.ok_bind,mk,j]
 rfl
section
theorem ur {id:Ot}{args:vk Expr}{kws:vk Y7}{A:Pq}{env:Env}{p pos:Pos}{s:OA}{Q:N8->OA->Prop}{Er:N8->OA->Prop}(eok:EnvOk env) (ge:GE fns s.heap) (hm:id∈bnames) (hg:bJ env.scope.names id=Gt) (hd:(mL id==("__debug__" : Str))=Oz)
  (h:OQ (OT prog w) A (Va pos (bval id) [] (Rq pos (PV args env)) (ZO pos (XI kws env))) Q Er s):OQ (OT prog w) A (SW (.Call (.Name (mL id) p) args kws pos) env) Q Er s:=by
 refine aq (ge.glob) λl i _ g=>?_
 refine af (ge.blt) λm k j=>?_
 show OQ _ A (do Va pos (<- SW (.Name (mL id) p) env) [] (Rq pos (PV args env)) (ZO pos (XI kws env))) Q Er s
 exact If (Calls.Name_function_global eok.kind (dQ hg) (Calls.loadGlobal_builtin (eok.glob▸i) (g id hm) (eok.blt▸k) (j id hm) h) hd)
theorem wX (hn:sc.names=[(t,.local),(x,.free)]) (hc:env.cells.lookup x=rg c):Vw sc env=PU [(x,c)]:=by
 unfold Vw
 rw[hn]
 simp only[UE,V9]
 have e:Zd env x=PU c:=by unfold Zd; rw[hc]
 rw[e]
 rfl
theorem star_call' (ys:vk Expr) (env:Env):PV (.Call f xs ks p::ys) env=(Oz,SW (.Call f xs ks p) env)::PV ys env:=rfl
set_option maxHeartbeats 1000000 in
theorem vR (hf:fns.hand=Oz) (hk1:∀ g,C "law" = rg g->fns.lam=Gt) (Sl:SimE fns k C XP (.bi1 .len (.name x))) (Sb:SimE {fns with lam:=Oz,hand:=Gt } 0 (λ_=>OC) (λ_ _ _ _=>PW) (lq x t)):SimE fns k C XP (.order x t):=by
 intro ex A env σ P s Q Er ok X nb hQ hE
 replace ok:=B9 ok
 rcases ok with ⟨id,p,jd,p2,y,p3,ar,body,sc,p4,p5,pos,rfl,ok⟩ | ok
 ·simp only[OJ,OZ] at ok
  refine ae (ok) λMV obd=>?_
  clear ok
  refine ae (MV) λMQ olm=>?_
  clear MV
  refine ae (MQ) λMW o=>?_
  clear MQ
  refine ae (MW) λM0 hg'=>?_
  clear MW
  refine ae (M0) λMS MP=>?_
  clear M0
  refine ae (MS) λMT hg=>?_
  clear MS
  subst MT
  subst MP
  unfold xy at olm
  simp only[OJ,Pk,PL,Tq,R7] at olm
  refine ae (olm) λMX hcl=>?_
  clear olm
  refine ae (MX) λMY hxt=>?_
  clear MX
  refine ae (MY) λM1 b4=>?_
  clear MY
  refine ae (M1) λM2 b3=>?_
  clear M1
  refine ae (M2) λM3 b2=>?_
  clear M2
  refine ae (M3) λM5 b1=>?_
  clear M3
  refine ae (M5) λM6 a7=>?_
  clear M5
  refine ae (M6) λM8 a6=>?_
  clear M6
  refine ae (M8) λM9 a5=>?_
  clear M8
  refine ae (M9) λNa a4=>?_
  clear M9
  refine ae (Na) λNh a3=>?_
  clear Na
  refine ae (Nh) λa1 a2=>?_
  clear Nh
  simp only[ce,eJ,j8,gu,gy,fS,fY,d8,ed,d7,fx,bO,eS,gv,dS,cQ,eQ,f8,fU,eM,eE,f7,eP,dR,fm] at nb hQ hE
  cases hCl:C "law" with
  | none=>rw[hCl] at nb; exact OW rfl nb
  | some g=>
   rw[hCl] at nb hQ
   have hk:=hk1 g hCl
   clear hE
   have nb':eF (σ x)≠.bad:=nb
   cases hσ:σ x with
   | none=>rw[hσ] at nb'; exact OW rfl nb'
   | some q=>
    obtain ⟨V,m⟩:=q
    have hov:∃ l:vk OF,V = .d (.list (l.map .int))/\l.length<128/\eF (σ x) = .ok (.d (.list ((bN l).map .int)),.deep):=by
     rw[hσ] at nb' ⊢
     cases hd:asD V with
     | none=>exact OW (show eF (rg (V,m)) = .bad by unfold eF; show am (asD V) _=_; rw[hd]; rfl) nb'
     | some d=>
      cases hl:asL d with
      | none=>exact OW (show eF (rg (V,m)) = .bad by unfold eF; show am (asD V) _=_; rw[hd]; show am (asL d) _=_; rw[hl]; rfl) nb'
      | some xs=>
       cases hi:aK xs with
       | none=>exact OW (show eF (rg (V,m)) = .bad by unfold eF; show am (asD V) _=_; rw[hd]; show am (asL d) _=_; rw[hl]; show am (aK xs) _=_; rw[hi]; rfl) nb'
       | some l=>
        have e:eF (rg (V,m))=if l.length<128 then .ok (.d (.list ((bN l).map .int)),.deep) else .bad:=by
         unfold eF; show am (asD V) _=_; rw[hd]; show am (asL d) _=_; rw[hl]; show am (aK xs) _=_; rw[hi]; rfl
        by_cases u:l.length<128
        ·rw[OD u] at e
         refine ⟨l,?_,u,e⟩
         rw[bB hd,cK hl,yc hi]
        ·rw[e,OB u] at nb'; exact OW rfl nb'
    revert hov; intro NQ
    refine aq (NQ) λl Nj u hov=>?_
    clear NQ
    subst Nj
    have hvk:varK env.scope.names x=true:=by
     unfold wl at o
     refine ai o λ_ _ o=>?_
     refine ai o λ_ _ o=>?_
     simp only[OJ] at o
     refine ai o.2 λ_ _ o=>?_
     simp only[OJ] at o
     exact o.1.2
    refine aw (X.vars x _ hσ hvk) λva as hvi Nd _=>?_
    refine ae (Nd) λhra hza=>?_
    clear Nd
    have hcell:∃ c,env.cells.lookup (mL x)=rg c/\s.heap.IsCell c (rg va):=by
     cases hvi with
     | loc m b c d=>exact OW b (by unfold Vq; rw[hcl]; simp)
     | cell c b d e=>exact ⟨c,d,e⟩
    refine af (hcell) λc hcl1 hcl2=>?_
    clear hcell
    have he:ev C (.bi1 .len (.name x)) σ = .ok (sI l.length):=by
     simp only[ce,eJ,j8,gu,gy,fS,fY,d8,ed,d7,fx,bO,eS,gv,dS,cQ,eQ,f8,fU,eM,eE,f7,eP,dR,fm]
     rw[hσ]
     show Out.bind (.ok (mk (.d (.list (l.map .int))))) _=_
     rw[Out.ok_bind]
     show Out.ok (sI ((l.map O8).length:OF))=_
     rw[OV]
    have on:okE env.scope.names (.bi1 .len (.name x)) y=true:=o
    refine ur X.eok X.ge (id:="sorted") (by decide) hg (by decide) ?_
    refine callWith_kw ?_
    refine Qv ?_ (star_call' [] env)
    refine e7 X.eok X.ge (id:="range") (by decide) hg' (by decide) (gq (T:="range") _ on rfl (ir _ on (Sl on X (by rw[he]; simp) (λr hr v j Ea=>?_) λc hc=>by rw[he] at hc; cases hc)))
    rw[he] at hr
    (have oc:=Out.ok.inj hr; clear hr; subst oc)
    obtain ⟨ka,as',ra,_,_,_⟩:=Ea
    refine ra.1.isInt_k λtk Nm _=>?_
    subst Nm
    refine Zc (Sp ?_)
    have k2:Kp s {j with heap:=j.heap.push {cls:=.type "range", data:=.fields #[.int 0 j.toks,.int (l.length:OF) tk,.int 1 (j.toks+1)] },toks:=j.toks+1+1 }:=ka.trans (.push _ _ _)
    generalize hs2:{j with heap:=j.heap.push {cls:=.type "range", data:=.fields #[.int 0 j.toks,.int (l.length:OF) tk,.int 1 (j.toks+1)] },toks:=j.toks+1+1 }=s₂ at k2 ⊢
    have hr2:W0 s₂.heap j.heap.objs.size 0 l.length 1 j.toks tk (j.toks+1):=by rw[<- hs2]; exact XG ..
    clear hs2
    refine kws_cons ?_
    refine aj (X.code hk) λqn hcode=>?_
    have hdef:defaultsOf ar env=([],[]):=by
     cases ar
     dsimp only at a5 a7
     subst a5 a7
     rfl
    refine wo (X.ge.k k2.k) (hcode.k k2.k) X.eok.glob hdef (wX b4 hcl1) λf s₃ k3 L=>kws_nil ?_
    have k23:=k2.trans k3
    have hsz:QG 0 l.length 1=(l.length:OF):=by rw[YF]; split<;>lia
    have hr3:W0 s₃.heap j.heap.objs.size 0 l.length 1 j.toks tk (j.toks+1):=k3.k.get hr2 rfl
    show OQ (OT prog w) A (R3 (.builtin "sorted") [.ref j.heap.objs.size] [(mL "key", .ref f)]) Q Er s₃
    refine kY (ks:=(Qe l.length).map (dD l)) (X.room.1 hf) hr3 (small_one GD Gy Ks (HQ u)) hsz (by simp) u (λk hk=>?_) (λi xv kk s' Q' Er' hx hkk kp' hQ'=>?_) λD s' vs cc ns' kp' fD hD hI hps=>?_
    ·refine aI hk λi _ Ni=>?_
     subst Ni
     simp[dD]
    ·refine aj (hx) λti Nf=>?_
     clear hx
     subst Nf
     have hil:i<l.length:=by
      have:=(PF.mp hkk).1
      simpa using this
     have hkk':kk=dD l i:=by
      rw[PO,Un hil] at hkk
      (have oc:=vj hkk; clear hkk; subst oc); rfl
     subst hkk'
     refine ae (X.room.at hf) λr1 r2=>?_
     have ks':=k23.trans kp'
     refine x9 (show A.depth<Q5 by exact GM r1) (j7 X.ge.nolim ks'.k) (L.k kp'.k) a1 a2 a3 a4 a6 b1 b2 b3 b4 (λq=>hxt (ca q)) λenv' s'' kp'' e1 e2 e3 e4 hns hcv=>?_
     have kall:=ks'.trans kp''
     have hkd:∀ n,env'.kindOf n=[(mL t,NameKind.local),(mL x,QB)].lookup n:=λn=>by unfold Vq; rw[e1,b4]
     have hxn:(mL x==mL t)=false:=Re.mpr λq=>hxt (ca q)
     have cx:Cx {fns with lam:=Oz,hand:=Gt } 0 (A.in1.in1.deeper env') (λ_=>VU) s''.heap env' (oV x t (l.map .int) i):=by
      refine ⟨⟨λq=>(by cases q),by show A.depth+1+2*0+1<Q5; exact JC r1,by show A.units+1+1+3+100*0+200<UB; exact Gv r2⟩,⟨by rw[e1]; exact b1,e2,e3,λn hn=>?_⟩,(X.ge.k kall.k).flag Oz Gt,(λh=>by cases h),(λh=>by cases h),λy' p' z _=>?_⟩
      ·rw[hkd] at hn
       refine ⟨c,?_⟩
       rw[e4]
       simp only[PQ,List.lookup_nil] at hn ⊢
       cases q1:n==mL t with
       | true=>rw[q1] at hn; simp at hn
       | false=>
        rw[q1] at hn
        cases q2:n==mL x with
        | true=>rfl
        | false=>rw[q2] at hn; simp at hn
      ·unfold oV at z
       by_cases hyx:y' = x
       ·subst hyx
        rw[OD rfl] at z; (have oc:=vj z; clear z; subst oc)
        refine ⟨va,as,.cell c (.inr ?_) ?_ (ij hcl2 kall.k),⟨hra.k kall.k,hza⟩,λ_ _=>trivial⟩
        ·rw[hkd]; simp only[PQ,hxn]; simp
        ·rw[e4]; simp
       ·rw[OB hyx] at z
        by_cases hyt:y' = t
        ·subst hyt
         rw[OD rfl] at z; (have oc:=vj z; clear z; subst oc)
         refine ⟨.int i ti,[],.loc _ ?_ hns ?_,⟨.int i ti,rfl⟩,λ_ _=>trivial⟩
         ·rw[hkd]; simp
         ·simp
        ·rw[OB hyt] at z; exact nN z
     refine aj (BR (x:=x) (t:=t) hxt hil) λmm hev=>?_
     have obd':okE env'.scope.names (lq x t) body=true:=by rw[e1]; exact obd
     refine Sb obd' cx (by rw[hev]; simp) (λr hr v s4 E4=>?_) λ_ _ _ _ h=>h
     rw[hev] at hr
     (have oc:=Out.ok.inj hr; clear hr; subst oc)
     obtain ⟨k4,as4,Nl,_⟩:=E4
     refine ae (Nl) λr4 _=>?_
     clear Nl
     exact hQ' v s4 (kp''.trans k4) (KeyOf.ofR r4)
    ·refine aq (hps) λps p1 p2 p3=>?_
     clear hps
     have e:=tQ p1 p3
     rw[<- p2] at e
     subst e
     refine hQ _ hov _ _ ?_
     have ef:fresh ((bN l).map O8) = .deep:=by
      unfold fresh
      rw[OD]
      rw[WY,P9]
      intro _ _; rfl
     rw[<- ef]
     exact EP.aList (as:=[]) (k23.trans kp') (k23.none fD) hD (RA.of_ints hI) (by rw[OV,xC]; exact z3 u) (gD _) λ_ h=>(nomatch h)
 ·cases ok
end
def RawD (h:PE) (d:O1) (es:OP U8) (ep:ON):Prop:=∃ o,h.get? d=rg o/\o.cls = .type "dict" /\ o.data = .dict es ep
theorem RawD.typ {s:OA}{d:O1}{es:OP U8}{ep:ON}(x:RawD s.heap d es ep):s.TypeIs (.ref d) "dict" := aq (x) λo h g uu=>(ag o h g)
theorem RawD.at (x:RawD h d es ep) (k:∀ o,h.get? d=rg o->h'.get? d=rg o):RawD h' d es ep:=af (x) λo g r=>(ag o (k o g) r)
section
variable {A:Pq}{E:N8->OA->Prop}{s:OA}{d it:O1}{es:OP U8}{ep i:ON}
theorem wp {Q:N8->OA->Prop}(hd:(d==UC)=Oz) (hm:RawD s.heap d es ep)
  (hQ:Q (.ref s.heap.objs.size) {s with heap:=s.heap.push {cls:=.type "dict_keyiterator", data:=.fields #[.ref d,.int 0 0,.int es.size 0,.int ep 0] } }) :
  OQ (OT prog w) A (Xu (.ref d)) Q E s:=by
 have h:=hm.typ
 refine aq (hm) λo i j g=>?_
 clear hm
 refine wpAny_pyIter_slot h XB (TV XB h F.entry_dict_iter ?_ (F.args_dict_iter_1 _))
 unfold Ut.«dict.__iter__»
 refine If ?_
 unfold YB
 refine If (wpAny_notOrdered_dict h (OL ?_))
 show OQ _ _ (VO d>>=_) _ _ s
 unfold VO
 rw[OB (by rw[hd]; exact UI)]
 refine If (OL (If (Xg i g (If (X1 i g ?_)))))
 refine If (RF (OL (ag _ rfl (aP ("dict_keyiterator") _ (ag _ (Pa _ rfl) rfl) Sq.lookup ?_))))
 simpa [QE] using hQ
theorem qu (hh:A.handled=OC) (hit:s.heap.IsKeyIter it d i es.size ep) (hm:RawD s.heap d es ep)
  (hQ:∀ (hi:i<es.size) h',h'.IsKeyIter it d (i+1) es.size ep->PR it s.heap h'->Q (rg es[i].key) {s with heap:=h' })
  (hE:es.size<=i->∀ h',Heap.ExtBut it s.heap h'->Q OC {s with heap:=h' }):OQ (OT prog w) A (pyNext (.ref it)) Q E s:=by
 refine aq (id hit) λo p r n=>?_
 refine aq (hm) λt j q l=>?_
 clear hm
 unfold pyNext
 refine If (T6 (wpAny_callSpecial?_slot (name:=mL "__next__") hit.typeIs Sq
  (TV Sq hit.typeIs F.entry_dict_keyiterator_next ?_ (F.args_dict_keyiterator_next_1 _))))
 refine If (OL (If (If ?_)))
 first | refine If (RT hit.typeIs (OL ?_)) | refine If (Tc hit.typeIs (OL ?_))
 refine If (wpAny_fieldsOf p n ?_)
 have h:X2 "dict_keyiterator" = false:=by decide
 rw[h,OB UI]
 show OQ _ _ (if (Py d==Sd)=Gt then _ else _) _ _ s
 rw[OB (show ¬ ((Py d==Sd)=Gt) from UI)]
 refine If (OL (If (Xg j l ?_)))
 rw[OB (by simp)]
 refine If (OL (If (X1 j l ?_)))
 rw[OB (by simp)]
 refine OL ?_
 by_cases hi:i<es.size
 ·dsimp only
  rw[OB (show ¬ ((i:OF)<0) from by exact zZ),TH,Rw hi]
  dsimp only
  refine If ?_
  first | refine If (RT hit.typeIs (OL ?_)) | refine If (Tc hit.typeIs (OL ?_))
  refine If (VP hit.typeIs ?_)
  show OQ _ _ (ZP (.ref it) 1 (QE ((i:OF)+1))>>=_) _ _ s
  refine If (TI p n (by simp) ?_)
  have g:(s.heap.update it (Td (·.setIfInBounds 1 (QE ((i:OF)+1))))).IsKeyIter it d (i+1) es.size ep :=
   (aD _ (PH _ p (TP (Sf n _))) ((UV ..).trans r) (by rw[Sf n]; simp[QE]))
  refine If (P7 (If (VP (s:={s with heap:=s.heap.update it (Td (·.setIfInBounds 1 (QE ((i:OF)+1)))) }) g.typeIs ?_)))
  show OQ _ _ (PU es[i].key) _ _ _
  exact OL (OL (ag _ rfl (OL (hQ hi _ g (PB ..)))))
 ·have k:es.size<=i:=by exact lT hi
  dsimp only
  rw[OB (show ¬ ((i:OF)<0) from by exact zZ),TH,Array.getElem?_eq_none k]
  dsimp only
  refine If ?_
  first | refine If (RT hit.typeIs (OL ?_)) | refine If (Tc hit.typeIs (OL ?_))
  show OQ _ _ (ZP (.ref it) 0 .none>>=_) _ _ s
  refine If (TI p n (by simp) ?_)
  show OQ _ _ (newExc (.type "StopIteration") []>>=_) _ _ _
  refine If ?_
  simp only[newExc,newTuple]
  refine If (RF ?_ (by size_fits))
  refine If (m:=Yt _ _) (ZQ (a:=Sd) (by first | rfl | (simp only[Yt]; rfl)) ?_)
  refine RF ?_ (by size_fits)
  simp only[raiseNew]
  refine If (wpAny_handled ?_)
  rw[show A.in1.handled=OC from hh]
  refine If (OL (wpAny_throw ?_))
  refine If (XC (T:="StopIteration") (b:=Gt) (ag _ (Pa _ rfl) rfl) isSubtype_stop ?_)
  exact OL (hE k _ (((PB ..).extBut.push _).push _))
end
theorem vU {A:Pq}(hh:A.handled=OC) (I d:O1) (hne:d≠I) (es:OP U8) (ep:ON) :
  Walks prog w A I [I,d] [I] es.size (λi v=>∃ hi:i<es.size,v=es[i].key) (λi h=>h.IsKeyIter I d i es.size ep/\RawD h d es ep) where
 sub:=λb j=>by simp at j; simp[j]
 frame:=λuu uu uu g hk=>⟨g.1.at λo e=>hk I (by simp) o e,g.2.at λo e=>hk d (by simp) o e⟩
 item:=λi s Q E hi g m=>qu hh g.1 g.2 (λn r l k=>m _ r s.toks ⟨n,rfl⟩ ⟨l,g.2.at λo e=>k.extBut d o hne e⟩ λb o j e=>k.extBut b o (λh=>j (by simp[h])) e) λp=>OW hi (Yg.mpr p)
 done:=λs Q E g m=>qu hh g.1 g.2 (λhi=>OW hi (TR _)) λuu r q=>m r s.toks λb o j e=>q b o (λh=>j (by simp[h])) e
 self:=λuu uu uu uu g m=>wpAny_pyIter_keyiter g.1 m
section
variable {A:Pq}{E:N8->OA->Prop}{s:OA}{d S:O1}{es:OP U8}{ep:ON}
theorem vV (hT:s.TypeIs (.ref d) "dict") (h:Q Oz s):OQ (OT prog w) A (Uv (.ref d)) Q E s:=by
 unfold Uv
 refine If (wpAny_specialOf hT Zp.lookup ?_)
 generalize g:("dict.__len__" : Ot)=id0
 wp_delta
 rw[show splitId id0=rg ("dict", "__len__") from by subst g; decide +kernel]
 subst g
 refine If (XC (T:="dict") (b:=Gt) hT (by rw[isSubtype_type]; kernel_rfl) ?_)
 refine VG (λq=>OW q (by decide)) λuu=>VG (λuu=>If (W9 hT (OL h))) λq=>OW (by decide +kernel) q
theorem tT {R:Xp->OA->Prop}(lo:(d==UC)=Oz) (hh:A.handled=OC) (hm:RawD s.heap d es ep) (hn:es.size<=Rc) (hSd:S≠d) {co:ON}(hS:s.heap.get? S=rg {cls:=.type "list", data:=.seq #[] co })
  (hR:∀ h' tk acc' c',(∀ b o,b≠S->s.heap.get? b=rg o->h'.get? b=rg o)->h'.get? S=rg {cls:=.type "list", dict:=OC,data:=.seq acc' c',slots:=#[] }->ItemsOf (λi v=>∃ hi:i<es.size,v=es[i].key) acc' es.size->R (.ok (.ret .none)) {s with heap:=h',toks:=tk }) :
  OQ (OT prog w) A.in1 (QK (.ref S) (.ref d) .none)
   (λfin s'=>match fin with | .done f=>R (.ok f) s' | .again c'=>c'.quiet=Gt/\Us (OT prog w) A c' R s') (λe s'=>R (.error e) s') s:=by
 have z:S≠s.heap.objs.size:=P8 (Rh hS)
 have y:d≠s.heap.objs.size:=af (hm) λuu e uu=>P8 (Rh e)
 have t:S∉[s.heap.objs.size,d]:=by simp only[O9,RU,Ug,not_or]; exact ⟨z,hSd⟩
 have W:=vU (A:=A.in1) hh s.heap.objs.size d y es ep
 have l:∀ (h:PE) (k tk:ON),(h.IsKeyIter s.heap.objs.size d 0 es.size ep/\RawD h d es ep)->(∀ b o,b≠S->s.heap.get? b=rg o->h.get? b=rg o) ->
   h.get? S=rg {cls:=.type "list", data:=.seq #[] k }->Us (OT prog w) A (.builtin "list.extend.loop" ⟨[.ref S,.ref s.heap.objs.size,.none],[]⟩) R {s with heap:=h,toks:=tk }:=λh k tk x hk g=>by
  refine codeAny_extend_loopS W.toS hn S t .none es.size 0 _ #[] k rfl (PZ _) x g (ItemsOf.nil _) λs' acc' c' p hS' r=>?_
  rw[Moved.eq_with p]
  refine hR s'.heap s'.toks acc' c' (λb o m e=>p.heap b o (λhmem=>?_) (hk b o m e)) hS' r
  rcases O9.mp hmem with e' | hmem
  ·exact m e'
  ·exact OW (Rh e) (by rw[OK.mp hmem]; exact TR _)
 unfold QK
 refine If (W9 (T:="dict") hm.typ ?_)
 have h1:U3 (.ref S) (.ref d)=false:=by simp[U3,hSd]
 simp only[h1,show (Tp "dict" == Tp "list")=Oz by decide,show (Tp "dict" == Tp "tuple")=Oz by decide,YG,Pn,P2]
 refine If (wp lo hm ?_)
 have g:=OO {cls:=.type "dict_keyiterator", data:=.fields #[.ref d,.int 0 0,.int es.size 0,.int ep 0] } hS
 have u:(s.heap.push {cls:=.type "dict_keyiterator", data:=.fields #[.ref d,.int 0 0,.int es.size 0,.int ep 0] }).IsKeyIter s.heap.objs.size d 0 es.size ep/\RawD (s.heap.push {cls:=.type "dict_keyiterator", data:=.fields #[.ref d,.int 0 0,.int es.size 0,.int ep 0] }) d es ep:=⟨(aD _ (Pa _ rfl) rfl rfl),hm.at λo e=>OO _ e⟩
 refine If (P7 (vV u.2.typ ?_))
 refine VG (λuu=>?_) (λuu=>OL ⟨YK UL _,l _ co _ u (λb o _ e=>OO _ e) g⟩)
 refine If (Yo (If ?_))
 show OQ _ _ (YX S (·.push .none)>>=λuu=>YX S (·.pop)) _ _ _
 refine If (VH g rfl ?_)
 have j:=PH (Pb (·.push Sd)) g rfl
 refine VH (hz:=by seq_fits) j rfl ?_
 have n:=PH (Pb (·.pop)) j rfl
 refine OL ⟨YK UL _,l _ _ _ ?_ (λb o m e=>?_) n⟩
 ·refine W.frame 0 _ _ u λb m o e=>?_
  have q:b≠S:=λh=>t (h▸m)
  exact (PI _ _ (P6 q)).trans ((PI _ _ (P6 q)).trans e)
 ·exact (PI _ _ (P6 m)).trans ((PI _ _ (P6 m)).trans (OO _ e))
theorem xu (lo:(d==UC)=Oz) (hh:A.handled=OC) (hm:RawD s.heap d es ep) (hn:es.size<=Rc)
  (hQ:∀ h' tk acc' c',(∀ b o,s.heap.get? b=rg o->h'.get? b=rg o)->h'.get? s.heap.objs.size=rg {cls:=.type "list", dict:=OC,data:=.seq acc' c',slots:=#[] }->ItemsOf (λi v=>∃ hi:i<es.size,v=es[i].key) acc' es.size->Q (.ref s.heap.objs.size) {s with heap:=h',toks:=tk }) :
  OQ (OT prog w) A (R3 (.type "list") [.ref d]) Q E s:=by
 refine callType_codes (Q₁:=λl g=>l = .ref s.heap.objs.size/\g = {s with heap:=s.heap.push {cls:=.type "list", data:=.seq #[] } }) ZZ (YY _) YZ
  (code_list_new _ ⟨rfl,rfl⟩) λl g h=>?_
 refine ae (h) λr q=>?_
 clear h
 subst r
 subst q
 have p:(s.heap.push {cls:=.type "list", data:=.seq #[] }).get? s.heap.objs.size=rg {cls:=.type "list", data:=.seq #[] }:=Pa _ rfl
 have m:s.heap.objs.size≠d:=af (hm) λuu e uu=>T7 (Rh e)
 refine ⟨(ag _ p rfl),YL _ _,?_⟩
 show OQ _ _ (do let old <- Qf (.ref s.heap.objs.size); PP (.ref s.heap.objs.size) (λuu=>#[]); letGo old.toList.reverse; QK (.ref s.heap.objs.size) (.ref d) .none) _ _ _
 refine If ?_
 unfold Qf
 refine If (wpAny_seqItems p rfl (OL ?_))
 show OQ _ _ (YX s.heap.objs.size (λuu=>#[])>>=λuu=>letGo (#[]:OP N8).toList.reverse>>=λuu=>QK (.ref s.heap.objs.size) (.ref d) .none) _ _ _
 refine If (VH p rfl ?_)
 have j:=PH (Pb (λuu=>(#[]:OP N8))) p rfl
 have k:∀ b o,b≠s.heap.objs.size->s.heap.get? b=rg o->((s.heap.push {cls:=.type "list", data:=.seq #[] }).update s.heap.objs.size (Pb (λuu=>(#[]:OP N8)))).get? b=rg o :=
  λb o u e=>(PI _ _ (P6 u)).trans (OO _ e)
 refine If (ZM ?_)
 refine tT (A:=A.in1) (S:=s.heap.objs.size) (s:={s with heap:=(s.heap.push {cls:=.type "list", data:=.seq #[] }).update s.heap.objs.size (Pb (λuu=>(#[]:OP N8))) }) lo hh (hm.at λo e=>k d o m.symm e) hn m j λh' tk acc' c' hk t n=>?_
 exact ⟨rfl,hQ h' tk acc' c' (λb o e=>hk b o (P8 (Rh e)) (k b o (P8 (Rh e)) e)) t n⟩
end
section
variable {A:Pq}{E:N8->OA->Prop}
theorem yj {rd:N8->vk OF}{vs:vk N8}{ks:vk (vk OF)}(hl:vs.length=ks.length) (hkey:∀ (i:ON) (v:N8) (k:vk OF),vs[i]? = rg v->ks[i]? = rg k->rd v=k):(vs.zip vs).map (λp=>(rd p.1,p.2))=ks.zip vs:=by
 apply TF
 intro i
 rw[PO]
 by_cases hi:i<ks.length
 ·have h:ks[i]? = rg ks[i]:=OY hi
  have g:vs[i]? = rg vs[i]:=OY (oE hl hi)
  rw[im g g,im h g]
  simp only[Ta]
  rw[hkey i _ _ g h]
 ·rw[Ql (by rw[TU]; exact Hn hl hi),Ql (by rw[TU]; exact Ar hi)]
  rfl
theorem pN {s0 s:OA}{D:O1}{vs:vk N8}{ks:vk (vk OF)}{e1:ON}{st:O0}{rd:N8->vk OF}{P:Xy->OA->Prop}(k0:Kp s0 s) (hD:s.heap.get? D=rg (Ph "list" #[] e1)) (f2:s0.heap.get? D=OC)
  (hl:vs.length=ks.length) (h64:vs.length<64) (hkey:∀ (i:ON) (v:N8) (k:vk OF),vs[i]? = rg v->ks[i]? = rg k->rd v=k)
  (hp:(OI st).Perm (vs.toArray.zip vs.toArray)) (hu:(OI st).toList.Pairwise λx y=>ltL (rd y.1) (rd x.1)=Oz) (hf:PJ st=OC)
  (h:∀ s' out c,Kp s0 s'->s'.heap.get? D=rg (Ph "list" out c)->(∃ ps:vk (vk OF×N8),ps.Perm (ks.zip vs)/\out.toList=ps.map (·.2)/\ps.Pairwise λx y=>ltL y.1 x.1=Oz)->P (.done (.ret .none)) s') :
  OQ (OT prog w) A (do
   let sorted:=(OI st).map (·.2)
   let touched:=(<- Yp D) != e1
   PP (.ref D) λuu=>sorted
   if let rg e:=PJ st then rule "list.sort.comparison-raised"; throw e
   if touched then rule "list.sort.modified"; raiseError "ValueError" "list modified during sort"
   ret .none) P E s:=by
 have n:=PB s.heap D (Pb λuu=>(OI st).map (·.2))
 obtain ⟨m,l⟩:∃ m,(s.heap.update D (Pb λuu=>(OI st).map (·.2))).get? D=rg (Ph "list" ((OI st).map (·.2)) m):=⟨_,RB hD λuu=>(OI st).map (·.2)⟩
 have g:(OI st).size=vs.length:=by rw[hp.size_eq,Xd]; simp
 have o:=Kp.wr k0 hD f2 n
 dsimp only
 refine If (Ue hD rfl ?_)
 refine If (RI hD rfl ?_ (PZ _) (by rw[Yq,g,P1]; exact JU h64))
 rw[hf]
 simp only[UT,Pn,P2]
 refine OL (h _ _ m o l (aD ((OI st).toList.map λp=>(rd p.1,p.2)) ?_ ?_ ?_))
 ·have j:(OI st).toList.Perm (vs.zip vs):=by
   have:=Q7.mp hp
   rwa [cB] at this
  exact (j.map _).trans (Th (yj hl hkey))
 ·rw[Vg,Vx]; rfl
 ·rw[Rj]; exact hu
structure Keys (κ:Ua) (Kd:PE->N8->vk OF->Prop) (ne:Prop):Prop where
 fn:∀ {h:PE}{v:N8}{k k':vk OF},Kd h v k->Kd h v k'->k=k'
 kind:∀ {A:Pq}{E:N8->OA->Prop}{s:OA}{ks:vk (vk OF)}{vs:vk N8}{Q:Ua->OA->Prop},vs.length=ks.length->1<=vs.length->(ne->[]∉ks)->(∀ (i:ON) (v:N8) (k:vk OF),vs[i]? = rg v->ks[i]? = rg k->Kd s.heap v k)->Q κ s->OQ (OT prog w) A (Yn vs.toArray) Q E s
 lt:∀ {A:Pq}{E:N8->OA->Prop}{s:OA}{x y:N8}{k k':vk OF}{Q:Pr->OA->Prop},A.units<UB->Kd s.heap x k->Kd s.heap y k'->Q (ltL k k') s->OQ (OT prog w) A (keyLt' κ x y) Q E s
section
variable {κ:Ua}{Kd:PE->N8->vk OF->Prop}{ne:Prop}
open Classical in
noncomputable def eg (Kd:PE->N8->vk OF->Prop) (h:PE) (v:N8):vk Int:=if q:∃ k,Kd h v k then q.choose else []
theorem Keys.read (K:Keys κ Kd ne) (x:Kd h v k):eg Kd h v=k:=by
 unfold eg
 have q:∃ k,Kd h v k:=⟨k,x⟩
 rw[dif_pos q]
 exact K.fn q.choose_spec x
theorem Keys.ltOk (K:Keys κ Kd ne) (hu:A.units<UB) (ks:vk (vk OF)):bq (OT prog w) A E s (λp=>rkL ks (eg Kd s.heap p.1)) (λp=>∃ k∈ks,Kd s.heap p.1 k) κ:=by
 intro x y q Q l j hk h
 revert l; intro i
 refine af (i) λk o l=>?_
 clear i
 revert j; intro g
 refine af (g) λn m j=>?_
 clear g
 have e:(rg (decide ((λp:OM=>rkL ks (eg Kd s.heap p.1)) x<(λp:OM=>rkL ks (eg Kd s.heap p.1)) y)))=rg (ltL k n):=by
  rw[l8 o m,<- K.read l,<- K.read j]
 rw[e] at h
 rw[lt'_eq]
 refine OR (SR ?_)
 rw[hk]
 refine OR (ZK (T6 (K.lt hu l j ⟨rfl,?_⟩)))
 exact OX h
set_option maxHeartbeats 4000000 in
theorem mM (K:Keys κ Kd ne) {s0 s:OA}{D:O1}{vs:vk N8}{ks:vk (vk OF)}{n:ON}{P:Xy->OA->Prop}(hun:A.units<UB) (ho:s.heap.get? D=rg (Ph "list" vs.toArray n)) (f2:s0.heap.get? D=OC) (k0:Kp s0 s)
  (hl:vs.length=ks.length) (h64:vs.length<64) (hne:ks.length<2\/(ne->[]∉ks)) (hkey:∀ H,KG (λb=>b≠D) s.heap H->∀ (i:ON) (v:N8) (k:vk OF),vs[i]? = rg v->ks[i]? = rg k->Kd H v k)
  (h:∀ s' out c,Kp s0 s'->s'.heap.get? D=rg (Ph "list" out c)->(∃ ps:vk (vk OF×N8),ps.Perm (ks.zip vs)/\out.toList=ps.map (·.2)/\ps.Pairwise λx y=>ltL y.1 x.1=Oz)->P (.done (.ret .none)) s') :
  OQ (OT prog w) A (Ut.«list.sort» ⟨[.ref D],[]⟩) P E s:=by
 rw[X3]
 have s1:=PB s.heap D (Pb λuu=>(#[]:OP N8))
 obtain ⟨e1,ho1⟩:∃ e1,(s.heap.update D (Pb λuu=>(#[]:OP N8))).get? D=rg (Ph "list" #[] e1):=⟨_,RB ho λuu=>#[]⟩
 have k1:=Kp.wr k0 ho f2 s1
 refine If (SS ho rfl ?_)
 refine If (RI ho rfl ?_ (by rw[Pf,P1]; exact Ac h64) (PZ _))
 refine If (Ue ho1 rfl ?_)
 refine If (V3 ?_ (by show vs.length<=_; rw[P1]; exact Ac h64))
 refine If (Su ?_ (PZ _))
 refine P7 ?_
 have k3:Kp s0 {s with heap:=((s.heap.update D (Pb λuu=>(#[]:OP N8))).push (Ph "tuple" vs.toArray 0)).push (Ph "list" #[] 0) }:=(k1.trans (.push _ _ s.toks)).trans (.push _ _ s.toks)
 have r:(((s.heap.update D (Pb λuu=>(#[]:OP N8))).push (Ph "tuple" vs.toArray 0)).push (Ph "list" #[] 0)).get? D=rg (Ph "list" #[] e1):=OO _ (OO _ ho1)
 have kg:KG (λb=>b≠D) s.heap (((s.heap.update D (Pb λuu=>(#[]:OP N8))).push (Ph "tuple" vs.toArray 0)).push (Ph "list" #[] 0)) :=
  (KG.same s1 (λq=>q rfl) λo q=>by rw[ho] at q; (have oc:=vj q; clear q; subst oc); exact Stay.not_list).trans (.of λb o _ e=>OO _ (OO _ e))
 generalize ((s.heap.update D (Pb λuu=>(#[]:OP N8))).push (Ph "tuple" vs.toArray 0)).push (Ph "list" #[] 0)=H at k3 r kg
 have g:=hkey H kg
 have hrd:∀ (i:ON) (v:N8) (k:vk OF),vs[i]? = rg v->ks[i]? = rg k->eg Kd H v=k:=λi v k a b=>K.read (g i v k a b)
 show OQ (OT prog w) A _ P E {s with heap:=H }
 by_cases h2:vs.toArray.size<2
 ·rw[OD h2,OD h2]
  refine If (OL ?_)
  dsimp only
  rw[XY]
  refine If (OL ?_)
  dsimp only
  refine pN (s:={s with heap:=H }) (st:=TS ZL (vs.toArray.zip vs.toArray) #[] 7 OC) k3 r f2 hl h64 hrd (XZ _) ?_ rfl h
  have hz:(vs.toArray.zip vs.toArray).toList.length<=1:=by
   rw[cB,TU]; rw[Pf] at h2; simp; exact EM h2
  show ((vs.toArray.zip vs.toArray).toList).Pairwise _
  exact qc hz
 ·rw[OB h2,OB h2]
  rw[Pf] at h2
  refine If (K.kind (s:={s with heap:=H }) (ks:=ks) hl (FG h2) (hne.resolve_left (Ej hl h2)) g ?_)
  have z:(vs.toArray.zip vs.toArray).size=vs.length:=by rw[Xd]; simp
  have u:∀ p∈vs.zip vs,∃ k∈ks,Kd H p.1 k:=λp t=>by
   refine aj (SC t) λi hi=>?_
   refine ae (Rx.mp hi) λq1 q2=>?_
   have hil:i<ks.length:=by rw[<- hl]; exact (PF.mp q1).1
   exact (ag (ks[i]) (SO hil) (g i _ _ q1 (OY hil)))
  refine If (Qk (tX (K.ltOk (E:=E) (s:={s with heap:=H }) hun ks) (st:=TS κ (vs.toArray.zip vs.toArray) #[] 7 OC)
   (Q:=λuu j=>(OI j).Perm (vs.toArray.zip vs.toArray)/\PJ j=OC/\Up (λp=>rkL ks (eg Kd H p.1)) (OI j).toList) ⟨λp t=>?_,rfl⟩ (by show 2<=(vs.toArray.zip vs.toArray).size; rw[z]; exact zI h2) (by show (vs.toArray.zip vs.toArray).size<64; rw[z]; exact h64) rfl rfl λj a1 a2 a3=>⟨a1,a3,a2⟩) ?_ λuu uu e=>e)
  ·have l:p∈(vs.toArray.zip vs.toArray).toList:=mem_def.mp t
   rw[cB] at l
   exact u p l
  ·rintro ⟨⟨⟩,j⟩ s'' ⟨rfl,t,hf,hu⟩
   dsimp only
   refine pN (s:={s with heap:=H }) k3 r f2 hl h64 hrd t ?_ hf h
   have hm:∀ p∈(OI j).toList,∃ k∈ks,Kd H p.1 k:=λp l=>by
    have:=(Q7.mp t).mem_iff.mp l
    rw[cB] at this
    exact u p this
   refine RJ (λ{a b} ha hb hab=>?_) hu
   refine af (hm a ha) λk hk x=>?_
   refine af (hm b hb) λk' hk' y=>?_
   have m:rkL ks (eg Kd H a.1)<=rkL ks (eg Kd H b.1):=hab
   rw[K.read x,K.read y] at m ⊢
   rw[l8 hk' hk]
   exact P0 (z4 m)
end
theorem wA:Keys (W8 Gt) KeyOf VU where
 fn:=KeyOf.fn
 kind hl h1 hne hk h:=nw hl h1 (λi v k a b=>⟨hk i v k a b,λq=>hne trivial (q▸QC b)⟩) h
 lt _ hx hy h:=nc Gt hx hy h
theorem RA.ofSub {h:PE}{G:O1->Prop}:∀ {vs:vk N8}{ds:vk OU},vs.length=ds.length->(∀ (i:ON) (v:N8) (d:OU),vs[i]? = rg v->ds[i]? = rg d->∃ bs,R h v d bs/\∀ b∈bs,G b)->∃ cs,RA h vs ds cs/\∀ b∈cs,G b
 | [],[],_,_=>(ag ([]) .nil (λuu q=>nomatch q))
 | v::vs,d::ds,hl,hr=>by
  refine af (hr 0 v d rfl rfl) λbs r k=>?_
  refine af (RA.ofSub (vs:=vs) (ds:=ds) (by simpa using hl) λi u e m l=>hr (i+1) u e m l) λcs g j=>?_
  exact (ag _ (.cons r g) (λb q=>(O7.mp q).elim (k b) (j b)))
 | [],_::_,hl,_=>by cases hl
 | _::_,[],hl,_=>by cases hl
theorem RA.eachSub (r:RA h vs ds as):∀ (i:ON) (v:N8) (d:OU),vs[i]? = rg v->ds[i]? = rg d->∃ bs,R h v d bs/\∀ b∈bs,b∈as :=
 RA.ind (N:=λvs ds as=>∀ (i:ON) (v:N8) (d:OU),vs[i]? = rg v->ds[i]? = rg d->∃ bs,R h v d bs/\∀ b∈bs,b∈as) (λi v d g uu=>by simp at g) (λ{v vs d ds as bs} r o l i u e g j=>by
  cases i with
  | zero=>exact (ag as (vj g▸vj j▸r) (λb q=>PC _ q))
  | succ i=>
   refine af (l i u e g j) λn k m=>?_
   exact (ag n k (λb q=>PA _ (m b q)))) r
theorem RA.ofEach:∀ {vs:vk N8}{ds:vk OU},vs.length=ds.length->(∀ (i:ON) (v:N8) (d:OU),vs[i]? = rg v->ds[i]? = rg d->R h v d [])->RA h vs ds []
 | [],[],_,_=>.nil
 | v::vs,d::ds,hl,hr=>RA.cons (as:=[]) (bs:=[]) (hr 0 v d rfl rfl) (RA.ofEach (by simpa using hl) λi u e j g=>hr (i+1) u e j g)
 | [],_::_,hl,_=>by cases hl
 | _::_,[],hl,_=>by cases hl
theorem xc (h:eu x=rg k):x=aO k:=by
 cases x with
 | tuple g=>
  have l:∀ {g:vk OU}{k:vk OF},aK g=rg k->g=k.map .int:=λ{g}=>by
   induction g with
   | nil=>intro k h; (have m:=vj h; clear h; subst m); rfl
   | cons y g ih=>
    intro k h
    cases y with
    | int i=>
     simp only[aK,Sj] at h
     refine af (h) λo n j=>?_
     clear h
     subst j
     rw[ih n]; rfl
    | _=>exact nN h
  show PyData.tuple g = .tuple (k.map .int)
  rw[l h]
 | _=>exact nN h
theorem lD:∀ {xs:vk OU}{ks:vk (vk OF)},ez xs=rg ks->xs=ks.map aO
 | [],ks,h=>by (have i:=vj h; clear h; subst i); rfl
 | x::xs,ks,h=>by
  simp only[ez] at h
  refine be h λk hk h=>?_
  refine bk h λj l g=>?_
  (clear h; subst g)
  rw[Qo,<- lD l,xc hk]
theorem Cw (h:k.length<=2^22):sz (aO k)=true:=sz_tuple.mpr ⟨by rw[OV]; exact h,gD k⟩
theorem vL (hh:A.handled=OC) (ra:RV s.heap va (.dicT ks) as) (hk:ks.length<=lim) (hQ:∀ v s',EP P s (.d (.list (ks.map aO)),fresh (ks.map aO)) v s'->Q v s'):OQ (OT prog w) A (R3 (bval (b1n .list)) [va]) Q Er s:=by
 refine tY (ra) λa xs MZ _ lo l z hks htu=>?_
 clear ra
 subst MZ
 refine cH (l) λo es ep e t hd he _ _=>?_
 clear l
 subst z
 have u:RawD s.heap a es ep:=(aD o e t.1 hd)
 have p:es.size=xs.length:=size_of_entries he
 rw[OV] at hk
 unfold lim at hk
 refine xu lo hh u (by rw[p,P1]; exact Ex hk) λh' tk r c' q hS g=>hQ _ _ ?_
 refine EP.aList (vs:=r.toList) (n:=c') (as:=[]) (ay h' tk rfl (.of q)) (Qa (Pe _)) (by simpa using hS) (RA.ofEach ?_ λi v d hi j=>?_) (by rw[OV,OV]; exact AH hk) (λx t=>?_) λuu h=>nomatch h
 ·rw[O2,OV,OV,g.1,p]
 ·obtain ⟨hi',rfl⟩:=g.2 i v (by rw[<- Array.getElem?_toList]; exact hi)
  have ee:=entry_at he i
  rw[Rw hi'] at ee
  refine bk ee.symm λx m hxe=>?_
  have ek:es[i].key = .ref x.2.1:=by rw[<- hxe]; rfl
  rw[PO,PO,m] at j
  (have oc:=vj j; clear j; subst oc)
  rw[ek]
  exact (htu x (QC m)).keep q
 ·refine aI t λk hk' y=>?_
  (clear t; subst y)
  exact Cw (hks k hk')
theorem tu (K:Keys κ Kd ne) (hkd:∀ {h:PE}{v:N8}{k:vk OF}{bs:vk O1},R h v (g k) bs->Kd h v k) (hu:A.units+200<UB) (ra:R s.heap va (.list (ks.map g)) as) (ha:∀ b∈as,P b) (hz:sz (.list (ks.map g))=Gt) (h64:ks.length<64) (hne:ks.length<2\/(ne->[]∉ks)) (hQ:∀ v s',EP P s (.d (.list ((bL ks).map g)),fresh ((bL ks).map g)) v s'->Q v s') :
  OQ (OT prog w) A (R3 (.builtin "sorted") [va]) Q Er s:=by
 refine ra.isList_k λa vs n cs M0 ea z MS=>?_
 (clear ra; subst M0)
 subst MS
 have hl:vs.length=ks.length:=by have:=z.length; rw[OV] at this; exact FD this
 have y:∀ (i:ON) (v:N8) (k:vk OF),vs[i]? = rg v->ks[i]? = rg k->∃ bs,R s.heap v (g k) bs/\∀ b∈bs,b∈cs:=λi v k p t=>z.eachSub i v (g k) p (by rw[PO,t]; rfl)
 have old:∀ b∈cs,∃ o,s.heap.get? b=rg o:=λb u=>ba (z.there b u) λuu uu e=>⟨_,e⟩
 refine Calls.call_function_entry XH Xe Xf (Zh _) ?_
 unfold Ut.«sorted»
 refine If (m:=Yr "sorted" 1 1 _) (OL ?_)
 refine If (Zi (isL ea) ?_ (by rw[P1]; exact zM h64 hl))
 refine If (Su ?_ (by rw[P1]; exact zM h64 hl))
 have hsz:((s.heap.push (Ph "list" #[] 0)).update s.heap.objs.size (Pb (· ++ vs.toArray))).objs.size=s.heap.objs.size+1:=by
  rw[XD,size_push']
 have hoL:(((s.heap.push (Ph "list" #[] 0)).update s.heap.objs.size (Pb (· ++ vs.toArray))).push (Ph "list" vs.toArray 0)).get? (s.heap.objs.size+1)=rg (Ph "list" vs.toArray 0):=by
  rw[<- hsz]; exact Pa _ rfl
 have keep:∀ b o,s.heap.get? b=rg o->(((s.heap.push (Ph "list" #[] 0)).update s.heap.objs.size (Pb (· ++ vs.toArray))).push (Ph "list" vs.toArray 0)).get? b=rg o:=λb o q=>by
  have hlt:b<s.heap.objs.size:=Rh q
  rw[TJ _ _ _ (by rw[hsz]; exact P8 (S4 hlt)),Wh _ _ _ _ (P8 hlt),TJ _ _ _ (P8 hlt)]
  exact q
 have l:s.heap.get? (s.heap.objs.size+1)=none:=Qa (Vm _)
 show OQ _ _ _ _ _ {s with heap:=((s.heap.push (Ph "list" #[] 0)).update s.heap.objs.size (Pb (· ++ vs.toArray))).push (Ph "list" vs.toArray 0) }
 rw[hsz]
 refine If (P7 (TV V4 (ag _ hoL rfl) VF ?body (Yu _)))
 case body=>
  refine mM K (s0:=s) (s:={s with heap:=((s.heap.push (Ph "list" #[] 0)).update s.heap.objs.size (Pb (· ++ vs.toArray))).push (Ph "list" vs.toArray 0) }) (by show A.units+1+1<UB; exact Gg hu) hoL l (.of keep) hl (zp h64 hl) hne (λH kg i v k p t=>?_) λs' out c kp hD hps=>(ag _ rfl (OL (ag _ rfl ?_)))
  ·refine af (y i v k p t) λbs r u=>?_
   refine hkd ((r.keep keep).onG kg λb q e=>?_)
   refine aj (old b (u b q)) λo eo=>?_
   rw[e,l] at eo; exact nN eo
  refine aq (hps) λps p1 p2 p3=>?_
  clear hps
  have q1:(ps.map (·.1)).Perm ks:=by
   have:=p1.map (·.1)
   rwa [List.map_fst_zip (ze hl)] at this
  have q2:ps.map (·.1)=bL ks:=gi (r:=λa b=>ltL b a=Oz) (λa b p t=>eW t p) (q1.trans (QA ks _).symm) (Rj.mpr p3) (xj ks)
  have hlen:ps.length=ks.length:=by rw[<- q1.length_eq,OV]
  obtain ⟨cs',rs,hcs⟩:=RA.ofSub (h:=s'.heap) (G:=λb=>b∈cs) (vs:=out.toList) (ds:=(bL ks).map g) (by rw[p2,OV,OV,<- q2,OV]) λi v d p t=>by
   rw[<- q2,Vx,PO] at t
   rw[p2,PO] at p
   cases hp:ps[i]? with
   | none=>rw[hp] at p; exact nN p
   | some q=>
    rw[hp] at p t
    (have oc:=vj p; clear p; subst oc); (have oc:=vj t; clear t; subst oc)
    refine aj (SC (p1.mem_iff.mp (QC hp))) λj hj=>?_
    refine ae (Rx.mp hj) λj1 j2=>?_
    refine af (y j _ _ j2 j1) λbs r u=>?_
    exact (ag bs (r.k kp.k) u)
  refine hQ _ _ (EP.aList (vs:=out.toList) (n:=c) (as:=cs') kp l (by simpa [Ph] using hD) rs ?_ (λx hx=>?_) λb u=>⟨ha b (.tail _ (hcs b u)),λe=>?_⟩)
  ·rw[OV,<- q2,OV,hlen]; exact Al h64
  ·refine aI hx λk hk' MP=>?_
   (clear hx; subst MP)
   refine (sz_list.mp hz).2 _ (Tx.mpr (ag k ?_ rfl))
   exact (QA ks _).mem_iff.mp hk'
  ·refine aj (old b (hcs b u)) λo eo=>?_
   rw[e,l] at eo; exact nN eo
theorem su (hu:A.units+200<UB) (ra:R s.heap va (.list xs) as) (ha:∀ b∈as,P b) (hz:sz (.list xs)=Gt) (hk:ez xs=rg ks) (h64:xs.length<64) (hne:ks.length<2\/[]∉ks) (hQ:∀ v s',EP P s (.d (.list ((bL ks).map aO)),fresh ((bL ks).map aO)) v s'->Q v s') :
  OQ (OT prog w) A (R3 (.builtin "sorted") [va]) Q Er s:=by
 cases lD hk
 rw[OV] at h64
 exact tu wA (λr=>KeyOf.ofR r) hu ra ha hz h64 (hne.imp id λh _=>h) hQ
end
section
variable {A:Pq}{E:N8->OA->Prop}
theorem rY (h:Q8 vs ns):(∀ i∈ns,0<=i)->∀ p∈vs.zip vs,∃ i t,p.1 = .int i t/\0<=i:=by
 induction h with
 | nil=>exact λuu p hp=>nomatch hp
 | cons n t r ih=>
  intro g p hp
  rcases O9.mp (show p∈(Jad n t,Jad n t)::_ from hp) with rfl | hp
  ·exact (ay n t rfl (g n (.head _)))
  ·exact ih (λi j=>g i (.tail _ j)) p hp
theorem lw:∀ (vs:vk N8),(∀ v∈vs,∃ i t,v = .int i t)->Q8 vs (vs.map jz)
 | [],_=>.nil
 | v::vs,h=>by
  obtain ⟨i,t,rfl⟩:=h v (.head _)
  exact .cons i t (lw vs λu g=>h u (.tail _ g))
theorem wS {vs:vk N8}{p:N8×N8}(h:p∈vs.zip vs):p.1=p.2/\p.2∈vs:=by
 induction vs with
 | nil=>exact nomatch h
 | cons v vs ih=>
  rcases O9.mp (show p∈(v,v)::_ from h) with rfl | h
  ·exact ⟨rfl,.head _⟩
  ·exact ⟨(ih h).1,.tail _ (ih h).2⟩
theorem qU {ps:vk (N8×N8)}(hI:Q8 vs ns) (h0:∀ i∈ns,0<=i) (hp:ps.Perm (vs.zip vs)) (hu:ps.Pairwise λx y=>mE x.1<=mE y.1):Q8 (ps.map (·.2)) (ns.mergeSort λa b=>decide (a<=b)):=by
 have n:∀ p∈ps,∃ i t,p.1 = .int i t/\0<=i/\p.2 = .int i t:=λp l=>by
  have g:=hp.mem_iff.mp l
  refine av (rY hI h0 p g) λi t e hi=>?_
  exact ⟨i,t,e,hi,by rw[<- (wS g).1]; exact e⟩
 have hA:=lw (ps.map (·.2)) λv hv=>aI hv λp l e=>by
  obtain ⟨i,t,_,_,o⟩:=n p l
  exact ⟨i,t,e▸o⟩
 have z:((vs.zip vs).map (·.2))=vs:=List.map_snd_zip (Pe _)
 have pr:((ps.map (·.2)).map jz).Perm ns:=by
  have:=(hp.map (·.2)).map jz
  rw[z,<- IntsAre.read hI] at this
  exact this
 have r:((ps.map (·.2)).map jz).Pairwise (·<=·):=by
  rw[Vx,Rj]
  refine RJ (λ{p q} m k h=>?_) hu
  obtain ⟨i,t,e1,i0,o⟩:=n p m
  obtain ⟨j,u,e3,j0,e4⟩:=n q k
  rw[e1,e3] at h
  show jz p.2<=jz q.2
  rw[o,e4]
  replace h:i.toNat<=j.toNat:=h
  show i<=j
  exact Kg j0 h
 have eq:(ps.map (·.2)).map jz=ns.mergeSort λa b=>decide (a<=b):=by
  exact (pr.trans (QA ns _).symm).eq_of_pairwise (λa b _ _ g h2=>Sg g h2) r (ig ns)
 rw[<- eq]; exact hA
set_option maxHeartbeats 4000000 in
theorem mv (ho:s.heap.get? D=rg (Ph "list" vs.toArray n)) (f2:s0.heap.get? D=OC) (k0:Kp s0 s)
  (hI:Q8 vs ns) (h2:2<=vs.length) (h128:vs.length<128) (h0:∀ i∈ns,0<=i)
  (h:∀ s' c vs',Kp s0 s'->Q8 vs' (ns.mergeSort λa b=>decide (a<=b))->s'.heap.get? D=rg (Ph "list" vs'.toArray c)->P (.done (.ret .none)) s') :
  OQ (OT prog w) A (Ut.«list.sort» ⟨[.ref D],[]⟩) P E s:=by
 rw[X3]
 have s1:=PB s.heap D (Pb λuu=>(#[]:OP N8))
 obtain ⟨e1,q⟩:∃ e1,(s.heap.update D (Pb λuu=>(#[]:OP N8))).get? D=rg (Ph "list" #[] e1):=⟨_,RB ho λuu=>#[]⟩
 have k1:=Kp.wr k0 ho f2 s1
 refine If (SS ho rfl ?_)
 refine If (RI ho rfl ?_ (by rw[Pf,P1]; exact oG h128) (PZ _))
 refine If (Ue q rfl ?_)
 refine If (V3 ?_ (by show vs.length<=_; rw[P1]; exact oG h128))
 refine If (Su ?_ (PZ _))
 refine P7 ?_
 have k3:Kp s0 {s with heap:=((s.heap.update D (Pb λuu=>(#[]:OP N8))).push (Ph "tuple" vs.toArray 0)).push (Ph "list" #[] 0) }:=(k1.trans (.push _ _ s.toks)).trans (.push _ _ s.toks)
 have j:(((s.heap.update D (Pb λuu=>(#[]:OP N8))).push (Ph "tuple" vs.toArray 0)).push (Ph "list" #[] 0)).get? D=rg (Ph "list" #[] e1):=OO _ (OO _ q)
 generalize ((s.heap.update D (Pb λuu=>(#[]:OP N8))).push (Ph "tuple" vs.toArray 0)).push (Ph "list" #[] 0)=H at k3 j
 show OQ (OT prog w) A _ P E {s with heap:=H }
 have r:¬ vs.toArray.size<2:=by rw[Pf]; exact Hh h2
 rw[OB r,OB r]
 have y:Yn vs.toArray=PU oneType':=by
  rcases vs with _ | ⟨a,_ | ⟨b,vs⟩⟩
  ·simp at h2
  ·simp at h2
  ·exact keyKind_ints hI
 rw[y]
 refine If (OL ?_)
 have l:(vs.toArray.zip vs.toArray).size=vs.length:=by rw[Xd]; simp
 refine If (Qk (jo (uR (A:=A) (E:=E) (s:={s with heap:=H })) (st:=TS W3 (vs.toArray.zip vs.toArray) #[] 7 OC)
   (Q:=λuu g=>(OI g).Perm (vs.toArray.zip vs.toArray)/\Up (λp=>mE p.1) (OI g).toList/\PJ g=OC) ⟨λp hp=>?_,rfl⟩ (by show 2<=(vs.toArray.zip vs.toArray).size; rw[l]; exact JN h2) (by show (vs.toArray.zip vs.toArray).size<128; rw[l]; exact h128) rfl rfl λg a1 a2 a3=>⟨a1,a2,a3⟩) ?_ λuu uu e=>e)
 ·have o:p∈(vs.toArray.zip vs.toArray).toList:=mem_def.mp hp
  rw[cB] at o
  exact rY hI h0 p o
 ·rintro ⟨⟨⟩,g⟩ s'' ⟨rfl,ha,hu,hf⟩
  dsimp only
  have m:(OI g).toList.Perm (vs.zip vs):=by
   have:=Q7.mp ha
   rwa [cB] at this
  have u:=qU hI h0 m hu
  have t:((OI g).toList.map (·.2)).length=vs.length:=by rw[OV,m.length_eq,TU,WN]
  obtain ⟨k,eus,v⟩:∃ k:vk N8,(OI g).map (·.2)=k.toArray/\k=(OI g).toList.map (·.2):=⟨_,by apply WB.mp; rw[Vg],rfl⟩
  rw[<- v] at u t
  have s2:=PB H D (Pb λuu=>k.toArray)
  obtain ⟨c2,z⟩:∃ c2,(H.update D (Pb λuu=>k.toArray)).get? D=rg (Ph "list" k.toArray c2):=⟨_,RB j λuu=>k.toArray⟩
  have k4:=Kp.wr (s:={s with heap:=H }) k3 j f2 s2
  refine If (Ue (s:={s with heap:=H }) j rfl ?_)
  rw[show (OI g).map (λx=>x.2)=k.toArray from eus]
  refine If (RI (s:={s with heap:=H }) j rfl ?_ (PZ _) (by rw[Pf,t,P1]; exact zS h128))
  rw[show PJ g=OC from hf]
  simp only[UT,Pn,P2]
  exact OL (h _ c2 k k4 u z)
theorem sV (ra:R s.heap va (.list xs) as) (hi:aK xs=rg ns) (h64:¬ xs.length<64) (h128:xs.length<128) (h0:∀ i∈ns,0<=i) (hQ:∀ v s',EP P s (.d (aa (ns.mergeSort λa b=>decide (a<=b))),.deep) v s'->Q v s') :
  OQ (OT prog w) A (R3 (.builtin "sorted") [va]) Q Er s:=by
 refine ra.isList_k λa vs n cs y ea k x=>?_
 (clear ra; subst y)
 subst x
 have r:=k.length
 refine aH (k.ints hi) λhI u t=>?_
 subst u
 subst t
 rw[OV] at r h64 h128
 refine Calls.call_function_entry XH Xe Xf (Zh _) ?_
 unfold Ut.«sorted»
 refine If (m:=Yr "sorted" 1 1 _) (OL ?_)
 refine If (Zi (isL ea) ?_ (by rw[P1]; exact sT h128 r))
 refine If (Su ?_ (by rw[P1]; exact sT h128 r))
 have g:((s.heap.push (Ph "list" #[] 0)).update s.heap.objs.size (Pb (· ++ vs.toArray))).objs.size=s.heap.objs.size+1:=by
  rw[XD,size_push']
 have p:(((s.heap.push (Ph "list" #[] 0)).update s.heap.objs.size (Pb (· ++ vs.toArray))).push (Ph "list" vs.toArray 0)).get? (s.heap.objs.size+1)=rg (Ph "list" vs.toArray 0):=by
  rw[<- g]; exact Pa _ rfl
 have l:∀ b o,s.heap.get? b=rg o->(((s.heap.push (Ph "list" #[] 0)).update s.heap.objs.size (Pb (· ++ vs.toArray))).push (Ph "list" vs.toArray 0)).get? b=rg o:=λb o q=>by
  have j:b<s.heap.objs.size:=Rh q
  rw[TJ _ _ _ (by rw[g]; exact P8 (S4 j)),Wh _ _ _ _ (P8 j),TJ _ _ _ (P8 j)]
  exact q
 show OQ _ _ _ _ _ {s with heap:=((s.heap.push (Ph "list" #[] 0)).update s.heap.objs.size (Pb (· ++ vs.toArray))).push (Ph "list" vs.toArray 0) }
 rw[g]
 refine If (P7 (TV V4 (ag _ p rfl) VF ?body (Yu _)))
 case body=>
  refine mv (s0:=s) (s:={s with heap:=((s.heap.push (Ph "list" #[] 0)).update s.heap.objs.size (Pb (· ++ vs.toArray))).push (Ph "list" vs.toArray 0) }) p (Qa (Vm _)) (.of l) hI (Gf h64 r) (Az h128 r) h0 λs' c us kp z hD=>(ag _ rfl (OL (ag _ rfl (hQ _ _ ?_))))
  have ep:EP P s (.d (.list ((ns.mergeSort λa b=>decide (a<=b)).map .int)),fresh ((ns.mergeSort λa b=>decide (a<=b)).map .int)) (.ref (s.heap.objs.size+1)) s' :=
   EP.aList (vs:=us) (n:=c) (as:=[]) kp (Qa (Vm _)) (by simpa [Ph] using hD) (RA.of_ints z) (by rw[OV,(QA ns _).length_eq]; exact z3 h128) (gD _) λuu h=>(nomatch h)
  have ef:fresh ((ns.mergeSort λa b=>decide (a<=b)).map .int) = .deep:=by
   unfold fresh
   rw[OD]
   rw[WY,P9]
   intro _ _; rfl
  rw[ef] at ep
  exact ep
end
section
variable (fns:Fns) (k:ON) (C:Calls) (XP:Ot->OA->N8->OA->Prop)
noncomputable def cJ:Prop:=∀ f g,C f=rg g->1<=k/\(f = "law" -> fns.lam=Gt)/\(f∈aE->f∈SF.excN)/\(f∉aE->∃ a,adr fns f=rg a/\∀ {A:Pq}{P:O1->Prop}{s:OA}{Q:N8->OA->Prop}{Er:N8->OA->Prop}{xs:vk V}{vals:vk N8}{as:vk O1},
 Room fns.hand k A->(∃ l,A.frames=rg l/\FrOk s.heap l)->GE fns s.heap->RVs s.heap xs vals as->(∀ a∈as,P a)->g xs≠.bad->(∀ r,g xs = .ok r->∀ v s',EP P s r v s'->Q v s')->(∀ c,g xs = .exc c->∀ x s',XP c s x s'->Er x s') ->
 OQ (OT prog w) A (R3 (.ref a) vals []) Q Er s)
end
section
theorem nq (hs:lU a=Gt) (ok:okE ns a v=Gt):attributeBase v n env (SW v env)=SW v env:=by
 cases a with
 | name x=>
  refine Pc (v7 ok) (λi=>?_) (λq=>?_)
  ·refine av (i) λt r k p=>?_
   clear i
   (clear ok; subst k)
   rfl
  ·cases q
 | call f es=>
  refine Pc (vS ok) (λg=>?_) (λq=>?_)
  ·refine cR (g) λo m u l j h=>?_
   clear g
   (clear ok; subst j)
   simp only[OJ,PL] at h
   cases u with
   | nil=>have:=h.1.1.2; exact nT this
   | cons x u=>rfl
  ·cases q
 | _=>exact nF hs
theorem nX (r:RV h v (.rule c d n) as):∃ x D vf bs t u mA,v = .ref x/\as=x::D::bs/\h.Inst x SF.rule mA/\mA "count" = rg (.int c t)/\mA "full" = rg vf/\mA "size" = rg (.int n u)/\(∀ m∈methNames,mA (mL m)=OC)/\R h vf d bs/\sz d=true:=by
 refine jH (r) λx D o vf bs t u mA h1 h2 h3 h4 h5 z y q p l k j i g=>?_
 clear r
 exact ⟨x,D,vf,bs,t,u,mA,h1,h2,(bp o h3 h4 h5 (.inr (aD D z y q))),p,l,k,j,i,g⟩
theorem lG:R8 (.type "object") "count" = PU none:=by rw[Tf,Rv]; kernel_rfl
theorem nV:R8 (.type "object") "full" = PU none:=by rw[Tf,Rv]; kernel_rfl
theorem n7:R8 (.type "object") "size" = PU none:=by rw[Tf,Rv]; kernel_rfl
theorem uz (hm:m∈methNames):R8 (.type "object") (mL m)=PU none:=by
 simp only[methNames,O9,RU,Ug] at hm
 rcases hm with rfl | rfl | rfl | rfl | rfl<;>(rw[Tf,Rv]; kernel_rfl)
theorem vx (ge:GE fns s.heap) (hi:fns.init.isSome=Gt) (he:jY x n = .ok r) (ra:RV s.heap va x as) (ha:∀ a∈as,P a)
  (hQ:∀ v s',EP P s r v s'->Q v s'):OQ (OT prog w) A (getAttr va (mL n) expr) Q Er s:=by
 replace he:=aS he
 revert he; intro j
 refine af (j) λz hq he=>?_
 clear j
 obtain ⟨c,d,sz'⟩:=z
 cases l5 hq
 dsimp only at he ra
 refine we (nX ra) λy D vf bs t u mA p o I f1 f2 f3 f4 rd zd=>?_
 subst p
 subst o
 refine aw (ge.cls (.inr hi)) λN mN m i _=>?_
 obtain ⟨k,hn⟩:=m
 refine eB (k) λnm q bs' sn sub col dd k0 k1 k2 k3 k5 hC=>?_
 clear k
 obtain ⟨hh,g,dr,tk,os⟩:=s
 have ga:=i "__getattribute__" (by simp)
 by_cases e1:n = "count"
 ·subst e1
  rw[OD rfl] at he; (have l:=Out.ok.inj he; clear he; subst l)
  exact Y0 hC hn ga (i "count" (by simp)) lG I f1 rfl (hQ _ _ (.int (.toks _ _)))
 rw[OB e1] at he
 by_cases e2:n = "full"
 ·(clear e1; subst e2)
  rw[OD rfl] at he; (have l:=Out.ok.inj he; clear he; subst l)
  have hf:handedOut vf=PU vf:=by cases rd<;>rfl
  refine Y0 hC hn ga (i "full" (by simp)) nV I f2 hf (hQ _ _ ?_)
  exact .after (.toks ⟨hh,g,dr,tk,os⟩ _) (tN (s:=⟨hh,g,dr,tk+1,os⟩) (x:=.d d) ⟨rd,zd⟩ λa h=>ha a (.tail _ (.tail _ h)))
 rw[OB e2] at he
 by_cases e3:n = "size"
 ·(clear e1 e2; subst e3)
  rw[OD rfl] at he; (have l:=Out.ok.inj he; clear he; subst l)
  exact Y0 hC hn ga (i "size" (by simp)) n7 I f3 rfl (hQ _ _ (.int (.toks _ _)))
 rw[OB e3] at he
 exact nB he
theorem w8 (hC:cJ fns k C XP) (Sa:SimE fns k C XP a):SimE fns k C XP (.attr a n):=by
 intro ex A env σ P s Q Er ok X o p t
 replace ok:=Dy ok
 revert ok; refine λi=>Pc i (λj=>?_) (λok=>?_)
 ·clear i
  refine a8 (j) λy u l hn hs oa=>?_
  clear j
  subst l
  simp only[eM] at o p t
  cases hR:C "Rule" with
  | none=>rw[hR] at o; exact OW rfl o
  | some g=>
  have hi:fns.init.isSome=true:=by
   refine af ((hC "Rule" g hR).2.2.2 (by decide)) λfa m _=>?_
   unfold adr at m
   rw[OD rfl] at m
   refine bk m λuu q _=>?_
   rw[q]; rfl
  rw[hR] at o p t
  simp only[am] at o p t
  refine aN o λn1 n2=>?_
  rw[arm_eval_Attribute,nq hs oa]
  refine If (Sa oa X n1 (λx hx va z Ea=>?_) λc hc=>t c (by rw[hc]; rfl))
  obtain ⟨ka,as,ra,ha,_⟩:=Ea
  have:∃ r,jY x.1 n = .ok r:=by
   cases h:jY x.1 n with
   | ok r=>exact ⟨r,rfl⟩
   | exc c=>exact OW h (yJ c)
   | bad=>exact OW h (n2 x hx)
  refine aj (this) λr hr=>?_
  clear this
  refine If (S7 (If (P7 (vx (P:=λa=>P a\/s.heap.get? a=OC) (X.ge.k ka.k) hi hr ra ha λv s' E=>?_))))
  exact If (wpAny_letTemporaryGo (OL (p r (by rw[hx]; exact hr) v s' (E.shift ka))))
 ·cases ok
theorem kR:∀ {es:Es}{xs:vk Expr},dj ns es xs=Gt->∀ pos:Pos,(Rq pos (PV xs env)).any (·.1)=Oz/\(Rq pos (PV xs env)).all (λx=>!x.1)=Gt
 | .nil,xs,h,pos=>by
  refine Pc (sM h) (λi=>?_) (λq=>?_)
  ·refine ae (i) λk l=>?_
   clear i
   (clear h; subst k)
   exact ⟨rfl,rfl⟩
  ·cases q
 | .cons e es,xs,h,pos=>by
  refine Pc (qe h) (λg=>?_) (λq=>?_)
  ·refine av (g) λx m j h=>?_
   clear g
   subst j
   refine bS h λo n=>?_
   refine ae (kR (env:=env) n pos) λa b=>?_
   rw[aG o]
   constructor
   ·show (Oz||(Rq pos (PV m env)).any (·.1))=Oz
    rw[a]; rfl
   ·show (!false&&(Rq pos (PV m env)).all (λx=>!x.1))=Gt
    rw[b]; rfl
  ·cases q
theorem oA {A:Pq}{env:Env}{pos:Pos}{e:Expr}{rest:vk Expr}{Q:N8->OA->Prop}{E:N8->OA->Prop}{s:OA}{Cl N:O1}{mN:Str->OE N8}(he:PV (e::rest) env=(Oz,SW e env)::PV rest env) (hp:(Rq pos (PV rest env)).any (·.1)=Oz)
  (h:OQ (OT prog w) A (Vu (Rq pos (PV (e::rest) env))) (λvs s₁=>ClsAt s₁.heap Cl N mN/\OQ (OT prog w) A (R3 (.ref Cl) vs) Q E s₁) E s) :
  OQ (OT prog w) A (Va pos (.ref Cl) [] (Rq pos (PV (e::rest) env)) []) Q E s:=by
 rw[he] at h ⊢
 have m:((Rq pos ((Oz,SW e env)::PV rest env)).any (λx=>x.fst)||([]:vk (OE Str×Sem N8)).any λx=>x.fst.isNone)=false:=by
  show ((Oz||(Rq pos (PV rest env)).any (·.1))||Oz)=Oz
  rw[hp]; rfl
 unfold Va
 refine If (P7 (Calls.evalArgs_plain (Qk h (λvs s₁ i=>?_) λuu uu x=>x)))
 obtain ⟨v,g,d,t,p⟩:=s₁
 revert i; intro j
 refine ae (j) λl i=>?_
 clear j
 obtain ⟨k,_⟩:=l
 refine eB (k) λnm q bs z o y dd k0 k1 k2 k3 k5 n=>?_
 clear k
 have f1:=tc_lookup
 have hT:(⟨v,g,d,t,p⟩:OA).TypeIs (.ref Cl) "type" := (ag _ n rfl)
 refine If (S7 ?_)
 show OQ _ _ (keeperOf (.ref Cl)>>=_) _ _ _
 unfold keeperOf specialOf
 repeat (any_goals (first | assumption | with_reducible refine PM n ?_ | with_reducible refine wpAny_load' n ?_ | wp_step))
 rw[OD (by rfl),m]
 show OQ _ _ (R3 (.ref Cl) vs []>>=λr=>do Zb [r] point; PU r) _ _ _
 exact If (Qk i (λr s' u=>If (P7 (ZN (OL u)))) λuu uu x=>x)
theorem xD (hf:fns.hand=Oz) (hC:cJ fns k C XP) (hXP:∀ c s s₁ x s',Kp s s₁->XP c s₁ x s'->XP c s x s') {a:E}{m:Ot}{es:Es}(Sa:SimE fns k C XP a) (Ss:fg fns k C XP es):SimE fns k C XP (.meth a m es):=by
 intro ex A env σ P s Q Er ok X nb hQ hE
 replace ok:=CH ok
 revert ok; refine λNx=>Pc Nx (λNv=>?_) (λok=>?_)
 ·clear Nx
  refine v5 (Nv) λv p xs pos Oi hl hm hne hlt hs oa oes=>?_
  clear Nv
  subst Oi
  simp only[dR] at nb hQ hE
  refine aN nb λn1 n2=>?_
  rw[arm_eval_Call,nq hs oa]
  refine If (Sa oa X n1 (λx hx va s₁ Ea=>?_) λc hc=>hE c (by rw[hc]; rfl))
  replace n2:=n2 x hx
  rw[hx] at hQ hE
  simp only[Out.ok_bind] at hQ hE
  obtain ⟨ka,as,ra,ha,_⟩:=Ea
  refine If (S7 ?_)
  have Xa:=X.k ka.k
  by_cases hq:∃ q g,fu x.1=rg q/\C m=rg g
  ·revert hq; intro N0
   refine av (N0) λMS g hq hg=>?_
   clear N0
   obtain ⟨c,d,n⟩:=MS
   have hx1:=l5 hq
   rw[hx1] at ra
   rw[hq,hg] at n2 hQ hE
   simp only[am] at n2 hQ hE
   refine aN n2 λn3 n4=>?_
   obtain ⟨fa,hfa,hcall⟩:=(hC m g hg).2.2.2 (by
    simp only[methNames,O9,RU,Ug] at hm
    rcases hm with rfl | rfl | rfl | rfl | rfl<;>decide)
   have hmR:m ≠ "Rule" := by
    rintro rfl
    simp[methNames] at hm
   rw[rG hmR hm] at hfa
   refine bk hfa λpm hpm MP=>?_
   subst MP
   refine we (nX ra) λy D vf bs t u mA MT MX I f1 f2 f3 f4 rd zd=>?_
   subst MT
   (clear deep top; subst MX)
   refine a8 (Xa.ge.cls (.inl (bG m pm hpm))) λN mN MY quiet _ hmth=>?_
   obtain ⟨M1,hn⟩:=MY
   refine eB (M1) λnm q bs' sn sub col dd k0 k1 k2 k3 k5 hCl=>?_
   clear M1
   refine bD (hmth m pm hpm) λof g1 g2 g3 g4=>?_
   have hform:Yv (xs.length+([]:vk Y7).length) (Rq pos (PV xs env)) (ZO pos (XI [] env))=true:=by
    unfold Yv
    rw[(kR (env:=env) oes pos).2]
    show (Gt&&Gt&&decide (xs.length+0+0<30))=Gt
    simp; exact FK hlt
   have hpos:YM Gt v env p pos=PU pos:=by unfold YM; simp[hl]
   unfold methodCall
   rw[hform]
   obtain ⟨hh,gg,dr,tk,os⟩:=s₁
   refine If (P7 (method_of hCl hn (quiet "__getattribute__" (by simp)) (quiet "__getattr__" (by simp)) g1 g3 g4 (uz hm) I (f4 m hm) ?_))
   refine If (ZQ hpos ?_)
   refine aw (g2) λo fd ho hfd _=>?_
   clear g2
   refine Calls.callWith_function (o:=o) (fd:=fd) ?_
   cases xs with
   | nil=>simp at hne
   | cons y' ys=>
    cases es with
    | nil=>exact PN (show Oz=Gt from oes)
    | cons e es=>
     have oy:okE env.scope.names e y' = true:=(QT.mp (show (okE env.scope.names e y'&&dj env.scope.names es ys)=Gt from oes)).1
     have hS:=Ss (pos:=pos) (A:=A) (P:=P) (s:=⟨hh,gg,dr,tk,os⟩) (Er:=Er) (Q:=λvs j=>(j.heap.get? pm.1=rg o/\o.data = .func fd)/\OQ (OT prog w) A (R3 (.ref pm.1) ([.ref y]++vs) []) Q Er j) oes Xa n3 (λl hl vs j Es=>?_) λc hc z s' hz=>hE c (by rw[hc]; rfl) z s' (hXP c s _ z s' ka hz)
     ·rw[aG oy] at hS ⊢
      exact Calls.evalArgs_plain hS
     ·obtain ⟨ks,bsb,rs,hb,_⟩:=Es
      refine ⟨⟨ks.k.exact ho (λuu q=>by rw[hfd] at q; cases q) λuu uu q=>(by rw[hfd] at q; cases q),hfd⟩,?_⟩
      have hnb':=n4 l hl
      rw[hl] at hQ hE
      simp only[Out.ok_bind] at hQ hE
      rw[hx1] at hQ hE hnb'
      have i:=ka.trans ks
      refine hcall (P:=λa=>P a\/s.heap.get? a=OC) X.room (af (X.frm hf) λl' a' b'=>(ag l' a' (b'.k i.k))) (X.ge.k i.k) (.cons (ra.k ks.k) rs) (λb h=>?_) hnb' (λr hr v s' E=>hQ r hr v s' (E.shift i)) λc hc z s' hz=>hE c hc z s' (hXP c s _ z s' i hz)
      rcases O7.mp h with h | h
      ·exact ha b h
      ·exact (hb b h).imp id ka.none
  ·exfalso
   cases h1:fu x.1 with
   | none=>rw[h1] at n2; exact n2 rfl
   | some q=>
    cases h2:C m with
    | none=>rw[h1,h2] at n2; exact n2 rfl
    | some g=>exact hq (ay q g h1 h2)
 ·cases ok
end
section
theorem BX:b1V f x≠.exc c:=CD c
theorem b1_list' (h:(am (asD v) λx=>am (asL x) f) = .ok r):∃ xs,v = .d (.list xs)/\f xs = .ok r:=by
 refine aU h λx i h=>?_
 refine aU h λxs g h=>?_
 exact (ag xs (by rw[bB i,cK g]) h)
set_option tactic.hygienic true in
theorem Cb (hh:A.handled=OC) (hu:A.units+200<UB) (he:b1V f x = .ok r) (ra:RV s.heap va x as) (ha:∀ a∈as,P a)
  (hQ:∀ v s',EP P s r v s'->Q v s'):OQ (OT prog w) A (R3 (bval (b1n f)) [va]) Q Er s:=by
 unfold b1V at he
 cases hd:ui x with
 | some ks=>
  rw[hd] at he
  cases xQ hd
  simp only[oC] at he
  split at he
  ·rename_i hk
   revert hk; intro u
   refine ae (u) λMU hk=>?_
   clear u
   subst MU
   (have g:=Out.ok.inj he; clear he; subst g)
   exact vL hh ra hk hQ
  ·exact nB he
 | none=>
 rw[hd] at he
 dsimp only at he
 cases f with
 | len=>exact yv he ra hQ
 | list=>
  replace he:=aS he
  revert he; intro t
  refine af (t) λy hy he=>?_
  clear t
  cases bB hy
  cases ht:asT y with
  | none=>
   simp only[ht] at he
   replace he:=aS he
   revert he; intro q
   refine af (q) λm hx he=>?_
   clear q
   cases cK hx
   (have g:=Out.ok.inj he; clear he; subst g)
   refine ra.1.isList_k λa vs n cs MR ea l MZ=>?_
   subst MR
   subst MZ
   have z:=sz_list.mp ra.2
   exact nZ (.inl rfl) ea l z.1 z.2 (λb hb=>ha b (.tail _ hb)) hQ
  | some m=>
   simp only[ht] at he
   (have g:=Out.ok.inj he; clear he; subst g)
   cases mP ht
   refine aV (ra.1.isTup) λa vs n MV ea l=>?_
   subst MV
   have z:=sz_tuple.mp ra.2
   exact nZ (.inr rfl) ea l z.1 z.2 ha hQ
 | tuple=>
  replace he:=b1_list' he
  revert he; intro p
  refine af (p) λm MQ he=>?_
  clear p
  (clear hd; subst MQ)
  (have g:=Out.ok.inj he; clear he; subst g)
  exact wL ra.1 ra.2 ha hQ
 | sorted=>
  replace he:=b1_list' he
  revert he; intro o
  refine af (o) λm MW he=>?_
  clear o
  (clear hd; subst MW)
  unfold dW at he
  split at he
  ·rename_i h
   split at he
   ·rename_i ns hn
    (have g:=Out.ok.inj he; clear he; subst g)
    exact sG ra.1 hn h hQ
   ·unfold f9 at he
    cases ht:ez m with
    | some ks=>
     rw[ht] at he
     dsimp only at he
     split at he
     ·rename_i hc
      (have g:=Out.ok.inj he; clear he; subst g)
      exact su hu ra.1 ha ra.2 ht h hc hQ
     ·exact nB he
    | none=>
     rw[ht] at he
     dsimp only at he
     exact nB he
  ·rename_i h
   split at he
   ·rename_i h128
    refine aU he λns hn he=>?_
    split at he
    ·rename_i hc
     (have g:=Out.ok.inj he; clear he; subst g)
     exact sV ra.1 hn h h128 hc hQ
    ·exact nB he
   ·exact nB he
 | max=>
  replace he:=b1_list' he
  revert he; intro k
  refine af (k) λm M0 he=>?_
  clear k
  (clear hd; subst M0)
  replace he:=aS he
  revert he; intro j
  refine af (j) λi hi he=>?_
  clear j
  refine be hi λns hi1 hi2=>?_
  (have g:=Out.ok.inj he; clear he; subst g)
  exact x6 hh ra.1 hi1 hi2 hQ
theorem Dk (f:B1):b1n f∈bnames:=by cases f<;>decide
theorem GX (f:B1):(mL (b1n f)==("__debug__" : Str))=false:=by cases f<;>decide
theorem mO (hf:fns.hand=Oz) (Sa:SimE fns k C XP a):SimE fns k C XP (.bi1 f a):=by
 intro ex A env σ P s Q Er ok X nb hQ hE
 replace ok:=zR ok
 revert ok; refine λi=>Pc i (λj=>?_) (λok=>?_)
 ·clear i
  refine cR (j) λz y x u l ok=>?_
  clear j
  subst l
  simp only[OJ,OZ] at ok
  refine ae (ok) λo t=>?_
  clear ok
  refine ae (o) λp hg=>?_
  clear o
  subst p
  simp only[eE] at nb hQ hE
  refine aN nb λn1 n2=>?_
  have m:∀ {B:N8},B=bval (b1n f)->∀ {n:Pos},OQ (OT prog w) A (Vu (Rq n (PV [_] env))) (λvs g=>OQ (OT prog w) A (R3 B vs) Q Er g) Er s:=λ{B} hB {n}=>by
   subst hB
   refine ir _ t (Sa t X n1 (λr hr v g Ea=>?_) λc hc=>hE c (by rw[hc]; rfl))
   have n3:=n2 r hr
   cases h:b1V f r.1 with
   | bad=>exact OW h n3
   | exc c=>exact OW h BX
   | ok q=>
    obtain ⟨ka,as,ra,ha,_⟩:=Ea
    exact Cb (P:=λa=>P a\/s.heap.get? a=OC) (X.room.1 hf) X.room.units h ra ha λv s' E=>hQ q (by rw[hr]; exact h) v s' (E.shift ka)
  refine e7 X.eok X.ge (Dk f) hg (GX f) ?_
  cases f with
  | list=>exact gq (T:="list") _ t rfl (m rfl)
  | tuple=>exact gq (T:="tuple") _ t rfl (m rfl)
  | _=>exact kO _ t rfl (m rfl)
 ·cases ok
theorem wm:g8 x t≠.exc c:=BC c
theorem wT (h:mn t k=rg b):t∈bnames/\bval t = .type t :=
 oS h (λe uu=>e▸⟨by decide,rfl⟩) (λe uu=>e▸⟨by decide,rfl⟩) (λe uu=>e▸⟨by decide,rfl⟩) (λe uu=>e▸⟨by decide,rfl⟩) λe uu=>e▸⟨by decide,rfl⟩
theorem mQ {id:Str}{p:Pos}(xs:vk Expr) (env:Env):PV (.Name id p::xs) env=(Oz,SW (.Name id p) env)::PV xs env:=rfl
theorem BA (Sa:SimE fns k C XP a):SimE fns k C XP (.isi a t):=by
 intro ex A r σ P s Q Er ok X nb hQ hE
 replace ok:=zm ok
 revert ok; refine λg=>Pc g (λi=>?_) (λok=>?_)
 ·clear g
  refine oN (i) λN8 Ob z y v u o ok=>?_
  clear i
  subst o
  simp only[OJ,OZ] at ok
  refine ae (ok) λn hdt=>?_
  clear ok
  refine ae (n) λm hgt=>?_
  clear n
  refine ae (m) λl q=>?_
  clear m
  refine ae (l) λj oa=>?_
  clear l
  refine ae (j) λp hg=>?_
  clear j
  subst p
  subst q
  simp only[f7] at nb hQ hE
  refine aN nb λn1 n2=>?_
  refine e7 X.eok X.ge (id:="isinstance") (by decide) hg (by decide) (kO (id:="isinstance") _ oa rfl (Qv ?_ (aG oa _ r)))
  refine Sa oa X n1 (λx hx va s₁ Ea=>?_) λc hc=>hE c (by rw[hc]; rfl)
  cases h:g8 x.1 t with
  | bad=>exact OW h (bf (n2 x hx)).1
  | exc c=>exact OW h wm
  | ok b=>
   refine af (xU h) λxd hxd hi=>?_
   refine ae (wT hi) λhm hb=>?_
   have ge:=X.ge.k Ea.keeps.k
   refine aq (ge.glob) λmg g1 _ g3=>?_
   refine af (ge.blt) λmb b1 b2=>?_
   refine Qv ?_ (mQ [] r)
   refine Calls.Name_function_global X.eok.kind (dQ hgt) (Calls.loadGlobal_builtin (X.eok.glob▸g1) (g3 t hm) (X.eok.blt▸b1) (b2 t hm) ?_) (nd hdt)
   refine Sp ?_
   obtain ⟨ka,as,ra,ha,_⟩:=Ea
   rw[hxd] at ra
   rw[hb]
   exact yB hi ra.1 λs' kp=>hQ (sB b) (by rw[hx,Out.ok_bind,h]; rfl) _ _ (.bool (ka.trans kp))
 ·cases ok
theorem rD (hX:∀ t g,C t=rg g->t∈aE->t∈SF.excN):SimE fns k C XP (.isE x t):=by
 intro ex A env σ P s Q Er ok X h v hE
 replace ok:=zm (I6 ok)
 revert ok; refine λi=>Pc i (λj=>?_) (λok=>?_)
 ·clear i
  refine oN (j) λN8 Ob On Op Os Oo u ok=>?_
  clear j
  subst u
  simp only[OJ,OZ] at ok
  refine ae (ok) λo hdt=>?_
  clear ok
  refine ae (o) λn hgt=>?_
  clear o
  refine ae (n) λm Nr=>?_
  clear n
  refine ae (m) λl oa=>?_
  clear m
  refine ae (l) λz hg=>?_
  clear l
  subst z
  subst Nr
  simp only[rP] at h v hE
  cases hp:σ x with
  | none=>rw[hp] at h; exact OW rfl h
  | some p=>
  cases r:oB p.1 with
  | none=>rw[hp] at h; simp only[am,r] at h; exact OW rfl h
  | some c=>
  rw[hp] at h v hE
  simp only[am,r] at h v hE
  have en:ev C (.name x) σ = .ok (mk p.1):=by rw[ce,hp]
  refine e7 X.eok X.ge (id:="isinstance") (by decide) hg (by decide) (kO (id:="isinstance") _ oa rfl (Qv ?_ (aG oa _ env)))
  refine dg x (C:=C) (fns:=fns) (k:=k) (XP:=XP) oa X (by rw[en]; exact λq=>nomatch q) (λy hy va s₁ Ea=>?_) λc r=>(by rw[en] at r; exact nomatch r)
  rw[en] at hy; (have oc:=Out.ok.inj hy; clear hy; subst oc)
  have ge:=X.ge.k Ea.keeps.k
  obtain ⟨ka,as,ra,ha,_⟩:=Ea
  have era:(mk p.1).1 = .err c:=uv r
  rw[era] at ra
  refine aq (ge.exc) λmg g1 g2 g3=>?_
  refine Qv ?_ (mQ [] env)
  unfold wO at h v
  by_cases ht:t∈aE
  ·rw[OD ht] at h v
   cases hg':C t with
   | none=>rw[hg'] at h; exact OW rfl h
   | some g=>
   rw[hg'] at v
   have hdN:=hX t g hg' ht
   refine Calls.Name_function_global X.eok.kind (dQ hgt) (Calls.loadGlobal_global (X.eok.glob▸g1) (g2 t hdN).1 ?_) (nd hdt)
   refine Sp ?_
   exact yF g3 (λc r=>(g2 c r).2) hdN ra λs' kp=>v _ rfl _ _ (.bool (ka.trans kp))
  ·rw[OB ht] at h; exact OW rfl h
 ·cases ok
set_option tactic.hygienic true in
theorem wB (hf:fns.hand=Oz) (hC:cJ fns k C XP) (hXP:∀ c s s₁ x s',Kp s s₁->XP c s₁ x s'->XP c s x s') {f:Ot}{es:Es}(Ss:fg fns k C XP es):SimE fns k C XP (.call f es):=by
 intro ex A env σ P s Q Er ok X nb hQ hE
 replace ok:=vS ok
 revert ok; refine λn=>Pc n (λt=>?_) (λok=>?_)
 ·clear n
  refine cR (t) λOt p xs pos Oa ok=>?_
  clear t
  subst Oa
  simp only[OJ,OZ,PL,RO] at ok
  refine ae (ok) λNk m=>?_
  clear ok
  refine ae (Nk) λNn hl=>?_
  clear Nk
  refine ae (Nn) λNg hne=>?_
  clear Nn
  refine ae (Ng) λNy hx=>?_
  clear Ng
  refine ae (Ny) λNO hm=>?_
  clear Ny
  refine ae (NO) λu hd=>?_
  clear NO
  refine ae (u) λNB hg=>?_
  clear u
  subst NB
  simp only[eP] at nb hQ hE
  split at nb
  ·rename_i g hCf
   rw[hCf] at hQ hE
   dsimp only at hQ hE
   refine aN nb λn1 n2=>?_
   refine af ((hC f g hCf).2.2.2 hx) λfa h i=>?_
   refine aq (X.ge.glob) λmg g1 g2 _=>?_
   refine Xs (Calls.Name_function_global X.eok.kind (dQ hg) (Calls.loadGlobal_global (X.eok.glob▸g1) (g2 f fa hm h) ?_) (nd hd))
   cases xs with
   | nil=>simp at hne
   | cons y ys=>
    cases es with
    | nil=>exact PN (show Oz=Gt from m)
    | cons e es=>
     refine bS (show (okE env.scope.names e y&&dj env.scope.names es ys)=Gt from m) λoy oys=>?_
     have fin:∀ l,evs C (.cons e es) σ = .ok l->∀ j s₁,EPs P s l j s₁->OQ (OT prog w) A (R3 (.ref fa) j []) Q Er s₁:=λl hl j s₁ Es=>by
      obtain ⟨ks,as,rs,ha,_⟩:=Es
      exact i (P:=λa=>P a\/s.heap.get? a=OC) X.room (af (X.frm hf) λl' a' b'=>(ag l' a' (b'.k ks.k))) (X.ge.k ks.k) rs ha (n2 l hl) (λr hr v s' E=>hQ r (by rw[hl]; exact hr) v s' (E.shift ks)) λc hc z s' hz=>hE c (by rw[hl]; exact hc) z s' (hXP c s s₁ z s' ks hz)
     by_cases hR:f = "Rule"
     ·have hi:fns.init.isSome=true:=by
       unfold adr at h
       rw[OD hR] at h
       refine bk h λuu q _=>?_
       rw[q]; rfl
      have hfr:fa=SF.rule:=by
       unfold adr at h
       rw[OD hR] at h
       refine bk h λuu uu q=>?_
       exact q.symm
      refine av (X.ge.cls (.inr hi)) λN mN hcl _=>?_
      rw[<- hfr] at hcl
      exact oA (aG oy _ env) (kR oys pos).1 (Ss (pos:=pos) m X n1 (λl hl j s₁ Es=>⟨rx hcl Es.keeps.k,fin l hl j s₁ Es⟩) λc hc=>hE c (by rw[hc]; rfl))
     ·rw[v4 hR hm] at h
      refine bk h λq hq N4=>?_
      (clear i; subst N4)
      refine aw (X.ge.funs f q hq) λo fd ho hfd _=>?_
      refine Calls.callWith_function (o:=o) (fd:=fd) ?_
      have hS:=Ss (pos:=pos) (A:=A) (P:=P) (s:=s) (Er:=Er) (Q:=λj s₁=>(s₁.heap.get? q.1=rg o/\o.data = .func fd)/\OQ (OT prog w) A (R3 (.ref q.1) ([]++j) []) Q Er s₁) m X n1 (λl hl j s₁ Es=>?_) λc hc=>hE c (by rw[hc]; rfl)
      ·rw[aG oy] at hS ⊢
       exact Calls.evalArgs_plain hS
      ·refine ⟨⟨Es.keeps.k.exact ho (λuu q=>by rw[hfd] at q; cases q) λuu uu q=>(by rw[hfd] at q; cases q),hfd⟩,?_⟩
       rw[Wz]
       exact fin l hl j s₁ Es
  ·exact OW rfl nb
 ·cases ok
noncomputable def wi:Expr->Pr
 | .UnaryOp .Not _ _=>Oz
 | .BoolOp _ _ _=>Oz
 | .IfExp _ _ _ _=>Oz
 | .Compare _ _ _ _=>Oz
 | _=>Gt
theorem pC {ex:Expr}(h:wi ex=Gt) (env:Env) (t:Sem N8):isTrue ex env t=(do let v <- t; standAt ex.pos; Zb [v] (Z4 v)):=by
 cases ex with
 | UnaryOp op x p=>cases op<;>first | rfl | exact nF h
 | _=>first | rfl | exact nF h
noncomputable def wh:E->Pr
 | .not _ | .cmp _ _ _ | .and _ _ | .or _ _=>Oz
 | _=>Gt
theorem w9 {ex:Expr}(hp:wh e=Gt) (h:okE ns e ex=Gt):wi ex=true:=by
 cases ex with
 | UnaryOp op x p=>
  cases e with
  | not _=>exact nF hp
  | neg a=>
   refine Pc (zx h) (λg=>?_) (λq=>?_)
   ·refine av (g) λk j q i=>?_
    clear g
    cases q; rfl
   ·cases q
  | _=>exact PN (show Oz=Gt from h)
 | BoolOp _ _ _=>
  cases e with
  | and _ _=>exact nF hp
  | or _ _=>exact nF hp
  | _=>exact PN (show Oz=Gt from h)
 | Compare _ _ _ _=>
  cases e with
  | cmp _ _ _=>exact nF hp
  | _=>exact PN (show Oz=Gt from h)
 | IfExp _ _ _ _=>cases e<;>exact PN (show Oz=Gt from h)
 | _=>rfl
variable (fns k C XP)
structure SimAll (ee:E):Prop where
 e:SimE fns k C XP ee
 t:SimT fns k C XP ee
 a:SimA fns k C XP ee
 o:SimO fns k C XP ee
 ta:SimTA fns k C XP ee
 to:SimTO fns k C XP ee
variable {fns k C XP}
noncomputable def qp:E->Pr
 | .and _ _=>Oz
 | _=>Gt
noncomputable def sv:E->Pr
 | .or _ _=>Oz
 | _=>Gt
theorem gQ (h:qp e=Gt):okA ns e vs=false:=by cases e<;>first | rfl | exact nF h
theorem gS (h:sv e=Gt):okO ns e vs=false:=by cases e<;>first | rfl | exact nF h
theorem SimAll.ofET {e:E}(S:SimE fns k C XP e) (T:SimT fns k C XP e) (ha:qp e=Gt) (ho:sv e=Gt):SimAll fns k C XP e where
 e:=S
 t:=T
 a:=kF S λg=>by rw[gQ ha] at g; exact nF g
 o:=kX S λg=>by rw[gS ho] at g; exact nF g
 ta:=jv T λg=>by rw[gQ ha] at g; exact nF g
 to:=jJ T λg=>by rw[gS ho] at g; exact nF g
theorem SimAll.ofE {e:E}(S:SimE fns k C XP e) (hp:wh e=Gt) (ha:qp e=Gt) (ho:sv e=Gt):SimAll fns k C XP e :=
 .ofET S (tW S λuu uu g t h=>pC (w9 hp h) g t) ha ho
theorem wH (h:∀ c s s₁ x s',Kp s s₁->XP c s₁ x s'->XP c s x s'):SimE fns 0 (λuu=>OC) XP (lq x t):=by
 have S1:SimE fns 0 (λuu=>OC) XP (.neg (.sub (.name x) (.name t))):=rJ (mj h (dg x) (dg t))
 have S2:fg fns 0 (λuu=>OC) XP (.cons (.name t) .nil):=iH h (dg t) mW
 have S3:fg fns 0 (λuu=>OC) XP (.cons (.neg (.sub (.name x) (.name t))) (.cons (.name t) .nil)):=iH h S1 S2
 show SimE fns 0 (λuu=>OC) XP (.tup (.cons (.neg (.sub (.name x) (.name t))) (.cons (.name t) .nil)))
 exact rL S3
section
variable (hf:fns.hand=Oz) (hC:cJ fns k C XP) (hXP:∀ c s s₁ x s',Kp s s₁->XP c s₁ x s'->XP c s x s')
include hXP
theorem lp (Sa:SimAll fns k C XP a) (Sb:SimAll fns k C XP b):SimAll fns k C XP (.and a b) :=
  have S:SimE fns k C XP (.and a b):=AI hXP Sa.e Sb.a
  have T:SimT fns k C XP (.and a b):=xH hXP Sa.t Sb.ta
  {e:=S,t:=T,o:=kX S λg=>(by rw[gS rfl] at g; cases g),to:=jJ T λg=>(by rw[gS rfl] at g; cases g),
   a:=kF S λ{z} _ _ _ _ _ _ _ _ g X v x y=>(by
    replace g:=i_A g
    revert g; refine λi=>Pc i (λl=>?_) (λg=>?_)
    ·clear i
     refine av (l) λu r n g=>?_
     clear l
     subst n
     simp only[OJ] at g
     exact Di hXP Sa.e Sb.a g.1 g.2 X v x y
    ·cases g),
   ta:=jv T λ{z} _ _ _ _ _ _ _ g X v x y=>(by
    replace g:=i_A g
    revert g; refine λh=>Pc h (λj=>?_) (λg=>?_)
    ·clear h
     refine av (j) λq p m g=>?_
     clear j
     subst m
     simp only[OJ] at g
     exact zC hXP Sa.t Sb.ta g.1 g.2 X v x y
    ·cases g) }
theorem n0 (Sa:SimAll fns k C XP a) (Sb:SimAll fns k C XP b):SimAll fns k C XP (.or a b) :=
  have S:SimE fns k C XP (.or a b):=Cf hXP Sa.e Sb.o
  have T:SimT fns k C XP (.or a b):=B6 hXP Sa.t Sb.to
  {e:=S,t:=T,a:=kF S λg=>(by rw[gQ rfl] at g; cases g),ta:=jv T λg=>(by rw[gQ rfl] at g; cases g),
   o:=kX S λ{z} _ _ _ _ _ _ _ _ g X v x y=>(by
    replace g:=i_O g
    revert g; refine λj=>Pc j (λl=>?_) (λg=>?_)
    ·clear j
     refine av (l) λu r n g=>?_
     clear l
     subst n
     simp only[OJ] at g
     exact orL hXP Sa.e Sb.o g.1 g.2 X v x y
    ·cases g),
   to:=jJ T λ{z} _ _ _ _ _ _ _ g X v x y=>(by
    replace g:=i_O g
    revert g; refine λh=>Pc h (λi=>?_) (λg=>?_)
    ·clear h
     refine av (i) λq p m g=>?_
     clear i
     subst m
     simp only[OJ] at g
     exact Du hXP Sa.t Sb.to g.1 g.2 X v x y
    ·cases g) }
theorem js (hX:∀ t g,C t=rg g->t∈aE->t∈SF.excN):∀ e:E,hOk e=Gt->SimAll fns k C XP e
 | .name x,_=>.ofE (dg x) rfl rfl rfl
 | .not a,h=>.ofET (r8 (js hX a h).e) (pz (js hX a h).t) rfl rfl
 | .and a b,h=>lp hXP (js hX a (QT.mp h).1) (js hX b (QT.mp h).2)
 | .or a b,h=>n0 hXP (js hX a (QT.mp h).1) (js hX b (QT.mp h).2)
 | .isE x t,h=>.ofE (rD hX) rfl rfl rfl
 | .int _,h | .bool _,h | .bin _ _ _,h | .cmp _ _ _,h | .list _,h | .str _,h | .none,h | .neg _,h | .tup _,h | .edic,h | .comp _ _ _,h | .compif _ _ _ _,h | .sub _ _,h | .slo _ _,h | .rev _,h | .attr _ _,h | .bi1 _ _,h | .isi _ _,h | .call _ _,h | .meth _ _ _,h | .order _ _,h=>PN h
termination_by structural e=>e
include hf hC
mutual
theorem ax:∀ e:E,SimAll fns k C XP e
 | .name x=>.ofE (dg x) rfl rfl rfl
 | .int i=>.ofE (rE i) rfl rfl rfl
 | .str s=>.ofE (Bv s) rfl rfl rfl
 | .bool b=>.ofE (xL b) rfl rfl rfl
 | .none=>.ofE xG rfl rfl rfl
 | .bin o a b=>.ofE (Ca hXP (ax a).e (ax b).e) rfl rfl rfl
 | .neg a=>.ofE (rJ (ax a).e) rfl rfl rfl
 | .not a=>.ofET (r8 (ax a).e) (pz (ax a).t) rfl rfl
 | .cmp o a b=>.ofET (Bg hXP (ax a).e (ax b).e) (ym hXP (ax a).e (ax b).e) rfl rfl
 | .and a b=>lp hXP (ax a) (ax b)
 | .or a b=>n0 hXP (ax a) (ax b)
 | .list es=>.ofE (yy (io es)) rfl rfl rfl
 | .tup es=>.ofE (rL (io es)) rfl rfl rfl
 | .edic=>.ofE yP rfl rfl rfl
 | .comp elt x it=>.ofE (xM (eT it) (ax elt).e) rfl rfl rfl
 | .compif elt x it c=>.ofE (sU (eT it) (ax elt).e (ax c).t) rfl rfl rfl
 | .sub a i=>.ofE (mj hXP (ax a).e (ax i).e) rfl rfl rfl
 | .slo a i=>.ofE (BY hXP (ax a).e (ax i).e) rfl rfl rfl
 | .rev a=>.ofE (Bq (ax a).e) rfl rfl rfl
 | .attr a n=>.ofE (w8 hC (ax a).e) rfl rfl rfl
 | .bi1 f a=>.ofE (mO hf (ax a).e) rfl rfl rfl
 | .isi a t=>.ofE (BA (ax a).e) rfl rfl rfl
 | .isE x t=>.ofE (rD λt g p l=>(hC t g p).2.2.1 l) rfl rfl rfl
 | .call f es=>.ofE (wB hf hC hXP (io es)) rfl rfl rfl
 | .meth a m es=>.ofE (xD hf hC hXP (ax a).e (io es)) rfl rfl rfl
 | .order x t=>.ofE (vR hf (λg j=>(hC "law" g j).2.1 rfl) (mO hf (dg x)) (wH (XP:=λuu uu uu uu=>PW) λuu uu uu uu uu uu h=>h)) rfl rfl rfl
termination_by structural e=>e
theorem io:∀ es:Es,fg fns k C XP es
 | .nil=>mW
 | .cons e es=>iH hXP (ax e).e (io es)
termination_by structural es=>es
theorem eT:∀ it:It,dy fns k C XP it
 | .e a=>BO hf (ax a).e
 | .r1 n=>wx hf (ax n).e
 | .r2 a b=>xh hf hXP (ax a).e (ax b).e
termination_by structural it=>it
end
end
end
theorem jx {σ τ:St}{x:Ot}{v:V×Mode}{ns:vk Ot}(h:∀ y∈ns,σ y=τ y):∀ y∈ns,upd σ x v y=upd τ x v y:=by
 intro y g
 unfold upd
 split
 ·rfl
 ·exact h y g
mutual
theorem az (C:Calls):∀ (e:E) (σ τ:St),(∀ y∈fv e,σ y=τ y)->ev C e σ=ev C e τ
 | .name x,σ,τ,h=>by simp only[ce]; rw[h x (by simp[dO])]
 | .int _,_,_,_=>by simp only[eJ]
 | .str _,_,_,_=>by simp only[j8]
 | .bool _,_,_,_=>by simp only[gu]
 | .none,_,_,_=>by simp only[gy]
 | .bin o a b,σ,τ,h=>by
  simp only[Bf,O7] at h
  simp only[fS]; rw[az C a σ τ λy g=>h y (.inl g),az C b σ τ λy g=>h y (.inr g)]
 | .neg a,σ,τ,h=>by simp only[By] at h; simp only[fY]; rw[az C a σ τ h]
 | .not a,σ,τ,h=>by simp only[B8] at h; simp only[d8]; rw[az C a σ τ h]
 | .cmp o a b,σ,τ,h=>by
  simp only[Bo,O7] at h
  simp only[ed]; rw[az C a σ τ λy g=>h y (.inl g),az C b σ τ λy g=>h y (.inr g)]
 | .and a b,σ,τ,h=>by
  simp only[Bm,O7] at h
  simp only[d7]; rw[az C a σ τ λy g=>h y (.inl g),az C b σ τ λy g=>h y (.inr g)]
 | .or a b,σ,τ,h=>by
  simp only[CP,O7] at h
  simp only[fx]; rw[az C a σ τ λy g=>h y (.inl g),az C b σ τ λy g=>h y (.inr g)]
 | .list es,σ,τ,h=>by simp only[yK] at h; simp only[bO]; rw[fw C es σ τ h]
 | .tup es,σ,τ,h=>by simp only[Bu] at h; simp only[eS]; rw[fw C es σ τ h]
 | .edic,_,_,_=>by simp only[gv]
 | .comp elt x it,σ,τ,h=>by
  simp only[yG,O7] at h
  simp only[dS]
  rw[ej C it σ τ λy g=>h y (.inl g)]
  have e:∀ d,(ev C elt (upd σ x (mk (.d d))))=ev C elt (upd τ x (mk (.d d))):=λd=>az C elt _ _ (jx λy g=>h y (.inr g))
  simp only[e]
 | .compif elt x it c,σ,τ,h=>by
  simp only[s7,O7] at h
  simp only[cQ]
  rw[ej C it σ τ λy g=>h y (.inl g)]
  have e:∀ d,(ev C elt (upd σ x (mk (.d d))))=ev C elt (upd τ x (mk (.d d))):=λd=>az C elt _ _ (jx λy g=>h y (.inr (.inr g)))
  have i:∀ d,(ev C c (upd σ x (mk (.d d))))=ev C c (upd τ x (mk (.d d))):=λd=>az C c _ _ (jx λy g=>h y (.inr (.inl g)))
  simp only[e,i]
 | .sub a b,σ,τ,h=>by
  simp only[rW,O7] at h
  simp only[eQ]; rw[az C a σ τ λy g=>h y (.inl g),az C b σ τ λy g=>h y (.inr g)]
 | .slo a b,σ,τ,h=>by
  simp only[BK,O7] at h
  simp only[f8]; rw[az C a σ τ λy g=>h y (.inl g),az C b σ τ λy g=>h y (.inr g)]
 | .rev a,σ,τ,h=>by simp only[Bx] at h; simp only[fU]; rw[az C a σ τ h]
 | .attr a n,σ,τ,h=>by simp only[yr] at h; simp only[eM]; rw[az C a σ τ h]
 | .bi1 f a,σ,τ,h=>by simp only[rX] at h; simp only[eE]; rw[az C a σ τ h]
 | .isE x t,σ,τ,h=>by simp only[BP] at h; simp only[rP]; rw[h x (.head _)]
 | .isi a t,σ,τ,h=>by simp only[A1] at h; simp only[f7]; rw[az C a σ τ h]
 | .call f es,σ,τ,h=>by simp only[kJ] at h; simp only[eP]; rw[fw C es σ τ h]
 | .meth a m es,σ,τ,h=>by
  simp only[x8,O7] at h
  simp only[dR]; rw[az C a σ τ λy g=>h y (.inl g),fw C es σ τ λy g=>h y (.inr g)]
 | .order x _,σ,τ,h=>by simp only[fm]; rw[h x (by simp[vI])]
termination_by structural e=>e
theorem fw (C:Calls):∀ (es:Es) (σ τ:St),(∀ y∈fvs es,σ y=τ y)->evs C es σ=evs C es τ
 | .nil,_,_,_=>by simp only[bi]
 | .cons e es,σ,τ,h=>by
  simp only[jm,O7] at h
  simp only[a9]; rw[az C e σ τ λy g=>h y (.inl g),fw C es σ τ λy g=>h y (.inr g)]
termination_by structural es=>es
theorem ej (C:Calls):∀ (it:It) (σ τ:St),(∀ y∈bK it,σ y=τ y)->bh C it σ=bh C it τ
 | .e a,σ,τ,h=>by simp only[fQ] at h; simp only[ie]; rw[az C a σ τ h]
 | .r1 a,σ,τ,h=>by simp only[pM] at h; simp only[gf]; rw[az C a σ τ h]
 | .r2 a b,σ,τ,h=>by
  simp only[xT,O7] at h
  simp only[gw]; rw[az C a σ τ λy g=>h y (.inl g),az C b σ τ λy g=>h y (.inr g)]
termination_by structural it=>it
end
noncomputable def cD (σ:St) (ns:vk Ot):St:=λx=>if x∈ns then σ x else OC
theorem b8 (σ:St) (ns:vk Ot):∀ y∈ns,cD σ ns y=σ y:=λy g=>by unfold cD; rw[OD g]
theorem nW {M:UO}{A:Pq}{E:N8->OA->Prop}{s:OA}{a:O1}{m:Str->OE N8}{name:Str}{v:N8}{T:N8}{Q:Ur->OA->Prop}(hn:s.heap.Ns a m) (hc:∃ o,s.heap.get? a=rg o/\o.cls=T)
  (h:∀ h',h'.Ns a (λx=>if x=name then rg v else m x)->PR a s.heap h'->(∃ o,h'.get? a=rg o/\o.cls=T)->Q () {s with heap:=h',toks:=s.toks+1 }):OQ M A (nsSet a name v) Q E s:=by
 refine dm (hn) λo es ep ho hd hk hm=>?_
 clear hn
 refine af (hc) λo' ho' hT=>?_
 clear hc
 rw[ho] at ho'
 obtain rfl:=vj ho'
 have hany:es.any (·.refKey)=false:=by
  rw[Array.any_eq_false']; intro e he; obtain ⟨n,t,h⟩:=hk e he; simp[Jae,h]
 intro Γ p _
 simp only[nsSet,strHash,Sem.wp_bind',Sem.wp_cmd_ask,Sem.wp_pure',Sem.wp_cmd_mkText]
 rw[Sem.wp_loadPart_of M Γ _ p {s with toks:=s.toks+1 } (o:=o) _ ho]
 simp only[hd,aRefKeyMayBeTheName_eq,aRefKeyMayBeTheNameByArray,hany,Yw,Pn,P2,Sem.wp_cmd_updatePart]
 refine ⟨by rw[ho]; rfl,h _ ?_ (PB ..) ?_⟩
 ·obtain ⟨c,d,dt,sl⟩:=o
  (clear hT ho'; subst hd)
  cases hi:es.findIdx? (·.key.isStr name) with
  | some i=>
   refine (gK _ _ ep (PH _ ho (by simp only[Rs,QF,hi]; rfl)) (by simp only[Rs,QF,hi]; rfl) (hk.modify _ _) (λx=>?_))
   show _=if x=name then rg v else m x
   rw[<- hm]; exact findBy_modify (λn v=>v.isStr n) Value.isStr_inj es name x v i hi
  | none=>
   refine (gK _ _ (ep+1) (PH _ ho (by simp only[Rs,QF,hi]; rfl)) (by simp only[Rs,QF,hi]; rfl) (hk.push _ _ _ _) (λx=>?_))
   show _=if x=name then rg v else m x
   rw[<- hm]
   exact findBy_push (λn v=>v.isStr n) es name x _ _ v (λy=>by
    show (name==y)=decide (y=name)
    by_cases h:y=name
    ·(clear hi; subst h); simp
    ·have:¬ name=y:=λe=>h e.symm
     simp[h,this]) hi
 ·obtain ⟨c,d,dt,sl⟩:=o
  (clear ho'; subst hd)
  cases hi:es.findIdx? (·.key.isStr name) with
  | some i=>exact (ag _ (PH _ ho (by simp only[Rs,QF,hi]; rfl)) (by simp only[Rs,QF,hi]; exact hT))
  | none=>exact (ag _ (PH _ ho (by simp only[Rs,QF,hi]; rfl)) (by simp only[Rs,QF,hi]; exact hT))
structure Loc (env:Env) (Z:O1->Prop) (h:PE) (vals:Ot->OE N8):Prop where
 cls:∃ o,h.get? env.locals=rg o/\o.cls = .type "frame"
 ns:∃ m,h.Ns env.locals m/\∀ x v,vals x=rg v->env.kindOf (mL x)=rg .local->m (mL x)=rg v
 nz:¬ Z env.locals
 cell:∀ n c,env.kindOf n=rg .cell->env.cells.lookup n=rg c->c≠env.locals/\¬ Z c/\∃ v,h.IsCell c v
 cval:∀ x v c,vals x=rg v->env.kindOf (mL x)=rg .cell->env.cells.lookup (mL x)=rg c->h.IsCell c (rg v)
 apart:∀ n n' c,env.cells.lookup n=rg c->env.cells.lookup n' = rg c->n=n'
 kinds:∀ x v,vals x=rg v->env.kindOf (mL x)=rg .local\/env.kindOf (mL x)=rg .cell
noncomputable def fz (vals:Ot->OE N8) (x:Ot) (v:N8):Ot->OE Value:=λy=>if y=x then rg v else vals y
noncomputable def te (T:O1) (h h':PE):Prop:=(∃ v,h.IsCell T v)->∀ o,h.get? T=rg o->∃ o',h'.get? T=rg o'/\o'.cls=o.cls/\o'.dict=o.dict/\∀ c,o'.data≠.cls c
theorem wJ {M:UO}{A:Pq}{E:N8->OA->Prop}{s:OA}{env:Env}{name:Str}{c:O1}{l:OE N8}{v:N8}{Q:Ur->OA->Prop}(hk:env.scope.kind = .function) (hl:env.kindOf name=rg .cell) (hc:env.cells.lookup name=rg c) (hv:s.heap.IsCell c l)
  (h:∀ h',h'.IsCell c (rg v)->PR c s.heap h'->te c s.heap h'->Q () {s with heap:=h' }):OQ M A (Vh env name v) Q E s:=by
 unfold Vh
 simp only[hl,hk]
 refine If (wpAny_cellOf hc ?_)
 refine af (hv) λo g j=>?_
 clear hv
 unfold cellSet
 refine If (WD g ?_)
 rw[j]
 refine wpAny_update g (h _ (ag ({o with data:=.cell (rg v) }) (PH _ g rfl) rfl) (.update ..) λuu k e=>?_)
 rw[g] at e; (have i:=vj e; clear e; subst i)
 exact (bp ({o with data:=.cell (rg v) }) (PH _ g rfl) rfl rfl (λuu q=>by cases q))
noncomputable def Spot (env:Env) (h:PE) (T:O1):Prop:=(T=env.locals/\∃ m,h.Ns T m)\/∃ v,h.IsCell T v
theorem Spot.noseq (t:Spot env h T) (o:Obj) (e:h.get? T=rg o) (vs:OP N8) (n:ON):o.data≠.seq vs n:=by
 intro q
 rcases t with ⟨_,m,o',es,ep,e',hd,_⟩ | ⟨v,o',e',hd⟩
 ·rw[e'] at e; (have g:=vj e; clear e; subst g); rw[hd] at q; cases q
 ·rw[e'] at e; (have g:=vj e; clear e; subst g); rw[hd] at q; cases q
theorem Spot.nostay (t:Spot env h T) (o:Obj) (e:h.get? T=rg o):¬ Stay o:=by
 rcases t with ⟨_,m,o',es,ep,e',hd,_⟩ | ⟨v,o',e',hd⟩
 ·rw[e'] at e; (have g:=vj e; clear e; subst g); exact Stay.not_dict hd
 ·rw[e'] at e; (have g:=vj e; clear e; subst g); exact Stay.not_data (λuu q=>by rw[hd] at q; cases q) λuu uu q=>by rw[hd] at q; cases q
section
theorem Loc.onK {env:Env}{Z:O1->Prop}{h h':PE}{vals:Ot->OE N8}(L:Loc env Z h vals) (kp:K h h'):Loc env Z h' vals where
 cls:=af (L.cls) λo e c=>af (kp _ o (.inl trivial) e) λi q l=>(ag i q (l.cls.trans c))
 ns:=af (L.ns) λm a b=>(ag m (eZ a kp) b)
 nz:=L.nz
 cell:=λn c a b=>aH (L.cell n c a b) λp k g=>aj g λv j=>(cg p k (bx v (ij j kp)))
 cval:=λx v c a b d=>ij (L.cval x v c a b d) kp
 apart:=L.apart
 kinds:=L.kinds
theorem Loc.var (L:Loc env Z h vals) (eok:EnvOk env) (hv:vals x=rg v):VarIs h env (mL x) v:=by
 rcases L.kinds x v hv with hk | hk
 ·refine af (L.ns) λm a b=>?_
  exact .loc m hk a (b x v hv hk)
 ·refine aj (eok.cells _ (.inl hk)) λc g=>?_
  exact .cell c (.inl hk) g (L.cval x v c hv hk g)
theorem Loc.store (L:Loc env Z s.heap vals) (eok:EnvOk env)
  (hx:env.kindOf (mL x)=rg .local\/env.kindOf (mL x)=rg .cell)
  (hQ:∀ T h' tk,PR T s.heap h'->Spot env s.heap T->te T s.heap h'->¬ Z T->Loc env Z h' (fz vals x v)->Q () {s with heap:=h',toks:=tk }):OQ (OT prog w) A (Vh env (mL x) v) Q Er s:=by
 have inj:∀ y,mL y=mL x->y=x:=λy e=>ca e
 have kinds':∀ y u,fz vals x v y=rg u->env.kindOf (mL y)=rg .local\/env.kindOf (mL y)=rg .cell:=λy u hu=>by
  unfold fz at hu
  split at hu
  ·rename_i e; (clear hQ inj; subst e); exact hx
  ·exact L.kinds y u hu
 refine af (L.ns) λm hm hmv=>?_
 rcases hx with hk | hk
 ·rw[X4 hk (by rw[eok.kind]; rfl)]
  refine nW hm L.cls (λh' hn hs hcl=>hQ env.locals h' _ hs (.inl (aB rfl (bx m hm))) (λ⟨u,o,e,q⟩=>by obtain ⟨o',es,ep,e',q',_⟩:=hm; rw[e] at e'; (have oc:=vj e'; clear e'; subst oc); rw[q] at q'; cases q') L.nz ?_)
  refine ⟨hcl,(ag _ hn (λy u hu hky=>?_)),L.nz,λn c hkn hc=>?_,λy u c hu hky hc=>?_,L.apart,kinds'⟩
  ·unfold fz at hu
   split at hu
   ·rename_i e; (clear hQ hk hn inj kinds'; subst e); (have oc:=vj hu; clear hu; subst oc); simp
   ·rename_i e
    rw[OB λq=>e (inj y q)]
    exact hmv y u hu hky
  ·refine aH (L.cell n c hkn hc) λh1 h2 NX=>?_
   refine av (NX) λu o h3 h4=>?_
   clear NX
   exact (cg h1 h2 (ay u o (hs.extBut c o h1 h3) h4))
  ·unfold fz at hu
   split at hu
   ·rename_i e; (clear hQ hn inj kinds'; subst e); rw[hk] at hky; cases hky
   ·refine ae (L.cell _ c hky hc) λh1 _=>?_
    refine af (L.cval y u c hu hky hc) λo h3 h4=>?_
    exact (ag o (hs.extBut c o h1 h3) h4)
 ·refine aj (eok.cells _ (.inl hk)) λco hco=>?_
  refine aH (L.cell _ co hk hco) λh1 h2 NK=>?_
  refine aj (NK) λg h3=>?_
  clear NK
  refine wJ eok.kind hk hco h3 λh' hn hs hkp=>hQ co h' s.toks hs (.inr ⟨g,h3⟩) hkp h2 ?_
  refine ⟨(af (L.cls) λo e c=>(ag o (hs.extBut _ o (P6 h1) e) c)),(ag m (hm.sameBut hs (P6 h1)) (λy u hu hky=>?_)),L.nz,λn c hkn hc=>?_,λy u c hu hky hc=>?_,L.apart,kinds'⟩
  ·unfold fz at hu
   split at hu
   ·rename_i e; (clear hQ hco inj kinds'; subst e); rw[hk] at hky; cases hky
   ·exact hmv y u hu hky
  ·refine aH (L.cell n c hkn hc) λg1 g2 Nc=>?_
   refine av (Nc) λu o g3 g4=>?_
   clear Nc
   by_cases e:c=co
   ·(clear h1 h2 h3 hco hkp hs; subst e); exact (cg g1 g2 (bx _ hn))
   ·exact (cg g1 g2 (ay u o (hs.extBut c o e g3) g4))
  ·unfold fz at hu
   split at hu
   ·rename_i e; (clear hQ hk inj kinds'; subst e); (have oc:=vj hu; clear hu; subst oc)
    rw[hco] at hc; (have oc:=vj hc; clear hc; subst oc)
    exact hn
   ·rename_i e
    refine af (L.cval y u c hu hky hc) λo g3 g4=>?_
    refine (ag o (hs.extBut c o (λq=>?_) g3) g4)
    (clear h1 h2 h3 hkp hn hs; subst q)
    exact e (inj y (L.apart _ _ c hc hco))
theorem RV.spot (r:RV h v x as) (tt:Spot env h T) (hkp:te T h h') (hL:∀ a∈as,a≠env.locals) (hs:PR T h h'):RV h' v x as:=by
 have i:∀ b o,b≠T->h.get? b=rg o->h'.get? b=rg o:=λb o l e=>hs.extBut b o l e
 have j:∀ a∈as,∀ o z ep,h.get? a=rg o->o.data = .dict z ep->a≠T:=λa ha o z ep e m q=>by
  (clear hkp hs i; subst q)
  rcases tt with ⟨t,_⟩ | ⟨v,g,e',hd'⟩
  ·exact hL a ha t
  ·rw[e'] at e; (have oc:=vj e; clear e; subst oc); rw[hd'] at m; cases m
 have key:∀ ks a,Sx (RD prog w) h ks a->Sx (RD prog w) h' ks a:=λks a hk=>by
  refine aV (hk) λo it n a1 a2 a3=>?_
  clear hk
  refine (cU o it n (i a o (λq=>?_) a1) a2 a3)
  (clear j hkp hs i; subst q)
  exact tt.noseq o a1 _ _ a3.1
 cases x with
 | d x=>exact ⟨r.1.off (wr:=[T]) (λb l o e=>.inl (by rw[OK.mp l] at e; exact tt.noseq o e)) λb o l e=>i b o (λq=>l (by simp[q])) e,r.2⟩
 | dic0=>
  refine jZ (r) λa h1 h2 p MU MR=>?_
  clear r
  refine dm (MU) λo z ep e hx m hr=>?_
  clear MU
  refine cH (MR) λg es' ep' e' h4 h5 h6 h7 h8=>?_
  clear MR
  (clear hL; subst h2)
  have k:=j a (.head _) o z ep e m
  exact (iU a h1 rfl p (gK o z ep (i a o k e) hx m hr) (fI g es' ep' (i a g k e') h4 h5 h6 (λy hy=>key _ _ (h7 y hy)) h8))
 | dicI ks=>
  refine bD (r) λa h1 h2 p MZ=>?_
  clear r
  refine dm (MZ) λo z ep e hx m hr=>?_
  clear MZ
  (clear hL; subst h2)
  have k:=j a (.head _) o z ep e m
  exact (bp a h1 rfl p (gK o z ep (i a o k e) hx m hr))
 | dicT ks=>
  refine jQ (r) λa xs h1 h2 p MV h9=>?_
  clear r
  refine cH (MV) λg es' ep' e' h4 h5 h6 h7 h8=>?_
  clear MV
  (clear hL; subst h2)
  have k:=j a (.head _) g es' ep' e' h5
  exact (gT a xs h1 rfl p (fI g es' ep' (i a g k e') h4 h5 h6 (λy hy=>key _ _ (h7 y hy)) h8) h9.1 h9.2.1 (λx hx=>(h9.2.2 x hx).off (wr:=[T]) (λb l o e=>.inl (by rw[OK.mp l] at e; exact tt.noseq o e)) λb o l e=>i b o (λq=>l (by simp[q])) e))
 | rule c d n=>
  refine jH (r) λx D o vf bs t u mA h1 h2 p h4 h5 h6 h7 MQ h9 h10 h11 h12 h13 h14=>?_
  clear r
  refine bl (MQ) λoD z ep e m=>?_
  clear MQ
  subst h2
  have hneD:D≠T:=j D (.tail _ (.head _)) oD z ep e m.1
  have hx:∃ g,h'.get? x=rg g/\g.cls = .ref SF.rule/\g.dict=rg D/\∀ c,g.data≠.cls c:=by
   by_cases q:x=T
   ·(clear j hneD hs i; subst q)
    revert tt; refine λNb=>Pc Nb (λM4=>?_) (λtt=>?_)
    ·clear Nb
     refine ae (M4) λtt Nz=>?_
     clear M4
     exact OW tt (hL x (.head _))
    ·refine bD (hkp tt o p) λg k1 k2 k3 k4=>?_
     exact (bp g k1 (k2.trans h4) (k3.trans h6) k4)
   ·exact (bp o (i x o q p) h4 h6 h5)
  refine bD (hx) λg x1 x2 x3 x4=>?_
  clear hx
  exact (jA x D g vf bs t u mA h1 rfl x1 x2 x4 x3 h7 (cf oD z ep (i D oD hneD e) m) h9 h10 h11 h12 (h13.off (wr:=[T]) (λb l o e=>.inl (by rw[OK.mp l] at e; exact tt.noseq o e)) λb o l e=>i b o (λq=>l (by simp[q])) e) h14)
 | err c=>
  obtain ⟨x,o,h1,h2,p,h4,h5⟩:=r
  subst h2
  have hx:∃ g,h'.get? x=rg g/\g.cls = .ref (SF.exc c):=by
   by_cases q:x=T
   ·(clear j hs i; subst q)
    rcases tt with ⟨tt,_⟩ | tt
    ·exact OW tt (hL x (.head _))
    ·obtain ⟨g,k1,k2,_⟩:=hkp tt o p; exact ⟨g,k1,k2.trans h4⟩
   ·exact ⟨o,i x o q p,h4⟩
  obtain ⟨g,x1,x2⟩:=hx
  exact ⟨x,g,h1,rfl,x1,x2,h5⟩
end
section
variable (fns:Fns) (k:ON)
structure SOK (h0:PE) (P Z:O1->Prop) (A:Pq) (env:Env) (h:PE) (σ:St) (vals:Ot->OE N8) (fp:Ot->vk O1):Prop where
 room:Room fns.hand k A
 eok:EnvOk env
 ge:GE fns h0
 z0:∀ b o,h0.get? b=rg o->Z b
 kp0:K h0 h
 code:fns.lam=Gt->∃ q,CodeOk h0 env.code q
 out:fns.hand=Oz->∃ l,A.frames=rg (env::l)/\FrOk h0 l/\env.frame=rg env.locals/\¬ SF.old env.locals
 zdom:∀ b,Z b->∃ o,h.get? b=rg o
 loc:Loc env Z h vals
 val:∀ x p,σ x=rg p->varK env.scope.names x=Gt/\∃ v,vals x=rg v/\RV h v p.1 (fp x)/\∀ a∈fp x,a≠env.locals/\(P a\/h0.get? a=OC)
 top:∀ x p,σ x=rg p->p.2 = .top->∃ a bs,fp x=a::bs/\¬ Z a/\a∉bs/\∀ y q,y≠x->σ y=rg q->a∉fp y
 deep:∀ x p,σ x=rg p->p.2 = .deep->(∀ a∈fp x,¬ Z a/\∀ y q,y≠x->σ y=rg q->a∉fp y)/\(fp x).Nodup
noncomputable def Stp (Z:O1->Prop) (s s':OA):Prop:=∃ h' tk,s' = {s with heap:=h',toks:=tk }/\KG Z s.heap h'
noncomputable def kQ (h0:PE) (P:O1->Prop) (r:V×Mode) (v:N8) (s':OA):Prop :=
 ∃ as,RV s'.heap v r.1 as/\(∀ a∈as,P a\/h0.get? a=OC)/\(r.2 = .top->∃ a bs,as=a::bs/\h0.get? a=OC/\a∉bs)/\(r.2 = .deep->(∀ a∈as,h0.get? a=OC)/\as.Nodup)
end
theorem Stp.refl (Z:O1->Prop) (s:OA):Stp Z s s:=(ay s.heap s.toks rfl KG.refl)
theorem Stp.trans (a:Stp Z s s₁) (b:Stp Z s₁ n):Stp Z s n:=by
 refine av (a) λh t i k=>?_
 clear a
 subst i
 refine av (b) λm j g l=>?_
 clear b
 subst g
 exact (ay m j rfl (k.trans l))
theorem Kp.stp (a:Kp s s₁):Stp Z s s₁:=by
 refine av (a) λh t g k=>?_
 clear a
 subst g
 exact (ay h t rfl (k.mono λuu uu=>trivial))
theorem Stp.mono (a:Stp Z' s s₁) (h:∀ b,Z b->Z' b):Stp Z s s₁:=by
 refine av (a) λi t g k=>?_
 clear a
 subst g
 exact (ay i t rfl (k.mono h))
theorem Stp.same (st:Stp Z s s₁) (hs:PR a s₁.heap h') (hz:¬ Z a) (hn:∀ o,s₁.heap.get? a=rg o->¬ Stay o):Stp Z s {s₁ with heap:=h',toks:=tk }:=by
 refine av (st) λh t g k=>?_
 clear st
 subst g
 exact (ay h' tk rfl (k.trans (KG.same hs hz hn)))
section
theorem SOK.onK (K:SOK fns k h0 P Z A env h σ vals fp) (kp:KG (λuu=>VU) h h'):SOK fns k h0 P Z A env h' σ vals fp where
 room:=K.room
 eok:=K.eok
 ge:=K.ge
 z0:=K.z0
 kp0:=KG.trans K.kp0 kp
 code:=K.code
 out:=K.out
 zdom:=λb j=>aj (K.zdom b j) λuu e=>Internal.K.there kp e
 loc:=K.loc.onK kp
 val:=λx p i=>ae (K.val x p i) λa g=>aq g λv b c d=>(aB a (aD v b (c.k kp) d))
 top:=K.top
 deep:=K.deep
theorem SOK.h0n (K:SOK fns k h0 P Z A env h σ vals fp) (ha:¬ Z a):h0.get? a=none:=by
 cases q:h0.get? a with
 | none=>rfl
 | some o=>exact OW (K.z0 a o q) ha
theorem fX (h:(mk v).2 = .deep):mq v=true:=by
 unfold mk at h; dsimp only at h
 split at h
 ·assumption
 ·cases h
theorem iz:(mk v).2≠.top:=by
 unfold mk; dsimp only; split<;>simp
theorem RV.scal_nil (r:RV h v x as) (hs:mq x=Gt):as=[]:=by
 cases x with
 | d x=>exact r.1.sx_nil hs
 | _=>exact nF hs
theorem b7 (h:demote σ ns x=rg p):∃ q,σ x=rg q/\p.1=q.1/\((x∈ns/\p=mk q.1)\/(x∉ns/\p=q)):=by
 unfold demote at h
 split at h
 ·refine bk h λq i g=>?_
  subst g
  exact (aD q i rfl (.inl ⟨by assumption,rfl⟩))
 ·exact (aD p h rfl (.inr ⟨by assumption,rfl⟩))
theorem eX {σ:St}{ns:vk Ot}{x:Ot}{p:V×Mode}{G:Prop}(h:demote σ ns x=rg p) (k:∀ q,σ x=rg q->p.1=q.1->((x∈ns/\p=mk q.1)\/(x∉ns/\p=q))->G):G:=aq (b7 h) k
theorem SOK.demote (K:SOK fns k h0 P Z A env h σ vals fp) (ns:vk Ot):SOK fns k h0 P Z A env h (demote σ ns) vals fp where
 room:=K.room
 eok:=K.eok
 ge:=K.ge
 z0:=K.z0
 kp0:=K.kp0
 code:=K.code
 out:=K.out
 zdom:=K.zdom
 loc:=K.loc
 val:=λx p m=>by
  refine eX m λq j e _=>?_
  rw[e]
  exact K.val x q j
 top:=λx p m ht=>by
  refine eX m λq j e u=>?_
  rcases u with ⟨_,rfl⟩ | ⟨_,rfl⟩
  ·exact OW ht iz
  ·refine a8 (K.top x p j ht) λa bs n z h3 h4=>?_
   refine (bF a bs n z h3 (λy r t l=>?_))
   refine af (b7 l) λo i _=>?_
   exact h4 y o t i
 deep:=λx p m hd=>by
  refine eX m λq j e u=>?_
  rcases u with ⟨_,rfl⟩ | ⟨_,rfl⟩
  ·refine ae (K.val x q j) λuu g=>?_
   refine aq (g) λv _ l _=>?_
   clear g
   rw[l.scal_nil (fX hd)]
   exact ⟨λuu h=>(nomatch h),.nil⟩
  ·refine ae (K.deep x p j hd) λn z=>?_
   refine ⟨λa ha=>⟨(n a ha).1,λy r t l=>?_⟩,z⟩
   refine af (b7 l) λo i _=>?_
   exact (n a ha).2 y o t i
theorem SOK.consume (K:SOK fns k h0 P Z A env h σ vals fp) (ns:vk Ot) (m:Mode):SOK fns k h0 P Z A env h (consume σ ns m) vals fp:=by
 unfold Internal.consume
 split
 ·exact K
 ·exact K.demote ns
noncomputable def Own (σ:St) (fp:Ot->vk O1) (ns:vk Ot) (a:O1):Prop:=∃ y q,y∈ns/\σ y=rg q/\a∈fp y
theorem SOK.cx {s:OA}(K:SOK fns k h0 P Z A env s.heap σ vals fp) (ns:vk Ot):Cx fns k A (Own σ fp ns) s.heap env (cD σ ns) where
 room:=K.room
 eok:=K.eok
 ge:=K.ge.k K.kp0
 code:=λe=>aj (K.code e) λq c=>⟨q,c.k K.kp0⟩
 frm:=λe=>by
  refine bD (K.out e) λl h1 h2 h3 h4=>?_
  refine (ag _ h1 (λj he=>?_))
  rcases O9.mp he with rfl | he
  ·refine af (K.loc.ns) λm h _=>?_
   refine aV (h) λo es ep r e2 _=>?_
   clear h
   refine af (K.loc.cls) λo' n e4=>?_
   rw[r] at n; (have t:=vj n; clear n; subst t)
   exact (aB K.eok.kind (jX _ _ es ep h3 h4 r e4 e2))
  ·exact (h2.k K.kp0) j he
 vars:=λx p i _=>by
  unfold cD at i
  split at i
  ·refine ae (K.val x p i) λuu g=>?_
   refine aq (g) λv u y _=>?_
   clear g
   exact (aP v (fp x) (K.loc.var K.eok u) y (λa z=>(aP x p ‹_› i z)))
  ·exact nN i
theorem SOK.eval (K:SOK fns k h0 P Z A env s.heap σ vals fp) (S:SimE fns k C XP e) (ok:okE env.scope.names e exx=Gt) (he:ev C e σ = .ok r)
  (hQ:∀ v s',EP (Own σ fp (fv e)) s r v s'->Q v s'):OQ (OT prog w) A (SW exx env) Q Er s:=by
 have h:ev C e (cD σ (fv e)) = .ok r:=by rw[az C e _ σ (b8 σ (fv e))]; exact he
 exact S ok (K.cx (fv e)) (by rw[h]; simp) (λl g v s' E=>by rw[h] at g; (have j:=Out.ok.inj g; clear g; subst j); exact hQ v s' E) λc i=>by rw[h] at i; cases i
theorem SOK.evalT (K:SOK fns k h0 P Z A env s.heap σ vals fp) (S:SimT fns k C XP e) (ok:okE env.scope.names e exx=Gt) (he:((ev C e σ).bind λr=>au r.1) = .ok b)
  (hQ:∀ s',Kp s s'->Q b s'):OQ (OT prog w) A (isTrue exx env (WF exx env)) Q Er s:=by
 have h:ev C e (cD σ (fv e))=ev C e σ:=az C e _ σ (b8 σ (fv e))
 refine S ok (K.cx (fv e)) (by rw[h,he]; simp) (λm g s' l=>by rw[h,he] at g; (have j:=Out.ok.inj g; clear g; subst j); exact hQ s' l) λc i=>?_
 rw[h] at i; rw[i] at he; exact nE he
theorem SOK.own (K:SOK fns k h0 P Z A env h σ vals fp) (ha:Own σ fp ns a):(∃ o,h.get? a=rg o)/\a≠env.locals/\(P a\/h0.get? a=OC):=by
 refine aw (ha) λy q _ l i=>?_
 clear ha
 refine ae (K.val y q l) λuu g=>?_
 refine aq (g) λv _ j m=>?_
 clear g
 exact ⟨j.there a i,m a i⟩
noncomputable def Frm (Z:O1->Prop) (xs:vk Ot) (σ:St) (vals:Ot->OE N8) (fp:Ot->vk O1) (σ':St) (vals':Ot->OE N8) (fp':Ot->vk O1):Prop :=
 (∀ y,y∉xs->vals' y=vals y/\fp' y=fp y)/\∀ b,Z b->(∀ z q,σ z=rg q->b∉fp z)->∀ z q,σ' z=rg q->b∉fp' z
section
theorem Frm.id (h:∀ z q,σa z=rg q->∃ q',σ z=rg q'):Frm Z xs σ vals fp σa vals fp :=
 ⟨λuu uu=>⟨rfl,rfl⟩,λb _ j z q i=>aj (h z q i) λq' g=>j z q' g⟩
theorem Frm.more (f:Frm Z xs σ vals fp σa valsa fpa) (h:∀ y∈xs,y∈ys):Frm Z ys σ vals fp σa valsa fpa:=⟨λy g=>f.1 y λq=>g (h y q),f.2⟩
theorem Frm.trans (f:Frm Z xs σ vals fp σa valsa fpa) (g:Frm Z ys σa valsa fpa σb valsb fpb):Frm Z (xs++ys) σ vals fp σb valsb fpb :=
 ⟨λy i=>let a:=f.1 y λq=>i (PC _ q); let b:=g.1 y λq=>i (PA _ q); ⟨b.1.trans a.1,b.2.trans a.2⟩,λb h j=>g.2 b h (f.2 b h j)⟩
theorem Frm.less (f:Frm Z' xs σ vals fp σa valsa fpa) (h:∀ b,Z b->Z' b):Frm Z xs σ vals fp σa valsa fpa:=⟨f.1,λb g=>f.2 b (h b g)⟩
theorem Frm.one (hv:∀ y,y≠x->valsa y=vals y) (h:∀ z q,σa z=rg q->∃ q',σ z=rg q') (ha:∀ b∈as,Z b->∃ z q,σ z=rg q/\b∈fp z) :
  Frm Z [x] σ vals fp (upd σa x r) valsa (λy=>if y=x then as else fp y):=by
 refine ⟨λy l=>⟨hv y λq=>l (by simp[q]),OB λq=>l (by simp[q])⟩,λb o m z q j g=>?_⟩
 unfold upd at j
 dsimp only at g
 by_cases e:z=x
 ·have k:b∈as:=by rwa [OD e] at g
  refine av (ha b k o) λn q' t p=>?_
  exact m n q' t p
 ·rw[OB e] at j g
  refine aj (h z q j) λq' i=>?_
  exact m z q' i g
end
theorem dh (hq:Internal.consume σ ns m y=rg q):∃ q',σ y=rg q':=by
 unfold Internal.consume at hq
 split at hq
 ·exact ⟨q,hq⟩
 ·obtain ⟨q',g,_⟩:=b7 hq; exact ⟨q',g⟩
theorem SOK.put (K:SOK fns k h0 P Z A env s.heap σ vals fp)
  (hvk:varK env.scope.names x=Gt) (hk:env.kindOf (mL x)=rg .local\/env.kindOf (mL x)=rg .cell)
  (rv:RV s.heap v r.1 as) (ha:∀ a∈as,a≠env.locals/\(P a\/h0.get? a=OC))
  (ht:r.2 = .top->∃ a bs,as=a::bs/\¬ Z a/\a∉bs/\∀ y q,y≠x->σ y=rg q->a∉fp y) (hd:r.2 = .deep->(∀ a∈as,¬ Z a/\∀ y q,y≠x->σ y=rg q->a∉fp y)/\as.Nodup)
  (hdis:∀ y q,y≠x->σ y=rg q->(q.2 = .top->∀ a bs,fp y=a::bs->a∉as)/\(q.2 = .deep->∀ a∈fp y,a∉as))
  (hQ:∀ s',Stp Z s s'->(∀ b o,b≠env.locals->(∀ u,o.data≠.cell u)->s.heap.get? b=rg o->s'.heap.get? b=rg o)->SOK fns k h0 P Z A env s'.heap (upd σ x r) (fz vals x v) (λy=>if y=x then as else fp y)->Q () s'):OQ (OT prog w) A (Vh env (mL x) v) Q Er s:=by
 refine K.loc.store K.eok hk λT h' tk hs hT hKp hZ L=>hQ _ ((Stp.refl Z s).same hs hZ hT.nostay) (λb o hb hc e=>hs.extBut b o (λq=>?_) e) ?_
 ·rcases hT with ⟨hT,_⟩ | ⟨u,o',e',hd'⟩
  ·exact hb (q.trans hT)
  ·(clear hKp hZ hs; subst q)
   rw[e'] at e; (have t:=vj e; clear e; subst t)
   exact hc u hd'
 have h0n:∀ a,¬ Z a->h0.get? a=none:=λa ha=>by
  cases q:h0.get? a with
  | none=>rfl
  | some o=>exact OW (K.z0 a o q) ha
 have kz:∀ b o,Z b->s.heap.get? b=rg o->h'.get? b=rg o:=λb o hb e=>hs.extBut b o (λq=>hZ (q▸hb)) e
 refine ⟨K.room,K.eok,K.ge,K.z0,Internal.K.same K.kp0 hs (h0n _ hZ) hT.nostay,K.code,K.out,λb hb=>aj (K.zdom b hb) λo e=>⟨o,kz b o hb e⟩,L,λy p g=>?_,λy p g htp=>?_,λy p g hdp=>?_⟩
 ·unfold upd at g
  by_cases hy:y=x
  ·(clear L hQ hd hdis hk ht; subst hy)
   rw[OD rfl] at g; (have t:=vj g; clear g; subst t)
   refine (aB hvk (aD v (by simp[fz]) ?_ ?_))
   ·rw[OD rfl]; exact rv.spot hT hKp (λa h=>(ha a h).1) hs
   ·rw[OD rfl]; exact ha
  ·rw[OB hy] at g
   refine ae (K.val y p g) λj l=>?_
   refine aq (l) λu n h3 h4=>?_
   clear l
   refine (aB j (aD u (by simpa [fz,hy] using n) ?_ ?_))
   ·rw[OB hy]; exact h3.spot hT hKp (λa h=>(h4 a h).1) hs
   ·rw[OB hy]; exact h4
 ·unfold upd at g
  by_cases hy:y=x
  ·(clear L hQ hd hdis hk hvk; subst hy)
   rw[OD rfl] at g; (have t:=vj g; clear g; subst t)
   refine a8 (ht htp) λa bs j n h3 h4=>?_
   refine (bF a bs (by rw[OD rfl]; exact j) n h3 (λz q m i=>?_))
   unfold upd at i
   rw[OB m] at i ⊢
   exact h4 z q m i
  ·rw[OB hy] at g
   refine a8 (K.top y p g htp) λa bs j n h3 h4=>?_
   refine (bF a bs (by rw[OB hy]; exact j) n h3 (λz q m i=>?_))
   unfold upd at i
   by_cases hzx:z=x
   ·rw[OD hzx]
    exact (hdis y p hy g).1 htp a bs j
   ·rw[OB hzx] at i ⊢
    exact h4 z q m i
 ·unfold upd at g
  by_cases hy:y=x
  ·(clear L hQ hdis hk ht hvk; subst hy)
   rw[OD rfl] at g; (have t:=vj g; clear g; subst t)
   refine ae (hd hdp) λj n=>?_
   rw[OD rfl]
   refine ⟨λa h=>⟨(j a h).1,λz q m i=>?_⟩,n⟩
   unfold upd at i
   rw[OB m] at i ⊢
   exact (j a h).2 z q m i
  ·rw[OB hy] at g ⊢
   refine ae (K.deep y p g hdp) λj n=>?_
   refine ⟨λa h=>⟨(j a h).1,λz q m i=>?_⟩,n⟩
   unfold upd at i
   by_cases hzx:z=x
   ·rw[OD hzx]
    exact (hdis y p hy g).2 hdp a h
   ·rw[OB hzx] at i ⊢
    exact (j a h).2 z q m i
theorem SOK.put_ep (K:SOK fns k h0 P Z A env s.heap σ vals fp)
  (hvk:varK env.scope.names x=Gt) (hk:env.kindOf (mL x)=rg .local\/env.kindOf (mL x)=rg .cell) (E:EP (Own σ fp ns) s r v s₁)
  (hQ:∀ s' as,RV s₁.heap v r.1 as->Stp Z s₁ s'->(∀ b o,b≠env.locals->(∀ u,o.data≠.cell u)->s₁.heap.get? b=rg o->s'.heap.get? b=rg o)->SOK fns k h0 P Z A env s'.heap (upd (Internal.consume σ ns r.2) x r) (fz vals x v) (λy=>if y=x then as else fp y)->Frm Z [x] σ vals fp (upd (Internal.consume σ ns r.2) x r) (fz vals x v) (λy=>if y=x then as else fp y)->Q () s'):OQ (OT prog w) A (Vh env (mL x) v) Q Er s₁:=by
 obtain ⟨kp,as,rv,ha,ht,hd⟩:=E
 have K₁:=(K.onK kp.k).consume ns r.2
 have nz:∀ a,s.heap.get? a=OC->¬ Z a:=λa e hz=>by
  refine aj (K.zdom a hz) λo t=>?_
  rw[e] at t; exact nN t
 have nf:∀ a,s.heap.get? a=OC->∀ y q,σ y=rg q->a∉fp y:=λa e y q i hm=>by
  refine ae (K.val y q i) λuu n=>?_
  refine aq (n) λu _ hr _=>?_
  clear n
  refine aj (hr.there a hm) λo t=>?_
  rw[e] at t; exact nN t
 have cs:∀ y q,Internal.consume σ ns r.2 y=rg q->∃ l,σ y=rg l:=λy q i=>by
  unfold Internal.consume at i
  split at i
  ·exact ⟨q,i⟩
  ·obtain ⟨l,g,_⟩:=b7 i; exact ⟨l,g⟩
 refine af (K.loc.ns) λmL hmL _=>?_
 refine K₁.put hvk hk rv (λa h=>?_) (λhtop=>?_) (λhdeep=>?_) (λy q hy i=>?_) (λs' st kk K'=>hQ s' as rv st kk K' (.one (λy hy=>OB hy) (λz q i=>dh i) λb hb hz=>(ha b hb).elim (λ⟨y,q,_,h1,h2⟩=>(ay y q h1 h2)) λe=>OW hz (nz b e)))
 ·rcases ha a h with h1 | h1
  ·exact (K.own h1).2
  ·refine ⟨λq=>?_,.inr ?_⟩
   ·refine bl (hmL) λo _ _ e _=>?_
    clear hmL
    rw[<- q] at e
    rw[h1] at e; exact nN e
   ·cases e:h0.get? a with
    | none=>rfl
    | some o=>obtain ⟨_,t⟩:=Internal.K.there K.kp0 e; rw[t] at h1; exact nM h1
 ·refine aw (ht htop) λa bs h1 h2 h3=>?_
  exact (bF a bs h1 (nz a h2) h3 (λy q _ i=>aj (cs y q i) λl g=>nf a h2 y l g))
 ·refine ae (hd hdeep) λh1 h2=>?_
  exact ⟨λa h=>⟨nz a (h1 a h),λy q _ i=>aj (cs y q i) λl g=>nf a (h1 a h) y l g⟩,h2⟩
 ·have main:∀ a,(a∈as)->(∀ y' l,σ y' = rg l->a∈fp y'->y'≠y\/(y'∈ns/\r.2≠.deep))\/True:=λuu uu=>.inr trivial
  clear main
  by_cases hdp:r.2 = .deep
  ·have h1:=(hd hdp).1
   refine aj (cs y q i) λl g=>?_
   exact ⟨λuu a bs e hm=>nf a (h1 a hm) y l g (by rw[e]; exact .head _),λuu a j hm=>nf a (h1 a hm) y l g j⟩
  ·have hq2:Internal.demote σ ns y=rg q:=by unfold Internal.consume at i; rwa [OB hdp] at i
   refine eX hq2 λl g e1 hc=>?_
   rcases hc with ⟨_,rfl⟩ | ⟨hn,rfl⟩
   ·refine ⟨λh=>OW h iz,λh a j=>?_⟩
    refine ae (K.val y l g) λuu m=>?_
    refine aq (m) λu _ hr _=>?_
    clear m
    rw[hr.scal_nil (fX h)] at j
    cases j
   ·refine ⟨λh a bs e hm=>?_,λh a j hm=>?_⟩
    ·refine Pc (ha a hm) (λM4=>?_) (λh1=>?_)
     ·refine aw (M4) λz p hz hp hf=>?_
      clear M4
      refine a8 (K.top y q g h) λa' bs' t _ _ h4=>?_
      rw[e] at t; cases t
      exact h4 z p (λq=>hn (q▸hz)) hp hf
     ·exact nf a h1 y q g (by rw[e]; exact .head _)
    ·refine Pc (ha a hm) (λM7=>?_) (λh1=>?_)
     ·refine aw (M7) λz p hz hp hf=>?_
      clear M7
      exact ((K.deep y q g h).1 a j).2 z p (λq=>hn (q▸hz)) hp hf
     ·exact nf a h1 y q g j
theorem SOK.freeze (K:SOK fns k h0 P Z A env h σ vals fp) {G:O1->Prop}(hdom:∀ b,G b->∃ o,h.get? b=rg o) (hL:¬ G env.locals) (hc:∀ n c,env.kindOf n=rg .cell->env.cells.lookup n=rg c->¬ G c)
  (ht:∀ x p,σ x=rg p->p.2 = .top->∀ a bs,fp x=a::bs->¬ G a) (hd:∀ x p,σ x=rg p->p.2 = .deep->∀ a∈fp x,¬ G a):SOK fns k h0 P (λb=>Z b\/G b) A env h σ vals fp where
 room:=K.room
 eok:=K.eok
 ge:=K.ge
 z0:=λb o e=>.inl (K.z0 b o e)
 kp0:=K.kp0
 code:=K.code
 out:=K.out
 zdom:=λb y=>y.elim (K.zdom b) (hdom b)
 loc:={K.loc with
  nz:=λq=>q.elim K.loc.nz hL
  cell:=λn c a b=>by
   refine aH (K.loc.cell n c a b) λi m g=>?_
   refine av (g) λv o u t=>?_
   clear g
   exact (cg i (λq=>q.elim m (hc n c a b)) (ay v o u t)) }
 val:=K.val
 top:=λx p l j=>by
  refine a8 (K.top x p l j) λa bs i m u t=>?_
  exact (bF a bs i (λq=>q.elim m (ht x p l j a bs i)) u t)
 deep:=λx p l j=>by
  refine ae (K.deep x p l j) λi m=>?_
  exact ⟨λa r=>⟨λq=>q.elim (i a r).1 (hd x p l j a r),(i a r).2⟩,m⟩
theorem SOK.thaw {Z':O1->Prop}(K:SOK fns k h0 P Z' A env h σ vals fp) (hz:∀ b,Z b->Z' b) (h0z:∀ b o,h0.get? b=rg o->Z b):SOK fns k h0 P Z A env h σ vals fp where
 room:=K.room
 eok:=K.eok
 ge:=K.ge
 z0:=h0z
 kp0:=K.kp0
 code:=K.code
 out:=K.out
 zdom:=λb t=>K.zdom b (hz b t)
 loc:={K.loc with
  nz:=λq=>K.loc.nz (hz _ q)
  cell:=λn c a b=>by
   refine aH (K.loc.cell n c a b) λg i m=>?_
   exact ⟨g,λq=>i (hz _ q),m⟩ }
 val:=K.val
 top:=λx p l j=>by
  refine a8 (K.top x p l j) λa v g i m u=>?_
  exact (bF a v g (λq=>i (hz _ q)) m u)
 deep:=λx p l j=>by
  refine ae (K.deep x p l j) λg i=>?_
  exact ⟨λa r=>⟨λq=>(g a r).1 (hz _ q),(g a r).2⟩,i⟩
end
section
theorem RV.offA (r:RV h v x as) (ho:h.get? a=rg o) (hc:o.cls≠.type "tuple") (hn:a∉as) (hs:PR a h h'):RV h' v x as:=by
 have j:∀ b o,b≠a->h.get? b=rg o->h'.get? b=rg o:=λb o i e=>hs.extBut b o i e
 have key:∀ ks b,Sx (RD prog w) h ks b->Sx (RD prog w) h' ks b:=λks b hk=>by
  refine aV (hk) λk it n a1 a2 a3=>?_
  clear hk
  refine (cU k it n (j b k (λq=>?_) a1) a2 a3)
  (clear hn hs j; subst q)
  rw[ho] at a1; (have z:=vj a1; clear a1; (clear a3; subst z))
  exact hc a2
 cases x with
 | d x=>exact ⟨r.1.off (wr:=[a]) (λb i k e=>.inr (by
   rw[OK.mp i] at e ⊢
   rw[ho] at e; (have z:=vj e; clear e; subst z)
   exact ⟨hc,hn⟩)) λb o i e=>j b o (λq=>i (by simp[q])) e,r.2⟩
 | dic0=>
  refine jZ (r) λb p m l MU MR=>?_
  clear r
  refine bl (MU) λo es ep e hr=>?_
  clear MU
  refine cH (MR) λk es' ep' e' h4 h5 h6 h7 h8=>?_
  clear MR
  subst m
  have g:b≠a:=λq=>hn (by simp[q])
  exact (iU b p rfl l (cf o es ep (j b o g e) hr) (fI k es' ep' (j b k g e') h4 h5 h6 (λy hy=>key _ _ (h7 y hy)) h8))
 | dicI ks=>
  refine bD (r) λb p m l MZ=>?_
  clear r
  refine bl (MZ) λo es ep e hr=>?_
  clear MZ
  subst m
  have g:b≠a:=λq=>hn (by simp[q])
  exact (bp b p rfl l (cf o es ep (j b o g e) hr))
 | dicT ks=>
  refine jQ (r) λb xs p m l MV h9=>?_
  clear r
  refine cH (MV) λk es' ep' e' h4 h5 h6 h7 h8=>?_
  clear MV
  subst m
  have g:b≠a:=λq=>hn (by simp[q])
  exact (gT b xs p rfl l (fI k es' ep' (j b k g e') h4 h5 h6 (λy hy=>key _ _ (h7 y hy)) h8) h9.1 h9.2.1 (λx hx=>(h9.2.2 x hx).off (wr:=[a]) (λb i k e=>.inr (by
   rw[OK.mp i] at e ⊢
   rw[ho] at e; (have z:=vj e; clear e; subst z)
   exact ⟨hc,λq=>nomatch q⟩)) λb o i e=>j b o (λq=>i (by simp[q])) e))
 | rule c d n=>
  refine jH (r) λy D oy vf bs t u mA p m l h4 h5 h6 h7 MQ h9 h10 h11 h12 h13 h14=>?_
  clear r
  refine bl (MQ) λoD es ep e hd=>?_
  clear MQ
  subst m
  have n1:y≠a:=λq=>hn (by simp[q])
  have n2:D≠a:=λq=>hn (by simp[q])
  exact (jA y D oy vf bs t u mA p rfl (j y oy n1 l) h4 h5 h6 h7 (cf oD es ep (j D oD n2 e) hd) h9 h10 h11 h12 (h13.off (wr:=[a]) (λb i k e=>.inr (by
   rw[OK.mp i] at e ⊢
   rw[ho] at e; (have z:=vj e; clear e; subst z)
   exact ⟨hc,λq=>hn (.tail _ (.tail _ q))⟩)) λb o i e=>j b o (λq=>i (by simp[q])) e) h14)
 | err c=>obtain ⟨y,oy,p,m,l,h4,h5⟩:=r; subst m; exact ⟨y,oy,p,rfl,j y oy (λq=>hn (by simp[q])) l,h4,h5⟩
theorem Loc.offA {a:O1}{o:Obj}(L:Loc env Z h vals) (ho:h.get? a=rg o) (hc:∀ v,o.data≠.cell v) (hL:a≠env.locals) (hs:PR a h h'):Loc env Z h' vals where
 cls:=af (L.cls) λo e c=>(ag o (hs.extBut _ o (P6 hL) e) c)
 ns:=af (L.ns) λm x y=>(ag m (x.sameBut hs (P6 hL)) y)
 nz:=L.nz
 cell:=λn c x y=>by
  refine aH (L.cell n c x y) λu t g=>?_
  refine av (g) λv j i k=>?_
  clear g
  refine (cg u t (ay v j (hs.extBut c j (λq=>?_) i) k))
  (clear hL hs; subst q)
  rw[ho] at i; (have l:=vj i; clear i; subst l)
  exact hc v k
 cval:=λx v c p q r=>by
  refine af (L.cval x v c p q r) λj i k=>?_
  refine (ag j (hs.extBut c j (λq=>?_) i) k)
  (clear hL hs; subst q)
  rw[ho] at i; (have l:=vj i; clear i; subst l)
  exact hc _ k
 apart:=L.apart
 kinds:=L.kinds
theorem SOK.write (K:SOK fns k h0 P Z A env h σ vals fp) (hp:σ x=rg p) (hval:vals x=rg (.ref a)) (ho:h.get? a=rg o) (hoc:o.cls≠.type "tuple") (hst:¬ Stay o) (hod:∀ v,o.data≠.cell v)
  (hnz:¬ Z a) (hne:∀ y q,y≠x->σ y=rg q->a∉fp y) (haL:a≠env.locals/\(P a\/h0.get? a=OC)) (hs:PR a h h') (rv:RV h' (.ref a) v' (a::bs')) (hb:∀ b∈bs',b≠env.locals/\(P b\/h0.get? b=OC))
  (ht:m' = .top->a∉bs') (hd:m' = .deep->(∀ b∈bs',¬ Z b/\∀ y q,y≠x->σ y=rg q->b∉fp y)/\(a::bs').Nodup)
  (hdis:∀ y q,y≠x->σ y=rg q->(q.2 = .top->∀ b cs,fp y=b::cs->b∉bs')/\(q.2 = .deep->∀ b∈fp y,b∉bs')) :
  SOK fns k h0 P Z A env h' (upd σ x (v',m')) vals (λy=>if y=x then a::bs' else fp y):=by
 have h0n:h0.get? a=none:=by
  cases q:h0.get? a with
  | none=>rfl
  | some o=>exact OW (K.z0 a o q) hnz
 have kz:∀ b o,Z b->h.get? b=rg o->h'.get? b=rg o:=λb o hb e=>hs.extBut b o (λq=>hnz (q▸hb)) e
 refine ⟨K.room,K.eok,K.ge,K.z0,Internal.K.same K.kp0 hs h0n (λo' e=>by rw[ho] at e; (have t:=vj e; clear e; subst t); exact hst),K.code,K.out,λb hb=>aj (K.zdom b hb) λo e=>⟨o,kz b o hb e⟩,K.loc.offA ho hod haL.1 hs,λy q i=>?_,λy q i htp=>?_,λy q i hdp=>?_⟩
 ·unfold upd at i
  by_cases hy:y=x
  ·(clear hd hdis hne; subst hy)
   rw[OD rfl] at i; (have t:=vj i; clear i; subst t)
   rw[OD rfl]
   refine (aB ((K.val y p hp).1) (aD (.ref a) hval rv (λb g=>?_)))
   rcases O9.mp g with rfl | g
   ·exact haL
   ·exact hb b g
  ·rw[OB hy] at i ⊢
   refine ae (K.val y q i) λn m=>?_
   refine aq (m) λu h2 h3 h4=>?_
   clear m
   exact (aB n (aD u h2 (h3.offA ho hoc (hne y q hy i) hs) h4))
 ·unfold upd at i
  by_cases hy:y=x
  ·(clear hd hdis hp hval; subst hy)
   rw[OD rfl] at i; (have t:=vj i; clear i; subst t)
   rw[OD rfl]
   refine (bF a bs' rfl hnz (ht htp) (λz r l j=>?_))
   unfold upd at j
   rw[OB l] at j ⊢
   exact hne z r l j
  ·rw[OB hy] at i ⊢
   refine a8 (K.top y q i htp) λb cs n h2 h3 h4=>?_
   refine (bF b cs n h2 h3 (λz r l j=>?_))
   unfold upd at j
   by_cases hzx:z=x
   ·rw[OD hzx]
    intro hm
    rcases O9.mp hm with e | hm
    ·exact hne y q hy i (by rw[n,e]; exact .head _)
    ·exact (hdis y q hy i).1 htp b cs n hm
   ·rw[OB hzx] at j ⊢
    exact h4 z r l j
 ·unfold upd at i
  by_cases hy:y=x
  ·(clear hdis hp hval; subst hy)
   rw[OD rfl] at i; (have t:=vj i; clear i; subst t)
   rw[OD rfl]
   refine ae (hd hdp) λn h2=>?_
   refine ⟨λb g=>?_,h2⟩
   rcases O9.mp g with rfl | g
   ·refine ⟨hnz,λz r l j=>?_⟩
    unfold upd at j
    rw[OB l] at j ⊢
    exact hne z r l j
   ·refine ⟨(n b g).1,λz r l j=>?_⟩
    unfold upd at j
    rw[OB l] at j ⊢
    exact (n b g).2 z r l j
  ·rw[OB hy] at i ⊢
   refine ae (K.deep y q i hdp) λn h2=>?_
   refine ⟨λb g=>⟨(n b g).1,λz r l j=>?_⟩,h2⟩
   unfold upd at j
   by_cases hzx:z=x
   ·rw[OD hzx]
    intro hm
    rcases O9.mp hm with e | hm
    ·exact hne y q hy i (e▸g)
    ·exact (hdis y q hy i).2 hdp b g hm
   ·rw[OB hzx] at j ⊢
    exact (n b g).2 z r l j
theorem SOK.head (K:SOK fns k h0 P Z A env h σ vals fp) (hp:σ x=rg (.d (.list xs),m)) (hm:m≠.sh) :
  ∃ a vs n bs,vals x=rg (.ref a)/\h.get? a=rg ⟨.type "list", OC,.seq vs.toArray n,#[]⟩/\RA h vs xs bs/\fp x=a::bs/\sz (.list xs)=Gt/\¬ Z a/\a∉bs/\(∀ y q,y≠x->σ y=rg q->a∉fp y)/\(∀ b∈a::bs,b≠env.locals/\(P b\/h0.get? b=OC)) /\
   (m = .deep->(∀ b∈bs,¬ Z b/\∀ y q,y≠x->σ y=rg q->b∉fp y)/\bs.Nodup):=by
 refine ae (K.val x _ hp) λuu g=>?_
 refine aq (g) λv hv l o=>?_
 clear g
 refine ae (l) λr z=>?_
 clear l
 refine r.isList_k λa vs n bs p ea u e=>?_
 (clear r; subst p)
 refine ⟨a,vs,n,bs,hv,ea,u,e,z,?_⟩
 rw[e] at o
 cases m with
 | sh=>exact OW rfl hm
 | top=>
  refine a8 (K.top x _ hp rfl) λa' bs' t j i h3=>?_
  rw[e] at t; cases t
  exact (cr j i h3 o (λh=>(by cases h)))
 | deep=>
  refine ae (K.deep x _ hp rfl) λj i=>?_
  rw[e] at j i
  rw[Q0] at i
  exact (cr ((j a (.head _)).1) i.1 ((j a (.head _)).2) o (λuu=>⟨λb o=>j b (.tail _ o),i.2⟩))
end
section
variable (fns:Fns) (k:ON) (C:Calls)
noncomputable def dz (st:S):Prop:=∀ {stmt:R5}{h0:PE}{P Z:O1->Prop}{A:Pq}{env:Env}{σ:St}{vals:Ot->OE N8}{fp:Ot->vk O1}{s:OA}{Q:ZR->OA->Prop}{Er:N8->OA->Prop}{σ':St}{fl:Flw},
 okS env.scope.names st stmt=Gt->SOK fns k h0 P Z A env s.heap σ vals fp->ex C st σ = .ok (σ',fl) ->
 (fl = .next->∀ s' vals' fp',Stp Z s s'->SOK fns k h0 P Z A env s'.heap σ' vals' fp'->Frm Z (asg st) σ vals fp σ' vals' fp'->Q .next s')->(∀ r,fl = .ret r->∀ v s',Stp Z s s'->kQ h0 P r v s'->Q (.ret v) s') ->
 OQ (OT prog w) A (exec stmt env) Q Er s
noncomputable def dM (st:Ss):Prop:=∀ {stmts:vk R5}{h0:PE}{P Z:O1->Prop}{A:Pq}{env:Env}{σ:St}{vals:Ot->OE N8}{fp:Ot->vk O1}{s:OA}{Q:ZR->OA->Prop}{Er:N8->OA->Prop}{σ':St}{fl:Flw},
 cz env.scope.names st stmts=Gt->SOK fns k h0 P Z A env s.heap σ vals fp->exs C st σ = .ok (σ',fl) ->
 (fl = .next->∀ s' vals' fp',Stp Z s s'->SOK fns k h0 P Z A env s'.heap σ' vals' fp'->Frm Z (g7 st) σ vals fp σ' vals' fp'->Q .next s')->(∀ r,fl = .ret r->∀ v s',Stp Z s s'->kQ h0 P r v s'->Q (.ret v) s') ->
 OQ (OT prog w) A (Yx stmts env) Q Er s
end
section
variable {fns:Fns}{k:ON}{C:Calls}{XP:Ot->OA->N8->OA->Prop}
theorem bnd {env:Env}{x:Ot}(h:bv env.scope.names x=Gt):varK env.scope.names x=Gt/\aT x=Gt/\(env.kindOf (mL x)=rg .local\/env.kindOf (mL x)=rg .cell):=by
 unfold bv at h
 simp only[OJ,Vo,OZ] at h
 exact ⟨h.1.1,h.1.2,h.2⟩
theorem fC {env:Env}{x:Ot}{G:Prop}(h:bv env.scope.names x=Gt) (k:varK env.scope.names x=Gt->aT x=Gt->(env.kindOf (mL x)=rg .local\/env.kindOf (mL x)=rg .cell)->G):G:=aH (bnd h) k
theorem r7 (K:SOK fns k h0 P Z A env s.heap σ vals fp) (E:EP (Own σ fp ns) s r v s') :
  kQ h0 P r v s':=by
 obtain ⟨y,as,j,m,l,i⟩:=E
 have g:∀ a,s.heap.get? a=OC->h0.get? a=none:=λa e=>by
  cases q:h0.get? a with
  | none=>rfl
  | some o=>obtain ⟨_,u⟩:=Internal.K.there K.kp0 q; rw[u] at e; exact nM e
 exact (bp as j (λa h=>(m a h).elim (λq=>(K.own q).2.2) λq=>.inr (g a q)) (λq=>aw (l q) λa x t p n=>(aP a x t (g a p) n)) (λq=>⟨λa h=>g a ((i q).1 a h),(i q).2⟩))
theorem lE {σa σ':St}{fl:Flw}{l:vk Ot}{h0:PE}{P Z:O1->Prop}{A:Pq}{env:Env}{σ:St}{vals:Ot->OE N8}{fp:Ot->vk O1}{s:OA}{Q:ZR->OA->Prop}(he:(Out.ok (σa,Flw.next):Out (St×Flw)) = .ok (σ',fl))
  (hN:fl = .next->∀ s' vals' fp',Stp Z s s'->SOK fns k h0 P Z A env s'.heap σ' vals' fp'->Frm Z l σ vals fp σ' vals' fp'->Q .next s'):∀ s' vals' fp',Stp Z s s'->SOK fns k h0 P Z A env s'.heap σa vals' fp'->Frm Z l σ vals fp σa vals' fp'->Q .next s':=by
 cases he
 exact hN rfl
theorem Ae {σa σ':St}{fl:Flw}{r:V×Mode}{N:V×Mode->Prop}(he:(Out.ok (σa,Flw.ret r):Out (St×Flw)) = .ok (σ',fl)) (hN:∀ r,fl = .ret r->N r):N r:=by
 cases he
 exact hN r rfl
theorem wI (S:SimE fns k C XP e):dz fns k C (.ret e):=by
 intro p h0 P Z A y z o fp s Q Er q fl j K l hN x
 replace j:=qk j
 revert j; refine λg=>Pc g (λh=>?_) (λj=>?_)
 ·clear g
  refine av (h) λn m i j=>?_
  clear h
  subst i
  simp only[hW] at l
  refine Out.bind_k l λr u l=>?_
  exact TK (K.eval S j u λv t E=>Ae l x v t E.keeps.stp (r7 K E))
 ·cases j
theorem tr:dz fns k C (.raise c):=by
 intro i q P Z A l m h r s Q Er j t n K g p o
 exfalso
 simp only[fo] at g
 refine aU g λuu uu g=>?_
 split at g<;>cases g
set_option tactic.hygienic true in
theorem uS:dz fns k C (.retn x):=by
 intro stmt h0 P Z A env σ vals fp s Q Er σ' fl i K n hN hR
 replace i:=A9 i
 revert i; refine λj=>Pc j (λl=>?_) (λi=>?_)
 ·clear j
  refine bl (l) λu t p m i=>?_
  clear l
  subst m
  simp only[OJ,OZ] at i
  refine ae (i) λy hb=>?_
  clear i
  subst y
  refine fC hb λh1 h2 h3=>?_
  simp only[kK] at n
  split at n
  ·rename_i r hr
   cases n
   refine ae (K.val x r hr) λuu g=>?_
   refine aq (g) λv hv z hd=>?_
   clear g
   have nh:∀ a,¬ Z a->h0.get? a=none:=λa e=>by
    cases q:h0.get? a with
    | none=>rfl
    | some o=>exact OW (K.z0 a o q) e
   refine TK (cY K.eok.kind h2 (K.loc.var K.eok hv) (hR r rfl v s (.refl Z s) (bp (fp x) z (λa h=>(hd a h).2) (λq=>?_) (λq=>?_))))
   ·refine a8 (K.top x r hr q) λa bs e1 e2 e3 _=>?_
    exact (aP a bs e1 (nh a e2) e3)
   ·refine ae (K.deep x r hr q) λe1 e2=>?_
    exact ⟨λa h=>nh a (e1 a h).1,e2⟩
  ·exact nB n
 ·cases i
theorem yh (T:SimT fns k C XP c) (Sa:dM fns k C a) (Sb:dM fns k C b):dz fns k C (.ite c a b):=by
 intro stmt h0 P Z A env σ vals fp s Q Er σ' fl h K i hN hR
 replace h:=uU h
 revert h; refine λj=>Pc j (λl=>?_) (λh=>?_)
 ·clear j
  refine cR (l) λNN z x u o h=>?_
  clear l
  subst o
  simp only[OJ] at h
  simp only[fV] at i
  refine Out.bind_k i λr hr i=>?_
  refine Out.bind_k i λt ht i=>?_
  refine ZS (K.evalT T h.1.1 (b:=t) (by rw[hr]; exact ht) λs₁ q=>?_)
  have K₁:=K.onK q.k
  cases t with
  | true=>
   rw[OD rfl] at i ⊢
   exact Sa h.1.2 K₁ i (λe n g p m K' F=>hN e n g p (q.stp.trans m) K' (F.more λy hy=>PC _ hy)) λr e v n m R=>hR r e v n (q.stp.trans m) R
  | false=>
   simp only[Pn,P2] at i ⊢
   exact Sb h.2 K₁ i (λe n g p m K' F=>hN e n g p (q.stp.trans m) K' (F.more λy hy=>PA _ hy)) λr e v n m R=>hR r e v n (q.stp.trans m) R
 ·cases h
theorem vN:dM fns k C .nil:=by
 intro n y P Z A u v m t s Q Er p fl l K o r x
 replace l:=Db l
 revert l; refine λg=>Pc g (λi=>?_) (λl=>?_)
 ·clear g
  refine ae (i) λj l=>?_
  clear i
  subst j
  simp only[cP] at o
  cases o
  exact Ti (r rfl s m t (.refl Z s) K (.id λz q h=>⟨q,h⟩))
 ·cases l
theorem tp {st:S}{r:Ss}(S:dz fns k C st) (T:dM fns k C r):dM fns k C (.cons st r):=by
 intro z h0 P Z A env σ vals fp s Q Er σ' fl h K o hN hR
 replace h:=rF h
 revert h; refine λi=>Pc i (λj=>?_) (λh=>?_)
 ·clear i
  refine av (j) λx u n h=>?_
  clear j
  subst n
  simp only[OJ] at h
  simp only[b0] at o
  refine Out.bind_k o λMP h1 o=>?_
  obtain ⟨t,fla⟩:=MP
  dsimp only at o
  refine QI (S h.1 K h1 (λe s' y fp' st K' F=>?_) λq e v s' st R=>?_)
  ·(clear h1; subst e)
   dsimp only at o ⊢
   exact T h.2 K' o (λe m g p l K'' F'=>hN e m g p (st.trans l) K'' (F.trans F')) λr e v m l R=>hR r e v m (st.trans l) R
  ·(clear h1; subst e)
   cases o
   exact hR q rfl v s' st R
 ·cases h
theorem vh (S:SimE fns k C XP e):dz fns k C (.expr e):=by
 intro stmt h0 P Z A env σ m fp s Q Er σ' fl l K n y hR
 replace l:=mB l
 revert l; refine λg=>Pc g (λi=>?_) (λl=>?_)
 ·clear g
  refine iQ (i) λx u t p o j l=>?_
  clear i
  subst j
  simp only[eY] at n
  refine Out.bind_k n λr hr n=>?_
  replace y:=lE n y
  clear n hR
  have hi:SD env=false:=by unfold SD; rw[K.eok.kind]; rfl
  exact SE (K.eval S l hr λv s' E=>y s' m fp E.keeps.stp ((K.onK E.keeps.k).consume _ _) (.id λz q h=>dh h)) hi
 ·cases l
theorem SOK.same (K:SOK fns k h0 P Z A env h σ vals fp) (hm:h.Ns D m) (hZ:¬ Z D) (hL:D≠env.locals) (hf:∀ y q,σ y=rg q->D∉fp y)
  (hs:PR D h h'):SOK fns k h0 P Z A env h' σ vals fp:=by
 have kz:∀ b o,Z b->h.get? b=rg o->h'.get? b=rg o:=λb o j e=>hs.extBut b o (λq=>hZ (q▸j)) e
 have i:=hm
 refine aV (i) λo es ep t x _=>?_
 clear i
 refine ⟨K.room,K.eok,K.ge,K.z0,Internal.K.same K.kp0 hs (K.h0n hZ) (λz e=>by rw[t] at e; (have l:=vj e; clear e; subst l); exact Stay.not_dict x),K.code,K.out,λb j=>aj (K.zdom b j) λo e=>⟨o,kz b o j e⟩,K.loc.offA t (λv q=>by rw[x] at q; cases q) hL hs,λy q r=>?_,K.top,K.deep⟩
 refine ae (K.val y q r) λh1 g=>?_
 refine aq (g) λu h2 h3 h4=>?_
 clear g
 exact (aB h1 (aD u h2 (h3.spot (env:={env with locals:=D }) (.inl (aB rfl (bx m hm))) (λ⟨u,o,e,q⟩=>by obtain ⟨z,es,ep,n,p,_⟩:=hm; rw[e] at n; (have l:=vj n; clear n; subst l); rw[q] at p; cases p) (λa ha (e:a=D)=>hf y q r (e▸ha)) hs) h4))
end
noncomputable def TrAt (N:O1->Prop) (h:PE) (e:O1) (vs:OP N8) (fl:N8):Prop :=
 ∃ T oT ts,vs[1]? = rg (.ref T)/\¬ N T/\T≠e/\h.get? T=rg oT/\oT.cls = .type "traceback" /\ oT.data = .fields ts/\ts[3]? = rg fl
noncomputable def Ex0 (N:O1->Prop) (h:PE) (c:Ot) (e:O1) (vs:OP N8):Prop:=¬ N e/\c∈SF.excN/\∃ oe,h.get? e=rg oe/\oe.cls = .ref (SF.exc c)/\oe.data = .fields vs
noncomputable def Exc (N:O1->Prop) (h:PE) (c:Ot) (L:O1) (x:N8):Prop:=∃ e vs,x = .ref e/\Ex0 N h c e vs/\(vs[1]? = rg .none\/∃ fl,(fl = .none\/fl=QE L)/\TrAt N h e vs fl)
noncomputable def FlyA (N:O1->Prop) (h:PE) (c:Ot) (fl:N8) (x:N8):Prop:=∃ e vs,x = .ref e/\Ex0 N h c e vs/\TrAt N h e vs fl
noncomputable def Fly (N:O1->Prop) (h:PE) (c:Ot) (x:N8):Prop:=FlyA N h c .none x
theorem Fly.exc (f:Fly N h c x):Exc N h c L x:=aw (f) λe g k j i=>(aP e g k j (.inr (ag _ (.inl rfl) i)))
theorem FlyA.exc {N:O1->Prop}{h:PE}{c:Ot}{L:O1}{x:N8}(f:FlyA N h c (QE L) x):Exc N h c L x:=aw (f) λe g k j i=>(aP e g k j (.inr (ag _ (.inr rfl) i)))
theorem TrAt.old (t:TrAt N h e vs fl) (hn:∀ b,N' b->N b):TrAt N' h e vs fl:=aV (t) λT g ts a b r=>(cU T g ts a (λq=>b (hn _ q)) r)
theorem FlyA.old (f:FlyA N h c fl x) (hn:∀ b,N' b->N b):FlyA N' h c fl x:=aw (f) λe i k g j=>(aP e i k ⟨λq=>g.1 (hn _ q),g.2⟩ (j.old hn))
theorem Exc.old (f:Exc N h c L x) (hn:∀ b,N' b->N b):Exc N' h c L x:=aw (f) λe i k g j=>(aP e i k ⟨λq=>g.1 (hn _ q),g.2⟩ (j.imp id λ⟨l,q,t⟩=>(ag l q (t.old hn))))
noncomputable def Chg (N:O1->Prop) (h h':PE):Prop:=∀ b o,h.get? b=rg o->h'.get? b=rg o\/(∃ es ep,¬ SF.old b/\o.cls = .type "frame" /\ o.data = .dict es ep/\∃ sl,h'.get? b=rg {o with slots:=sl })\/(¬ N b/\¬ Stay o/\∃ fs,o.data = .fields fs)
theorem Chg.kg (c:Chg N h h'):KG N h h':=λb o g e=>by
 rcases c b o e with q | ⟨es,ep,h1,h2,h3,sl,h4⟩ | ⟨h1,h2,_⟩
 ·exact (ag o q (.same rfl))
 ·exact (ag _ h4 (.frame es ep h1 h2 h3 rfl rfl rfl))
 ·exact OW g (λq=>q.elim h1 h2)
theorem Chg.frames (c:Chg N h h') (x:FrOk h l):FrOk h' l:=λi t=>by
 obtain ⟨n,L,o,p,r,m,k,u,j,g⟩:=x i t
 rcases c L o u with q | ⟨_,_,_,_,_,sl,q⟩ | ⟨_,_,fs,q⟩
 ·exact (aB n (jX L o p r m k q j g))
 ·exact (aB n (jX L _ p r m k q j g))
 ·rw[g] at q; cases q
noncomputable def noH (h:PE):Heap:={h with objs:=#[] }
theorem BS (h:PE) (b:O1):(noH h).get? b=none:=rfl
theorem FrOk.fun:∀ {l:vk Env},FrOk h l->h.FunFrames (noH h) l
 | [],_=>trivial
 | env::l,x=>by
  obtain ⟨m,L,o,t,u,k,r,j,p,i⟩:=x env (.head _)
  exact ⟨by rw[m]; decide,(bF L o k (BS h L) j (λn q=>by rw[i] at q; cases q)),FrOk.fun λy g=>x y (.tail _ g)⟩
section
variable {M:UO}{A:Pq}{E:N8->OA->Prop}{env:Env}{l:vk Env}{h:PE}{g:OP VV}{dr:Zz}{tk:ON}{os:WS}{c:Ot}{x:N8}{Q:Ur->OA->Prop}{N:O1->Prop}{L:O1}
theorem zX (hN:∀ b,N b->∃ o,h.get? b=rg o) (hfr:A.frames=rg (env::l)) (hF:FrOk h (env::l)) (hf:env.frame=rg L) (he:Ex0 N h c e vs) (hsz:1<vs.size)
  (hQ:∀ h',FlyA N h' c (QE L) (.ref e)->Chg N h h'->Q () ⟨h',g,dr,tk,os⟩) :
  OQ M A (do let a <- frameOf env; let pl <- entryPlaceOf L hadNext; let b <- Wi head a .none (QE L) .none pl; ZP (.ref e) 1 b) Q E ⟨h,g,dr,tk,os⟩:=by
 refine aH (he) λne cn m=>?_
 clear he
 refine aq (m) λoe ee hc hd=>?_
 clear m
 have hl:=hF.fun
 have notf:∀ b o fs,h.get? b=rg o->o.data = .fields fs->b∉(env::l).filterMap (·.frame):=λb o fs u hb hm=>by
  refine ae (hl.mem hm) λuu k=>?_
  refine af (k) λz y hnf=>?_
  clear k
  rw[u] at y; (have v:=vj y; clear y; subst v)
  exact hnf fs hb
 refine If (wpAny_frameOf_fun (s:=⟨h,g,dr,tk,os⟩) hfr hl hf λi j=>?_)
 refine If (wpAny_entryPlaceOf λpl hpl=>?_)
 unfold Wi newFields
 refine If (RF ?_ (hpl.sizeOk5 _ _ _ _ _))
 generalize hts:([head,.ref L,.none,QE L,.none]++(if pl.isEmpty then List.replicate 6 Sd else pl)).toArray=ts
 have h3:ts[3]? = rg (QE L):=by rw[<- hts]; simp
 have r:i.get? e=rg oe:=(j.2.1 e (notf e oe vs ee hd)).trans ee
 have p:=OO (h:=i) {cls:=.type "traceback", dict:=OC,data:=.fields ts } r
 have x:i.objs.size≠e:=T7 (Rh r)
 have hTN:¬ N i.objs.size:=λq=>by
  refine aj (hN _ q) λo eo=>?_
  have:=Rh eo
  rw[j.1] at this
  exact TR _ this
 have n:=Sf hd (·.setIfInBounds 1 (Py i.objs.size))
 refine TI p hd hsz (hQ _ (aP e _ rfl (cg ne cn (aD _ (PH _ p (TP n)) ((UV _ _).trans hc) n)) (l6 i.objs.size _ ts (by simp[hsz]) hTN x ((PI _ _ (P6 x)).trans (Pa i rfl)) rfl rfl h3)) λb o u=>?_)
 by_cases hbe:b=e
 ·(clear r p hQ x; subst hbe)
  rw[ee] at u; (have v:=vj u; clear u; subst v)
  exact .inr (.inr (cg ne (Stay.not_cls (by rw[hc]; simp) (by rw[hc]; simp)) (bx vs hd)))
 ·have t:∀ z,i.get? b=rg z->((i.push {cls:=.type "traceback", dict:=OC,data:=.fields ts }).update e (Td (·.setIfInBounds 1 (Py i.objs.size)))).get? b=rg z:=λz y=>by
   rw[PI _ _ (P6 hbe)]
   exact OO _ y
  by_cases hm:b∈(env::l).filterMap (·.frame)
  ·refine af (List.mem_filterMap.mp hm) λenv' he' hb'=>?_
   obtain ⟨_,L',z,es,ep,f1,f2,f3,f4,f5⟩:=hF env' he'
   rw[hb'] at f1; (have v:=vj f1; clear f1; subst v)
   rw[u] at f3; (have v:=vj f3; clear f3; subst v)
   refine aj (j.2.2 b o u) λsl y=>?_
   exact .inr (.inl (bF es ep f2 f4 f5 (bx sl (t _ y))))
  ·exact .inl (t o ((j.2.1 b hm).trans u))
theorem Chg.upd {ts:OP N8}(ht:h.get? T=rg oT) (hc:oT.cls = .type "traceback") (hd:oT.data = .fields ts) (hn:¬ N T):Chg N h (h.update T (Td (·.setIfInBounds 3 v))):=λb o g=>by
 by_cases hb:b=T
 ·subst hb
  rw[ht] at g; (have i:=vj g; clear g; subst i)
  exact .inr (.inr (cg hn (Stay.not_cls (by rw[hc]; simp) (by rw[hc]; simp)) (bx ts hd)))
 ·exact .inl ((PI _ _ (P6 hb)).trans g)
theorem yi (hN:∀ b,N b->∃ o,h.get? b=rg o) (hfr:A.frames=rg (env::l)) (hF:FrOk h (env::l)) (hf:env.frame=rg L) (hx:Exc N h c L x)
  (hQ:∀ h',FlyA N h' c (QE L) x->KG N h h'->FrOk h' (env::l)->Q () ⟨h',g,dr,tk,os⟩):OQ M A (noteFrame x env) Q E ⟨h,g,dr,tk,os⟩:=by
 refine aw (hx) λe vs p h0 n=>?_
 clear hx
 subst p
 refine aH (h0) λt v i=>?_
 clear h0
 refine aq (i) λr m u j=>?_
 clear i
 unfold noteFrame
 simp only[hf]
 rcases n with n | ⟨fl,hfl,T,oT,ts,h1,hTN,hTe,hT,hTc,hTd,h3⟩
 ·refine If (Uf m j n ?_)
  rw[OB (by decide)]
  exact zX hN hfr hF hf (cg t v (aD r m u j)) (QP.mp n).1 λh' f k=>hQ h' f k.kg (k.frames hF)
 ·refine If (Uf m j h1 ?_)
  rw[OD (show (Py T != Sd)=Gt from by simp)]
  refine If (Uf hT hTd h3 ?_)
  rcases hfl with rfl | rfl
  ·rw[OB (show ¬ ((Sd==QE L)=Gt) from by simp[QE])]
   refine If (TI hT hTd (QP.mp h3).1 ?_)
   have y:Chg N h (h.update T (Td (·.setIfInBounds 3 Sd))):=Chg.upd hT hTc hTd hTN
   refine zX (λb z=>?_) hfr (y.frames hF) hf (cg t v (aD r ((PI _ _ hTe).trans m) u j)) (QP.mp h1).1 λh' f k=>hQ h' f (y.kg.trans k.kg) (k.frames (y.frames hF))
   refine aj (hN b z) λo e=>?_
   exact ⟨o,(PI _ _ (show T≠b from λq=>hTN (by rw[q]; exact z))).trans e⟩
  ·rw[OD (show (QE L==QE L)=Gt from by simp)]
   exact OL (hQ h (aP e vs rfl (cg t v (aD r m u j)) (l6 T oT ts h1 hTN hTe hT hTc hTd h3)) .refl hF)
theorem lB (hF:FrOk h l) (hx:FlyA N h c fl x) (hQ:∀ h',FlyA N h' c (fr.elim .none λf=>QE f) x->KG N h h'->FrOk h' l->Q () ⟨h',g,dr,tk,os⟩):OQ M A (setFlight x fr) Q E ⟨h,g,dr,tk,os⟩:=by
 obtain ⟨e,z,q,k,T,oT,ts,u,p,n,r,o,j,h3⟩:=hx
 subst q
 refine aH (k) λne cn i=>?_
 clear k
 refine aq (i) λoe v hc t=>?_
 clear i
 unfold setFlight
 refine If (Uf v t u ?_)
 rw[OD (show (Py T != Sd)=Gt from by simp)]
 have m:=(QP.mp h3).1
 have y:Chg N h (h.update T (Td (·.setIfInBounds 3 (fr.elim .none λf=>QE f)))):=Chg.upd r o j p
 exact TI r j m (hQ _ (aP e z rfl (cg ne cn (aD oe ((PI _ _ n).trans v) hc t)) (l6 T _ _ u p n (PH _ r (TP (Sf j _))) ((UV _ _).trans o) (Sf j _) (by simp[m]))) y.kg (y.frames hF))
theorem Gu (hN:∀ b,N b->∃ o,h.get? b=rg o) (hfr:A.frames=rg (env::l)) (hF:FrOk h (env::l)) (hf:env.frame=rg L) (hx:Exc N h c L x)
  (hQ:∀ h',Fly N h' c x->KG N h h'->Q () ⟨h',g,dr,tk,os⟩):OQ M A (X7 env x) Q E ⟨h,g,dr,tk,os⟩:=by
 unfold X7
 exact If (yi hN hfr hF hf hx λp n j q=>lB q n λk m i _=>hQ k m (j.trans i))
theorem KK (hN:∀ b,N b->∃ o,h.get? b=rg o) (hfr:A.frames=rg (env::l)) (hF:FrOk h (env::l)) (hf:env.frame=rg L) (hx:Exc N h c L x)
  (hQ:∀ h',Exc N h' c L x->KG N h h'->FrOk h' (env::l)->E' x ⟨h',g,dr,tk,os⟩):notedBy (OT prog w) A env (cameBackBy (OT prog w) A env E') x ⟨h,g,dr,tk,os⟩:=by
 refine yi hN hfr hF hf hx λv k p F₁=>?_
 refine aw (k) λe vs t m j=>?_
 clear k
 refine bl (j) λT oT ts z u=>?_
 clear j
 (clear hx; subst t)
 refine aH (m) λne cn i=>?_
 clear m
 refine aq (i) λoe ee hc y=>?_
 clear i
 refine If (Uf ee y z ?_)
 rw[OB (show ¬ (Py T==Sd)=Gt from by simp),hf]
 exact lB F₁ (aP e vs rfl (cg ne cn (aD oe ee hc y)) (cf T oT ts z u)) λq r n F₂=>hQ q r.exc (p.trans n) F₂
end
noncomputable def dom (h:PE) (b:O1):Prop:=∃ o,h.get? b=rg o
noncomputable def XPc (c:Ot) (s:OA) (x:N8) (s':OA):Prop:=Kp s s'/\Fly (dom s.heap) s'.heap c x
theorem XPc.of (k:Kp s s₁) (h:XPc c s₁ x s'):XPc c s x s':=⟨k.trans h.1,h.2.old λuu ⟨_,e⟩=>af (k.k _ _ (.inl trivial) e) λg i uu=>⟨g,i⟩⟩
theorem bM:∀ (c:Ot) (s s₁:OA) (x:N8) (s':OA),Kp s s₁->XPc c s₁ x s'->XPc c s x s':=λuu uu uu uu uu k h=>.of k h
noncomputable def Lv (A:Pq) (env:Env) (h:PE):Prop:=∃ l,A.frames=rg (env::l)/\FrOk h (env::l)/\env.frame=rg env.locals
section
variable (fns:Fns) (k:ON) (C:Calls)
noncomputable def dA (st:S):Prop:=∀ {stmt:R5}{h0:PE}{P Z:O1->Prop}{A:Pq}{env:Env}{σ:St}{vals:Ot->OE N8}{fp:Ot->vk O1}{s:OA}{Q:ZR->OA->Prop}{Er:N8->OA->Prop}{c:Ot},
 okS env.scope.names st stmt=Gt->SOK fns k h0 P Z A env s.heap σ vals fp->ex C st σ = .exc c->(∀ x s',Stp Z s s'->Lv A env s'.heap->Exc Z s'.heap c env.locals x->Er x s')->OQ (OT prog w) A (exec stmt env) Q Er s
noncomputable def dI (st:Ss):Prop:=∀ {stmts:vk R5}{h0:PE}{P Z:O1->Prop}{A:Pq}{env:Env}{σ:St}{vals:Ot->OE N8}{fp:Ot->vk O1}{s:OA}{Q:ZR->OA->Prop}{Er:N8->OA->Prop}{c:Ot},
 cz env.scope.names st stmts=Gt->SOK fns k h0 P Z A env s.heap σ vals fp->exs C st σ = .exc c->(∀ x s',Stp Z s s'->Lv A env s'.heap->Exc Z s'.heap c env.locals x->Er x s')->OQ (OT prog w) A (Yx stmts env) Q Er s
end
section
noncomputable def vT:Expr->Pr
 | .ListComp .. | .SetComp .. | .DictComp ..=>Oz
 | _=>Gt
theorem ky (h:vT v=Gt) (t:OE Expr) (l:ON) (env:Env):Vi v t l env=PU false:=by
 cases v<;>first | rfl | exact nF h
theorem lu {gs:vk Wl}:Vi (.ListComp e gs sc p) (rg (.Name t q)) l env=PU Gt\/Vi (.ListComp e gs sc p) (rg (.Name t q)) l env=PU false:=by
 have g:Vi (.ListComp e gs sc p) (rg (.Name t q)) l env=PU (env.blockKind == .function&&env.kindOf t==rg .local&&q.line==(YN e gs sc p).pos.line && !(sc.names.any λ(n,k)=>n==t&&(k == .local||k == .cell))):=rfl
 rw[g]
 generalize (env.blockKind == .function&&env.kindOf t==rg .local&&q.line==(YN e gs sc p).pos.line && !(sc.names.any λ(n,k)=>n==t&&(k == .local||k == .cell)))=b
 cases b
 ·exact .inr rfl
 ·exact .inl rfl
theorem mT {ex:Expr}(hp:ic e=Oz) (h:okE ns e ex=Gt):vT ex=true:=by
 cases ex with
 | ListComp _ _ _ _=>
  cases e with
  | comp _ _ _=>exact nT hp
  | compif _ _ _ _=>exact nT hp
  | _=>exact PN (show Oz=Gt from h)
 | _=>first | rfl | (cases e<;>exact PN (show Oz=Gt from h))
theorem lX {px pt:Pos}{elt iter:Expr}
  (hsc:hU env.scope.names sc x=Gt) (X:Cx fns k A P h env σ) (hset:∀ v,UR iter env v=PU v) (hsw:Vi (.ListComp elt [⟨.Name (mL x) px,iter,ifs,0⟩] sc pos) (rg (.Name (mL t) pt)) spos.line env=PU Gt)
  (h:∀ cl:vk (Str×O1),(∀ n,(n,QB)∈sc.names->cl.lookup n=env.cells.lookup n)->OQ (OT prog w) A (SW iter env) (λv s₁=>OQ (OT prog w) A (Xu v) (λi z=>OQ (OT prog w) A (newObj (.type "list") (.seq #[]) OC) (λacc s₃=>
   OQ (OT prog w) A (Sz sc env.globals cl [] env.qual OC .none (rg env)) (λcenv s₄=>
    Us (OT prog w) A (.compStart (.ListComp elt [⟨.Name (mL x) px,iter,ifs,0⟩] sc pos) 0 i acc {cenv with scope:=UQ sc env }) (Vc (OT prog w) A Er (rg (Vn (.Name (mL t) pt) env)) (λuu s'=>Q .next s') acc cenv.locals) s₄) Er s₃) Er z) Er s₁) Er s) :
  OQ (OT prog w) A (exec (.Assign [.Name (mL t) pt] (.ListComp elt [⟨.Name (mL x) px,iter,ifs,0⟩] sc pos) spos) env) Q Er s:=by
 refine du (jf hsc) λhk l q g=>?_
 obtain ⟨cl,m,j⟩:=lj (scope:=sc) (env:=env) (λp u e=>by
  rcases g p u with h | h | h | h
  ·rw[h.1] at e; cases e
  ·rw[h] at e; cases e
  ·rw[h.1] at e; cases e
  ·exact X.eok.cells p.1 h.2)
 rw[exec_Assign_Name_used _ _ _ _ hsw]
 refine If (S7 (If ?_))
 show OQ _ A (do let _ <- comprehension (.ListComp elt [⟨.Name (mL x) px,iter,ifs,0⟩] sc pos) sc env _ (newList []) Oz (SW iter env) (rg (Vn (.Name (mL t) pt) env))) _ _ s
 exact If (Qk (U0 (use:=rg (Vn (.Name (mL t) pt) env)) (Q:=λuu s'=>Q .next s') rfl hset m hk (λy o e=>by rw[<- e]; exact iK l o) (h cl j)) (λuu s' r=>OL (OL r)) λuu uu e=>e)
theorem qC {h0:PE}{P Z:O1->Prop}{A:Pq}{env:Env}{σ:St}{vals:Ot->OE N8}{fp:Ot->vk O1}{s s₂:OA}{Q:ZR->OA->Prop}{Er:N8->OA->Prop}{x:Ot}{px:Pos}{ns:vk Ot}{d:OU}{md:Mode}{v:N8}{h:PE}{tk:ON}{D:O1}{m:Str->OE N8}
  (K:SOK fns k h0 P Z A env s.heap σ vals fp) (hb:bv env.scope.names x=Gt) (E:EP (Own σ fp ns) s (.d d,md) v {s₂ with heap:=h,toks:=tk }) (hm:h.Ns D m) (hD:s.heap.get? D=OC)
  (hN:∀ s' vals' fp',Stp Z s s'->SOK fns k h0 P Z A env s'.heap (upd (consume σ ns md) x (.d d,md)) vals' fp'->Frm Z [x] σ vals fp (upd (consume σ ns md) x (.d d,md)) vals' fp'->Q .next s') :
  Vc (OT prog w) A Er (rg (Vn (.Name (mL x) px) env)) (λuu s'=>Q .next s') v D (.ok .next) {s₂ with heap:=h,toks:=tk }:=by
 refine fC hb λh1 h2 h3=>?_
 show OQ _ A (Vn (.Name (mL x) px) env v) _ _ _
 refine TA (K.put_ep h1 h3 E λs' as rv st kk K' F=>?_)
 have dL:D≠env.locals:=λq=>by
  refine af (K.loc.ns) λm' p _=>?_
  refine bl (p) λo _ _ e _=>?_
  clear p
  rw[<- q] at e
  rw[hD] at e; exact nN e
 have r:=hm
 refine aV (r) λo es ep ho z hr=>?_
 clear r
 have j:=kk D o dL (λu q=>by rw[z] at q; cases q) ho
 have t:s'.heap.Ns D m:=(cU o es ep j z hr)
 refine (ag m t (λh' hs=>hN _ _ _ ?_ (K'.same t (λhz=>?_) dL (λy q l hf=>?_) hs) F))
 ·refine (E.keeps.stp.trans st).same hs (λhz=>?_) λo' e=>by rw[j] at e; (have oc:=vj e; clear e; subst oc); exact Stay.not_dict z
  refine aj (K.zdom D hz) λo e=>?_
  rw[hD] at e; exact nN e
 ·refine aj (K.zdom D hz) λo e=>?_
  rw[hD] at e; exact nN e
 ·split at hf
  ·refine ba (rv.1.there D hf) λuu uu e=>?_
   rw[ho] at e; (have oc:=vj e; clear e; (clear ho j; subst oc)); cases z
  ·rename_i hy
   unfold upd at l
   rw[OB hy] at l
   have:∃ n,σ y=rg n:=by
    unfold consume at l
    split at l
    ·exact ⟨q,l⟩
    ·obtain ⟨n,i,_⟩:=b7 l; exact ⟨n,i⟩
   refine aj (this) λn i=>?_
   clear this
   refine ae (K.val y n i) λuu g=>?_
   refine aq (g) λu _ hr _=>?_
   clear g
   refine aj (hr.there D hf) λo e=>?_
   rw[hD] at e; exact nN e
theorem s9 (h:ic e=Gt):(∃ elt y it,e = .comp elt y it)\/∃ elt y it c,e = .compif elt y it c:=by
 cases e with
 | comp elt y it=>exact .inl ⟨_,_,_,rfl⟩
 | compif elt y it c=>exact .inr ⟨_,_,_,_,rfl⟩
 | _=>exact nF h
theorem kD (S:SimE fns k C XP e) (Sc:(∀ elt y it,e = .comp elt y it->dy fns k C XP it/\SimE fns k C XP elt)/\∀ elt y it c,e = .compif elt y it c->dy fns k C XP it/\SimE fns k C XP elt/\SimT fns k C XP c):dz fns k C (.assign x e):=by
 intro stmt h0 P Z A env σ vals fp s Q Er σ' fl ok K he hN hR
 replace ok:=nL ok
 revert ok; refine λNb=>Pc Nb (λM4=>?_) (λok=>?_)
 ·clear Nb
  refine cR (M4) λt pt v spos NC ok=>?_
  clear M4
  subst NC
  simp only[OJ,OZ] at ok
  refine ae (ok) λMR oe=>?_
  clear ok
  refine ae (MR) λMZ hb=>?_
  clear MR
  subst MZ
  refine fC hb λh1 h2 h3=>?_
  simp only[dv] at he
  refine Out.bind_k he λr hr he=>?_
  replace hr:=Dg hr
  replace hN:=lE he hN
  clear he hR
  have n:Vi v (rg (.Name (mL x) pt)) spos.line env=PU Oz->OQ (OT prog w) A (exec (.Assign [.Name (mL x) pt] v spos) env) Q Er s:=λhsw=>by
   refine Xh (K.eval S oe hr λu s' E=>?_) hsw
   exact K.put_ep h1 h3 E λs'' as rv st kk K' F=>hN s'' _ _ (E.keeps.stp.trans st) K' F
  cases hc:ic e with
  | false=>exact n (ky (mT hc oe) _ _ _)
  | true=>
   refine Pc (s9 hc) (λq0=>?_) (λq0=>?_)
   ·refine E0 (q0) λelt y it e0=>?_
    clear q0
    refine ae (Sc.1 elt y it e0) λSi Se=>?_
    clear Sc S hc
    subst e0
    replace oe:=v0 oe
    revert oe; refine λNt=>Pc Nt (λM7=>?_) (λoe=>?_)
    ·clear Nt
     refine oN (M7) λee ty py iter sc pos Om oe=>?_
     clear M7
     subst Om
     rcases lu (e:=ee) (gs:=[⟨.Name ty py,iter,[],0⟩]) (sc:=sc) (p:=pos) (t:=mL x) (q:=pt) (l:=spos.line) (env:=env) with hsw | hsw
     ·simp only[OJ,OZ] at oe
      revert oe; intro NT
      refine ae (NT) λMV oe=>?_
      clear NT
      refine ae (MV) λMQ oi=>?_
      clear MV
      refine ae (MQ) λMW hsc=>?_
      clear MQ
      (clear n; subst MW)
      have X:=K.cx (fv (.comp elt y it))
      have e1:ev C (.comp elt y it) (cD σ (fv (.comp elt y it))) = .ok r:=by rw[az C _ _ σ (b8 σ _)]; exact hr
      simp only[dS] at e1
      refine Out.bind_k e1 λq hq e1=>?_
      refine Out.bind_k e1 λres g e1=>?_
      (have j:=Out.ok.inj e1; clear e1; (clear hr; subst j))
      refine lX hsc X (mH oi env) hsw λcl hcl=>Si oi X (by rw[hq]; simp) (λq' hq' i s₂ I=>?_) λc hc=>by rw[hq] at hc; cases hc
      rw[hq] at hq'; (have j:=Out.ok.inj hq'; clear hq'; subst j)
      obtain ⟨res',o⟩:=e8 (by rw[g]; simp:(bE _ q.1).calm≠.bad)
      rw[o] at g; (have j:=Out.ok.inj g; clear g; subst j)
      refine fL (RR:=λacc C=>Vc (OT prog w) A Er (rg (Vn (.Name (mL x) pt) env)) (λuu s'=>Q .next s') acc C) (ds:=q.1) hsc X o (λd r hf cenv s₃ P' Q₁ Qb Er' hNm X' g1 g2=>XV ?_) I (λD C h tk m E hm hC=>qC K hb E hm hC λs' vals' fp' st K' F=>hN s' vals' fp' st K' F) hcl
      rw[OD rfl]
      refine Out.bind_k hf λz hz e=>?_
      (have j:=Out.ok.inj e; clear e; (clear g1 hf; subst j))
      exact Se (hNm▸oe) X' (by rw[hz]; simp) (λr hr v s' E=>g2 r (by rw[hz] at hr; (have j:=Out.ok.inj hr; clear hr; (clear E; subst j)); rfl) v s' E) λc hc=>by rw[hz] at hc; cases hc
     ·exact n hsw
    ·cases oe
   ·refine Ko (q0) λelt y it c e0=>?_
    clear q0
    refine aH (Sc.2 elt y it c e0) λSi Se Sc'=>?_
    clear Sc S hc
    subst e0
    replace oe:=pY oe
    revert oe; refine λNW=>Pc NW (λNp=>?_) (λoe=>?_)
    ·clear NW
     refine iZ (Np) λee ty py iter ff sc pos Oh oe=>?_
     clear Np
     subst Oh
     rcases lu (e:=ee) (gs:=[⟨.Name ty py,iter,[ff],0⟩]) (sc:=sc) (p:=pos) (t:=mL x) (q:=pt) (l:=spos.line) (env:=env) with hsw | hsw
     ·simp only[OJ,OZ] at oe
      revert oe; intro N2
      refine ae (N2) λM0 oe=>?_
      clear N2
      refine ae (M0) λMS j=>?_
      clear M0
      refine ae (MS) λMP oi=>?_
      clear MS
      refine ae (MP) λMT hsc=>?_
      clear MP
      (clear n; subst MT)
      have X:=K.cx (fv (.compif elt y it c))
      have e1:ev C (.compif elt y it c) (cD σ (fv (.compif elt y it c))) = .ok r:=by rw[az C _ _ σ (b8 σ _)]; exact hr
      simp only[cQ] at e1
      refine Out.bind_k e1 λq hq e1=>?_
      refine Out.bind_k e1 λres g e1=>?_
      (have j:=Out.ok.inj e1; clear e1; (clear hr; subst j))
      refine lX hsc X (mH oi env) hsw λcl hcl=>Si oi X (by rw[hq]; simp) (λq' hq' i s₂ I=>?_) λc hc=>by rw[hq] at hc; cases hc
      rw[hq] at hq'; (have j:=Out.ok.inj hq'; clear hq'; subst j)
      obtain ⟨res',o⟩:=e8 (by rw[g]; simp:(bE _ q.1).calm≠.bad)
      rw[o] at g; (have j:=Out.ok.inj g; clear g; subst j)
      refine fL (RR:=λacc C=>Vc (OT prog w) A Er (rg (Vn (.Name (mL x) pt) env)) (λuu s'=>Q .next s') acc C) (ds:=q.1) hsc X o (λd r hf cenv s₃ P' Q₁ Qb Er' hNm X' g1 g2=>XW ?_) I (λD C h tk m E hm hC=>qC K hb E hm hC λs' vals' fp' st K' F=>hN s' vals' fp' st K' F) hcl
      refine Out.bind_k hf λt ht hf=>?_
      refine Out.bind_k hf λb hb' hf=>?_
      refine Sc' (hNm▸j) X' (by rw[ht,Out.ok_bind,hb']; simp) (λb'' hb'' s₄ kd=>?_) λc hc=>by rw[ht] at hc; cases hc
      rw[ht,Out.ok_bind,hb'] at hb''
      (have j:=Out.ok.inj hb''; clear hb''; subst j)
      cases b with
      | false=>(have j:=Out.ok.inj hf; clear hf; (clear g2; subst j)); simpa using g1 rfl s₄ kd
      | true=>
       rw[OD rfl] at hf ⊢
       refine Out.bind_k hf λz hz e=>?_
       (have j:=Out.ok.inj e; clear e; (clear g1; subst j))
       exact Se (hNm▸oe) (X'.k kd.k) (by rw[hz]; simp) (λr hr v s' E=>g2 r (by rw[hz] at hr; (have j:=Out.ok.inj hr; clear hr; (clear E; subst j)); rfl) v s' (E.after kd)) λc hc=>by rw[hz] at hc; cases hc
     ·exact n hsw
    ·cases oe
 ·cases ok
end
section
theorem SOK.putl {s s₂:OA}{h':PE}{ns:vk Ot}{x:Ot}{xs zs:vk OU}{mx m:Mode}{as:vk O1}{σ':St}{fl:Flw}{a:O1}{vs vs':vk N8}{n n':ON}{bs bs':vk O1}
  (K:SOK fns k h0 P Z A env s.heap σ vals fp) (kp:Kp s s₂) (ha:∀ b∈as,Own σ fp ns b\/s.heap.get? b=OC) (hdp:m = .deep->(∀ b∈as,s.heap.get? b=OC)/\as.Nodup)
  (hx:σ x=rg (.d (.list xs),mx)) (hput:jC σ x ns mx zs m = .ok (σ',fl)) (hm:mx≠.sh)
  (hv:vals x=rg (.ref a)) (ea:s.heap.get? a=rg ⟨.type "list", OC,.seq vs.toArray n,#[]⟩) (hfp:fp x=a::bs) (hZ:¬ Z a) (hab:a∉bs) (hne:∀ y q,y≠x->σ y=rg q->a∉fp y) (hP:∀ b∈a::bs,b≠env.locals/\(P b\/h0.get? b=OC))
  (hdx:mx = .deep->(∀ b∈bs,¬ Z b/\∀ y q,y≠x->σ y=rg q->b∉fp y)/\bs.Nodup)
  (hs:PR a s₂.heap h') (ea':h'.get? a=rg ⟨.type "list", OC,.seq vs'.toArray n',#[]⟩) (rr:RA s₂.heap vs' zs bs') (hz:∀ z∈zs,sz z=Gt) (hbs:∀ b∈bs',b∈bs\/b∈as) (hnd:(bs++as).Nodup->bs'.Nodup) :
  fl = .next/\∃ fp',SOK fns k h0 P Z A env h' σ' vals fp'/\Frm Z [x] σ vals fp σ' vals fp':=by
 have nz:∀ a,s.heap.get? a=OC->¬ Z a:=λa e hz=>by
  refine aj (K.zdom a hz) λo e'=>?_
  rw[e] at e'; exact nN e'
 have nf:∀ a,s.heap.get? a=OC->∀ y q,σ y=rg q->a∉fp y:=λa e y q r hm=>by
  refine ae (K.val y q r) λuu N1=>?_
  refine aq (N1) λu _ hr _=>?_
  clear N1
  refine aj (hr.there a hm) λo e'=>?_
  rw[e] at e'; exact nN e'
 unfold jC at hput
 split at hput
 ·rename_i hlen
  have l:=kp.k.get ea rfl
  have main:∀ (g:m = .deep\/x∉ns),a∉as:=λg hm=>by
   refine Pc (ha a hm) (λM4=>?_) (λh1=>?_)
   ·refine aw (M4) λz q hz r hf=>?_
    clear M4
    rcases g with hc | hc
    ·have:=(hdp hc).1 a hm
     rw[ea] at this; exact nM this
    ·exact hne z q (λe=>hc (e▸hz)) r hf
   ·rw[ea] at h1; exact nM h1
  have rv':(g:m = .deep\/x∉ns)->RV h' (.ref a) (.d (.list zs)) (a::bs'):=λg=>by
   refine ⟨.list ea' (rr.off (wr:=[a]) (λb hb o e=>.inr ?_) λb o hb e=>hs.extBut b o (λq=>hb (by simp[q])) e),sz_list.mpr ⟨?_,hz⟩⟩
   ·rw[OK.mp hb] at e ⊢
    rw[l] at e; (have oc:=vj e; clear e; subst oc)
    exact ⟨by simp,λhm=>(hbs a hm).elim hab (main g)⟩
   ·unfold lim at hlen; exact AH hlen
  have pb:∀ b∈bs',b≠env.locals/\(P b\/h0.get? b=OC):=λb hb=>by
   rcases hbs b hb with h1 | h1
   ·exact hP b (.tail _ h1)
   ·rcases ha b h1 with h2 | h2
    ·exact (K.own h2).2
    ·refine ⟨λq=>?_,.inr ?_⟩
     ·refine af (K.loc.ns) λm' MU _=>?_
      refine bl (MU) λo _ _ e _=>?_
      clear MU
      rw[<- q] at e
      rw[h2] at e; exact nN e
     ·cases e:h0.get? b with
      | none=>rfl
      | some o=>obtain ⟨_,e'⟩:=Internal.K.there K.kp0 e; rw[e'] at h2; exact nM h2
  have abs:(g:m = .deep\/x∉ns)->a∉bs':=λg hm=>(hbs a hm).elim hab (main g)
  have org:∀ b∈a::bs',Z b->∃ z q,σ z=rg q/\b∈fp z:=λb hb hz=>by
   rcases O9.mp hb with rfl | hb
   ·exact OW hz hZ
   ·rcases hbs b hb with hb | hb
    ·exact (ay x _ hx (by rw[hfp]; exact .tail _ hb))
    ·refine Pc (ha b hb) (λM7=>?_) (λh1=>?_)
     ·refine aw (M7) λy q Nz h1 h2=>?_
      clear M7
      exact (ay y q h1 h2)
     ·exact OW hz (nz b h1)
  split at hput
  ·rename_i v
   cases hput
   refine (aB rfl (ag _ ?_ (.one (λuu uu=>rfl) (λz q h=>⟨q,h⟩) org)))
   refine ((K.onK kp.k).write hx hv l (by simp) Stay.not_list (λuu q=>by cases q) hZ hne (hP a (.head _)) hs (rv' (.inl v)) pb (λuu=>abs (.inl v)) (λj=>?_) λt q hy r=>?_)
   ·refine ae (hdx j) λg1 g2=>?_
    refine ae (hdp v) λg3 g4=>?_
    refine ⟨λb hb=>?_,Q0.mpr ⟨abs (.inl v),hnd (R9.mpr ⟨g2,g4,λb hb c hc q=>?_⟩)⟩⟩
    ·rcases hbs b hb with h1 | h1
     ·exact g1 b h1
     ·exact ⟨nz b (g3 b h1),λy q _ r=>nf b (g3 b h1) y q r⟩
    ·subst q
     exact nf b (g3 b hc) x _ hx (by rw[hfp]; exact .tail _ hb)
   ·have g3:=(hdp v).1
    refine ⟨λht b cs e hm=>?_,λhd b hb hm=>?_⟩
    ·refine a8 (K.top t q r ht) λb' cs' e' _ _ h4=>?_
     rw[e] at e'; cases e'
     rcases hbs b hm with h1 | h1
     ·exact h4 x _ (P6 hy) hx (by rw[hfp]; exact .tail _ h1)
     ·exact nf b (g3 b h1) t q r (by rw[e]; exact .head _)
    ·rcases hbs b hm with h1 | h1
     ·exact ((K.deep t q r hd).1 b hb).2 x _ (P6 hy) hx (by rw[hfp]; exact .tail _ h1)
     ·exact nf b (g3 b h1) t q r hb
  ·split at hput
   ·exact nB hput
   ·rename_i v hxn
    cases hput
    have hx':Internal.demote σ ns x=rg (V.d (.list xs),mx):=by unfold Internal.demote; rw[OB hxn]; exact hx
    refine (aB rfl (ag _ ?_ (.one (λuu uu=>rfl) (λz q h=>af (b7 h) λq' h' uu=>⟨q',h'⟩) org)))
    refine (((K.onK kp.k).demote ns).write hx' hv l (by simp) Stay.not_list (λuu q=>by cases q) hZ (λt q hy r=>?_) (hP a (.head _)) hs (rv' (.inr hxn)) pb (λuu=>abs (.inr hxn)) (λj=>by cases j) λt q hy r=>?_)
    ·refine af (b7 r) λq' i _=>?_
     exact hne t q' hy i
    ·refine eX r λq' i e1 hc=>?_
     rcases hc with ⟨_,rfl⟩ | ⟨hn,rfl⟩
     ·refine ⟨λh=>OW h iz,λh b hb=>?_⟩
      refine ae (K.val t q' i) λuu No=>?_
      refine aq (No) λu _ hr _=>?_
      clear No
      rw[hr.scal_nil (fX h)] at hb
      cases hb
     ·refine ⟨λht b cs e hm=>?_,λhd b hb hm=>?_⟩
      ·refine a8 (K.top t q i ht) λb' cs' e' _ _ h4=>?_
       rw[e] at e'; cases e'
       rcases hbs b hm with h1 | h1
       ·exact h4 x _ (P6 hy) hx (by rw[hfp]; exact .tail _ h1)
       ·refine Pc (ha b h1) (λNp=>?_) (λh2=>?_)
        ·refine aw (Np) λz p hz hp hf=>?_
         clear Np
         exact h4 z p (λq=>hn (q▸hz)) hp hf
        ·exact nf b h2 t q i (by rw[e]; exact .head _)
      ·rcases hbs b hm with h1 | h1
       ·exact ((K.deep t q i hd).1 b hb).2 x _ (P6 hy) hx (by rw[hfp]; exact .tail _ h1)
       ·refine Pc (ha b h1) (λNu=>?_) (λh2=>?_)
        ·refine aw (Nu) λz p hz hp hf=>?_
         clear Nu
         exact ((K.deep t q i hd).1 b hb).2 z p (λq=>hn (q▸hz)) hp hf
        ·exact nf b h2 t q i hb
 ·exact nB hput
theorem tv (eok:EnvOk env):SD env=false:=by unfold SD; rw[eok.kind]; rfl
set_option tactic.hygienic true in
theorem rq (S:SimE fns k C XP e):dz fns k C (.append x e):=by
 intro stmt h0 P Z A env σ vals fp s Q Er σ' fl j K i hN hR
 replace j:=vB j
 revert j; refine λl=>Pc l (λq=>?_) (λj=>?_)
 ·clear l
  refine iZ (q) λt pt mm ap v pos spos N9 j=>?_
  clear q
  subst N9
  simp only[OJ,OZ] at j
  refine ae (j) λMR oe=>?_
  clear j
  refine ae (MR) λMZ hb=>?_
  clear MR
  refine ae (MZ) λMV MQ=>?_
  clear MZ
  refine ae (MV) λMW hl=>?_
  clear MV
  subst MW
  subst MQ
  refine fC hb λh1 h2 h3=>?_
  simp only[fE] at i
  replace i:=j6 i
  refine Out.bind_k i λr hr hA=>?_
  clear i
  obtain ⟨ry,m⟩:=r
  refine aU hA λy hy hB=>?_
  clear hA
  refine aU hB λp hx hA=>?_
  clear hB
  obtain ⟨vv,mx⟩:=p
  refine aU hA λxs hxx i=>?_
  clear hA
  dsimp only at hy hxx i
  cases bB hy
  cases gO hxx
  clear hy hxx
  by_cases hmx:mx = .sh
  ·rw[OD hmx] at i; exact nB i
  ·rw[OB hmx] at i
   ·refine pJ (K.head hx hmx) λa vs n bs hv ea ra hfp hz hZ hab hne hP hdx=>?_
    refine SE (wpAny_Call_append rfl (by rw[aG oe]; rfl) (by simpa using hl) (by rw[aG oe]; rfl) ?_) (tv K.eok)
    refine cY K.eok.kind h2 (K.loc.var K.eok hv) (aP a vs.toArray rfl (bF _ n ea rfl rfl rfl) (K.eval S oe hr λu s₂ E=>?_))
    obtain ⟨kp,as,M0,ha,ht,hd⟩:=E
    refine ae (M0) λru zu=>?_
    clear M0
    have hlen:=ra.length
    have hzl:=(sz_list.mp hz)
    refine Vb (hsz:=by rw[Pf,hlen]; unfold Rc; exact sW hzl) ⟨n,kp.k.get ea rfl⟩ λh' hp hs=>?_
    refine aj (hp) λn' ep=>?_
    clear hp
    have:=K.putl kp ha hd hx i hmx hv ea hfp hZ hab hne hP hdx hs (vs':=vs++[u]) (by simpa using ep) ((ra.k kp.k).append (.cons ru .nil)) (λz hz'=>by
     rcases O7.mp hz' with h | h
     ·exact hzl.2 z h
     ·rw[OK.mp h]; exact zu) (λb hb=>by
     rcases O7.mp hb with h | h
     ·exact .inl h
     ·exact .inr (by simpa using h)) (λh=>by simpa using h)
    refine ae (this) λhfl g=>?_
    clear this
    refine af (g) λfp' K' F'=>?_
    clear g
    exact hN hfl _ vals fp' (kp.stp.same hs hZ λo e=>by rw[kp.k.get ea rfl] at e; (have oc:=vj e; clear e; subst oc); exact Stay.not_list) K' F'
 ·cases j
theorem RA.split (r:RA h vs xs bs) (i:ON):∃ b1 b2,bs=b1++b2/\RA h (vs.take i) (xs.take i) b1/\RA h (vs.drop i) (xs.drop i) b2 :=
 RA.ind (N:=λvs xs bs=>∀ i,∃ b1 b2,bs=b1++b2/\RA h (vs.take i) (xs.take i) b1/\RA h (vs.drop i) (xs.drop i) b2) (λi=>(aP ([]) ([]) rfl (by rw[YO,YO]; exact RA.nil) (by rw[WO,WO]; exact RA.nil))) (λ{v vs d m as bs} x r l i=>by
  cases i with
  | zero=>exact (aP ([]) (as++bs) rfl RA.nil (RA.cons x r))
  | succ i=>
   refine aw (l i) λb1 b2 g k j=>?_
   exact (aP (as++b1) b2 (by rw[QO,g]) (RA.cons x k) j)) r i
theorem Cv (l:vk N8) (k:ON) (y:N8):(l.toArray.extract 0 k).push y++l.toArray.extract k=(l.take k++y::l.drop k).toArray:=by
 apply WB.mp
 simp
 exact Qp (by simp)
set_option tactic.hygienic true in
theorem qX (hXP:∀ c s s₁ x s',Kp s s₁->XP c s₁ x s'->XP c s x s') {x:Ot}{i e:E}(Si:SimE fns k C XP i) (S:SimE fns k C XP e):dz fns k C (.insert x i e):=by
 intro stmt h0 P Z A env σ vals fp s Q Er σ' fl ok K he hN hR
 replace ok:=ve ok
 revert ok; refine λNx=>Pc Nx (λNv=>?_) (λok=>?_)
 ·clear Nx
  refine CN (Nv) λt pt mm ap vi v pos spos Of ok=>?_
  clear Nv
  subst Of
  simp only[OJ,OZ] at ok
  refine ae (ok) λMP oe=>?_
  clear ok
  refine ae (MP) λMT oi=>?_
  clear MP
  refine ae (MT) λMX hb=>?_
  clear MT
  refine ae (MX) λMY M1=>?_
  clear MX
  refine ae (MY) λM2 hl=>?_
  clear MY
  subst M2
  subst M1
  refine fC hb λh1 h2 h3=>?_
  simp only[jb] at he
  replace he:=j6 he
  refine Out.bind_k he λq hq hA=>?_
  clear he
  refine Out.bind_k hA λr hr hB=>?_
  clear hA
  obtain ⟨ri,mi⟩:=q
  obtain ⟨ry,m⟩:=r
  refine aU hB λd hd' hA=>?_
  clear hB
  refine aU hA λj hj hB=>?_
  clear hA
  refine aU hB λy hy hA=>?_
  clear hB
  refine aU hA λp hx hB=>?_
  clear hA
  obtain ⟨vv,mx⟩:=p
  refine aU hB λg hxx he=>?_
  clear hB
  dsimp only at hd' hy hxx he
  cases bB hd'
  cases cE hj
  cases bB hy
  cases gO hxx
  clear hd' hj hy hxx
  by_cases hmx:mx = .sh\/j<0\/(g.length:OF)<j
  ·rw[OD hmx] at he; exact nB he
  ·rw[OB hmx] at he
   ·have hmx':mx≠.sh:=λq=>hmx (.inl q)
    have hj0:0<=j:=by
     apply Rp.mp
     exact λq=>hmx (.inr (.inl q))
    have hjl:j<=g.length:=by
     apply Rp.mp
     exact λq=>hmx (.inr (.inr q))
    refine pJ (K.head hx hmx') λa vs n bs hv ea ra hfp hz hZ hab hne hP hdx=>?_
    have hlen:=ra.length
    have hzl:=(sz_list.mp hz)
    refine SE (Xi (T:="list") (id:="list.insert") rfl (by rw[aG oi,aG oe]; rfl) (by simpa using hl) Xj WG F.type_list_insert ?_) (tv K.eok)
    refine cY K.eok.kind h2 (K.loc.var K.eok hv) ⟨(ag _ ea rfl),λb hb=>?_,?_⟩
    ·cases hb; exact (ag _ ea rfl)
    have fin:OQ (OT prog w) A (Vu (Rq pos (PV [vi,v] env))) (λws s₁=>OQ (OT prog w) A (R3 (.builtin "list.insert") ([.ref a]++ws)) (λuu=>Q .next) Er s₁) Er s:=by
     refine Qv ?_ (aG oi _ env)
     refine K.eval Si oi hq λvj s₁ Ei=>?_
     refine ir _ oe ((K.onK Ei.keeps.k).eval S oe hr λu s₂ E=>?_)
     obtain ⟨ki,is,M3,_⟩:=Ei
     refine ae (M3) λrj _=>?_
     clear M3
     cases rj
     obtain ⟨kp,as,M5,ha,ht,hd⟩:=E
     refine ae (M5) λru zu=>?_
     clear M5
     have kk:=ki.trans kp
     refine call_meets WG (ag _ (kk.k.get ea rfl) rfl) F.entry_list_insert (F.args_list_insert_3 _ _ _) (Wp a _ n j _ u ?_ ?_) ⟨kk.k.get ea rfl,?_⟩
     ·have:SH j=true:=by
       unfold SH
       simp
       exact Fh hmx hzl
      simp[this]
     ·rw[Pf,hlen]; unfold Rc; exact sW hzl
     ·refine aw ((ra.k kk.k).split j.toNat) λb1 b2 hb12 q1 q2=>?_
      have hup:=Jaa (kk.k.get ea rfl) (λg:OP N8=>(g.extract 0 (if j<0 then (j+((g.size:ON):OF)).toNat else min j.toNat g.size)).push u++g.extract (if j<0 then (j+((g.size:ON):OF)).toNat else min j.toNat g.size))
      have hmin:(if j<0 then (j+((vs.toArray.size:ON):OF)).toNat else min j.toNat vs.toArray.size)=j.toNat:=by
       rw[OB (DO hmx),Pf,hlen]; exact GJ hmx
      obtain ⟨n',hup'⟩:∃ n',IsL (s₂.heap.update a (Pb λg:OP N8=>(g.extract 0 (if j<0 then (j+((g.size:ON):OF)).toNat else min j.toNat g.size)).push u++g.extract (if j<0 then (j+((g.size:ON):OF)).toNat else min j.toNat g.size))) a (vs.take j.toNat++u::vs.drop j.toNat).toArray n':=by
       have:=hup
       rw[hmin,Cv] at this
       exact ⟨_,this⟩
      have:=K.putl kk (as:=as) (λb hb=>(ha b hb).imp (λh=>h) ki.none) (λh=>⟨λb hb=>ki.none ((hd h).1 b hb),(hd h).2⟩) hx he hmx' hv ea hfp hZ hab hne hP hdx (PB ..) hup' (q1.append (.cons ru q2)) (λz hz'=>by
       rcases O7.mp hz' with h | h
       ·exact hzl.2 z (QW h)
       rcases O9.mp h with rfl | h
       ·exact zu
       ·exact hzl.2 z (So h)) (λb hb=>by
       rw[hb12]
       rcases O7.mp hb with h | h
       ·exact .inl (PC _ h)
       rcases O7.mp h with h | h
       ·exact .inr h
       ·exact .inl (PA _ h)) (λh=>by
       rw[hb12] at h
       have p:(b1++b2++as).Perm (b1++(as++b2)):=by
        rw[QO]
        exact Zq b1 RN
       exact p.nodup_iff.mp h)
      refine ae (this) λhfl l=>?_
      clear this
      refine af (l) λfp' K' F'=>?_
      clear l
      exact hN hfl _ vals fp' (kk.stp.same (PB ..) hZ λo e=>by rw[kk.k.get ea rfl] at e; (have oc:=vj e; clear e; subst oc); exact Stay.not_list) K' F'
    rw[aG oi] at fin ⊢
    exact Calls.callWith_builtin (by rw[aG oe]; rfl) (Calls.evalArgs_plain (Qk fin (λvs s₁ h₁=>h₁) λuu uu e=>e))
 ·cases ok
end
section
theorem RA.erase (i:ON) (r:RA h vs xs bs):∃ bs',RA h (vs.eraseIdx i) (xs.eraseIdx i) bs'/\∀ b∈bs',b∈bs :=
 RA.ind (N:=λvs xs bs=>∀ i,∃ bs',RA h (vs.eraseIdx i) (xs.eraseIdx i) bs'/\∀ b∈bs',b∈bs) (λuu=>(ag ([]) RA.nil (λuu h=>(nomatch h)))) (λx r j i=>by
  cases i with
  | zero=>exact (ag _ r (λb g=>PA _ g))
  | succ i=>
   refine af (j i) λbs' q k=>?_
   exact (ag _ (RA.cons x q) (λb g=>(O7.mp g).elim (PC _) λh=>PA _ (k b h)))) r i
theorem yf (l:vk N8) (i:ON):l.toArray.eraseIdxIfInBounds i=(l.eraseIdx i).toArray:=by
 apply WB.mp
 unfold U2
 split
 ·simp
 ·rename_i h
  simp at h
  simp[List.eraseIdx_of_length_le h]
set_option tactic.hygienic true in
theorem wD (Si:SimE fns k C XP i):dz fns k C (.pop x i):=by
 intro stmt h0 P Z A env σ vals fp s Q Er σ' fl v K he hN hR
 replace v:=Ds v
 revert v; refine λNb=>Pc Nb (λM4=>?_) (λv=>?_)
 ·clear Nb
  refine iZ (M4) λt pt mm ap vi pos spos Ol v=>?_
  clear M4
  subst Ol
  simp only[OJ,OZ] at v
  refine ae (v) λMU oi=>?_
  clear v
  refine ae (MU) λMR l=>?_
  clear MU
  refine ae (MR) λMZ MV=>?_
  clear MR
  refine ae (MZ) λMQ hl=>?_
  clear MZ
  subst MQ
  subst MV
  refine fC l λh1 h2 h3=>?_
  simp only[mJ] at he
  replace he:=j6 he
  refine Out.bind_k he λq hq g=>?_
  clear he
  obtain ⟨ri,mi⟩:=q
  refine aU g λd hd' hA=>?_
  clear g
  refine aU hA λj hj hB=>?_
  clear hA
  refine aU hB λp hx hA=>?_
  clear hB
  obtain ⟨vv,mx⟩:=p
  refine aU hA λr hxx g=>?_
  clear hA
  dsimp only at hd' hxx g
  cases bB hd'
  cases cE hj
  cases gO hxx
  clear hd' hj hxx
  by_cases hmx:mx = .sh\/j<0\/(r.length:OF)<=j
  ·rw[OD hmx] at g; exact nB g
  ·rw[OB hmx] at g
   ·replace hN:=lE g hN
    clear g hR
    have hmx':mx≠.sh:=λq=>hmx (.inl q)
    have hj0:0<=j:=Rp.mp λq=>hmx (.inr (.inl q))
    have hjl:j<r.length:=Xm.mp λq=>hmx (.inr (.inr q))
    refine pJ (K.head hx hmx') λa vs n bs hv ea ra hfp hz hZ hab hne hP hdx=>?_
    have u:=ra.length
    have hzl:=(sz_list.mp hz)
    refine SE (Xi (T:="list") (id:="list.pop") rfl (by rw[aG oi]; rfl) (by simpa using hl) Xj X5 F.type_list_pop ?_) (tv K.eok)
    refine cY K.eok.kind h2 (K.loc.var K.eok hv) ⟨(ag _ ea rfl),λb l=>?_,?_⟩
    ·cases l; exact (ag _ ea rfl)
    have fin:OQ (OT prog w) A (Vu (Rq pos (PV [vi] env))) (λws s₁=>OQ (OT prog w) A (R3 (.builtin "list.pop") ([.ref a]++ws)) (λuu=>Q .next) Er s₁) Er s:=by
     refine ir _ oi (K.eval Si oi hq λvj m Ei=>?_)
     obtain ⟨y,is,MW,_⟩:=Ei
     refine ae (MW) λrj _=>?_
     clear MW
     cases rj
     have hlt:j.toNat<vs.length:=by exact Hi hmx u
     refine call_meets X5 (ag _ (y.k.get ea rfl) rfl) F.entry_list_pop (F.args_list_pop_2 _ _) (Yy a vs.toArray n j _ j.toNat vs[j.toNat] ?_ ?_ ?_ ?_) ⟨y.k.get ea rfl,?_⟩
     ·unfold SH
      simp
      exact KI hmx hzl
     ·unfold YU
      rw[Pf,u]
      simp only[OB (Rp.mpr hj0)]
      simp[hj0,hjl]
     ·simp[hlt]
     ·rw[Pf,u]; unfold Rc; exact sW hzl
     ·refine af ((ra.k y.k).erase j.toNat) λbs' q1 q2=>?_
      obtain ⟨n',hup⟩:∃ n',IsL (m.heap.update a (Pb λr=>r.eraseIdxIfInBounds j.toNat)) a (vs.eraseIdx j.toNat).toArray n':=by
       have:=Jaa (y.k.get ea rfl) (λr:OP N8=>r.eraseIdxIfInBounds j.toNat)
       rw[yf] at this
       exact ⟨_,this⟩
      have hs:PR a m.heap (m.heap.update a (Pb λr=>r.eraseIdxIfInBounds j.toNat)):=PB ..
      have hab':a∉bs':=λh=>hab (q2 a h)
      have rv:RV (m.heap.update a (Pb λr=>r.eraseIdxIfInBounds j.toNat)) (.ref a) (.d (.list (r.eraseIdx j.toNat))) (a::bs'):=by
       refine ⟨.list hup (q1.off (wr:=[a]) (λb l o e=>.inr ?_) λb o l e=>hs.extBut b o (λq=>l (by simp[q])) e),sz_list.mpr ⟨Lt (Vj ..) hzl.1,λz hz=>hzl.2 z (U4 hz)⟩⟩
       rw[OK.mp l] at e ⊢
       rw[y.k.get ea rfl] at e; (have oc:=vj e; clear e; subst oc)
       exact ⟨by simp,hab'⟩
      have K':=(K.onK y.k).write (m':=.top) hx hv (y.k.get ea rfl) (by simp) Stay.not_list (λuu q=>by cases q) hZ hne (hP a (.head _)) hs rv (λb l=>hP b (.tail _ (q2 b l))) (λuu=>hab') (λh=>by cases h) λy' q hy hq=>⟨λht b cs e hm=>by
       refine a8 (K.top y' q hq ht) λb' cs' e' _ _ h4=>?_
       rw[e] at e'; cases e'
       exact h4 x _ (P6 hy) hx (by rw[hfp]; exact .tail _ (q2 b hm)),λhd b l hm=>((K.deep y' q hq hd).1 b l).2 x _ (P6 hy) hx (by rw[hfp]; exact .tail _ (q2 b hm))⟩
      exact hN _ vals _ (y.stp.same hs hZ λo e=>by rw[y.k.get ea rfl] at e; (have oc:=vj e; clear e; subst oc); exact Stay.not_list) K' (.one (λuu uu=>rfl) (λz q h=>⟨q,h⟩) λb l hz=>(O9.mp l).elim (λq=>OW hz (q▸hZ)) λl=>(ay x _ hx (by rw[hfp]; exact .tail _ (q2 b l))))
    rw[aG oi] at fin ⊢
    exact Calls.callWith_builtin rfl (Calls.evalArgs_plain (Qk fin (λvs s₁ ha=>ha) λuu uu e=>e))
 ·cases v
theorem SOK.dict (K:SOK fns k h0 P Z A env h σ vals fp) (hx:σ x=rg (v,.deep)) (hfp:fp x=[a]) :
  ¬ Z a/\(∀ y q,y≠x->σ y=rg q->a∉fp y)/\a≠env.locals/\(P a\/h0.get? a=OC):=by
 refine ae (K.deep x _ hx rfl) λj _=>?_
 refine ae (K.val x _ hx) λuu g=>?_
 refine aq (g) λu _ _ l=>?_
 clear g
 have i:a∈fp x:=by rw[hfp]; exact .head _
 exact ⟨(j a i).1,(j a i).2,l a i⟩
theorem qI (ks:vk OF) (i:OF):stored (ks.map λk=>(k,Z3 Gt)) i (.bool Gt)=(if i∈ks then ks else ks++[i]).map λk=>(k,.bool Gt):=by
 unfold stored
 by_cases hi:i∈ks
 ·rw[OD (by simpa using hi),OD hi,Vx]
  apply Uo
  intro a _
  simp only[YQ]
  split<;>rfl
 ·rw[OB (by simpa using hi),OB hi,SI]
  rfl
theorem pq (ho:h.get? a=rg o) (hd:o.data = .dict es ep) (hs:PR a h h') (r:R h (.ref a') (aO t) []) (hx:∀ x∈xs,R h (.ref x.2.1) (aO x.1) []):∀ x∈storedH xs t a' v,R h' (.ref x.2.1) (aO x.1) []:=by
 have off:∀ {v:N8}{d:OU},R h v d []->R h' v d []:=λr=>r.off (wr:=[a]) (λb g l e=>.inl λk n q=>by rw[OK.mp g,ho] at e; (have i:=vj e; clear e; subst i); rw[hd] at q; cases q) λb o g e=>hs.extBut b o (λq=>g (by simp[q])) e
 intro x j
 rcases mem_storedH j with ⟨y,hy,e1,e2⟩ | ⟨e1,e2⟩
 ·rw[e1,e2]; exact off (hx y hy)
 ·rw[e1,e2]; exact off r
theorem jG (xs:vk (vk OF×O1×N8)) (t:vk OF) (a:O1) (v:N8):(storedH xs t a v).map (·.1)=if t∈xs.map (·.1) then xs.map (·.1) else xs.map (·.1)++[t]:=by
 unfold storedH
 rw[jD]
 by_cases hi:t∈xs.map (·.1)
 ·rw[OD (by simpa using hi),OD hi,Vx]
  apply Uo
  intro y _
  simp only[YQ,putAt]
  split<;>rfl
 ·rw[OB (by simpa using hi),OB hi,SI]
  rfl
theorem lz:∀ {xs:vk OU}{ns:vk OF},aK xs=rg ns->ns.length=xs.length
 | [],ns,h=>by simp[aK] at h; subst h; rfl
 | y::xs,ns,h=>by
  cases y<;>simp only[aK] at h<;>try (cases h)
  refine bk h λi e g=>?_
  (clear h; subst g)
  rw[Pz,Pz,lz e]
theorem pg (h:eu x=rg t) (z:sz x=Gt):t.length<=2^22:=by
 cases x<;>simp only[eu] at h<;>try (cases h)
 rw[lz h]
 exact (sz_tuple.mp z).1
set_option tactic.hygienic true in
theorem qv (S:SimE fns k C XP e):dz fns k C (.setitem x e):=by
 intro stmt h0 P Z A env σ vals fp s Q Er σ' fl ok K he hN hR
 replace ok:=tb ok
 revert ok; refine λNt=>Pc Nt (λM7=>?_) (λok=>?_)
 ·clear Nt
  refine iZ (M7) λt pt ix ps c1 c2 spos Oj ok=>?_
  clear M7
  subst Oj
  simp only[OJ,OZ] at ok
  refine ae (ok) λMS oe=>?_
  clear ok
  refine ae (MS) λMP hb=>?_
  clear MS
  subst MP
  refine fC hb λh1 h2 h3=>?_
  simp only[cV] at he
  replace he:=j6 he
  refine Out.bind_k he λr hr g=>?_
  clear he
  obtain ⟨ri,mi⟩:=r
  refine aU g λkd m hA=>?_
  clear g
  refine aU hA λp hx g=>?_
  clear hA
  obtain ⟨v,mx⟩:=p
  dsimp only at m g
  cases bB m
  clear m
  by_cases hmx:mx = .deep
  ·rw[OD hmx] at g
   subst hmx
   refine wpAny_Assign_Subscript (Wc ?_)
   refine ae (K.val x _ hx) λuu Nc=>?_
   refine aq (Nc) λu hv hrv _=>?_
   clear Nc
   dsimp only at hrv
   refine cY K.eok.kind h2 (K.loc.var K.eok hv) (K.eval S oe hr λvk s₂ E=>?_)
   obtain ⟨kk,is,MT,_⟩:=E
   refine ae (MT) λrk zk=>?_
   clear MT
   have K₂:=K.onK kk.k
   have l:=hrv.k kk.k
   have fin:∀ {a:O1}{o:Obj}{v':V}{h':PE}{tk':ON},u = .ref a->fp x=[a]->s₂.heap.get? a=rg o->o.ExactDict->(∃ es ep,o.data = .dict es ep)->PR a s₂.heap h'->RV h' (.ref a) v' [a]->(Out.ok (upd σ x (v',.deep),Flw.next):Out (St×Flw)) = .ok (σ',fl)->Q .next {s₂ with heap:=h',toks:=tk' }:=λ{a} {o} {v'} {h'} {tk'} hu hfp ho hox j hs rv he=>by
    (clear hrv l; subst hu)
    refine du (K.dict hx hfp) λd1 d2 d3 d4=>?_
    have hoc:o.cls≠.type "tuple" := λq=>by
     rw[hox.1] at q; simp at q
    have hod:∀ v,o.data≠.cell v:=λv q=>by
     refine ba (j) λes ep e=>?_
     clear j
     rw[e] at q; cases q
    have K':=K₂.write (m':=.deep) (bs':=[]) hx hv ho hoc (j.elim λes j=>j.elim λep j=>Stay.not_dict j) hod d1 d2 ⟨d3,d4⟩ hs rv (λuu h=>(nomatch h)) (λuu h=>(nomatch h)) (λuu=>⟨λuu h=>(nomatch h),by simp⟩) λy q hy hq=>⟨λuu uu uu uu h=>(nomatch h),λuu uu uu h=>(nomatch h)⟩
    exact lE he hN _ vals _ (kk.stp.same hs d1 λo' e=>by rw[ho] at e; (have oc:=vj e; clear e; subst oc); exact j.elim λes j=>j.elim λep j=>Stay.not_dict j) K' (.one (λuu uu=>rfl) (λz q h=>⟨q,h⟩) λb hb hz=>OW hz (OK.mp hb▸d1))
   cases v with
   | dic0=>
    refine jZ (l) λa MX hfp hsm hdI hdT=>?_
    clear l
    (clear hrv hv; subst MX)
    simp only[g9] at g
    split at g
    ·rename_i i hi
     (have oc:=cE hi; (clear hr zk; subst oc))
     refine R.isInt_k rk λti oqi _=>?_
     (clear rk; subst oqi)
     have m:=hdI
     refine dm (m) λo es ep ho hox j _=>?_
     clear m
     refine Wj (Vr prog w _ _) hdI (λh' hm' hs=>fin (v':=.dicI [_]) rfl hfp ho hox (bG _ _ j) hs (bp a rfl rfl hsm ?_) g) (by simp[Rc])
     simpa [stored] using hm'
    ·split at g
     ·rename_i t ht
      refine af (fc rk ht) λa' MY hk=>?_
      subst MY
      have m:=hdT
      refine dm (m) λo es ep ho hox j _=>?_
      clear m
      refine WH (Tm (rm1 K.room.2.2)) hk hdT (λh' hm' hs=>fin (v':=.dicT [_]) rfl hfp ho hox (bG _ _ j) hs (gT a _ rfl rfl hsm hm' ?_ ?_ ?_) g) (by simp[Rc])
      ·rw[jG]; simp
      ·intro z hz
       rw[OK.mp hz]
       exact pg ht zk
      ·exact pq ho j hs (rU rk ht) λx hx=>nomatch hx
     ·exact nB g
   | dicI ks=>
    refine bD (l) λa M1 hfp hsm hdI=>?_
    clear l
    (clear hrv hv; subst M1)
    simp only[g9] at g
    split at g
    ·rename_i i hi
     split at g
     ·rename_i n
      (have oc:=cE hi; (clear hr zk; subst oc))
      refine R.isInt_k rk λti oqi _=>?_
      (clear rk; subst oqi)
      have m:=hdI
      refine dm (m) λo es ep ho hox j _=>?_
      clear m
      refine Wj (Vr prog w _ _) hdI (λh' hm' hs=>fin (v':=.dicI _) rfl hfp ho hox (bG _ _ j) hs (bp a rfl rfl hsm ?_) g) (by rw[OV]; unfold lim at n; unfold Rc; exact zU n)
      rw[qI] at hm'
      exact hm'
     ·exact nB g
    ·exact nB g
   | dicT ks=>
    refine tY (l) λa xs M2 hfp hsm hdT M3 hks htu=>?_
    clear l
    (clear hrv hv; subst M2)
    subst M3
    simp only[g9] at g
    split at g
    ·rename_i t ht
     split at g
     ·rename_i n
      refine af (fc rk ht) λa' M5 hk=>?_
      subst M5
      have m:=hdT
      refine dm (m) λo es ep ho hox j _=>?_
      clear m
      refine WH (Tm (rm1 K.room.2.2)) hk hdT (λh' hm' hs=>fin (v':=.dicT _) rfl hfp ho hox (bG _ _ j) hs (gT a _ rfl rfl hsm hm' ?_ ?_ ?_) g) (by rw[OV] at n; unfold lim at n; unfold Rc; exact zU n)
      ·rw[jG]
      ·intro z hz
       split at hz
       ·exact hks z hz
       ·rcases O7.mp hz with h | h
        ·exact hks z h
        ·rw[OK.mp h]; exact pg ht zk
      ·exact pq ho j hs (rU rk ht) htu
     ·exact nB g
    ·exact nB g
   | _=>simp only[g9] at g; exact nB g
  ·rw[OB hmx] at g; exact nB g
 ·cases ok
end
section
end
section
theorem SOK.lv (hf:fns.hand=Oz) (K:SOK fns k h0 P Z A env h σ vals fp):Lv A env h:=by
 refine bD (K.out hf) λl x v p u=>?_
 refine (aD l x (λj g=>?_) p)
 rcases O9.mp g with rfl | g
 ·refine af (K.loc.ns) λm i _=>?_
  refine aV (i) λo y z e r _=>?_
  clear i
  refine af (K.loc.cls) λo' n t=>?_
  rw[e] at n; (have q:=vj n; clear n; subst q)
  exact (aB K.eok.kind (jX _ o y z p u e t r))
 ·exact v.k K.kp0 j g
theorem SOK.zd (K:SOK fns k h0 P Z A env h σ vals fp) (b:O1) (hb:Z b):dom h b:=K.zdom b hb
theorem SOK.evalX (hf:fns.hand=Oz) (K:SOK fns k h0 P Z A env s.heap σ vals fp) (S:SimE fns k C XPc e) (ok:okE env.scope.names e exx=Gt) (he:ev C e σ = .exc c)
  (hE:∀ x s',Stp Z s s'->Lv A env s'.heap->Exc Z s'.heap c env.locals x->Er x s'):OQ (OT prog w) A (WF exx env) Q Er s:=by
 have g:ev C e (cD σ (fv e)) = .exc c:=by rw[az C e _ σ (b8 σ (fv e))]; exact he
 refine S ok (K.cx (fv e)) (by rw[g]; simp) (λr h=>by rw[g] at h; cases h) λj i x s' X=>?_
 rw[g] at i; cases i
 exact hE x s' X.1.stp ((K.onK X.1.k).lv hf) (Fly.exc (X.2.old K.zd))
theorem SOK.evalTX (hf:fns.hand=Oz) (K:SOK fns k h0 P Z A env s.heap σ vals fp) (S:SimT fns k C XPc e) (ok:okE env.scope.names e exx=Gt) (he:ev C e σ = .exc c)
  (hE:∀ x s',Stp Z s s'->Lv A env s'.heap->Exc Z s'.heap c env.locals x->Er x s'):OQ (OT prog w) A (isTrue exx env (WF exx env)) Q Er s:=by
 have g:ev C e (cD σ (fv e)) = .exc c:=by rw[az C e _ σ (b8 σ (fv e))]; exact he
 refine S ok (K.cx (fv e)) (by rw[g]; simp) (λr h=>by rw[g] at h; cases h) λj i x s' X=>?_
 rw[g] at i; cases i
 exact hE x s' X.1.stp ((K.onK X.1.k).lv hf) (Fly.exc (X.2.old K.zd))
theorem xk:NE (au v):=λc h=>by
 unfold au at h
 split at h<;>cases h
theorem yD (hf:fns.hand=Oz) (S:SimE fns k C XPc e):dA fns k C (.ret e):=by
 intro p u P Z A r t o v s Q Er c j K l q
 replace j:=qk j
 revert j; refine λg=>Pc g (λh=>?_) (λj=>?_)
 ·clear g
  refine av (h) λn m i j=>?_
  clear h
  subst i
  simp only[hW] at l
  rcases cb l with l | ⟨_,_,l⟩
  ·exact TK (K.evalX hf S j l q)
  ·cases l
 ·cases j
theorem vp (hf:fns.hand=Oz) (S:SimE fns k C XPc e):dA fns k C (.expr e):=by
 intro u z P Z A r y t fp s Q Er c j K l x
 replace j:=mB j
 revert j; refine λg=>Pc g (λh=>?_) (λj=>?_)
 ·clear g
  refine iQ (h) λq p o n m i j=>?_
  clear h
  subst i
  simp only[eY] at l
  have v:SD r=false:=by unfold SD; rw[K.eok.kind]; rfl
  rcases cb l with l | ⟨_,_,l⟩
  ·exact SE (K.evalX hf S j l x) v
  ·cases l
 ·cases j
theorem qM (hf:fns.hand=Oz) (S:SimE fns k C XPc e):dA fns k C (.assign x e):=by
 intro u h0 P Z A env σ t fp s Q Er c g K j z
 replace g:=nL g
 revert g; refine λh=>Pc h (λi=>?_) (λg=>?_)
 ·clear h
  refine cR (i) λq p o n l g=>?_
  clear i
  subst l
  simp only[OJ,OZ] at g
  refine ae (g) λm v=>?_
  clear g
  refine ae (m) λr hb=>?_
  clear m
  subst r
  simp only[dv] at j
  rcases cb j with j | ⟨_,_,j⟩
  ·refine ae (AW j) λj y=>?_
   exact Xh (K.evalX hf S v j z) (ky (mT y v) _ _ _)
  ·cases j
 ·cases g
theorem yA (hf:fns.hand=Oz) (T:SimT fns k C XPc c) (Xa:dI fns k C a) (Xb:dI fns k C b):dA fns k C (.ite c a b):=by
 intro stmt h0 P Z A env σ z fp s Q Er c' h K g y
 replace h:=uU h
 revert h; refine λi=>Pc i (λj=>?_) (λh=>?_)
 ·clear i
  refine cR (j) λp o n m l h=>?_
  clear j
  subst l
  simp only[OJ] at h
  simp only[fV] at g
  rcases cb g with g | ⟨r,hr,g⟩
  ·exact ZS (K.evalTX hf T h.1.1 g y)
  ·rcases cb g with g | ⟨t,ht,g⟩
   ·exact OW g (xk c')
   ·refine ZS (K.evalT T h.1.1 (b:=t) (by rw[hr]; exact ht) λs₁ v=>?_)
    have K₁:=K.onK v.k
    cases t with
    | true=>
     rw[OD rfl] at g ⊢
     exact Xa h.1.2 K₁ g λx u q=>y x u (v.stp.trans q)
    | false=>
     simp only[Pn,P2] at g ⊢
     exact Xb h.2 K₁ g λx u q=>y x u (v.stp.trans q)
 ·cases h
theorem tm {st:S}{r:Ss}(S:dz fns k C st) (X:dA fns k C st) (Xr:dI fns k C r):dI fns k C (.cons st r):=by
 intro p h0 P Z A env σ y fp s Q Er c g K j z
 replace g:=rF g
 revert g; refine λh=>Pc h (λi=>?_) (λg=>?_)
 ·clear h
  refine av (i) λn m l g=>?_
  clear i
  subst l
  simp only[OJ] at g
  simp only[b0] at j
  rcases cb j with j | ⟨⟨σa,fla⟩,h1,j⟩
  ·exact QI (X g.1 K j z)
  ·dsimp only at j
   cases fla with
   | ret v=>cases j
   | next=>
    refine QI (S g.1 K h1 (λuu s' o fp' st K' F=>?_) λq e=>by cases e)
    exact Xr g.2 K' j λx u t=>z x u (st.trans t)
 ·cases g
theorem vZ:dI fns k C .nil:=by
 intro g o P Z A j l h p s Q Er c m K i n
 simp only[cP] at i
 cases i
theorem tO (hf:fns.hand=Oz) (hC:cJ fns k C XPc):dA fns k C (.raise c):=by
 intro x h0 P Z A env σ v fp s Q Er c' h K l hE
 replace h:=yM h
 revert h; refine λi=>Pc i (λj=>?_) (λh=>?_)
 ·clear i
  refine iZ (j) λr np t kk p2 cp pos m h=>?_
  clear j
  subst m
  simp only[OJ,OZ,Pk] at h
  refine ae (h) λp hl=>?_
  clear h
  refine ae (p) λn hd=>?_
  clear p
  refine ae (n) λu hg=>?_
  clear n
  subst u
  simp only[fo] at l
  cases hc:C c with
  | none=>rw[hc] at l; cases l
  | some g=>
   rw[hc] at l
   simp only[am] at l
   split at l
   ·rename_i hn
    cases l
    have z:=(hC c g hc).2.2.1 hn
    have ge:=K.ge.k K.kp0
    refine aq (ge.exc) λmg g1 g2 _=>?_
    refine ae (g2 c z) λgm xd=>?_
    refine xd.1.use @λN nm q bs hdct sn sub ab col dd k0 k1 k2 k3 k5 mN e1 e2 e3 e4=>?_
    refine wpAny_Raise_call_subT (C:=SF.exc c) (nm:=nm) (q:=q) (N:=N) (bs:=bs) (bm:=b9 c) (hdct:=hdct) (sn:=sn) (sub:=sub) (ab:=ab) (col:=col) (dd:=dd) (k0:=k0) (k1:=k1) (k2:=k2) (k3:=k3) (k5:=k5)
     SJ (mN:=mN) (e4.hasType SJ.hasBase) (K.room.1 hf) rfl e3 (Calls.Name_function_global K.eok.kind (dQ hg) (Calls.loadGlobal_global (K.eok.glob▸g1) gm ⟨rfl,?_⟩) (nd hd))
    refine Calls.evalArgs_plain (Qv (Wv (Sp (lI rfl (by show 1<=Rc; rw[P1]; exact JZ) e1 e2 e4 (λh' e Mk=>?_)))) rfl)
    refine aq (Mk.there) λtt m1 m2 m3=>?_
    have y:Kp s {s with heap:=h',toks:=s.toks+1 }:=.of Mk.keeps
    refine hE _ _ y.stp ((K.onK y.k).lv hf) (aP e _ rfl (cg (λq=>(by obtain ⟨o,eo⟩:=K.zdom e q; rw[Mk.new] at eo; cases eo)) z (aD _ m1 rfl rfl)) (.inl rfl))
   ·cases l
 ·cases h
theorem oz {α β:Type}{o:Out α}{f:α->Out β}{c:Ot}(h:o.calm.bind f = .exc c):∃ a,f a = .exc c:=by
 cases o with
 | ok a=>exact ⟨a,h⟩
 | exc c=>cases h
 | bad=>cases h
theorem Be {α β:Type}{o:Out α}{f:α->Out β}{c:Ot}{G:Prop}(h:o.calm.bind f = .exc c) (k:∀ a,f a = .exc c->G):G:=aj (oz h) k
theorem yR (h:am o f = .exc c):∃ a,f a = .exc c:=by
 cases o with
 | some a=>exact ⟨a,h⟩
 | none=>cases h
theorem d6 {α β:Type}{o:OE α}{f:α->Out β}{c:Ot}{G:Prop}(h:am o f = .exc c) (k:∀ a,f a = .exc c->G):G:=aj (yR h) k
theorem eA {st:S}(h:∀ σ c,ex C st σ≠.exc c):dA fns k C st:=by
 intro i o P Z A l σ g p s Q Er c m K j n
 exact OW j (h σ c)
theorem pi:dA fns k C (.setitem x e):=eA λg c h=>by rw[cV] at h; exact NE.calm c h
theorem qZ:dA fns k C (.append x e):=eA λg c h=>by rw[fE] at h; exact NE.calm c h
theorem qJ:dA fns k C (.insert x i e):=eA λg c h=>by rw[jb] at h; exact NE.calm c h
theorem ww:dA fns k C (.pop x i):=eA λg c h=>by rw[mJ] at h; exact NE.calm c h
theorem vH:dA fns k C (.retn x):=eA λg c h=>by
 simp only[kK] at h
 split at h<;>cases h
theorem x7:dA fns k C .bad:=eA λg c h=>by simp only[A8] at h; cases h
end
section
end
section
variable {M:UO}{A:Pq}{E:N8->OA->Prop}{g:OP VV}{dr:Zz}{tk:ON}{os:WS}
theorem qH
  (hC:h.get? C=rg (Qy nm q C N bs bm hdct sn sub ab col dd k0 k1 k2 k3 k5 ni)) (hD:h.get? D=rg (Qy nm' q' D N' bs' bm' hdct' sn' sub' ab' col' dd' j0 j1 j2 j3 j5 ni')) (he:h.get? e=rg oe) (hcls:oe.cls = .ref C) (hbase:bm'.contains (.type "BaseException")=Gt)
  (hb:(Py C::bm).contains (.ref D)=Gt) (hq:Q Gt ⟨h,g,dr,tk,os⟩):OQ M A (excMatches (.ref e) (.ref D)) Q E ⟨h,g,dr,tk,os⟩:=by
 have i:(Py D::bm').contains (.type "BaseException")=true:=by rw[T4,hbase,W2]
 have f:=tc_notTuple
 unfold excMatches
 repeat (first | (with_reducible refine PM he ?_; rw[hcls]) | with_reducible refine PM hD ?_ | (with_reducible refine Rb hD ?_; rw[i]) | (with_reducible refine Rb hC ?_; rw[hb]) | wp_step)
 first
  | exact hq
  | (wp_walk; exact hq)
end
section
theorem SOK.hand (hf:fns.hand=Oz) {h:PE}(K:SOK fns k h0 P Z A env h σ vals fp) (v:N8):SOK {fns with hand:=Gt } k h0 P Z (A.mark (rg v)) env h σ vals fp where
 room:=by
  refine ae (K.room.at hf) λi g=>?_
  refine ⟨(λq=>by cases q),?_,?_⟩
  ·show A.depth+2*k+1<_; exact KR i
  ·show A.units+100*k+200<_; exact Ji g
 eok:=K.eok
 ge:=K.ge.flag _ _
 z0:=K.z0
 kp0:=K.kp0
 code:=K.code
 out:=λq=>by exact nT q
 zdom:=K.zdom
 loc:=K.loc
 val:=K.val
 top:=K.top
 deep:=K.deep
theorem rA (hX:∀ t g,C t=rg g->t∈aE->t∈SF.excN) (t:Ot) (g:vk V->Out (V×Mode)) (h:kI C t=rg g) (ht:t∈aE):t∈SF.excN:=hX t g ((OD ht).symm.trans h) ht
theorem Jc (hX:∀ t g,C t=rg g->t∈aE->t∈SF.excN) {h0:PE}{P Z:O1->Prop}{A:Pq}{env:Env}{Q:ZR->OA->Prop}{Er:N8->OA->Prop}{r:V×Mode}(b:vk H1):∀ {stmts:vk R5}{σ:St}{vals:Ot->OE N8}{fp:Ot->vk O1}{s:OA},
  yz env.scope.names b stmts=Gt->SOK fns k h0 P Z A env s.heap σ vals fp->exH C b σ = .ok r ->
  (∀ v s',Stp Z s s'->kQ h0 P r v s'->(∃ m,s'.heap.Ns env.locals m)->Q (.ret v) s') ->
  OQ (OT prog w) A (Yx stmts env) Q Er s:=by
 induction b with
 | nil=>exact λ_ _ h _=>nB h
 | cons a b ih=>
  intro stmts σ vals fp s ok K h z
  refine ai ok λq e1 ok=>?_
  refine bS ok λl o2=>?_
  rw[db e1]
  cases a with
  | asg x e=>
   replace h:(if hOk e then (ev (kI C) e σ).bind λq=>exH C b (upd (consume σ (fv e) q.2) x q) else .bad) = .ok r:=h
   by_cases hh:hOk e=Gt
   ·rw[OD hh] at h
    refine Out.bind_k h λv o h=>?_
    have S:SimE fns k (kI C) XPc e:=(js bM (rA hX) e hh).e
    refine QI (kD (x:=x) S ⟨λuu uu uu q=>(by (clear S h o l ok; subst q); cases hh),λuu uu uu uu q=>(by (clear S h o l ok; subst q); cases hh)⟩ (show okS env.scope.names (.assign x e) q.1=Gt from l) K (σ':=upd (consume σ (fv e) v.2) x v) (fl:=.next) (by simp only[dv]; rw[l7 o]; rfl) (λuu y j p i K₁ F₁=>?_) λr q=>by cases q)
    exact ih o2 K₁ h λv s' st=>z v s' (i.trans st)
   ·rw[OB hh] at h; exact nB h
  | ret e=>
   replace h:(if hOk e then ev (kI C) e σ else .bad) = .ok r:=h
   by_cases hh:hOk e=Gt
   ·rw[OD hh] at h
    have S:SimE fns k (kI C) XPc e:=(js bM (rA hX) e hh).e
    refine QI ?_
    refine av ((qk (show okS env.scope.names (.ret e) q.1=Gt from l)).resolve_right id) λOz Oy n ok3=>?_
    rw[n]
    exact TK (K.eval S ok3 h λu s' E=>z u s' E.keeps.stp (r7 K E) (af ((K.onK E.keeps.k).loc.ns) λm hm _=>⟨m,hm⟩))
   ·rw[OB hh] at h; exact nB h
noncomputable def K4 (fns:Fns) (k:ON) (C:Calls) (st:S):Prop:=∀ {stmt:R5}{h0:PE}{P Z:O1->Prop}{A:Pq}{env:Env}{σ:St}{vals:Ot->OE N8}{fp:Ot->vk O1}{s:OA}{Q:ZR->OA->Prop}{Er:N8->OA->Prop}{c:Ot},
 okS env.scope.names st stmt=Gt->SOK fns k h0 P Z A env s.heap σ vals fp->ex C st σ = .exc c->(∀ x s',XPc c s x s'->Er x s')->OQ (OT prog w) A (exec stmt env) Q Er s
theorem SOK.evalK (K:SOK fns k h0 P Z A env s.heap σ vals fp) (S:SimE fns k C XPc e) (ok:okE env.scope.names e exx=Gt) (he:ev C e σ = .exc c)
  (hE:∀ x s',XPc c s x s'->Er x s'):OQ (OT prog w) A (WF exx env) Q Er s:=by
 have g:ev C e (cD σ (fv e)) = .exc c:=by rw[az C e _ σ (b8 σ (fv e))]; exact he
 refine S ok (K.cx (fv e)) (by rw[g]; simp) (λr h=>by rw[g] at h; cases h) λj i x s' X=>?_
 rw[g] at i; cases i
 exact hE x s' X
theorem xJ (hb:tj b=Gt) (Se:∀ e,b = .expr e->SimE fns k C XPc e):K4 fns k C b:=by
 intro u z P Z A r y t fp s Q Er c j K l x
 cases b with
 | expr e=>
  replace j:=mB j
  revert j; refine λg=>Pc g (λh=>?_) (λj=>?_)
  ·clear g
   refine iQ (h) λq p o n m i j=>?_
   clear h
   subst i
   simp only[eY] at l
   have v:SD r=false:=by unfold SD; rw[K.eok.kind]; rfl
   rcases cb l with l | ⟨_,_,l⟩
   ·exact SE (K.evalK (Se e rfl) j l x) v
   ·cases l
  ·cases j
 | _=>exact nF hb
theorem C9 (hf:fns.hand=Oz) (hC:cJ fns k C XPc) (j:SOK fns k h0 P Z A env s.heap σ vals fp) (ok:yk env.scope.names d x r u=Gt)
  (kk:K s.heap h) (fly:FlyA (dom s.heap) h c .none v) (fr:FrOk h l) (he:ql C c d x r σ = .ok q)
  (hR:∀ v s',Stp Z s s'->kQ h0 P q v s'->Q (.ret v) s'):OQ (OT prog w) A (handleBy v env [u]) Q Er {s with heap:=h,toks:=tk }:=by
 refine ai ok λq1 e1 o1=>?_
 refine ai o1 λn e2 o1=>?_
 refine bS o1 λo1 o2=>?_
 refine bS o1 λo1 hg=>?_
 refine bS hg λhg hd=>?_
 refine bS o2 λo2 ob=>?_
 refine bS o2 λhnm b1=>?_
 refine bS b1 λb1 b2=>?_
 have hn:=OZ.mp o1
 replace hnm:=OZ.mp hnm
 replace b2:=OZ.mp b2
 clear o1 o2 ok
 refine aj (yt e1) λpos e3=>?_
 rw[e3,a0 e2,hn,hnm]
 unfold ql at he
 refine aU he λgC hgC he=>?_
 by_cases hm:d∈aE/\(d=c\/d = "PickError")
 rotate_left
 ·rw[OB hm] at he; exact nB he
 rw[OD hm] at he
 refine Out.bind_k he λq' he hq=>?_
 by_cases hsc:mq q'.1=Gt
 rotate_left
 ·rw[OB hsc] at hq; exact nB hq
 rw[OD hsc] at hq
 have hX:∀ t g,C t=rg g->t∈aE->t∈SF.excN:=λt g h1 h2=>(hC t g h1).2.2.1 h2
 have hdN:=hX d gC hgC hm.1
 have ge:=j.ge.k (KG.trans j.kp0 kk)
 refine aq (ge.exc) λmg g1 g2 g3=>?_
 refine ae (g2 d hdN) λgm xd=>?_
 refine xd.1.use λd1 d2 d3 d4=>?_
 clear xd
 have fly':=fly
 refine aw (fly) λe vs MQ MW _=>?_
 clear fly
 subst MQ
 refine aH (MW) λne cn No=>?_
 clear MW
 refine aq (No) λoe ee hc hdt=>?_
 clear No
 refine (g2 c cn).2.1.use λc1 c2 c3 c4=>?_
 refine wpAny_handleBy_cons (codeAny_handlers_test (Calls.Name_function_global j.eok.kind (dQ hg) (Calls.loadGlobal_global (j.eok.glob▸g1) gm ?_) (nd hd))) (by intro q; cases q)
 refine qH c1 d1 ee hc (d4.hasType SJ.hasBase) ((qm g3 cn hdN).trans (PK hm.2)) ?_
 clear c1 c2 c3 c4 d1 d2 d3 d4 gm g1 g2 g3 ge hdt hgC hdN
 refine codeAny_handlers_suite_as (lB (l:=l) fr fly' λp fd kd i=>?_)
 have k04:K s.heap p:=Internal.K.step kk kd λb o e=>⟨o,e⟩
 have ree:RV p (.ref e) (.err c) [e]:=by
  refine aw (fd) λe' vs' q1 MU _=>?_
  clear fd
  obtain ⟨_,_,oe',ee',hc',_⟩:=MU
  cases q1
  exact ⟨e,oe',rfl,rfl,ee',hc',cn⟩
 have std:Stp Z s {s with heap:=p,toks:=tk }:=(ay p tk rfl (k04.mono λuu uu=>trivial))
 clear fd i kd fly' fr kk ee hc cn
 have nfp:∀ y q,σ y=rg q->e∉fp y:=λy q hq hm=>by
  refine ae (j.val y q hq) λuu ow=>?_
  refine aq ow λv _ hr _=>?_
  exact ne (hr.there e hm)
 have nz:¬ Z e:=λhz=>ne (j.zdom e hz)
 refine fC b1 λg1 g2 g3=>?_
 refine ((j.onK k04).hand hf (.ref e)).put (s:={s with heap:=p,toks:=tk }) (x:=x) (r:=(.err c,.sh)) (as:=[e]) g1 g3 ree (λa ha=>?_) (λq=>by cases q) (λq=>by cases q) (λy q hy hq=>⟨λ_ a bs ea ha=>?_,λ_ a ha hm=>?_⟩) λs5 st5 kp5 K5=>?_
 ·rw[OK.mp ha]
  refine ⟨λq=>?_,.inr (j.h0n nz)⟩
  refine af (j.loc.cls) λo eo _=>?_
  exact ne ⟨o,q▸eo⟩
 ·exact nfp y q hq (by rw[ea,OK.mp ha]; exact .head _)
 ·exact nfp y q hq (OK.mp hm▸ha)
 refine Jc (fns:={fns with hand:=Gt }) (s:=s5) hX r ob K5 he λv s6 st6 R6 hK=>?_
 refine aj (hK) λm hm=>?_
 refine wpAny_nameGoes b2 hm (by rw[j.eok.kind]; rfl) λz m' hng hs=>?_
 have hT:Spot env s6.heap env.locals:=.inl (aB rfl (bx m hm))
 have hkp:te env.locals s6.heap z:=λ⟨u,o,e,q⟩=>by obtain ⟨o',es,ep,e',q',_⟩:=hm; rw[e] at e'; (have oc:=vj e'; clear e'; subst oc); rw[q] at q'; cases q'
 have oc:=Out.ok.inj hq
 subst oc
 refine hR v _ (((std.trans st5).trans st6).trans ((Stp.refl Z s6).same hs j.loc.nz hT.nostay)) ?_
 refine bD (R6) λas r1 r2 r3 r4=>?_
 cases r1.scal_nil hsc
 exact ⟨[],r1.spot hT hkp (λa h=>nomatch h) hs,r2,r3,r4⟩
theorem wv (hf:fns.hand=Oz) (hC:cJ fns k C XPc) (Sb:dz fns k C b) (Se:∀ e,b = .expr e->SimE fns k C XPc e):dz fns k C (.tryS b d x r):=by
 intro stmt h0 P Z A env σ vals fp s Q Er σ' fl ok K g hN hR
 refine aV (Dj ok) λt u p M0 ob oh=>?_
 (clear ok; subst M0)
 rw[kP] at g
 refine wpAny_Try_except (QI ?_)
 cases o:ex C b σ with
 | ok a=>
  rw[o] at g
  exact Sb ob K (o.trans g) (λe s' i fp' st K' F=>Ti (Ti (hN e s' i fp' st K' F))) hR
 | bad=>rw[o] at g; exact nB g
 | exc c=>
  rw[o] at g
  replace g:(if tj b then (ql C c d x r σ).calm.bind λq=>.ok (σ,.ret q) else .bad) = .ok (σ',fl):=g
  by_cases h1:tj b=Gt
  rotate_left
  ·rw[OB h1] at g; exact nB g
  rw[OD h1] at g
  cases o2:ql C c d x r σ with
  | bad=>rw[o2] at g; exact nB g
  | exc c'=>rw[o2] at g; exact nB g
  | ok q=>
  rw[o2] at g
  refine xJ h1 Se ob K o λx s₁ X=>?_
  refine ae (X) λj fly=>?_
  clear X
  refine av (j) λv tka MP h=>?_
  clear j
  subst MP
  refine aq ((K.onK h).lv hf) λl l1 l2 l3=>?_
  have hN':∀ b,dom s.heap b->∃ o,v.get? b=rg o:=λb ⟨o,e⟩=>af (h b o (.inl trivial) e) λo' e' uu=>⟨o',e'⟩
  refine yi hN' l1 l2 l3 (Fly.exc fly) λhb z n F₂=>lB F₂ z λhc y m F₃=>?_
  exact C9 hf hC K oh (Internal.K.step (Internal.K.step h n λb o e=>⟨o,e⟩) m λb o e=>⟨o,e⟩) y F₃ o2 (Ae g hR)
theorem xr:dA fns k C (.tryS b d x r):=eA λg c h=>by
 rw[kP] at h
 cases o:ex C b g with
 | ok a=>rw[o] at h; cases h
 | exc c=>
  rw[o] at h
  simp only[orH] at h
  split at h
  ·exact Be h λq h=>by cases h
  ·cases h
 | bad=>rw[o] at h; cases h
end
section
theorem RV.fields {h h':PE}{wr:vk O1}{v:N8}{x:V}{as:vk O1}(r:RV h v x as) (hw:∀ b∈wr,∃ o,h.get? b=rg o/\(∀ C,o.cls≠.ref C)/\∃ fs,o.data = .fields fs) (kp:∀ b o,b∉wr->h.get? b=rg o->h'.get? b=rg o):RV h' v x as:=by
 have j:∀ b o,h.get? b=rg o->(∀ fs,o.data≠.fields fs)->b∉wr:=λb o e hd hm=>by
  refine aq (hw b hm) λi g _ p=>?_
  refine aj (p) λfs q=>?_
  clear p
  rw[e] at g; (have z:=vj g; clear g; subst z)
  exact hd fs q
 have key:∀ ks b,Sx (RD prog w) h ks b->Sx (RD prog w) h' ks b:=λks b hk=>by
  refine aV (hk) λi it n a1 a2 a3=>?_
  clear hk
  exact (cU i it n (kp b i (j b i a1 λfs q=>by rw[a3.1] at q; cases q) a1) a2 a3)
 cases x with
 | d x=>exact ⟨r.1.off (wr:=wr) (λb hb o e=>.inl λvs n q=>by
   refine aq (hw b hb) λi g _ m=>?_
   refine aj (m) λfs q'=>?_
   clear m
   rw[e] at g; (have z:=vj g; clear g; subst z)
   rw[q] at q'; cases q') kp,r.2⟩
 | dic0=>
  refine jZ (r) λb h1 h2 h3 MU MR=>?_
  clear r
  refine dm (MU) λo es ep e hx hd hr=>?_
  clear MU
  refine cH (MR) λi es' ep' g h4 h5 h6 h7 h8=>?_
  clear MR
  exact (iU b h1 h2 h3 (gK o es ep (kp b o (j b o e λfs q=>by rw[hd] at q; cases q) e) hx hd hr) (fI i es' ep' (kp b i (j b i g λfs q=>by rw[h5] at q; cases q) g) h4 h5 h6 (λy hy=>key _ _ (h7 y hy)) h8))
 | dicI ks=>
  refine bD (r) λb h1 h2 h3 MZ=>?_
  clear r
  refine dm (MZ) λo es ep e hx hd hr=>?_
  clear MZ
  exact (bp b h1 h2 h3 (gK o es ep (kp b o (j b o e λfs q=>by rw[hd] at q; cases q) e) hx hd hr))
 | dicT ks=>
  refine jQ (r) λb xs h1 h2 h3 MV h9=>?_
  clear r
  refine cH (MV) λi es' ep' g h4 h5 h6 h7 h8=>?_
  clear MV
  exact (gT b xs h1 h2 h3 (fI i es' ep' (kp b i (j b i g λfs q=>by rw[h5] at q; cases q) g) h4 h5 h6 (λy hy=>key _ _ (h7 y hy)) h8) h9.1 h9.2.1 (λx hx=>(h9.2.2 x hx).off (wr:=wr) (λb hb o e=>.inl λvs n q=>by
   refine aq (hw b hb) λi g _ l=>?_
   refine aj (l) λfs q'=>?_
   clear l
   rw[e] at g; (have z:=vj g; clear g; subst z)
   rw[q] at q'; cases q') kp))
 | rule c d n=>
  refine jH (r) λx D o vf bs t u mA h1 h2 h3 h4 h5 h6 h7 MQ h9 h10 h11 h12 h13 h14=>?_
  clear r
  refine bl (MQ) λoD es ep e hd=>?_
  clear MQ
  have nx:x∉wr:=λhm=>by
   refine aq (hw x hm) λi g hn _=>?_
   rw[h3] at g; (have z:=vj g; clear g; subst z)
   exact hn _ h4
  have nD:D∉wr:=j D oD e λfs q=>by rw[hd.1] at q; cases q
  exact (jA x D o vf bs t u mA h1 h2 (kp x o nx h3) h4 h5 h6 h7 (cf oD es ep (kp D oD nD e) hd) h9 h10 h11 h12 (h13.off (wr:=wr) (λb hb o e=>.inl λvs n q=>by
   refine aq (hw b hb) λi g _ k=>?_
   refine aj (k) λfs q'=>?_
   clear k
   rw[e] at g; (have z:=vj g; clear g; subst z)
   rw[q] at q'; cases q') kp) h14)
 | err c=>
  obtain ⟨x,o,h1,h2,h3,h4,h5⟩:=r
  have nx:x∉wr:=λhm=>by
   obtain ⟨i,g,hn,_⟩:=hw x hm
   rw[h3] at g; (have z:=vj g; clear g; subst z)
   exact hn _ h4
  exact ⟨x,o,h1,h2,kp x o nx h3,h4,h5⟩
theorem SOK.iter {h h':PE}{wr:vk O1}(K:SOK fns k h0 P Z A env h σ vals fp) (hw:∀ b∈wr,∃ o,h.get? b=rg o/\(∀ C,o.cls≠.ref C)/\∃ fs,o.data = .fields fs) (hw':∀ b∈wr,Z b->∃ o,h'.get? b=rg o) (hw0:∀ b∈wr,h0.get? b=OC) (hns:∀ b∈wr,∀ o,h.get? b=rg o->¬ Stay o) (kp:∀ b o,b∉wr->h.get? b=rg o->h'.get? b=rg o):SOK fns k h0 P Z A env h' σ vals fp:=by
 have out:∀ b o,h.get? b=rg o->(∀ fs,o.data≠.fields fs)->b∉wr:=λb o e y u=>by
  refine aq (hw b u) λo' t _ j=>?_
  refine aj (j) λfs q=>?_
  clear j
  rw[e] at t; (have oc:=vj t; clear t; subst oc)
  exact y fs q
 refine ⟨K.room,K.eok,K.ge,K.z0,Internal.K.step K.kp0 (KG.ofW kp hns) (λb o e u=>by rw[hw0 b u] at e; cases e),K.code,K.out,λb hb=>?_,⟨(af (K.loc.ns) λm hns _=>dm hns λo' es ep t y _ _=>af (K.loc.cls) λo e c=>(ag o (kp _ o (out _ o e λfs q=>by rw[e] at t; (have oc:=vj t; clear t; subst oc); rw[y] at q; cases q) e) c)),?_,K.loc.nz,λn c a b=>?_,λx v c a b d=>?_,K.loc.apart,K.loc.kinds⟩,λx p hp=>?_,K.top,K.deep⟩
 ·by_cases u:b∈wr
  ·exact hw' b u hb
  ·refine aj (K.zdom b hb) λo e=>?_
   exact ⟨o,kp b o u e⟩
 ·refine af (K.loc.ns) λm z hv=>?_
  refine aV (z) λo es ep e y hr=>?_
  clear z
  exact (ag m (cU o es ep (kp _ o (out _ o e λfs q=>by rw[y] at q; cases q) e) y hr) hv)
 ·refine aH (K.loc.cell n c a b) λh1 h2 i=>?_
  refine av (i) λv o r l=>?_
  clear i
  exact (cg h1 h2 (ay v o (kp c o (out c o r λfs q=>by rw[l] at q; cases q) r) l))
 ·refine af (K.loc.cval x v c a b d) λo r l=>?_
  exact (ag o (kp c o (out c o r λfs q=>by rw[l] at q; cases q) r) l)
 ·refine ae (K.val x p hp) λh1 g=>?_
  refine aq (g) λv h2 r l=>?_
  clear g
  exact (aB h1 (aD v h2 (r.fields hw kp) l))
theorem SOK.excl {s:OA}{ns:vk Ot}{m:Mode}{F:vk O1}(K:SOK fns k h0 P Z A env s.heap σ vals fp) (ha:∀ a∈F,Own σ fp ns a\/s.heap.get? a=OC) (hd:m = .deep->∀ a∈F,s.heap.get? a=OC) :
  ∀ y q,Internal.consume σ ns m y=rg q->(q.2 = .top->∀ a bs,fp y=a::bs->a∉F)/\(q.2 = .deep->∀ a∈fp y,a∉F):=by
 have nf:∀ a,s.heap.get? a=OC->∀ y q,σ y=rg q->a∉fp y:=λa e y q hq hm=>by
  refine ae (K.val y q hq) λuu NV=>?_
  refine aq (NV) λu _ hr _=>?_
  clear NV
  refine aj (hr.there a hm) λo e'=>?_
  rw[e] at e'; exact nN e'
 intro y q hq
 by_cases hdp:m = .deep
 ·have hq':σ y=rg q:=by unfold Internal.consume at hq; rwa [OD hdp] at hq
  exact ⟨λuu a bs e hm=>nf a (hd hdp a hm) y q hq' (by rw[e]; exact .head _),λuu a ha' hm=>nf a (hd hdp a hm) y q hq' ha'⟩
 ·have hq2:Internal.demote σ ns y=rg q:=by unfold Internal.consume at hq; rwa [OB hdp] at hq
  refine eX hq2 λq' hq' e1 hc=>?_
  rcases hc with ⟨_,rfl⟩ | ⟨hn,rfl⟩
  ·refine ⟨λh=>OW h iz,λh a ha'=>?_⟩
   refine ae (K.val y q' hq') λuu NS=>?_
   refine aq (NS) λu _ hr _=>?_
   clear NS
   rw[hr.scal_nil (fX h)] at ha'
   cases ha'
  ·refine ⟨λh a bs e hm=>?_,λh a ha' hm=>?_⟩
   ·refine Pc (ha a hm) (λM4=>?_) (λh1=>?_)
    ·refine aw (M4) λz p hz hp hf=>?_
     clear M4
     refine a8 (K.top y q hq' h) λa' bs' e' _ _ h4=>?_
     rw[e] at e'; cases e'
     exact h4 z p (λq=>hn (q▸hz)) hp hf
    ·exact nf a h1 y q hq' (by rw[e]; exact .head _)
   ·refine Pc (ha a hm) (λM7=>?_) (λh1=>?_)
    ·refine aw (M7) λz p hz hp hf=>?_
     clear M7
     exact ((K.deep y q hq' h).1 a ha').2 z p (λq=>hn (q▸hz)) hp hf
    ·exact nf a h1 y q hq' ha'
noncomputable def FI (fns:Fns) (k:ON) (C:Calls) (h0:PE) (P Z:O1->Prop) (A:Pq) (env:Env) (xs:vk Ot) (B:OU->Internal.St->OE Internal.St) (b:Ss) (s h:OA) (ds:vk OU) (F wr:vk O1) (L:O1->Prop) (St:ON->PE->Prop) (out:Out (Internal.St×Flw)) (σo:Internal.St) (vals:Ot->OE N8) (fp:Ot->vk O1) (n:ON) (s':OA):Prop :=
 ∃ (j:ON) (σj:Internal.St) (vals':Ot->OE N8) (fp':Ot->vk O1),Stp Z s s'/\SOK fns k h0 P (λb=>Z b\/(b∈F\/b∈wr\/L b)) A env s'.heap σj vals' fp'/\St j s'.heap/\j<=ds.length/\n=ds.length+1-j /\
    cF (λy g=>am (B y g) (exs C b)) (ds.drop j) σj=out/\KG (λb=>Z b\/(b∈F\/L b)) h.heap s'.heap/\Frm (λb=>Z b\/L b) (xs++g7 b) σo vals fp σj vals' fp'
noncomputable def tZ (fns:Fns) (k:ON) (A:Pq) (env:Env) (tg:Expr) (xs:vk Ot) (B:OU->Internal.St->OE Internal.St):Prop:=∀ {h0:PE}{P Z:O1->Prop}{s:OA}{σ σ':Internal.St}{vals:Ot->OE N8}{fp:Ot->vk O1}{v:N8}{d:OU}{bs:vk O1}{Q:Ur->OA->Prop}{Er:N8->OA->Prop},
 SOK fns k h0 P Z A env s.heap σ vals fp->R s.heap v d bs->sz d=Gt->(∀ a∈bs,Z a/\a≠env.locals/\(P a\/h0.get? a=OC))->B d σ=rg σ' ->
 (∀ s' vals' fp',Stp Z s s'->SOK fns k h0 P Z A env s'.heap σ' vals' fp'->(∀ y,y∉xs->vals' y=vals y/\fp' y=fp y)->(∀ y q,σ' y=rg q->(∀ a∈fp' y,a∈bs)\/(σ y=rg q/\fp' y=fp y))->Q () s')->OQ (OT prog w) A (Vn tg env v) Q Er s
theorem Dd (h:∃ o,s.heap.get? I=rg o/\(hardB o=Gt/\noIt o.cls=Gt/\∀ C,o.cls≠.ref C)/\∃ fs,o.data = .fields fs) (hQ:Q () s):OQ (OT prog w) A (VI tg (.ref I) v) Q Er s:=by
 obtain ⟨o,e,⟨_,h,_⟩,fs,i⟩:=h
 have g:OQ (OT prog w) A (VI (.Tuple [] 0 R4) (.ref I) v) Q Er s:=by
  cases v with
  | ref a=>
   unfold VI
   refine If (WD e ?_)
   rw[i]
   cases hc:o.cls with
   | type n=>
    rw[hc] at h
    have:["enumerate", "zip", "dict_itemiterator", "dict_reverseitemiterator", "odict_iterator", "itertools.zip_longest", "itertools.pairwise"].contains n=false:=by
     unfold noIt at h
     simp at h ⊢
     exact h.2
    show OQ _ A (if (["enumerate", "zip", "dict_itemiterator", "dict_reverseitemiterator", "odict_iterator", "itertools.zip_longest", "itertools.pairwise"].contains n&&fs[0]? == rg (QE a))=Gt then _ else _) Q Er s
    rw[this,OB (by simp)]
    exact OL hQ
   | _=>exact OL hQ
  | _=>exact OL hQ
 cases tg with
 | Tuple _ _ _=>exact g
 | List _ _=>exact g
 | _=>exact OL hQ
theorem r6 {pt:Pos}(hb:bv env.scope.names x=Gt):tZ fns k A env (.Name (mL x) pt) [x] λd σ=>rg (upd σ x (mk (.d d))):=by
 intro h0 P Z s σ σ' t fp v d bs Q Er K r hz g he hQ
 cases he
 refine fC hb λg1 g2 g3=>?_
 refine TA (K.put (r:=mk (.d d)) (as:=bs) g1 g3 ⟨r,hz⟩ (λa l=>(g a l).2) (λh=>OW h iz) (λh=>?_) (λy q u j=>⟨λht a cs e o=>?_,λp a l o=>?_⟩) λm i _ K₃=>hQ m _ _ i K₃ (λy u=>?_) λy q j=>?_)
 ·have:bs=[]:=r.sx_nil (fX h)
  (clear g r; subst this)
  exact ⟨λuu h=>(nomatch h),.nil⟩
 ·refine aw (K.top y q j ht) λa' bs' z h1 _=>?_
  rw[e] at z; cases z
  exact h1 (g a o).1
 ·exact ((K.deep y q j p).1 a l).1 (g a o).1
 ·have n:y≠x:=λq=>u (q▸.head _)
  exact ⟨OB n,OB n⟩
 ·unfold upd at j
  by_cases e:y=x
  ·exact .inl λa l=>by rw[OD e] at l; exact l
  ·rw[OB e] at j
   exact .inr ⟨j,OB e⟩
set_option maxHeartbeats 1000000 in
theorem uM (Si:dy fns k C XP it) (Sb:dM fns k C b) (Xb:dI fns k C b) (L:O1->Prop)
  (oi:eV env.scope.names it iter=Gt) (ob:cz env.scope.names b body=Gt) (TG:tZ fns k A env tg xs B) (K:SOK fns k h0 P Z A env s.heap σ vals fp) (e1:bh C it (cD σ (bK it)) = .ok (ds,md)) (he1:cF (λy σ=>am (B y σ) (exs C b)) ds σo=out) (hnb:out≠.bad)
  (hK:∀ h',Internal.K s.heap h'->SOK fns k h0 P Z A env h' σo vals fp) (cs:∀ y q,σo y=rg q->∃ q',σ y=rg q')
  (hex:∀ F:vk O1,(∀ a∈F,Own σ fp (bK it) a\/s.heap.get? a=OC)->(md = .deep->∀ a∈F,s.heap.get? a=OC)->∀ y q,σo y=rg q->(q.2 = .top->∀ a bs,fp y=a::bs->a∉F)/\(q.2 = .deep->∀ a∈fp y,a∉F))
  (hL1:∀ a,L a->a≠env.locals/\∃ vs n,s.heap.get? a=rg ⟨.type "list", OC,.seq vs n,#[]⟩) (hL2:∀ y q,σo y=rg q->∀ a∈fp y,¬ L a) (hsc:(∀ d∈ds,sx d=Gt)\/∀ y q,σ y=rg q->∃ q',σo y=rg q')
  (hN:∀ σ',out = .ok (σ',.next)->∀ s' vals' fp',Stp Z s s'->KG (λb=>Z b\/L b) s.heap s'.heap->SOK fns k h0 P Z A env s'.heap σ' vals' fp'->Frm (λb=>Z b\/L b) (xs++g7 b) σo vals fp σ' vals' fp'->Q .next s')
  (hR:∀ σ' r,out = .ok (σ',.ret r)->∀ v s',Stp Z s s'->kQ h0 P r v s'->Q (.ret v) s') (hX:∀ c,out = .exc c->∀ x s',Stp Z s s'->Lv A env s'.heap->Exc Z s'.heap c env.locals x->Er x s'):OQ (OT prog w) A (exec (.For tg iter body [] spos) env) Q Er s:=by
 refine wpAny_For (Si oi (K.cx (bK it)) (by rw[e1]; simp) (λq' hq' i s₂ I=>?_) λc hc=>by rw[e1] at hc; cases hc) (mH oi env)
 rw[e1] at hq'; (have oc:=Out.ok.inj hq'; clear hq'; subst oc)
 obtain ⟨kpb,MT,hsm⟩:=I
 refine uW (MT) λI fpw wr Pw St F MX W hst hwr hfp hPw hF hFP hFd=>?_
 clear MT
 refine ae (MX) λMX hIw=>?_
 subst MX
 have exists_s:∀ b o,s.heap.get? b=rg o->b∉wr:=λb o e hm=>by rw[(hwr b hm).1] at e; exact nN e
 have hLs:∃ o es ep,s.heap.get? env.locals=rg o/\o.data = .dict es ep:=by
  refine af (K.loc.ns) λm MY _=>?_
  refine aV (MY) λo es ep e hd _=>?_
  clear MY
  exact (cf o es ep e hd)
 have hFL:env.locals∉F:=λhm=>by
  refine bl (hLs) λo es ep e hd=>?_
  clear hLs
  refine ba (hF _ hm) λvs n e'=>?_
  obtain ⟨_,e1,d1,_⟩:=kpb.k.data e λfs q=>by rw[hd] at q; cases q
  rw[e1] at e'; (have oc:=vj e'; clear e'; (clear e1 right; subst oc)); rw[hd] at d1; cases d1
 have ex0:=hex F hFP hFd
 have nf:∀ y q,σo y=rg q->∀ a∈fp y,a∉wr:=λy q hq a ha hm=>by
  refine aj (cs y q hq) λq' hq'=>?_
  refine ae (K.val y q' hq') λuu NZ=>?_
  refine aq (NZ) λu _ hr _=>?_
  clear NZ
  refine aj (hr.there a ha) λo e=>?_
  exact exists_s a o e hm
 have wz:∀ b∈wr,¬ Z b:=λb hm hz=>by
  refine aj (K.zdom b hz) λo e=>?_
  exact exists_s b o e hm
 have w0:∀ b∈wr,h0.get? b=none:=λb hm=>by
  cases e:h0.get? b with
  | none=>rfl
  | some o=>exact OW (K.z0 b o e) (wz b hm)
 have K₂:SOK fns k h0 P (λb=>Z b\/(b∈F\/b∈wr\/L b)) A env s₂.heap σo vals fp:=by
  refine (hK _ kpb.k).freeze (λb hb=>?_) (λhm=>?_) (λn c hkn hc hm=>?_) (λy q hq hqt a bs e hm=>?_) (λy q hq hqd a ha hm=>?_)
  ·rcases hb with hb | hb | hb
   ·obtain ⟨vs,n,e⟩:=hF b hb; exact ⟨_,e⟩
   ·obtain ⟨o,e,_⟩:=(hwr b hb).2.2 0 _ hst; exact ⟨o,e⟩
   ·obtain ⟨_,vs,n,e⟩:=hL1 b hb; exact ⟨_,kpb.k.get e rfl⟩
  ·rcases hm with hm | hm | hm
   ·exact hFL hm
   ·refine bl (hLs) λo es ep e hd=>?_
    clear hLs
    exact exists_s _ o e hm
   ·exact (hL1 _ hm).1 rfl
  ·refine aH (K.loc.cell n c hkn hc) λuu uu NP=>?_
   refine av (NP) λv o e hd=>?_
   clear NP
   rcases hm with hm | hm | hm
   ·refine ba (hF c hm) λvs n e'=>?_
    obtain ⟨_,e1,d1,_⟩:=kpb.k.data e λfs q=>by rw[hd] at q; cases q
    rw[e1] at e'; (have oc:=vj e'; clear e'; (clear e1 right; subst oc)); rw[hd] at d1; cases d1
   ·exact exists_s c o e hm
   ·refine ae (hL1 c hm) λuu N3=>?_
    refine ba (N3) λvs n e'=>?_
    clear N3
    rw[e] at e'; (have oc:=vj e'; clear e'; (clear e; subst oc)); cases hd
  ·rcases hm with hm | hm | hm
   ·exact (ex0 y q hq).1 hqt a bs e hm
   ·exact nf y q hq a (by rw[e]; exact .head _) hm
   ·exact hL2 y q hq a (by rw[e]; exact .head _) hm
  ·rcases hm with hm | hm | hm
   ·exact (ex0 y q hq).2 hqd a ha hm
   ·exact nf y q hq a ha hm
   ·exact hL2 y q hq a ha hm
 have FP:∀ a∈F,a≠env.locals/\(P a\/h0.get? a=OC):=λa ha=>by
  refine ⟨λq=>hFL (q▸ha),?_⟩
  rcases hFP a ha with h | h
  ·exact (K.own h).2.2
  ·right
   cases e:h0.get? a with
   | none=>rfl
   | some o=>obtain ⟨_,e'⟩:=Internal.K.there K.kp0 e; rw[e'] at h; exact nM h
 have stpb:Stp Z s s₂:=kpb.stp
 refine codeAny_forLoop_any
  (FI fns k C h0 P Z A env xs B b s s₂ ds F wr L St out σo vals fp) ?_ (ds.length+1)
  (pf 0 _ vals fp stpb K₂ hst (PZ _) rfl (by simpa using he1) KG.refl (.id λz q h=>⟨q,h⟩))
 intro n s' M1
 refine v5 (M1) λj σj vals' fp' stp' K' hst' hj M2 p hkp hfr=>?_
 clear M1
 subst M2
 have hLw:∀ b,L b->b∉wr:=λb hb=>let ⟨_,vs,n,e⟩:=hL1 b hb; exists_s b _ e
 have hwf:∀ b∈wr,∃ o,s'.heap.get? b=rg o/\(∀ C,o.cls≠.ref C)/\∃ fs,o.data = .fields fs:=λb hm=>aq ((hwr b hm).2.2 j _ hst') λo e g f=>(aD o e g.2.2 f)
 have hFw:∀ a∈F,a∉wr:=λa ha hm=>(hwr a hm).2.1 ha
 have hns:∀ b∈wr,∀ o,s'.heap.get? b=rg o->¬ Stay o:=λb hm o e=>by
  refine aq ((hwr b hm).2.2 j _ hst') λo' e' M3 NM=>?_
  refine aj (NM) λfs q=>?_
  clear NM
  refine ae (M3) λuu hc=>?_
  clear M3
  rw[e] at e'; (have oc:=vj e'; clear e'; (clear uu; subst oc))
  exact λx=>x.elim (λx=>noIt.code hc.1 x.1) λx=>let ⟨_,vs,n,e⟩:=x; by rw[q] at e; cases e
 have step1:∀ t tka,(∀ b∈wr,∃ o,t.get? b=rg o)->(∀ b o,b∉wr->s'.heap.get? b=rg o->t.get? b=rg o)->SOK fns k h0 P (λb=>Z b\/(b∈F\/b∈wr\/L b)) A env t σj vals' fp'/\Stp Z s {s' with heap:=t,toks:=tka }:=λt tka hwa hka=>by
  refine ⟨K'.iter hwf (λb hm _=>hwa b hm) w0 hns hka,?_⟩
  refine av (stp') λhh tk' M5 kk=>?_
  clear stp'
  (clear K' hkp hst' hwf; subst M5)
  exact (ay t tka rfl (kk.trans ((KG.ofW hka hns).mono λb hz hm=>wz b hm hz)))
 by_cases hlt:j<ds.length
 ·obtain ⟨d,hd⟩:∃ d,ds[j]? = rg d:=⟨_,OY hlt⟩
  have hdd:ds.drop j=d::ds.drop (j+1):=by
   rw[Q6 hlt]
   rw[OY hlt] at hd
   (have oc:=vj hd; clear hd; subst oc); rfl
  rw[hdd] at p
  simp only[cF] at p
  refine W.item j _ _ _ hlt hst' λv t tka hPv hsta hka=>?_
  obtain ⟨K₁,stpa⟩:=step1 t tka (λb hm=>af ((hwr b hm).2.2 (j+1) t hsta) λo e uu=>⟨o,e⟩) hka
  refine af (hPw j v hPv d hd) λbs hrv hbs=>?_
  have hkpa:KG (λb=>Z b\/(b∈F\/L b)) s₂.heap t:=hkp.trans ((KG.ofW hka hns).mono λb hb hm=>hb.elim (wz b hm) λhf=>hf.elim (λhf=>hFw b hf hm) λhf=>hLw b hf hm)
  have hrva:R t v d bs:=hrv.onG hkpa λb hb=>.inr (.inl (hbs b hb))
  have hfpH:∀ b∈fpw,∀ o,t.get? b=rg o->hardB o=true:=λb hb o e=>by
   rcases hfp b hb with hb | hb
   ·refine aq ((hwr b hb).2.2 _ _ hsta) λo' e' M6 _=>?_
    refine ae (M6) λhh _=>?_
    clear M6
    rw[e] at e'; (have oc:=vj e'; clear e'; subst oc); exact hh
   ·refine ba (hF b hb) λvs' n' e'=>?_
    rw[hkpa.hard (.inl (.inr (.inl hb))) e' rfl] at e
    (have oc:=vj e; clear e; subst oc); rfl
  have hzd:sz d=true:=hsm.2 d (QC hd)
  cases hB:B d σj with
  | none=>rw[hB] at p; exact OW p.symm hnb
  | some σ1=>
   rw[hB] at p
   refine Dd ((hwr I hIw).2.2 _ _ hsta) ?_
   refine TG K₁ hrva hzd (λa ha=>⟨.inr (.inl (hbs a ha)),FP a (hbs a ha)⟩) hB λsc valsc fpc stc K₃ hvc hfc=>?_
   have hfx:Frm (λb=>Z b\/L b) (xs++g7 b) σo vals fp σ1 valsc fpc:=by
    refine ⟨λy hy=>?_,λb' hz hb' z q hq hm=>?_⟩
    ·have h1:=hfr.1 y hy
     have h2:=hvc y λq=>hy (PC _ q)
     exact ⟨h2.1.trans h1.1,h2.2.trans h1.2⟩
    ·rcases hfc z q hq with h1 | ⟨h1,h2⟩
     ·replace hm:=h1 b' hm
      rcases hsc with h | h
      ·rw[hrva.sx_nil (h d (QC hd))] at hm; cases hm
      ·refine Pc (hFP b' (hbs b' hm)) (λNu=>?_) (λh1=>?_)
       ·refine aw (Nu) λy q Ok h1 h2=>?_
        clear Nu
        refine aj (h y q h1) λq' hq'=>?_
        exact hb' y q' hq' h2
       ·rcases hz with hz | hz
        ·refine aj (K.zdom b' hz) λo e=>?_
         rw[h1] at e; exact nN e
        ·refine ae (hL1 b' hz) λuu NY=>?_
         refine ba (NY) λvs n e=>?_
         clear NY
         rw[h1] at e; exact nN e
     ·rw[h2] at hm
      exact hfr.2 b' hz hb' z q h1 hm
   have bodyc:∀ s₄,Stp (λb=>Z b\/(b∈F\/b∈wr\/L b)) sc s₄->Stp Z s s₄/\St (j+1) s₄.heap/\KG (λb=>Z b\/(b∈F\/L b)) s₂.heap s₄.heap:=λs₄ std=>by
    have st:=stc.trans std
    refine ⟨stpa.trans (st.mono λb hb=>.inl hb),?_,?_⟩
    ·refine av (st) λh₄ tkd M8 kkd=>?_
     clear st
     (clear std; subst M8)
     exact W.frame _ _ _ hsta λb hb o e=>kkd.hard (.inl (.inr ((hfp b hb).elim (λh=>.inr (.inl h)) .inl))) e (hfpH b hb o e)
    ·refine av (st) λh₄ tkd M9 kkd=>?_
     clear st
     (clear std; subst M9)
     exact hkpa.trans (kkd.mono λb hb=>hb.imp id λh=>h.imp id .inr)
   cases hbody:exs C b σ1 with
   | bad=>rw[show am (rg σ1) (exs C b)=exs C b σ1 from rfl,hbody] at p; exact OW p.symm hnb
   | exc c=>
    rw[show am (rg σ1) (exs C b)=exs C b σ1 from rfl,hbody] at p
    refine Xb ob K₃ hbody λz s₄ std lv exc=>?_
    refine aq (lv) λl l1 l2 l3=>?_
    clear lv
    refine av ((bodyc s₄ std).1) λh₄ tkd e₄ kkd=>?_
    (clear std; subst e₄)
    refine KK (N:=Z) (λb hb=>?_) l1 l2 l3 (exc.old λb hb=>.inl hb) λh' ex' kg' fr'=>hX c p.symm z _ (ay h' tkd rfl (kkd.trans kg')) (aD l l1 fr' l3) ex'
    refine aj (K.zdom b hb) λo e=>?_
    refine af (kkd b o (.inl hb) e) λo' e' _=>?_
    exact ⟨o',e'⟩
   | ok o=>
   obtain ⟨σa,fla⟩:=o
   rw[show am (rg σ1) (exs C b)=exs C b σ1 from rfl,hbody] at p
   simp only[Out.ok_bind] at p
   refine Sb ob K₃ hbody (λe s₄ valsd fpd std Kd F₄=>?_) λr e v s₄ std Rd=>?_
   ·(clear hbody; subst e)
    refine aH (bodyc s₄ std) λq1 q2 q3=>?_
    refine (ag (ds.length+1-(j+1)) (so hlt) (pf (j+1) σa valsd fpd q1 Kd q2 hlt rfl p q3 ((hfx.trans (F₄.less λb hb=>hb.imp id λh=>.inr (.inr h))).more λy hy=>(O7.mp hy).elim (λh=>h) (PA _))))
   ·(clear hbody; subst e)
    exact hR σa r p.symm v s₄ (bodyc s₄ std).1 Rd
 ·have hjl:j=ds.length:=by exact yZ hj hlt
  (clear hj hlt; subst hjl)
  rw[SA] at p
  simp only[cF] at p
  refine W.done _ _ _ hst' λt tka hka=>?_
  have st1:Stp Z s {s' with heap:=t,toks:=tka }:=by
   refine av (stp') λhh tk' Na kk=>?_
   clear stp'
   (clear K' hkp hst' hwf step1; subst Na)
   exact (ay t tka rfl (kk.trans ((KG.ofW hka hns).mono λb hz hm=>wz b hm hz)))
  have kgL:KG (λb=>Z b\/L b) s.heap t:=((kpb.k.mono λuu uu=>trivial).trans (hkp.mono λb hb=>hb.imp id .inr)).trans ((KG.ofW hka hns).mono λb hb hm=>hb.elim (wz b hm) λh=>hLw b h hm)
  exact Ti (hN σj p.symm {s' with heap:=t,toks:=tka } vals' fp' st1 kgL ((K'.thaw (Z:=Z) (λb hb=>.inl hb) K.z0).iter hwf (λb hm hz=>OW hz (wz b hm)) w0 hns hka) hfr)
theorem AA (y:Ot) (q:V×Mode) (hy:σ y=rg q):∃ q',Internal.consume σ ns md y=rg q':=by
 unfold Internal.consume
 split
 ·exact ⟨q,hy⟩
 ·unfold Internal.demote
  split
  ·exact ⟨_,by rw[hy]; rfl⟩
  ·exact ⟨q,hy⟩
theorem vY (Si:dy fns k C XP it) (Sb:dM fns k C b) (Xb:dI fns k C b)
  (oi:eV env.scope.names it iter=Gt) (ob:cz env.scope.names b body=Gt) (TG:tZ fns k A env tg xs B) (K:SOK fns k h0 P Z A env s.heap σ vals fp) (he:((bh C it σ).bind λq=>cF (λy σ=>am (B y σ) (exs C b)) q.1 (consume σ (bK it) q.2)) = .ok (σ',fl))
  (hN:fl = .next->∀ s' vals' fp',Stp Z s s'->SOK fns k h0 P Z A env s'.heap σ' vals' fp'->Frm Z (xs++g7 b) σ vals fp σ' vals' fp'->Q .next s') (hR:∀ r,fl = .ret r->∀ v s',Stp Z s s'->kQ h0 P r v s'->Q (.ret v) s'):OQ (OT prog w) A (exec (.For tg iter body [] spos) env) Q Er s:=by
 refine Out.bind_k he λi j m=>?_
 obtain ⟨ds,n⟩:=i
 have e1:bh C it (cD σ (bK it)) = .ok (ds,n):=by rw[ej C it _ σ (b8 σ _)]; exact j
 exact uM Si Sb Xb (λuu=>PW) oi ob TG K e1 m (by simp) (λh' t=>(K.onK t).consume (bK it) n) (λy q j=>dh j) (λF h1 h2=>K.excl h1 h2) (λa h=>h.elim) (λuu uu uu uu uu h=>h) (.inr AA)
  (λg e s' vals' fp' o _ K' F=>by cases e; exact hN rfl s' vals' fp' o K' ⟨F.1,λb u x=>F.2 b (.inl u) λz q j=>aj (dh j) λp l=>x z p l⟩) (λg r e=>by cases e; exact hR r rfl) λc e=>by cases e
theorem uJ (hf:fns.hand=Oz) (Si:dy fns k C XPc it) (Sb:dM fns k C b) (Xb:dI fns k C b)
  (oi:eV env.scope.names it iter=Gt) (ob:cz env.scope.names b body=Gt) (TG:tZ fns k A env tg xs B) (K:SOK fns k h0 P Z A env s.heap σ vals fp) (he:((bh C it σ).bind λq=>cF (λy σ=>am (B y σ) (exs C b)) q.1 (consume σ (bK it) q.2)) = .exc c)
  (hE:∀ x s',Stp Z s s'->Lv A env s'.heap->Exc Z s'.heap c env.locals x->Er x s'):OQ (OT prog w) A (exec (.For tg iter body [] spos) env) Q Er s:=by
 rcases cb he with he | ⟨⟨ds,md⟩,l,he1⟩
 ·have j:bh C it (cD σ (bK it)) = .exc c:=by rw[ej C it _ σ (b8 σ _)]; exact he
  refine wpAny_For (Si oi (K.cx (bK it)) (by rw[j]; simp) (λu i=>by rw[j] at i; cases i) λt m x s' X=>?_) (mH oi env)
  rw[j] at m; cases m
  exact hE x s' X.1.stp ((K.onK X.1.k).lv hf) (Fly.exc (X.2.old K.zd))
 ·have j:bh C it (cD σ (bK it)) = .ok (ds,md):=by rw[ej C it _ σ (b8 σ _)]; exact l
  exact uM Si Sb Xb (λuu=>PW) oi ob TG K j he1 (by simp) (λv n=>(K.onK n).consume (bK it) md) (λy q l=>dh l) (λF p o=>K.excl p o) (λa h=>h.elim) (λuu uu uu uu uu h=>h) (.inr AA)
   (λg e=>by cases e) (λg r e=>by cases e) λt e=>by cases e; exact hE
theorem wC (Si:dy fns k C XP it) (Sb:dM fns k C b) (Xb:dI fns k C b):dz fns k C (.for1 x it b):=by
 intro m h0 P Z A y z l fp s Q Er q fl g K r v u
 replace g:=sf g
 revert g; refine λh=>Pc h (λi=>?_) (λg=>?_)
 ·clear h
  refine iQ (i) λt pt o p n j g=>?_
  clear i
  subst j
  simp only[OJ,OZ] at g
  rw[g.1.1.1]
  exact vY Si Sb Xb g.1.2 g.2 (r6 g.1.1.2) K r v u
 ·cases g
theorem w6 (hf:fns.hand=Oz) (Si:dy fns k C XPc it) (Sb:dM fns k C b) (Xb:dI fns k C b):dA fns k C (.for1 x it b):=by
 intro m y P Z A u v l z s Q Er c g K q r
 replace g:=sf g
 revert g; refine λh=>Pc h (λi=>?_) (λg=>?_)
 ·clear h
  refine iQ (i) λt pt o p n j g=>?_
  clear i
  subst j
  simp only[OJ,OZ] at g
  rw[g.1.1.1]
  exact uJ hf Si Sb Xb g.1.2 g.2 (r6 g.1.1.2) K q r
 ·cases g
section
variable (hf:fns.hand=Oz) (hC:cJ fns k C XPc)
include hf hC
mutual
theorem gU:∀ st:S,dz fns k C st/\dA fns k C st
 | .assign x e=>⟨kD (ax hf hC bM e).e ⟨λelt y g _=>⟨eT hf hC bM g,(ax hf hC bM elt).e⟩,λelt y g c _=>⟨eT hf hC bM g,(ax hf hC bM elt).e,(ax hf hC bM c).t⟩⟩,qM hf (ax hf hC bM e).e⟩
 | .setitem x e=>⟨qv (ax hf hC bM e).e,pi⟩
 | .append x e=>⟨rq (ax hf hC bM e).e,qZ⟩
 | .insert x i e=>⟨qX bM (ax hf hC bM i).e (ax hf hC bM e).e,qJ⟩
 | .pop x i=>⟨wD (ax hf hC bM i).e,ww⟩
 | .expr e=>⟨vh (ax hf hC bM e).e,vp hf (ax hf hC bM e).e⟩
 | .ret e=>⟨wI (ax hf hC bM e).e,yD hf (ax hf hC bM e).e⟩
 | .retn x=>⟨uS,vH⟩
 | .ite c a b=>⟨yh (ax hf hC bM c).t (bg a).1 (bg b).1,yA hf (ax hf hC bM c).t (bg a).2 (bg b).2⟩
 | .for1 x g b=>⟨wC (eT hf hC bM g) (bg b).1 (bg b).2,w6 hf (eT hf hC bM g) (bg b).1 (bg b).2⟩
 | .raise _=>⟨tr,tO hf hC⟩
 | .tryS b _ _ _=>⟨wv hf hC (gU b).1 (λe _=>(ax hf hC bM e).e),xr⟩
 | .bad=>⟨λh=>PN (show Oz=Gt from h),x7⟩
termination_by structural s=>s
theorem bg:∀ st:Ss,dM fns k C st/\dI fns k C st
 | .nil=>⟨vN,vZ⟩
 | .cons s r=>⟨tp (gU s).1 (bg r).1,tm (gU s).1 (gU s).2 (bg r).2⟩
termination_by structural s=>s
end
theorem nH (st:Ss):dM fns k C st:=(bg hf hC st).1
theorem nk (st:Ss):dI fns k C st:=(bg hf hC st).2
end
end
structure InF (s₀:OA) (L:O1) (m:Str->OE N8) (cs:vk (Str×O1)) (cm:Str->OE N8) (s:OA):Prop where
 x:InCallC s₀ L m cs cm s
 c:∃ o,s.heap.get? L=rg o/\o.cls = .type "frame"
section
variable {M:UO}{A:Pq}{E:N8->OA->Prop}{s₀:OA}{env:Env}
theorem jq (f:Str×N8->W7->Sem (Pd W7)) (hf:∀ n v u,f (n,v) u=(do Vh env n v; PU (.yield ⟨⟩))) (hk:env.scope.kind = .function) :
  ∀ (binds:vk (Str×N8)) (m cm:Str->OE N8) (s:OA) (Q:W7->OA->Prop),InF s₀ env.locals m env.cells cm s ->
   (∀ x∈binds,env.kindOf x.1=rg .local\/(env.kindOf x.1=rg .cell/\(env.cells.lookup x.1).isSome=Gt)) ->
   (∀ s',InF s₀ env.locals (XJ env.kindOf binds m) env.cells (XK env.kindOf binds cm) s'->Q ⟨⟩ s')->OQ M A (UD binds ⟨⟩ f) Q E s
 | [],m,cm,s,Q,x,_,h=>by rw[V9]; exact OL (h s x)
 | (n,v)::r,m,cm,s,Q,⟨x,c⟩,hkind,h=>by
  rw[UE,hf]
  have hr:∀ y∈r,env.kindOf y.1=rg .local\/(env.kindOf y.1=rg .cell/\(env.cells.lookup y.1).isSome=Gt):=λy hy=>hkind y (List.mem_cons_of_mem _ hy)
  refine ba (x.toInCall.same) λha tk l=>?_
  rcases hkind (n,v) T2 with hl | ⟨hl,j⟩
  ·refine If (If ?_)
   rw[X4 hl (by rw[hk]; rfl)]
   refine nW x.toInCall.ns c λh' hn' g hc'=>OL (jq f hf hk r (λx=>if x=n then rg v else m x) cm _ Q ⟨⟨⟨(bG h' (s.toks+1) (by rw[l])),hn',λb o e=>?_,x.toInCall.fresh⟩,λk c j=>?_,x.apart,x.above⟩,hc'⟩ hr λt p=>h t ?_)
   ·exact g.extBut b o (P8 (OG (Rh e) x.toInCall.fresh)) (x.toInCall.keep b o e)
   ·exact (x.cell k c j).sameBut g (T7 (x.above k c (mem_of_lookup j)))
   ·unfold XJ XK; rw[OD hl,OD hl]; exact p
  ·refine bP j λcc j=>?_
   have z:¬ env.kindOf n=rg .local:=by rw[hl]; decide
   have hLc:=x.above n cc (mem_of_lookup j)
   refine If (If (V1 hk hl j (x.cell n cc j) λh' hc' g=>OL (jq f hf hk r m (λy=>if y=n then rg v else cm y) _ Q ⟨⟨⟨(bG h' s.toks (by rw[l])),x.toInCall.ns.sameBut g (P8 hLc),λb o e=>?_,x.toInCall.fresh⟩,λk c' i=>?_,x.apart,x.above⟩,af (c) λo e q=>(ag o (g.extBut _ o (P8 hLc) e) q)⟩ hr λt p=>h t ?_)))
   ·exact g.extBut b o (P8 (S0 (OG (Rh e) x.toInCall.fresh) hLc)) (x.toInCall.keep b o e)
   ·by_cases hkn:k=n
    ·(clear h hkind hl z; subst hkn)
     rw[j] at i; (have oc:=vj i; clear i; subst oc)
     show h'.IsCell _ (if _=_ then rg v else cm _)
     rw[OD rfl]; exact hc'
    ·show h'.IsCell _ (if _=_ then rg v else cm _)
     rw[OB hkn]
     exact (x.cell k c' i).sameBut g λe=>hkn (Zj x.apart (mem_of_lookup i) (e▸mem_of_lookup j))
   ·unfold XJ XK; rw[OB z,OB z]; exact p
end
section
theorem rI {R:Xp->OA->Prop}{a:O1}{o:Obj}{fd:ZT}{body:vk R5}{vals:vk N8}{binds:vk (Str×N8)}
  (hroom:A.depth<Q5) (ho:s.heap.get? a=rg o) (hdata:o.data = .func fd) (hlim:s.heap.NoLimit) (hcd:s.heap.CodeRec fd.code fd.qualname)
  (hbody:fd.body = .stmts body) (hbind:WR fd ⟨vals,[]⟩=PU binds) (hclo:fd.closure=[])
  (hkind:∀ x∈binds,fd.scope.names.lookup x.1=rg .local\/(fd.scope.names.lookup x.1=rg .cell/\((Ry (s.heap.objs.size+1) fd.scope.names []).lookup x.1).isSome=Gt))
  (h:∀ s₁,InF s (QJ fd s.heap.objs.size a).locals (XJ (QJ fd s.heap.objs.size a).kindOf binds λuu=>OC) (QJ fd s.heap.objs.size a).cells
    (XK (QJ fd s.heap.objs.size a).kindOf binds λuu=>OC) s₁ ->
   OQ (OT prog w) (A.deeper (QJ fd s.heap.objs.size a)) (Yx body (QJ fd s.heap.objs.size a)) (λf s'=>R (.ok (.ret (match f with | .ret v=>v | _=>.none))) s')
    (λe s'=>OQ (OT prog w) (A.deeper (QJ fd s.heap.objs.size a)) (X7 (QJ fd s.heap.objs.size a) e) (λuu s''=>R (.error e) s'') (λe' s''=>R (.error e') s'') s') s₁)
  (hco:fd.scope.isCoroutine=Oz) (hgen:fd.scope.isGenerator=Oz) (hk:fd.scope.kind = .function) :
  Us (OT prog w) A (.call (.ref a) ⟨vals,[]⟩) R s:=by
 refine codeAny_call_function hroom ho hdata hco hgen hbody hcd ?_
 rw[hbind,hclo]
 refine OL ?_
 simp only[Sz,Option.isSome_none,Pn,P2]
 refine If (ZE ?_)
 refine If (Yj _ (λi kind cells=>by cases hkc:kind==T3<;>simp[hkc]) _ _ _ _ ?_)
 have ok:=cellsFrom_ok fd.scope.names (s.heap.push {cls:=.type "frame", data:=.dict #[] }) (s.heap.objs.size+1) [] ⟨λuu uu g=>(nomatch g),Jac⟩ (by rw[Tr]; exact Pe _)
 rw[Tr] at ok
 rw[show ({s with heap:=s.heap.push {cls:=.type "frame", data:=.dict #[] } }:OA).heap.objs.size=s.heap.objs.size+1 from Tr ..]
 refine If (jq (s₀:=s) (env:=QJ fd s.heap.objs.size a) _ (λuu uu uu=>rfl) hk binds (λuu=>OC) (λuu=>OC) _ _
  ⟨⟨⟨(bG _ _ rfl),(ZF s.heap (.type "frame")).keeps (Rz _ _),λb o e=>Rz _ _ b o (OO _ e),Pe _⟩,
   λn c j=>(ok.empty n c (mem_of_lookup j)).1,ok.apart,λn c g=>(ok.empty n c g).2⟩,_,Rz _ _ _ _ (Pa _ rfl),rfl⟩
  hkind λs' x=>OL ⟨hlim.keeps x.x.toInCall.keep,codeAny_func (h s' x)⟩)
end
theorem dl:∀ (names:vk (Str×PG)) (k:ON) (acc:vk (Str×O1)),(names.lookup n=rg .cell\/(acc.lookup n).isSome=Gt)->((Ry k names acc).lookup n).isSome=Gt
 | [],_,acc,h=>h.elim (λe=>by cases e) id
 | (m,kd)::r,k,acc,h=>by
  unfold Ry
  by_cases hk:kd = .cell
  ·subst hk
   simp only[QH,Ri]
   by_cases e:n=m
   ·(clear h; subst e)
    exact dl r _ _ (.inr (by simp))
   ·have g:(n==m)=false:=by simpa using e
    refine dl r _ _ (h.imp (λh=>?_) λh=>?_)
    ·rw[PQ,g] at h; exact h
    ·rw[PQ,g]; exact h
  ·have i:(kd==T3)=false:=by simpa using hk
   simp only[i,Pn,P2]
   by_cases e:n=m
   ·subst e
    rcases h with h | h
    ·simp at h; exact OW h hk
    ·exact dl r _ _ (.inr h)
   ·have g:(n==m)=false:=by simpa using e
    refine dl r _ _ (h.imp (λh=>?_) id)
    rw[PQ,g] at h; exact h
theorem kl:∀ (bs:vk (Str×N8)) (m:Str->OE N8),(∀ p∈bs,p.1≠y)->XJ kd bs m y=m y
 | [],_,_=>rfl
 | (n,v)::r,m,h=>by
  unfold XJ
  rw[kl r _ λp g=>h p (.tail _ g)]
  split
  ·exact OB λ(e:y=n)=>h (n,v) (.head _) e.symm
  ·rfl
theorem kC:∀ (bs:vk (Str×N8)) (m:Str->OE N8),(∀ p∈bs,p.1≠y)->XK kd bs m y=m y
 | [],_,_=>rfl
 | (n,v)::r,m,h=>by
  unfold XK
  rw[kC r _ λp g=>h p (.tail _ g)]
  split
  ·rfl
  ·exact OB λ(e:y=n)=>h (n,v) (.head _) e.symm
theorem vg {ps:vk Ot}(h:p∉ps):∀ q∈(ps.map mL).zip vs,q.1≠mL p:=by
 intro q i e
 have:=(WE i).1
 refine aI this λy g j=>?_
 exact h (ca (j.trans e)▸g)
theorem nS:∀ (ps:vk Ot) (vs:vk N8) (m:Str->OE N8),ps.Nodup->(ps.zip vs).lookup x=rg v->kd (mL x)=rg .local->XJ kd ((ps.map mL).zip vs) m (mL x)=rg v
 | [],_,_,_,h,_=>by simp at h
 | _::_,[],_,_,h,_=>by simp at h
 | p::ps,u::vs,m,hn,h,hk=>by
  rw[Q0] at hn
  rw[Q2,PQ] at h
  rw[Qo,Q2]
  unfold XJ
  by_cases e:x=p
  ·subst e
   simp at h
   subst h
   rw[kl _ _ (vg hn.1),OD hk]
   simp
  ·have g:(x==p)=false:=by simpa using e
   rw[g] at h
   exact nS ps vs _ hn.2 h hk
theorem mZ:∀ (ps:vk Ot) (vs:vk N8) (m:Str->OE N8),ps.Nodup->(ps.zip vs).lookup x=rg v->kd (mL x)=rg .cell->XK kd ((ps.map mL).zip vs) m (mL x)=rg v
 | [],_,_,_,h,_=>by simp at h
 | _::_,[],_,_,h,_=>by simp at h
 | p::ps,u::vs,m,hn,h,hk=>by
  rw[Q0] at hn
  rw[Q2,PQ] at h
  rw[Qo,Q2]
  unfold XK
  by_cases e:x=p
  ·subst e
   simp at h
   subst h
   rw[kC _ _ (vg hn.1),OB (by rw[hk]; simp)]
   simp
  ·have g:(x==p)=false:=by simpa using e
   rw[g] at h
   exact mZ ps vs _ hn.2 h hk
section
theorem qE (rs:RVs h xs vals as):∀ {ps:vk Ot}{σ:St},bw ps xs=rg σ ->
  vals.length=ps.length/\∃ fp:Ot->vk O1,∀ x q,σ x=rg q->x∈ps/\∃ V v,q=mk V/\(ps.zip vals).lookup x=rg v/\RV h v V (fp x)/\∀ a∈fp x,a∈as:=by
 induction rs with
 | nil=>
  intro ps σ j
  cases ps with
  | nil=>exact (aB rfl (bx (λuu=>[]) (λx q h=>nN ((congrFun (vj j) x).trans h))))
  | cons p ps=>exact nN j
 | @cons V xs v vs a1 bs r rs IH=>
  intro ps σ j
  cases ps with
  | nil=>exact nN j
  | cons p ps=>
  replace j:=Sj.mp (show (bw ps xs).map _=_ from j)
  refine af (j) λu m l=>?_
  clear j
  subst l
  obtain ⟨hl,g,z⟩:=IH m
  refine (aB (by rw[Pz,Pz,hl]) (bx (λx=>if x=p then a1 else g x) (λx q k=>?_)))
  unfold upd at k
  by_cases e:x=p
  ·subst e
   rw[OD rfl] at k; (have y:=vj k; clear k; subst y)
   have t:(if x=x then a1 else g x)=a1:=OD rfl
   refine (aB (.head _) (bF V v rfl (by simp) ?_ (λa n=>?_)))
   ·show RV h v V (if x=x then a1 else g x)
    rw[t]; exact r
   ·have i:a∈(if x=x then a1 else g x):=n
    rw[t] at i
    exact PC _ i
  ·rw[OB e] at k
   obtain ⟨h1,V',o,h2,h3,h4,h5⟩:=z x q k
   have e':(x==p)=false:=by simpa using e
   exact (aB (.tail _ h1) (bF V' o h2 (by rw[Q2,PQ,e']; exact h3) (by show RV h o V' (if x=p then a1 else g x); rw[OB e]; exact h4) (λa n=>PA _ (h5 a (by have i:a∈(if x=p then a1 else g x):=n; rwa [OB e] at i)))))
theorem nJ {ft:FnT}{fd:ZT}{fa:O1}{A:Pq}{P:O1->Prop}{s:OA}{ha:PE}{tka:ON}{σ:St}{pn:vk Ot}{pv:vk N8}{fp:Ot->vk O1}
  (hf:fns.hand=Oz) (hnd:pn.Nodup) (hpb:∀ x∈pn,bv ft.scope.names x=Gt) (hfree:∀ p∈ft.scope.names,(p.2 != .free)=Gt) (hh:fns.hand=Oz->A.handled=OC) (r1:A.depth+2*k+5<Q5) (r2:A.units+100*k+303<UB) (hfr:∃ l,A.frames=rg l/\FrOk s.heap l) (ge:GE fns s.heap)
  (hsc:fd.scope=ft.scope) (hgl:fd.globals=Qt) (hbl:fd.builtins=Tl) (hkind:fd.scope.kind = .function) (hcode:ft.lam=Gt->CodeOk s.heap fd.code fd.qualname)
  (X:InF s (QJ fd s.heap.objs.size fa).locals (XJ (QJ fd s.heap.objs.size fa).kindOf ((pn.map mL).zip pv) λuu=>OC) (QJ fd s.heap.objs.size fa).cells (XK (QJ fd s.heap.objs.size fa).kindOf ((pn.map mL).zip pv) λuu=>OC) {s with heap:=ha,toks:=tka })
  (hfp:∀ x q,σ x=rg q->x∈pn/\∃ V v,q=mk V/\(pn.zip pv).lookup x=rg v/\RV s.heap v V (fp x)/\∀ a∈fp x,P a) :
  SOK {fns with lam:=ft.lam } k s.heap P (λb=>∃ o,s.heap.get? b=rg o) (A.deeper (QJ fd s.heap.objs.size fa)) (QJ fd s.heap.objs.size fa) ha σ (λx=>(pn.zip pv).lookup x) fp:=by
 have r:=X.x.toInCall
 have m:(QJ fd s.heap.objs.size fa).scope.names=ft.scope.names:=by show fd.scope.names=_; rw[hsc]
 have i:(QJ fd s.heap.objs.size fa).locals=s.heap.objs.size:=rfl
 have y:∀ n,(QJ fd s.heap.objs.size fa).kindOf n=ft.scope.names.lookup n:=λn=>by show fd.scope.names.lookup n=_; rw[hsc]
 have j:∀ n,(QJ fd s.heap.objs.size fa).kindOf n≠rg .free:=λn e=>by
  rw[y] at e
  have:=hfree _ (mem_of_lookup e)
  simp at this
 have hold:¬ SF.old s.heap.objs.size:=λq=>by
  refine aj (ge.old _ q) λo e=>?_
  rw[bj] at e; exact nN e
 refine ⟨⟨hh,?_,?_⟩,⟨hkind,hgl,hbl,λn hn=>?_⟩,ge.flag ft.lam fns.hand,λb o e=>⟨o,e⟩,.of r.keep,λq=>⟨_,hcode q⟩,λuu=>?_,λb ⟨o,e⟩=>⟨o,r.keep b o e⟩,⟨X.c,(ag _ r.ns (λx v g hk=>?_)),λ⟨o,e⟩=>?_,λn c hk hc=>?_,λx v c g hk hc=>?_,λn n' c h1 h2=>?_,λx v g=>?_⟩,λx p t=>?_,λx p t ht=>?_,λx p t hdp=>?_⟩
 ·show A.depth+1+2*k+(if fns.hand then 1 else 4)<_
  rw[hf]; simp only[Pn,P2]; exact HM r1
 ·show A.units+3+100*k+(if fns.hand then 200 else 300)<_
  rw[hf]; simp only[Pn,P2]; exact Gs r2
 ·rcases hn with hn | hn
  ·rw[y] at hn
   exact S5.mp (by show ((Ry _ fd.scope.names []).lookup n).isSome=Gt; rw[hsc]; exact dl _ _ _ (.inl hn))
  ·exact OW hn (j n)
 ·refine af (hfr) λl e1 e2=>?_
  clear hfr
  exact (bp l (V5 e1) e2 rfl hold)
 ·exact nS pn pv _ hnd g hk
 ·rw[i] at e
  rw[bj] at e; exact nN e
 ·have hm:=mem_of_lookup hc
  have u:=X.x.above n c hm
  refine (cg (T7 u) (λ⟨o,e⟩=>?_) (bx _ (X.x.cell n c hc)))
  have:=Rh e
  rw[i] at u
  exact TR _ (S0 this u)
 ·have:=X.x.cell _ c hc
  rw[mZ pn pv _ hnd g hk] at this
  exact this
 ·exact Zj X.x.apart (mem_of_lookup h1) (mem_of_lookup h2)
 ·have hm:x∈pn:=by
   have:(x,v)∈pn.zip pv:=by
    generalize pn.zip pv=l at g
    induction l with
    | nil=>exact nN g
    | cons q l ih=>
     rw[PQ] at g
     split at g
     ·rename_i e
      (have oc:=vj g; clear g; (clear ih; subst oc))
      rw[OZ.mp e]
      exact .head _
     ·exact .tail _ (ih g)
   exact (WE this).1
  have z:=hpb x hm
  unfold bv at z
  simp only[OJ,Vo,OZ] at z
  rw[y]
  exact z.2
 ·obtain ⟨h1,V,v,MR,h3,h4,h5⟩:=hfp x p t
  (clear t; subst MR)
  have z:=hpb x h1
  unfold bv at z
  simp only[OJ] at z
  refine (aB (by rw[m]; exact z.1.1) (aD v h3 (h4.keep r.keep) (λa h=>⟨λq=>?_,.inl (h5 a h)⟩)))
  refine aj (h4.there a h) λo e=>?_
  rw[q,i,bj] at e; exact nN e
 ·obtain ⟨h1,V,v,MZ,_⟩:=hfp x p t
  (clear t; subst MZ)
  exact OW ht iz
 ·obtain ⟨h1,V,v,MV,h3,h4,h5⟩:=hfp x p t
  (clear t; subst MV)
  rw[h4.scal_nil (fX hdp)]
  exact ⟨λuu h=>(nomatch h),.nil⟩
theorem lM {ft:FnT}{fd:ZT}{pn:vk Ot}{vals:vk N8}{n:ON}(hsc:fd.scope=ft.scope) (hbk:∀ x∈pn,bv ft.scope.names x=Gt):∀ x∈(pn.map mL).zip vals,fd.scope.names.lookup x.1=rg .local\/(fd.scope.names.lookup x.1=rg .cell/\((Ry n fd.scope.names []).lookup x.1).isSome=Gt):=by
 intro x j
 refine aI (WE j).1 λy i e=>?_
 have g:=hbk y i
 unfold bv at g
 simp only[OJ,Vo,OZ] at g
 rw[hsc,<- e]
 rcases g.2 with h | h
 ·exact .inl h
 ·exact .inr ⟨h,dl _ _ _ (.inl h)⟩
section
theorem xZ (h:bw f.params vs=rg σ) (e:exs C f.body σ = .bad):aA C f vs = .bad:=by unfold aA; rw[h]; dsimp only; rw[e]; rfl
theorem xm (h:bw f.params vs=rg σ) (e:exs C f.body σ = .exc c):aA C f vs = .exc c:=by unfold aA; rw[h]; dsimp only; rw[e]; rfl
theorem uw (h:bw f.params vs=rg σ) (e:exs C f.body σ = .ok (σ',.next)):aA C f vs = .ok (.d .none,.deep):=by unfold aA; rw[h]; dsimp only; rw[e]; rfl
theorem wV (h:bw f.params vs=rg σ) (e:exs C f.body σ = .ok (σ',.ret r)):aA C f vs = .ok r:=by unfold aA; rw[h]; dsimp only; rw[e]; rfl
theorem w7 (h:bw f.params vs=rg σ) (e:exs C f.body σ = .bad):c6 C f vs = .bad:=by unfold c6; rw[h]; dsimp only; rw[e]; rfl
theorem wn (h:bw f.params vs=rg σ) (e:exs C f.body σ = .exc c):c6 C f vs = .exc c:=by unfold c6; rw[h]; dsimp only; rw[e]; rfl
theorem n9 (h:bw f.params vs=rg σ) (e:exs C f.body σ = .ok (σ',.next)):c6 C f vs=fj σ':=by unfold c6; rw[h]; dsimp only; rw[e]; rfl
theorem xA (h:bw f.params vs=rg σ) (e:exs C f.body σ = .ok (σ',.ret r)):c6 C f vs = .bad:=by unfold c6; rw[h]; dsimp only; rw[e]; rfl
end
theorem pZ {A:Pq}{env:Env}{s s₁:OA}{c:Ot}{x:N8}{R:OA->Prop}{E:N8->OA->Prop}(kp:Kp s s₁) (lv:Lv A env s₁.heap) (ex:Exc (dom s.heap) s₁.heap c env.locals x) (hR:∀ s',XPc c s x s'->R s') :
  OQ (OT prog w) A (X7 env x) (λuu s'=>R s') E s₁:=by
 refine aq (lv) λl q p n=>?_
 clear lv
 refine av (kp) λj h i g=>?_
 clear kp
 subst i
 refine Gu (N:=dom s.heap) (λb k=>?_) q p n ex λt u r=>hR _ ⟨(ay t h rfl (Internal.K.step g r λb o e=>⟨o,e⟩)),u⟩
 refine aj (k) λo e=>?_
 clear k
 refine af (g b o (.inl trivial) e) λm v _=>?_
 exact ⟨m,v⟩
set_option maxHeartbeats 1000000 in
theorem mK (hf:fns.hand=Oz) (hC:cJ {fns with lam:=ft.lam } k C XPc) (hok:okF ft fn=Gt)
  (hroom:Room fns.hand (k+1) A) (hfr:∃ l,A.frames=rg l/\FrOk s.heap l) (ge:GE fns s.heap) (hfa:FnAt s.heap ft fa) (rs:RVs s.heap xs vals as) (ha:∀ a∈as,P a) (nb:aA C fn xs≠.bad) (hQ:∀ r,aA C fn xs = .ok r->∀ v s',EP P s r v s'->Q v s') (hE:∀ c,aA C fn xs = .exc c->∀ x s',XPc c s x s'->Er x s') :
  OQ (OT prog w) A (R3 (.ref fa) vals []) Q Er s:=by
 unfold okF at hok
 simp only[OJ,Pk,P9] at hok
 refine ae (hok) λMW p=>?_
 clear hok
 refine ae (MW) λz u=>?_
 clear MW
 refine ae (z) λy hnd=>?_
 clear z
 refine ae (y) λhps hbk=>?_
 clear y
 cases hσ:bw fn.params xs with
 | none=>exact OW (by unfold aA; rw[hσ]) nb
 | some σ=>
 obtain ⟨hlen,fp,hfp⟩:=qE rs hσ
 refine uY (hfa) λo fd ho hd hbd n hgl hcl hbl hcr t i hco hgen g=>?_
 clear hfa
 rw[hps] at i
 refine Ys (rI (by have:=hroom.at hf; exact Jb this) ho hd ge.nolim hcr hbd (i vals hlen) hcl (lM n hbk) (λs₁ X=>?_) hco hgen g)
 refine ba (X.x.toInCall.same) λh₁ m MP=>?_
 subst MP
 have K:=nJ (k:=k) (ft:=ft) (fa:=fa) (σ:=σ) (pn:=fn.params) (pv:=vals) (fp:=fp) (P:=P) hf hnd hbk p hroom.1 (OH (Vm _) (hroom.at hf).1) (OH HF (hroom.at hf).2) hfr ge n hgl hbl g t X λx q hq=>by
  obtain ⟨h1,V,v,h2,h3,h4,h5⟩:=hfp x q hq
  exact (aB h1 (bF V v h2 h3 h4 (λa h=>ha a (h5 a h))))
 have kp:∀ s',Stp (λb=>∃ o,s.heap.get? b=rg o) {s with heap:=h₁,toks:=m } s'->Kp s s':=λs' j=>by
  refine av (j) λh' tk' MT kk=>?_
  clear j
  subst MT
  exact (ay h' tk' rfl (Internal.K.step (Internal.K.of X.x.toInCall.keep) kk λb o e=>⟨o,e⟩))
 have okb:cz (QJ fd s.heap.objs.size fa).scope.names fn.body ft.body=true:=by show cz fd.scope.names fn.body ft.body=Gt; rw[n]; exact u
 cases hex:exs C fn.body σ with
 | bad=>exact OW (xZ hσ hex) nb
 | exc c=>exact nk (fns:={fns with lam:=ft.lam }) hf hC fn.body okb K hex λx s' j lv ex=>pZ (kp s' j) lv ex λs'' X=>hE c (xm hσ hex) x s'' X
 | ok o=>
  obtain ⟨σ',fl⟩:=o
  refine nH (fns:={fns with lam:=ft.lam }) hf hC fn.body okb K hex (λe s' vals' fp' j K' _=>?_) λq e v s' j R=>?_
  ·subst e
   exact hQ _ (uw hσ hex) _ _ (.scalar (kp s' j) .none rfl (by simp))
  ·subst e
   refine bD (R) λas' h1 h2 h3 h4=>?_
   clear R
   exact hQ _ (wV hσ hex) _ _ ⟨kp s' j,as',h1,h2,h3,h4⟩
end
theorem nj:∀ (l1 l2:vk R5),Yx (l1++l2) env=(Yx l1 env>>=λf=>match f with | .next=>Yx l2 env | f=>PU f)
 | [],l2=>rfl
 | st::l1,l2=>by
  rw[XA,execs_cons,execs_cons,bind_assoc]
  congr 1
  funext f
  cases f with
  | next=>exact nj l1 l2
  | _=>rfl
section
noncomputable def But2 (x D:O1) (h h':PE):Prop:=∀ b o,b≠x->b≠D->h.get? b=rg o->h'.get? b=rg o
theorem But2.kk (a:But2 x D h h') (k:K h0 h) (hx:h0.get? x=OC) (hD:h0.get? D=OC) (nx:∀ o,h.get? x=rg o->¬ Stay o) (nD:∀ o,h.get? D=rg o->¬ Stay o):K h0 h' :=
 K.step k (G:=λb=>b≠x/\b≠D) (.of λb o g e=>a b o (λq=>g.elim (λh=>h.1 q) (nx o (q▸e))) (λq=>g.elim (λh=>h.2 q) (nD o (q▸e))) e) λb o e=>⟨λq=>(by rw[q,hx] at e; cases e),λq=>(by rw[q,hD] at e; cases e)⟩
theorem Loc.but2 {x D:O1}{h h':PE}{env:Env}{Z:O1->Prop}{vals:Ot->OE N8}(L:Loc env Z h vals) (a:But2 x D h h') (hx:Z x) (hD:Z D):Loc env Z h' vals where
 cls:=af (L.cls) λo e c=>(ag o (a _ o (λq=>L.nz (q▸hx)) (λq=>L.nz (q▸hD)) e) c)
 ns:=af (L.ns) λm p q=>bl p λo u z e r=>(ag m (cf o u z (a _ o (λq=>L.nz (q▸hx)) (λq=>L.nz (q▸hD)) e) r) q)
 nz:=L.nz
 cell:=λn c k j=>by
  refine aH (L.cell n c k j) λt i g=>?_
  refine av (g) λv o e r=>?_
  clear g
  exact (cg t i (ay v o (a c o (λq=>i (q▸hx)) (λq=>i (q▸hD)) e) r))
 cval:=λy v c k j l=>by
  refine aH (L.cell _ c j l) λuu i _=>?_
  refine af (L.cval y v c k j l) λo e r=>?_
  exact (ag o (a c o (λq=>i (q▸hx)) (λq=>i (q▸hD)) e) r)
 apart:=L.apart
 kinds:=L.kinds
theorem jB {A:Pq}{h:PE}{g:OP VV}{dr:Zz}{tk:ON}{os:WS}{E:N8->OA->Prop}{x D:O1}{mA:Str->OE N8}{n:Ot}{v:N8}{Q:Ur->OA->Prop}{ns:vk Str}(ge:RuleAt fns h) (hn:n∈fieldNames) (hw:Within mA ns) (hs:ns.length<=8) (hxC:x≠SF.rule)
  (I:h.Inst x SF.rule mA) (hd:∀ o,h.get? x=rg o->o.dict=rg D)
  (hQ:∀ h' tk',h'.Inst x SF.rule (λy=>if y=mL n then rg v else mA y)->But2 x D h h'->(∀ o,h'.get? x=rg o->o.dict=rg D)->Q () ⟨h',g,dr,tk',os⟩) :
  OQ (OT prog w) A (setAttr (.ref x) (mL n) v) Q E ⟨h,g,dr,tk,os⟩:=by
 refine aw (ge) λN mN t i _=>?_
 clear ge
 obtain ⟨m,hN⟩:=t
 refine eB (m) λnm q bs' sn sub col dd k0 k1 k2 k3 k5 hC=>?_
 clear m
 have hB:R8 (.type "object") (mL n)=PU none:=by
  simp only[fieldNames,O9,RU,Ug] at hn
  rcases hn with rfl | rfl | rfl
  ·exact lG
  ·exact nV
  ·exact n7
 have hq:mN (mL n)=none:=i n (by
  simp only[fieldNames,O9,RU,Ug] at hn
  rcases hn with rfl | rfl | rfl<;>simp)
 refine store_attr ZU hC hN (i "__setattr__" (by simp)) hq hB hxC I (λh' tk' I' hk l=>?_) hw (by rw[P1]; exact GN hs)
 refine af (I) λo e _=>?_
 clear I
 have r:=hd o e
 refine hQ h' tk' I' (λb ob h1 h2 eb=>hk b ob h1 (λoo dx k z=>by rw[e] at k; (have p:=vj k; clear k; subst p); rw[r] at z; (have p:=vj z; clear z; subst p); exact h2) eb) λo' e'=>?_
 refine jZ (l o e) λoa j _ _ _ u=>?_
 rw[e'] at j; (have p:=vj j; clear j; subst p)
 exact u D r
theorem Inst.ns1 {h:PE}{x Cl D:O1}{mA:Str->OE N8}(I:h.Inst x Cl mA) (hd:∀ o,h.get? x=rg o->o.dict=rg D):∃ o,h.get? x=rg o/\o.cls = .ref Cl/\(∀ c,o.data≠.cls c)/\o.dict=rg D/\D≠x/\h.Ns1 D mA:=by
 refine bD (I) λo e k j i=>?_
 clear I
 have:=hd o e
 rcases i with ⟨q,_⟩ | ⟨d,q1,q2,q3⟩
 ·rw[this] at q; exact nM q
 ·rw[this] at q1; (have g:=vj q1; clear q1; subst g)
  exact (jO o e k j this q2 q3)
theorem Inst.kk {h h':PE}{x Cl D:O1}{mA:Str->OE N8}(I:h.Inst x Cl mA) (hd:∀ o,h.get? x=rg o->o.dict=rg D) (k:K h h'):h'.Inst x Cl mA/\∀ o,h'.get? x=rg o->o.dict=rg D:=by
 refine iP (Inst.ns1 I hd) λo e n v m u g=>?_
 refine aV (g) λoD y z eD i r=>?_
 clear g
 have p:=K.get k e (by unfold hardB; rw[n])
 obtain ⟨j,l,q,_⟩:=K.data k eD λfs q=>by rw[i] at q; cases q
 exact ⟨(bp o p n v (.inr (aD D m u (cU j y z l (q.trans i) r)))),λo' q=>by rw[p] at q; (have t:=vj q; clear q; subst t); exact m⟩
theorem vn (h:fj σ = .exc c):False:=by
 unfold fj at h
 refine d6 h λuu h=>?_
 refine d6 h λuu h=>?_
 refine d6 h λuu h=>?_
 refine d6 h λuu h=>?_
 refine d6 h λuu h=>?_
 refine d6 h λuu h=>?_
 refine d6 h λuu h=>?_
 refine d6 h λuu h=>?_
 split at h<;>cases h
set_option maxHeartbeats 2000000 in
theorem tB (h:fj σ = .ok r):∃ ci mc rows ys,r=(.rule ci (.list rows) (ys:vk OU).length,.deep)/\σ "count" = rg (.d (.int ci),mc)/\σ "full" = rg (.d (.list rows),.deep)/\rows[0]? = rg (.list ys):=by
 unfold fj at h
 obtain ⟨⟨pc,mc⟩,j,h⟩:=aS h
 obtain ⟨dc,o,h⟩:=aS h
 obtain ⟨ci,n,h⟩:=aS h
 obtain ⟨⟨z,u⟩,i,h⟩:=aS h
 obtain ⟨df,m,h⟩:=aS h
 obtain ⟨rows,l,h⟩:=aS h
 obtain ⟨p,g,h⟩:=aS h
 obtain ⟨ys,k,h⟩:=aS h
 by_cases hd:u = .deep
 ·rw[OD hd] at h
  have t:=bB o
  have y:=cE n
  have q:=bB m
  have x:=cK l
  have v:=cK k
  dsimp only at t q
  rw[t,y] at j
  rw[q,x,hd] at i
  rw[v] at g
  exact (iX ci mc rows ys ((Out.ok.inj h).symm) j i g)
 ·rw[OB hd] at h; exact nB h
theorem yQ (hf1:σ "full" = rg (.d (.list rows),.deep)) (hf4:rows[0]? = rg (.list ys)):ev C eH (cD σ ["full"]) = .ok (sI ys.length):=by
 have i:cD σ ["full"] "full" = rg (.d (.list rows),.deep):=by unfold cD; rw[OD (by simp)]; exact hf1
 have h:elem (.list rows) 0=rg (.list ys):=by
  show (bI 0 rows.length).bind (λk=>rows[k]?)=_
  have g:0<rows.length:=(PF.mp hf4).1
  unfold bI
  rw[OD (UN 0),OD (la3 g)]
  exact hf4
 unfold eH
 rw[eE,eQ,ce,eJ,i]
 show ((eO (.list rows) (.int 0)).bind _)=_
 unfold eO
 rw[show cL (.int 0)=rg 0 from rfl]
 simp only[am,h,Out.ok_bind]
 rfl
theorem uF (C:Calls) (hf:fns.hand=Oz) {A:Pq}{env:Env}{P:O1->Prop}{hh h' hs:PE}{g:OP VV}{dr:Zz}{tk tk':ON}{os:WS}{x D:O1}{σ:St}{vals:Ot->OE N8}{fp:Ot->vk O1}{Q:ZR->OA->Prop}{Er:N8->OA->Prop}
  {ci:OF}{mc:Mode}{rows ys:vk OU}{a3 b3 c3:R5}(Mk:Heap.MadeObj hh h' x D SF.rule) (hxC:x≠SF.rule) (kh:K h' hs) (ge:GE fns hh) (R0:RuleAt fns hh) (hlam:fns.lam=Oz)
  (K':SOK fns k h' P (λb=>∃ o,h'.get? b=rg o) A env hs σ vals fp) (hfr:∃ l,A.frames=rg (env::l)/\FrOk hh l) (hvs:vals "self" = rg (.ref x))
  (hc1:σ "count" = rg (.d (.int ci),mc)) (hf1:σ "full" = rg (.d (.list rows),.deep)) (hf4:rows[0]? = rg (.list ys))
  (o1:eL env.scope.names "count" (.name "count") a3=Gt) (o2:eL env.scope.names "full" (.name "full") b3=Gt) (o3:eL env.scope.names "size" eH c3=Gt)
  (hQ:∀ s',EP P ⟨hh,g,dr,tk,os⟩ (.rule ci (.list rows) ys.length,.deep) (.ref x) s'->Q .next s'):OQ (OT prog w) A (Yx [a3,b3,c3] env) Q Er ⟨hs,g,dr,tk',os⟩:=by
 have kM:K hh h':=.of Mk.keeps
 have Zx:∃ o,h'.get? x=rg o:=by obtain ⟨o,e,_⟩:=Mk.inst; exact ⟨o,e⟩
 refine iP (Inst.ns1 Mk.inst Mk.dict) λox ex hxc hxd hxdict hDx hNs=>?_
 have ZD:∃ o,h'.get? D=rg o:=by obtain ⟨o,_,_,e,_⟩:=hNs; exact ⟨o,e⟩
 have kall:K hh hs:=KG.trans kM kh
 refine ae (K'.val "count" _ hc1) λuu z=>?_
 refine aq (z) λvc hvc M5 _=>?_
 clear z
 refine ae (M5) λrvc _=>?_
 clear M5
 refine rvc.isInt_k λtc M6 _=>?_
 (clear rvc; subst M6)
 refine ae (K'.val "full" _ hf1) λuu u=>?_
 refine aq (u) λvf hvf M8 _=>?_
 clear u
 refine ae (M8) λrvf zvf=>?_
 clear M8
 refine ae (K'.deep "full" _ hf1 rfl) λdp1 dp2=>?_
 refine ae (Inst.kk Mk.inst Mk.dict kh) λI1 D1=>?_
 refine cR (k6 o1) λq1 q2 v1 q3 M9 ov1=>?_
 (clear o1; subst M9)
 refine cR (k6 o2) λq4 q5 v2 q6 Na ov2=>?_
 (clear o2; subst Na)
 refine cR (k6 o3) λq7 q8 v3 q9 Nh ov3=>?_
 (clear o3; subst Nh)
 refine aq (kG ov1) λq10 Nj _ nd1=>?_
 subst Nj
 refine aq (kG ov2) λq11 Nd _ nd2=>?_
 subst Nd
 have nds:aT "self" = true:=by decide
 have p:∀ {h:PE}{mA:Str->OE N8},h.Inst x SF.rule mA->∀ o,h.get? x=rg o->¬ Stay o:=λI o e=>by
  refine aq (I) λo' e' c' _=>?_
  clear I
  rw[e] at e'; (have oc:=vj e'; clear e'; subst oc)
  exact Stay.not_cls (by rw[c']; simp) (by rw[c']; simp)
 have j:∀ {h:PE}{mA:Str->OE N8},h.Inst x SF.rule mA->(∀ o,h.get? x=rg o->o.dict=rg D)->(∀ o,h.get? D=rg o->¬ Stay o)/\∀ o,h.get? D=rg o->∀ vs n,o.data≠.seq vs n:=λI d=>by
  obtain ⟨_,_,_,_,_,_,o',es,ep,e',hd',_⟩:=Inst.ns1 I d
  exact ⟨λo e=>by rw[e] at e'; (have oc:=vj e'; clear e'; subst oc); exact Stay.not_dict hd',λo e vs n q=>by rw[e] at e'; (have oc:=vj e'; clear e'; subst oc); rw[hd'] at q; cases q⟩
 have nxf:x∉fp "full" := λq=>(dp1 x q).1 Zx
 have nDf:D∉fp "full" := λq=>(dp1 D q).1 ZD
 have t:∀ {h h2:PE}{mA:Str->OE N8},h.Inst x SF.rule mA->(∀ o,h.get? x=rg o->o.dict=rg D)->But2 x D h h2->R h vf (.list rows) (fp "full")->R h2 vf (.list rows) (fp "full"):=λI d b r=>by
  refine r.on2 λa o ha ⟨vs,n,hs⟩ e=>b a o (λq=>?_) (λq=>?_) e
  ·(clear D1 I1 Mk Zx b d j ex hDx hQ hvs hxC p; subst q)
   refine aq (I) λo' e' c' _=>?_
   clear I
   rw[e] at e'; (have oc:=vj e'; clear e'; subst oc)
   rcases ha with ha | ha
   ·exact nxf ha
   ·rw[c'] at ha; cases ha
  ·(clear D1 Mk ZD b hDx hNs hxdict nDf; subst q)
   exact (j I d).2 o e vs n hs
 refine QI (RK (cY K'.eok.kind nd1 (K'.loc.var K'.eok hvc) (cY K'.eok.kind nds (K'.loc.var K'.eok hvs) (jB (fns:=fns) (R0.k kall) (by simp[fieldNames]) Yz (by simp) hxC I1 D1 λh2 tk2 I2 b2 D2=>?_))) rfl)
 have k2:K hh h2:=b2.kk kall Mk.newX Mk.newD (p I1) (j I1 D1).1
 have L2:=K'.loc.but2 b2 Zx ZD
 refine QI (RK (cY K'.eok.kind nd2 (L2.var K'.eok hvf) (cY K'.eok.kind nds (L2.var K'.eok hvs) (jB (fns:=fns) (R0.k k2) (by simp[fieldNames]) (XM _ _ Yz) (by simp) hxC I2 D2 λh3 tk3 I3 b3 D3=>?_))) rfl)
 have k3:K hh h3:=b3.kk k2 Mk.newX Mk.newD (p I2) (j I2 D2).1
 have L3:=L2.but2 b3 Zx ZD
 have rf3:R h3 vf (.list rows) (fp "full"):=t I2 D2 b3 (t I1 D1 b2 rvf)
 have he:ev C eH (cD σ ["full"]) = .ok (sI ys.length):=yQ hf1 hf4
 have cx3:Cx fns k A (λuu=>VU) h3 env (cD σ ["full"]):=by
  refine ⟨K'.room,K'.eok,ge.k k3,(λq=>by rw[hlam] at q; cases q),λq=>?_,λy py hy _=>?_⟩
  ·refine bD (K'.out q) λl e1 e2 e3 e4=>?_
   refine af (hfr) λl' f1 f2=>?_
   refine (ag _ f1 (λenv' he'=>?_))
   rcases O9.mp he' with rfl | he'
   ·refine af (L3.ns) λm Nm _=>?_
    refine aV (Nm) λo es ep g1 g2 _=>?_
    refine af (L3.cls) λo' g3 g4=>?_
    rw[g1] at g3; (have oc:=vj g3; clear g3; subst oc)
    exact (aB K'.eok.kind (jX _ _ es ep e3 e4 g1 g4 g2))
   ·exact (f2.k k3) env' he'
  ·unfold cD at hy
   split at hy
   ·rename_i hm
    rw[OK.mp hm] at hy ⊢
    rw[hf1] at hy; (have oc:=vj hy; clear hy; subst oc)
    exact (aP vf (fp "full") (L3.var K'.eok hvf) ⟨rf3,zvf⟩ (λuu uu=>trivial))
   ·exact nN hy
 have S3:SimE fns k C XPc eH:=mO hf (mj bM (dg "full") (rE 0))
 refine QI (RK (S3 ov3 cx3 (by rw[he]; simp) (λr hr v s4 E4=>?_) (λc hc=>by rw[he] at hc; cases hc)) (by
  refine Pc (zR ov3) (λM4=>?_) (λq=>?_)
  ·refine cR (M4) λNz Od N6 Oe NC Og=>?_
   clear M4
   subst NC
   rfl
  ·cases q))
 rw[he] at hr; (have oc:=Out.ok.inj hr; clear hr; subst oc)
 obtain ⟨Ni,as4,Nf,_⟩:=E4
 refine av (Ni) λh4 tk4 Nl k34=>?_
 clear Ni
 subst Nl
 refine ae (Nf) λrv4 _=>?_
 clear Nf
 refine rv4.isInt_k λt4 Nw _=>?_
 (clear rv4; subst Nw)
 refine ae (Inst.kk I3 D3 k34) λI4 D4=>?_
 have k4:K hh h4:=KG.trans k3 k34
 have L4:=L3.onK k34
 refine cY K'.eok.kind nds (L4.var K'.eok hvs) (jB (fns:=fns) (R0.k k4) (by simp[fieldNames]) (XM _ _ (XM _ _ Yz)) (by simp) hxC I4 D4 λh5 tk5 I5 b5 D5=>?_)
 have k5':K hh h5:=b5.kk k4 Mk.newX Mk.newD (p I4) (j I4 D4).1
 have rf5:R h5 vf (.list rows) (fp "full"):=t I4 D4 b5 (rf3.k k34)
 refine iP (Inst.ns1 I5 D5) λo5 e5 c5 d5 di5 ne5 ns5=>?_
 have nh:∀ a,¬ (∃ o,h'.get? a=rg o)->hh.get? a=none:=λa q=>by
  cases e:hh.get? a with
  | none=>rfl
  | some o=>exact OW ⟨o,Mk.keeps a o e⟩ q
 refine Ti (hQ _ ⟨(ay h5 tk5 rfl k5'),x::D::fp "full", (jA x D o5 vf (fp "full") tc t4 _ rfl rfl e5 c5 d5 di5 ne5 ns5 ?_ ?_ ?_ ?_ rf5 zvf),λa i=>.inr ?_,(λq=>by cases q),λuu=>⟨λa i=>?_,?_⟩⟩)
 ·rfl
 ·rfl
 ·rfl
 ·intro m hm
  simp only[methNames,O9,RU,Ug] at hm
  rcases hm with rfl | rfl | rfl | rfl | rfl<;>rfl
 ·rcases O9.mp i with rfl | i
  ·exact Mk.newX
  ·rcases O9.mp i with rfl | i
   ·exact Mk.newD
   ·exact nh a (dp1 a i).1
 ·rcases O9.mp i with rfl | i
  ·exact Mk.newX
  ·rcases O9.mp i with rfl | i
   ·exact Mk.newD
   ·exact nh a (dp1 a i).1
 ·refine Q0.mpr ⟨λq=>?_,Q0.mpr ⟨nDf,dp2⟩⟩
  rcases O9.mp q with q | q
  ·exact ne5 q.symm
  ·exact nxf q
theorem vy (hf:fns.hand=Oz) (hp:fns.init=rg p) (hC:cJ {fns with lam:=p.2.lam } k C XPc) (hok:okI p.2 fn=Gt)
  (hroom:Room fns.hand (k+1) A) (hfr:∃ l,A.frames=rg l/\FrOk s.heap l) (ge:GE fns s.heap) (rs:RVs s.heap xs vals as) (ha:∀ a∈as,P a) (nb:c6 C fn xs≠.bad) (hQ:∀ r,c6 C fn xs = .ok r->∀ v s',EP P s r v s'->Q v s') (hE:∀ c,c6 C fn xs = .exc c->∀ x s',XPc c s x s'->Er x s') :
  OQ (OT prog w) A (R3 (.ref SF.rule) vals []) Q Er s:=by
 unfold okI at hok
 simp only[OJ,Pk,P9,PL] at hok
 refine ae (hok) λMV hlam=>?_
 clear hok
 refine ae (MV) λMQ hfree=>?_
 clear MV
 refine ae (MQ) λMW hself=>?_
 clear MQ
 refine ae (MW) λM0 hlast=>?_
 clear MW
 refine ae (M0) λMS hbody=>?_
 clear M0
 refine ae (MS) λMP hnd=>?_
 clear MS
 refine ae (MP) λn hbk=>?_
 clear MP
 refine dm (AP hlast) λa3 b3 c3 hl3 o1 o2 o3=>?_
 cases hσ:bw fn.params xs with
 | none=>exact OW (by unfold c6; rw[hσ]) nb
 | some σ=>
  refine ae (qE rs hσ) λhlen m=>?_
  refine aj (m) λfp hfp=>?_
  clear m
  have R0:=ge.cls (.inr (by rw[hp]; rfl))
  refine a8 (R0) λN mN MT quiet MX _=>?_
  clear R0
  obtain ⟨MY,hN⟩:=MT
  refine eB (MY) λnm q bs' sn sub col dd k0 k1 k2 k3 k5 hCl=>?_
  clear MY
  refine jQ (MX) λp' oI i1 i2 i3 i4 i5=>?_
  clear MX
  rw[hp] at i1; (have oc:=vj i1; clear i1; subst oc)
  obtain ⟨hh,g,dr,tk,os⟩:=s
  refine wpAny_call_obj_init PySem.F.objNew hCl hN i2 i4 i5 λh' x D Mk=>?_
  have hxC:x≠SF.rule:=λq=>by have:=Mk.newX; rw[q] at this; rw[this] at hCl; exact nN hCl
  have kM:K hh h':=.of Mk.keeps
  refine uY (i3.k kM) λo fd ho hd hbd i hgl hcl hbl hcr hcode z hco hgen u=>?_
  rw[n] at z
  refine ae (hroom.at hf) λr1 r2=>?_
  have ge':GE fns h':=ge.k kM
  have K0fp:∀ y q,σ y=rg q->y ∈ "self" :: fn.params/\∃ V v,q=mk V/\(("self" :: fn.params).zip (.ref x::vals)).lookup y=rg v/\RV h' v V (fp y)/\∀ a∈fp y,P a:=λy q hq=>by
   refine ae (hfp y q hq) λh1 j=>?_
   refine a8 (j) λV v h2 h3 h4 h5=>?_
   clear j
   have hys:y ≠ "self" := λe=>by
    rw[n] at hnd
    exact (Q0.mp hnd).1 (e▸h1)
   refine (aB (.tail _ h1) (bF V v h2 ?_ (h4.k kM) (λa h=>ha a (h5 a h))))
   rw[Q2,PQ,Re.mpr hys]
   exact h3
  have hu:(A.under (.builtin "type.__call__" ⟨.ref SF.rule::vals,[]⟩)).units<=A.units+50:=by
   have:(Vz "type.__call__" ⟨.ref SF.rule::vals,[]⟩).cUnits<=50:=by
    have:(Vz "type.__call__" ⟨.ref SF.rule::vals,[]⟩).cUnits=1+3*(Vz "type.__call__" ⟨.ref SF.rule::vals,[]⟩).frames:=rfl
    rw[this]
    have:(Vz "type.__call__" ⟨.ref SF.rule::vals,[]⟩).frames<=1:=by first | exact Pe _ | exact PZ _
    exact GB this
   show A.units+_<=_
   exact Fs this
  refine Ys (rI (s:=⟨h',g,dr,tk,os⟩) (A:=A.under (.builtin "type.__call__" ⟨.ref SF.rule::vals,[]⟩)) (by rw[XE]; exact Ga r1) ho hd (j7 ge.nolim kM) hcr hbd (z (.ref x::vals) (by rw[Pz,Pz,hlen])) hcl (lM i (λy hy=>hbk y (n▸hy))) (λs₁ X=>?_) hco hgen u)
  refine ba (X.x.toInCall.same) λh₁ tka M1=>?_
  subst M1
  have t:=X.x.toInCall.keep
  have KS:=nJ (k:=k) (ft:=p.2) (fa:=p.1) (σ:=σ) (pn:="self" :: fn.params) (pv:=.ref x::vals) (fp:=fp) (P:=P) (s:=⟨h',g,dr,tk,os⟩) hf (n▸hnd) (λy hy=>hbk y (n▸hy)) hfree (A:=A.under (.builtin "type.__call__" ⟨.ref SF.rule::vals,[]⟩)) hroom.1 (by rw[XE]; exact KD r1) (OH (Ep hu) r2) (by
   refine af (hfr) λl e1 e2=>?_
   clear hfr
   exact (ag l e1 (e2.k kM))) ge' i hgl hbl u hcode X K0fp
  have hsplit:p.2.body=p.2.body.take (p.2.body.length-3)++[a3,b3,c3]:=by rw[<- hl3]; exact (Qw _ _).symm
  rw[hsplit,nj]
  refine If ?_
  have okb:cz (QJ fd h'.objs.size p.1).scope.names fn.body (p.2.body.take (p.2.body.length-3))=true:=by show cz fd.scope.names fn.body _=Gt; rw[i]; exact hbody
  cases hex:exs C fn.body σ with
  | bad=>exact OW (w7 hσ hex) nb
  | exc c=>
   refine nk (fns:={fns with lam:=p.2.lam }) hf hC fn.body okb KS hex λx s' st lv ex=>?_
   have kp:Kp ⟨h',g,dr,tk,os⟩ s':=by
    refine av (st) λhb tk' M2 kk=>?_
    clear st
    (clear ex lv; subst M2)
    exact (ay hb tk' rfl (Internal.K.step (Internal.K.of t) kk λb o e=>⟨o,e⟩))
   exact pZ kp lv ex λs'' X=>hE c (wn hσ hex) x s'' (.of (ay h' tk rfl kM) X)
  | ok o=>
  obtain ⟨σ',fl⟩:=o
  cases fl with
  | ret q=>exact OW (xA hσ hex) nb
  | next=>
  cases hfl:fj σ' with
  | bad=>exact OW ((n9 hσ hex).trans hfl) nb
  | exc c=>
   exact (vn hfl).elim
  | ok r=>
  replace hQ:=hQ r ((n9 hσ hex).trans hfl)
  refine fK (tB hfl) λci mc rows ys er hc1 hf1 hf4=>?_
  refine nH (fns:={fns with lam:=p.2.lam }) hf hC fn.body okb KS hex (λuu s' vals' fp' st K' F=>?_) λq e=>by cases e
  refine av (st) λhs' tk' M3 kgs=>?_
  (clear st; subst M3)
  rw[er] at hQ
  have R0:=ge.cls (.inr (by rw[hp]; rfl))
  refine uF (fns:={fns with lam:=p.2.lam }) C hf Mk hxC (Internal.K.step (Internal.K.of t) kgs λb o e=>⟨o,e⟩) (ge.flag _ _) R0 hlam K' ?_ ?_ hc1 hf1 hf4 (by show eL fd.scope.names _ _ _=Gt; rw[i]; exact o1) (by show eL fd.scope.names _ _ _=Gt; rw[i]; exact o2) (by show eL fd.scope.names _ _ _=Gt; rw[i]; exact o3) λs' E=>⟨rfl,hQ _ _ E⟩
  ·refine af (hfr) λl' f1 f2=>?_
   exact (ag l' (V5 (A:=A.under (.builtin "type.__call__" ⟨.ref SF.rule::vals,[]⟩)) f1) f2)
  ·rw[(F.1 "self" hself).1]
   show (("self" :: fn.params).zip (Py x::vals)).lookup "self" = _
   rw[Q2,PQ,QH]
end
section
noncomputable def Ap (fns:Fns) (L:vk (Ot×Fn)):Prop:=∀ f fn,L.lookup f=rg fn->(f∈aE->f∈SF.excN)/\(f∉aE->if f = "Rule" then ∃ p,fns.init=rg p/\okI p.2 fn=Gt else if f∈methNames then ∃ p,fns.mth f=rg p/\okF p.2 fn=Gt/\p.2.lam=Oz else ∃ p,fns.fn f=rg p/\okF p.2 fn=Gt/\p.2.lam=Gt)
theorem Bb (h:okI ft f=Gt):ft.lam=false:=by
 unfold okI at h
 simp only[OJ,PL] at h
 exact h.2
theorem wg (hf:fns.hand=Oz) (hL:Ap fns L):∀ n,cJ {fns with lam:=Gt } n (mkC L n) XPc/\cJ {fns with lam:=Oz } n (aM (mkC L n)) XPc
 | 0=>⟨(λf g h=>by cases h),λf g h=>by
  unfold aM at h
  split at h<;>cases h⟩
 | n+1=>by
  refine ae (wg hf hL n) λi1 i2=>?_
  have u:∀ (b:Pr) (f:Ot) (g:vk V->Out (V×Mode)),mkC L (n+1) f=rg g->(f∈aE->f∈SF.excN)/\(f∉aE->∃ a,adr {fns with lam:=b } f=rg a/\∀ {A:Pq}{P:O1->Prop}{s:OA}{Q:N8->OA->Prop}{Er:N8->OA->Prop}{j:vk V}{vals:vk N8}{as:vk O1},
    Room fns.hand (n+1) A->(∃ l,A.frames=rg l/\FrOk s.heap l)->GE {fns with lam:=b } s.heap->RVs s.heap j vals as->(∀ a∈as,P a)->g j≠.bad->(∀ r,g j = .ok r->∀ v s',EP P s r v s'->Q v s')->(∀ c,g j = .exc c->∀ x s',XPc c s x s'->Er x s') ->
    OQ (OT prog w) A (R3 (.ref a) vals []) Q Er s):=λb f g h=>by
   refine bk (show (L.lookup f).map (λfn vs=>cy f (mkC L n) fn vs)=rg g from h) λfn hfn MU=>?_
   (clear h; subst MU)
   refine ae (hL f fn hfn) λh1 m=>?_
   refine ⟨h1,λhe=>?_⟩
   replace m:=m he
   by_cases hr:f = "Rule"
   ·rw[OD hr] at m
    refine af (m) λp t k=>?_
    clear m
    refine (ag SF.rule (by unfold adr; rw[OD hr]; show (fns.init).map _=_; rw[t]; rfl) (λi fr y z ha o hQ hE=>?_))
    have hk:∀ j,cy f (mkC L n) fn j=c6 (aM (mkC L n)) fn j:=λj=>by unfold cy; rw[OD hr]
    dsimp only at o
    rw[hk] at o
    refine vy (fns:={fns with lam:=b }) hf (p:=p) t (by rw[Bb k]; exact i2) k i fr y z ha o (λr e=>hQ r ((hk _).trans e)) λc e=>hE c ((hk _).trans e)
   ·rw[OB hr] at m
    by_cases hm:f∈methNames
    ·rw[OD hm] at m
     refine aq (m) λp t k hl=>?_
     clear m
     refine (ag p.1 (by rw[rG hr hm]; show (fns.mth f).map _=_; rw[t]; rfl) (λi fr y z ha o hQ hE=>?_))
     have hk:∀ j,cy f (mkC L n) fn j=aA (aM (mkC L n)) fn j:=λj=>by unfold cy; rw[OB hr,OD hm]
     dsimp only at o
     rw[hk] at o
     refine a8 (y.cls (.inl (bG f p t))) λuu uu uu uu uu hmt=>?_
     refine aq (hmt f p t) λuu uu hat _=>?_
     exact mK (fns:={fns with lam:=b }) hf (ft:=p.2) (by rw[hl]; exact i2) k i fr y hat z ha o (λr e=>hQ r ((hk _).trans e)) λc e=>hE c ((hk _).trans e)
    ·rw[OB hm] at m
     refine aq (m) λp t k hl=>?_
     clear m
     refine (ag p.1 (by rw[v4 hr hm]; show (fns.fn f).map _=_; rw[t]; rfl) (λi fr y z ha o hQ hE=>?_))
     have hk:∀ j,cy f (mkC L n) fn j=aA (mkC L n) fn j:=λj=>by unfold cy; rw[OB hr,OB hm]
     dsimp only at o
     rw[hk] at o
     exact mK (fns:={fns with lam:=b }) hf (ft:=p.2) (by rw[hl]; exact i1) k i fr y (y.funs f p t) z ha o (λr e=>hQ r ((hk _).trans e)) λc e=>hE c ((hk _).trans e)
  refine ⟨λf g h=>⟨Qj 1 n,λuu=>rfl,u Gt f g h⟩,λf g h=>?_⟩
  unfold aM at h
  split at h
  ·exact nN h
  ·rename_i hn
   exact ⟨Qj 1 n,λq=>OW q hn,u Oz f g h⟩
end
noncomputable def ch (p:Tz) (loose:vk Str) (mg mN:Str->OE N8) (L:vk (Ot×Fn)):Fns where
 fn f:=if f = "Rule" \/ f∈methNames\/f∈aE then OC else (L.lookup f).bind λfn=>((X9 p).find? λd=>d.name==mL f).bind λd=>(gG (mg (mL f))).map λa=>(a,⟨fn.params,d.body,d.scope,Gt⟩)
 mth m:=if m∈methNames then (L.lookup m).bind λfn=>(dZ p loose m).bind λr=>(gG (mN (mL m))).map λa=>(a,⟨fn.params,r.body,r.scope,Oz⟩) else OC
 init:=(L.lookup "Rule").bind λfn=>(dZ p loose "__init__").bind λr=>(gG (mN "__init__")).map λa=>(a,⟨"self" :: fn.params,r.body,r.scope,Oz⟩)
 lam:=Gt
 hand:=Oz
theorem hM:∀ {l:vk (Ot×α)}{x:Ot}{v:α},l.lookup x=rg v->(x,v)∈l
 | (y,u)::l,x,v,h=>by
  rw[PQ] at h
  split at h
  ·rename_i e; (have g:=vj h; clear h; subst g); rw[OZ.mp e]; exact .head _
  ·exact .tail _ (hM h)
theorem sq {ps:vk Ot}(h:ps.Nodup):(ps.map mL).Nodup:=Rj.mpr (Xk (λh e=>h (ca e)) h)
theorem rz {ps:vk Ot}(h:gz fd.params ps=Gt) (hd:fd.defaults = .none) (hn:ps.Nodup) (vals:vk N8) (hl:vals.length=ps.length):WR fd ⟨vals,[]⟩=PU ((ps.map mL).zip vals):=by
 unfold gz at h
 simp only[OJ,OZ,Tq,R7] at h
 refine ae (h) λj k=>?_
 clear h
 refine ae (j) λi l=>?_
 clear j
 refine ae (i) λg m=>?_
 clear i
 refine ae (g) λo n=>?_
 clear g
 exact me o n m l k hd (sq hn) (by rw[OV]; exact hl)
theorem mY (h:okF ft f=Gt):f.params.Nodup:=by
 unfold okF at h
 simp only[OJ,Pk] at h
 exact h.1.1.2
theorem uN (h:okI ft f=Gt):ft.params.Nodup:=by
 unfold okI at h
 simp only[OJ,Pk] at h
 exact h.1.1.1.1.1.2
theorem lL (h:gd sc=Gt):sc.isCoroutine=Oz/\sc.isGenerator=Oz/\sc.kind = .function:=by
 unfold gd at h
 simp only[OJ,PL,OZ] at h
 exact ⟨h.1.1,h.1.2,h.2⟩
section
theorem Fq (hS:∀ c P,h.TableAt c P #[]->SF.tab P) (T:Top p loose mean mg mb h) {f:Ot}{ps:vk Ot}{d:DefRec}(hd:(X9 p).find? (λd=>d.name==mL f)=rg d) (hn:ps.Nodup) (h1:gz d.params ps=Gt) (h2:gd d.scope=Gt) :
  ∃ a,mg (mL f)=rg (.ref a)/\FnAt h ⟨ps,d.body,d.scope,Gt⟩ a:=by
 have y:=SU hd
 have j:=VJ hd
 simp only[OZ] at j
 refine oK (T.fn d y) λa o pm k doc x v u t=>?_
 have g:CodeOk h k d.name:=by
  refine Dh (T.tab d y) λa' o' fd c P r l n u4 z m=>?_
  rw[x] at r; cases r
  rw[v] at l; (have oc:=vj l; clear l; subst oc)
  rw[u] at n; cases n
  exact ⟨c,P,#[],u4,t,z,m,⟨trivial,λpos cv q=>by cases q⟩,hS c P m⟩
 refine aH (lL h2) λh7 h8 h9=>?_
 exact ⟨a,by rw[<- j]; exact x,o,_,v,u,rfl,rfl,rfl,rfl,rfl,t,λuu=>g,λi hl=>rz h1 rfl hn i hl,h7,h8,h9⟩
theorem rK (P:PlainAt h c C N mN) {ps:vk Ot}(hr:c.meths.find? (λr=>r.name==mL m)=rg r) (hn:ps.Nodup) (h1:gz r.params ps=Gt) (h2:gd r.scope=Gt) :
  ∃ a o,mN (mL m)=rg (.ref a)/\FnAt h ⟨ps,r.body,r.scope,Oz⟩ a/\h.get? a=rg o/\o.cls = .type "function" := by
 have i:=VJ hr
 simp only[OZ] at i
 refine uL (P.meths r (SU hr)) λa o z cd y p j n l k=>?_
 refine aH (lL h2) λx v u=>?_
 exact ⟨a,o,by rw[<- i]; exact p,⟨o,_,j,l,rfl,rfl,rfl,rfl,rfl,k,(λq=>by cases q),λg t=>rz h1 rfl hn g t,x,v,u⟩,j,n⟩
theorem A5 (TE:TopE p loose mg h) (Y:gV (bn L) h) (T:Top p loose mean mg mb h) (hr:(fW p loose).isSome=Gt):∃ c C N mN,fW p loose=rg c/\mg "Rule" = rg (.ref C)/\PlainAt h c C N mN/\∀ n∈fieldNames,mN (mL n)=none:=by
 refine bP hr λc k=>?_
 have x:=SU k
 have m:=VJ k
 simp only[OZ] at m
 refine bl (TE c x) λC N mN l P=>?_
 rw[m] at l
 refine ⟨c,C,N,mN,k,l,P.ofCmp,λn hf=>?_⟩
 obtain ⟨i,g',ad,_,_,C',o,cd,j,b1,t,b3,b4,b5⟩:=Y
 have y:i=mg:=g'.eq_nsMap.trans T.g.eq_nsMap.symm
 (clear T TE; subst y)
 have r:i "Rule" = rg (.ref C):=l
 rw[b1] at r; cases r
 refine eB (P.cls.obj) λnm q bs sn u col dd k0 k1 k2 k3 k5 e=>?_
 rw[t] at e; (have v:=vj e; clear e; (clear t; subst v))
 cases b3
 have z:j=mN:=b4.eq_nsMap.trans P.cls.ns.eq_nsMap.symm
 rw[<- z]
 exact b5 n hf
theorem C0 (Y:gV (bn L) h) (T:Top p loose mean mg mb h) (ht:l9 p loose L=Gt) {ad:Ot->O1}(had:∀ c∈bn L,mg (mL c)=rg (.ref (ad c))) (hP:bn L=[] \/ "PickError" ∈ bn L) (hSF:∀ c,SF.exc c=ad c) :
  (∀ c∈bn L,ExcAt h c)/\∀ c∈bn L,∀ c' ∈ "PickError" :: bn L,ad c=ad c'->c=c':=by
 obtain ⟨mg',g',n,a1,a2,_⟩:=Y
 have hg:mg' = mg:=g'.eq_nsMap.trans T.g.eq_nsMap.symm
 subst hg
 have v:∀ c∈bn L,n c=ad c:=λc i=>by
  refine av (a1 c i) λuu uu q _=>?_
  rw[had c i] at q
  exact (Jam (vj q)).symm
 have qt:∀ c∈bn L,QtAt h c:=λc i=>by
  obtain ⟨o,cd,b1,r,b3,m,mN,b5,b6⟩:=a1 c i
  exact ⟨o,cd,mN,by rw[hSF,<- v c i]; exact r,b3,b5,b6⟩
 refine ⟨λc i=>?_,λc i c' hc' q=>?_⟩
 ·have j : "PickError" ∈ bn L:=hP.resolve_left λq=>by rw[q] at i; cases i
  refine a8 (a1 c i) λo cd b1 r b3 m=>?_
  refine xo i λu hce=>?_
  refine aI u λz hq y=>?_
  obtain ⟨f,fn⟩:=z
  (clear u; subst y)
  have l:=P9.mp ht _ hq
  unfold iu at l
  rw[OD (Pp hce),OZ] at l
  refine af (T.ownAt l) λC O _=>?_
  obtain ⟨bm,N,nm,q,bs,t,sn,x,ab,col,dd,k0,k1,k2,k3,k5,mN,c1,c2,c3,c4⟩:=O.obj
  have eC:=O.bound
  rw[b1] at eC; cases eC
  rw[r] at c1; (have oc:=vj c1; clear c1; subst oc)
  cases b3
  dsimp only at m
  replace m:=m.1
  injection m with _ m
  have e1:SF.exc f=n f:=by rw[hSF,v f i]
  have e2:SF.exc "PickError" = n "PickError" := by rw[hSF,v _ j]
  have e3:bm=b9 f:=by rw[m]; unfold b9; rw[e2]
  subst e3
  rw[<- e1] at r
  exact ⟨⟨N,nm,q,bs,t,sn,x,ab,col,dd,k0,k1,k2,k3,k5,mN,by rw[e1] at r ⊢; exact r,c2,c3 _ (.head _),c4.tail⟩,qt _ i,qt _ j⟩
 ·have j : "PickError" ∈ bn L:=hP.resolve_left λq=>by rw[q] at i; cases i
  have k:c'∈bn L:=(O9.mp hc').elim (λq=>q▸j) id
  exact a2 c i c' k (by rw[v c i,v c' k]; exact q)
theorem Cc (Y:gV (bn L) h) (T:Top p loose mean mg mb h):∀ c∈bn L,∃ a,mg (mL c)=rg (.ref a):=λc k=>by
 obtain ⟨i,l,m,n,_⟩:=Y
 have j:i=mg:=l.eq_nsMap.trans T.g.eq_nsMap.symm
 (clear T; subst j)
 refine av (n c k) λuu uu q _=>?_
 exact ⟨_,q⟩
theorem mI (ht:l9 p loose L=Gt) (hf:L.lookup f=rg fn):iu p loose f fn=true:=P9.mp ht _ (hM hf)
theorem xe (hf:L.lookup f=rg fn) (he:f∈aE):f∈bn L:=Qs.mpr ⟨Tx.mpr ⟨_,hM hf,rfl⟩,PK he⟩
theorem wb (hS:∀ c P,h.TableAt c P #[]->SF.tab P) (hO:∀ b,SF.old b->∃ o,h.get? b=rg o) (T:Top p loose mean mg mb h) (TE:TopE p loose mg h) (Y:gV (bn L) h) (ht:l9 p loose L=Gt) (hb:xP p loose=Gt) (hr:(fW p loose).isSome=Gt) (hL:(L.lookup "Rule").isSome=Gt) (hP:bn L=[] \/ "PickError" ∈ bn L)
  (hN:SF.excN=bn L) (hA:∀ c,SF.exc c=((gG (mg (mL c))).getD 0)) (hR:SF.rule=(gG (mg "Rule")).getD 0):∃ mN,GE (ch p loose mg mN L) h/\Ap (ch p loose mg mN L) L:=by
 refine fK (A5 TE Y T hr) λc C N mN hc hC Pl t=>?_
 have eR:SF.rule=C:=by rw[hR,hC]; rfl
 have had:∀ c∈bn L,mg (mL c)=rg (.ref (SF.exc c)):=λc hc=>by
  refine aj (Cc Y T c hc) λa e=>?_
  rw[hA,e]; rfl
 refine ae (C0 Y T ht (ad:=SF.exc) had hP λuu=>rfl) λx1 x2=>?_
 have mrec:∀ m,dZ p loose m=c.meths.find? λr=>r.name==mL m:=λm=>by unfold dZ; rw[hc]; rfl
 have tM:∀ m fn,L.lookup m=rg fn->m∈methNames->∃ a o r,dZ p loose m=rg r/\mN (mL m)=rg (.ref a)/\FnAt h ⟨fn.params,r.body,r.scope,Oz⟩ a/\h.get? a=rg o/\o.cls = .type "function" /\ okF ⟨fn.params,r.body,r.scope,Oz⟩ fn=true:=λm fn hm hmm=>by
  have i:=mI ht hm
  have n1:m∉aE:=λq=>by
   simp only[methNames,O9,RU,Ug] at hmm
   rcases hmm with rfl | rfl | rfl | rfl | rfl<;>revert q<;>decide
  have n2:m ≠ "Rule" := λq=>by (clear i hm n1; subst q); revert hmm; decide
  unfold iu at i
  rw[OB n1,OB n2,OD hmm] at i
  refine ai i λr hr i=>?_
  simp only[OJ] at i
  refine a8 (rK Pl ((mrec m).symm.trans hr) (mY i.1.1) i.1.2 i.2) λa o u l v z=>?_
  exact ⟨a,o,r,hr,u,l,v,z,i.1.1⟩
 have tI:∀ fn,L.lookup "Rule" = rg fn->∃ a o r,dZ p loose "__init__" = rg r/\mN "__init__" = rg (.ref a)/\FnAt h ⟨"self" :: fn.params,r.body,r.scope,Oz⟩ a/\h.get? a=rg o/\o.cls = .type "function" /\ okI ⟨"self" :: fn.params,r.body,r.scope,Oz⟩ fn=true:=λfn hm=>by
  have i:=mI ht hm
  unfold iu at i
  rw[OB (by decide),OD rfl] at i
  refine ai i λr hr i=>?_
  simp only[OJ] at i
  refine a8 (rK Pl (ps:="self" :: fn.params) ((mrec "__init__").symm.trans hr) (uN i.1.1) i.1.2 i.2) λa o u l v z=>?_
  exact ⟨a,o,r,hr,u,l,v,z,i.1.1⟩
 have tF:∀ f fn,L.lookup f=rg fn->¬ (f = "Rule" \/ f∈methNames\/f∈aE)->∃ a d,(X9 p).find? (λd=>d.name==mL f)=rg d/\mg (mL f)=rg (.ref a)/\FnAt h ⟨fn.params,d.body,d.scope,Gt⟩ a/\okF ⟨fn.params,d.body,d.scope,Gt⟩ fn=true:=λf fn hm y=>by
  have i:=mI ht hm
  unfold iu at i
  rw[OB (λq=>y (.inr (.inr q))),OB (λq=>y (.inl q)),OB (λq=>y (.inr (.inl q)))] at i
  refine ai i λd hd i=>?_
  simp only[OJ] at i
  refine af (Fq hS T hd (mY i.1.1) i.1.2 i.2) λa u l=>?_
  exact ⟨a,d,hd,u,l,i.1.1⟩
 have gF:∀ f k,(ch p loose mg mN L).fn f=rg k->¬ (f = "Rule" \/ f∈methNames\/f∈aE)/\mg (mL f)=rg (.ref k.1)/\FnAt h k.2 k.1:=λf k j=>by
  simp only[ch] at j
  split at j
  ·exact nN j
  ·rename_i y
   refine be j λfn t j=>?_
   refine a8 (tF f fn t y) λa d u l v _=>?_
   rw[u,l] at j
   (have oc:=vj j; clear j; subst oc)
   exact ⟨y,l,v⟩
 have gM:∀ m k,(ch p loose mg mN L).mth m=rg k->m∈methNames/\∃ o,mN (mL m)=rg (.ref k.1)/\FnAt h k.2 k.1/\h.get? k.1=rg o/\o.cls = .type "function" := λm k j=>by
  simp only[ch] at j
  split at j
  ·rename_i y
   refine be j λfn t j=>?_
   refine cH (tM m fn t y) λa o r u l v z e5 _=>?_
   rw[u,l] at j
   (have oc:=vj j; clear j; subst oc)
   exact ⟨y,o,l,v,z,e5⟩
  ·exact nN j
 have gI:∀ k,(ch p loose mg mN L).init=rg k->∃ o,mN "__init__" = rg (.ref k.1)/\FnAt h k.2 k.1/\h.get? k.1=rg o/\o.cls = .type "function" := λk j=>by
  simp only[ch] at j
  refine be j λfn t j=>?_
  refine cH (tI fn t) λa o r u l v z e5 _=>?_
  rw[u,l] at j
  (have oc:=vj j; clear j; subst oc)
  exact ⟨o,l,v,z,e5⟩
 refine ⟨mN,⟨⟨mg,T.g,λf a hf hq=>?_,λx hx=>?_⟩,λf k j=>(gF f k j).2.2,λuu=>?_,⟨mb,T.b,λx hx=>?_⟩,T.nolimit,hO,⟨mg,T.g,λc hc=>?_,?_⟩,yS (T.bmain) λbm ob a b c d e f=>⟨mg,bm,ob,T.g,a,b,c,d,e,f⟩⟩,λf fn hf=>⟨λhe=>by rw[hN]; exact xe hf he,λhe=>?_⟩⟩
 ·unfold adr at hq
  by_cases i:f = "Rule"
  ·rw[OD i] at hq
   refine bk hq λuu uu MS=>?_
   subst MS
   rw[i,eR]; exact hC
  ·rw[OB i,OB hf] at hq
   refine bk hq λk j MP=>?_
   subst MP
   exact (gF f k j).2.1
 ·have:=P9.mp hb x hx
  simp only[OJ,PL,List.contains_eq_mem,RO] at this
  refine ae (this) λMT h5=>?_
  clear this
  refine ae (MT) λMX h4=>?_
  clear MT
  refine ae (MX) λMY h3=>?_
  clear MX
  refine ae (MY) λi h2=>?_
  clear MY
  exact T.free _ i h2 h3 h4 h5
 ·refine bP hL λfn hfn'=>?_
  refine cH (tI fn hfn') λa o r u l v z e5 _=>?_
  refine ⟨N,mN,eR▸Pl.cls,λn y=>?_,⟨(a,⟨"self" :: fn.params,r.body,r.scope,Oz⟩),o,?_,l,v,z,e5⟩,λm k j=>(gM m k j).2⟩
  ·simp only[O9,RU,Ug] at y
   rcases y with rfl | rfl | rfl | rfl | rfl | rfl
   ·exact Pl.quiet _ (PC _ (.head _))
   ·exact Pl.quiet _ (PC _ (.tail _ (.head _)))
   ·exact Pl.quiet _ (PC _ (.tail _ (.tail _ (.head _))))
   ·exact t _ (.head _)
   ·exact t _ (.tail _ (.head _))
   ·exact t _ (.tail _ (.tail _ (.head _)))
  ·simp only[ch,hfn',u,l,TX,gG,Ta]
 ·simp only[bnames,O9,RU,Ug] at hx
  rcases hx with rfl | rfl | rfl | rfl | rfl | rfl | rfl | rfl | rfl | rfl | rfl | rfl | rfl<;>(rw[T.builtins _ (by decide +kernel)]; kernel_rfl)
 ·rw[hN] at hc
  exact ⟨had c hc,x1 c hc⟩
 ·rw[hN]; exact x2
 ·by_cases i:f = "Rule"
  ·rw[OD i]
   (clear he; subst i)
   refine cH (tI fn hf) λa o r u l v z e5 e6=>?_
   exact ⟨(a,⟨"self" :: fn.params,r.body,r.scope,Oz⟩),by simp only[ch,hf,u,l,TX,gG,Ta],e6⟩
  ·rw[OB i]
   by_cases h2:f∈methNames
   ·rw[OD h2]
    refine cH (tM f fn hf h2) λa o r u l v z e5 e6=>?_
    exact ⟨(a,⟨fn.params,r.body,r.scope,Oz⟩),by simp only[ch,OD h2,hf,u,l,TX,gG,Ta],e6,rfl⟩
   ·rw[OB h2]
    refine a8 (tF f fn hf λq=>q.elim i λq=>q.elim h2 he) λa d u l v e6=>?_
    exact ⟨(a,⟨fn.params,d.body,d.scope,Gt⟩),by simp only[ch,OB (show ¬ (f = "Rule" \/ f∈methNames\/f∈aE) from λq=>q.elim i λq=>q.elim h2 he),hf,u,l,TX,gG,Ta],e6,rfl⟩
theorem qW (h:n<=60):Room Oz n callerA:=⟨λuu=>rfl,by show 1+ZV+2*n+4<Q5; unfold ZV Q5; exact Ka h,by show 4+100*n+300<UB; unfold UB; exact Fu h⟩
theorem CC:qf gl:=by
 intro p g mean mg mb L s fn fa a n ns vs m Q Er i T TE Y ht hb hr hL hP hf hmg hn j ea hI hlen hQ
 replace i:SF=o8 mg L s.heap:=i
 show OQ (OT prog w) Y8 (R3 (.ref fa) [.ref a]) Q Er s
 refine af (wb (λc P x=>by rw[i]; exact ⟨c,x⟩) (λb hb=>by rw[i] at hb; exact hb) T TE Y ht hb hr hL hP (by rw[i]; rfl) (λuu=>by rw[i]; rfl) (by rw[i]; rfl)) λmN ge tab=>?_
 obtain ⟨k,hp,hok,z⟩:∃ k,(ch p g mg mN L).fn "law" = rg k/\okF k.2 fn=Gt/\k.2.lam=true:=(tab "law" fn hf).2 (by decide)
 have ha:k.1=fa:=by
  have:(ch p g mg mN L).fn "law" = rg k:=hp
  simp only[ch] at this
  rw[OB (by decide),hf] at this
  refine be (show ((X9 p).find? _).bind _=rg k from this) λd _ this=>?_
  rw[hmg] at this
  (have oc:=vj this; clear this; (clear z hok hp; subst oc)); rfl
 have hC:cJ { (ch p g mg mN L) with lam:=k.2.lam } n (mkC L n) XPc:=by rw[z]; exact (wg (fns:=ch p g mg mN L) rfl tab n).1
 have rs:RVs s.heap [.d (aa ns)] [.ref a] ([a]++[]):=by
  refine .cons ⟨.list ea (RA.of_ints hI),?_⟩ .nil
  exact sz_list.mpr ⟨by rw[OV]; exact hlen,gD ns⟩
 have hat:FnAt s.heap k.2 fa:=ha▸ge.funs "law" k hp
 refine mK (fns:=ch p g mg mN L) (P:=λuu=>VU) rfl hC hok (qW (GK hn)) ⟨[],rfl,λuu h=>nomatch h⟩ ge hat rs (λuu uu=>trivial) (by rw[j]; simp) (λr hr v s' E=>?_) λc hc=>by rw[j] at hc; cases hc
 rw[j] at hr; (have oc:=Out.ok.inj hr; clear hr; subst oc)
 obtain ⟨y,as,u,_⟩:=E
 refine av (y) λh' tk M3 kp=>?_
 clear y
 subst M3
 refine ae (u) λr _=>?_
 clear u
 cases r
 refine hQ h' tk ⟨λb o e=>?_,λb o e=>K.there kp e⟩
 refine af (kp b o (.inl trivial) e) λo' e' l=>?_
 cases l with
 | same q=>exact .inl (q▸e')
 | tab ps more q1 q2 q3 _=>
  rw[i] at q1; revert q1; intro t
  refine aj (t) λc q1=>?_
  clear t
  (clear e; subst q2 q3)
  exact .inr (.inl ⟨q1.isCodeTable,rfl,ps,more,rfl,e'⟩)
 | frame es ep q1 _ _ _ _ _=>rw[i] at q1; exact OW ⟨o,e⟩ q1
end
theorem tL {P:Params}{h:PE}{a:O1}{vs:vk N8}{xs:vk W.WData}(x:W.Well P h (.ref a) (.list xs)) (hL:h.IsList a vs.toArray):h.get? a=rg {cls:=.type "list", data:=.seq vs.toArray }:=by
 obtain ⟨o,e,j,n,g⟩:=hL
 cases x with
 | list e' _=>
  rw[e] at e'; (have i:=vj e'; clear e'; (clear j; subst i))
  dsimp only at g
  injection g with h1 h2
  rw[e,h1]
theorem wR {w:World}{prog:Tz}(T:Top p loose mean mg mb s.heap) (TE:TopE p loose mg s.heap) (Y:gV (bn L) s.heap) (ht:l9 p loose L=Gt) (hb:xP p loose=Gt) (hr:(fW p loose).isSome=Gt) (hL:(L.lookup "Rule").isSome=Gt) (hP:bn L=[] \/ "PickError" ∈ bn L)
  (hf:L.lookup "law" = rg fn) (hmg:mg (mL "law")=rg (.ref fa)) (hn:n<=50) (hrun:aA (mkC L n) fn [.d (aa ns)] = .ok (.d (.bool Gt),m)) (ea:s.heap.get? a=rg {cls:=.type "list", data:=.seq vs.toArray }) (hI:Q8 vs ns) (hlen:ns.length<=2^22)
  (hQ:∀ h' tk,OldK s.heap h'->Q (.bool Gt) {s with heap:=h',toks:=tk }):OQ (OT prog w) Y8 (R3 (.ref fa) [.ref a]) Q Er s :=
 CK CC ⟨prog,w,o8 mg L s.heap⟩ rfl T TE Y ht hb hr hL hP hf hmg hn hrun ea hI hlen hQ
theorem kj:∀ {xs:vk OU},(∀ x∈xs,x.depth<=n)->Tg xs<=n
 | [],_=>by simp[Tg]
 | x::xs,h=>by
  rw[Tg]
  exact Z1.mpr ⟨h x (.head _),kj λy g=>h y (.tail _ g)⟩
theorem jj:∀ {xs:vk OU},(∀ x∈xs,x.canLay0=Gt)->UW xs=Gt
 | [],_=>by simp[UW]
 | x::xs,h=>by
  rw[UW,h x (.head _),jj λy g=>h y (.tail _ g)]; rfl
noncomputable def Low (n:ON) (d:OU):Prop:=d.canLay0=Gt/\d.depth<=n
theorem Low.okc (h:Low n d) (hn:n<=64:=by decide):okc d=true:=by
 unfold Internal.okc
 rw[h.1,PK (Lt h.2 hn)]; rfl
theorem Low.int (i:OF) (n:ON):Low (n+1) (.int i):=⟨rfl,by simp[Vs]⟩
theorem Low.list (h:∀ x∈xs,Low n x):Low (n+1) (.list xs) :=
 ⟨by rw[VY]; exact jj λx g=>(h x g).1,by rw[Vs]; have:=kj λx g=>(h x g).2; exact oO this⟩
theorem qi (ns:vk OF) (n:ON):Low (n+2) (aa ns):=.list λx h=>by
 refine aI h λi _ g=>?_
 (clear h; subst g)
 exact .int i n
theorem wQ (t:vk (vk OF)) (n:ON):Low (n+3) (ah t):=.list λx h=>by
 refine aI h λi _ g=>?_
 (clear h; subst g)
 exact qi i n
@[simp] theorem hY (i:OF):okc (.int i)=true:=(Low.int i 0).okc
@[simp] theorem LJ:okc .none=true:=rfl
@[simp] theorem c9 (ns:vk OF):okc (aa ns)=true:=(qi ns 0).okc
@[simp] theorem okc_ints' (ns:vk OF):okc (.list (ns.map .int))=true:=c9 ns
@[simp] theorem eG (t:vk (vk OF)):okc (ah t)=true:=(wQ t 0).okc
@[simp] theorem okc_rows' (t:vk (vk OF)):okc (.list (t.map aa))=true:=eG t
@[simp] theorem MK:okc (.list [])=true:=c9 []
@[simp] theorem ms (a b:OF):QN (.int a) (.int b)=decide (a=b):=by
 rw[QN]; by_cases h:a=b<;>simp[h]
theorem km:∀ (a b:vk OF),Q3 (a.map .int) (b.map .int)=decide (a=b)
 | [],[]=>by simp[Q3]
 | [],y::b=>by simp[Q3]
 | x::a,[]=>by simp[Q3]
 | x::a,y::b=>by
  rw[Qo,Qo,Q3,km a b,ms]
  by_cases h1:x=y<;>by_cases h2:a=b<;>simp[h1,h2]
@[simp] theorem gc (a b:vk OF):QN (aa a) (aa b)=decide (a=b):=by
 unfold aa; rw[QN]; exact km a b
@[simp] theorem eqv_ints' (a b:vk OF):QN (.list (a.map .int)) (.list (b.map .int))=decide (a=b):=gc a b
theorem ku:∀ (a b:vk (vk OF)),Q3 (a.map aa) (b.map aa)=decide (a=b)
 | [],[]=>by simp[Q3]
 | [],y::b=>by simp[Q3]
 | x::a,[]=>by simp[Q3]
 | x::a,y::b=>by
  rw[Qo,Qo,Q3,ku a b,gc]
  by_cases h1:x=y<;>by_cases h2:a=b<;>simp[h1,h2]
@[simp] theorem oY (a b:vk (vk OF)):QN (ah a) (ah b)=decide (a=b):=by
 unfold ah; rw[QN]; exact ku a b
@[simp] theorem De (a:vk OF):QN (aa a) (.list [])=decide (a=[]):=gc a []
@[simp] theorem qy (k:OF) (ns:vk OF):inV (.int k) (.d (aa ns)) = .ok (decide (k∈ns)):=by
 show (if okc (.int k)&&okc (aa ns) then Out.ok ((ns.map O8).any λy=>QN y (.int k)) else .bad)=_
 rw[hY,c9,OD (by decide)]
 congr 1
 rw[Uj,Zk]
 simp[TY]
@[simp] theorem xX (k:vk OF) (t:vk (vk OF)):inV (aa k) (.d (ah t)) = .ok (decide (k∈t)):=by
 show (if okc (aa k)&&okc (ah t) then Out.ok ((t.map aa).any λy=>QN y (aa k)) else .bad)=_
 rw[c9,eG,OD (by decide)]
 congr 1
 rw[Uj,Zk]
 simp[TY]
@[simp] theorem cS:∀ ns:vk OF,aK (ns.map .int)=rg ns
 | []=>rfl
 | i::ns=>by rw[Qo,aK,cS ns]; rfl
theorem uO (ns:vk OF):(ns.map O8).all sx=true:=by rw[WY,P9]; intro _ _; rfl
@[simp] theorem gY (ns:vk OF):fresh (ns.map .int) = .deep:=by unfold fresh; rw[uO]; rfl
@[simp] theorem CR (i:OF):mk (.d (.int i))=sI i:=rfl
@[simp] theorem ME (ns:vk OF):mk (.d (aa ns))=(.d (aa ns),.sh):=rfl
theorem li:∀ {ns:vk OF},(∀ i∈ns,F (.int i) = .ok (if p i then rg (sI (f i)) else OC))->bE F (ns.map .int) = .ok (((ns.filter p).map f).map .int,Gt)
 | [],_=>rfl
 | i::ns,h=>by
  rw[Qo,bE,h i (.head _),li λj g=>h j (.tail _ g)]
  simp only[Out.ok_bind]
  cases hp:p i<;>simp[hp,sI,Vk]
theorem oR:∀ {l:vk α},(∀ i∈l,F (e i) = .ok (rg (sI (f i))))->bE F (l.map e) = .ok ((l.map f).map .int,Gt)
 | [],_=>rfl
 | i::l,h=>by
  rw[Qo,bE,h i (.head _),oR λj g=>h j (.tail _ g)]
  rfl
theorem iM {α:Type}{F:OU->Out (OE (V×Mode))}{e:α->OU}{f:α->vk OF}{p:α->Pr}{m:α->Mode}:∀ {l:vk α},(∀ i∈l,F (e i) = .ok (if p i then rg (.d (aa (f i)),m i) else OC)) ->
  ∃ b,bE F (l.map e) = .ok (((l.filter p).map f).map aa,b)/\((∀ i∈l,m i = .deep)->b=Gt)
 | [],_=>(ag Gt rfl (λuu=>rfl))
 | i::l,h=>by
  refine af (iM (l:=l) λj g=>h j (.tail _ g)) λb n k=>?_
  rw[Qo,bE,h i (.head _),n]
  simp only[Out.ok_bind]
  cases hp:p i
  ·exact (ag b (by simp[hp,Vk]) (λq=>k λj g=>q j (.tail _ g)))
  ·refine (ag (decide (m i = .deep)&&b) (by simp[hp,Vk]) (λq=>?_))
   rw[q i (.head _),k λj g=>q j (.tail _ g)]; rfl
theorem l4 (a b:OF):cZ a b=((Qe (b-a).toNat).map λ(k:ON)=>a+(k:OF)).map .int:=by
 unfold cZ; rw[Vx]; rfl
noncomputable def aQ (n:ON):vk Int:=(Qe n).map λ(k:ON)=>(k:OF)
theorem uT {n:ON}(h:n<=1000000):ck 0 n = .ok ((aQ n).map .int,.deep):=by
 unfold ck
 rw[OD (cr (by unfold lim; exact GC h) Fm Hl IL (F3 h)),l4]
 simp[aQ]
theorem mem_upTo:i∈aQ n↔0<=i/\i<n:=by
 unfold aQ
 simp only[Tx,V0]
 constructor
 ·rintro ⟨k,hk,rfl⟩; exact Io hk
 ·rintro ⟨g,h⟩; exact (ag i.toNat (la1 g h) (Gj g))
theorem nI (hk:bI i xs.length=rg k) (h:xs[k]? = rg y):eO (.list xs) (.int i) = .ok (mk (.d y)):=by
 show (am ((bI i xs.length).bind λk=>xs[k]?) λz=>Out.ok (mk (.d z)))=_
 rw[hk,TX,h]; rfl
theorem fF {i:OF}{n:ON}(h0:0<=i) (h:i<n):bI i n=rg i.toNat:=by unfold bI; rw[OD h0,OD h]
theorem vG (h0:0<=i) (h:ns[i.toNat]? = rg x):eO (aa ns) (.int i) = .ok (sI x):=by
 have g:i.toNat<ns.length:=(PF.mp h).1
 exact nI (fF h0 (by rw[OV]; exact AB g)) (by rw[PO,h]; rfl)
section
variable (a b:OF) (xs ys:vk OF) (t u:vk (vk OF)) (σ:St) (x y:Ot) (v:V×Mode)
@[simp] theorem MJ:upd σ x v y=if y=x then rg v else σ y:=rfl
@[simp] theorem bT (b:Pr):au (.d (.bool b)) = .ok b:=rfl
@[simp] theorem MN:cA .lt (.d (.int a)) (.d (.int b)) = .ok (decide (a<b)):=rfl
@[simp] theorem MM:cA .gt (.d (.int a)) (.d (.int b)) = .ok (decide (b<a)):=rfl
@[simp] theorem ML:cA .ge (.d (.int a)) (.d (.int b)) = .ok (decide (b<=a)):=rfl
@[simp] theorem Cq:cA .eq (.d (.int a)) (.d (.int b)) = .ok (decide (a=b)):=by
 show (if okc (.int a)&&okc (.int b) then Out.ok (QN (.int a) (.int b)) else .bad)=_
 rw[hY,hY,ms,OD (by decide)]
@[simp] theorem CS:cA .ne (.d (.int a)) (.d (.int b)) = .ok (!decide (a=b)):=by
 show (if okc (.int a)&&okc (.int b) then Out.ok (!PyData.eqv (.int a) (.int b)) else .bad)=_
 rw[hY,hY,ms,OD (by decide)]
@[simp] theorem Bi:cA .eq (.d (aa xs)) (.d (aa ys)) = .ok (decide (xs=ys)):=by
 show (if okc (aa xs)&&okc (aa ys) then Out.ok (QN (aa xs) (aa ys)) else .bad)=_
 rw[c9,c9,gc,OD (by decide)]
@[simp] theorem A7:cA .ne (.d (aa xs)) (.d (aa ys)) = .ok (!decide (xs=ys)):=by
 show (if okc (aa xs)&&okc (aa ys) then Out.ok (!PyData.eqv (aa xs) (aa ys)) else .bad)=_
 rw[c9,c9,gc,OD (by decide)]
@[simp] theorem BW:cA .eq (.d (ah t)) (.d (ah u)) = .ok (decide (t=u)):=by
 show (if okc (ah t)&&okc (ah u) then Out.ok (QN (ah t) (ah u)) else .bad)=_
 rw[eG,eG,oY,OD (by decide)]
@[simp] theorem MA:cA .ne (.d (ah t)) (.d (ah u)) = .ok (!decide (t=u)):=by
 show (if okc (ah t)&&okc (ah u) then Out.ok (!PyData.eqv (ah t) (ah u)) else .bad)=_
 rw[eG,eG,oY,OD (by decide)]
@[simp] theorem C7:cA .isin (.d (.int a)) (.d (aa xs)) = .ok (decide (a∈xs)):=qy a xs
@[simp] theorem AK:cA .notin (.d (.int a)) (.d (aa xs)) = .ok (!decide (a∈xs)):=by
 show ((inV (.int a) (.d (aa xs))).bind λb=>Out.ok (!b))=_
 rw[qy]; rfl
@[simp] theorem BI:cA .isin (.d (aa xs)) (.d (ah t)) = .ok (decide (xs∈t)):=xX xs t
@[simp] theorem MD:dC .add (.int a) (.int b) = .ok (sI (a+b)):=rfl
@[simp] theorem MG:dC .sub (.int a) (.int b) = .ok (sI (a-b)):=rfl
@[simp] theorem MC:dC .xor (.int a) (.int b) = .ok (sI (UA a b)):=rfl
theorem vm (h:a.natAbs<2^63):dC .mul (.int a) (.int b) = .ok (sI (a*b)):=by
 show (if a.natAbs<2^63\/b.natAbs<2^63 then Out.ok (sI (a*b)) else .bad)=_
 rw[OD (.inl h)]
theorem uI (h:b.natAbs<2^63):dC .mul (.int a) (.int b) = .ok (sI (a*b)):=by
 show (if a.natAbs<2^63\/b.natAbs<2^63 then Out.ok (sI (a*b)) else .bad)=_
 rw[OD (.inr h)]
theorem AX (h:0<b):dC .mod (.int a) (.int b) = .ok (sI (a%b)):=by
 show (if b=0 then Out.bad else Out.ok (sI (a.fmod b)))=_
 rw[OB (EL h),Int.fmod_eq_emod_of_nonneg _ (AD h)]
theorem Bc (h:0<b) (h':b<1000000000):dC .fdiv (.int a) (.int b) = .ok (sI (a/b)):=by
 show (if b=0\/1000000000<=b.natAbs then Out.bad else Out.ok (sI (a.fdiv b)))=_
 rw[OB (by lia),Int.fdiv_eq_ediv_of_nonneg _ (AD h)]
theorem xb (h:xs.length+ys.length<=1000000):dC .add (aa xs) (aa ys) = .ok (.d (aa (xs++ys)),.deep):=by
 show (if (xs.map O8).length+(ys.map O8).length<=lim then Out.ok (V.d (.list (xs.map .int++ys.map .int)),fresh (xs.map .int++ys.map .int)) else .bad)=_
 rw[OV,OV,OD (show _<=lim from h),<- SI,gY]; rfl
@[simp] theorem Dl:b1V .len (.d (aa xs)) = .ok (sI xs.length):=by
 show Out.ok (sI (xs.map O8).length)=_
 rw[OV]
@[simp] theorem AJ:b1V .len (.d (ah t)) = .ok (sI t.length):=by
 show Out.ok (sI (t.map aa).length)=_
 rw[OV]
@[simp] theorem Bd:b1V .list (.d (aa xs)) = .ok (.d (aa xs),.deep):=by
 show Out.ok (V.d (.list (xs.map O8)),fresh (xs.map O8))=_
 rw[gY]; rfl
@[simp] theorem xw:b1V .tuple (.d (aa xs)) = .ok (.d (aO xs),.deep):=by
 show Out.ok (V.d (.tuple (xs.map O8)),if (xs.map O8).all sx then Mode.deep else .sh)=_
 rw[uO,OD rfl]; rfl
noncomputable def ew (xs:vk OF):vk Int:=xs.mergeSort λa b=>decide (a<=b)
theorem m8 (h:xs.length<64):b1V .sorted (.d (aa xs)) = .ok (.d (aa (ew xs)),.deep):=by
 show dW (xs.map O8)=_
 unfold dW
 rw[OV,OD h,cS]; rfl
theorem lV (h:xs.length<128) (h0:∀ i∈xs,0<=i):b1V .sorted (.d (aa xs)) = .ok (.d (aa (ew xs)),.deep):=by
 by_cases h1:xs.length<64
 ·exact m8 xs h1
 show dW (xs.map O8)=_
 unfold dW
 rw[OV,OB h1,OD h,cS]
 show (if _ then _ else _)=_
 rw[OD h0]; rfl
theorem rc (h:xs.length<128) (h0:∀ i∈xs,0<=i) (hs:ew xs=xs):b1V .sorted (.d (aa xs)) = .ok (.d (aa xs),.deep):=by
 rw[lV xs h h0,hs]
@[simp] theorem DD:g8 (.d (.int a)) "int" = .ok true:=rfl
@[simp] theorem CO:g8 (.d (.int a)) "bool" = .ok false:=rfl
@[simp] theorem Ce:g8 (.d (aa xs)) "list" = .ok true:=rfl
@[simp] theorem yo:(sI a).1 = .d (.int a):=rfl
@[simp] theorem C5:(sI a).2 = .deep:=rfl
@[simp] theorem iO (b:Pr):(sB b).1 = .d (.bool b):=rfl
@[simp] theorem MO (b:Pr):(sB b).2 = .deep:=rfl
@[simp] theorem Lw:bZ []=rg []:=rfl
@[simp] theorem Lo (m:Mode) (l:vk (V×Mode)):bZ ((.d (.int a),m)::l)=(bZ l).map (.int a :: ·):=rfl
@[simp] theorem MF (l:vk (V×Mode)):bZ (sI a::l)=(bZ l).map (.int a :: ·):=rfl
@[simp] theorem DC:allDeep []=true:=rfl
@[simp] theorem EQ (l:vk (V×Mode)):allDeep (sI a::l)=allDeep l:=by simp[allDeep]
end
theorem lc (xs:vk OF):(ew xs).Perm xs:=QA ..
theorem o4 (xs:vk OF):(ew xs).Pairwise (·<=·):=by
 have:=Q9 (le:=λa b:OF=>decide (a<=b)) (λa b c h1 h2=>by simp at *; exact zq h1 h2) (λa b=>by simp; exact zH) xs
 exact this.imp (by intro a b h; simpa using h)
theorem mS:∀ {l l':vk OF},l.Perm l'->l.Pairwise (·<=·)->l'.Pairwise (·<=·)->l=l'
 | [],l',p,_,_=>by rw[p.nil_eq]
 | a::l,[],p,_,_=>by cases p.eq_nil
 | a::l,b::l',p,h,h'=>by
  refine ae (S9.mp h) λk j=>?_
  refine ae (S9.mp h') λg i=>?_
  have e:a=b:=by
   rcases O9.mp (p.mem_iff.mp (T2 (a:=a) (l:=l))) with e | e
   ·exact e
   ·rcases O9.mp (p.mem_iff.mpr (T2 (a:=b) (l:=l'))) with e' | e'
    ·exact e'.symm
    ·have:=k b e'; have:=g a e; exact y8 ‹_› this
  (clear h' g; subst e)
  rw[mS ((Yi a).mp p) j i]
theorem wF (p:xs.Perm ys) (h:ys.Pairwise (·<=·)):ew xs=ys:=mS ((lc xs).trans p) (o4 xs) h
@[simp] theorem nG (xs:vk OF):gH (.d (aa xs))=rg (xs.map .int):=rfl
@[simp] theorem nu (t:vk (vk OF)):gH (.d (ah t))=rg (t.map aa):=rfl
@[simp] theorem bz (xs:vk OF) (m:Mode):itV (.d (aa xs),m) = .ok (xs.map .int,m):=rfl
@[simp] theorem aX (t:vk (vk OF)) (m:Mode):itV (.d (ah t),m) = .ok (t.map aa,m):=rfl
@[simp] theorem rl (xs:vk OF) (a:OF):ZW (xs.map .int++[.int a])=aa (xs++[a]):=by unfold aa; rw[SI]; rfl
theorem jK (h:xs.length<=1000000):jC σ x ns mx xs .deep = .ok (upd σ x (.d (.list xs),mx),.next):=by
 unfold jC
 rw[OD (show _<=lim from h),OD rfl]
@[simp] theorem br (n:ON):(aQ n).length=n:=by simp[aQ]
theorem t6 (xs:vk OF) (j:ON) (x:OF):ZW ((xs.map O8).take j ++ .int x::(xs.map O8).drop j)=aa (xs.take j++x::xs.drop j):=by
 unfold aa; rw[SI,Qo,List.map_take,YR]
theorem vD (xs:vk OF) (n:ON) (h:n<=1000000):iE (aa xs) (.int n) = .ok (.d (aa (xs.drop n)),.deep):=by
 unfold aa iE
 dsimp only
 rw[OD ⟨by exact zl,by exact HS h⟩,TH,<- YR,gY]
theorem iW (h:ex C s σ = .ok (σ',.next)):exs C (.cons s r) σ=exs C r σ':=by
 simp only[b0,h,Out.ok_bind]
theorem Bs (h:ex C s σ = .ok (σ',.ret v)):exs C (.cons s r) σ = .ok (σ',.ret v):=by
 simp only[b0,h,Out.ok_bind]
section
theorem CW (ha:ev C a σ = .ok (.d x,mx)) (hb:ev C b σ = .ok (.d y,my)):ev C (.slo a b) σ=iE x y:=by simp only[f8,ha,hb,Out.ok_bind]
theorem lC (ha:ev C a σ = .ok (.d x,mx)) (hb:ev C b σ = .ok (.d y,my)):ev C (.sub a b) σ=eO x y:=by simp only[eQ,ha,hb,Out.ok_bind]
theorem dG (ha:ev C a σ = .ok (.d x,mx)) (hb:ev C b σ = .ok (.d y,my)):ev C (.bin o a b) σ=dC o x y:=by simp only[fS,ha,hb,Out.ok_bind]
theorem Cy (h:ev C a σ = .ok r):ex C (.ret a) σ = .ok (σ,.ret r):=by simp only[hW,h,Out.ok_bind]
end
section
theorem iv (hC:C f=rg g) (he:evs C es σ = .ok l):ev C (.call f es) σ=g (l.map (·.1)):=by simp only[eP,hC,he,Out.ok_bind]
theorem ak (h:ev C a σ = .ok r) (hs:evs C es σ = .ok l):evs C (.cons a es) σ = .ok (r::l):=by simp only[a9,h,hs,Out.ok_bind]
theorem aC:evs C .nil σ = .ok []:=by simp only[bi]
theorem bR (ha:ev C a σ = .ok (x,mx)) (hb:ev C b σ = .ok (y,my)) (h:cA o x y = .ok t):ev C (.cmp o a b) σ = .ok (sB t):=by simp only[ed,ha,hb,h,Out.ok_bind]
theorem fy (ha:ev C a σ = .ok (sB t)):ev C (.not a) σ = .ok (sB (!t)):=by simp only[d8,ha,Out.ok_bind,iO,bT]
theorem AY (ha:ev C a σ = .ok (sB Oz)) (hb:ev C b σ = .ok (sB t)):ev C (.or a b) σ = .ok (sB t):=by
 simp only[fx,ha,hb,Out.ok_bind,iO,bT,Pn,P2]
theorem BU (ha:ev C a σ = .ok (sB Gt)):ev C (.or a b) σ = .ok (sB Gt):=by
 simp only[fx,ha,Out.ok_bind,iO,bT,Ri]
theorem yO (ha:ev C a σ = .ok (sB Gt)) (hb:ev C b σ = .ok (sB t)):ev C (.and a b) σ = .ok (sB t):=by
 simp only[d7,ha,hb,Out.ok_bind,iO,bT,Ri]
theorem wY (ha:ev C a σ = .ok (sB Oz)):ev C (.and a b) σ = .ok (sB Oz):=by
 simp only[d7,ha,Out.ok_bind,iO,bT,Pn,P2]
theorem mC (h:ev C c σ = .ok (sB Oz)):ex C (.ite c u v) σ=exs C v σ:=by simp only[fV,h,Out.ok_bind,iO,bT,Pn,P2]
theorem rC (h:ev C c σ = .ok (sB Gt)):ex C (.ite c u v) σ=exs C u σ:=by simp only[fV,h,Out.ok_bind,iO,bT,Ri]
theorem iB:exs C .nil σ = .ok (σ,.next):=by simp only[cP]
theorem dJ (ha:ev C a σ = .ok (x,mx)):ev C (.bi1 f a) σ=b1V f x:=by simp only[eE,ha,Out.ok_bind]
theorem sr (h:σ z=rg p) (hr:mk p.1=r):ev C (.name z) σ = .ok r:=by simp only[ce,h,hr]
theorem aJ (h:ev C a σ = .ok r) (hq:itV r = .ok q):bh C (.e a) σ = .ok q:=by simp only[ie,h,Out.ok_bind,hq]
theorem bQ {n:ON}{m:Mode}(h:ev C a σ = .ok (.d (.int n),m)) (hn:n<=1000000):bh C (.r1 a) σ = .ok ((aQ n).map .int,.deep):=by
 simp only[gf,h,Out.ok_bind]; exact uT hn
theorem rT {elt:E}(h:bh C it σ = .ok q) (hr:bE (λy=>(ev C elt (upd σ z (mk (.d y)))).bind λr=>.ok (rg r)) q.1 = .ok r):ev C (.comp elt z it) σ = .ok (.d (.list r.1),if r.2 then .deep else .top):=by
 simp only[dS,h,Out.ok_bind,hr,Out.calm_ok]
theorem mV {elt c:E}(h:bh C it σ = .ok q) (hr:bE (λy=>(ev C c (upd σ z (mk (.d y)))).bind λt=>(au t.1).bind λb=>if b then (ev C elt (upd σ z (mk (.d y)))).bind λr=>.ok (rg r) else .ok OC) q.1 = .ok r):ev C (.compif elt z it c) σ = .ok (.d (.list r.1),if r.2 then .deep else .top):=by
 simp only[cQ,h,Out.ok_bind,hr,Out.calm_ok]
theorem dY {c:E}{z:Ot}{it:It}{ns:vk OF}{m:Mode}(p:OF->Pr) (h:bh C it σ = .ok (ns.map .int,m)) (hc:∀ i∈ns,ev C c (upd σ z (sI i)) = .ok (sB (p i))):ev C (.compif (.name z) z it c) σ = .ok (.d (aa (ns.filter p)),.deep):=by
 rw[mV h (r:=((ns.filter p).map .int,Gt))]
 ·rfl
 ·have:=li (F:=λy=>(ev C c (upd σ z (mk (.d y)))).bind λt=>(au t.1).bind λb=>if b then (ev C (.name z) (upd σ z (mk (.d y)))).bind λr=>.ok (rg r) else .ok OC) (f:=λi=>i) (p:=p) (ns:=ns) λi g=>by
   rw[CR,hc i g]
   cases p i<;>simp[ce]
  simpa using this
theorem wd (hz:σ z=rg (.d (aa xs),m)) (hm:m≠.sh) (h:ev C a σ = .ok (sI i)) (hl:xs.length<1000000):ex C (.append z a) σ = .ok (upd σ z (.d (aa (xs++[i])),m),.next):=by
 simp only[fE,h,Out.ok_bind,lA,fq,hz,nG,OB hm,yo,C5]
 rw[jK (by rw[O3,OV]; exact hl),rl,Out.calm_ok]
theorem wf (h0:0<=i) (h:t[i.toNat]? = rg r):eO (ah t) (.int i) = .ok (.d (aa r),.sh):=by
 have g:i.toNat<t.length:=(PF.mp h).1
 exact nI (fF h0 (by rw[OV]; exact AB g)) (by rw[PO,h]; rfl)
end
def Val (σ:St) (x:Ot) (v:V):Prop:=∃ m,σ x=rg (v,m)
def Has (σ:St) (l:vk (Ot×V)):Prop:=∀ x v,l.lookup x=rg v->Val σ x v
def Sub (l:vk (Ot×V)):vk (Ot×V)->Prop
 | []=>VU
 | p::r=>l.lookup p.1=rg p.2/\Sub l r
theorem pE (σ:St) (x:Ot) (r:V×Mode):upd σ x r x=rg r:=OD rfl
theorem nv (x:Ot) (v:β) (l:vk (Ot×β)):ZX x ((x,v)::l)=rg v:=by
 rw[PQ,QH]
theorem nP (h:x≠y) (v:β) (l:vk (Ot×β)):ZX x ((y,v)::l)=l.lookup x:=by
 rw[PQ,Re.mpr h]
section
variable {C:Calls}{σ:St}{l l':vk (Ot×V)}
theorem Has.nil:Has σ []:=λuu uu h=>by exact nN h
theorem Has.ev (H:Has σ l) (h:l.lookup x=rg v):ev C (.name x) σ = .ok (mk v):=by
 refine aj (H x v h) λm e=>?_
 exact sr e rfl
theorem Has.upd (H:Has σ l) (x:Ot) (v:V) (m:Mode):Has (Internal.upd σ x (v,m)) ((x,v)::l):=by
 intro y u h
 by_cases e:y=x
 ·subst e
  rw[nv] at h
  (have g:=vj h; clear h; subst g)
  exact ⟨m,OD rfl⟩
 ·rw[nP e] at h
  refine aj (H y u h) λi q=>?_
  exact ⟨i,(OB e).trans q⟩
theorem Has.demote (H:Has σ l) (ns:vk Ot):Has (Internal.demote σ ns) l:=by
 intro x v h
 refine aj (H x v h) λm q=>?_
 by_cases e:x∈ns
 ·exact ⟨(mk v).2,(OD e).trans (by rw[q]; rfl)⟩
 ·exact ⟨m,(OB e).trans q⟩
theorem Has.consume (H:Has σ l) (ns:vk Ot) (m:Mode):Has (Internal.consume σ ns m) l:=by
 unfold Internal.consume
 by_cases e:m = .deep
 ·rw[OD e]; exact H
 ·rw[OB e]; exact H.demote ns
theorem Has.sub (H:Has σ l) (h:Sub l l'):Has σ l':=by
 induction l' with
 | nil=>exact .nil
 | cons p r ih=>
  intro x v g
  by_cases e:x=p.1
  ·subst e
   rw[nv] at g
   (have i:=vj g; clear g; subst i)
   exact H _ _ h.1
  ·rw[nP e] at g
   exact ih h.2 x v g
noncomputable def Runs (C:Calls) (b:Ss) (σ:St) (Post:St->Flw->Prop):Prop:=∃ σ' fl,exs C b σ = .ok (σ',fl)/\Post σ' fl
noncomputable def Cont (C:Calls) (b:Ss) (Post:St->Flw->Prop) (σ:St):Flw->Prop
 | .next=>Runs C b σ Post
 | .ret v=>Post σ (.ret v)
variable {b u v:Ss}{s:S}{e c:E}{Post Post':St->Flw->Prop}{r:V×Mode}{x:Ot}
theorem Cont.ret (h:Post σ (.ret r)):Cont C b Post σ (.ret r):=h
theorem Runs.mono (h:Runs C b σ Post) (k:∀ σ' fl,Post σ' fl->Post' σ' fl):Runs C b σ Post':=av (h) λa f i g=>(ay a f i (k a f g))
theorem Runs.nil (h:Post σ .next):Runs C .nil σ Post:=(ay σ .next iB h)
theorem Runs.cons (he:ex C s σ = .ok o) (k:Cont C b Post o.1 o.2):Runs C (.cons s b) σ Post:=by
 obtain ⟨g,j⟩:=o
 cases j with
 | next=>
  refine av (k) λa f i h=>?_
  clear k
  exact (ay a f (by rw[iW he]; exact i) h)
 | ret v=>exact (ay g (.ret v) (Bs he) k)
theorem Runs.set (H:Has σ l) (he:Internal.ev C e σ = .ok r) (k:∀ σ',Has σ' ((x,r.1)::l)->σ' x=rg r->Runs C b σ' Post):Runs C (.cons (.assign x e) b) σ Post :=
 Runs.cons (o:=(Internal.upd (Internal.consume σ (fv e) r.2) x r,.next)) (by simp only[dv,l7 he,Out.ok_bind]) (k _ ((H.consume _ _).upd x r.1 r.2) (OD rfl))
theorem Runs.expr (H:Has σ l) (he:Internal.ev C e σ = .ok r) (k:∀ σ',Has σ' l->(∀ y,y∉fv e->σ' y=σ y)->Runs C b σ' Post):Runs C (.cons (.expr e) b) σ Post :=
 Runs.cons (o:=(Internal.consume σ (fv e) r.2,.next)) (by simp only[eY,he,Out.ok_bind]) (k _ (H.consume _ _) λy g=>by
  unfold Internal.consume
  by_cases q:r.2 = .deep
  ·rw[OD q]
  ·rw[OB q]; exact OB g)
theorem Runs.ret (he:Internal.ev C e σ = .ok r) (k:Post σ (.ret r)):Runs C (.cons (.ret e) b) σ Post:=Runs.cons (o:=(σ,.ret r)) (Cy he) k
theorem Runs.retn (he:σ x=rg r) (k:Post σ (.ret r)):Runs C (.cons (.retn x) b) σ Post:=Runs.cons (o:=(σ,.ret r)) (by simp only[kK,he]) k
theorem Runs.no (he:Internal.ev C c σ = .ok (sB Oz)) (k:Runs C b σ Post):Runs C (.cons (.ite c u .nil) b) σ Post:=Runs.cons (o:=(σ,.next)) ((mC he).trans iB) k
theorem Runs.ite (he:Internal.ev C c σ = .ok (sB t)) (kt:t=Gt->Runs C u σ (Cont C b Post)) (kf:t=Oz->Runs C v σ (Cont C b Post)):Runs C (.cons (.ite c u v) b) σ Post:=by
 cases t with
 | true=>
  refine av (kt rfl) λa f h g=>?_
  exact Runs.cons (o:=(a,f)) ((rC he).trans h) g
 | false=>
  refine av (kf rfl) λa f h g=>?_
  exact Runs.cons (o:=(a,f)) ((mC he).trans h) g
theorem Runs.next (he:ex C s σ = .ok (σ',.next)) (k:Runs C b σ' Post):Runs C (.cons s b) σ Post:=Runs.cons (o:=(σ',.next)) he k
theorem Runs.iteTo (Inv:St->Prop) (he:Internal.ev C c σ = .ok (sB t)) (kt:t=Gt->Runs C u σ (λσ' fl=>fl = .next/\Inv σ')) (kf:t=Oz->Runs C v σ (λσ' fl=>fl = .next/\Inv σ')) (k:∀ σ',Inv σ'->Runs C b σ' Post):Runs C (.cons (.ite c u v) b) σ Post :=
 Runs.ite he (λq=>(kt q).mono λσ' fl h=>by obtain ⟨rfl,h⟩:=h; exact k σ' h) λq=>(kf q).mono λσ' fl h=>by obtain ⟨rfl,h⟩:=h; exact k σ' h
theorem hV:(∀ l,Has σ l->Has (Internal.consume σ ns m) l)/\∀ y,y∉ns->Internal.consume σ ns m y=σ y:=⟨λuu H=>H.consume ns m,λy g=>by
 unfold Internal.consume
 by_cases q:m = .deep
 ·rw[OD q]
 ·rw[OB q]; exact OB g⟩
theorem og (Inv:vk α->St->Prop)
  (hs:∀ pre y post,xs=pre++y::post->∀ σ,Inv pre σ->Runs C body (Internal.upd σ z (mk (.d (g y)))) (λσ' fl=>match fl with | .next=>Inv (pre++[y]) σ' | .ret v=>Post σ' (.ret v))) :
  ∀ (post pre:vk α) (σ:St),xs=pre++post->Inv pre σ->∃ o,cF (λy σ=>exs C body (Internal.upd σ z (mk (.d y)))) (post.map g) σ = .ok o/\match o.2 with | .next=>Inv xs o.1 | .ret v=>Post o.1 (.ret v)
 | [],pre,σ,hl,h=>(ag (σ,.next) rfl (by rw[hl,RH]; exact h))
 | y::post,pre,σ,hl,h=>by
  refine av (hs pre y post hl σ h) λa f j i=>?_
  cases f with
  | ret v=>exact (ag (a,.ret v) (by rw[Qo,cF,j]; rfl) i)
  | next=>
   obtain ⟨o,l,k⟩:=og Inv hs post (pre++[y]) a (by rw[hl,QO]; rfl) i
   exact (ag o (by rw[Qo,cF,j]; exact l) k)
theorem Runs.for (Inv:vk α->St->Prop) (hit:bh C it σ = .ok (xs.map g,m)) (h0:∀ σ0,(∀ l,Has σ l->Has σ0 l)->(∀ y,y∉bK it->σ0 y=σ y)->Inv [] σ0)
  (hs:∀ pre y post,xs=pre++y::post->∀ σ,Inv pre σ->Runs C body (Internal.upd σ z (mk (.d (g y)))) (λσ' fl=>match fl with | .next=>Inv (pre++[y]) σ' | .ret v=>Post σ' (.ret v)))
  (k:∀ σ',Inv xs σ'->Runs C b σ' Post):Runs C (.cons (.for1 z it body) b) σ Post:=by
 refine af (og Inv hs xs [] (Internal.consume σ (bK it) m) rfl (h0 _ hV.1 hV.2)) λo i h=>?_
 refine Runs.cons (o:=o) (by simp only[pQ,hit,Out.ok_bind]; exact i) ?_
 obtain ⟨a,f⟩:=o
 cases f with
 | next=>exact k a h
 | ret v=>exact h
noncomputable def Sk (o:OE β) (Inv:St->Prop) (rv:β->V×Mode) (σ:St) (fl:Flw):Prop:=match o with
 | none=>fl = .next/\Inv σ
 | some q=>fl = .ret (rv q)
theorem Sk.next {β:Type}{o:OE β}{Inv:St->Prop}{rv:β->V×Mode}(h:o=OC) (hI:Inv σ):Sk o Inv rv σ .next:=by subst h; exact ⟨rfl,hI⟩
theorem Sk.ret {β:Type}{o:OE β}{q:β}{Inv:St->Prop}{rv:β->V×Mode}(h:o=rg q):Sk o Inv rv σ (.ret (rv q)):=by subst h; exact rfl
theorem Runs.seek {α β:Type}{body:Ss}{z:Ot}{it:It}{g:α->OU}{xs:vk α}{m:Mode}(Inv:St->Prop) (f:α->OE β) (rv:β->V×Mode) (hit:bh C it σ = .ok (xs.map g,m)) (h0:∀ σ0,(∀ l,Has σ l->Has σ0 l)->(∀ y,y∉bK it->σ0 y=σ y)->Inv σ0)
  (hs:∀ y∈xs,∀ σ,Inv σ->Runs C body (Internal.upd σ z (mk (.d (g y)))) (Sk (f y) Inv rv))
  (k:xs.findSome? f=OC->∀ σ',Inv σ'->Runs C b σ' Post) (kr:∀ q,xs.findSome? f=rg q->∀ σ',Post σ' (.ret (rv q))):Runs C (.cons (.for1 z it body) b) σ Post:=by
 refine Runs.for (λj σ=>Inv σ/\j.findSome? f=OC) hit (λσ0 n u=>⟨h0 σ0 n u,rfl⟩) (λj y r t o n=>?_) λσ' h=>k h.2 σ' h.1
 refine (hs y (by rw[t]; exact PA _ (.head _)) o n.1).mono λσ' v h=>?_
 cases hf:f y with
 | none=>
  rw[hf] at h
  revert h; intro i
  refine ae (i) λp h=>?_
  clear i
  subst p
  exact ⟨h,by rw[VQ,n.2,Uq,hf]; rfl⟩
 | some q=>
  rw[hf] at h
  subst h
  exact kr q (by rw[t,VQ,n.2,Uq,hf]; rfl) σ'
theorem da:∀ (ps:vk Ot) (vs:vk V),ps.length=vs.length->∃ σ,bw ps vs=rg σ/\Has σ (ps.zip vs)
 | [],[],_=>(ag _ rfl .nil)
 | [],v::vs,h=>by cases h
 | p::ps,[],h=>by cases h
 | p::ps,v::vs,h=>by
  refine af (da ps vs (Nat.succ.inj h)) λσ i g=>?_
  exact (ag _ (by rw[bw,i]; rfl) (g.upd p (mk v).1 (mk v).2))
theorem dF {ps:vk Ot}{vs:vk V}{P:V×Mode->Prop}(hl:ps.length=vs.length) (h:∀ σ,Has σ (ps.zip vs)->Runs C b σ (λuu fl=>∃ r,fl = .ret r/\P r)):∃ r,aA C ⟨ps,b⟩ vs = .ok r/\P r:=by
 refine af (da ps vs hl) λσ l k=>?_
 obtain ⟨a,f,j,r,g,i⟩:=h σ k
 subst g
 exact (ag r (by unfold aA; dsimp only; rw[l]; dsimp only; rw[j]; rfl) i)
theorem bX {ps:vk Ot}(hl:ps.length=vs.length) (h:∀ σ,Has σ (ps.zip vs)->Runs C b σ (λuu fl=>fl = .ret r)):aA C ⟨ps,b⟩ vs = .ok r:=by
 refine af (dF (P:=λq=>q=r) hl λσ H=>(h σ H).mono λuu uu e=>(ag r e rfl)) λq i g=>?_
 (clear h; subst g)
 exact i
noncomputable def iw (f:Ot):Bool:=!decide (f = "Rule") && !decide (f∈methNames)
theorem mG (h:iw f=Gt) (fn:Fn) (vs:vk V):cy f C fn vs=aA C fn vs:=by
 unfold iw at h
 simp only[OJ,PL,RO] at h
 unfold cy
 rw[OB h.1,OB h.2]
theorem bY (hL:L.lookup f=rg fn) (he:evs (mkC L (n+1)) es σ = .ok q) (hv:q.map (·.1)=vs) (h:aA (mkC L n) fn vs = .ok r) (hp:iw f=true:=by decide):Internal.ev (mkC L (n+1)) (.call f es) σ = .ok r:=by
 have g:mkC L (n+1) f=rg λvs=>cy f (mkC L n) fn vs:=by show (L.lookup f).map _=_; rw[hL]; rfl
 rw[iv g he,hv,mG hp,h]
end
section
theorem ao (i:OF):ev C (.int i) σ = .ok (sI i):=by simp only[eJ]
theorem c7 (i:Pr):ev C (.bool i) σ = .ok (sB i):=by simp only[gu]
theorem jl:ev C .none σ = .ok (.d .none,.deep):=by simp only[gy]
theorem uD:ev C .edic σ = .ok (.dic0,.deep):=by simp only[gv]
theorem lK:ev C (.list .nil) σ = .ok (.d (aa []),.deep):=by simp only[bO,bi]; rfl
theorem ei (h:ev C a σ = .ok (sI x)):ev C (.list (.cons a .nil)) σ = .ok (.d (aa [x]),.deep):=by simp only[bO,bi,a9,h,Out.ok_bind]; rfl
theorem G8 (h:ev C a σ = .ok (sI x)) (h':ev C b σ = .ok (sI y)):ev C (.list (.cons a (.cons b .nil))) σ = .ok (.d (aa [x,y]),.deep):=by simp only[bO,bi,a9,h,h',Out.ok_bind]; rfl
theorem cN (ha:ev C a σ = .ok (sI x)) (hb:ev C b σ = .ok (sI y)):ev C (.bin .add a b) σ = .ok (sI (x+y)):=(dG ha hb).trans rfl
theorem z8 (ha:ev C a σ = .ok (sI x)) (hb:ev C b σ = .ok (sI y)):ev C (.bin .sub a b) σ = .ok (sI (x-y)):=(dG ha hb).trans rfl
theorem FW (ha:ev C a σ = .ok (sI x)) (hb:ev C b σ = .ok (sI y)):ev C (.bin .xor a b) σ = .ok (sI (UA x y)):=(dG ha hb).trans rfl
theorem lJ (ha:ev C a σ = .ok (sI x)) (hb:ev C b σ = .ok (sI y)) (h:x.natAbs<2^63):ev C (.bin .mul a b) σ = .ok (sI (x*y)):=(dG ha hb).trans (vm x y h)
theorem aY (ha:ev C a σ = .ok (sI x)) (hb:ev C b σ = .ok (sI y)) (h:0<y):ev C (.bin .mod a b) σ = .ok (sI (x%y)):=(dG ha hb).trans (AX x y h)
theorem fM (ha:ev C a σ = .ok (sI x)) (hb:ev C b σ = .ok (sI y)) (h:0<y) (h':y<1000000000):ev C (.bin .fdiv a b) σ = .ok (sI (x/y)):=(dG ha hb).trans (Bc x y h h')
theorem uj (ha:ev C a σ = .ok (sI x)) (hb:ev C b σ = .ok (sI y)):ev C (.cmp .lt a b) σ = .ok (sB (decide (x<y))):=bR ha hb rfl
theorem yx (ha:ev C a σ = .ok (sI x)) (hb:ev C b σ = .ok (sI y)):ev C (.cmp .gt a b) σ = .ok (sB (decide (y<x))):=bR ha hb rfl
theorem Dm (ha:ev C a σ = .ok (sI x)) (hb:ev C b σ = .ok (sI y)):ev C (.cmp .ge a b) σ = .ok (sB (decide (y<=x))):=bR ha hb rfl
theorem c8 (ha:ev C a σ = .ok (sI x)) (hb:ev C b σ = .ok (sI y)):ev C (.cmp .eq a b) σ = .ok (sB (decide (x=y))):=bR ha hb (Cq x y)
theorem ju (ha:ev C a σ = .ok (sI x)) (hb:ev C b σ = .ok (sI y)):ev C (.cmp .ne a b) σ = .ok (sB (!decide (x=y))):=bR ha hb (CS x y)
theorem sR (ha:ev C a σ = .ok (.d (aa xs),m)) (hb:ev C b σ = .ok (.d (aa ys),m')):ev C (.cmp .ne a b) σ = .ok (sB (!decide (xs=ys))):=bR ha hb (A7 xs ys)
theorem zw (ha:ev C a σ = .ok (.d (aa xs),m)) (hb:ev C b σ = .ok (.d (aa ys),m')):ev C (.cmp .eq a b) σ = .ok (sB (decide (xs=ys))):=bR ha hb (Bi xs ys)
theorem t8 (ha:ev C a σ = .ok (sI x)) (hb:ev C b σ = .ok (.d (aa xs),m)):ev C (.cmp .isin a b) σ = .ok (sB (decide (x∈xs))):=bR ha hb (C7 x xs)
theorem k9 (ha:ev C a σ = .ok (sI x)) (hb:ev C b σ = .ok (.d (aa xs),m)):ev C (.cmp .notin a b) σ = .ok (sB (!decide (x∈xs))):=bR ha hb (AK x xs)
theorem D8 (ha:ev C a σ = .ok (.d (aa xs),m)) (hb:ev C b σ = .ok (.d (ah t),m')):ev C (.cmp .isin a b) σ = .ok (sB (decide (xs∈t))):=bR ha hb (BI xs t)
theorem dH (ha:ev C a σ = .ok (.d (aa xs),m)) (hb:ev C b σ = .ok (.d (aa ys),m')) (h:xs.length+ys.length<=1000000):ev C (.bin .add a b) σ = .ok (.d (aa (xs++ys)),.deep):=(dG ha hb).trans (xb xs ys h)
theorem yN (t u:vk (vk OF)) (h:t.length+u.length<=1000000):∃ m,dC .add (ah t) (ah u) = .ok (.d (ah (t++u)),m):=by
 refine ⟨fresh ((t++u).map aa),?_⟩
 show (if (t.map aa).length+(u.map aa).length<=lim then Out.ok (V.d (.list (t.map aa++u.map aa)),fresh (t.map aa++u.map aa)) else .bad)=_
 rw[OV,OV,OD (show _<=lim from h),<- SI]; rfl
theorem lZ (ha:ev C a σ = .ok (.d (ah t),m)) (hb:ev C b σ = .ok (.d (ah u),m')) (h:t.length+u.length<=1000000):∃ m,ev C (.bin .add a b) σ = .ok (.d (ah (t++u)),m):=by
 refine aj (yN t u h) λm q=>?_
 exact ⟨m,(dG ha hb).trans q⟩
theorem cG (ha:ev C a σ = .ok (.d (aa xs),m)):ev C (.bi1 .len a) σ = .ok (sI xs.length):=(dJ ha).trans (Dl xs)
theorem lR (ha:ev C a σ = .ok (.d (ah t),m)):ev C (.bi1 .len a) σ = .ok (sI t.length):=(dJ ha).trans (AJ t)
theorem lH (ha:ev C a σ = .ok (.d (aa xs),m)):ev C (.bi1 .list a) σ = .ok (.d (aa xs),.deep):=(dJ ha).trans (Bd xs)
theorem r5 (ha:ev C a σ = .ok (.d (aa xs),m)):ev C (.bi1 .tuple a) σ = .ok (.d (aO xs),.deep):=(dJ ha).trans (xw xs)
theorem xl (ha:ev C a σ = .ok (.d (aa xs),m)) (h:xs.length<64):ev C (.bi1 .sorted a) σ = .ok (.d (aa (ew xs)),.deep):=(dJ ha).trans (m8 xs h)
theorem yL (h:r.Pairwise (· < ·)):ew r=r:=wF (.refl _) (h.imp λh=>QL h)
theorem jt (ha:ev C a σ = .ok (.d (aa xs),m)) (h:xs.length<128) (h0:∀ i∈xs,0<=i):ev C (.bi1 .sorted a) σ = .ok (.d (aa (ew xs)),.deep):=(dJ ha).trans (lV xs h h0)
theorem t9 (ha:ev C a σ = .ok (.d (aa xs),m)) (h:xs.length<128) (h0:∀ i∈xs,0<=i) (hu:xs.Pairwise (· < ·)):ev C (.bi1 .sorted a) σ = .ok (.d (aa xs),.deep):=(dJ ha).trans (rc xs h h0 (yL hu))
theorem fP (ha:ev C a σ = .ok (.d (aa xs),m)) (hb:ev C b σ = .ok (sI i)) (h0:0<=i) (h:xs[i.toNat]? = rg x):ev C (.sub a b) σ = .ok (sI x):=(lC ha hb).trans (vG h0 h)
theorem Dv (ha:ev C a σ = .ok (.d (ah t),m)) (hb:ev C b σ = .ok (sI i)) (h0:0<=i) (h:t[i.toNat]? = rg xs):ev C (.sub a b) σ = .ok (.d (aa xs),.sh):=(lC ha hb).trans (wf h0 h)
theorem gL (ha:ev C a σ = .ok (sB p)) (hb:p=Gt->ev C b σ = .ok (sB q)):ev C (.and a b) σ = .ok (sB (p&&q)):=by
 cases p with
 | true=>exact yO ha (hb rfl)
 | false=>exact wY ha
theorem gZ (ha:ev C a σ = .ok (sB p)) (hb:p=Oz->ev C b σ = .ok (sB q)):ev C (.or a b) σ = .ok (sB (p||q)):=by
 cases p with
 | true=>exact BU ha
 | false=>exact AY ha (hb rfl)
theorem BV (ha:ev C a σ = .ok (sI i)) (hb:ev C b σ = .ok (sI j)) (h1:0<=i) (h2:i<=1000) (h3:0<=j) (h4:j<=1000):bh C (.r2 a b) σ = .ok (((Qe (j-i).toNat).map λ(k:ON)=>i+(k:OF)).map .int,.deep):=by
 simp only[gw,ha,hb,Out.ok_bind]
 show ck i j=_
 unfold ck
 rw[OD (cr (by unfold lim; exact JS h1 h4) (yW h1) (Ax h2) (yW h3) (Ax h4)),l4]
theorem ec {α:Type}{g:α->OU}{l:vk α}{z:Ot}{it:It}{q:Mode}(f:α->vk OF) (mm:Mode) (h:bh C it σ = .ok (l.map g,q)) (hc:∀ i∈l,ev C a (upd σ z (mk (.d (g i)))) = .ok (.d (aa (f i)),mm)) :
  ∃ m,ev C (.comp a z it) σ = .ok (.d (ah (l.map f)),m)/\(mm = .deep->m = .deep)/\m≠.sh:=by
 obtain ⟨b,j,o⟩:=iM (F:=λy=>(ev C a (upd σ z (mk (.d y)))).bind λr=>.ok (rg r)) (e:=g) (f:=f) (p:=λuu=>Gt) (m:=λuu=>mm) (l:=l) λi n=>by rw[hc i n]; rfl
 rw[List.filter_eq_self.mpr (λuu uu=>rfl)] at j
 exact (aD (if b then .deep else .top) (rT h j) (λk=>by rw[o λuu uu=>k]; rfl) (by cases b<;>simp))
theorem jF {α:Type}{g:α->OU}{l:vk α}{z:Ot}{it:It}{r:Mode}(f:α->vk OF) (p:α->Pr) (mm:Mode) (h:bh C it σ = .ok (l.map g,r)) (hp:∀ i∈l,ev C c (upd σ z (mk (.d (g i)))) = .ok (sB (p i)))
  (hc:∀ i∈l,p i=Gt->ev C a (upd σ z (mk (.d (g i)))) = .ok (.d (aa (f i)),mm)):∃ m,ev C (.compif a z it c) σ = .ok (.d (ah ((l.filter p).map f)),m)/\(mm = .deep->m = .deep)/\m≠.sh:=by
 obtain ⟨b,o,n⟩:=iM (F:=λy=>(ev C c (upd σ z (mk (.d y)))).bind λt=>(au t.1).bind λb=>if b then (ev C a (upd σ z (mk (.d y)))).bind λr=>.ok (rg r) else .ok OC) (e:=g) (f:=f) (p:=p) (m:=λuu=>mm) (l:=l) λi j=>by
  rw[hp i j]
  cases hq:p i with
  | true=>simp only[Out.ok_bind,iO,bT,Ri,hc i j hq]
  | false=>simp only[Out.ok_bind,iO,bT,Pn,P2]
 exact (aD (if b then .deep else .top) (mV h o) (λk=>by rw[n λuu uu=>k]; rfl) (by cases b<;>simp))
theorem fR {α:Type}{g:α->OU}{l:vk α}{z:Ot}{it:It}{q:Mode}(f:α->OF) (h:bh C it σ = .ok (l.map g,q)) (hc:∀ i∈l,ev C a (upd σ z (mk (.d (g i)))) = .ok (sI (f i))):ev C (.comp a z it) σ = .ok (.d (aa (l.map f)),.deep):=by
 rw[rT h (r:=((l.map f).map .int,Gt))]
 ·rfl
 ·exact oR (F:=λy=>(ev C a (upd σ z (mk (.d y)))).bind λr=>.ok (rg r)) (e:=g) λi j=>by rw[hc i j]; rfl
theorem jI (h:xs≠[]):∃ i,eh xs=rg i/\i∈xs:=by
 cases xs with
 | nil=>exact OW rfl h
 | cons x xs=>
  refine (ag _ rfl ?_)
  have g:∀ (l:vk OF) (a:OF),l.foldl (λa b=>if a<b then b else a) a=a\/l.foldl (λa b=>if a<b then b else a) a∈l:=by
   intro l
   induction l with
   | nil=>exact λa=>.inl rfl
   | cons y l ih=>
    intro a
    rw[Wx]
    by_cases q:a<y
    ·rw[OD q]
     rcases ih y with e | e
     ·exact .inr (by rw[e]; exact .head _)
     ·exact .inr (.tail _ e)
    ·rw[OB q]
     exact (ih a).imp id λe=>.tail _ e
  rcases g xs x with e | e
  ·rw[e]; exact .head _
  ·exact .tail _ e
theorem Il (ha:ev C a σ = .ok (.d (aa xs),m)) (h:xs≠[]):∃ i,ev C (.bi1 .max a) σ = .ok (sI i)/\i∈xs:=by
 refine af (jI h) λi j g=>?_
 refine (ag i ((dJ ha).trans ?_) g)
 show (am ((aK (xs.map O8)).bind eh) λi=>Out.ok (sI i))=_
 rw[cS,TX,j]; rfl
theorem qD:ev C (.list (.cons (.list .nil) .nil)) σ = .ok (.d (ah [[]]),.deep):=by simp only[bO,bi,a9]; rfl
theorem mw:ev C (.list .nil) σ = .ok (.d (ah []),.deep):=by simp only[bO,bi]; rfl
theorem kn {α:Type}{l:vk α}{Q:α->Pr->Prop}(h:∀ i∈l,∃ b,Q i b):∃ p:α->Pr,∀ i∈l,Q i (p i):=by
 classical
 exact ⟨λi=>if g:i∈l then (h i g).choose else Oz,λi g=>by dsimp only; rw[dif_pos g]; exact (h i g).choose_spec⟩
theorem Has.mk (H:Has σ l) (z:Ot) (v:V):Has (Internal.upd σ z (Internal.mk v)) ((z,v)::l):=H.upd z v (Internal.mk v).2
theorem Runs.app (H:Has σ l) (hz:σ z=rg (.d (aa xs),m)) (hm:m≠.sh) (h:ev C a σ = .ok (sI x)) (hl:xs.length<1000000) (k:∀ σ',Has σ' ((z,.d (aa (xs++[x])))::l)->σ' z=rg (.d (aa (xs++[x])),m)->(∀ y,y≠z->σ' y=σ y)->Runs C bb σ' Post):Runs C (.cons (.append z a) bb) σ Post :=
 Runs.cons (o:=(upd σ z (.d (aa (xs++[x])),m),.next)) (wd hz hm h hl) (k _ (H.upd z _ m) (OD rfl) λy g=>OB g)
theorem Runs.appR (H:Has σ l) (hz:σ z=rg (.d (ah t),m)) (hm:m≠.sh) (h:ev C a σ = .ok (.d (aa xs),.deep)) (hl:t.length<1000000) (k:∀ σ',Has σ' ((z,.d (ah (t++[xs])))::l)->σ' z=rg (.d (ah (t++[xs])),m)->(∀ y,y≠z->σ' y=σ y)->Runs C bb σ' Post):Runs C (.cons (.append z a) bb) σ Post:=by
 refine Runs.cons (o:=(upd σ z (.d (ah (t++[xs])),m),.next)) ?_ (k _ (H.upd z _ m) (OD rfl) λy g=>OB g)
 simp only[fE,h,Out.ok_bind,lA,fq,hz,nu,OB hm]
 rw[jK (by rw[O3,OV]; exact hl)]
 unfold ah; rw[SI]; rfl
theorem mX (f:α->β):∀ (l:vk α) (i:ON),(l.map f).eraseIdx i=(l.eraseIdx i).map f
 | [],_=>rfl
 | _::_,0=>rfl
 | a::l,i+1=>RM (f a :: ·) (mX f l i)
theorem Runs.popR (H:Has σ l) (hz:σ z=rg (.d (ah t),m)) (hm:m≠.sh) (h:ev C a σ = .ok (sI x)) (h0:0<=x) (h1:x<t.length) (k:∀ σ',Has σ' ((z,.d (ah (t.eraseIdx x.toNat)))::l)->σ' z=rg (.d (ah (t.eraseIdx x.toNat)),.top)->Runs C bb σ' Post):Runs C (.cons (.pop z a) bb) σ Post:=by
 refine Runs.cons (o:=(upd σ z (.d (ah (t.eraseIdx x.toNat)),.top),.next)) ?_ (k _ (H.upd z _ .top) (OD rfl))
 simp only[mJ,h,Out.ok_bind,lA,fq,cL,hz,nu,yo]
 rw[OB (by rw[OV]; exact λq=>q.elim hm λq=>by exact Ky h0 h1 q)]
 unfold ah; rw[mX]; rfl
theorem tx {r:OU}{q:vk OU}(h:ev C a σ = .ok (.d (.tuple (r::q)),m)) (hb:ev C b σ = .ok (sI 0)):ev C (.sub a b) σ = .ok (mk (.d r)):=by
 rw[lC h hb]
 show (am ((bI 0 (r::q).length).bind λk=>(r::q)[k]?) λz=>Out.ok (mk (.d z)))=_
 rw[fF (by decide) (by rw[Pz]; exact DM)]; rfl
theorem uc {r r':OU}{q:vk OU}(h:ev C a σ = .ok (.d (.tuple (r::r'::q)),m)) (hb:ev C b σ = .ok (sI 1)):ev C (.sub a b) σ = .ok (mk (.d r')):=by
 rw[lC h hb]
 show (am ((bI 1 (r::r'::q).length).bind λk=>(r::r'::q)[k]?) λz=>Out.ok (mk (.d z)))=_
 rw[fF (by decide) (by rw[Pz,Pz]; exact DZ)]; rfl
theorem Cr (ha:ev C a σ = .ok (sI x)) (hb:ev C b σ = .ok (.d (ah t),m)):∃ m,ev C (.tup (.cons a (.cons b .nil))) σ = .ok (.d (.tuple [.int x,ah t]),m):=by
 refine ⟨if allDeep [sI x,(.d (ah t),m)] then .deep else .sh,?_⟩
 simp only[eS,bi,a9,ha,hb,Out.ok_bind]
 rfl
theorem cT {G:Prop}(ha:ev C a σ = .ok (sI x)) (hb:ev C b σ = .ok (.d (ah t),m)) (k:∀ m,ev C (.tup (.cons a (.cons b .nil))) σ = .ok (.d (.tuple [.int x,ah t]),m)->G):G:=aj (Cr ha hb) k
theorem sw (h:ev C a σ = .ok (v,m)) (hi:g8 v ty = .ok p):ev C (.isi a ty) σ = .ok (sB p):=by simp only[f7,h,Out.ok_bind,hi]
theorem uq {x y z:OU}{m1 m2 m3:Mode}(ha:ev C a σ = .ok (.d x,m1)) (hb:ev C b σ = .ok (.d y,m2)) (hc:ev C c σ = .ok (.d z,m3)):ev C (.tup (.cons a (.cons b (.cons c .nil)))) σ = .ok (.d (.tuple [x,y,z]),if allDeep [(.d x,m1),(.d y,m2),(.d z,m3)] then .deep else .sh):=by
 simp only[eS,bi,a9,ha,hb,hc,Out.ok_bind]; rfl
end
noncomputable def p_exchanged:Fn:=⟨["choice", "out", "thing"],
(.cons (.ret (.bi1 .sorted (.bin .add (.compif (.name "one") "one" (.e (.name "choice")) (.cmp .ne (.name "one") (.name "out"))) (.list (.cons (.name "thing") .nil)))))
.nil)⟩
noncomputable def p_known_of:Fn:=⟨["table"],
(.cons (.assign "known" .edic)
(.cons (.for1 "choice" (.e (.name "table"))
(.cons (.setitem "known" (.bi1 .tuple (.name "choice")))
.nil))
(.cons (.retn "known")
.nil)))⟩
noncomputable def p_goes:Fn:=⟨["known", "one", "other", "thing"],
(.cons (.for1 "out" (.e (.name "one"))
(.cons (.ite (.and (.cmp .notin (.name "out") (.name "other")) (.cmp .isin (.bi1 .tuple (.call "exchanged" (.cons (.name "one") (.cons (.name "out") (.cons (.name "thing") .nil))))) (.name "known")))
(.cons (.ret (.bool Gt))
.nil)
.nil)
.nil))
(.cons (.ret (.bool Oz))
.nil))⟩
noncomputable def p_fault:Fn:=⟨["count", "table"],
(.cons (.assign "known" (.call "known_of" (.cons (.name "table") .nil)))
(.cons (.for1 "one" (.e (.name "table"))
(.cons (.for1 "thing" (.r1 (.name "count"))
(.cons (.ite (.cmp .notin (.name "thing") (.name "one"))
(.cons (.for1 "other" (.e (.name "table"))
(.cons (.ite (.and (.cmp .isin (.name "thing") (.name "other")) (.not (.call "goes" (.cons (.name "known") (.cons (.name "one") (.cons (.name "other") (.cons (.name "thing") .nil)))))))
(.cons (.ret (.tup (.cons (.bi1 .list (.name "one")) (.cons (.bi1 .list (.name "other")) (.cons (.name "thing") .nil)))))
.nil)
.nil)
.nil))
.nil)
.nil)
.nil))
.nil))
(.cons (.ret .none)
.nil)))⟩
noncomputable def l_cell_at:Fn:=⟨["_law_script", "_law_k"],
(.cons (.ite (.cmp .lt (.name "_law_k") (.bi1 .len (.name "_law_script")))
(.cons (.ret (.sub (.name "_law_script") (.name "_law_k")))
.nil)
.nil)
(.cons (.ite (.cmp .eq (.name "_law_script") (.list .nil))
(.cons (.ret (.int 0))
.nil)
.nil)
(.cons (.ret (.bin .add (.bin .mul (.sub (.name "_law_script") (.bin .mod (.name "_law_k") (.bi1 .len (.name "_law_script")))) (.int 7)) (.name "_law_k")))
.nil)))⟩
noncomputable def l_whole:Fn:=⟨["_law_found"],
(.cons (.ret (.and (.isi (.name "_law_found") "int") (.not (.isi (.name "_law_found") "bool"))))
.nil)⟩
noncomputable def l_subsets:Fn:=⟨["_law_count"],
(.cons (.assign "_law_rows" (.list (.cons (.list .nil) .nil)))
(.cons (.for1 "_law_thing" (.r1 (.name "_law_count"))
(.cons (.assign "_law_rows" (.bin .add (.name "_law_rows") (.comp (.bin .add (.name "_law_row") (.list (.cons (.name "_law_thing") .nil))) "_law_row" (.e (.name "_law_rows")))))
.nil))
(.cons (.retn "_law_rows")
.nil)))⟩
noncomputable def l_apart:Fn:=⟨["_law_vectors", "_law_row"],
(.cons (.assign "_law_sums" (.list (.cons (.int 0) .nil)))
(.cons (.for1 "_law_thing" (.e (.name "_law_row"))
(.cons (.ite (.cmp .isin (.sub (.name "_law_vectors") (.name "_law_thing")) (.name "_law_sums"))
(.cons (.ret (.bool Oz))
.nil)
.nil)
(.cons (.assign "_law_sums" (.bin .add (.name "_law_sums") (.comp (.bin .xor (.name "_law_one") (.sub (.name "_law_vectors") (.name "_law_thing"))) "_law_one" (.e (.name "_law_sums")))))
.nil)))
(.cons (.ret (.bool Gt))
.nil)))⟩
noncomputable def l_parts:Fn:=⟨["_law_script", "_law_kind", "_law_count", "_law_more"],
(.cons (.assign "_law_rows" (.call "_law_subsets" (.cons (.name "_law_count") .nil)))
(.cons (.ite (.cmp .eq (.name "_law_kind") (.int 0))
(.cons (.ret (.tup (.cons (.name "_law_count") (.cons (.comp (.sub (.name "_law_rows") (.bin .mod (.call "_law_cell_at" (.cons (.name "_law_script") (.cons (.bin .add (.int 6) (.name "_law_k")) .nil))) (.bi1 .len (.name "_law_rows")))) "_law_k" (.r1 (.bin .mod (.name "_law_more") (.int 6)))) .nil))))
.nil)
.nil)
(.cons (.ite (.cmp .eq (.bin .mod (.name "_law_more") (.int 9)) (.int 8))
(.cons (.assign "_law_count" (.bin .add (.int 7) (.bin .mod (.bin .fdiv (.name "_law_more") (.int 9)) (.int 3))))
(.cons (.assign "_law_rows" (.list .nil))
(.cons (.for1 "_law_one" (.r1 (.name "_law_count"))
(.cons (.assign "_law_rows" (.bin .add (.name "_law_rows") (.comp (.list (.cons (.name "_law_one") (.cons (.name "_law_thing") .nil))) "_law_thing" (.r2 (.bin .add (.name "_law_one") (.int 1)) (.name "_law_count")))))
.nil))
(.cons (.ret (.tup (.cons (.name "_law_count") (.cons (.name "_law_rows") .nil))))
.nil))))
.nil)
(.cons (.ret (.tup (.cons (.name "_law_count") (.cons (.compif (.name "_law_row") "_law_row" (.e (.name "_law_rows")) (.cmp .eq (.bi1 .len (.name "_law_row")) (.bin .mod (.name "_law_more") (.bin .add (.name "_law_count") (.int 1))))) .nil))))
.nil))))⟩
noncomputable def l_few:Fn:=⟨["_law_script"],
(.cons (.assign "_law_kind" (.bin .mod (.call "_law_cell_at" (.cons (.name "_law_script") (.cons (.int 0) .nil))) (.int 9)))
(.cons (.assign "_law_count" (.sub (.list (.cons (.int 6) (.cons (.int 5) (.cons (.int 4) (.cons (.int 3) (.cons (.int 6) (.cons (.int 1) (.cons (.int 0) .nil)))))))) (.bin .mod (.bin .fdiv (.call "_law_cell_at" (.cons (.name "_law_script") (.cons (.int 0) .nil))) (.int 9)) (.int 7))))
(.cons (.assign "_law_more" (.call "_law_cell_at" (.cons (.name "_law_script") (.cons (.int 1) .nil))))
(.cons (.ite (.cmp .eq (.name "_law_kind") (.int 7))
(.cons (.assign "_law_many" (.bin .add (.int 1) (.bin .mod (.name "_law_more") (.int 4))))
(.cons (.ite (.cmp .gt (.bi1 .len (.name "_law_script")) (.int 63))
(.cons (.assign "_law_many" (.bin .add (.int 1) (.bin .mod (.name "_law_more") (.int 5))))
.nil)
.nil)
(.cons (.ret (.tup (.cons (.bin .mul (.int 2) (.name "_law_many")) (.cons (.call "_law_pairs_by" (.cons (.name "_law_many") .nil)) .nil))))
.nil)))
.nil)
(.cons (.ite (.cmp .lt (.name "_law_kind") (.int 2))
(.cons (.ret (.call "_law_parts" (.cons (.name "_law_script") (.cons (.name "_law_kind") (.cons (.name "_law_count") (.cons (.name "_law_more") .nil))))))
.nil)
.nil)
(.cons (.assign "_law_count" (.sub (.list (.cons (.int 6) (.cons (.int 5) (.cons (.int 4) (.cons (.int 3) (.cons (.int 7) (.cons (.int 7) (.cons (.int 2) .nil)))))))) (.bin .mod (.bin .fdiv (.call "_law_cell_at" (.cons (.name "_law_script") (.cons (.int 0) .nil))) (.int 9)) (.int 7))))
(.cons (.assign "_law_rows" (.list (.cons (.list .nil) .nil)))
(.cons (.for1 "_law_thing" (.r1 (.name "_law_count"))
(.cons (.assign "_law_rows" (.bin .add (.name "_law_rows") (.compif (.bin .add (.name "_law_row") (.list (.cons (.name "_law_thing") .nil))) "_law_row" (.e (.name "_law_rows")) (.cmp .lt (.bi1 .len (.name "_law_row")) (.int 3)))))
.nil))
(.cons (.assign "_law_vectors" (.comp (.bin .mod (.call "_law_cell_at" (.cons (.name "_law_script") (.cons (.bin .add (.int 6) (.name "_law_thing")) .nil))) (.int 8)) "_law_thing" (.r1 (.name "_law_count"))))
(.cons (.assign "_law_good" (.compif (.name "_law_row") "_law_row" (.e (.name "_law_rows")) (.call "_law_apart" (.cons (.name "_law_vectors") (.cons (.name "_law_row") .nil)))))
(.cons (.assign "_law_most" (.bi1 .max (.comp (.bi1 .len (.name "_law_row")) "_law_row" (.e (.name "_law_good")))))
(.cons (.assign "_law_table_here" (.compif (.name "_law_row") "_law_row" (.e (.name "_law_good")) (.cmp .eq (.bi1 .len (.name "_law_row")) (.name "_law_most"))))
(.cons (.ite (.cmp .eq (.name "_law_kind") (.int 3))
(.cons (.pop "_law_table_here" (.bin .mod (.name "_law_more") (.bi1 .len (.name "_law_table_here"))))
.nil)
.nil)
(.cons (.ret (.tup (.cons (.name "_law_count") (.cons (.name "_law_table_here") .nil))))
.nil))))))))))))))⟩
noncomputable def l_pairs_by:Fn:=⟨["_law_many"],
(.cons (.assign "_law_rows" (.list (.cons (.list .nil) .nil)))
(.cons (.for1 "_law_k" (.r1 (.name "_law_many"))
(.cons (.assign "_law_rows" (.bin .add (.comp (.bin .add (.name "_law_row") (.list (.cons (.bin .mul (.int 2) (.name "_law_k")) .nil))) "_law_row" (.e (.name "_law_rows"))) (.comp (.bin .add (.name "_law_row") (.list (.cons (.bin .add (.bin .mul (.int 2) (.name "_law_k")) (.int 1)) .nil))) "_law_row" (.e (.name "_law_rows")))))
.nil))
(.cons (.retn "_law_rows")
.nil)))⟩
noncomputable def l_table:Fn:=⟨["_law_script"],
(.cons (.assign "_law_kind" (.bin .mod (.call "_law_cell_at" (.cons (.name "_law_script") (.cons (.int 0) .nil))) (.int 9)))
(.cons (.assign "_law_more" (.call "_law_cell_at" (.cons (.name "_law_script") (.cons (.int 1) .nil))))
(.cons (.ite (.cmp .eq (.name "_law_kind") (.int 4))
(.cons (.assign "_law_count" (.bin .add (.int 7) (.bin .mod (.name "_law_more") (.int 12))))
(.cons (.assign "_law_step" (.bin .add (.int 1) (.bin .mod (.bin .fdiv (.name "_law_more") (.int 12)) (.int 4))))
(.cons (.ret (.tup (.cons (.name "_law_count") (.cons (.compif (.list (.cons (.name "_law_thing") .nil)) "_law_thing" (.r1 (.name "_law_count")) (.cmp .eq (.bin .mod (.name "_law_thing") (.name "_law_step")) (.int 0))) .nil))))
.nil)))
.nil)
(.cons (.ite (.cmp .eq (.name "_law_kind") (.int 5))
(.cons (.assign "_law_count" (.bin .add (.int 7) (.bin .mod (.name "_law_more") (.int 6))))
(.cons (.ret (.tup (.cons (.name "_law_count") (.cons (.comp (.compif (.name "_law_thing") "_law_thing" (.r1 (.name "_law_count")) (.cmp .ne (.name "_law_thing") (.name "_law_gone"))) "_law_gone" (.r1 (.name "_law_count"))) .nil))))
.nil))
.nil)
(.cons (.assign "_law_made" (.call "_law_few" (.cons (.name "_law_script") .nil)))
(.cons (.assign "_law_far" (.call "_law_cell_at" (.cons (.name "_law_script") (.cons (.int 12) .nil))))
(.cons (.ite (.or (.cmp .ne (.bin .mod (.name "_law_far") (.int 3)) (.int 1)) (.or (.cmp .gt (.bi1 .len (.sub (.name "_law_made") (.int 1))) (.int 8)) (.cmp .gt (.sub (.name "_law_made") (.int 0)) (.int 9))))
(.cons (.retn "_law_made")
.nil)
.nil)
(.cons (.assign "_law_step" (.bin .add (.int 1) (.bin .mod (.bin .fdiv (.name "_law_far") (.int 3)) (.int 9))))
(.cons (.assign "_law_first" (.bin .mod (.bin .fdiv (.name "_law_far") (.int 27)) (.int 9)))
(.cons (.assign "_law_table_here" (.list .nil))
(.cons (.for1 "_law_choice" (.e (.sub (.name "_law_made") (.int 1)))
(.cons (.append "_law_table_here" (.comp (.bin .add (.name "_law_first") (.bin .mul (.name "_law_step") (.name "_law_thing"))) "_law_thing" (.e (.name "_law_choice"))))
.nil))
(.cons (.ret (.tup (.cons (.bin .add (.name "_law_first") (.bin .mul (.name "_law_step") (.sub (.name "_law_made") (.int 0)))) (.cons (.name "_law_table_here") .nil))))
.nil))))))))))))⟩
noncomputable def l_can:Fn:=⟨["_law_table_here", "_law_one", "_law_other", "_law_thing"],
(.cons (.for1 "_law_out" (.e (.name "_law_one"))
(.cons (.assign "_law_made" (.bi1 .sorted (.bin .add (.compif (.name "_law_left") "_law_left" (.e (.name "_law_one")) (.cmp .ne (.name "_law_left") (.name "_law_out"))) (.list (.cons (.name "_law_thing") .nil)))))
(.cons (.ite (.and (.cmp .notin (.name "_law_out") (.name "_law_other")) (.cmp .isin (.name "_law_made") (.name "_law_table_here")))
(.cons (.ret (.bool Gt))
.nil)
.nil)
.nil)))
(.cons (.ret (.bool Oz))
.nil))⟩
noncomputable def l_fault:Fn:=⟨["_law_count", "_law_table_here"],
(.cons (.for1 "_law_one" (.e (.name "_law_table_here"))
(.cons (.for1 "_law_thing" (.r1 (.name "_law_count"))
(.cons (.ite (.cmp .notin (.name "_law_thing") (.name "_law_one"))
(.cons (.for1 "_law_other" (.e (.name "_law_table_here"))
(.cons (.ite (.and (.cmp .isin (.name "_law_thing") (.name "_law_other")) (.not (.call "_law_can" (.cons (.name "_law_table_here") (.cons (.name "_law_one") (.cons (.name "_law_other") (.cons (.name "_law_thing") .nil)))))))
(.cons (.ret (.tup (.cons (.name "_law_one") (.cons (.name "_law_other") (.cons (.name "_law_thing") .nil)))))
.nil)
.nil)
.nil))
.nil)
.nil)
.nil))
.nil))
(.cons (.ret .none)
.nil))⟩
structure Lib (L:vk (Ot×Fn)):Prop where
 cell:L.lookup "_law_cell_at" = rg l_cell_at
 whole:L.lookup "_law_whole" = rg l_whole
 subs:L.lookup "_law_subsets" = rg l_subsets
 apart:L.lookup "_law_apart" = rg l_apart
 parts:L.lookup "_law_parts" = rg l_parts
 few:L.lookup "_law_few" = rg l_few
 pairs:L.lookup "_law_pairs_by" = rg l_pairs_by
 table:L.lookup "_law_table" = rg l_table
 can:L.lookup "_law_can" = rg l_can
 lfault:L.lookup "_law_fault" = rg l_fault
 exch:L.lookup "exchanged" = rg p_exchanged
 known:L.lookup "known_of" = rg p_known_of
 goes:L.lookup "goes" = rg p_goes
 fault:L.lookup "fault" = rg p_fault
noncomputable def bt (s:vk OF) (k:OF):Int:=if k<s.length then s[k.toNat]?.getD 0 else if s=[] then 0 else s[(k%s.length).toNat]?.getD 0*7+k
theorem getD_some {s:vk OF}{i:ON}(h:i<s.length):s[i]? = rg (s[i]?.getD 0):=by rw[OY h]; rfl
theorem pX (C:Calls) (s:vk OF) (k:OF) (hk:0<=k):aA C l_cell_at [.d (aa s),.d (.int k)] = .ok (sI (bt s k)):=by
 unfold l_cell_at
 refine bX rfl λm H=>?_
 have i:=uj (C:=C) (H.ev (x:="_law_k") rfl) (cG (H.ev (x:="_law_script") rfl))
 unfold bt
 by_cases h1:k<s.length
 ·rw[OD h1]
  refine Runs.ite (i.trans (by rw[PK h1])) (λuu=>Runs.ret (fP (H.ev rfl) (H.ev rfl) hk (getD_some (la1 hk h1))) rfl) λq=>by cases q
 ·rw[OB h1]
  refine Runs.no (i.trans (by rw[P0 h1])) ?_
  have h:=zw (C:=C) (H.ev (x:="_law_script") rfl) lK
  by_cases h2:s=[]
  ·rw[OD h2]
   exact Runs.ite (h.trans (by rw[PK h2])) (λuu=>Runs.ret (ao 0) rfl) λq=>by cases q
  ·rw[OB h2]
   refine Runs.no (h.trans (by rw[P0 h2])) ?_
   have g:0<s.length:=SX.mpr h2
   have l:0<=k%s.length:=PS _ (la2 g)
   have j:k%s.length<s.length:=Qg _ (la3 g)
   refine Runs.ret (cN ((dG (fP (H.ev rfl) (aY (H.ev rfl) (cG (H.ev rfl)) (la3 g)) l (getD_some (la4 g j))) (ao 7)).trans (uI _ 7 (by decide))) (H.ev rfl)) rfl
theorem tw (C:Calls) (i:OF):aA C l_whole [.d (.int i)] = .ok (sB Gt):=by
 unfold l_whole
 refine bX rfl λg H=>Runs.ret (gL (p:=Gt) (q:=Gt) ?_ λuu=>?_) rfl
 ·exact sw (H.ev rfl) rfl
 ·exact fy (t:=Oz) (sw (H.ev rfl) rfl)
def Srt (c:OF) (r:vk OF):Prop:=r.Pairwise (· < ·)/\∀ x∈r,0<=x/\x<c
theorem Srt.snoc (h:Srt c r) (h0:0<=c) (hx:c<=x):Srt (x+1) (r++[x]):=by
 refine ⟨Qh.mpr ⟨h.1,Vf _ _,λa ha b g=>?_⟩,λa ha=>?_⟩
 ·rw[OK.mp g]; have:=h.2 a ha; exact la5 hx this
 ·rcases O7.mp ha with ha | ha
  ·have:=h.2 a ha; exact la6 hx this
  ·rw[OK.mp ha]; exact la7 h0 hx
theorem Srt.mono (h:Srt c r) (hd:c<=d):Srt d r:=⟨h.1,λx g=>by have:=h.2 x g; exact la8 hd this⟩
theorem Srt.nil (c:OF):Srt c []:=⟨.nil,λuu h=>by cases h⟩
theorem ya (h:aQ c=pre++y::post):y=pre.length/\pre.length<c:=by
 have j:=RM List.length h
 rw[br,O3,Pz] at j
 have g:(aQ c)[pre.length]? = rg y:=by rw[h,UH (Pe _),VT]; rfl
 have i:pre.length<c:=by exact la9 j
 unfold aQ at g
 rw[PO,Un i] at g
 exact ⟨(vj g).symm,i⟩
theorem ls {c:ON}{pre post:vk OF}{y:OF}{G:Prop}(h:aQ c=pre++y::post) (k:y=pre.length->pre.length<c->G):G:=ae (ya h) k
def qh (k n:ON) (c:OF) (t:vk (vk OF)):Prop:=t≠[]/\t.length<=n/\∀ r∈t,r.length<=k/\Srt c r
noncomputable def subs:ON->vk (vk OF)
 | 0=>[[]]
 | k+1=>subs k++(subs k).map λr=>r++[(k:OF)]
noncomputable def mf:ON->vk (vk OF)
 | 0=>[[]]
 | k+1=>mf k++((mf k).filter λr=>decide ((r.length:OF)<3)).map λr=>r++[(k:OF)]
theorem xI:∀ c≤6,∀ r∈subs c,((subs c).filter λr'=>decide ((r'.length:OF)=r.length)).length<=63:=by decide +kernel
theorem uX:∀ c≤7,∀ r∈mf c,((mf c).filter λr'=>decide ((r'.length:OF)=r.length)).length<=63:=by decide +kernel
theorem pW {t:vk (vk OF)}(h:∀ r∈t,(t.filter λr'=>decide ((r'.length:OF)=r.length)).length<=63) (k:OF):(t.filter λr=>decide ((r.length:OF)=k)).length<=63:=by
 cases e:t.filter λr=>decide ((r.length:OF)=k) with
 | nil=>exact PZ _
 | cons r u=>
  obtain ⟨i,g⟩:=Qs.mp (show r∈t.filter λr=>decide ((r.length:OF)=k) by rw[e]; exact .head _)
  have:=h r i
  rw[Pp g,e] at this
  exact this
theorem pO (C:Calls) (c:ON) (hc:c<=7):∃ r,aA C l_subsets [.d (.int c)] = .ok r/\∃ t,r.1 = .d (ah t)/\t=subs c/\[]∈t/\qh c 128 c t:=by
 unfold l_subsets
 refine dF rfl λl H=>?_
 refine Runs.set H qD λl H _=>?_
 refine Runs.for (g:=O8) (xs:=aQ c) (λi l=>∃ t,Has l [("_law_rows", .d (ah t)),("_law_count", .d (.int c))]/\t=subs i.length/\[]∈t/\qh i.length (2^i.length) i.length t) (bQ (H.ev rfl) (LA hc)) (λσ0 h _=>(jO ([[]]) ((h _ H).sub ⟨rfl,rfl,trivial⟩) rfl (.head _) (by simp) (by simp) (λr hr=>?_))) ?_ ?_
 ·cases OK.mp hr; exact ⟨Pe _,.nil _⟩
 ·intro i y post hl l o
  refine iP (o) λt H p h0 g1 u k=>?_
  clear o
  refine ls hl λhy hp=>?_
  have j:2^i.length<=2^6:=Ro (by decide) (Cz hc hp)
  have H1:=H.mk "_law_thing" (.d (.int y))
  obtain ⟨m1,e1,_⟩:=ec (λr=>r++[y]) .deep (aJ (H1.ev (C:=C) (x:="_law_rows") rfl) (aX t .sh)) (a:=.bin .add (.name "_law_row") (.list (.cons (.name "_law_thing") .nil))) (z:="_law_row") (λr hr=>by
   have H2:=H1.mk "_law_row" (.d (aa r))
   exact dH (H2.ev rfl) (ei (H2.ev rfl)) (by have:=(k r hr).1; rw[O6]; exact Ml hc hp this))
  obtain ⟨m2,e2⟩:=lZ (H1.ev (C:=C) (x:="_law_rows") rfl) e1 (by rw[OV]; exact LP u j)
  refine Runs.set H1 e2 λl H _=>Runs.nil (jO _ (H.sub ⟨rfl,rfl,trivial⟩) (by rw[p,hy,O3,O6]; rfl) (PC _ h0) ?_ ?_ (λr hr=>?_))
  ·exact λq=>g1 (TL.mp q).1
  ·rw[O3,O3,OV,O6,VA]; exact Cs u
  ·rw[O3,O6]
   rcases O7.mp hr with hr | hr
   ·obtain ⟨q1,v⟩:=k r hr; exact ⟨by exact Qu ‹_›,v.mono C4⟩
   ·refine aI hr λr' hr' MR=>?_
    (clear hr; subst MR)
    refine ae (k r' hr') λq1 v=>?_
    rw[O3,O6]
    exact ⟨by exact Rk ‹_›,(v.snoc (Pv _) (x:=y) (CU hy)).mono (CA hy)⟩
 ·intro σ' n
  refine iP (n) λt H p h0 g1 u k=>?_
  clear n
  refine aj (H "_law_rows" _ rfl) λm e=>?_
  rw[br] at p u k
  have j:2^c<=2^7:=Ro (by decide) ‹_›
  exact Runs.retn e (ag _ rfl (jO t rfl p h0 g1 (by exact Lt ‹_› ‹_›) k))
section
theorem cj (lib:Lib L) (ha:ev (mkC L (n+1)) a σ = .ok (.d (aa s),m)) (hb:ev (mkC L (n+1)) b σ = .ok (sI k)) (hk:0<=k):ev (mkC L (n+1)) (.call "_law_cell_at" (.cons a (.cons b .nil))) σ = .ok (sI (bt s k)) :=
 bY lib.cell (ak ha (ak hb aC)) rfl (pX _ s k hk)
end
theorem ud (C:Calls) (vec row:vk OF) (h:∀ i∈row,0<=i/\i<vec.length) (hl:row.length<=7):∃ r,aA C l_apart [.d (aa vec),.d (aa row)] = .ok r/\∃ b,r=sB b/\(row=[]->b=Gt):=by
 unfold l_apart
 refine dF rfl λk H=>?_
 refine Runs.set H (ei (ao 0)) λk H _=>?_
 refine Runs.for (g:=O8) (xs:=row) (λj k=>∃ m:vk OF,Has k [("_law_sums", .d (aa m)),("_law_vectors", .d (aa vec))]/\m.length=2^j.length) (aJ (H.ev rfl) (bz row .sh)) (λσ0 h _=>(ag ([0]) ((h _ H).sub ⟨rfl,rfl,trivial⟩) rfl)) ?_ ?_
 ·intro j y z u k o
  refine af (o) λm H v=>?_
  clear o
  have hp:j.length<row.length:=by rw[u,O3,Pz]; exact yg
  have p:2^j.length<=2^6:=Ro (by decide) (Cz hl hp)
  obtain ⟨x,y1⟩:=h y (by rw[u]; exact PA _ (.head _))
  have H1:=H.mk "_law_thing" (.d (.int y))
  have t:∀ {k:St}{l:vk (Ot×V)},Has k l->l.lookup "_law_vectors" = rg (.d (aa vec))->l.lookup "_law_thing" = rg (.d (.int y))->ev C (.sub (.name "_law_vectors") (.name "_law_thing")) k = .ok (sI (vec[y.toNat]?.getD 0)):=λH a b=>fP (H.ev a) (H.ev b) x (getD_some (la1 x y1))
  refine Runs.ite (t8 (t H1 rfl rfl) (H1.ev rfl)) (λuu=>Runs.ret (c7 Oz) (ag _ rfl (ag Oz rfl (λq=>?_)))) λuu=>Runs.nil ?_
  ·rw[q] at u; exact OW u (by simp)
  refine Runs.set H1 (dH (H1.ev rfl) (fR (g:=O8) (λi=>UA i (vec[y.toNat]?.getD 0)) (aJ (H1.ev rfl) (bz m .sh)) λi _=>?_) ?_) λk H _=>Runs.nil (ag _ (H.sub ⟨rfl,rfl,trivial⟩) ?_)
  ·have H2:=H1.mk "_law_one" (.d (.int i))
   exact FW (H2.ev rfl) (t H2 rfl rfl)
  ·rw[OV]; exact K6 v p
  ·rw[O3,O3,OV,O6,VA]; exact KV v
 ·intro σ' n
  refine af (n) λm H v=>?_
  clear n
  exact Runs.ret (c7 Gt) (ag _ rfl (ag Gt rfl (λuu=>rfl)))
def Tb (c:OF) (t:vk (vk OF)):Prop:=0<=c/\c<=100/\t.length<=63/\∀ r∈t,r.length<=12/\Srt c r
def tS (r:V×Mode):Prop:=∃ c t,r.1 = .d (.tuple [.int c,ah t])/\Tb c t
theorem sY (C:Calls) (c:ON) (hc:c<=5):∃ r,aA C l_pairs_by [.d (.int c)] = .ok r/\∃ t,r.1 = .d (ah t)/\qh c 32 (2*c) t:=by
 unfold l_pairs_by
 refine dF rfl λn H=>?_
 refine Runs.set H qD λn H _=>?_
 refine Runs.for (g:=O8) (xs:=aQ c) (λi n=>∃ t,Has n [("_law_rows", .d (ah t)),("_law_many", .d (.int c))]/\qh i.length (2^i.length) (2*i.length) t) (bQ (H.ev rfl) (Lb hc)) (λσ0 h _=>(bp ([[]]) ((h _ H).sub ⟨rfl,rfl,trivial⟩) (by simp) (by simp) (λr hr=>?_))) ?_ ?_
 ·cases OK.mp hr; exact ⟨Pe _,.nil _⟩
 ·intro i y post hl n p
  refine bD (p) λt H g1 v l=>?_
  clear p
  refine ls hl λu hp=>?_
  have j:2^i.length<=2^5:=Ro (by decide) (Ll hc hp)
  have H1:=H.mk "_law_k" (.d (.int y))
  obtain ⟨m1,e1,_⟩:=ec (λr=>r++[2*y]) .deep (aJ (H1.ev (C:=C) (x:="_law_rows") rfl) (aX t .sh)) (a:=.bin .add (.name "_law_row") (.list (.cons (.bin .mul (.int 2) (.name "_law_k")) .nil))) (z:="_law_row") (λr hr=>by
   have H2:=H1.mk "_law_row" (.d (aa r))
   exact dH (H2.ev rfl) (ei (lJ (ao 2) (H2.ev rfl) (by decide))) (by have:=(l r hr).1; rw[O6]; exact Co hc hp this))
  obtain ⟨m2,e2,_⟩:=ec (λr=>r++[2*y+1]) .deep (aJ (H1.ev (C:=C) (x:="_law_rows") rfl) (aX t .sh)) (a:=.bin .add (.name "_law_row") (.list (.cons (.bin .add (.bin .mul (.int 2) (.name "_law_k")) (.int 1)) .nil))) (z:="_law_row") (λr hr=>by
   have H2:=H1.mk "_law_row" (.d (aa r))
   exact dH (H2.ev rfl) (ei (cN (lJ (ao 2) (H2.ev rfl) (by decide)) (ao 1))) (by have:=(l r hr).1; rw[O6]; exact Co hc hp this))
  obtain ⟨m3,e3⟩:=lZ e1 e2 (by rw[OV,OV]; exact L1 v j)
  refine Runs.set H1 e3 λn H _=>Runs.nil (bp _ (H.sub ⟨rfl,rfl,trivial⟩) ?_ ?_ (λr hr=>?_))
  ·exact λq=>g1 (Wk.mp (TL.mp q).1)
  ·rw[O3,O3,OV,OV,O6,VA]; exact Cs v
  ·rw[O3,O6]
   rcases O7.mp hr with hr | hr
   ·refine aI hr λr' k M0=>?_
    (clear hr; subst M0)
    refine ae (l r' k) λq1 q2=>?_
    rw[O3,O6]
    exact ⟨by exact Rk ‹_›,(q2.snoc (Pv _) (x:=2*y) (KY u)).mono (Ld u)⟩
   ·refine aI hr λr' k MS=>?_
    (clear hr; subst MS)
    refine ae (l r' k) λq1 q2=>?_
    rw[O3,O6]
    exact ⟨by exact Rk ‹_›,(q2.snoc (Pv _) (x:=2*y+1) (Me u)).mono (K9 u)⟩
 ·intro σ' o
  refine bD (o) λt H g1 v l=>?_
  clear o
  refine aj (H "_law_rows" _ rfl) λm e=>?_
  rw[br] at v l
  have j:2^c<=2^5:=Ro (by decide) ‹_›
  exact Runs.retn e (ag _ rfl (bp t rfl g1 (by exact Lt ‹_› ‹_›) l))
theorem ey {L:vk (Ot×Fn)}{n:ON}{σ:St}{f:Ot}{fn:Fn}{es:Es}{q:vk (V×Mode)}{vs:vk V}{P:V×Mode->Prop}(hL:L.lookup f=rg fn) (he:evs (mkC L (n+1)) es σ = .ok q) (hv:q.map (·.1)=vs) (h:∃ r,aA (mkC L n) fn vs = .ok r/\P r) (hp:iw f=true:=by decide):∃ r,ev (mkC L (n+1)) (.call f es) σ = .ok r/\P r:=by
 refine af (h) λr i g=>?_
 clear h
 exact (ag r (bY hL he hv i hp) g)
noncomputable def tri (k:ON):Nat:=((Qe k).map λi=>8-i).sum
theorem vJ:∀ k≤9,tri k<=36:=by decide
theorem wZ (k:ON):tri (k+1)=tri k+(8-k):=by unfold tri; rw[List.range_succ,SI,List.sum_append]; rfl
theorem tz (lib:Lib L) (n:ON) (s:vk OF) (kind more:OF) (c:ON) (hc:c<=6):∃ r,aA (mkC L (n+1)) l_parts [.d (aa s),.d (.int kind),.d (.int c),.d (.int more)] = .ok r/\tS r:=by
 unfold l_parts
 refine dF rfl λσ H=>?_
 obtain ⟨MT,e1,t,ht,hsub,h0,g1,g2,g3⟩:=ey (σ:=σ) (n:=n) lib.subs (es:=.cons (.name "_law_count") .nil) (ak (H.ev rfl) aC) rfl (pO _ c (by exact Qu ‹_›))
 obtain ⟨rv,rm⟩:=MT
 cases ht
 refine Runs.set H e1 λσ H _=>?_
 have m6:=PS more (show (6:OF)≠0 by decide)
 have m6':=Qg more (show (0:OF)<6 by decide)
 have j:0<t.length:=SX.mpr g1
 refine Runs.ite (c8 (H.ev rfl) (ao 0)) (λuu=>?_) λuu=>Runs.nil ?_
 ·obtain ⟨k,hk⟩:∃ k:ON,more%6=k:=⟨(more%6).toNat,by exact LM⟩
  have idx:∀ i:OF,∃ r,t[(bt s (6+i)%t.length).toNat]? = rg r:=λi=>⟨_,OY (by have:=Qg (bt s (6+i)) (show (0:OF)<t.length by exact la3 j); have:=PS (bt s (6+i)) (show (t.length:OF)≠0 by exact la2 j); exact la4 j ‹_›)⟩
  obtain ⟨m1,e2,_⟩:=ec (C:=mkC L (n+1)) (σ:=σ) (g:=O8) (l:=aQ k) (z:="_law_k") (it:=.r1 (.bin .mod (.name "_law_more") (.int 6))) (a:=.sub (.name "_law_rows") (.bin .mod (.call "_law_cell_at" (.cons (.name "_law_script") (.cons (.bin .add (.int 6) (.name "_law_k")) .nil))) (.bi1 .len (.name "_law_rows")))) (λi=>(t[(bt s (6+i)%t.length).toNat]?).getD []) .sh (bQ (n:=k) (m:=.deep) ((aY (H.ev rfl) (ao 6) (by decide)).trans (by rw[hk]; rfl)) (LQ hk)) (λi hi=>by
   have H2:=H.mk "_law_k" (.d (.int i))
   have:=mem_upTo.mp hi
   refine aj (idx i) λr hr=>?_
   rw[hr]
   exact Dv (H2.ev rfl) (aY (cj lib (H2.ev rfl) (cN (ao 6) (H2.ev rfl)) (CF this)) (lR (H2.ev rfl)) (la3 j)) (PS _ (la2 j)) hr)
  refine cT (H.ev (x:="_law_count") rfl) e2 λm2 e3=>?_
  refine Runs.ret e3 (ag _ rfl (bC c _ rfl (Pv _) (Ci hc) (by rw[OV,br]; exact L9 hk) (λr hr=>?_)))
  refine aI hr λi _ MX=>?_
  (clear hr; subst MX)
  refine aj (idx i) λr hr=>?_
  rw[hr]
  refine ae (g3 r (QC hr)) λo q2=>?_
  exact ⟨by show r.length<=12; exact CB hc o,q2⟩
 ·refine Runs.ite (c8 (aY (H.ev rfl) (ao 9) (by decide)) (ao 8)) (λuu=>?_) λuu=>Runs.nil ?_
  ·have a1:=PS (more/9) (show (3:OF)≠0 by decide)
   have a2:=Qg (more/9) (show (0:OF)<3 by decide)
   obtain ⟨d,p⟩:∃ d:ON,7+more/9%3=d:=⟨(7+more/9%3).toNat,by exact LR⟩
   refine Runs.set H (cN (ao 7) (aY (fM (H.ev rfl) (ao 9) (by decide) (by decide)) (ao 3) (by decide))) λσ H _=>?_
   rw[p] at H
   refine Runs.set H mw λσ H _=>?_
   refine Runs.for (g:=O8) (xs:=aQ d) (λpre σ=>∃ t,Has σ [("_law_rows", .d (ah t)),("_law_count", .d (.int d))]/\t.length<=tri pre.length/\∀ r∈t,r.length<=12/\Srt d r) (bQ (H.ev rfl) (Lc p)) (λσ0 h _=>(aD ([]) ((h _ H).sub ⟨rfl,rfl,trivial⟩) (by simp) (λuu q=>by cases q))) ?_ ?_
   ·intro pre y post hl σ v
    refine aq (v) λt H o q2=>?_
    clear v
    refine ls hl λhy hp=>?_
    have H1:=H.mk "_law_one" (.d (.int y))
    obtain ⟨m1,e2,_⟩:=ec (C:=mkC L (n+1)) (σ:=upd σ "_law_one" (mk (.d (.int y)))) (g:=O8) (z:="_law_thing") (it:=.r2 (.bin .add (.name "_law_one") (.int 1)) (.name "_law_count")) (a:=.list (.cons (.name "_law_one") (.cons (.name "_law_thing") .nil))) (λi=>[y,i]) .deep (BV (cN (H1.ev rfl) (ao 1)) (H1.ev rfl) (Mc hy) (LO p hy hp) (Pv _) (LZ p)) (λi hi=>by
     have H2:=H1.mk "_law_thing" (.d (.int i))
     exact G8 (H2.ev rfl) (H2.ev rfl))
    obtain ⟨m2,e3⟩:=lZ (H1.ev (C:=mkC L (n+1)) (x:="_law_rows") rfl) e2 (by rw[OV,OV,UU]; have:=vJ pre.length (Mg p hp); exact Lr p o hy this)
    refine Runs.set H1 e3 λσ H _=>Runs.nil (aD _ (H.sub ⟨rfl,rfl,trivial⟩) ?_ (λr hr=>?_))
    ·rw[O3,O3,OV,OV,UU,O6,wZ]; exact Mx p o hy
    ·rcases O7.mp hr with hr | hr
     ·exact q2 r hr
     ·refine aI hr λi hi M1=>?_
      (clear hr; subst M1)
      refine aI hi λk hk M2=>?_
      (clear hi hr; subst M2)
      have:=V0.mp hk
      exact ⟨by simp,by simp; exact Ma,λx hx=>by
       rcases O9.mp hx with rfl | hx
       ·exact LW hp hy
       ·rw[OK.mp hx]; exact Lk hy this⟩
   ·intro σ' u
    refine aq (u) λt H o q2=>?_
    clear u
    refine cT (H.ev (C:=mkC L (n+1)) (x:="_law_count") rfl) (H.ev (x:="_law_rows") rfl) λm2 e3=>?_
    rw[br] at o
    have:=vJ d (K7 p)
    exact Runs.ret e3 (ag _ rfl (bC d t rfl (Pv _) (LS p) (Mb o this) q2))
  ·obtain ⟨m1,e2,_⟩:=jF (C:=mkC L (n+1)) (σ:=σ) (g:=aa) (l:=t) (z:="_law_row") (it:=.e (.name "_law_rows")) (a:=.name "_law_row") (c:=.cmp .eq (.bi1 .len (.name "_law_row")) (.bin .mod (.name "_law_more") (.bin .add (.name "_law_count") (.int 1)))) (λr=>r) (λr=>decide ((r.length:OF)=more%(c+1))) .sh (aJ (H.ev rfl) (aX t .sh)) (λr hr=>by
    have H2:=H.mk "_law_row" (.d (aa r))
    exact c8 (cG (H2.ev rfl)) (aY (H2.ev rfl) (cN (H2.ev rfl) (ao 1)) Mq)) (λr hr _=>(H.mk "_law_row" (.d (aa r))).ev rfl)
   refine cT (H.ev (x:="_law_count") rfl) e2 λm2 e3=>?_
   refine Runs.ret e3 (ag _ rfl (bC c _ rfl (Pv _) (Ci hc) ?_ (λr hr=>?_)))
   ·rw[TM]; exact pW (by rw[hsub]; exact xI c hc) _
   ·rw[TM] at hr
    refine ae (g3 r (Qs.mp hr).1) λo q2=>?_
    exact ⟨by exact CB hc o,q2⟩
theorem Ad {l:vk OF}{x:OF}{b:OF}(h:l.length=7) (hb:∀ i∈l,0<=i/\i<=b):∃ c:ON,l[(x/9%7).toNat]? = rg (c:OF)/\(c:OF)<=b:=by
 have k:=PS (x/9) (show (7:OF)≠0 by decide)
 have j:=Qg (x/9) (show (0:OF)<7 by decide)
 have g:(x/9%7).toNat<l.length:=by exact L7 h
 have:=hb _ (SO g)
 exact (ag (l[(x/9%7).toNat].toNat) (by rw[OY g]; congr 1; exact LC this) (Le this))
theorem se (a b c d e f g:OF):ev C (.list (.cons (.int a) (.cons (.int b) (.cons (.int c) (.cons (.int d) (.cons (.int e) (.cons (.int f) (.cons (.int g) .nil)))))))) σ = .ok (.d (aa [a,b,c,d,e,f,g]),.deep):=by
 simp only[eJ,bO,bi,a9,Out.ok_bind]; rfl
theorem xg (lib:Lib L) (n:ON) (s:vk OF) (hs:s.length<=63):∃ r,aA (mkC L (n+2)) l_few [.d (aa s)] = .ok r/\tS r:=by
 unfold l_few
 refine dF rfl λσ H=>?_
 refine Runs.set H (aY (cj lib (H.ev rfl) (ao 0) (by decide)) (ao 9) (by decide)) λσ H _=>?_
 refine af (Ad (l:=[6,5,4,3,6,1,0]) (x:=bt s 0) (b:=6) rfl (by decide)) λc hc1 j=>?_
 refine Runs.set H (fP (se 6 5 4 3 6 1 0) (aY (fM (cj lib (H.ev rfl) (ao 0) (by decide)) (ao 9) (by decide) (by decide)) (ao 7) (by decide)) (PS _ (by decide)) hc1) λσ H _=>?_
 refine Runs.set H (cj lib (H.ev rfl) (ao 1) (by decide)) λσ H _=>?_
 generalize bt s 0%9=kind at H
 generalize bt s 1=more at H
 refine Runs.ite (c8 (H.ev rfl) (ao 7)) (λuu=>?_) λuu=>Runs.nil ?_
 ·have a1:=PS more (show (4:OF)≠0 by decide)
  have a2:=Qg more (show (0:OF)<4 by decide)
  obtain ⟨d,hd⟩:∃ d:ON,1+more%4=d:=⟨(1+more%4).toNat,by exact Mz⟩
  refine Runs.set H (cN (ao 1) (aY (H.ev rfl) (ao 4) (by decide))) λσ H _=>?_
  rw[hd] at H
  refine Runs.no ((yx (cG (H.ev rfl)) (ao 63)).trans (by rw[P0 (Lg hs)])) ?_
  obtain ⟨M5,e1,t,ht,g1,g2,g3⟩:=ey (σ:=σ) (n:=n+1) lib.pairs (es:=.cons (.name "_law_many") .nil) (ak (H.ev rfl) aC) rfl (sY _ d (Mf hd))
  obtain ⟨rv,rm⟩:=M5
  cases ht
  refine cT (lJ (ao 2) (H.ev (x:="_law_many") rfl) (by decide)) e1 λm2 e3=>?_
  exact Runs.ret e3 (ag _ rfl (bC _ t rfl (Pv _) (L5 hd) (Md g2) (λr hr=>ae (g3 r hr) λu o=>⟨by exact My hd u,o⟩)))
 ·refine Runs.ite (uj (H.ev rfl) (ao 2)) (λuu=>?_) λuu=>Runs.nil ?_
  ·refine af (ey (σ:=σ) (n:=n+1) lib.parts (es:=.cons (.name "_law_script") (.cons (.name "_law_kind") (.cons (.name "_law_count") (.cons (.name "_law_more") .nil)))) (ak (H.ev rfl) (ak (H.ev rfl) (ak (H.ev rfl) (ak (H.ev rfl) aC)))) rfl (tz lib n s kind more c (Mo j))) λr e1 h=>?_
   exact Runs.ret e1 (ag r rfl h)
  ·clear hc1 j
   refine af (Ad (l:=[6,5,4,3,7,7,2]) (x:=bt s 0) (b:=7) rfl (by decide)) λc hc1 j=>?_
   refine Runs.set H (fP (se 6 5 4 3 7 7 2) (aY (fM (cj lib (H.ev rfl) (ao 0) (by decide)) (ao 9) (by decide) (by decide)) (ao 7) (by decide)) (PS _ (by decide)) hc1) λσ H _=>?_
   refine Runs.set H qD λσ H _=>?_
   refine Runs.for (g:=O8) (xs:=aQ c) (λk σ=>∃ t,Has σ [("_law_rows", .d (ah t)),("_law_count", .d (.int c)),("_law_script", .d (aa s)),("_law_kind", .d (.int kind)),("_law_more", .d (.int more))]/\t=mf k.length/\[]∈t/\qh k.length (2^k.length) k.length t) (bQ (H.ev rfl) (CQ j)) (λσ0 h _=>(jO ([[]]) ((h _ H).sub (lI rfl rfl rfl rfl rfl trivial)) rfl (.head _) (by simp) (by simp) (λr hr=>?_))) ?_ ?_
   ·cases OK.mp hr; exact ⟨Pe _,.nil _⟩
   ·intro k y post hl σ M6
    refine iP (M6) λt H h3 h0 g1 g2 g3=>?_
    clear M6
    refine ls hl λhy hp=>?_
    have hpow:2^k.length<=2^6:=Ro (by decide) (LB j hp)
    have H1:=H.mk "_law_thing" (.d (.int y))
    obtain ⟨m1,e1,_⟩:=jF (C:=mkC L (n+2)) (λr=>r++[y]) (λr=>decide ((r.length:OF)<3)) .deep (aJ (H1.ev (x:="_law_rows") rfl) (aX t .sh)) (a:=.bin .add (.name "_law_row") (.list (.cons (.name "_law_thing") .nil))) (c:=.cmp .lt (.bi1 .len (.name "_law_row")) (.int 3)) (z:="_law_row") (λr hr=>uj (cG ((H1.mk "_law_row" (.d (aa r))).ev rfl)) (ao 3)) (λr hr _=>by
     have H2:=H1.mk "_law_row" (.d (aa r))
     exact dH (H2.ev rfl) (ei (H2.ev rfl)) (by have:=(g3 r hr).1; rw[O6]; exact Lj j hp this))
    have hf:=Q1 (λr:vk OF=>decide ((r.length:OF)<3)) t
    obtain ⟨m2,e2⟩:=lZ (H1.ev (C:=mkC L (n+2)) (x:="_law_rows") rfl) e1 (by rw[OV]; exact Li g2 hpow hf)
    refine Runs.set H1 e2 λσ H _=>Runs.nil (jO _ (H.sub (lI rfl rfl rfl rfl rfl trivial)) (by rw[h3,hy,O3,O6]; rfl) (PC _ h0) ?_ ?_ (λr hr=>?_))
    ·exact λq=>g1 (TL.mp q).1
    ·rw[O3,O3,OV,O6,VA]; exact Lh g2 hf
    ·rw[O3,O6]
     rcases O7.mp hr with hr | hr
     ·obtain ⟨u,o⟩:=g3 r hr; exact ⟨by exact Qu ‹_›,o.mono C4⟩
     ·refine aI hr λr' hr' M8=>?_
      (clear hr; subst M8)
      refine ae (g3 r' (Qs.mp hr').1) λu o=>?_
      rw[O3,O6]
      exact ⟨by exact Rk ‹_›,(o.snoc (Pv _) (x:=y) (CU hy)).mono (CA hy)⟩
   ·intro σ M9
    refine iP (M9) λt H h3 h0 g1 g2 g3=>?_
    clear M9
    rw[br] at h3 g2 g3
    have hpow:2^c<=2^7:=Ro (by decide) (CL j)
    obtain ⟨m,hvec⟩:∃ m,(aQ c).map (λi=>bt s (6+i)%8)=m:=⟨_,rfl⟩
    have hvl:m.length=c:=by rw[<- hvec,OV,br]
    refine Runs.set H (r:=(.d (aa m),.deep)) ((fR (g:=O8) (λi=>bt s (6+i)%8) (bQ (n:=c) (H.ev rfl) (CQ j)) λi hi=>?_).trans (by rw[hvec])) λσ H _=>?_
    ·have H2:=H.mk "_law_thing" (.d (.int i))
     have:=mem_upTo.mp hi
     exact aY (cj lib (H2.ev rfl) (cN (ao 6) (H2.ev rfl)) (CF this)) (ao 8) (by decide)
    obtain ⟨p,hp⟩:=kn (l:=t) (Q:=λr b=>ev (mkC L (n+2)) (.call "_law_apart" (.cons (.name "_law_vectors") (.cons (.name "_law_row") .nil))) (upd σ "_law_row" (mk (.d (aa r)))) = .ok (sB b)/\(r=[]->b=Gt)) λr hr=>by
     have H2:=H.mk "_law_row" (.d (aa r))
     refine ae (g3 r hr) λu o=>?_
     obtain ⟨_,e1,b,rfl,hb⟩:=ey (n:=n+1) lib.apart (es:=.cons (.name "_law_vectors") (.cons (.name "_law_row") .nil)) (ak (H2.ev rfl) (ak (H2.ev rfl) aC)) rfl (ud _ m r (λi hi=>by have:=o.2 i hi; exact L6 hvl this) (Ly j u))
     exact (ag b e1 hb)
    refine af (jF (C:=mkC L (n+2)) (σ:=σ) (g:=aa) (l:=t) (z:="_law_row") (it:=.e (.name "_law_rows")) (a:=.name "_law_row") (c:=.call "_law_apart" (.cons (.name "_law_vectors") (.cons (.name "_law_row") .nil))) (λr=>r) p .sh (aJ (H.ev rfl) (aX t .sh)) (λr hr=>(hp r hr).1) (λr hr _=>(H.mk "_law_row" (.d (aa r))).ev rfl)) λm1 e1 _=>?_
    rw[TM] at e1
    refine Runs.set H e1 λσ H _=>?_
    have hne:(t.filter p).map (λr=>(r.length:OF))≠[]:=λq=>by
     have:[]∈t.filter p:=Qs.mpr ⟨h0,(hp [] h0).2 rfl⟩
     rw[Wk.mp q] at this
     cases this
    refine af (Il (fR (C:=mkC L (n+2)) (σ:=σ) (g:=aa) (l:=t.filter p) (z:="_law_row") (it:=.e (.name "_law_good")) (a:=.bi1 .len (.name "_law_row")) (λr=>(r.length:OF)) (aJ (H.ev rfl) (aX _ .sh)) λr _=>cG ((H.mk "_law_row" (.d (aa r))).ev rfl)) hne) λmo e2 hmo=>?_
    refine Runs.set H e2 λσ H _=>?_
    refine aI hmo λr0 hr0 hr1=>?_
    obtain ⟨tt,htt⟩:∃ tt,(t.filter p).filter (λr=>decide ((r.length:OF)=mo))=tt:=⟨_,rfl⟩
    have v:0<tt.length:=SX.mpr λq=>by
     have:r0∈tt:=by rw[<- htt]; exact Qs.mpr ⟨hr0,PK hr1⟩
     rw[q] at this; cases this
    have hsub:∀ r∈tt,r∈t:=λr hr=>by rw[<- htt] at hr; exact (Qs.mp (Qs.mp hr).1).1
    have hlen:tt.length<=63:=by
     have u:=Q1 p (t.filter λr:vk OF=>decide ((r.length:OF)=mo))
     have o:=pW (t:=t) (by rw[h3]; exact uX c (CL j)) mo
     rw[<- htt,WI]
     rw[WI] at u
     simp only[Bool.and_comm] at u ⊢
     exact Mt u o
    obtain ⟨m3,e3,_,hm3⟩:=jF (C:=mkC L (n+2)) (σ:=σ) (g:=aa) (l:=t.filter p) (z:="_law_row") (it:=.e (.name "_law_good")) (a:=.name "_law_row") (c:=.cmp .eq (.bi1 .len (.name "_law_row")) (.name "_law_most")) (λr=>r) (λr=>decide ((r.length:OF)=mo)) .sh (aJ (H.ev rfl) (aX _ .sh)) (λr hr=>by
     have H2:=H.mk "_law_row" (.d (aa r))
     exact c8 (cG (H2.ev rfl)) (H2.ev rfl)) (λr hr _=>(H.mk "_law_row" (.d (aa r))).ev rfl)
    rw[TM,htt] at e3
    refine Runs.set H e3 λσ H hσ=>?_
    have fin:∀ {σ:St}{l:vk (Ot×V)}(t':vk (vk OF)),Has σ l->l.lookup "_law_count" = rg (.d (.int c))->l.lookup "_law_table_here" = rg (.d (ah t'))->(∀ r∈t',r∈t)->t'.length<=63->Runs (mkC L (n+2)) (.cons (.ret (.tup (.cons (.name "_law_count") (.cons (.name "_law_table_here") .nil)))) .nil) σ (λuu fl=>∃ r,fl = .ret r/\tS r):=λt' H a b ht' hl'=>by
     refine cT (H.ev (C:=mkC L (n+2)) a) (H.ev b) λm2 e4=>?_
     exact Runs.ret e4 (ag _ rfl (bC c t' rfl (Pv _) (KX j) hl' (λr hr=>ae (g3 r (ht' r hr)) λu o=>⟨by exact Mm j u,o⟩)))
    refine Runs.ite (c8 (H.ev rfl) (ao 3)) (λuu=>?_) λuu=>Runs.nil (fin tt H rfl rfl hsub hlen)
    refine Runs.popR H hσ hm3 (aY (H.ev rfl) (lR (H.ev rfl)) (la3 v)) (PS _ (la2 v)) (Qg _ (la3 v)) λσ H _=>Runs.nil (fin _ H rfl rfl (λr hr=>hsub r (U4 hr)) (Lt (Vj ..) hlen))
theorem Srt.affine (h:Srt c r) (ha:0<=a) (hb:0<b):Srt (a+b*c) (r.map λx=>a+b*x):=by
 refine ⟨?_,λx i=>?_⟩
 ·rw[Rj]
  refine h.1.imp λ{x y} q=>?_
  have:=UJ q hb
  exact LD this
 ·refine aI i λy l g=>?_
  (clear i; subst g)
  refine ae (h.2 y l) λn m=>?_
  have k:=YA (QL hb) n
  have j:=UJ m hb
  exact Lm ha k j
theorem hJ (c:ON):(aQ c).Pairwise (· < ·):=by
 unfold aQ
 rw[Rj]
 exact List.pairwise_lt_range.imp λ{a b} h=>by exact Dx h
theorem ug (lib:Lib L) (n:ON) (s:vk OF) (hs:s.length<=63):∃ r,aA (mkC L (n+3)) l_table [.d (aa s)] = .ok r/\tS r:=by
 unfold l_table
 refine dF rfl λσ H=>?_
 refine Runs.set H (aY (cj lib (H.ev rfl) (ao 0) (by decide)) (ao 9) (by decide)) λσ H _=>?_
 refine Runs.set H (cj lib (H.ev rfl) (ao 1) (by decide)) λσ H _=>?_
 generalize bt s 0%9=kind at H
 generalize bt s 1=more at H
 refine Runs.ite (c8 (H.ev rfl) (ao 4)) (λuu=>?_) λuu=>Runs.nil ?_
 ·have a1:=PS more (show (12:OF)≠0 by decide)
  have a2:=Qg more (show (0:OF)<12 by decide)
  have a3:=PS (more/12) (show (4:OF)≠0 by decide)
  obtain ⟨d,p⟩:∃ d:ON,7+more%12=d:=⟨(7+more%12).toNat,by exact Mv⟩
  refine Runs.set H (cN (ao 7) (aY (H.ev rfl) (ao 12) (by decide))) λσ H _=>?_
  rw[p] at H
  refine Runs.set H (cN (ao 1) (aY (fM (H.ev rfl) (ao 12) (by decide) (by decide)) (ao 4) (by decide))) λσ H _=>?_
  obtain ⟨m1,e1,_⟩:=jF (C:=mkC L (n+3)) (σ:=σ) (g:=O8) (l:=aQ d) (z:="_law_thing") (it:=.r1 (.name "_law_count")) (a:=.list (.cons (.name "_law_thing") .nil)) (c:=.cmp .eq (.bin .mod (.name "_law_thing") (.name "_law_step")) (.int 0)) (λi=>[i]) (λi=>decide (i%(1+more/12%4)=0)) .deep (bQ (H.ev rfl) (Mj p)) (λi _=>by
   have H2:=H.mk "_law_thing" (.d (.int i))
   exact c8 (aY (H2.ev rfl) (H2.ev rfl) Lf) (ao 0)) (λi _ _=>ei ((H.mk "_law_thing" (.d (.int i))).ev rfl))
  refine cT (H.ev (C:=mkC L (n+3)) (x:="_law_count") rfl) e1 λm2 e2=>?_
  refine Runs.ret e2 (ag _ rfl (bC d _ rfl (Pv _) (Mr p) ?_ (λr u=>?_)))
  ·rw[OV]
   have:=Q1 (λi=>decide (i%(1+more/12%4)=0)) (aQ d)
   rw[br] at this; exact K2 p this
  ·refine aI u λi hi Nh=>?_
   (clear u; subst Nh)
   have:=mem_upTo.mp (Qs.mp hi).1
   exact ⟨by simp,by simp,λx hx=>by rw[OK.mp hx]; exact CM this⟩
 ·refine Runs.ite (c8 (H.ev rfl) (ao 5)) (λuu=>?_) λuu=>Runs.nil ?_
  ·have a1:=PS more (show (6:OF)≠0 by decide)
   have a2:=Qg more (show (0:OF)<6 by decide)
   obtain ⟨d,p⟩:∃ d:ON,7+more%6=d:=⟨(7+more%6).toNat,by exact LY⟩
   refine Runs.set H (cN (ao 7) (aY (H.ev rfl) (ao 6) (by decide))) λσ H _=>?_
   rw[p] at H
   obtain ⟨m1,e1,_⟩:=ec (C:=mkC L (n+3)) (σ:=σ) (g:=O8) (l:=aQ d) (z:="_law_gone") (it:=.r1 (.name "_law_count")) (a:=.compif (.name "_law_thing") "_law_thing" (.r1 (.name "_law_count")) (.cmp .ne (.name "_law_thing") (.name "_law_gone"))) (λg=>(aQ d).filter λi=>!decide (i=g)) .deep (bQ (H.ev rfl) (Dc p)) (λg _=>by
    have H2:=H.mk "_law_gone" (.d (.int g))
    exact dY (λi=>!decide (i=g)) (bQ (H2.ev rfl) (Dc p)) λi _=>by
     have H3:Has (upd (upd σ "_law_gone" (mk (.d (.int g)))) "_law_thing" (sI i)) _:=H2.upd "_law_thing" (.d (.int i)) .deep
     exact ju (H3.ev rfl) (H3.ev rfl))
   refine cT (H.ev (C:=mkC L (n+3)) (x:="_law_count") rfl) e1 λm2 e2=>?_
   refine Runs.ret e2 (ag _ rfl (bC d _ rfl (Pv _) (KU p) (by rw[OV,br]; exact LV p) (λr u=>?_)))
   refine aI u λg _ Nj=>?_
   (clear u; subst Nj)
   refine ⟨?_,(hJ d).filter _,λx hx=>?_⟩
   ·have:=Q1 (λi=>!decide (i=g)) (aQ d)
    rw[br] at this; exact KW p this
   ·have:=mem_upTo.mp (Qs.mp hx).1
    exact CM this
  ·obtain ⟨Nd,e1,c,t,u,h0,h1,h2,h3⟩:=ey (σ:=σ) (n:=n+2) lib.few (es:=.cons (.name "_law_script") .nil) (ak (H.ev rfl) aC) rfl (xg lib n s hs)
   obtain ⟨rv,rm⟩:=Nd
   cases u
   refine Runs.set H e1 λσ H k=>?_
   refine Runs.set H (cj lib (H.ev rfl) (ao 12) (by decide)) λσ' H hσ'=>?_
   generalize bt s 12=far at H
   have o:∀ {σ:St}{l:vk (Ot×V)},Has σ l->l.lookup "_law_made" = rg (.d (.tuple [.int c,ah t]))->ev (mkC L (n+3)) (.sub (.name "_law_made") (.int 0)) σ = .ok (sI c)/\ev (mkC L (n+3)) (.sub (.name "_law_made") (.int 1)) σ = .ok (.d (ah t),.sh):=λH a=>⟨tx (m:=.sh) (H.ev a) (ao 0),uc (m:=.sh) (H.ev a) (ao 1)⟩
   refine ae (o H rfl) λd1 d2=>?_
   refine Runs.ite (gZ (ju (aY (H.ev rfl) (ao 3) (by decide)) (ao 1)) λuu=>gZ (yx (lR d2) (ao 8)) λuu=>yx d1 (ao 9)) (λuu=>?_) λq=>Runs.nil ?_
   ·refine aj (H "_law_made" _ rfl) λm e=>?_
    exact Runs.retn e (ag _ rfl (bC c t rfl h0 h1 h2 h3))
   ·have hc9:c<=9:=by
     have:=(Tj.mp (Tj.mp q).2).2
     have:=Rt this
     exact La this
    have ht8:t.length<=8:=by
     have:=(Tj.mp (Tj.mp q).2).1
     have:=Rt this
     exact Ln this
    clear q d1 d2
    refine Runs.set H (cN (ao 1) (aY (fM (H.ev rfl) (ao 3) (by decide) (by decide)) (ao 9) (by decide))) λσ H _=>?_
    refine Runs.set H (aY (fM (H.ev rfl) (ao 27) (by decide) (by decide)) (ao 9) (by decide)) λσ H _=>?_
    have b1:=PS (far/3) (show (9:OF)≠0 by decide)
    have b2:=Qg (far/3) (show (0:OF)<9 by decide)
    have b3:=PS (far/27) (show (9:OF)≠0 by decide)
    have b4:=Qg (far/27) (show (0:OF)<9 by decide)
    generalize hst:1+far/3%9=st at H
    generalize hfi:far/27%9=fi at H
    refine Runs.set H mw λσ H k=>?_
    refine Runs.for (g:=aa) (xs:=t) (λj σ=>Has σ [("_law_table_here", .d (ah (j.map λr=>r.map λx=>fi+st*x))),("_law_made", .d (.tuple [.int c,ah t])),("_law_step", .d (.int st)),("_law_first", .d (.int fi))]/\σ "_law_table_here" = rg (.d (ah (j.map λr=>r.map λx=>fi+st*x)),.deep)) (aJ (o H rfl).2 (aX t .sh)) (λσ0 h hh=>⟨(h _ H).sub (cr rfl rfl rfl rfl trivial),(hh _ (by simp[fQ,dO,Cd,rW])).trans k⟩) ?_ ?_
    ·intro j y post hl σ Nm
     refine ae (Nm) λH k=>?_
     clear Nm
     have hp:j.length<t.length:=by rw[hl,O3,Pz]; exact yg
     have H1:=H.mk "_law_choice" (.d (aa y))
     refine Runs.appR H1 (t:=j.map λr=>r.map λx=>fi+st*x) (m:=.deep) ((OB (by decide)).trans k) (by decide) (fR (g:=O8) (λx=>fi+st*x) (aJ (H1.ev rfl) (bz y .sh)) λi _=>?_) (by rw[OV]; exact Lx ht8 hp) λσ H k _=>Runs.nil ?_
     ·have H2:=H1.mk "_law_thing" (.d (.int i))
      exact cN (H2.ev rfl) (lJ (H2.ev rfl) (H2.ev rfl) (by lia))
     ·have e:(j++[y]).map (λr=>r.map λx=>fi+st*x)=j.map (λr=>r.map λx=>fi+st*x)++[y.map λx=>fi+st*x]:=by rw[SI]; rfl
      show Has σ _/\_
      rw[e]
      exact ⟨H.sub (cr rfl rfl rfl rfl trivial),k⟩
    ·intro σ v
     refine ae (v) λH _=>?_
     clear v
     refine cT (cN (H.ev (C:=mkC L (n+3)) (x:="_law_first") rfl) (lJ (H.ev (x:="_law_step") rfl) (o H rfl).1 (by lia))) (H.ev (x:="_law_table_here") rfl) λm2 e2=>?_
     have q1:=YA (show 0<=st by exact Mn hst) h0
     have q2:st*c<=9*9:=Int.mul_le_mul (LX hst) hc9 h0 (by decide)
     refine Runs.ret e2 (ag _ rfl (bC _ _ rfl (K3 hfi q1) (LL hfi q2) (by rw[OV]; exact Mh ht8) (λr u=>?_)))
     refine aI u λr' hr' Nf=>?_
     (clear u; subst Nf)
     refine ae (h3 r' hr') λq3 q4=>?_
     exact ⟨by rw[OV]; exact Lz q3,q4.affine (LG hfi) (LN hst)⟩
noncomputable def cW (one:vk OF) (o x:OF):vk Int:=ew (one.filter (λy=>!decide (y=o))++[x])
noncomputable def dB (t:vk (vk OF)) (one other:vk OF) (x:OF):Bool:=one.any λo=>!decide (o∈other)&&decide (cW one o x∈t)
noncomputable def fh (c:ON) (t:vk (vk OF)):OE (vk OF×vk OF×OF) :=
 t.findSome? λh=>(aQ c).findSome? λx=>if x∈h then OC else t.findSome? λg=>if (decide (x∈g) && !dB t h g x)=Gt then rg (h,g,x) else OC
theorem iJ (p:α->Pr) (l:vk α):l.findSome? (λx=>if p x=Gt then rg () else OC)=if l.any p=Gt then rg () else none:=by
 induction l with
 | nil=>rfl
 | cons a l ih=>
  rw[Uq,List.any_cons]
  cases p a with
  | true=>rfl
  | false=>simpa using ih
theorem B4 (H:Has σ l) (hz:z ≠ "x") (ha:ev C a σ = .ok (.d (aa c),m)) (hd:ev C d σ = .ok (sI t)) (hb:∀ i:OF,ev C b (upd σ z (sI i)) = .ok (sI o)) (h:c.length<63) :
  ev C (.bi1 .sorted (.bin .add (.compif (.name z) z (.e a) (.cmp .ne (.name z) b)) (.list (.cons d .nil)))) σ = .ok (.d (aa (cW c o t)),.deep):=by
 have g:(c.filter λx=>!decide (x=o)).length<=c.length:=Q1 ..
 refine xl (dH (dY (λi=>!decide (i=o)) (aJ ha (bz c m)) λi _=>ju (sr (p:=sI i) (OD rfl) rfl) (hb i)) (ei hd) (by rw[O6]; exact LU h g)) ?_
 rw[O3,O6]; exact LF h g
theorem yC (C:Calls) (t:vk (vk OF)) (one other:vk OF) (x:OF) (h:one.length<63):aA C l_can [.d (ah t),.d (aa one),.d (aa other),.d (.int x)] = .ok (sB (dB t one other x)):=by
 unfold l_can dB
 refine bX rfl λj H=>?_
 refine Runs.seek (g:=O8) (xs:=one) (λj=>Has j [("_law_table_here", .d (ah t)),("_law_one", .d (aa one)),("_law_other", .d (aa other)),("_law_thing", .d (.int x))]) (λo=>if (!decide (o∈other)&&decide (cW one o x∈t))=Gt then rg () else OC) (λuu=>sB Gt) (aJ (H.ev rfl) (bz one .sh)) (λl h _=>(h _ H).sub (cr rfl rfl rfl rfl trivial)) (λo m j H=>?_) (λq k _=>?_) λuu q k=>?_
 ·have H1:=H.mk "_law_out" (.d (.int o))
  refine Runs.set H1 (B4 H1 (by decide) (H1.ev rfl) (H1.ev rfl) (λi=>(H1.upd "_law_left" (.d (.int i)) .deep).ev rfl) h) λj H2 _=>?_
  refine Runs.ite (gL (k9 (H2.ev rfl) (H2.ev rfl)) λuu=>D8 (H2.ev rfl) (H2.ev rfl)) (λq=>Runs.ret (c7 Gt) ?_) λq=>Runs.nil (Runs.nil ?_)
  ·exact Cont.ret (Sk.ret (q:=()) (OD q))
  ·exact Sk.next (OB (by rw[q]; decide)) (H2.sub (cr rfl rfl rfl rfl trivial))
 ·rw[iJ] at q
  refine Runs.ret (c7 Oz) ?_
  by_cases e:(one.any λo=>!decide (o∈other)&&decide (cW one o x∈t))=Gt
  ·rw[OD e] at q; cases q
  ·rw[Uw.mpr e]
 ·rw[iJ] at q
  by_cases e:(one.any λo=>!decide (o∈other)&&decide (cW one o x∈t))=Gt
  ·rw[e]
  ·rw[OB e] at q; cases q
theorem rp (lib:Lib L) (n:ON) (c:ON) (t:vk (vk OF)) (hc:c<=1000) (h:∀ r∈t,r.length<63):aA (mkC L (n+1)) l_fault [.d (.int c),.d (ah t)] = .ok (match fh c t with | none=>(.d .none,.deep) | some (a,b,x)=>(.d (.tuple [aa a,aa b,.int x]),.sh)):=by
 unfold l_fault fh
 refine bX rfl λl H=>?_
 let rv:vk OF×vk OF×OF->V×Mode:=λq=>(.d (.tuple [aa q.1,aa q.2.1,.int q.2.2]),.sh)
 let Inv:St->Prop:=λl=>Has l [("_law_table_here", .d (ah t)),("_law_count", .d (.int c))]
 refine Runs.seek (g:=aa) (xs:=t) Inv (λj=>(aQ c).findSome? λx=>if x∈j then OC else t.findSome? λi=>if (decide (x∈i) && !dB t j i x)=Gt then rg (j,i,x) else OC) rv (aJ (H.ev rfl) (aX t .sh)) (λo h _=>(h _ H).sub ⟨rfl,rfl,trivial⟩) (λj u l H=>?_) (λq k _=>?_) λq p k=>?_
 ·have H1:=H.mk "_law_one" (.d (aa j))
  refine Runs.seek (g:=O8) (xs:=aQ c) (λl=>Has l [("_law_table_here", .d (ah t)),("_law_count", .d (.int c)),("_law_one", .d (aa j))]) (λx=>if x∈j then OC else t.findSome? λi=>if (decide (x∈i) && !dB t j i x)=Gt then rg (j,i,x) else OC) rv (bQ (H1.ev rfl) (tH hc)) (λo h _=>(h _ H1).sub (cX rfl rfl rfl trivial)) (λx y l H=>?_) (λq k H=>Runs.nil ?_) λq p k=>?_
  ·have H2:=H.mk "_law_thing" (.d (.int x))
   refine Runs.ite (k9 (H2.ev rfl) (H2.ev rfl)) (λq=>?_) λq=>Runs.nil (Runs.nil ?_)
   ·have m:x∉j:=by simpa using q
    refine Runs.seek (g:=aa) (xs:=t) (λl=>Has l [("_law_table_here", .d (ah t)),("_law_count", .d (.int c)),("_law_one", .d (aa j)),("_law_thing", .d (.int x))]) (λi=>if (decide (x∈i) && !dB t j i x)=Gt then rg (j,i,x) else OC) rv (aJ (H2.ev rfl) (aX t .sh)) (λo h _=>(h _ H2).sub (cr rfl rfl rfl rfl trivial)) (λi z l H=>?_) (λq k H=>Runs.nil (Runs.nil ?_)) λq p k=>?_
    ·have H3:=H.mk "_law_other" (.d (aa i))
     refine Runs.ite (gL (t8 (H3.ev rfl) (H3.ev rfl)) λuu=>fy (bY lib.can (ak (H3.ev rfl) (ak (H3.ev rfl) (ak (H3.ev rfl) (ak (H3.ev rfl) aC)))) rfl (yC _ t j i x (h j u)))) (λq=>?_) λq=>Runs.nil (Runs.nil ?_)
     ·have v:ev (mkC L (n+1)) (.tup (.cons (.name "_law_one") (.cons (.name "_law_other") (.cons (.name "_law_thing") .nil)))) (upd l "_law_other" (mk (.d (aa i)))) = .ok (rv (j,i,x)):=by
       exact uq (m1:=.sh) (m2:=.sh) (m3:=.deep) (H3.ev rfl) (H3.ev rfl) (H3.ev rfl)
      exact Runs.ret v (Cont.ret (Sk.ret (q:=(j,i,x)) (OD q)))
     ·exact Sk.next (OB (by rw[q]; decide)) (H3.sub (cr rfl rfl rfl rfl trivial))
    ·exact Sk.next ((OB m).trans q) (H.sub (cX rfl rfl rfl trivial))
    ·exact Cont.ret (Sk.ret ((OB m).trans p))
   ·have m:x∈j:=by simpa using q
    exact Sk.next (OD m) (H2.sub (cX rfl rfl rfl trivial))
  ·exact Sk.next q (H.sub ⟨rfl,rfl,trivial⟩)
  ·exact Sk.ret p
 ·rw[q]; exact Runs.ret jl rfl
 ·rw[p]
def Kn (pre:vk (vk OF)) (v:V):Prop:=(pre=[]/\v = .dic0)\/∃ ks,v = .dicT ks/\ks.length<=pre.length/\(∀ k,k∈ks↔k∈pre)/\ks.Nodup
theorem je (r:vk OF):eu (aO r)=rg r:=cS r
theorem Kn.add (K:Kn pre v) (r:vk OF) (hl:pre.length<=1000):∃ v',g9 σ z v (aO r) = .ok (upd σ z (v',.deep),.next)/\Kn (pre++[r]) v':=by
 rcases K with ⟨rfl,rfl⟩ | ⟨ks,rfl,h1,h2,h3⟩
 ·refine (ag (.dicT [r]) ?_ (.inr (bp ([r]) rfl (Pe _) (λk=>Iff.rfl) (by simp))))
  simp only[g9,je,show cL (aO r)=OC from rfl]
 ·refine (ag (.dicT (if r∈ks then ks else ks++[r])) ?_ (.inr (bp _ rfl ?_ (λk=>?_) ?_)))
  ·show (match eu (aO r) with | some i=>if ks.length<=lim then Out.ok (upd σ z (V.dicT (if i∈ks then ks else ks++[i]),Mode.deep),Flw.next) else .bad | none=>.bad)=_
   rw[je]
   show (if ks.length<=lim then _ else _)=_
   rw[OD (by unfold lim; exact Df hl h1)]
  ·rw[O3,O6]
   by_cases e:r∈ks
   ·rw[OD e]; exact Ai h1
   ·rw[OB e,O3,O6]; exact oO h1
  ·by_cases e:r∈ks
   ·rw[OD e,h2,O7,OK]
    exact ⟨.inl,λq=>q.elim id λq=>q▸(h2 r).mp e⟩
   ·rw[OB e,O7,O7,h2]
  ·by_cases e:r∈ks
   ·rw[OD e]; exact h3
   ·rw[OB e]; exact R9.mpr ⟨h3,by simp,λa h b g q=>e (by rw[OK.mp g] at q; exact q▸h)⟩
theorem lQ (C:Calls) (t:vk (vk OF)) (hl:t.length<=1000):∃ r,aA C p_known_of [.d (ah t)] = .ok r/\∃ v,r=(v,.deep)/\Kn t v:=by
 unfold p_known_of
 refine dF rfl λσ H=>?_
 refine Runs.set H uD λσ H k=>?_
 refine Runs.for (g:=aa) (xs:=t) (λj σ=>∃ v,σ "known" = rg (v,.deep)/\Kn j v) (aJ (H.ev rfl) (aX t .sh)) (λu _ hh=>(ag .dic0 ((hh _ (by simp[fQ,dO])).trans k) (.inl ⟨rfl,rfl⟩))) ?_ ?_
 ·intro j y q n σ i
  refine af (i) λv m K=>?_
  clear i
  have x:j.length<t.length:=by rw[n,O3,Pz]; exact yg
  refine af (K.add (σ:=upd σ "choice" (mk (.d (aa y)))) (z:="known") y (GI hl x)) λo h1 h2=>?_
  have l:upd σ "choice" (mk (.d (aa y))) "known" = rg (v,.deep):=(OB (by decide)).trans m
  refine Runs.next (σ':=upd (upd σ "choice" (mk (.d (aa y)))) "known" (o,.deep)) ?_ (Runs.nil (ag o (pE _ _ _) h2))
  simp only[cV,r5 (C:=C) (sr (C:=C) (σ:=upd σ "choice" (mk (.d (aa y)))) (z:="choice") (p:=(.d (aa y),.sh)) (OD rfl) rfl),Out.ok_bind,lA,fq,l]
  rw[OD trivial,h1]; rfl
 ·intro σ' h
  refine af (h) λv m K=>?_
  clear h
  exact Runs.retn m (ag _ rfl (ag v rfl K))
noncomputable def sQ:OE (vk OF×vk OF×OF)->V×Mode
 | none=>(.d .none,.deep)
 | some q=>(.d (.tuple [aa q.1,aa q.2.1,.int q.2.2]),.deep)
noncomputable def p_need_row:Fn:=⟨["count", "things"],
(.cons (.assign "seen" .edic)
(.cons (.for1 "thing" (.e (.name "things"))
(.cons (.ite (.or (.cmp .lt (.name "thing") (.int 0)) (.or (.cmp .ge (.name "thing") (.name "count")) (.cmp .isin (.name "thing") (.name "seen"))))
(.cons (.raise "NoThing")
.nil)
.nil)
(.cons (.setitem "seen" (.name "thing"))
.nil)))
.nil))⟩
noncomputable def iG:Ss:=(.cons (.ite (.or (.cmp .lt (.name "thing") (.int 0)) (.or (.cmp .ge (.name "thing") (.name "count")) (.cmp .isin (.name "thing") (.name "seen"))))
(.cons (.raise "NoThing")
.nil)
.nil)
(.cons (.setitem "seen" (.name "thing"))
.nil))
def eU (c:OF) (xs:vk OF):Prop:=(∀ x∈xs,0<=x/\x<c)/\xs.Nodup
def Sn (pre:vk OF) (v:V):Prop:=(pre=[]/\v = .dic0)\/∃ ks,v = .dicI ks/\ks.length<=pre.length/\∀ k,k∈ks↔k∈pre
theorem Sn.has (K:Sn pre v) (x:OF):cA .isin (.d (.int x)) v = .ok (decide (x∈pre)):=by
 rcases K with ⟨rfl,rfl⟩ | ⟨ks,rfl,h1,h2⟩
 ·rfl
 ·show Out.ok (decide (x∈ks))=_
  rw[SN.mpr (h2 x)]
theorem Sn.add (K:Sn pre v) (x:OF) (hl:pre.length<=1000):∃ v',g9 σ z v (.int x) = .ok (upd σ z (v',.deep),.next)/\Sn (pre++[x]) v':=by
 rcases K with ⟨rfl,rfl⟩ | ⟨ks,rfl,h1,h2⟩
 ·exact (ag (.dicI [x]) rfl (.inr (aD ([x]) rfl (Pe _) (λk=>Iff.rfl))))
 ·refine (ag (.dicI (if x∈ks then ks else ks++[x])) ?_ (.inr (aD _ rfl ?_ (λk=>?_))))
  ·show (if ks.length<=lim then _ else _)=_
   rw[OD (by unfold lim; exact Df hl h1)]
  ·rw[O3,O6]
   by_cases e:x∈ks
   ·rw[OD e]; exact Ai h1
   ·rw[OB e,O3,O6]; exact oO h1
  ·by_cases e:x∈ks
   ·rw[OD e,h2,O7,OK]
    exact ⟨.inl,λq=>q.elim id λq=>q▸(h2 x).mp e⟩
   ·rw[OB e,O7,O7,h2]
theorem ny (hC:C "NoThing" = rg g) (c:OF):∀ (xs pre:vk OF) (σ:St) (v:V),Has σ [("count", .d (.int c))]->σ "seen" = rg (v,.deep)->Sn pre v->eU c pre->pre.length+xs.length<=1000 ->
  (eU c (pre++xs)->∃ σ',cF (λy σ=>exs C iG (upd σ "thing" (mk (.d y)))) (xs.map .int) σ = .ok (σ',.next))/\(¬ eU c (pre++xs)->cF (λy σ=>exs C iG (upd σ "thing" (mk (.d y)))) (xs.map .int) σ = .exc "NoThing")
 | [],pre,σ,v,H,hs,K,hg,hl=>by
  rw[RH]
  exact ⟨λuu=>⟨σ,rfl⟩,λq=>OW hg q⟩
 | x::xs,pre,σ,v,H,hs,K,hg,hl=>by
  have H1:Has (upd σ "thing" (mk (.d (.int x)))) [("thing", .d (.int x)),("count", .d (.int c))]:=H.mk "thing" (.d (.int x))
  have i:upd σ "thing" (mk (.d (.int x))) "seen" = rg (v,.deep):=(OB (by decide)).trans hs
  have k:=H1.ev (C:=C) (x:="thing") rfl
  have e2:ev C (.cmp .isin (.name "thing") (.name "seen")) (upd σ "thing" (mk (.d (.int x)))) = .ok (sB (decide (x∈pre))):=bR k (by simp only[ce,i]; rfl) (K.has x)
  have m:ev C (.or (.cmp .lt (.name "thing") (.int 0)) (.or (.cmp .ge (.name "thing") (.name "count")) (.cmp .isin (.name "thing") (.name "seen")))) (upd σ "thing" (mk (.d (.int x)))) = .ok (sB (decide (x<0)||(decide (c<=x)||decide (x∈pre)))) :=
   gZ (uj k (ao 0)) λuu=>gZ (Dm k (H1.ev rfl)) λuu=>e2
  simp only[Qo,cF]
  by_cases bad:x<0\/c<=x\/x∈pre
  ·have n:(decide (x<0)||(decide (c<=x)||decide (x∈pre)))=true:=by simpa using bad
   rw[n] at m
   have ng:¬ eU c (pre++x::xs):=λ⟨h1,h2⟩=>by
    have r:=h1 x (by simp)
    rcases bad with q | q | q
    ·exact IY r q
    ·exact HA r q
    ·exact (R9.mp h2).2.2 x q x (.head _) rfl
   have l:exs C iG (upd σ "thing" (mk (.d (.int x)))) = .exc "NoThing" := by
    unfold iG
    simp only[cP,b0]
    rw[rC m]
    simp only[cP,b0,cV,fo,hC,am]
    rfl
   refine ⟨λq=>OW q ng,λuu=>?_⟩
   rw[l]; rfl
  ·have n:(decide (x<0)||(decide (c<=x)||decide (x∈pre)))=false:=by simpa using bad
   rw[n] at m
   obtain ⟨j,u,K'⟩:=K.add (σ:=upd σ "thing" (mk (.d (.int x)))) (z:="seen") x (by rw[Pz] at hl; exact DS hl)
   have l:exs C iG (upd σ "thing" (mk (.d (.int x)))) = .ok (upd (upd σ "thing" (mk (.d (.int x)))) "seen" (j,.deep),.next):=by
    unfold iG
    rw[iW ((mC m).trans iB)]
    refine (iW (σ':=upd (upd σ "thing" (mk (.d (.int x)))) "seen" (j,.deep)) ?_).trans iB
    simp only[cV,k,Out.ok_bind,i]
    show (g9 _ _ _ _).calm=_
    rw[u]; rfl
   have o:eU c (pre++[x]):=by
    refine ⟨λy hy=>?_,R9.mpr ⟨hg.2,by simp,λa ha b t q=>?_⟩⟩
    ·rcases O7.mp hy with h | h
     ·exact hg.1 y h
     ·rw[OK.mp h]; exact He bad
    ·rw[OK.mp t] at q; (clear H1 K' e2 u n l k t hl i; subst q); exact bad (.inr (.inr ha))
   have p:=ny hC c xs (pre++[x]) (upd (upd σ "thing" (mk (.d (.int x)))) "seen" (j,.deep)) j ((H1.upd "seen" j .deep).sub ⟨rfl,trivial⟩) (pE _ _ _) K' o (by rw[O3,O6]; rw[Pz] at hl; exact Gm hl)
   rw[QO] at p
   rw[l]
   exact p
theorem jg (hC:C "NoThing" = rg g) (c:OF) (xs:vk OF) (hl:xs.length<=1000) :
  (eU c xs->aA C p_need_row [.d (.int c),.d (aa xs)] = .ok (.d .none,.deep))/\(¬ eU c xs->aA C p_need_row [.d (.int c),.d (aa xs)] = .exc "NoThing"):=by
 refine af (da ["count", "things"] [.d (.int c),.d (aa xs)] rfl) λσ k H=>?_
 have m:bw p_need_row.params [.d (.int c),.d (aa xs)]=rg σ:=k
 have p:ex C (.assign "seen" .edic) σ = .ok (upd σ "seen" (.dic0,.deep),.next):=by
  simp only[dv]
  rw[l7 (uD (C:=C) (σ:=σ))]
  rfl
 have H1:Has (upd σ "seen" (.dic0,.deep)) [("seen", .dic0),("count", .d (.int c)),("things", .d (aa xs))]:=H.upd "seen" .dic0 .deep
 have l:=aJ (C:=C) (H1.ev (C:=C) (x:="things") rfl) (bz xs .sh)
 refine ae (ny hC c xs [] (consume (upd σ "seen" (.dic0,.deep)) (bK (.e (.name "things"))) .sh) .dic0 ((H1.sub (l':=[("count", .d (.int c))]) ⟨rfl,trivial⟩).consume _ _) ((hV.2 "seen" (by simp[fQ,dO])).trans (pE _ _ _)) (.inl ⟨rfl,rfl⟩) ⟨λuu h=>(nomatch h),.nil⟩ (by simpa using hl)) λj o=>?_
 have i:exs C p_need_row.body σ=(cF (λy σ=>exs C iG (upd σ "thing" (mk (.d y)))) (xs.map .int) (consume (upd σ "seen" (.dic0,.deep)) (bK (.e (.name "things"))) .sh)).bind λq=>match q.2 with | .next=>exs C .nil q.1 | .ret v=>.ok (q.1,.ret v):=by
  show exs C (.cons (.assign "seen" .edic) _) σ=_
  rw[iW p]
  simp only[cP,b0,cV,fV,pQ,fo,l,Out.ok_bind]
  rfl
 refine ⟨λq=>?_,λq=>?_⟩
 ·refine aj (j q) λn j=>?_
  rw[j] at i
  unfold aA
  rw[m]
  dsimp only
  rw[i]
  simp only[Out.ok_bind,iB]
 ·rw[o q] at i
  unfold aA
  rw[m]
  dsimp only
  rw[i]
  rfl
def NoF (c:ON) (t:vk (vk OF)):Prop:=∀ one∈t,∀ x∈aQ c,x∉one->∀ other∈t,x∈other->dB t one other x=Gt
theorem fault_none:fh c t=OC↔NoF c t:=by
 unfold fh NoF
 rw[QR]
 refine YS λj=>X6 λuu=>?_
 rw[QR]
 refine YS λx=>X6 λuu=>?_
 by_cases hx:x∈j
 ·simp[hx]
 ·rw[OB hx,QR]
  refine ⟨λh _ g k i=>?_,λh g k=>?_⟩
  ·have:=h g k
   cases hc:dB t j g x with
   | true=>rfl
   | false=>rw[OD (by simp[i,hc])] at this; cases this
  ·by_cases i:x∈g
   ·rw[OB (by simp[h hx g k i])]
   ·rw[OB (by simp[i])]
theorem xn (h:∀ r,r∈t↔r∈u) (one other:vk OF) (x:OF):dB t one other x=dB u one other x:=by
 unfold dB
 congr 1
 funext o
 rw[SN.mpr (h (cW one o x))]
theorem NoF.set (n:NoF c t) (h:∀ r,r∈t↔r∈u):NoF c u:=λi m x l o g k j=>by
 rw[<- xn h]
 exact n i ((h i).mpr m) x l o g ((h g).mpr k) j
theorem NoF.empty (n:NoF c t) (hr:∀ r∈t,Srt c r) (h:[]∈t):∀ r∈t,r=[]:=λr g=>by
 cases r with
 | nil=>rfl
 | cons x r=>
  have i:=(hr _ g).2 x (.head _)
  have:=n [] h x (mem_upTo.mpr i) (λq=>nomatch q) _ g (.head _)
  cases this
theorem NoF.one (c:ON) (r:vk OF):NoF c [r]:=λone k x l j h i g=>by
 rw[OK.mp k] at j
 rw[OK.mp i] at g
 exact OW g j
noncomputable def p_Rule:Fn:=⟨["count", "table"],
(.cons (.ite (.cmp .eq (.bi1 .len (.name "table")) (.int 0))
(.cons (.raise "NoChoice")
.nil)
.nil)
(.cons (.for1 "choice" (.e (.name "table"))
(.cons (.expr (.call "need_row" (.cons (.name "count") (.cons (.name "choice") .nil))))
.nil))
(.cons (.assign "known" (.call "known_of" (.cons (.comp (.bi1 .sorted (.name "choice")) "choice" (.e (.name "table"))) .nil)))
(.cons (.assign "full" (.comp (.bi1 .list (.name "choice")) "choice" (.e (.bi1 .sorted (.bi1 .list (.name "known"))))))
(.cons (.ite (.cmp .isnot (.call "fault" (.cons (.name "count") (.cons (.name "full") .nil))) .none)
(.cons (.raise "NoExchange")
.nil)
.nil)
.nil)))))⟩
structure LibR (L:vk (Ot×Fn)):Prop extends Lib L where
 need:L.lookup "need_row" = rg p_need_row
 rule:L.lookup "Rule" = rg p_Rule
 nth:∃ f,L.lookup "NoThing" = rg f
theorem lF (hL:L.lookup f=rg fn) (he:evs (aM (mkC L (n+1))) es σ = .ok q) (hv:q.map (·.1)=vs) (h:aA (mkC L n) fn vs = .ok r) (hp:iw f=true:=by decide) (hl:f ≠ "law" := by decide):ev (aM (mkC L (n+1))) (.call f es) σ = .ok r:=by
 have g:aM (mkC L (n+1)) f=rg λvs=>cy f (mkC L n) fn vs:=by
  unfold aM
  rw[OB hl]
  show (L.lookup f).map _=_; rw[hL]; rfl
 rw[iv g he,hv,mG hp,h]
theorem Srt.good (h:Srt c r):eU c r:=⟨h.2,h.1.imp λq e=>by rw[e] at q; exact Int.lt_irrefl _ q⟩
theorem kq:∀ ks:vk (vk OF),ez (ks.map aO)=rg ks
 | []=>rfl
 | k::ks=>by simp only[Qo,ez,je,kq ks,TX,Ta]
theorem qQ (h0:ks≠[]) (h64:ks.length<64) (hne:ks.length<2\/[]∉ks):∃ m,b1V .sorted (.d (.list (ks.map aO))) = .ok (.d (.list ((bL ks).map aO)),m):=by
 refine ⟨fresh ((bL ks).map aO),?_⟩
 show dW (ks.map aO)=_
 unfold dW
 have g:aK (ks.map aO)=none:=by
  cases ks with
  | nil=>exact OW rfl h0
  | cons k ks=>rfl
 rw[OD (by rw[OV]; exact h64),g]
 show f9 _=_
 unfold f9
 rw[kq]
 show (if ks.length<2\/[]∉ks then _ else _)=_
 rw[OD hne]
theorem xO (r:vk OF):b1V .list (.d (aO r)) = .ok (.d (aa r),.deep):=by
 show Out.ok (V.d (.list (r.map O8)),fresh (r.map O8))=_
 have:fresh (r.map O8) = .deep:=by
  unfold fresh
  rw[OD]
  rw[WY,P9]
  intro _ _; rfl
 rw[this]; rfl
noncomputable def p_rank:Fn:=⟨["self", "things"],
(.cons (.expr (.call "need_row" (.cons (.attr (.name "self") "count") (.cons (.name "things") .nil))))
(.cons (.ret (.bi1 .max (.comp (.bi1 .len (.compif (.name "thing") "thing" (.e (.name "choice")) (.cmp .isin (.name "thing") (.name "things")))) "choice" (.e (.attr (.name "self") "full")))))
.nil))⟩
noncomputable def p_together:Fn:=⟨["self", "things"],
(.cons (.ret (.cmp .eq (.meth (.name "self") "rank" (.cons (.name "things") .nil)) (.bi1 .len (.name "things"))))
.nil)⟩
noncomputable def iD (things choice:vk OF):Nat:=(choice.filter λx=>decide (x∈things)).length
theorem jP:∀ {a b:vk OF},a.Nodup->(∀ x∈a,x∈b)->a.length<=b.length
 | [],_,_,_=>PZ _
 | x::a,b,hn,h=>by
  have i:=h x (.head _)
  refine ae (Q0.mp hn) λk j=>?_
  have:=jP (b:=b.erase x) j λy g=>(List.mem_erase_of_ne (λ(q:y=x)=>k (q▸g))).mpr (h y (.tail _ g))
  rw[List.length_erase_of_mem i] at this
  have l:0<b.length:=TB i
  rw[Pz]; exact Fc this l
theorem B3 {a b:vk OF}(hn:a.Nodup) (h:∀ x∈a,x∈b) (hl:b.length<=a.length):∀ x∈b,x∈a:=λx i=>by
 by_cases q:x∈a
 ·exact q
 ·have:=jP (a:=x::a) (Q0.mpr ⟨q,hn⟩) λy g=>(O9.mp g).elim (λe=>e▸i) (h y)
  rw[Pz] at this
  exact DI hl this
theorem sa (h:choice.Nodup):iD things choice<=things.length:=jP (h.filter _) λx g=>Pp (Qs.mp g).2
theorem pp (hc:choice.Nodup) (ht:things.Nodup):iD things choice=things.length↔∀ x∈things,x∈choice:=by
 constructor
 ·intro h x g
  exact (Qs.mp (B3 (hc.filter λx=>decide (x∈things)) (λx g=>Pp (Qs.mp g).2) (by unfold iD at h; exact ze h) x g)).1
 ·intro h
  exact P3 (sa hc) (jP ht λx g=>Qs.mpr ⟨h x g,PK g⟩)
theorem Dr (hL:L.lookup f=rg fn) (he:evs (aM (mkC L (n+1))) es σ = .ok q) (hv:q.map (·.1)=vs) (h:aA (mkC L n) fn vs = .exc c) (hp:iw f=true:=by decide) (hl:f ≠ "law" := by decide):ev (aM (mkC L (n+1))) (.call f es) σ = .exc c:=by
 have g:aM (mkC L (n+1)) f=rg λvs=>cy f (mkC L n) fn vs:=by
  unfold aM
  rw[OB hl]
  show (L.lookup f).map _=_; rw[hL]; rfl
 rw[iv g he,hv,mG hp,h]
theorem jy (hC:C "Rule" = rg g) (h:ev C a σ = .ok (.rule c d k,m)):ev C (.attr a "count") σ = .ok (sI c)/\ev C (.attr a "full") σ = .ok (mk (.d d))/\ev C (.attr a "size") σ = .ok (sI k):=by
 refine ⟨?_,?_,?_⟩<;>(simp only[eM,hC,am,h,Out.ok_bind]; rfl)
theorem Ch (ha:ev C a σ = .ok (.d (aa xs),m)) (h:eh xs=rg i):ev C (.bi1 .max a) σ = .ok (sI i):=by
 rw[dJ ha]
 show (am ((aK (xs.map O8)).bind eh) λi=>Out.ok (sI i))=_
 rw[cS,TX,h]
 rfl
theorem uE (lib:LibR L) (n:ON) (c k:OF) (u:vk (vk OF)) (things:vk OF) (hu:u≠[]) (hl:things.length<=1000) :
  (eU c things->∃ i,eh (u.map λr=>(iD things r:OF))=rg i/\aA (aM (mkC L (n+2))) p_rank [.rule c (ah u) k,.d (aa things)] = .ok (sI i)) /\
  (¬ eU c things->aA (aM (mkC L (n+2))) p_rank [.rule c (ah u) k,.d (aa things)] = .exc "NoThing"):=by
 refine aj (lib.nth) λnt q=>?_
 have v:mkC L (n+1) "NoThing" = rg λo=>cy "NoThing" (mkC L n) nt o:=by show (L.lookup "NoThing").map _=_; rw[q]; rfl
 have h:aM (mkC L (n+2)) "Rule" = rg λo=>cy "Rule" (mkC L (n+1)) p_Rule o:=by
  unfold aM
  rw[OB (by decide)]
  show (L.lookup "Rule").map _=_; rw[lib.rule]; rfl
 refine ae (jg v c things hl) λs1 z=>?_
 refine ⟨λt=>?_,λt=>?_⟩
 ·refine af (jI (xs:=u.map λr=>(iD things r:OF)) (by simpa using hu)) λi y _=>?_
  refine (ag i y ?_)
  unfold p_rank
  refine bX rfl λm H=>?_
  have j:=H.ev (C:=aM (mkC L (n+2))) (x:="self") rfl
  refine Runs.expr H (lF lib.need (ak (jy h j).1 (ak (H.ev (x:="things") rfl) aC)) rfl (s1 t)) λm H _=>?_
  have j:=H.ev (C:=aM (mkC L (n+2))) (x:="self") rfl
  refine Runs.ret (Ch (fR (g:=aa) (l:=u) (λr=>(iD things r:OF)) (aJ (jy h j).2.1 (aX u .sh)) λr _=>?_) y) rfl
  have H1:=H.mk "choice" (.d (aa r))
  exact cG (dY (λx=>decide (x∈things)) (aJ (H1.ev rfl) (bz r .sh)) λx _=>by
   have H2:=H1.mk "thing" (.d (.int x))
   exact t8 (H2.ev (x:="thing") rfl) (H2.ev (x:="things") rfl))
 ·refine af (da ["self", "things"] [V.rule c (ah u) k,V.d (aa things)] rfl) λm p H=>?_
  have j:=H.ev (C:=aM (mkC L (n+2))) (x:="self") rfl
  have e1:=Dr lib.need (ak (jy h j).1 (ak (H.ev (x:="things") rfl) aC)) rfl (z t)
  unfold aA
  rw[show bw p_rank.params [V.rule c (ah u) k,V.d (aa things)]=rg m from p]
  dsimp only
  unfold p_rank
  simp only[cP,b0,eY,hW,e1,Out.exc_bind]
structure LibT (L:vk (Ot×Fn)):Prop extends LibR L where
 rank:L.lookup "rank" = rg p_rank
 tog:L.lookup "together" = rg p_together
theorem rN (lib:LibT L) (n:ON) (hC:C "rank" = mkC L (n+3) "rank") (ha:ev C a σ = .ok (.rule c (ah u) k,m)) (hb:ev C b σ = .ok (.d (aa things),m')) :
  ev C (.meth a "rank" (.cons b .nil)) σ=aA (aM (mkC L (n+2))) p_rank [.rule c (ah u) k,.d (aa things)]:=by
 have h:C "rank" = rg λg=>cy "rank" (mkC L (n+2)) p_rank g:=by rw[hC]; show (L.lookup "rank").map _=_; rw[lib.rank]; rfl
 simp only[dR,ha,Out.ok_bind,fu,am,h,bi,a9,hb,Qo,Zl]
 rfl
theorem om (lib:LibT L) (n:ON) (c k:OF) (u:vk (vk OF)) (things:vk OF) (hu:u≠[]) (hl:things.length<=1000) :
  (eU c things->∃ i,eh (u.map λr=>(iD things r:OF))=rg i/\aA (aM (mkC L (n+3))) p_together [.rule c (ah u) k,.d (aa things)] = .ok (sB (decide (i=things.length)))) /\
  (¬ eU c things->aA (aM (mkC L (n+3))) p_together [.rule c (ah u) k,.d (aa things)] = .exc "NoThing"):=by
 refine ae (uE lib.toLibR n c k u things hu hl) λp o=>?_
 have m:aM (mkC L (n+3)) "rank" = mkC L (n+3) "rank" := by unfold aM; rw[OB (by decide)]
 refine ⟨λl=>?_,λl=>?_⟩
 ·refine af (p l) λi q h=>?_
  refine (ag i q ?_)
  unfold p_together
  refine bX rfl λg H=>?_
  refine Runs.ret (c8 ((rN lib n m (H.ev (x:="self") rfl) (H.ev (x:="things") rfl)).trans h) (cG (H.ev (x:="things") rfl))) rfl
 ·refine af (da ["self", "things"] [V.rule c (ah u) k,V.d (aa things)] rfl) λg j H=>?_
  have t:=(rN lib n m (H.ev (x:="self") rfl) (H.ev (x:="things") rfl)).trans (o l)
  unfold aA
  rw[show bw p_together.params [V.rule c (ah u) k,V.d (aa things)]=rg g from j]
  dsimp only
  unfold p_together
  simp only[cP,b0,hW]
  rw[show ev (aM (mkC L (n+3))) (.cmp .eq (.meth (.name "self") "rank" (.cons (.name "things") .nil)) (.bi1 .len (.name "things"))) g = .exc "NoThing" from by rw[ed,t]; rfl]
  rfl
noncomputable def l_bit:Fn:=⟨["_law_cell", "_law_k"],
(.cons (.for1 "_law_j" (.r1 (.name "_law_k"))
(.cons (.assign "_law_cell" (.bin .fdiv (.name "_law_cell") (.int 2)))
.nil))
(.cons (.ret (.cmp .eq (.bin .mod (.name "_law_cell") (.int 2)) (.int 1)))
.nil))⟩
noncomputable def l_held:Fn:=⟨["_law_script"],
(.cons (.assign "_law_made" (.call "_law_table" (.cons (.name "_law_script") .nil)))
(.cons (.ite (.or (.cmp .eq (.sub (.name "_law_made") (.int 1)) (.list .nil)) (.cmp .isnot (.call "_law_fault" (.cons (.sub (.name "_law_made") (.int 0)) (.cons (.sub (.name "_law_made") (.int 1)) .nil))) .none))
(.cons (.ret (.tup (.cons (.sub (.name "_law_made") (.int 0)) (.cons (.list (.cons (.compif (.name "_law_thing") "_law_thing" (.r1 (.sub (.name "_law_made") (.int 0))) (.call "_law_bit" (.cons (.call "_law_cell_at" (.cons (.name "_law_script") (.cons (.int 2) .nil))) (.cons (.name "_law_thing") .nil)))) .nil)) .nil))))
.nil)
.nil)
(.cons (.retn "_law_made")
.nil)))⟩
structure LibH (L:vk (Ot×Fn)):Prop extends Lib L where
 bit:L.lookup "_law_bit" = rg l_bit
 held:L.lookup "_law_held" = rg l_held
structure Hd (c:ON) (t:vk (vk OF)):Prop where
 hc:c<=100
 ne:t≠[]
 len:t.length<=63
 rows:∀ r∈t,r.length<=100/\Srt c r
 few:1<t.length->∀ r∈t,r.length<=60
 nf:NoF c t
theorem xE (C:Calls) (x:OF) (k:ON) (hk:k<=1000):∃ r,aA C l_bit [.d (.int x),.d (.int k)] = .ok r/\∃ b,r=sB b:=by
 unfold l_bit
 refine dF rfl λi H=>?_
 refine Runs.for (g:=O8) (xs:=aQ k) (λm i=>∃ y:OF,Has i [("_law_cell", .d (.int y))]) (bQ (H.ev rfl) (tH hk)) (λo h _=>⟨x,(h _ H).sub ⟨rfl,trivial⟩⟩) ?_ ?_
 ·intro m y n p i l
  refine aj (l) λz H=>?_
  clear l
  have H1:=H.mk "_law_j" (.d (.int y))
  exact Runs.set H1 (fM (H1.ev rfl) (ao 2) (by decide) (by decide)) λi H _=>Runs.nil ⟨_,H.sub ⟨rfl,trivial⟩⟩
 ·intro i j
  refine aj (j) λz H=>?_
  clear j
  exact Runs.ret (c8 (aY (H.ev rfl) (ao 2) (by decide)) (ao 1)) (ag _ rfl (bx _ rfl))
theorem Ir (ha:ev C a σ = .ok (.d (ah t),m)) (hb:ev C b σ = .ok (.d (ah u),m')):ev C (.cmp .eq a b) σ = .ok (sB (decide (t=u))):=bR ha hb (BW t u)
theorem CT (ha:ev C a σ = .ok (.d (aa r),m)):∃ m,ev C (.list (.cons a .nil)) σ = .ok (.d (ah [r]),m):=by
 refine ⟨if allDeep [(.d (aa r),m)] then .deep else .top,?_⟩
 simp only[bO,bi,a9,ha,Out.ok_bind]
 rfl
theorem v9 (lib:LibH L) (n:ON) (s:vk OF) (hs:s.length<=63):∃ r,aA (mkC L (n+4)) l_held [.d (aa s)] = .ok r/\∃ (c:ON) (t:vk (vk OF)),r.1 = .d (.tuple [.int c,ah t])/\Hd c t:=by
 unfold l_held
 refine dF rfl λσ H=>?_
 obtain ⟨u,v,c,t,g,h0,h,h2,k⟩:=ey (σ:=σ) (n:=n+3) lib.table (es:=.cons (.name "_law_script") .nil) (ak (H.ev rfl) aC) rfl (ug lib.toLib n s hs)
 obtain ⟨rv,rm⟩:=u
 cases g
 obtain ⟨c,rfl⟩:∃ d:ON,c=d:=⟨c.toNat,by exact Gk h0⟩
 refine Runs.set H v λσ H hσ=>?_
 have j:∀ {σ:St}{l:vk (Ot×V)},Has σ l->l.lookup "_law_made" = rg (.d (.tuple [.int c,ah t]))->ev (mkC L (n+4)) (.sub (.name "_law_made") (.int 0)) σ = .ok (sI c)/\ev (mkC L (n+4)) (.sub (.name "_law_made") (.int 1)) σ = .ok (.d (ah t),.sh):=λH a=>⟨tx (m:=.sh) (H.ev a) (ao 0),uc (m:=.sh) (H.ev a) (ao 1)⟩
 refine ae (j H rfl) λy d2=>?_
 have o:=bY (σ:=σ) lib.lfault (ak y (ak d2 aC)) rfl (rp lib.toLib (n+2) c t (Fg h) λr g=>by have:=(k r g).1; exact IW this)
 have en:ev (mkC L (n+4)) (.cmp .isnot (.call "_law_fault" (.cons (.sub (.name "_law_made") (.int 0)) (.cons (.sub (.name "_law_made") (.int 1)) .nil))) .none) σ = .ok (sB (!decide (fh c t=OC))):=by
  cases hf:fh c t with
  | none=>
   rw[hf] at o
   exact bR o jl rfl
  | some q=>
   rw[hf] at o
   exact bR (mx:=.sh) o jl rfl
 refine Runs.ite (gZ (Ir d2 mw) λuu=>en) (λuu=>?_) λq=>Runs.nil ?_
 ·obtain ⟨p,hp⟩:=kn (l:=aQ c) (Q:=λi b=>ev (mkC L (n+4)) (.call "_law_bit" (.cons (.call "_law_cell_at" (.cons (.name "_law_script") (.cons (.int 2) .nil))) (.cons (.name "_law_thing") .nil))) (upd σ "_law_thing" (sI i)) = .ok (sB b)) λi hi=>by
   have H2:Has (upd σ "_law_thing" (sI i)) _:=H.upd "_law_thing" (.d (.int i)) .deep
   obtain ⟨i,rfl⟩:∃ d:ON,i=d:=⟨i.toNat,by have:=mem_upTo.mp hi; exact Jg this⟩
   obtain ⟨_,v,b,rfl⟩:=ey (n:=n+3) lib.bit (es:=.cons (.call "_law_cell_at" (.cons (.name "_law_script") (.cons (.int 2) .nil))) (.cons (.name "_law_thing") .nil)) (ak (cj lib.toLib (H2.ev rfl) (ao 2) (by decide)) (ak (H2.ev rfl) aC)) rfl (xE _ _ i (by have:=mem_upTo.mp hi; exact Fa h this))
   exact ⟨b,v⟩
  refine aj (CT (dY (z:="_law_thing") p (bQ y (D6 h)) hp)) λm1 e3=>?_
  refine cT y e3 λm2 e4=>?_
  have hl:((aQ c).filter p).length<=100:=by
   have:=Q1 p (aQ c)
   rw[br] at this; exact Ho h this
  refine Runs.ret e4 ⟨_,rfl,c,_,rfl,by exact yT h,by simp,by simp,λr g=>?_,λq=>by simp at q,.one c _⟩
  rw[OK.mp g]
  exact ⟨hl,(hJ c).filter _,λx hx=>mem_upTo.mp (Qs.mp hx).1⟩
 ·refine aj (H "_law_made" _ rfl) λm e=>?_
  refine ae (Tj.mp q) λq1 q2=>?_
  refine Runs.retn e ⟨_,rfl,c,t,rfl,by exact yT h,Rt q1,h2,λr g=>⟨by have:=(k r g).1; exact IP this,(k r g).2⟩,λuu r g=>by have:=(k r g).1; exact HW this,fault_none.mp ?_⟩
  simpa using q2
theorem BQ (lib:LibR L) (he:evs (mkC L (n+1)) es σ = .ok q) (hv:q.map (·.1)=vs) (h:c6 (aM (mkC L n)) p_Rule vs = .ok r):ev (mkC L (n+1)) (.call "Rule" es) σ = .ok r:=by
 have g:mkC L (n+1) "Rule" = rg λvs=>cy "Rule" (mkC L n) p_Rule vs:=by show (L.lookup "Rule").map _=_; rw[lib.rule]; rfl
 rw[iv g he,hv]
 exact h
theorem w5 {a:vk OF}(h:a.Pairwise (· < ·)):a.Nodup:=Xk (R:=(· < ·)) (S:=(·≠·)) (λh=>Y5 h) h
noncomputable def iT:Fn:=⟨["_law_found", "_law_due"],
(.cons (.ite (.or (.not (.isi (.name "_law_found") "list")) (.cmp .ne (.bi1 .len (.name "_law_found")) (.bi1 .len (.name "_law_due"))))
(.cons (.ret (.bool Oz))
.nil)
.nil)
(.cons (.for1 "_law_k" (.r1 (.bi1 .len (.name "_law_due")))
(.cons (.ite (.or (.not (.call "_law_whole" (.cons (.sub (.name "_law_found") (.name "_law_k")) .nil))) (.cmp .ne (.sub (.name "_law_found") (.name "_law_k")) (.sub (.name "_law_due") (.name "_law_k"))))
(.cons (.ret (.bool Oz))
.nil)
.nil)
.nil))
(.cons (.ret (.bool Gt))
.nil)))⟩
theorem qP (lib:Lib L) (n:ON) (r:vk OF) (hl:r.length<=1000):aA (mkC L (n+1)) iT [.d (aa r),.d (aa r)] = .ok (sB Gt):=by
 unfold iT
 refine bX rfl λi H=>?_
 refine Runs.no (gZ (p:=Oz) (q:=Oz) (fy (t:=Gt) (sw (H.ev (x:="_law_found") rfl) rfl)) λuu=>(ju (cG (H.ev (x:="_law_found") rfl)) (cG (H.ev (x:="_law_due") rfl))).trans (by simp)) ?_
 refine Runs.for (g:=O8) (xs:=aQ r.length) (λj i=>Has i [("_law_found", .d (aa r)),("_law_due", .d (aa r))]) (bQ (cG (H.ev (x:="_law_due") rfl)) (tH hl)) (λu h _=>(h _ H).sub ⟨rfl,rfl,trivial⟩) ?_ λi H=>Runs.ret (c7 Gt) rfl
 intro j y l z i H
 have k:=mem_upTo.mp (show y∈aQ r.length by rw[z]; simp)
 have H1:=H.mk "_law_k" (.d (.int y))
 obtain ⟨v,m⟩:∃ v,r[y.toNat]? = rg v:=⟨_,OY (As k)⟩
 have o:ev (mkC L (n+1)) (.sub (.name "_law_found") (.name "_law_k")) (upd i "_law_k" (mk (.d (.int y)))) = .ok (sI v):=fP (H1.ev rfl) (H1.ev rfl) k.1 m
 have e2:ev (mkC L (n+1)) (.sub (.name "_law_due") (.name "_law_k")) (upd i "_law_k" (mk (.d (.int y)))) = .ok (sI v):=fP (H1.ev rfl) (H1.ev rfl) k.1 m
 exact Runs.no (gZ (p:=Oz) (q:=Oz) (fy (t:=Gt) (bY lib.whole (ak o aC) rfl (tw _ v))) λuu=>(ju o e2).trans (by simp)) (Runs.nil (H1.sub ⟨rfl,rfl,trivial⟩))
theorem kZ (h:(L.lookup f).isSome=Gt) (n:ON):∃ g,mkC L (n+1) f=rg g:=by
 refine bP h λj i=>?_
 exact ⟨_,by show (L.lookup f).map _=_; rw[i]; rfl⟩
theorem mh (C:Calls) (r:vk OF) (o x:OF) (h:r.length<127) (h0:∀ i∈r,0<=i) (hx:0<=x):aA C p_exchanged [.d (aa r),.d (.int o),.d (.int x)] = .ok (.d (aa (cW r o x)),.deep):=by
 have g:(r.filter λx=>!decide (x=o)).length<=r.length:=Q1 ..
 unfold p_exchanged
 refine bX rfl λk H=>Runs.ret (jt (dH (dY (λi=>!decide (i=o)) (aJ (H.ev (x:="choice") rfl) (bz r .sh)) λi _=>?_) (ei (H.ev (x:="thing") rfl)) (by rw[O6]; exact Gz h g)) (by rw[O3,O6]; exact Jo h g) λi j=>?_) rfl
 ·have H2:=H.upd "one" (.d (.int i)) .deep
  exact ju (H2.ev (x:="one") rfl) (H2.ev (x:="out") rfl)
 ·rcases O7.mp j with q | q
  ·exact h0 i (Qs.mp q).1
  ·rw[OK.mp q]; exact hx
section
end
theorem Runs.ins (H:Has σ l) (hz:σ z=rg (.d (aa xs),m)) (hm:m≠.sh) (hi:ev C a σ = .ok (sI i)) (h:ev C e σ = .ok (sI x)) (h0:0<=i) (h1:i<=xs.length) (hl:xs.length<1000000)
  (k:∀ σ',Has σ' ((z,.d (aa (xs.take i.toNat++x::xs.drop i.toNat)))::l)->σ' z=rg (.d (aa (xs.take i.toNat++x::xs.drop i.toNat)),m)->Runs C bb σ' Post):Runs C (.cons (.insert z a e) bb) σ Post:=by
 refine Runs.cons (o:=(upd σ z (.d (aa (xs.take i.toNat++x::xs.drop i.toNat)),m),.next)) ?_ (k _ (H.upd z _ m) (OD rfl))
 simp only[jb,hi,h,Out.ok_bind,lA,fq,cL,hz,nG,yo,C5]
 rw[OB (by rw[OV]; exact λq=>q.elim hm λq=>q.elim (FS h0) (IC h1)),jK (by rw[O3,Pz,RQ,QU,OV]; exact FJ hl),t6,Out.calm_ok]
theorem wG (xs:vk OF) (i:ON) (x:OF):(xs.take i++x::xs.drop i).Perm (x::xs):=by
 have:=List.perm_middle (a:=x) (l₁:=xs.take i) (l₂:=xs.drop i)
 rwa [Qw] at this
noncomputable def p_order:Fn:=⟨["weights"],
(.cons (.ret (.order "weights" "thing"))
.nil)⟩
noncomputable def p_picked:Fn:=⟨["rule", "weights"],
(.cons (.ite (.cmp .ne (.bi1 .len (.name "weights")) (.attr (.name "rule") "count"))
(.cons (.raise "NoWeights")
.nil)
.nil)
(.cons (.assign "kept" (.list .nil))
(.cons (.for1 "thing" (.e (.call "order" (.cons (.name "weights") .nil)))
(.cons (.ite (.meth (.name "rule") "together" (.cons (.bin .add (.name "kept") (.list (.cons (.name "thing") .nil))) .nil))
(.cons (.append "kept" (.name "thing"))
.nil)
.nil)
.nil))
(.cons (.ret (.bi1 .sorted (.name "kept")))
.nil))))⟩
noncomputable def iI:Fn:=⟨["_law_cell", "_law_mode"],
(.cons (.ite (.cmp .eq (.name "_law_mode") (.int 0))
(.cons (.ret (.bin .sub (.bin .mod (.name "_law_cell") (.int 5)) (.int 2)))
.nil)
.nil)
(.cons (.ite (.cmp .eq (.name "_law_mode") (.int 1))
(.cons (.ret (.bin .sub (.bin .mod (.name "_law_cell") (.int 2001)) (.int 1000)))
.nil)
.nil)
(.cons (.assign "_law_far" (.bin .mod (.name "_law_cell") (.bin .pow (.int 10) (.int 60))))
(.cons (.ite (.and (.cmp .eq (.name "_law_mode") (.int 2)) (.cmp .eq (.bin .mod (.bin .fdiv (.name "_law_cell") (.int 10)) (.int 2)) (.int 0)))
(.cons (.retn "_law_far")
.nil)
.nil)
(.cons (.ret (.neg (.name "_law_far")))
.nil)))))⟩
theorem AQ (h:ltL [a,b] [c,d]=Oz):c<=a/\(a=c->d<=b):=by
 unfold ltL ltL ltL at h
 by_cases e:a=c
 ·rw[OD e] at h
  refine ⟨by exact Au e,λ_=>?_⟩
  by_cases e2:b=d
  ·exact Au e2
  ·rw[OB e2] at h; simp at h; exact zD h
 ·rw[OB e] at h
  simp at h
  exact ⟨by exact zD h,λq=>OW q e⟩
noncomputable def xY (ns:vk OF):vk (vk OF×ON):=((Qe ns.length).map λi=>(dD ns i,i)).mergeSort λa b=>!ltL b.1 a.1
theorem jk (ns:vk OF):(xY ns).Perm ((Qe ns.length).map λi=>(dD ns i,i)):=QA _ _
theorem A3 (ns:vk OF):(xY ns).Pairwise λa b=>ltL b.1 a.1=false:=by
 refine (Q9 (le:=λ(a b:vk OF×ON)=>!ltL b.1 a.1) (λa b c i g=>?_) (λa b=>?_) _).imp λh=>by simpa using h
 ·simp only[PL] at i g ⊢
  cases q:ltL c.1 a.1 with
  | false=>rfl
  | true=>
   cases r:ltL a.1 b.1 with
   | true=>rw[cM q r] at g; cases g
   | false=>rw[<- eW r i,q] at g; cases g
 ·cases q:ltL b.1 a.1 with
  | false=>simp
  | true=>
   cases r:ltL a.1 b.1 with
   | true=>have:=cM q r; rw[il] at this; cases this
   | false=>simp
theorem rO (ns:vk OF):bN ns=(xY ns).map λp=>(p.2:OF):=rfl
theorem gP (ns:vk OF):(bN ns).Perm (aQ ns.length):=by
 rw[rO]
 refine ((jk ns).map _).trans (Th ?_)
 rw[Vx]; rfl
theorem iY (h:i∈bN ns):0<=i/\i<ns.length:=mem_upTo.mp ((gP ns).mem_iff.mp h)
theorem lP (ns:vk OF):(bN ns).Nodup:=by
 refine (gP ns).symm.nodup ?_
 unfold aQ
 exact Rj.mpr (List.nodup_range.imp λh q=>h (zE q))
theorem dE (ns:vk OF):(bN ns).length=ns.length:=by rw[(gP ns).length_eq,br]
noncomputable def wt (ns:vk OF) (a:OF):Int:=ns.getD a.toNat 0
def Bef (ns:vk OF) (a b:OF):Prop:=wt ns b<=wt ns a/\(wt ns a=wt ns b->a<=b)
theorem BD (ns:vk OF):(bN ns).Pairwise (Bef ns):=by
 rw[rO,Rj]
 refine RJ (λ{a b} m l h=>?_) (A3 ns)
 refine af (Tx.mp ((jk ns).mem_iff.mp m)) λi _ k=>?_
 subst k
 refine af (Tx.mp ((jk ns).mem_iff.mp l)) λj _ g=>?_
 subst g
 have:=AQ (show ltL [-(ns.getD j 0),(j:OF)] [-(ns.getD i 0),(i:OF)]=Oz from h)
 show ns.getD j 0<=ns.getD i 0/\(ns.getD i 0=ns.getD j 0->(i:OF)<=j)
 exact ⟨by exact EI this,λq=>this.2 (FH q)⟩
theorem Bef.anti (h:Bef ns a b) (g:Bef ns b a):a=b:=by
 have e:wt ns a=wt ns b:=Sg g.1 h.1
 exact Sg (h.2 e) (g.2 e.symm)
theorem Ct {ns a b:vk OF}(p:a.Perm b) (ha:a.Pairwise (Bef ns)) (hb:b.Pairwise (Bef ns)):a=b:=p.eq_of_pairwise (λx y _ _ h g=>h.anti g) ha hb
structure LibO (L:vk (Ot×Fn)):Prop extends LibT L where
 order:L.lookup "order" = rg p_order
 picked:L.lookup "picked" = rg p_picked
 law:(L.lookup "law").isSome=Gt
 now:(L.lookup "NoWeights").isSome=Gt
theorem sS (hl:(L.lookup "law").isSome=Gt) (n:ON) (ws:vk OF) (h:ws.length<128):aA (mkC L (n+1)) p_order [.d (aa ws)] = .ok (.d (aa (bN ws)),.deep):=by
 unfold p_order
 refine bX rfl λi H=>Runs.ret ?_ rfl
 refine aj (H "weights" (.d (aa ws)) rfl) λm k=>?_
 refine aj (S5.mp hl) λl g=>?_
 rw[fm]
 have:mkC L (n+1) "law" = rg λj=>cy "law" (mkC L n) l j:=by show (L.lookup "law").map _=_; rw[g]; rfl
 rw[this]
 show eF (i "weights")=_
 rw[k]
 show am (aK (ws.map O8)) _=_
 rw[cS]
 show (if ws.length<128 then _ else _)=_
 rw[OD h]; rfl
theorem G3 (h:ev C a σ = .ok (sI x)):ev C (.neg a) σ = .ok (sI (-x)):=by simp only[fY,h,Out.ok_bind]; rfl
noncomputable def jV (c m:OF):Int:=if m=0 then c%5-2 else if m=1 then c%2001-1000 else if m=2/\c/10%2=0 then c%10^60 else -(c%10^60)
theorem re (C:Calls) (c m:OF):aA C iI [.d (.int c),.d (.int m)] = .ok (sI (jV c m)):=by
 unfold iI jV
 refine bX rfl λh H=>?_
 refine Runs.ite (c8 (H.ev (x:="_law_mode") rfl) (ao 0)) (λq=>?_) λq=>Runs.nil ?_
 ·rw[OD (Pp q)]
  exact Runs.ret (z8 (aY (H.ev rfl) (ao 5) (by decide)) (ao 2)) (Cont.ret rfl)
 rw[OB (Rt q)]
 refine Runs.ite (c8 (H.ev (x:="_law_mode") rfl) (ao 1)) (λq=>?_) λq=>Runs.nil ?_
 ·rw[OD (Pp q)]
  exact Runs.ret (z8 (aY (H.ev rfl) (ao 2001) (by decide)) (ao 1000)) (Cont.ret rfl)
 rw[OB (Rt q)]
 refine Runs.set H (aY (H.ev rfl) (y:=10^60) ((dG (ao 10) (ao 60)).trans rfl) (by decide)) λh H g=>?_
 refine Runs.ite (gL (c8 (H.ev (x:="_law_mode") rfl) (ao 2)) λuu=>c8 (aY (fM (H.ev rfl) (ao 10) (by decide) (by decide)) (ao 2) (by decide)) (ao 0)) (λq=>?_) λq=>Runs.nil ?_
 ·simp only[OJ,Pk] at q
  rw[OD q]
  exact Runs.retn g (Cont.ret rfl)
 ·have i:¬ (m=2/\c/10%2=0):=by simpa using q
  rw[OB i]
  exact Runs.ret (G3 (H.ev rfl)) rfl
def jE (u:vk (vk OF)) (xs:vk OF):Bool:=u.any λr=>xs.all λx=>decide (x∈r)
theorem kU:jE u xs=Gt↔∃ r∈u,∀ x∈xs,x∈r:=by
 unfold jE
 simp only[TY,P9,Pk]
noncomputable def dK (u:vk (vk OF)) (kept:vk OF) (x:OF):vk Int:=if jE u (kept++[x]) then kept++[x] else kept
noncomputable def aW (u:vk (vk OF)) (l:vk OF):vk Int:=l.foldl (dK u) []
noncomputable def gW (u:vk (vk OF)) (ws:vk OF):vk Int:=ew (aW u (bN ws))
theorem fJ (u:vk (vk OF)) (l:vk OF) (x:OF):aW u (l++[x])=dK u (aW u l) x:=by unfold aW; rw[List.foldl_append]; rfl
theorem nQ (u:vk (vk OF)):∀ (l acc:vk OF),(l.foldl (dK u) acc).Sublist (acc++l)
 | [],acc=>by rw[RH]; exact UX _
 | x::l,acc=>by
  refine (nQ u l _).trans ?_
  show (dK u acc x++l).Sublist (acc++([x]++l))
  rw[<- QO]
  refine Z0 ?_ (UX _)
  unfold dK
  split
  ·exact UX _
  ·exact Te _ _
theorem dX (u:vk (vk OF)) (l:vk OF):(aW u l).Sublist l:=nQ u l []
theorem tD (h:∀ r,r∈u↔r∈t) (xs:vk OF):jE u xs=jE t xs:=by
 rw[Uj,kU,kU]
 exact ⟨λ⟨r,a,b⟩=>⟨r,(h r).mp a,b⟩,λ⟨r,a,b⟩=>⟨r,(h r).mpr a,b⟩⟩
theorem qY (h:∀ r,r∈u↔r∈t) (l:vk OF):aW u l=aW t l:=by
 have:dK u=dK t:=by
  funext k x
  unfold dK
  rw[tD h]
 unfold aW; rw[this]
theorem BZ (h:eh xs=rg i):∀ x∈xs,x<=i:=by
 cases xs with
 | nil=>cases h
 | cons a xs=>
  have m:∀ (l:vk OF) (a:OF),a<=l.foldl (λa b=>if a<b then b else a) a/\∀ x∈l,x<=l.foldl (λa b=>if a<b then b else a) a:=by
   intro l
   induction l with
   | nil=>exact λa=>⟨UN _,λuu q=>nomatch q⟩
   | cons y l ih=>
    intro a
    rw[Wx]
    by_cases q:a<y
    ·rw[OD q]
     refine ae (ih y) λg k=>?_
     exact ⟨by exact EW q g,λx j=>(O9.mp j).elim (λe=>e▸g) (k x)⟩
    ·rw[OB q]
     refine ae (ih a) λg k=>?_
     exact ⟨g,λx j=>(O9.mp j).elim (λe=>by rw[e]; exact KF q g) (k x)⟩
  refine ae (m xs a) λg k=>?_
  cases h
  exact λx j=>(O9.mp j).elim (λe=>e▸g) (k x)
theorem Bk (nd:∀ r∈u,r.Nodup) (hg:things.Nodup) (hi:eh (u.map λr=>(iD things r:OF))=rg i) (hu:u≠[]):decide (i=things.length)=jE u things:=by
 refine af (jI (xs:=u.map λr=>(iD things r:OF)) (by simpa using hu)) λj x m=>?_
 obtain rfl:i=j:=vj (hi.symm.trans x)
 refine af (Tx.mp m) λk g h=>?_
 have l:=BZ hi
 rw[Uj,kU,Pk]
 refine ⟨λq=>⟨k,g,(pp (nd k g) hg).mp (EF h q)⟩,λ⟨r,n,v⟩=>?_⟩
 have t:=(pp (nd r n) hg).mpr v
 have p:=l _ (Tx.mpr ⟨r,n,rfl⟩)
 have o:=sa (things:=things) (nd k g)
 exact FY h t p o
theorem Dt (lib:LibT L) (n:ON) (hC:C "together" = mkC L (n+4) "together") (ha:ev C a σ = .ok (.rule c (ah u) k,m)) (hb:ev C b σ = .ok (.d (aa things),m')) :
  ev C (.meth a "together" (.cons b .nil)) σ=aA (aM (mkC L (n+3))) p_together [.rule c (ah u) k,.d (aa things)]:=by
 have h:C "together" = rg λg=>cy "together" (mkC L (n+3)) p_together g:=by rw[hC]; show (L.lookup "together").map _=_; rw[lib.tog]; rfl
 simp only[dR,ha,Out.ok_bind,fu,am,h,bi,a9,hb,Qo,Zl]
 rfl
theorem qS (lib:LibO L) (n:ON) (c:ON) (k:OF) (u:vk (vk OF)) (ws:vk OF) (hu:u≠[]) (nd:∀ r∈u,r.Nodup) (hc:c<=100) (hw:ws.length=c) :
  aA (mkC L (n+4)) p_picked [.rule c (ah u) k,.d (aa ws)] = .ok (.d (aa (gW u ws)),.deep):=by
 obtain ⟨gR,hR⟩:=kZ (L:=L) (f:="Rule") (by rw[lib.rule]; rfl) (n+3)
 unfold p_picked
 refine bX rfl λo H=>?_
 refine Runs.no ((ju (cG (H.ev (x:="weights") rfl)) (jy hR (H.ev (x:="rule") rfl)).1).trans (by simp[hw])) ?_
 refine Runs.set H lK λo H m=>?_
 have eo:ev (mkC L (n+4)) (.call "order" (.cons (.name "weights") .nil)) o = .ok (.d (aa (bN ws)),.deep):=bY lib.order (ak (H.ev (x:="weights") rfl) aC) rfl (sS lib.law (n+2) ws (Js hc hw))
 refine Runs.for (g:=O8) (xs:=bN ws) (λj o=>Has o [("rule", .rule c (ah u) k),("kept", .d (aa (aW u j)))]/\o "kept" = rg (.d (aa (aW u j)),.deep)) (aJ eo (bz _ .deep)) (λσ0 h hh=>⟨(h _ H).sub ⟨rfl,rfl,trivial⟩,(hh _ (by simp[fQ,kJ,jm,o9,dO])).trans m⟩) ?_ ?_
 ·intro j y post hl o z
  refine ae (z) λH m=>?_
  clear z
  have t:(aW u j).Sublist (bN ws):=(dX u j).trans (by rw[hl]; exact Te _ _)
  have hy:y∉aW u j:=λq=>by
   have:=lP ws
   rw[hl,R9] at this
   exact this.2.2 y ((dX u j).subset q) y (.head _) rfl
  have hy0:=iY (ns:=ws) (i:=y) (by rw[hl]; simp)
  have hg:eU c (aW u j++[y]):=by
   refine ⟨λx hx=>?_,?_⟩
   ·rcases O7.mp hx with q | q
    ·have:=iY (t.subset q); exact zJ hw this
    ·rw[OK.mp q]; exact zJ hw hy0
   ·rw[R9]
    exact ⟨(lP ws).sublist t,by simp,λa ha b hb q=>hy (by rw[<- OK.mp hb,<- q]; exact ha)⟩
  have l:(aW u j).length<=100:=by have:=t.length_le; rw[dE] at this; exact EE hc hw this
  obtain ⟨i,hi,e1⟩:=(om lib.toLibT n c k u (aW u j++[y]) hu (by rw[O3]; simp; exact Fi l)).1 hg
  rw[Bk nd hg.2 hi hu] at e1
  have H1:=H.mk "thing" (.d (.int y))
  have p:upd o "thing" (mk (.d (.int y))) "kept" = rg (.d (aa (aW u j)),.deep):=(OB (by decide)).trans m
  refine Runs.ite ((Dt lib.toLibT n rfl (H1.ev (x:="rule") rfl) (dH (H1.ev (x:="kept") rfl) (ei (H1.ev (x:="thing") rfl)) (by simp; exact Ah l))).trans e1) (λq=>?_) λq=>Runs.nil (Runs.nil ?_)
  ·refine Runs.app H1 p (by decide) (H1.ev rfl) (zf l) λσ' H2 hσ2 _=>Runs.nil (Runs.nil ?_)
   have e:aW u (j++[y])=aW u j++[y]:=by rw[fJ]; unfold dK; rw[OD q]
   rw[e]
   exact ⟨H2.sub ⟨rfl,rfl,trivial⟩,hσ2⟩
  ·have e:aW u (j++[y])=aW u j:=by rw[fJ]; unfold dK; rw[OB (by rw[q]; decide)]
   rw[e]
   exact ⟨H1.sub ⟨rfl,rfl,trivial⟩,p⟩
 ·intro o v
  refine ae (v) λH m=>?_
  clear v
  have t:=dX u (bN ws)
  refine Runs.ret (jt (H.ev rfl) (by have:=t.length_le; rw[dE] at this; exact JL hc hw this) λi hi=>(iY (t.subset hi)).1) rfl
theorem sH (lib:LibO L) (n:ON) (c k:OF) (d:OU) (ws:vk OF) (hw:(ws.length:OF)≠c):aA (mkC L (n+1)) p_picked [.rule c d k,.d (aa ws)] = .exc "NoWeights" := by
 obtain ⟨m,i⟩:=kZ (L:=L) (f:="Rule") (by rw[lib.rule]; rfl) n
 refine aj (kZ (L:=L) (f:="NoWeights") lib.now n) λo j=>?_
 refine af (da ["rule", "weights"] [V.rule c d k,V.d (aa ws)] rfl) λh g H=>?_
 have l:ev (mkC L (n+1)) (.cmp .ne (.bi1 .len (.name "weights")) (.attr (.name "rule") "count")) h = .ok (sB Gt):=(ju (cG (H.ev (x:="weights") rfl)) (jy i (H.ev (x:="rule") rfl)).1).trans (by simp[hw])
 unfold aA
 rw[show bw p_picked.params [V.rule c d k,V.d (aa ws)]=rg h from g]
 dsimp only
 unfold p_picked
 simp only[cP,b0,fV,l,Out.ok_bind,fo,j,am]
 rfl
section
end
theorem th (lib:Lib L) (n:ON) (t:vk (vk OF)) (v:V) (K:Kn t v) (one other:vk OF) (x:OF) (ht:t≠[]) (h:∀ o,aA (mkC L n) p_exchanged [.d (aa one),.d (.int o),.d (.int x)] = .ok (.d (aa (cW one o x)),.deep)):aA (mkC L (n+1)) p_goes [v,.d (aa one),.d (aa other),.d (.int x)] = .ok (sB (dB t one other x)):=by
 rcases K with ⟨q,_⟩ | ⟨ks,rfl,_,hk,_⟩
 ·exact OW q ht
 unfold p_goes dB
 refine bX rfl λj H=>?_
 refine Runs.seek (g:=O8) (xs:=one) (λj=>Has j [("known", .dicT ks),("one", .d (aa one)),("other", .d (aa other)),("thing", .d (.int x))]) (λo=>if (!decide (o∈other)&&decide (cW one o x∈t))=Gt then rg () else OC) (λuu=>sB Gt) (aJ (H.ev rfl) (bz one .sh)) (λl h _=>(h _ H).sub (cr rfl rfl rfl rfl trivial)) (λo p j H=>?_) (λq k _=>?_) λuu q k=>?_
 ·have H1:=H.mk "out" (.d (.int o))
  have m:ev (mkC L (n+1)) (.cmp .isin (.bi1 .tuple (.call "exchanged" (.cons (.name "one") (.cons (.name "out") (.cons (.name "thing") .nil))))) (.name "known")) (upd j "out" (mk (.d (.int o)))) = .ok (sB (decide (cW one o x∈t))):=by
   refine bR (r5 (bY lib.exch (ak (H1.ev rfl) (ak (H1.ev rfl) (ak (H1.ev rfl) aC))) rfl (h o))) (H1.ev (x:="known") rfl) ?_
   show (am (eu (aO (cW one o x))) λi=>Out.ok (decide (i∈ks)))=_
   rw[je]
   exact RM Out.ok (SN.mpr (hk _))
  refine Runs.ite (gL (k9 (H1.ev rfl) (H1.ev rfl)) λuu=>m) (λq=>Runs.ret (c7 Gt) (Cont.ret (Sk.ret (q:=()) (OD q)))) λq=>Runs.nil (Runs.nil (Sk.next (OB (by rw[q]; decide)) (H1.sub (cr rfl rfl rfl rfl trivial))))
 ·rw[iJ] at q
  refine Runs.ret (c7 Oz) ?_
  by_cases e:(one.any λo=>!decide (o∈other)&&decide (cW one o x∈t))=Gt
  ·rw[OD e] at q; cases q
  ·rw[Uw.mpr e]
 ·rw[iJ] at q
  by_cases e:(one.any λo=>!decide (o∈other)&&decide (cW one o x∈t))=Gt
  ·rw[e]
  ·rw[OB e] at q; cases q
theorem qR (lib:Lib L) (n:ON) (c:ON) (t:vk (vk OF)) (hc:c<=1000) (hl:t.length<=1000) (h:∀ one∈t,∀ other∈t,∀ x∈other,x∉one->∀ o,aA (mkC L n) p_exchanged [.d (aa one),.d (.int o),.d (.int x)] = .ok (.d (aa (cW one o x)),.deep)):aA (mkC L (n+2)) p_fault [.d (.int c),.d (ah t)] = .ok (sQ (fh c t)):=by
 unfold p_fault fh
 refine bX rfl λσ H=>?_
 obtain ⟨_,y,v,m,K⟩:=ey (σ:=σ) (n:=n+1) lib.known (es:=.cons (.name "table") .nil) (ak (H.ev rfl) aC) rfl (lQ _ t hl)
 subst m
 refine Runs.set H y λσ H _=>?_
 refine Runs.seek (g:=aa) (xs:=t) (λσ=>Has σ [("table", .d (ah t)),("count", .d (.int c)),("known", v)]) (λone=>(aQ c).findSome? λx=>if x∈one then OC else t.findSome? λother=>if (decide (x∈other) && !dB t one other x)=Gt then rg (one,other,x) else OC) (λq=>sQ (rg q)) (aJ (H.ev rfl) (aX t .sh)) (λl h _=>(h _ H).sub (cX rfl rfl rfl trivial)) (λone k σ H=>?_) (λq i _=>?_) λq p i=>?_
 ·have H1:=H.mk "one" (.d (aa one))
  refine Runs.seek (g:=O8) (xs:=aQ c) (λσ=>Has σ [("table", .d (ah t)),("count", .d (.int c)),("known", v),("one", .d (aa one))]) (λx=>if x∈one then OC else t.findSome? λother=>if (decide (x∈other) && !dB t one other x)=Gt then rg (one,other,x) else OC) (λq=>sQ (rg q)) (bQ (H1.ev rfl) (tH hc)) (λl h _=>(h _ H1).sub (cr rfl rfl rfl rfl trivial)) (λx z σ H=>?_) (λq i H=>Runs.nil ?_) λq p i=>?_
  ·have H2:=H.mk "thing" (.d (.int x))
   refine Runs.ite (k9 (H2.ev rfl) (H2.ev rfl)) (λq=>?_) λq=>Runs.nil (Runs.nil ?_)
   ·have j:x∉one:=by simpa using q
    refine Runs.seek (g:=aa) (xs:=t) (λσ=>Has σ [("table", .d (ah t)),("count", .d (.int c)),("known", v),("one", .d (aa one)),("thing", .d (.int x))]) (λother=>if (decide (x∈other) && !dB t one other x)=Gt then rg (one,other,x) else OC) (λq=>sQ (rg q)) (aJ (H2.ev rfl) (aX t .sh)) (λl h _=>(h _ H2).sub (lI rfl rfl rfl rfl rfl trivial)) (λother u σ H=>?_) (λq i H=>Runs.nil (Runs.nil ?_)) λq p i=>?_
    ·have H3:=H.mk "other" (.d (aa other))
     refine Runs.ite (gL (t8 (H3.ev rfl) (H3.ev rfl)) λr=>fy (bY lib.goes (ak (H3.ev rfl) (ak (H3.ev rfl) (ak (H3.ev rfl) (ak (H3.ev rfl) aC)))) rfl (th lib n t v K one other x (List.ne_nil_of_mem k) (h one k other u x (Pp r) j)))) (λq=>?_) λq=>Runs.nil (Runs.nil ?_)
     ·exact Runs.ret (uq (lH (H3.ev rfl)) (lH (H3.ev rfl)) (H3.ev rfl)) (Cont.ret (Sk.ret (q:=(one,other,x)) (OD q)))
     ·exact Sk.next (OB (by rw[q]; decide)) (H3.sub (lI rfl rfl rfl rfl rfl trivial))
    ·exact Sk.next ((OB j).trans q) (H.sub (cr rfl rfl rfl rfl trivial))
    ·exact Cont.ret (Sk.ret ((OB j).trans p))
   ·have j:x∈one:=by simpa using q
    exact Sk.next (OD j) (H2.sub (cr rfl rfl rfl rfl trivial))
  ·exact Sk.next q (H.sub (cX rfl rfl rfl trivial))
  ·exact Sk.ret p
 ·rw[q]; exact Runs.ret jl rfl
 ·rw[p]
theorem t0 (lib:LibR L) (n:ON) (c:ON) (t:vk (vk OF)) (hc:c<=1000) (ht:t≠[]) (hl:t.length<=63) (hr:∀ r∈t,r.length<=100/\Srt c r) (nf:NoF c t) :
  ∃ u x,c6 (aM (mkC L (n+3))) p_Rule [.d (.int c),.d (ah t)] = .ok (.rule c (ah u) (x:vk OF).length,.deep)/\(∀ r,r∈u↔r∈t)/\u[0]? = rg x/\∃ ks,u=bL ks/\ks.Nodup/\ks.length<=t.length:=by
 refine aj (lib.nth) λnt hnt=>?_
 have hNT:mkC L (n+2) "NoThing" = rg λvs=>cy "NoThing" (mkC L (n+1)) nt vs:=by show (L.lookup "NoThing").map _=_; rw[hnt]; rfl
 have p:∀ σ,Has σ (["count", "table"].zip [V.d (.int c),V.d (ah t)])->Runs (aM (mkC L (n+3))) p_Rule.body σ (λk fl=>fl = .next/\∃ u:vk (vk OF),Has k [("count", .d (.int c))]/\k "full" = rg (.d (ah u),.deep)/\(∀ r,r∈u↔r∈t)/\∃ ks,u=bL ks/\ks.Nodup/\ks.length<=t.length):=λσ H=>by
  refine Runs.no ((c8 (lR (H.ev (x:="table") rfl)) (ao 0)).trans (by rw[P0 (λq=>ht (List.eq_nil_of_length_eq_zero (Jt q)))])) ?_
  refine Runs.for (g:=aa) (xs:=t) (λpre σ=>Has σ [("count", .d (.int c)),("table", .d (ah t))]) (aJ (H.ev (x:="table") rfl) (aX t .sh)) (λσ0 h _=>(h _ H).sub ⟨rfl,rfl,trivial⟩) ?_ ?_
  ·rintro pre y post hl' σ H
   have hy:y∈t:=by rw[hl']; simp
   have H1:=H.mk "choice" (.d (aa y))
   refine Runs.expr H1 (lF lib.need (ak (H1.ev (x:="count") rfl) (ak (H1.ev (x:="choice") rfl) aC)) rfl ((jg hNT c y (by have:=(hr y hy).1; exact sC this)).1 (hr y hy).2.good)) λk H' _=>Runs.nil (H'.sub ⟨rfl,rfl,trivial⟩)
  ·rintro σ H
   obtain ⟨m1,e1,_,_⟩:=ec (C:=aM (mkC L (n+3))) (σ:=σ) (g:=aa) (l:=t) (z:="choice") (it:=.e (.name "table")) (a:=.bi1 .sorted (.name "choice")) (λr=>r) .deep (aJ (H.ev rfl) (aX t .sh)) λr j=>t9 ((Has.nil.mk "choice" (.d (aa r))).ev rfl) (by have:=(hr r j).1; exact FX this) (λi hi=>((hr r j).2.2 i hi).1) (hr r j).2.1
   rw[TM] at e1
   obtain ⟨r,e2,v,MU,K⟩:=lQ (mkC L (n+2)) t (GO hl)
   subst MU
   refine Runs.set H (lF lib.known (ak e1 aC) rfl e2) λσ H hk=>?_
   rcases K with ⟨q,_⟩ | ⟨ks,rfl,k1,k2,k3⟩
   ·exact OW q ht
   have hne:ks.length<2\/[]∉ks:=by
    by_cases q:[]∈ks
    ·left
     have all:=nf.empty (λr j=>(hr r j).2) ((k2 _).mp q)
     rcases ks with _ | ⟨a,_ | ⟨b,ks⟩⟩
     ·simp
     ·simp
     ·have ha:=all a ((k2 a).mp (by simp))
      have hb:=all b ((k2 b).mp (by simp))
      (clear H e2 hk k1 k2 q; subst ha hb)
      simp at k3
    ·exact .inr q
   have h0:ks≠[]:=λq=>by
    refine aj (UM t ht) λa ha=>?_
    have:=(k2 a).mpr ha
    rw[q] at this; cases this
   have e3:ev (aM (mkC L (n+3))) (.bi1 .list (.name "known")) σ = .ok (.d (.list (ks.map aO)),fresh (ks.map aO)):=by
    rw[dJ (H.ev (x:="known") rfl)]
    show oC .list ks=_
    unfold oC
    rw[OD ⟨rfl,by unfold lim; exact Ew hl k1⟩]
   refine aj (qQ h0 (HO hl k1) hne) λm4 e4=>?_
   have e5:ev (aM (mkC L (n+3))) (.bi1 .sorted (.bi1 .list (.name "known"))) σ = .ok (.d (.list ((bL ks).map aO)),m4):=(dJ e3).trans e4
   refine aq (ec (C:=aM (mkC L (n+3))) (σ:=σ) (g:=aO) (l:=bL ks) (z:="choice") (it:=.e (.bi1 .sorted (.bi1 .list (.name "known")))) (a:=.bi1 .list (.name "choice")) (λr=>r) .deep (aJ e5 rfl) λr _=>(dJ ((Has.nil.mk "choice" (.d (aO r))).ev rfl)).trans (xO r)) λm6 e6 hm6 _=>?_
   rw[TM,hm6 rfl] at e6
   have m:∀ r,r∈bL ks↔r∈t:=λr=>((QA ks _).mem_iff).trans (k2 r)
   refine Runs.set H e6 λσ H hf=>?_
   have ef:=qR lib.toLib n c (bL ks) hc (by have:=(QA ks (λa b=>!ltL b a)).length_eq; show (bL ks).length<=_; unfold bL; exact Je hl k1 this) λr j o ho x hx hn z=>by
    have q:=hr r ((m r).mp j)
    exact mh _ r z x (OH q.1 (by decide)) (λi hi=>(q.2.2 i hi).1) ((hr o ((m o).mp ho)).2.2 x hx).1
   rw[fault_none.mpr (nf.set λr=>(m r).symm)] at ef
   refine Runs.no (bR (t:=Oz) (lF lib.fault (ak (H.ev (x:="count") rfl) (ak (H.ev (x:="full") rfl) aC)) rfl ef) jl rfl) ?_
   exact Runs.nil (aB rfl (bp (bL ks) (H.sub ⟨rfl,trivial⟩) hf m (aD ks rfl k3 k1)))
 refine af (da ["count", "table"] [V.d (.int c),V.d (ah t)] rfl) λσ hσ H=>?_
 obtain ⟨k,fl,he,MR,u,H',hu,hm,hks⟩:=p σ H
 subst MR
 obtain ⟨x,hx⟩:∃ x,u[0]? = rg x:=by
  cases u with
  | nil=>
   refine aj (UM t ht) λa ha=>?_
   have:=(hm a).mpr ha
   cases this
  | cons x u=>exact ⟨x,rfl⟩
 refine (bF u x ?_ hm hx hks)
 refine aj (H' "count" _ rfl) λmc hcnt=>?_
 unfold c6
 rw[show bw p_Rule.params [V.d (.int c),V.d (ah t)]=rg σ from hσ]
 dsimp only
 rw[he]
 simp only[Out.ok_bind]
 unfold fj
 rw[hcnt,hu]
 show (am ((u.map aa)[0]?) _)=_
 rw[PO,hx]
 show Out.ok (V.rule c (.list (u.map aa)) ((x.map O8).length:OF),Mode.deep)=_
 rw[OV]
 rfl
theorem Runs.setD (H:Has σ l) (he:ev C e σ = .ok r) (hd:r.2 = .deep) (k:∀ σ',Has σ' ((x,r.1)::l)->σ' x=rg r->(∀ y,y≠x->σ' y=σ y)->Runs C b σ' Post):Runs C (.cons (.assign x e) b) σ Post:=by
 refine Runs.cons (o:=(upd (consume σ (fv e) r.2) x r,.next)) (by simp only[dv,l7 he,Out.ok_bind]) (k _ ((H.consume _ _).upd x r.1 r.2) (OD rfl) λy g=>(OB g).trans ?_)
 unfold consume
 rw[OD hd]
noncomputable def ja:Fn:=⟨["_law_weights"],
(.cons (.assign "_law_row" (.list .nil))
(.cons (.for1 "_law_thing" (.r1 (.bi1 .len (.name "_law_weights")))
(.cons (.assign "_law_place" (.bi1 .len (.compif (.name "_law_one") "_law_one" (.e (.name "_law_row")) (.cmp .ge (.sub (.name "_law_weights") (.name "_law_one")) (.sub (.name "_law_weights") (.name "_law_thing"))))))
(.cons (.insert "_law_row" (.name "_law_place") (.name "_law_thing"))
.nil)))
(.cons (.retn "_law_row")
.nil)))⟩
theorem ln:∀ {l:vk OF},l.Pairwise (λa b=>P b=Gt->P a=Gt)->l.filter P=l.take (l.filter P).length/\∀ y∈l.drop (l.filter P).length,P y=Oz
 | [],_=>⟨rfl,λy h=>nomatch h⟩
 | a::l,h=>by
  have g:=S9.mp h
  by_cases q:P a=Gt
  ·obtain ⟨i,i2⟩:=ln g.2
   rw[List.filter_cons_of_pos q,Pz,List.take_succ_cons,Wf]
   exact ⟨RM _ i,i2⟩
  ·have e:l.filter P=[]:=Vy.mpr λb j p=>q (g.1 b j p)
   rw[List.filter_cons_of_neg q,e]
   refine ⟨rfl,λy hy=>?_⟩
   rcases O9.mp hy with rfl | hy
   ·exact Uw.mpr q
   ·exact Uw.mpr λp=>q (g.1 y hy p)
theorem Br {ws row:vk OF}{k:OF}(h:row.Pairwise (Bef ws)) (hk:∀ y∈row,y<k):(row.take (row.filter λy=>decide (wt ws k<=wt ws y)).length++k::row.drop (row.filter λy=>decide (wt ws k<=wt ws y)).length).Pairwise (Bef ws):=by
 obtain ⟨m,l⟩:=ln (P:=λy=>decide (wt ws k<=wt ws y)) (h.imp λ{a b} i p=>PK (Pi (Pp p) i.1))
 generalize v:(row.filter λy=>decide (wt ws k<=wt ws y)).length=n at m l ⊢
 have q:(row.take n++row.drop n).Pairwise (Bef ws):=by rw[Qw]; exact h
 obtain ⟨u,t,r⟩:=Qh.mp q
 refine Qh.mpr ⟨u,S9.mpr ⟨λy o=>?_,t⟩,λa j b hb=>?_⟩
 ·have:=Rt (l y o)
  exact ⟨by exact Kw this,λe=>by exact DP this e⟩
 ·rcases O9.mp hb with rfl | hb
  ·have g:=j
   rw[<- m] at g
   exact ⟨Pp (Qs.mp g).2,λ_=>QL (hk a (QW j))⟩
  ·exact r a j b hb
theorem y3 (h:0<=i/\i<ws.length):ws[i.toNat]? = rg (wt ws i):=by
 have:i.toNat<ws.length:=by exact As h
 rw[OY this]
 unfold wt
 rw[List.getD_eq_getElem?_getD,OY this]; rfl
theorem qK (C:Calls) (ws:vk OF) (hl:ws.length<=1000):aA C ja [.d (aa ws)] = .ok (.d (aa (bN ws)),.deep):=by
 unfold ja
 refine bX rfl λσ H=>?_
 refine Runs.set H lK λσ H j=>?_
 refine Runs.for (g:=O8) (xs:=aQ ws.length) (λl σ=>∃ i,Has σ [("_law_row", .d (aa i)),("_law_weights", .d (aa ws))]/\σ "_law_row" = rg (.d (aa i),.deep)/\i.Perm l/\i.Pairwise (Bef ws)) (bQ (cG (H.ev (x:="_law_weights") rfl)) (Lt hl (by decide))) (λσ0 h hh=>⟨[],(h _ H).sub ⟨rfl,rfl,trivial⟩,(hh _ (by simp[pM,rX,dO])).trans j,.refl _,.nil⟩) ?_ ?_
 ·intro l y post q σ hI
  obtain ⟨i,H,j,m,r⟩:=hI
  have H1:=H.mk "_law_thing" (.d (.int y))
  have o:upd σ "_law_thing" (mk (.d (.int y))) "_law_row" = _:=(OB (by decide)).trans j
  have p:=hJ ws.length
  rw[q] at p
  have u:∀ z∈i,z<y:=λz n=>(Qh.mp p).2.2 z (m.mem_iff.mp n) y (.head _)
  have hy:=mem_upTo.mp (show y∈aQ ws.length by rw[q]; simp)
  have hr:∀ z∈i,0<=z/\z<ws.length:=λz n=>mem_upTo.mp (by rw[q]; exact PC _ (m.mem_iff.mp n))
  have t:i.length<=ws.length:=by
   have:=br ws.length
   rw[q,O3] at this
   rw[m.length_eq]; exact DK this
  have v:(i.filter λz=>decide (wt ws y<=wt ws z)).length<=i.length:=Q1 ..
  have ep:=cG (dY (C:=C) (σ:=upd σ "_law_thing" (mk (.d (.int y)))) (z:="_law_one") (λz=>decide (wt ws y<=wt ws z)) (aJ (H1.ev (x:="_law_row") rfl) (bz i .sh)) λz n=>by
   have H2:=H1.upd "_law_one" (.d (.int z)) .deep
   exact Dm (fP (H2.ev (x:="_law_weights") rfl) (H2.ev (x:="_law_one") rfl) (hr z n).1 (y3 (hr z n))) (fP (H2.ev (x:="_law_weights") rfl) (H2.ev (x:="_law_thing") rfl) hy.1 (y3 hy)))
  refine Runs.setD H1 ep rfl λσ H2 _ kp=>?_
  refine Runs.ins H2 ((kp _ (by decide)).trans o) (by decide) (H2.ev (x:="_law_place") rfl) (H2.ev (x:="_law_thing") rfl) (Pv _) (IG v) (FN hl t) λσ H3 k=>Runs.nil ?_
  rw[TH] at H3 k
  exact ⟨_,H3.sub ⟨rfl,rfl,trivial⟩,k,(wG i _ y).trans ((m.cons y).trans (List.perm_append_singleton y l).symm),Br r u⟩
 ·intro σ hI
  obtain ⟨i,H,j,m,r⟩:=hI
  rw[Ct (m.trans (gP ws).symm) r (BD ws)] at j
  exact Runs.retn j rfl
noncomputable def ro:Fn:=⟨[],.nil⟩
noncomputable def ul:Fn:=⟨[],.nil⟩
noncomputable def uG:Fn:=⟨[],.nil⟩
noncomputable def oX:Fn:=⟨[],.nil⟩
noncomputable def rh:Fn:=⟨[],.nil⟩
noncomputable def xz:Fn:=⟨[],.nil⟩
noncomputable def lh:Fn:=⟨["_law_choice", "_law_things"],
(.cons (.for1 "_law_thing" (.e (.name "_law_things"))
(.cons (.ite (.cmp .notin (.name "_law_thing") (.name "_law_choice"))
(.cons (.ret (.bool Oz))
.nil)
.nil)
.nil))
(.cons (.ret (.bool Gt))
.nil))⟩
noncomputable def fe:Fn:=⟨["_law_table_here", "_law_things"],
(.cons (.for1 "_law_choice" (.e (.name "_law_table_here"))
(.cons (.ite (.call "_law_has" (.cons (.name "_law_choice") (.cons (.name "_law_things") .nil)))
(.cons (.ret (.bool Gt))
.nil)
.nil)
.nil))
(.cons (.ret (.bool Oz))
.nil))⟩
noncomputable def fG:Fn:=⟨["_law_rule", "_law_weights"],
(.cons (.tryS (.expr (.call "picked" (.cons (.name "_law_rule") (.cons (.name "_law_weights") .nil)))) "NoWeights" "e" [.asg "_law_other" (.or (.isE "e" "NoChoice") (.or (.isE "e" "NoThing") (.isE "e" "NoExchange"))),.ret (.and (.isE "e" "PickError") (.and (.not (.name "_law_other")) (.not (.isE "e" "NoRule"))))])
(.cons (.ret (.bool Oz))
.nil))⟩
noncomputable def iq:Fn:=⟨["_law_table_here", "_law_weights"],
(.cons (.assign "_law_kept_here" (.list .nil))
(.cons (.for1 "_law_thing" (.e (.call "_law_ranked" (.cons (.name "_law_weights") .nil)))
(.cons (.ite (.call "_law_together" (.cons (.name "_law_table_here") (.cons (.bin .add (.name "_law_kept_here") (.list (.cons (.name "_law_thing") .nil))) .nil)))
(.cons (.append "_law_kept_here" (.name "_law_thing"))
.nil)
.nil)
.nil))
(.cons (.ret (.bi1 .sorted (.name "_law_kept_here")))
.nil)))⟩
noncomputable def sA:Fn:=⟨["_law_script"],
(.cons (.assign "_law_made" (.call "_law_held" (.cons (.name "_law_script") .nil)))
(.cons (.assign "_law_count" (.sub (.name "_law_made") (.int 0)))
(.cons (.assign "_law_table_here" (.sub (.name "_law_made") (.int 1)))
(.cons (.assign "_law_rule" (.call "Rule" (.cons (.name "_law_count") (.cons (.name "_law_table_here") .nil))))
(.cons (.assign "_law_more" (.call "_law_cell_at" (.cons (.name "_law_script") (.cons (.int 3) .nil))))
(.cons (.assign "_law_weights" (.comp (.call "_law_weight" (.cons (.call "_law_cell_at" (.cons (.name "_law_script") (.cons (.bin .add (.int 13) (.name "_law_thing")) .nil))) (.cons (.bin .mod (.name "_law_more") (.int 4)) .nil))) "_law_thing" (.r1 (.name "_law_count"))))
(.cons (.ite (.cmp .eq (.bin .mod (.bin .fdiv (.name "_law_more") (.int 4)) (.int 8)) (.int 1))
(.cons (.ite (.or (.not (.call "_law_refused" (.cons (.name "_law_rule") (.cons (.bin .add (.name "_law_weights") (.list (.cons (.bin .mod (.name "_law_more") (.int 7)) .nil))) .nil)))) (.and (.cmp .ne (.name "_law_weights") (.list .nil)) (.not (.call "_law_refused" (.cons (.name "_law_rule") (.cons (.slo (.name "_law_weights") (.int 1)) .nil))))))
(.cons (.ret (.bool Oz))
.nil)
.nil)
.nil)
.nil)
(.cons (.assign "_law_due" (.call "_law_kept" (.cons (.name "_law_table_here") (.cons (.name "_law_weights") .nil))))
(.cons (.assign "_law_handed" (.bi1 .list (.name "_law_weights")))
(.cons (.assign "_law_found" (.call "picked" (.cons (.name "_law_rule") (.cons (.name "_law_handed") .nil))))
(.cons (.ite (.or (.cmp .ne (.name "_law_handed") (.name "_law_weights")) (.not (.call "_law_row_is" (.cons (.name "_law_found") (.cons (.name "_law_due") .nil)))))
(.cons (.ret (.bool Oz))
.nil)
.nil)
(.cons (.assign "_law_other" (.rev (.name "_law_weights")))
(.cons (.assign "_law_second" (.call "picked" (.cons (.name "_law_rule") (.cons (.bi1 .list (.name "_law_other")) .nil))))
(.cons (.ite (.or (.not (.call "_law_row_is" (.cons (.name "_law_second") (.cons (.call "_law_kept" (.cons (.name "_law_table_here") (.cons (.name "_law_other") .nil))) .nil)))) (.cmp .ne (.name "_law_found") (.name "_law_due")))
(.cons (.ret (.bool Oz))
.nil)
.nil)
(.cons (.append "_law_found" (.name "_law_count"))
(.cons (.ret (.and (.call "_law_row_is" (.cons (.call "picked" (.cons (.name "_law_rule") (.cons (.name "_law_handed") .nil))) (.cons (.name "_law_due") .nil))) (.cmp .eq (.name "_law_second") (.call "_law_kept" (.cons (.name "_law_table_here") (.cons (.name "_law_other") .nil))))))
.nil))))))))))))))))⟩
noncomputable def p_L:vk (Ot×Fn):=[("PickError", ro),("NoChoice", ul),("NoThing", uG),("NoExchange", oX),("NoWeights", rh),("NoRule", xz),("exchanged", p_exchanged),("known_of", p_known_of),("goes", p_goes),("fault", p_fault),("need_row", p_need_row),("Rule", p_Rule),("together", p_together),("rank", p_rank),("order", p_order),("picked", p_picked),("_law_cell_at", l_cell_at),("_law_whole", l_whole),("_law_bit", l_bit),("_law_row_is", iT),("_law_subsets", l_subsets),("_law_apart", l_apart),("_law_parts", l_parts),("_law_few", l_few),("_law_pairs_by", l_pairs_by),("_law_table", l_table),("_law_can", l_can),("_law_fault", l_fault),("_law_held", l_held),("_law_weight", iI),("_law_ranked", ja),("_law_has", lh),("_law_together", fe),("_law_refused", fG),("_law_kept", iq),("law", sA)]
theorem libH:LibH p_L:=⟨⟨rfl,rfl,rfl,rfl,rfl,rfl,rfl,rfl,rfl,rfl,rfl,rfl,rfl,rfl⟩,rfl,rfl⟩
theorem yl:LibR p_L:=⟨libH.toLib,rfl,rfl,⟨_,rfl⟩⟩
theorem libO:LibO p_L:=⟨⟨yl,rfl,rfl⟩,rfl,rfl,rfl,rfl⟩
theorem xi (C:Calls) (r xs:vk OF):aA C lh [.d (aa r),.d (aa xs)] = .ok (sB (xs.all λx=>decide (x∈r))):=by
 unfold lh
 refine bX rfl λi H=>?_
 refine Runs.seek (g:=O8) (xs:=xs) (λi=>Has i [("_law_choice", .d (aa r))]) (λx=>if x∈r then OC else rg ()) (λ_=>sB Oz) (aJ (H.ev (x:="_law_things") rfl) (bz xs .sh)) (λk h _=>(h _ H).sub ⟨rfl,trivial⟩) (λy n i H=>?_) (λq i H=>?_) λq m l=>?_
 ·have H1:=H.mk "_law_thing" (.d (.int y))
  refine Runs.ite (k9 (H1.ev (x:="_law_thing") rfl) (H1.ev (x:="_law_choice") rfl)) (λq=>?_) λq=>Runs.nil (Runs.nil (Sk.next (OD (by simpa using q)) (H1.sub ⟨rfl,trivial⟩)))
  exact Runs.ret (c7 Oz) (Cont.ret (Sk.ret (q:=()) (rv:=λ_=>sB Oz) (OB (by simpa using q))))
 ·have:(xs.all λx=>decide (x∈r))=true:=P9.mpr λx j=>by
   have:=QR.mp q x j
   by_cases e:x∈r
   ·exact PK e
   ·rw[OB e] at this; cases this
  rw[this]
  exact Runs.ret (c7 Gt) rfl
 ·have:(xs.all λx=>decide (x∈r))=false:=by
   obtain ⟨x,j,e⟩:=TN m
   refine Uw.mpr λa=>?_
   rw[OD (Pp (P9.mp a x j))] at e
   cases e
  rw[this]
theorem uK (n:ON) (t:vk (vk OF)) (xs:vk OF):aA (mkC p_L (n+1)) fe [.d (ah t),.d (aa xs)] = .ok (sB (jE t xs)):=by
 unfold fe jE
 refine bX rfl λi H=>?_
 refine Runs.seek (g:=aa) (xs:=t) (λi=>Has i [("_law_things", .d (aa xs))]) (λr=>if (xs.all λx=>decide (x∈r))=Gt then rg () else OC) (λ_=>sB Gt) (aJ (H.ev (x:="_law_table_here") rfl) (aX t .sh)) (λk h _=>(h _ H).sub ⟨rfl,trivial⟩) (λr j i H=>?_) (λq i H=>?_) λq m l=>?_
 ·have H1:=H.mk "_law_choice" (.d (aa r))
  refine Runs.ite (bY (show p_L.lookup "_law_has" = rg lh from rfl) (ak (H1.ev (x:="_law_choice") rfl) (ak (H1.ev (x:="_law_things") rfl) aC)) rfl (xi _ r xs)) (λq=>?_) λq=>Runs.nil (Runs.nil (Sk.next (OB (by rw[q]; decide)) (H1.sub ⟨rfl,trivial⟩)))
  exact Runs.ret (c7 Gt) (Cont.ret (Sk.ret (q:=()) (rv:=λ_=>sB Gt) (OD q)))
 ·have:(t.any λr=>xs.all λx=>decide (x∈r))=false:=List.any_eq_false.mpr λr j a=>by
   have:=QR.mp q r j
   rw[OD a] at this; cases this
  rw[this]
  exact Runs.ret (c7 Oz) rfl
 ·have:(t.any λr=>xs.all λx=>decide (x∈r))=true:=by
   obtain ⟨r,j,e⟩:=TN m
   refine TY.mpr ⟨r,j,?_⟩
   by_cases a:(xs.all λx=>decide (x∈r))=Gt
   ·exact a
   ·rw[OB a] at e; cases e
  rw[this]
theorem vO (n:ON) (t:vk (vk OF)) (ws:vk OF) (hw:ws.length<=100):aA (mkC p_L (n+2)) iq [.d (ah t),.d (aa ws)] = .ok (.d (aa (gW t ws)),.deep):=by
 unfold iq
 refine bX rfl λm H=>?_
 refine Runs.set H lK λm H o=>?_
 refine Runs.for (g:=O8) (xs:=bN ws) (λj m=>Has m [("_law_table_here", .d (ah t)),("_law_kept_here", .d (aa (aW t j)))]/\m "_law_kept_here" = rg (.d (aa (aW t j)),.deep)) (aJ (bY (show p_L.lookup "_law_ranked" = rg ja from rfl) (ak (H.ev (x:="_law_weights") rfl) aC) rfl (qK _ ws (sC hw))) (bz _ .deep)) (λz h hh=>⟨(h _ H).sub ⟨rfl,rfl,trivial⟩,(hh _ (by simp[fQ,kJ,jm,o9,dO])).trans o⟩) ?_ ?_
 ·intro j y v hl m u
  obtain ⟨H,o⟩:=u
  have r:(aW t j).Sublist (bN ws):=(dX t j).trans (by rw[hl]; exact Te _ _)
  have l:(aW t j).length<=100:=by have:=r.length_le; rw[dE] at this; exact IB hw this
  have H1:=H.mk "_law_thing" (.d (.int y))
  have k:upd m "_law_thing" (mk (.d (.int y))) "_law_kept_here" = rg (.d (aa (aW t j)),.deep):=(OB (by decide)).trans o
  refine Runs.ite (bY (show p_L.lookup "_law_together" = rg fe from rfl) (ak (H1.ev (x:="_law_table_here") rfl) (ak (dH (H1.ev (x:="_law_kept_here") rfl) (ei (H1.ev (x:="_law_thing") rfl)) (by simp; exact Ah l)) aC)) rfl (uK n t (aW t j++[y]))) (λq=>?_) λq=>Runs.nil (Runs.nil ?_)
  ·refine Runs.app H1 k (by decide) (H1.ev rfl) (zf l) λσ' H2 p _=>Runs.nil (Runs.nil ?_)
   have e:aW t (j++[y])=aW t j++[y]:=by rw[fJ]; unfold dK; rw[OD q]
   rw[e]
   exact ⟨H2.sub ⟨rfl,rfl,trivial⟩,p⟩
  ·have e:aW t (j++[y])=aW t j:=by rw[fJ]; unfold dK; rw[OB (by rw[q]; decide)]
   rw[e]
   exact ⟨H1.sub ⟨rfl,rfl,trivial⟩,k⟩
 ·intro m u
  have r:=dX t (bN ws)
  exact Runs.ret (jt (u.1.ev (x:="_law_kept_here") rfl) (by have:=r.length_le; rw[dE] at this; exact J4 hw this) λi hi=>(iY (r.subset hi)).1) rfl
theorem ot (n:ON) (c k:OF) (d:OU) (ws:vk OF) (hw:(ws.length:OF)≠c):aA (mkC p_L (n+2)) fG [.rule c d k,.d (aa ws)] = .ok (sB Gt):=by
 unfold fG
 refine bX rfl λg H=>?_
 have j:mkC p_L (n+2) "picked" = rg λi=>cy "picked" (mkC p_L (n+1)) p_picked i:=rfl
 have e:ev (mkC p_L (n+2)) (.call "picked" (.cons (.name "_law_rule") (.cons (.name "_law_weights") .nil))) g = .exc "NoWeights" := by
  rw[iv j (ak (H.ev (x:="_law_rule") rfl) (ak (H.ev (x:="_law_weights") rfl) aC))]
  exact sH libO n c k d ws hw
 refine Exists.elim ?h λo (ho:ex (mkC p_L (n+2)) _ g = .ok (o,.ret (sB Gt)))=>Runs.cons ho rfl
 rw[kP,eY,e]
 exact ⟨_,rfl⟩
theorem Da (ha:ev C a σ = .ok (.d (aa xs),m)):ev C (.rev a) σ = .ok (.d (aa xs.reverse),.deep):=by
 simp only[fU,ha,Out.ok_bind]
 show Out.ok (V.d (.list (xs.map O8).reverse),fresh (xs.map O8).reverse)=_
 rw[<- List.map_reverse,gY]; rfl
theorem yn (s:vk OF) (hs:s.length<=63):∃ m,aA (mkC p_L 8) sA [.d (aa s)] = .ok (.d (.bool Gt),m):=by
 refine ⟨.deep,?_⟩
 unfold sA
 refine bX rfl λσ H=>?_
 obtain ⟨oq,e1,c,t,hr,hd⟩:=ey (σ:=σ) (n:=7) libH.held (es:=.cons (.name "_law_script") .nil) (ak (H.ev rfl) aC) rfl (v9 libH 3 s hs)
 obtain ⟨rv,rm⟩:=oq
 cases hr
 have hc:c<=100:=hd.hc
 have hSr:∀ r∈t,Srt c r:=λr h=>(hd.rows r h).2
 refine Runs.set H e1 λσ H _=>?_
 refine Runs.set H (tx (m:=.sh) (H.ev (x:="_law_made") rfl) (ao 0)) λσ H _=>?_
 refine Runs.set H (uc (m:=.sh) (H.ev (x:="_law_made") rfl) (ao 1)) λσ H _=>?_
 clear e1
 obtain ⟨u,x,er,hm,hx,_⟩:=t0 yl 4 c t (by exact sC hc) hd.ne hd.len hd.rows hd.nf
 refine Runs.setD H (BQ yl (ak (H.ev (x:="_law_count") rfl) (ak (H.ev (x:="_law_table_here") rfl) aC)) rfl er) rfl λσ H _ _=>?_
 have hu:u≠[]:=λq=>by rw[q] at hx; cases hx
 have nU:∀ r∈u,r.Nodup:=λr h=>w5 (hSr r ((hm r).mp h)).1
 refine Runs.setD H (cj libH.toLib (H.ev (x:="_law_script") rfl) (ao 3) (by decide)) rfl λσ H _ _=>?_
 generalize bt s 3=more at H
 refine Runs.setD H (fR (g:=O8) (l:=aQ c) (λi=>jV (bt s (13+i)) (more%4)) (bQ (H.ev (x:="_law_count") rfl) (by exact JO hc)) λi hi=>?_) rfl λσ H _ _=>?_
 ·have H1:=H.mk "_law_thing" (.d (.int i))
  have:=mem_upTo.mp hi
  exact bY (show p_L.lookup "_law_weight" = rg iI from rfl) (ak (cj libH.toLib (H1.ev (x:="_law_script") rfl) (cN (ao 13) (H1.ev (x:="_law_thing") rfl)) (by exact GP this)) (ak (aY (H1.ev (x:="_law_more") rfl) (ao 4) (by decide)) aC)) rfl (re _ _ _)
 obtain ⟨ws,hws⟩:∃ ws,(aQ c).map (λi=>jV (bt s (13+i)) (more%4))=ws:=⟨_,rfl⟩
 rw[hws] at H
 have hwl:ws.length=c:=by rw[<- hws,OV,br]
 have H:=H.sub (l':=[("_law_weights", .d (aa ws)),("_law_rule", .rule c (ah u) x.length),("_law_table_here", .d (ah t)),("_law_count", .d (.int c)),("_law_more", .d (.int more))]) ⟨rfl,rfl,rfl,rfl,rfl,trivial⟩
 have rf:∀ {w:vk OF}{a:E}{m:Mode},ev (mkC p_L 8) a σ = .ok (.d (aa w),m)->w.length≠c->ev (mkC p_L 8) (.not (.call "_law_refused" (.cons (.name "_law_rule") (.cons a .nil)))) σ = .ok (sB Oz):=λ{w a m} ha hw=>fy (t:=Gt) (bY (show p_L.lookup "_law_refused" = rg fG from rfl) (ak (H.ev (x:="_law_rule") rfl) (ak ha aC)) rfl (ot 5 c x.length (ah u) w λq=>hw (by exact zE q)))
 refine Runs.iteTo (λσ=>Has σ [("_law_weights", .d (aa ws)),("_law_rule", .rule c (ah u) x.length),("_law_table_here", .d (ah t)),("_law_count", .d (.int c))]) (c8 (aY (fM (H.ev (x:="_law_more") rfl) (ao 4) (by decide) (by decide)) (ao 8) (by decide)) (ao 1)) (λ_=>?_) (λ_=>Runs.nil ⟨rfl,H.sub ⟨rfl,rfl,rfl,rfl,trivial⟩⟩) ?_
 ·refine Runs.no (gZ (p:=Oz) (q:=Oz) (rf (dH (H.ev (x:="_law_weights") rfl) (ei (aY (H.ev (x:="_law_more") rfl) (ao 7) (by decide))) (show ws.length+1<=1000000 by exact EB hc hwl)) (by rw[O3,O6]; exact Eo hwl)) λ_=>?_) (Runs.nil ⟨rfl,H.sub ⟨rfl,rfl,rfl,rfl,trivial⟩⟩)
  refine (gL (p:=!decide (ws=[])) (q:=Oz) (sR (H.ev (x:="_law_weights") rfl) lK) λq=>?_).trans (by rw[Yw])
  have hne:ws≠[]:=by simpa using q
  have hlp:0<ws.length:=SX.mpr hne
  exact rf ((CW (H.ev (x:="_law_weights") rfl) (ao 1)).trans (vD ws 1 (by decide))) (by rw[QU]; exact IS hwl hlp)
 clear H rf
 intro σ H
 have pe:∀ w,gW u w=gW t w:=λw=>by unfold gW; rw[qY hm]
 have pk:=λn (w:vk OF) (hw:w.length=c)=>qS libO n c x.length u w hu nU hc hw
 have pl:∀ w:vk OF,w.length=c->(gW t w).length<=1000:=λw hw=>by
  have:=(dX t (bN w)).length_le
  rw[dE] at this
  unfold gW
  rw[(lc _).length_eq]; exact DT hc hw this
 simp only[pe] at pk
 have hrl:ws.reverse.length=c:=by rw[We]; exact hwl
 have kp:=λ(w:vk OF) (hw:w.length=c)=>vO 5 t w (by exact Ik hc hw)
 refine Runs.setD H (bY (show p_L.lookup "_law_kept" = rg iq from rfl) (ak (H.ev (x:="_law_table_here") rfl) (ak (H.ev (x:="_law_weights") rfl) aC)) rfl (kp ws hwl)) rfl λσ H _ _=>?_
 refine Runs.setD H (lH (H.ev (x:="_law_weights") rfl)) rfl λσ H _ _=>?_
 refine Runs.setD H (bY libO.picked (ak (H.ev (x:="_law_rule") rfl) (ak (H.ev (x:="_law_handed") rfl) aC)) rfl (pk 3 ws hwl)) rfl λσ H hf _=>?_
 have ri:∀ {σ:St}{a b:E}{w:vk OF}{m m':Mode},w.length<=1000->ev (mkC p_L 8) a σ = .ok (.d (aa w),m)->ev (mkC p_L 8) b σ = .ok (.d (aa w),m')->ev (mkC p_L 8) (.call "_law_row_is" (.cons a (.cons b .nil))) σ = .ok (sB Gt):=λhl ha hb=>bY (show p_L.lookup "_law_row_is" = rg iT from rfl) (ak ha (ak hb aC)) rfl (qP libH.toLib 6 _ hl)
 refine Runs.no (gZ (p:=Oz) (q:=Oz) ((sR (H.ev (x:="_law_handed") rfl) (H.ev (x:="_law_weights") rfl)).trans (by simp)) λ_=>fy (t:=Gt) (ri (pl ws hwl) (H.ev (x:="_law_found") rfl) (H.ev (x:="_law_due") rfl))) ?_
 refine Runs.setD H (Da (H.ev (x:="_law_weights") rfl)) rfl λσ H _ kp'=>?_
 replace hf:=(kp' _ (by decide)).trans hf
 clear kp'
 refine Runs.setD H (bY libO.picked (ak (H.ev (x:="_law_rule") rfl) (ak (lH (H.ev (x:="_law_other") rfl)) aC)) rfl (pk 3 _ hrl)) rfl λσ H _ kp'=>?_
 replace hf:=(kp' _ (by decide)).trans hf
 clear kp'
 have ko:∀ {σ:St}{l:vk (Ot×V)},Has σ l->l.lookup "_law_table_here" = rg (.d (ah t))->l.lookup "_law_other" = rg (.d (aa ws.reverse))->ev (mkC p_L 8) (.call "_law_kept" (.cons (.name "_law_table_here") (.cons (.name "_law_other") .nil))) σ = .ok (.d (aa (gW t ws.reverse)),.deep):=λH a b=>bY (show p_L.lookup "_law_kept" = rg iq from rfl) (ak (H.ev a) (ak (H.ev b) aC)) rfl (kp _ hrl)
 refine Runs.no (gZ (p:=Oz) (q:=Oz) (fy (t:=Gt) (ri (pl _ hrl) (H.ev (x:="_law_second") rfl) (ko H rfl rfl))) λ_=>(sR (H.ev (x:="_law_found") rfl) (H.ev (x:="_law_due") rfl)).trans (by simp)) ?_
 have plw:=pl ws hwl
 refine Runs.app H hf (by decide) (H.ev (x:="_law_count") rfl) (by exact Kv plw) λσ H _ _=>?_
 exact Runs.ret (gL (p:=Gt) (q:=Gt) (ri plw (bY libO.picked (ak (H.ev (x:="_law_rule") rfl) (ak (H.ev (x:="_law_handed") rfl) aC)) rfl (pk 3 ws hwl)) (H.ev (x:="_law_due") rfl)) λ_=>(zw (H.ev (x:="_law_second") rfl) (ko H rfl rfl)).trans (by simp)) rfl
open PySem.W
theorem Bl:(defOf zvw (XN RP).name).isSome=true:=by kernel_rfl
noncomputable def dw:=(defOf zvw (XN RP).name).get Bl
theorem AZ:dw.1.name=mL "law" := by kernel_rfl
theorem zex:bn p_L=aE:=by kernel_rfl
theorem zt1:xP zvw []=true:=by kernel_rfl
theorem zt2:(fW zvw []).isSome=true:=by kernel_rfl
theorem zt3:l9 zvw [] p_L=true:=by kernel_rfl
theorem zt5:defOf zvw (XN RP).name=some (dw.1,dw.2):=by kernel_rfl
theorem zt6:zrw.prog.theDef (XN RP).name=some (dw.1.params,dw.1.body,dw.1.scope):=by kernel_rfl
theorem zt7:kwWritten? dw.1.params.kwonlyargs dw.1.params.kw_defaults=some dw.2:=by kernel_rfl
end Internal
set_option tactic.hygienic true
open PySem PySem.W PyProof.Rows
set_option maxRecDepth 100000
set_option maxHeartbeats 8000000
theorem PySem.Challenge.cw_uf050037_07_holds : PySem.Challenge.rw_uf050037_07.Holds := by
  w_on
  refine holds_law (by
    unfold OpenLaw.wellSaid
    iterate 18 (refine look_both ?_ ?_)
    · unfold OpenRow.wellSaid
      iterate 2 (refine look_both ?_ ?_)
      · unfold OpenRow.partSaid
        iterate 12 (refine look_both ?_ ?_)
        · unfold looksOpen
          iterate 5 (refine look_both ?_ ?_)
          all_goals decide +kernel
        all_goals decide +kernel
      all_goals decide +kernel
    all_goals decide +kernel) fun said=>?_
  refine holds_open (q:=Internal.zvw) (loose:=[]) (Xt:=Internal.zxw) (XP:=XL Internal.zvw []) (Yf:=Hook.obs Internal.zhk) (Ya:=Hook.val Internal.zhk) (YP:=Hook.says Internal.zhk) (d:=Internal.dw.1) (kwd:=Internal.dw.2) (N:=5000) Internal.zt4 (Hook.of Internal.zhk) (Hook.keeps Internal.zhk) (fun s e=>xl_of s (Bool.and_eq_true_iff.mp e).1) XL.keeps Internal.zt5 Internal.zt6 Internal.zt7 (fun s e=>recFacts_of (Bool.and_eq_true_iff.mp e).2) (by rfl) (by assumption) (by decide +kernel) ⟨rfl,rfl,rfl,rfl,rfl,by decide +kernel⟩ ?hw ?hc
  case hw=>w_witness2
  intro w s₀ s₁ mg mb G Y fa o pm cd doc dV kV ho hd hcd hD hmg hg args vals as hpre hlay hrd hwl hlo
  refine Ground.open G ?_
  intro T B D TE TW
  clear hd hcd hD
  rw [Internal.AZ] at hmg
  wrow_args hpre hlay hrd hwl hlo
  rename_i ns _ _ _ _ _ _ _ a vs _ hL ra w1 r0 hI hr hc1 hc2
  have e:=Internal.tL (by simpa only [ofPy] using w1) hL
  obtain ⟨m,hsp⟩:=Internal.yn ns (by omega)
  refine Internal.wR (n:=8) (ns:=ns) T TE (Internal.zex.symm ▸ Y) (L:=Internal.p_L) Internal.zt3 Internal.zt1 Internal.zt2 rfl (.inr (by decide)) rfl hmg (by decide) hsp e hI (by omega) fun h' tk kk=>?_
  refine ⟨.inl ⟨_,.bool true,[],rfl,?_,?_,?_,?_⟩,kk,rfl,.of_eq hg⟩
  · intro cls; first | rfl | exact raisesW_false allW_false_nil
  · exact .bool true
  · wrow_post
  · exact fun _=>⟨.nil,fun _ h=>nomatch h⟩
